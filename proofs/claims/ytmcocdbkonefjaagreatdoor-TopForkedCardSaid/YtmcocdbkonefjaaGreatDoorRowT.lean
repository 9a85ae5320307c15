/- TopForked returns true and panics never: the law's own call, worked out in full. No condition. -/
import Derived.Test.YtmcocdbkonefjaaGreatDoorRowA
import Derived.Test.YtmcocdbkonefjaaGreatDoorRowK
import Derived.Test.YtmcocdbkonefjaaGreatDoorTie
import Derived.KernelRfl
set_option linter.unusedSimpArgs false
set_option linter.unusedVariables false
set_option linter.unusedSectionVars false
namespace Go.Proofs.YtmcocdbkonefjaaGreatDoor.rowTop
open Go
set_option maxRecDepth 100000
theorem card:Rows.TopForkedCardSaid:=
 Claim7.holds_tied_plain_at .later [] _ _ _ _ said (fun _ h=>by cases h) cw (fun _ h=>by cases h) topForked_row_tie rfl ⟨rfl,rfl⟩ cm rfl plain cg
end Go.Proofs.YtmcocdbkonefjaaGreatDoor.rowTop
