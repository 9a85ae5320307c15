/- Part of a proof: ZzNw. -/
import Derived.Test.YtmcocdbkonefjaaGreatDoorProg
import Derived.WalkKit
import Derived.Handy
import Derived.Test.YtmcocdbkonefjaaGreatDoorVG
set_option linter.unusedSimpArgs false
set_option linter.unusedVariables false
set_option linter.unusedSectionVars false
namespace Go.Vm
open Go Go.Proofs Go.RowKit
theorem nw_make (w:World):(Instr.makeSlice 52 (.int .i64 3) (.int .i64 3)).run Tryz.prog w = .ok (.slice (some ⟨w.heap.size,0,none⟩) 3 3)
  (w.alloc (.cells #[.int .u64 0, .int .u64 0, .int .u64 0, .int .u64 0, .int .u64 0, .int .u64 0] 85)):=by kernel_rfl
set_option maxHeartbeats 4000000 in
set_option maxRecDepth 20000 in
theorem nw_walk (w:World):Calls Tryz.prog 115 #[.int .i64 3] w fun e w'=>
  e = .returned (.tuple #[.slice (some ⟨w.heap.size,0,none⟩) 3 3, .int .i64 0])∧w'=w.alloc (.cells #[.int .u64 0, .int .u64 0, .int .u64 0, .int .u64 0, .int .u64 0, .int .u64 0] 85):=by
 have hm:=nw_make w
 go_enter Tryz.func115,Tryz.ntmps115
 go_wp2
 go_returns
 exact ⟨rfl,rfl⟩
end Go.Vm
