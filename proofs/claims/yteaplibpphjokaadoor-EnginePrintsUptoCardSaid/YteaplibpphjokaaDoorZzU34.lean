/- Part of a proof: ZzU34. -/
import Derived.Test.YteaplibpphjokaaDoorZzSp3
import Derived.Test.YteaplibpphjokaaDoorVE
set_option linter.unusedSimpArgs false
set_option linter.unusedVariables false
set_option linter.unusedSectionVars false
namespace Go.Vm
open Go (IntKind Fn)
set_option maxHeartbeats 0
noncomputable def S34 : Nat → Sp := fun g => spN
noncomputable def f34_sem : List AV → List HO → Res := semU cx (ann34x FU) Go.Proofs.Tryd.f34 S34
noncomputable def f34_e (x0 : Int) (x1 : Int) (x2 : List UInt8) : Res :=
      bIte (!x0 == 1) (
      bIte (!x0 == 2) (
      bIte (!x0 == 3) (
      bIte (!x0 == 4) (
      Res.ret (AV.I IntKind.i64 40) ([])) (
      bIte (x0 == 1) (
      bIte (decide (x1 < 0)) (
      Res.ret (AV.I IntKind.i64 41) ([])) (
      bIte (decide (x1 ≥ 1024)) (
      Res.ret (AV.I IntKind.i64 41) ([])) (
      bIte (x0 == 2) (
      bIte (x1 != 0) (
      Res.ret (AV.I IntKind.i64 41) ([])) (
      bIte (x0 == 1) (
      bIte (decide ((↑(List.length x2) : Int) > 64)) (
      Res.ret (AV.I IntKind.i64 42) ([])) (
      bIte (x0 == 3) (
      bIte (!x2 == []) (
      Res.ret (AV.I IntKind.i64 42) ([])) (
      Res.ret (AV.I IntKind.i64 0) ([]))) (
      bIte (x0 == 4) (
      bIte (!x2 == []) (
      Res.ret (AV.I IntKind.i64 42) ([])) (
      Res.ret (AV.I IntKind.i64 0) ([]))) (
      Res.ret (AV.I IntKind.i64 0) ([]))))) (
      bIte (x0 == 2) (
      bIte (decide ((↑(List.length x2) : Int) > 64)) (
      Res.ret (AV.I IntKind.i64 42) ([])) (
      bIte (x0 == 3) (
      bIte (!x2 == []) (
      Res.ret (AV.I IntKind.i64 42) ([])) (
      Res.ret (AV.I IntKind.i64 0) ([]))) (
      bIte (x0 == 4) (
      bIte (!x2 == []) (
      Res.ret (AV.I IntKind.i64 42) ([])) (
      Res.ret (AV.I IntKind.i64 0) ([]))) (
      Res.ret (AV.I IntKind.i64 0) ([]))))) (
      bIte (x0 == 3) (
      bIte (!x2 == []) (
      Res.ret (AV.I IntKind.i64 42) ([])) (
      Res.ret (AV.I IntKind.i64 0) ([]))) (
      bIte (x0 == 4) (
      bIte (!x2 == []) (
      Res.ret (AV.I IntKind.i64 42) ([])) (
      Res.ret (AV.I IntKind.i64 0) ([]))) (
      Res.ret (AV.I IntKind.i64 0) ([]))))))) (
      bIte (x0 == 4) (
      bIte (x1 != 0) (
      Res.ret (AV.I IntKind.i64 41) ([])) (
      bIte (x0 == 1) (
      bIte (decide ((↑(List.length x2) : Int) > 64)) (
      Res.ret (AV.I IntKind.i64 42) ([])) (
      bIte (x0 == 3) (
      bIte (!x2 == []) (
      Res.ret (AV.I IntKind.i64 42) ([])) (
      Res.ret (AV.I IntKind.i64 0) ([]))) (
      bIte (x0 == 4) (
      bIte (!x2 == []) (
      Res.ret (AV.I IntKind.i64 42) ([])) (
      Res.ret (AV.I IntKind.i64 0) ([]))) (
      Res.ret (AV.I IntKind.i64 0) ([]))))) (
      bIte (x0 == 2) (
      bIte (decide ((↑(List.length x2) : Int) > 64)) (
      Res.ret (AV.I IntKind.i64 42) ([])) (
      bIte (x0 == 3) (
      bIte (!x2 == []) (
      Res.ret (AV.I IntKind.i64 42) ([])) (
      Res.ret (AV.I IntKind.i64 0) ([]))) (
      bIte (x0 == 4) (
      bIte (!x2 == []) (
      Res.ret (AV.I IntKind.i64 42) ([])) (
      Res.ret (AV.I IntKind.i64 0) ([]))) (
      Res.ret (AV.I IntKind.i64 0) ([]))))) (
      bIte (x0 == 3) (
      bIte (!x2 == []) (
      Res.ret (AV.I IntKind.i64 42) ([])) (
      Res.ret (AV.I IntKind.i64 0) ([]))) (
      bIte (x0 == 4) (
      bIte (!x2 == []) (
      Res.ret (AV.I IntKind.i64 42) ([])) (
      Res.ret (AV.I IntKind.i64 0) ([]))) (
      Res.ret (AV.I IntKind.i64 0) ([]))))))) (
      bIte (x0 == 1) (
      bIte (decide ((↑(List.length x2) : Int) > 64)) (
      Res.ret (AV.I IntKind.i64 42) ([])) (
      bIte (x0 == 3) (
      bIte (!x2 == []) (
      Res.ret (AV.I IntKind.i64 42) ([])) (
      Res.ret (AV.I IntKind.i64 0) ([]))) (
      bIte (x0 == 4) (
      bIte (!x2 == []) (
      Res.ret (AV.I IntKind.i64 42) ([])) (
      Res.ret (AV.I IntKind.i64 0) ([]))) (
      Res.ret (AV.I IntKind.i64 0) ([]))))) (
      bIte (x0 == 2) (
      bIte (decide ((↑(List.length x2) : Int) > 64)) (
      Res.ret (AV.I IntKind.i64 42) ([])) (
      bIte (x0 == 3) (
      bIte (!x2 == []) (
      Res.ret (AV.I IntKind.i64 42) ([])) (
      Res.ret (AV.I IntKind.i64 0) ([]))) (
      bIte (x0 == 4) (
      bIte (!x2 == []) (
      Res.ret (AV.I IntKind.i64 42) ([])) (
      Res.ret (AV.I IntKind.i64 0) ([]))) (
      Res.ret (AV.I IntKind.i64 0) ([]))))) (
      bIte (x0 == 3) (
      bIte (!x2 == []) (
      Res.ret (AV.I IntKind.i64 42) ([])) (
      Res.ret (AV.I IntKind.i64 0) ([]))) (
      bIte (x0 == 4) (
      bIte (!x2 == []) (
      Res.ret (AV.I IntKind.i64 42) ([])) (
      Res.ret (AV.I IntKind.i64 0) ([]))) (
      Res.ret (AV.I IntKind.i64 0) ([])))))))))) (
      bIte (x0 == 3) (
      bIte (decide (x1 < 0)) (
      Res.ret (AV.I IntKind.i64 41) ([])) (
      bIte (decide (x1 ≥ 1024)) (
      Res.ret (AV.I IntKind.i64 41) ([])) (
      bIte (x0 == 2) (
      bIte (x1 != 0) (
      Res.ret (AV.I IntKind.i64 41) ([])) (
      bIte (x0 == 1) (
      bIte (decide ((↑(List.length x2) : Int) > 64)) (
      Res.ret (AV.I IntKind.i64 42) ([])) (
      bIte (x0 == 3) (
      bIte (!x2 == []) (
      Res.ret (AV.I IntKind.i64 42) ([])) (
      Res.ret (AV.I IntKind.i64 0) ([]))) (
      bIte (x0 == 4) (
      bIte (!x2 == []) (
      Res.ret (AV.I IntKind.i64 42) ([])) (
      Res.ret (AV.I IntKind.i64 0) ([]))) (
      Res.ret (AV.I IntKind.i64 0) ([]))))) (
      bIte (x0 == 2) (
      bIte (decide ((↑(List.length x2) : Int) > 64)) (
      Res.ret (AV.I IntKind.i64 42) ([])) (
      bIte (x0 == 3) (
      bIte (!x2 == []) (
      Res.ret (AV.I IntKind.i64 42) ([])) (
      Res.ret (AV.I IntKind.i64 0) ([]))) (
      bIte (x0 == 4) (
      bIte (!x2 == []) (
      Res.ret (AV.I IntKind.i64 42) ([])) (
      Res.ret (AV.I IntKind.i64 0) ([]))) (
      Res.ret (AV.I IntKind.i64 0) ([]))))) (
      bIte (x0 == 3) (
      bIte (!x2 == []) (
      Res.ret (AV.I IntKind.i64 42) ([])) (
      Res.ret (AV.I IntKind.i64 0) ([]))) (
      bIte (x0 == 4) (
      bIte (!x2 == []) (
      Res.ret (AV.I IntKind.i64 42) ([])) (
      Res.ret (AV.I IntKind.i64 0) ([]))) (
      Res.ret (AV.I IntKind.i64 0) ([]))))))) (
      bIte (x0 == 4) (
      bIte (x1 != 0) (
      Res.ret (AV.I IntKind.i64 41) ([])) (
      bIte (x0 == 1) (
      bIte (decide ((↑(List.length x2) : Int) > 64)) (
      Res.ret (AV.I IntKind.i64 42) ([])) (
      bIte (x0 == 3) (
      bIte (!x2 == []) (
      Res.ret (AV.I IntKind.i64 42) ([])) (
      Res.ret (AV.I IntKind.i64 0) ([]))) (
      bIte (x0 == 4) (
      bIte (!x2 == []) (
      Res.ret (AV.I IntKind.i64 42) ([])) (
      Res.ret (AV.I IntKind.i64 0) ([]))) (
      Res.ret (AV.I IntKind.i64 0) ([]))))) (
      bIte (x0 == 2) (
      bIte (decide ((↑(List.length x2) : Int) > 64)) (
      Res.ret (AV.I IntKind.i64 42) ([])) (
      bIte (x0 == 3) (
      bIte (!x2 == []) (
      Res.ret (AV.I IntKind.i64 42) ([])) (
      Res.ret (AV.I IntKind.i64 0) ([]))) (
      bIte (x0 == 4) (
      bIte (!x2 == []) (
      Res.ret (AV.I IntKind.i64 42) ([])) (
      Res.ret (AV.I IntKind.i64 0) ([]))) (
      Res.ret (AV.I IntKind.i64 0) ([]))))) (
      bIte (x0 == 3) (
      bIte (!x2 == []) (
      Res.ret (AV.I IntKind.i64 42) ([])) (
      Res.ret (AV.I IntKind.i64 0) ([]))) (
      bIte (x0 == 4) (
      bIte (!x2 == []) (
      Res.ret (AV.I IntKind.i64 42) ([])) (
      Res.ret (AV.I IntKind.i64 0) ([]))) (
      Res.ret (AV.I IntKind.i64 0) ([]))))))) (
      bIte (x0 == 1) (
      bIte (decide ((↑(List.length x2) : Int) > 64)) (
      Res.ret (AV.I IntKind.i64 42) ([])) (
      bIte (x0 == 3) (
      bIte (!x2 == []) (
      Res.ret (AV.I IntKind.i64 42) ([])) (
      Res.ret (AV.I IntKind.i64 0) ([]))) (
      bIte (x0 == 4) (
      bIte (!x2 == []) (
      Res.ret (AV.I IntKind.i64 42) ([])) (
      Res.ret (AV.I IntKind.i64 0) ([]))) (
      Res.ret (AV.I IntKind.i64 0) ([]))))) (
      bIte (x0 == 2) (
      bIte (decide ((↑(List.length x2) : Int) > 64)) (
      Res.ret (AV.I IntKind.i64 42) ([])) (
      bIte (x0 == 3) (
      bIte (!x2 == []) (
      Res.ret (AV.I IntKind.i64 42) ([])) (
      Res.ret (AV.I IntKind.i64 0) ([]))) (
      bIte (x0 == 4) (
      bIte (!x2 == []) (
      Res.ret (AV.I IntKind.i64 42) ([])) (
      Res.ret (AV.I IntKind.i64 0) ([]))) (
      Res.ret (AV.I IntKind.i64 0) ([]))))) (
      bIte (x0 == 3) (
      bIte (!x2 == []) (
      Res.ret (AV.I IntKind.i64 42) ([])) (
      Res.ret (AV.I IntKind.i64 0) ([]))) (
      bIte (x0 == 4) (
      bIte (!x2 == []) (
      Res.ret (AV.I IntKind.i64 42) ([])) (
      Res.ret (AV.I IntKind.i64 0) ([]))) (
      Res.ret (AV.I IntKind.i64 0) ([])))))))))) (
      bIte (x0 == 2) (
      bIte (x1 != 0) (
      Res.ret (AV.I IntKind.i64 41) ([])) (
      bIte (x0 == 1) (
      bIte (decide ((↑(List.length x2) : Int) > 64)) (
      Res.ret (AV.I IntKind.i64 42) ([])) (
      bIte (x0 == 3) (
      bIte (!x2 == []) (
      Res.ret (AV.I IntKind.i64 42) ([])) (
      Res.ret (AV.I IntKind.i64 0) ([]))) (
      bIte (x0 == 4) (
      bIte (!x2 == []) (
      Res.ret (AV.I IntKind.i64 42) ([])) (
      Res.ret (AV.I IntKind.i64 0) ([]))) (
      Res.ret (AV.I IntKind.i64 0) ([]))))) (
      bIte (x0 == 2) (
      bIte (decide ((↑(List.length x2) : Int) > 64)) (
      Res.ret (AV.I IntKind.i64 42) ([])) (
      bIte (x0 == 3) (
      bIte (!x2 == []) (
      Res.ret (AV.I IntKind.i64 42) ([])) (
      Res.ret (AV.I IntKind.i64 0) ([]))) (
      bIte (x0 == 4) (
      bIte (!x2 == []) (
      Res.ret (AV.I IntKind.i64 42) ([])) (
      Res.ret (AV.I IntKind.i64 0) ([]))) (
      Res.ret (AV.I IntKind.i64 0) ([]))))) (
      bIte (x0 == 3) (
      bIte (!x2 == []) (
      Res.ret (AV.I IntKind.i64 42) ([])) (
      Res.ret (AV.I IntKind.i64 0) ([]))) (
      bIte (x0 == 4) (
      bIte (!x2 == []) (
      Res.ret (AV.I IntKind.i64 42) ([])) (
      Res.ret (AV.I IntKind.i64 0) ([]))) (
      Res.ret (AV.I IntKind.i64 0) ([]))))))) (
      bIte (x0 == 4) (
      bIte (x1 != 0) (
      Res.ret (AV.I IntKind.i64 41) ([])) (
      bIte (x0 == 1) (
      bIte (decide ((↑(List.length x2) : Int) > 64)) (
      Res.ret (AV.I IntKind.i64 42) ([])) (
      bIte (x0 == 3) (
      bIte (!x2 == []) (
      Res.ret (AV.I IntKind.i64 42) ([])) (
      Res.ret (AV.I IntKind.i64 0) ([]))) (
      bIte (x0 == 4) (
      bIte (!x2 == []) (
      Res.ret (AV.I IntKind.i64 42) ([])) (
      Res.ret (AV.I IntKind.i64 0) ([]))) (
      Res.ret (AV.I IntKind.i64 0) ([]))))) (
      bIte (x0 == 2) (
      bIte (decide ((↑(List.length x2) : Int) > 64)) (
      Res.ret (AV.I IntKind.i64 42) ([])) (
      bIte (x0 == 3) (
      bIte (!x2 == []) (
      Res.ret (AV.I IntKind.i64 42) ([])) (
      Res.ret (AV.I IntKind.i64 0) ([]))) (
      bIte (x0 == 4) (
      bIte (!x2 == []) (
      Res.ret (AV.I IntKind.i64 42) ([])) (
      Res.ret (AV.I IntKind.i64 0) ([]))) (
      Res.ret (AV.I IntKind.i64 0) ([]))))) (
      bIte (x0 == 3) (
      bIte (!x2 == []) (
      Res.ret (AV.I IntKind.i64 42) ([])) (
      Res.ret (AV.I IntKind.i64 0) ([]))) (
      bIte (x0 == 4) (
      bIte (!x2 == []) (
      Res.ret (AV.I IntKind.i64 42) ([])) (
      Res.ret (AV.I IntKind.i64 0) ([]))) (
      Res.ret (AV.I IntKind.i64 0) ([]))))))) (
      bIte (x0 == 1) (
      bIte (decide ((↑(List.length x2) : Int) > 64)) (
      Res.ret (AV.I IntKind.i64 42) ([])) (
      bIte (x0 == 3) (
      bIte (!x2 == []) (
      Res.ret (AV.I IntKind.i64 42) ([])) (
      Res.ret (AV.I IntKind.i64 0) ([]))) (
      bIte (x0 == 4) (
      bIte (!x2 == []) (
      Res.ret (AV.I IntKind.i64 42) ([])) (
      Res.ret (AV.I IntKind.i64 0) ([]))) (
      Res.ret (AV.I IntKind.i64 0) ([]))))) (
      bIte (x0 == 2) (
      bIte (decide ((↑(List.length x2) : Int) > 64)) (
      Res.ret (AV.I IntKind.i64 42) ([])) (
      bIte (x0 == 3) (
      bIte (!x2 == []) (
      Res.ret (AV.I IntKind.i64 42) ([])) (
      Res.ret (AV.I IntKind.i64 0) ([]))) (
      bIte (x0 == 4) (
      bIte (!x2 == []) (
      Res.ret (AV.I IntKind.i64 42) ([])) (
      Res.ret (AV.I IntKind.i64 0) ([]))) (
      Res.ret (AV.I IntKind.i64 0) ([]))))) (
      bIte (x0 == 3) (
      bIte (!x2 == []) (
      Res.ret (AV.I IntKind.i64 42) ([])) (
      Res.ret (AV.I IntKind.i64 0) ([]))) (
      bIte (x0 == 4) (
      bIte (!x2 == []) (
      Res.ret (AV.I IntKind.i64 42) ([])) (
      Res.ret (AV.I IntKind.i64 0) ([]))) (
      Res.ret (AV.I IntKind.i64 0) ([]))))))))))) (
      bIte (x0 == 1) (
      bIte (decide (x1 < 0)) (
      Res.ret (AV.I IntKind.i64 41) ([])) (
      bIte (decide (x1 ≥ 1024)) (
      Res.ret (AV.I IntKind.i64 41) ([])) (
      bIte (x0 == 2) (
      bIte (x1 != 0) (
      Res.ret (AV.I IntKind.i64 41) ([])) (
      bIte (x0 == 1) (
      bIte (decide ((↑(List.length x2) : Int) > 64)) (
      Res.ret (AV.I IntKind.i64 42) ([])) (
      bIte (x0 == 3) (
      bIte (!x2 == []) (
      Res.ret (AV.I IntKind.i64 42) ([])) (
      Res.ret (AV.I IntKind.i64 0) ([]))) (
      bIte (x0 == 4) (
      bIte (!x2 == []) (
      Res.ret (AV.I IntKind.i64 42) ([])) (
      Res.ret (AV.I IntKind.i64 0) ([]))) (
      Res.ret (AV.I IntKind.i64 0) ([]))))) (
      bIte (x0 == 2) (
      bIte (decide ((↑(List.length x2) : Int) > 64)) (
      Res.ret (AV.I IntKind.i64 42) ([])) (
      bIte (x0 == 3) (
      bIte (!x2 == []) (
      Res.ret (AV.I IntKind.i64 42) ([])) (
      Res.ret (AV.I IntKind.i64 0) ([]))) (
      bIte (x0 == 4) (
      bIte (!x2 == []) (
      Res.ret (AV.I IntKind.i64 42) ([])) (
      Res.ret (AV.I IntKind.i64 0) ([]))) (
      Res.ret (AV.I IntKind.i64 0) ([]))))) (
      bIte (x0 == 3) (
      bIte (!x2 == []) (
      Res.ret (AV.I IntKind.i64 42) ([])) (
      Res.ret (AV.I IntKind.i64 0) ([]))) (
      bIte (x0 == 4) (
      bIte (!x2 == []) (
      Res.ret (AV.I IntKind.i64 42) ([])) (
      Res.ret (AV.I IntKind.i64 0) ([]))) (
      Res.ret (AV.I IntKind.i64 0) ([]))))))) (
      bIte (x0 == 4) (
      bIte (x1 != 0) (
      Res.ret (AV.I IntKind.i64 41) ([])) (
      bIte (x0 == 1) (
      bIte (decide ((↑(List.length x2) : Int) > 64)) (
      Res.ret (AV.I IntKind.i64 42) ([])) (
      bIte (x0 == 3) (
      bIte (!x2 == []) (
      Res.ret (AV.I IntKind.i64 42) ([])) (
      Res.ret (AV.I IntKind.i64 0) ([]))) (
      bIte (x0 == 4) (
      bIte (!x2 == []) (
      Res.ret (AV.I IntKind.i64 42) ([])) (
      Res.ret (AV.I IntKind.i64 0) ([]))) (
      Res.ret (AV.I IntKind.i64 0) ([]))))) (
      bIte (x0 == 2) (
      bIte (decide ((↑(List.length x2) : Int) > 64)) (
      Res.ret (AV.I IntKind.i64 42) ([])) (
      bIte (x0 == 3) (
      bIte (!x2 == []) (
      Res.ret (AV.I IntKind.i64 42) ([])) (
      Res.ret (AV.I IntKind.i64 0) ([]))) (
      bIte (x0 == 4) (
      bIte (!x2 == []) (
      Res.ret (AV.I IntKind.i64 42) ([])) (
      Res.ret (AV.I IntKind.i64 0) ([]))) (
      Res.ret (AV.I IntKind.i64 0) ([]))))) (
      bIte (x0 == 3) (
      bIte (!x2 == []) (
      Res.ret (AV.I IntKind.i64 42) ([])) (
      Res.ret (AV.I IntKind.i64 0) ([]))) (
      bIte (x0 == 4) (
      bIte (!x2 == []) (
      Res.ret (AV.I IntKind.i64 42) ([])) (
      Res.ret (AV.I IntKind.i64 0) ([]))) (
      Res.ret (AV.I IntKind.i64 0) ([]))))))) (
      bIte (x0 == 1) (
      bIte (decide ((↑(List.length x2) : Int) > 64)) (
      Res.ret (AV.I IntKind.i64 42) ([])) (
      bIte (x0 == 3) (
      bIte (!x2 == []) (
      Res.ret (AV.I IntKind.i64 42) ([])) (
      Res.ret (AV.I IntKind.i64 0) ([]))) (
      bIte (x0 == 4) (
      bIte (!x2 == []) (
      Res.ret (AV.I IntKind.i64 42) ([])) (
      Res.ret (AV.I IntKind.i64 0) ([]))) (
      Res.ret (AV.I IntKind.i64 0) ([]))))) (
      bIte (x0 == 2) (
      bIte (decide ((↑(List.length x2) : Int) > 64)) (
      Res.ret (AV.I IntKind.i64 42) ([])) (
      bIte (x0 == 3) (
      bIte (!x2 == []) (
      Res.ret (AV.I IntKind.i64 42) ([])) (
      Res.ret (AV.I IntKind.i64 0) ([]))) (
      bIte (x0 == 4) (
      bIte (!x2 == []) (
      Res.ret (AV.I IntKind.i64 42) ([])) (
      Res.ret (AV.I IntKind.i64 0) ([]))) (
      Res.ret (AV.I IntKind.i64 0) ([]))))) (
      bIte (x0 == 3) (
      bIte (!x2 == []) (
      Res.ret (AV.I IntKind.i64 42) ([])) (
      Res.ret (AV.I IntKind.i64 0) ([]))) (
      bIte (x0 == 4) (
      bIte (!x2 == []) (
      Res.ret (AV.I IntKind.i64 42) ([])) (
      Res.ret (AV.I IntKind.i64 0) ([]))) (
      Res.ret (AV.I IntKind.i64 0) ([])))))))))) (
      bIte (x0 == 3) (
      bIte (decide (x1 < 0)) (
      Res.ret (AV.I IntKind.i64 41) ([])) (
      bIte (decide (x1 ≥ 1024)) (
      Res.ret (AV.I IntKind.i64 41) ([])) (
      bIte (x0 == 2) (
      bIte (x1 != 0) (
      Res.ret (AV.I IntKind.i64 41) ([])) (
      bIte (x0 == 1) (
      bIte (decide ((↑(List.length x2) : Int) > 64)) (
      Res.ret (AV.I IntKind.i64 42) ([])) (
      bIte (x0 == 3) (
      bIte (!x2 == []) (
      Res.ret (AV.I IntKind.i64 42) ([])) (
      Res.ret (AV.I IntKind.i64 0) ([]))) (
      bIte (x0 == 4) (
      bIte (!x2 == []) (
      Res.ret (AV.I IntKind.i64 42) ([])) (
      Res.ret (AV.I IntKind.i64 0) ([]))) (
      Res.ret (AV.I IntKind.i64 0) ([]))))) (
      bIte (x0 == 2) (
      bIte (decide ((↑(List.length x2) : Int) > 64)) (
      Res.ret (AV.I IntKind.i64 42) ([])) (
      bIte (x0 == 3) (
      bIte (!x2 == []) (
      Res.ret (AV.I IntKind.i64 42) ([])) (
      Res.ret (AV.I IntKind.i64 0) ([]))) (
      bIte (x0 == 4) (
      bIte (!x2 == []) (
      Res.ret (AV.I IntKind.i64 42) ([])) (
      Res.ret (AV.I IntKind.i64 0) ([]))) (
      Res.ret (AV.I IntKind.i64 0) ([]))))) (
      bIte (x0 == 3) (
      bIte (!x2 == []) (
      Res.ret (AV.I IntKind.i64 42) ([])) (
      Res.ret (AV.I IntKind.i64 0) ([]))) (
      bIte (x0 == 4) (
      bIte (!x2 == []) (
      Res.ret (AV.I IntKind.i64 42) ([])) (
      Res.ret (AV.I IntKind.i64 0) ([]))) (
      Res.ret (AV.I IntKind.i64 0) ([]))))))) (
      bIte (x0 == 4) (
      bIte (x1 != 0) (
      Res.ret (AV.I IntKind.i64 41) ([])) (
      bIte (x0 == 1) (
      bIte (decide ((↑(List.length x2) : Int) > 64)) (
      Res.ret (AV.I IntKind.i64 42) ([])) (
      bIte (x0 == 3) (
      bIte (!x2 == []) (
      Res.ret (AV.I IntKind.i64 42) ([])) (
      Res.ret (AV.I IntKind.i64 0) ([]))) (
      bIte (x0 == 4) (
      bIte (!x2 == []) (
      Res.ret (AV.I IntKind.i64 42) ([])) (
      Res.ret (AV.I IntKind.i64 0) ([]))) (
      Res.ret (AV.I IntKind.i64 0) ([]))))) (
      bIte (x0 == 2) (
      bIte (decide ((↑(List.length x2) : Int) > 64)) (
      Res.ret (AV.I IntKind.i64 42) ([])) (
      bIte (x0 == 3) (
      bIte (!x2 == []) (
      Res.ret (AV.I IntKind.i64 42) ([])) (
      Res.ret (AV.I IntKind.i64 0) ([]))) (
      bIte (x0 == 4) (
      bIte (!x2 == []) (
      Res.ret (AV.I IntKind.i64 42) ([])) (
      Res.ret (AV.I IntKind.i64 0) ([]))) (
      Res.ret (AV.I IntKind.i64 0) ([]))))) (
      bIte (x0 == 3) (
      bIte (!x2 == []) (
      Res.ret (AV.I IntKind.i64 42) ([])) (
      Res.ret (AV.I IntKind.i64 0) ([]))) (
      bIte (x0 == 4) (
      bIte (!x2 == []) (
      Res.ret (AV.I IntKind.i64 42) ([])) (
      Res.ret (AV.I IntKind.i64 0) ([]))) (
      Res.ret (AV.I IntKind.i64 0) ([]))))))) (
      bIte (x0 == 1) (
      bIte (decide ((↑(List.length x2) : Int) > 64)) (
      Res.ret (AV.I IntKind.i64 42) ([])) (
      bIte (x0 == 3) (
      bIte (!x2 == []) (
      Res.ret (AV.I IntKind.i64 42) ([])) (
      Res.ret (AV.I IntKind.i64 0) ([]))) (
      bIte (x0 == 4) (
      bIte (!x2 == []) (
      Res.ret (AV.I IntKind.i64 42) ([])) (
      Res.ret (AV.I IntKind.i64 0) ([]))) (
      Res.ret (AV.I IntKind.i64 0) ([]))))) (
      bIte (x0 == 2) (
      bIte (decide ((↑(List.length x2) : Int) > 64)) (
      Res.ret (AV.I IntKind.i64 42) ([])) (
      bIte (x0 == 3) (
      bIte (!x2 == []) (
      Res.ret (AV.I IntKind.i64 42) ([])) (
      Res.ret (AV.I IntKind.i64 0) ([]))) (
      bIte (x0 == 4) (
      bIte (!x2 == []) (
      Res.ret (AV.I IntKind.i64 42) ([])) (
      Res.ret (AV.I IntKind.i64 0) ([]))) (
      Res.ret (AV.I IntKind.i64 0) ([]))))) (
      bIte (x0 == 3) (
      bIte (!x2 == []) (
      Res.ret (AV.I IntKind.i64 42) ([])) (
      Res.ret (AV.I IntKind.i64 0) ([]))) (
      bIte (x0 == 4) (
      bIte (!x2 == []) (
      Res.ret (AV.I IntKind.i64 42) ([])) (
      Res.ret (AV.I IntKind.i64 0) ([]))) (
      Res.ret (AV.I IntKind.i64 0) ([])))))))))) (
      bIte (x0 == 2) (
      bIte (x1 != 0) (
      Res.ret (AV.I IntKind.i64 41) ([])) (
      bIte (x0 == 1) (
      bIte (decide ((↑(List.length x2) : Int) > 64)) (
      Res.ret (AV.I IntKind.i64 42) ([])) (
      bIte (x0 == 3) (
      bIte (!x2 == []) (
      Res.ret (AV.I IntKind.i64 42) ([])) (
      Res.ret (AV.I IntKind.i64 0) ([]))) (
      bIte (x0 == 4) (
      bIte (!x2 == []) (
      Res.ret (AV.I IntKind.i64 42) ([])) (
      Res.ret (AV.I IntKind.i64 0) ([]))) (
      Res.ret (AV.I IntKind.i64 0) ([]))))) (
      bIte (x0 == 2) (
      bIte (decide ((↑(List.length x2) : Int) > 64)) (
      Res.ret (AV.I IntKind.i64 42) ([])) (
      bIte (x0 == 3) (
      bIte (!x2 == []) (
      Res.ret (AV.I IntKind.i64 42) ([])) (
      Res.ret (AV.I IntKind.i64 0) ([]))) (
      bIte (x0 == 4) (
      bIte (!x2 == []) (
      Res.ret (AV.I IntKind.i64 42) ([])) (
      Res.ret (AV.I IntKind.i64 0) ([]))) (
      Res.ret (AV.I IntKind.i64 0) ([]))))) (
      bIte (x0 == 3) (
      bIte (!x2 == []) (
      Res.ret (AV.I IntKind.i64 42) ([])) (
      Res.ret (AV.I IntKind.i64 0) ([]))) (
      bIte (x0 == 4) (
      bIte (!x2 == []) (
      Res.ret (AV.I IntKind.i64 42) ([])) (
      Res.ret (AV.I IntKind.i64 0) ([]))) (
      Res.ret (AV.I IntKind.i64 0) ([]))))))) (
      bIte (x0 == 4) (
      bIte (x1 != 0) (
      Res.ret (AV.I IntKind.i64 41) ([])) (
      bIte (x0 == 1) (
      bIte (decide ((↑(List.length x2) : Int) > 64)) (
      Res.ret (AV.I IntKind.i64 42) ([])) (
      bIte (x0 == 3) (
      bIte (!x2 == []) (
      Res.ret (AV.I IntKind.i64 42) ([])) (
      Res.ret (AV.I IntKind.i64 0) ([]))) (
      bIte (x0 == 4) (
      bIte (!x2 == []) (
      Res.ret (AV.I IntKind.i64 42) ([])) (
      Res.ret (AV.I IntKind.i64 0) ([]))) (
      Res.ret (AV.I IntKind.i64 0) ([]))))) (
      bIte (x0 == 2) (
      bIte (decide ((↑(List.length x2) : Int) > 64)) (
      Res.ret (AV.I IntKind.i64 42) ([])) (
      bIte (x0 == 3) (
      bIte (!x2 == []) (
      Res.ret (AV.I IntKind.i64 42) ([])) (
      Res.ret (AV.I IntKind.i64 0) ([]))) (
      bIte (x0 == 4) (
      bIte (!x2 == []) (
      Res.ret (AV.I IntKind.i64 42) ([])) (
      Res.ret (AV.I IntKind.i64 0) ([]))) (
      Res.ret (AV.I IntKind.i64 0) ([]))))) (
      bIte (x0 == 3) (
      bIte (!x2 == []) (
      Res.ret (AV.I IntKind.i64 42) ([])) (
      Res.ret (AV.I IntKind.i64 0) ([]))) (
      bIte (x0 == 4) (
      bIte (!x2 == []) (
      Res.ret (AV.I IntKind.i64 42) ([])) (
      Res.ret (AV.I IntKind.i64 0) ([]))) (
      Res.ret (AV.I IntKind.i64 0) ([]))))))) (
      bIte (x0 == 1) (
      bIte (decide ((↑(List.length x2) : Int) > 64)) (
      Res.ret (AV.I IntKind.i64 42) ([])) (
      bIte (x0 == 3) (
      bIte (!x2 == []) (
      Res.ret (AV.I IntKind.i64 42) ([])) (
      Res.ret (AV.I IntKind.i64 0) ([]))) (
      bIte (x0 == 4) (
      bIte (!x2 == []) (
      Res.ret (AV.I IntKind.i64 42) ([])) (
      Res.ret (AV.I IntKind.i64 0) ([]))) (
      Res.ret (AV.I IntKind.i64 0) ([]))))) (
      bIte (x0 == 2) (
      bIte (decide ((↑(List.length x2) : Int) > 64)) (
      Res.ret (AV.I IntKind.i64 42) ([])) (
      bIte (x0 == 3) (
      bIte (!x2 == []) (
      Res.ret (AV.I IntKind.i64 42) ([])) (
      Res.ret (AV.I IntKind.i64 0) ([]))) (
      bIte (x0 == 4) (
      bIte (!x2 == []) (
      Res.ret (AV.I IntKind.i64 42) ([])) (
      Res.ret (AV.I IntKind.i64 0) ([]))) (
      Res.ret (AV.I IntKind.i64 0) ([]))))) (
      bIte (x0 == 3) (
      bIte (!x2 == []) (
      Res.ret (AV.I IntKind.i64 42) ([])) (
      Res.ret (AV.I IntKind.i64 0) ([]))) (
      bIte (x0 == 4) (
      bIte (!x2 == []) (
      Res.ret (AV.I IntKind.i64 42) ([])) (
      Res.ret (AV.I IntKind.i64 0) ([]))) (
      Res.ret (AV.I IntKind.i64 0) ([]))))))))))) (
      bIte (x0 == 1) (
      bIte (decide (x1 < 0)) (
      Res.ret (AV.I IntKind.i64 41) ([])) (
      bIte (decide (x1 ≥ 1024)) (
      Res.ret (AV.I IntKind.i64 41) ([])) (
      bIte (x0 == 2) (
      bIte (x1 != 0) (
      Res.ret (AV.I IntKind.i64 41) ([])) (
      bIte (x0 == 1) (
      bIte (decide ((↑(List.length x2) : Int) > 64)) (
      Res.ret (AV.I IntKind.i64 42) ([])) (
      bIte (x0 == 3) (
      bIte (!x2 == []) (
      Res.ret (AV.I IntKind.i64 42) ([])) (
      Res.ret (AV.I IntKind.i64 0) ([]))) (
      bIte (x0 == 4) (
      bIte (!x2 == []) (
      Res.ret (AV.I IntKind.i64 42) ([])) (
      Res.ret (AV.I IntKind.i64 0) ([]))) (
      Res.ret (AV.I IntKind.i64 0) ([]))))) (
      bIte (x0 == 2) (
      bIte (decide ((↑(List.length x2) : Int) > 64)) (
      Res.ret (AV.I IntKind.i64 42) ([])) (
      bIte (x0 == 3) (
      bIte (!x2 == []) (
      Res.ret (AV.I IntKind.i64 42) ([])) (
      Res.ret (AV.I IntKind.i64 0) ([]))) (
      bIte (x0 == 4) (
      bIte (!x2 == []) (
      Res.ret (AV.I IntKind.i64 42) ([])) (
      Res.ret (AV.I IntKind.i64 0) ([]))) (
      Res.ret (AV.I IntKind.i64 0) ([]))))) (
      bIte (x0 == 3) (
      bIte (!x2 == []) (
      Res.ret (AV.I IntKind.i64 42) ([])) (
      Res.ret (AV.I IntKind.i64 0) ([]))) (
      bIte (x0 == 4) (
      bIte (!x2 == []) (
      Res.ret (AV.I IntKind.i64 42) ([])) (
      Res.ret (AV.I IntKind.i64 0) ([]))) (
      Res.ret (AV.I IntKind.i64 0) ([]))))))) (
      bIte (x0 == 4) (
      bIte (x1 != 0) (
      Res.ret (AV.I IntKind.i64 41) ([])) (
      bIte (x0 == 1) (
      bIte (decide ((↑(List.length x2) : Int) > 64)) (
      Res.ret (AV.I IntKind.i64 42) ([])) (
      bIte (x0 == 3) (
      bIte (!x2 == []) (
      Res.ret (AV.I IntKind.i64 42) ([])) (
      Res.ret (AV.I IntKind.i64 0) ([]))) (
      bIte (x0 == 4) (
      bIte (!x2 == []) (
      Res.ret (AV.I IntKind.i64 42) ([])) (
      Res.ret (AV.I IntKind.i64 0) ([]))) (
      Res.ret (AV.I IntKind.i64 0) ([]))))) (
      bIte (x0 == 2) (
      bIte (decide ((↑(List.length x2) : Int) > 64)) (
      Res.ret (AV.I IntKind.i64 42) ([])) (
      bIte (x0 == 3) (
      bIte (!x2 == []) (
      Res.ret (AV.I IntKind.i64 42) ([])) (
      Res.ret (AV.I IntKind.i64 0) ([]))) (
      bIte (x0 == 4) (
      bIte (!x2 == []) (
      Res.ret (AV.I IntKind.i64 42) ([])) (
      Res.ret (AV.I IntKind.i64 0) ([]))) (
      Res.ret (AV.I IntKind.i64 0) ([]))))) (
      bIte (x0 == 3) (
      bIte (!x2 == []) (
      Res.ret (AV.I IntKind.i64 42) ([])) (
      Res.ret (AV.I IntKind.i64 0) ([]))) (
      bIte (x0 == 4) (
      bIte (!x2 == []) (
      Res.ret (AV.I IntKind.i64 42) ([])) (
      Res.ret (AV.I IntKind.i64 0) ([]))) (
      Res.ret (AV.I IntKind.i64 0) ([]))))))) (
      bIte (x0 == 1) (
      bIte (decide ((↑(List.length x2) : Int) > 64)) (
      Res.ret (AV.I IntKind.i64 42) ([])) (
      bIte (x0 == 3) (
      bIte (!x2 == []) (
      Res.ret (AV.I IntKind.i64 42) ([])) (
      Res.ret (AV.I IntKind.i64 0) ([]))) (
      bIte (x0 == 4) (
      bIte (!x2 == []) (
      Res.ret (AV.I IntKind.i64 42) ([])) (
      Res.ret (AV.I IntKind.i64 0) ([]))) (
      Res.ret (AV.I IntKind.i64 0) ([]))))) (
      bIte (x0 == 2) (
      bIte (decide ((↑(List.length x2) : Int) > 64)) (
      Res.ret (AV.I IntKind.i64 42) ([])) (
      bIte (x0 == 3) (
      bIte (!x2 == []) (
      Res.ret (AV.I IntKind.i64 42) ([])) (
      Res.ret (AV.I IntKind.i64 0) ([]))) (
      bIte (x0 == 4) (
      bIte (!x2 == []) (
      Res.ret (AV.I IntKind.i64 42) ([])) (
      Res.ret (AV.I IntKind.i64 0) ([]))) (
      Res.ret (AV.I IntKind.i64 0) ([]))))) (
      bIte (x0 == 3) (
      bIte (!x2 == []) (
      Res.ret (AV.I IntKind.i64 42) ([])) (
      Res.ret (AV.I IntKind.i64 0) ([]))) (
      bIte (x0 == 4) (
      bIte (!x2 == []) (
      Res.ret (AV.I IntKind.i64 42) ([])) (
      Res.ret (AV.I IntKind.i64 0) ([]))) (
      Res.ret (AV.I IntKind.i64 0) ([])))))))))) (
      bIte (x0 == 3) (
      bIte (decide (x1 < 0)) (
      Res.ret (AV.I IntKind.i64 41) ([])) (
      bIte (decide (x1 ≥ 1024)) (
      Res.ret (AV.I IntKind.i64 41) ([])) (
      bIte (x0 == 2) (
      bIte (x1 != 0) (
      Res.ret (AV.I IntKind.i64 41) ([])) (
      bIte (x0 == 1) (
      bIte (decide ((↑(List.length x2) : Int) > 64)) (
      Res.ret (AV.I IntKind.i64 42) ([])) (
      bIte (x0 == 3) (
      bIte (!x2 == []) (
      Res.ret (AV.I IntKind.i64 42) ([])) (
      Res.ret (AV.I IntKind.i64 0) ([]))) (
      bIte (x0 == 4) (
      bIte (!x2 == []) (
      Res.ret (AV.I IntKind.i64 42) ([])) (
      Res.ret (AV.I IntKind.i64 0) ([]))) (
      Res.ret (AV.I IntKind.i64 0) ([]))))) (
      bIte (x0 == 2) (
      bIte (decide ((↑(List.length x2) : Int) > 64)) (
      Res.ret (AV.I IntKind.i64 42) ([])) (
      bIte (x0 == 3) (
      bIte (!x2 == []) (
      Res.ret (AV.I IntKind.i64 42) ([])) (
      Res.ret (AV.I IntKind.i64 0) ([]))) (
      bIte (x0 == 4) (
      bIte (!x2 == []) (
      Res.ret (AV.I IntKind.i64 42) ([])) (
      Res.ret (AV.I IntKind.i64 0) ([]))) (
      Res.ret (AV.I IntKind.i64 0) ([]))))) (
      bIte (x0 == 3) (
      bIte (!x2 == []) (
      Res.ret (AV.I IntKind.i64 42) ([])) (
      Res.ret (AV.I IntKind.i64 0) ([]))) (
      bIte (x0 == 4) (
      bIte (!x2 == []) (
      Res.ret (AV.I IntKind.i64 42) ([])) (
      Res.ret (AV.I IntKind.i64 0) ([]))) (
      Res.ret (AV.I IntKind.i64 0) ([]))))))) (
      bIte (x0 == 4) (
      bIte (x1 != 0) (
      Res.ret (AV.I IntKind.i64 41) ([])) (
      bIte (x0 == 1) (
      bIte (decide ((↑(List.length x2) : Int) > 64)) (
      Res.ret (AV.I IntKind.i64 42) ([])) (
      bIte (x0 == 3) (
      bIte (!x2 == []) (
      Res.ret (AV.I IntKind.i64 42) ([])) (
      Res.ret (AV.I IntKind.i64 0) ([]))) (
      bIte (x0 == 4) (
      bIte (!x2 == []) (
      Res.ret (AV.I IntKind.i64 42) ([])) (
      Res.ret (AV.I IntKind.i64 0) ([]))) (
      Res.ret (AV.I IntKind.i64 0) ([]))))) (
      bIte (x0 == 2) (
      bIte (decide ((↑(List.length x2) : Int) > 64)) (
      Res.ret (AV.I IntKind.i64 42) ([])) (
      bIte (x0 == 3) (
      bIte (!x2 == []) (
      Res.ret (AV.I IntKind.i64 42) ([])) (
      Res.ret (AV.I IntKind.i64 0) ([]))) (
      bIte (x0 == 4) (
      bIte (!x2 == []) (
      Res.ret (AV.I IntKind.i64 42) ([])) (
      Res.ret (AV.I IntKind.i64 0) ([]))) (
      Res.ret (AV.I IntKind.i64 0) ([]))))) (
      bIte (x0 == 3) (
      bIte (!x2 == []) (
      Res.ret (AV.I IntKind.i64 42) ([])) (
      Res.ret (AV.I IntKind.i64 0) ([]))) (
      bIte (x0 == 4) (
      bIte (!x2 == []) (
      Res.ret (AV.I IntKind.i64 42) ([])) (
      Res.ret (AV.I IntKind.i64 0) ([]))) (
      Res.ret (AV.I IntKind.i64 0) ([]))))))) (
      bIte (x0 == 1) (
      bIte (decide ((↑(List.length x2) : Int) > 64)) (
      Res.ret (AV.I IntKind.i64 42) ([])) (
      bIte (x0 == 3) (
      bIte (!x2 == []) (
      Res.ret (AV.I IntKind.i64 42) ([])) (
      Res.ret (AV.I IntKind.i64 0) ([]))) (
      bIte (x0 == 4) (
      bIte (!x2 == []) (
      Res.ret (AV.I IntKind.i64 42) ([])) (
      Res.ret (AV.I IntKind.i64 0) ([]))) (
      Res.ret (AV.I IntKind.i64 0) ([]))))) (
      bIte (x0 == 2) (
      bIte (decide ((↑(List.length x2) : Int) > 64)) (
      Res.ret (AV.I IntKind.i64 42) ([])) (
      bIte (x0 == 3) (
      bIte (!x2 == []) (
      Res.ret (AV.I IntKind.i64 42) ([])) (
      Res.ret (AV.I IntKind.i64 0) ([]))) (
      bIte (x0 == 4) (
      bIte (!x2 == []) (
      Res.ret (AV.I IntKind.i64 42) ([])) (
      Res.ret (AV.I IntKind.i64 0) ([]))) (
      Res.ret (AV.I IntKind.i64 0) ([]))))) (
      bIte (x0 == 3) (
      bIte (!x2 == []) (
      Res.ret (AV.I IntKind.i64 42) ([])) (
      Res.ret (AV.I IntKind.i64 0) ([]))) (
      bIte (x0 == 4) (
      bIte (!x2 == []) (
      Res.ret (AV.I IntKind.i64 42) ([])) (
      Res.ret (AV.I IntKind.i64 0) ([]))) (
      Res.ret (AV.I IntKind.i64 0) ([])))))))))) (
      bIte (x0 == 2) (
      bIte (x1 != 0) (
      Res.ret (AV.I IntKind.i64 41) ([])) (
      bIte (x0 == 1) (
      bIte (decide ((↑(List.length x2) : Int) > 64)) (
      Res.ret (AV.I IntKind.i64 42) ([])) (
      bIte (x0 == 3) (
      bIte (!x2 == []) (
      Res.ret (AV.I IntKind.i64 42) ([])) (
      Res.ret (AV.I IntKind.i64 0) ([]))) (
      bIte (x0 == 4) (
      bIte (!x2 == []) (
      Res.ret (AV.I IntKind.i64 42) ([])) (
      Res.ret (AV.I IntKind.i64 0) ([]))) (
      Res.ret (AV.I IntKind.i64 0) ([]))))) (
      bIte (x0 == 2) (
      bIte (decide ((↑(List.length x2) : Int) > 64)) (
      Res.ret (AV.I IntKind.i64 42) ([])) (
      bIte (x0 == 3) (
      bIte (!x2 == []) (
      Res.ret (AV.I IntKind.i64 42) ([])) (
      Res.ret (AV.I IntKind.i64 0) ([]))) (
      bIte (x0 == 4) (
      bIte (!x2 == []) (
      Res.ret (AV.I IntKind.i64 42) ([])) (
      Res.ret (AV.I IntKind.i64 0) ([]))) (
      Res.ret (AV.I IntKind.i64 0) ([]))))) (
      bIte (x0 == 3) (
      bIte (!x2 == []) (
      Res.ret (AV.I IntKind.i64 42) ([])) (
      Res.ret (AV.I IntKind.i64 0) ([]))) (
      bIte (x0 == 4) (
      bIte (!x2 == []) (
      Res.ret (AV.I IntKind.i64 42) ([])) (
      Res.ret (AV.I IntKind.i64 0) ([]))) (
      Res.ret (AV.I IntKind.i64 0) ([]))))))) (
      bIte (x0 == 4) (
      bIte (x1 != 0) (
      Res.ret (AV.I IntKind.i64 41) ([])) (
      bIte (x0 == 1) (
      bIte (decide ((↑(List.length x2) : Int) > 64)) (
      Res.ret (AV.I IntKind.i64 42) ([])) (
      bIte (x0 == 3) (
      bIte (!x2 == []) (
      Res.ret (AV.I IntKind.i64 42) ([])) (
      Res.ret (AV.I IntKind.i64 0) ([]))) (
      bIte (x0 == 4) (
      bIte (!x2 == []) (
      Res.ret (AV.I IntKind.i64 42) ([])) (
      Res.ret (AV.I IntKind.i64 0) ([]))) (
      Res.ret (AV.I IntKind.i64 0) ([]))))) (
      bIte (x0 == 2) (
      bIte (decide ((↑(List.length x2) : Int) > 64)) (
      Res.ret (AV.I IntKind.i64 42) ([])) (
      bIte (x0 == 3) (
      bIte (!x2 == []) (
      Res.ret (AV.I IntKind.i64 42) ([])) (
      Res.ret (AV.I IntKind.i64 0) ([]))) (
      bIte (x0 == 4) (
      bIte (!x2 == []) (
      Res.ret (AV.I IntKind.i64 42) ([])) (
      Res.ret (AV.I IntKind.i64 0) ([]))) (
      Res.ret (AV.I IntKind.i64 0) ([]))))) (
      bIte (x0 == 3) (
      bIte (!x2 == []) (
      Res.ret (AV.I IntKind.i64 42) ([])) (
      Res.ret (AV.I IntKind.i64 0) ([]))) (
      bIte (x0 == 4) (
      bIte (!x2 == []) (
      Res.ret (AV.I IntKind.i64 42) ([])) (
      Res.ret (AV.I IntKind.i64 0) ([]))) (
      Res.ret (AV.I IntKind.i64 0) ([]))))))) (
      bIte (x0 == 1) (
      bIte (decide ((↑(List.length x2) : Int) > 64)) (
      Res.ret (AV.I IntKind.i64 42) ([])) (
      bIte (x0 == 3) (
      bIte (!x2 == []) (
      Res.ret (AV.I IntKind.i64 42) ([])) (
      Res.ret (AV.I IntKind.i64 0) ([]))) (
      bIte (x0 == 4) (
      bIte (!x2 == []) (
      Res.ret (AV.I IntKind.i64 42) ([])) (
      Res.ret (AV.I IntKind.i64 0) ([]))) (
      Res.ret (AV.I IntKind.i64 0) ([]))))) (
      bIte (x0 == 2) (
      bIte (decide ((↑(List.length x2) : Int) > 64)) (
      Res.ret (AV.I IntKind.i64 42) ([])) (
      bIte (x0 == 3) (
      bIte (!x2 == []) (
      Res.ret (AV.I IntKind.i64 42) ([])) (
      Res.ret (AV.I IntKind.i64 0) ([]))) (
      bIte (x0 == 4) (
      bIte (!x2 == []) (
      Res.ret (AV.I IntKind.i64 42) ([])) (
      Res.ret (AV.I IntKind.i64 0) ([]))) (
      Res.ret (AV.I IntKind.i64 0) ([]))))) (
      bIte (x0 == 3) (
      bIte (!x2 == []) (
      Res.ret (AV.I IntKind.i64 42) ([])) (
      Res.ret (AV.I IntKind.i64 0) ([]))) (
      bIte (x0 == 4) (
      bIte (!x2 == []) (
      Res.ret (AV.I IntKind.i64 42) ([])) (
      Res.ret (AV.I IntKind.i64 0) ([]))) (
      Res.ret (AV.I IntKind.i64 0) ([]))))))))))) (
      bIte (x0 == 1) (
      bIte (decide (x1 < 0)) (
      Res.ret (AV.I IntKind.i64 41) ([])) (
      bIte (decide (x1 ≥ 1024)) (
      Res.ret (AV.I IntKind.i64 41) ([])) (
      bIte (x0 == 2) (
      bIte (x1 != 0) (
      Res.ret (AV.I IntKind.i64 41) ([])) (
      bIte (x0 == 1) (
      bIte (decide ((↑(List.length x2) : Int) > 64)) (
      Res.ret (AV.I IntKind.i64 42) ([])) (
      bIte (x0 == 3) (
      bIte (!x2 == []) (
      Res.ret (AV.I IntKind.i64 42) ([])) (
      Res.ret (AV.I IntKind.i64 0) ([]))) (
      bIte (x0 == 4) (
      bIte (!x2 == []) (
      Res.ret (AV.I IntKind.i64 42) ([])) (
      Res.ret (AV.I IntKind.i64 0) ([]))) (
      Res.ret (AV.I IntKind.i64 0) ([]))))) (
      bIte (x0 == 2) (
      bIte (decide ((↑(List.length x2) : Int) > 64)) (
      Res.ret (AV.I IntKind.i64 42) ([])) (
      bIte (x0 == 3) (
      bIte (!x2 == []) (
      Res.ret (AV.I IntKind.i64 42) ([])) (
      Res.ret (AV.I IntKind.i64 0) ([]))) (
      bIte (x0 == 4) (
      bIte (!x2 == []) (
      Res.ret (AV.I IntKind.i64 42) ([])) (
      Res.ret (AV.I IntKind.i64 0) ([]))) (
      Res.ret (AV.I IntKind.i64 0) ([]))))) (
      bIte (x0 == 3) (
      bIte (!x2 == []) (
      Res.ret (AV.I IntKind.i64 42) ([])) (
      Res.ret (AV.I IntKind.i64 0) ([]))) (
      bIte (x0 == 4) (
      bIte (!x2 == []) (
      Res.ret (AV.I IntKind.i64 42) ([])) (
      Res.ret (AV.I IntKind.i64 0) ([]))) (
      Res.ret (AV.I IntKind.i64 0) ([]))))))) (
      bIte (x0 == 4) (
      bIte (x1 != 0) (
      Res.ret (AV.I IntKind.i64 41) ([])) (
      bIte (x0 == 1) (
      bIte (decide ((↑(List.length x2) : Int) > 64)) (
      Res.ret (AV.I IntKind.i64 42) ([])) (
      bIte (x0 == 3) (
      bIte (!x2 == []) (
      Res.ret (AV.I IntKind.i64 42) ([])) (
      Res.ret (AV.I IntKind.i64 0) ([]))) (
      bIte (x0 == 4) (
      bIte (!x2 == []) (
      Res.ret (AV.I IntKind.i64 42) ([])) (
      Res.ret (AV.I IntKind.i64 0) ([]))) (
      Res.ret (AV.I IntKind.i64 0) ([]))))) (
      bIte (x0 == 2) (
      bIte (decide ((↑(List.length x2) : Int) > 64)) (
      Res.ret (AV.I IntKind.i64 42) ([])) (
      bIte (x0 == 3) (
      bIte (!x2 == []) (
      Res.ret (AV.I IntKind.i64 42) ([])) (
      Res.ret (AV.I IntKind.i64 0) ([]))) (
      bIte (x0 == 4) (
      bIte (!x2 == []) (
      Res.ret (AV.I IntKind.i64 42) ([])) (
      Res.ret (AV.I IntKind.i64 0) ([]))) (
      Res.ret (AV.I IntKind.i64 0) ([]))))) (
      bIte (x0 == 3) (
      bIte (!x2 == []) (
      Res.ret (AV.I IntKind.i64 42) ([])) (
      Res.ret (AV.I IntKind.i64 0) ([]))) (
      bIte (x0 == 4) (
      bIte (!x2 == []) (
      Res.ret (AV.I IntKind.i64 42) ([])) (
      Res.ret (AV.I IntKind.i64 0) ([]))) (
      Res.ret (AV.I IntKind.i64 0) ([]))))))) (
      bIte (x0 == 1) (
      bIte (decide ((↑(List.length x2) : Int) > 64)) (
      Res.ret (AV.I IntKind.i64 42) ([])) (
      bIte (x0 == 3) (
      bIte (!x2 == []) (
      Res.ret (AV.I IntKind.i64 42) ([])) (
      Res.ret (AV.I IntKind.i64 0) ([]))) (
      bIte (x0 == 4) (
      bIte (!x2 == []) (
      Res.ret (AV.I IntKind.i64 42) ([])) (
      Res.ret (AV.I IntKind.i64 0) ([]))) (
      Res.ret (AV.I IntKind.i64 0) ([]))))) (
      bIte (x0 == 2) (
      bIte (decide ((↑(List.length x2) : Int) > 64)) (
      Res.ret (AV.I IntKind.i64 42) ([])) (
      bIte (x0 == 3) (
      bIte (!x2 == []) (
      Res.ret (AV.I IntKind.i64 42) ([])) (
      Res.ret (AV.I IntKind.i64 0) ([]))) (
      bIte (x0 == 4) (
      bIte (!x2 == []) (
      Res.ret (AV.I IntKind.i64 42) ([])) (
      Res.ret (AV.I IntKind.i64 0) ([]))) (
      Res.ret (AV.I IntKind.i64 0) ([]))))) (
      bIte (x0 == 3) (
      bIte (!x2 == []) (
      Res.ret (AV.I IntKind.i64 42) ([])) (
      Res.ret (AV.I IntKind.i64 0) ([]))) (
      bIte (x0 == 4) (
      bIte (!x2 == []) (
      Res.ret (AV.I IntKind.i64 42) ([])) (
      Res.ret (AV.I IntKind.i64 0) ([]))) (
      Res.ret (AV.I IntKind.i64 0) ([])))))))))) (
      bIte (x0 == 3) (
      bIte (decide (x1 < 0)) (
      Res.ret (AV.I IntKind.i64 41) ([])) (
      bIte (decide (x1 ≥ 1024)) (
      Res.ret (AV.I IntKind.i64 41) ([])) (
      bIte (x0 == 2) (
      bIte (x1 != 0) (
      Res.ret (AV.I IntKind.i64 41) ([])) (
      bIte (x0 == 1) (
      bIte (decide ((↑(List.length x2) : Int) > 64)) (
      Res.ret (AV.I IntKind.i64 42) ([])) (
      bIte (x0 == 3) (
      bIte (!x2 == []) (
      Res.ret (AV.I IntKind.i64 42) ([])) (
      Res.ret (AV.I IntKind.i64 0) ([]))) (
      bIte (x0 == 4) (
      bIte (!x2 == []) (
      Res.ret (AV.I IntKind.i64 42) ([])) (
      Res.ret (AV.I IntKind.i64 0) ([]))) (
      Res.ret (AV.I IntKind.i64 0) ([]))))) (
      bIte (x0 == 2) (
      bIte (decide ((↑(List.length x2) : Int) > 64)) (
      Res.ret (AV.I IntKind.i64 42) ([])) (
      bIte (x0 == 3) (
      bIte (!x2 == []) (
      Res.ret (AV.I IntKind.i64 42) ([])) (
      Res.ret (AV.I IntKind.i64 0) ([]))) (
      bIte (x0 == 4) (
      bIte (!x2 == []) (
      Res.ret (AV.I IntKind.i64 42) ([])) (
      Res.ret (AV.I IntKind.i64 0) ([]))) (
      Res.ret (AV.I IntKind.i64 0) ([]))))) (
      bIte (x0 == 3) (
      bIte (!x2 == []) (
      Res.ret (AV.I IntKind.i64 42) ([])) (
      Res.ret (AV.I IntKind.i64 0) ([]))) (
      bIte (x0 == 4) (
      bIte (!x2 == []) (
      Res.ret (AV.I IntKind.i64 42) ([])) (
      Res.ret (AV.I IntKind.i64 0) ([]))) (
      Res.ret (AV.I IntKind.i64 0) ([]))))))) (
      bIte (x0 == 4) (
      bIte (x1 != 0) (
      Res.ret (AV.I IntKind.i64 41) ([])) (
      bIte (x0 == 1) (
      bIte (decide ((↑(List.length x2) : Int) > 64)) (
      Res.ret (AV.I IntKind.i64 42) ([])) (
      bIte (x0 == 3) (
      bIte (!x2 == []) (
      Res.ret (AV.I IntKind.i64 42) ([])) (
      Res.ret (AV.I IntKind.i64 0) ([]))) (
      bIte (x0 == 4) (
      bIte (!x2 == []) (
      Res.ret (AV.I IntKind.i64 42) ([])) (
      Res.ret (AV.I IntKind.i64 0) ([]))) (
      Res.ret (AV.I IntKind.i64 0) ([]))))) (
      bIte (x0 == 2) (
      bIte (decide ((↑(List.length x2) : Int) > 64)) (
      Res.ret (AV.I IntKind.i64 42) ([])) (
      bIte (x0 == 3) (
      bIte (!x2 == []) (
      Res.ret (AV.I IntKind.i64 42) ([])) (
      Res.ret (AV.I IntKind.i64 0) ([]))) (
      bIte (x0 == 4) (
      bIte (!x2 == []) (
      Res.ret (AV.I IntKind.i64 42) ([])) (
      Res.ret (AV.I IntKind.i64 0) ([]))) (
      Res.ret (AV.I IntKind.i64 0) ([]))))) (
      bIte (x0 == 3) (
      bIte (!x2 == []) (
      Res.ret (AV.I IntKind.i64 42) ([])) (
      Res.ret (AV.I IntKind.i64 0) ([]))) (
      bIte (x0 == 4) (
      bIte (!x2 == []) (
      Res.ret (AV.I IntKind.i64 42) ([])) (
      Res.ret (AV.I IntKind.i64 0) ([]))) (
      Res.ret (AV.I IntKind.i64 0) ([]))))))) (
      bIte (x0 == 1) (
      bIte (decide ((↑(List.length x2) : Int) > 64)) (
      Res.ret (AV.I IntKind.i64 42) ([])) (
      bIte (x0 == 3) (
      bIte (!x2 == []) (
      Res.ret (AV.I IntKind.i64 42) ([])) (
      Res.ret (AV.I IntKind.i64 0) ([]))) (
      bIte (x0 == 4) (
      bIte (!x2 == []) (
      Res.ret (AV.I IntKind.i64 42) ([])) (
      Res.ret (AV.I IntKind.i64 0) ([]))) (
      Res.ret (AV.I IntKind.i64 0) ([]))))) (
      bIte (x0 == 2) (
      bIte (decide ((↑(List.length x2) : Int) > 64)) (
      Res.ret (AV.I IntKind.i64 42) ([])) (
      bIte (x0 == 3) (
      bIte (!x2 == []) (
      Res.ret (AV.I IntKind.i64 42) ([])) (
      Res.ret (AV.I IntKind.i64 0) ([]))) (
      bIte (x0 == 4) (
      bIte (!x2 == []) (
      Res.ret (AV.I IntKind.i64 42) ([])) (
      Res.ret (AV.I IntKind.i64 0) ([]))) (
      Res.ret (AV.I IntKind.i64 0) ([]))))) (
      bIte (x0 == 3) (
      bIte (!x2 == []) (
      Res.ret (AV.I IntKind.i64 42) ([])) (
      Res.ret (AV.I IntKind.i64 0) ([]))) (
      bIte (x0 == 4) (
      bIte (!x2 == []) (
      Res.ret (AV.I IntKind.i64 42) ([])) (
      Res.ret (AV.I IntKind.i64 0) ([]))) (
      Res.ret (AV.I IntKind.i64 0) ([])))))))))) (
      bIte (x0 == 2) (
      bIte (x1 != 0) (
      Res.ret (AV.I IntKind.i64 41) ([])) (
      bIte (x0 == 1) (
      bIte (decide ((↑(List.length x2) : Int) > 64)) (
      Res.ret (AV.I IntKind.i64 42) ([])) (
      bIte (x0 == 3) (
      bIte (!x2 == []) (
      Res.ret (AV.I IntKind.i64 42) ([])) (
      Res.ret (AV.I IntKind.i64 0) ([]))) (
      bIte (x0 == 4) (
      bIte (!x2 == []) (
      Res.ret (AV.I IntKind.i64 42) ([])) (
      Res.ret (AV.I IntKind.i64 0) ([]))) (
      Res.ret (AV.I IntKind.i64 0) ([]))))) (
      bIte (x0 == 2) (
      bIte (decide ((↑(List.length x2) : Int) > 64)) (
      Res.ret (AV.I IntKind.i64 42) ([])) (
      bIte (x0 == 3) (
      bIte (!x2 == []) (
      Res.ret (AV.I IntKind.i64 42) ([])) (
      Res.ret (AV.I IntKind.i64 0) ([]))) (
      bIte (x0 == 4) (
      bIte (!x2 == []) (
      Res.ret (AV.I IntKind.i64 42) ([])) (
      Res.ret (AV.I IntKind.i64 0) ([]))) (
      Res.ret (AV.I IntKind.i64 0) ([]))))) (
      bIte (x0 == 3) (
      bIte (!x2 == []) (
      Res.ret (AV.I IntKind.i64 42) ([])) (
      Res.ret (AV.I IntKind.i64 0) ([]))) (
      bIte (x0 == 4) (
      bIte (!x2 == []) (
      Res.ret (AV.I IntKind.i64 42) ([])) (
      Res.ret (AV.I IntKind.i64 0) ([]))) (
      Res.ret (AV.I IntKind.i64 0) ([]))))))) (
      bIte (x0 == 4) (
      bIte (x1 != 0) (
      Res.ret (AV.I IntKind.i64 41) ([])) (
      bIte (x0 == 1) (
      bIte (decide ((↑(List.length x2) : Int) > 64)) (
      Res.ret (AV.I IntKind.i64 42) ([])) (
      bIte (x0 == 3) (
      bIte (!x2 == []) (
      Res.ret (AV.I IntKind.i64 42) ([])) (
      Res.ret (AV.I IntKind.i64 0) ([]))) (
      bIte (x0 == 4) (
      bIte (!x2 == []) (
      Res.ret (AV.I IntKind.i64 42) ([])) (
      Res.ret (AV.I IntKind.i64 0) ([]))) (
      Res.ret (AV.I IntKind.i64 0) ([]))))) (
      bIte (x0 == 2) (
      bIte (decide ((↑(List.length x2) : Int) > 64)) (
      Res.ret (AV.I IntKind.i64 42) ([])) (
      bIte (x0 == 3) (
      bIte (!x2 == []) (
      Res.ret (AV.I IntKind.i64 42) ([])) (
      Res.ret (AV.I IntKind.i64 0) ([]))) (
      bIte (x0 == 4) (
      bIte (!x2 == []) (
      Res.ret (AV.I IntKind.i64 42) ([])) (
      Res.ret (AV.I IntKind.i64 0) ([]))) (
      Res.ret (AV.I IntKind.i64 0) ([]))))) (
      bIte (x0 == 3) (
      bIte (!x2 == []) (
      Res.ret (AV.I IntKind.i64 42) ([])) (
      Res.ret (AV.I IntKind.i64 0) ([]))) (
      bIte (x0 == 4) (
      bIte (!x2 == []) (
      Res.ret (AV.I IntKind.i64 42) ([])) (
      Res.ret (AV.I IntKind.i64 0) ([]))) (
      Res.ret (AV.I IntKind.i64 0) ([]))))))) (
      bIte (x0 == 1) (
      bIte (decide ((↑(List.length x2) : Int) > 64)) (
      Res.ret (AV.I IntKind.i64 42) ([])) (
      bIte (x0 == 3) (
      bIte (!x2 == []) (
      Res.ret (AV.I IntKind.i64 42) ([])) (
      Res.ret (AV.I IntKind.i64 0) ([]))) (
      bIte (x0 == 4) (
      bIte (!x2 == []) (
      Res.ret (AV.I IntKind.i64 42) ([])) (
      Res.ret (AV.I IntKind.i64 0) ([]))) (
      Res.ret (AV.I IntKind.i64 0) ([]))))) (
      bIte (x0 == 2) (
      bIte (decide ((↑(List.length x2) : Int) > 64)) (
      Res.ret (AV.I IntKind.i64 42) ([])) (
      bIte (x0 == 3) (
      bIte (!x2 == []) (
      Res.ret (AV.I IntKind.i64 42) ([])) (
      Res.ret (AV.I IntKind.i64 0) ([]))) (
      bIte (x0 == 4) (
      bIte (!x2 == []) (
      Res.ret (AV.I IntKind.i64 42) ([])) (
      Res.ret (AV.I IntKind.i64 0) ([]))) (
      Res.ret (AV.I IntKind.i64 0) ([]))))) (
      bIte (x0 == 3) (
      bIte (!x2 == []) (
      Res.ret (AV.I IntKind.i64 42) ([])) (
      Res.ret (AV.I IntKind.i64 0) ([]))) (
      bIte (x0 == 4) (
      bIte (!x2 == []) (
      Res.ret (AV.I IntKind.i64 42) ([])) (
      Res.ret (AV.I IntKind.i64 0) ([]))) (
      Res.ret (AV.I IntKind.i64 0) ([]))))))))))
theorem f34_eq (x0 : Int) (x1 : Int) (x2 : List UInt8) : f34_sem [(AV.A [(AV.I IntKind.i64 x0), (AV.I IntKind.i64 x1), (AV.S x2)])] [] = f34_e x0 x1 x2 := by
  kernel_rfl
end Go.Vm
