/- Part of a proof: ZzU12. -/
import Derived.Test.YteaplibpphjokaaDoorZzAnnP
import Derived.Test.YteaplibpphjokaaDoorVE
set_option linter.unusedSimpArgs false
set_option linter.unusedVariables false
set_option linter.unusedSectionVars false
namespace Go.Vm
open Go (IntKind Fn)
set_option maxHeartbeats 0
noncomputable def S12 : Nat → Sp := fun g => spN
noncomputable def f12_sem : List AV → List HO → Res := semU cx (ann12x FU) Go.Proofs.Tryd.f12 S12
noncomputable def f12_k0 : St → Res := aC cx (ann12x FU) (altAlg cx.pure S12) (altAlg cx.pure S12) (sq2 (sq2 (bodyOf Go.Proofs.Tryd.f12))) (resK (altAlg cx.pure S12) cx (ann12x FU) Go.Proofs.Tryd.f12) (fun _ _ => Res.stuck) (resK (altAlg cx.pure S12) cx (ann12x FU) Go.Proofs.Tryd.f12)
noncomputable def f12_j0 : St → Res := fun s => f12_k0 (nrm (ann12x FU) (headId (sq2 (sq2 (bodyOf Go.Proofs.Tryd.f12)))) s)
noncomputable def f12_p0 : Res :=
      Res.ret (AV.I IntKind.i64 0) ([])
theorem f12_p0_eq : f12_k0 (mkSt [] [] []) = f12_p0 := by
  kernel_rfl
noncomputable def f12_e (x0 : Int) (x1 : Int) (x2 : Int) (x3 : Bool) : Res :=
      bIte (decide (x0 < 1)) (
      Res.ret (AV.I IntKind.i64 1) ([])) (
      bIte (decide (x0 > 3)) (
      Res.ret (AV.I IntKind.i64 1) ([])) (
      bIte (decide (x1 < 1)) (
      Res.ret (AV.I IntKind.i64 1) ([])) (
      bIte (decide (x1 > 256)) (
      Res.ret (AV.I IntKind.i64 1) ([])) (
      bIte (decide (x2 < 6)) (
      Res.ret (AV.I IntKind.i64 1) ([])) (
      bIte (decide (x2 > 100)) (
      Res.ret (AV.I IntKind.i64 1) ([])) (
      f12_p0))))))
theorem f12_eq (x0 : Int) (x1 : Int) (x2 : Int) (x3 : Bool) : f12_sem [(AV.A [(AV.I IntKind.i64 x0), (AV.I IntKind.i64 x1), (AV.I IntKind.i64 x2), (AV.B x3)])] [] = f12_e x0 x1 x2 x3 := by
  refine Eq.trans (b :=
      bIte (decide (x0 < 1)) (
      Res.ret (AV.I IntKind.i64 1) ([])) (
      bIte (decide (x0 > 3)) (
      Res.ret (AV.I IntKind.i64 1) ([])) (
      bIte (decide (x1 < 1)) (
      Res.ret (AV.I IntKind.i64 1) ([])) (
      bIte (decide (x1 > 256)) (
      Res.ret (AV.I IntKind.i64 1) ([])) (
      bIte (decide (x2 < 6)) (
      Res.ret (AV.I IntKind.i64 1) ([])) (
      bIte (decide (x2 > 100)) (
      Res.ret (AV.I IntKind.i64 1) ([])) (
      f12_k0 (mkSt [] [] [])))))))) (by kernel_rfl) ?_
  simp only [f12_e, f12_p0_eq]
end Go.Vm
