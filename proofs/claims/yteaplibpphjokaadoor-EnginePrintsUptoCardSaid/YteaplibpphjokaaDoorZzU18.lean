/- Part of a proof: ZzU18. -/
import Derived.Test.YteaplibpphjokaaDoorZzAnnP
import Derived.Test.YteaplibpphjokaaDoorVE
set_option linter.unusedSimpArgs false
set_option linter.unusedVariables false
set_option linter.unusedSectionVars false
namespace Go.Vm
open Go (IntKind Fn)
set_option maxHeartbeats 0
noncomputable def S18 : Nat → Sp := fun g => spN
noncomputable def f18_sem : List AV → List HO → Res := semU cx (ann18x FU) Go.Proofs.Tryd.f18 S18
noncomputable def f18_k0 : St → Res := aC cx (ann18x FU) (altAlg cx.pure S18) (altAlg cx.pure S18) (sq2 (sq2 (bodyOf Go.Proofs.Tryd.f18))) (resK (altAlg cx.pure S18) cx (ann18x FU) Go.Proofs.Tryd.f18) (fun _ _ => Res.stuck) (resK (altAlg cx.pure S18) cx (ann18x FU) Go.Proofs.Tryd.f18)
noncomputable def f18_j0 : St → Res := fun s => f18_k0 (nrm (ann18x FU) (headId (sq2 (sq2 (bodyOf Go.Proofs.Tryd.f18)))) s)
noncomputable def f18_k3 : St → Res := aC cx (ann18x FU) (altAlg cx.pure S18) (altAlg cx.pure S18) (sq2 (sq2 (sq2 (bodyOf Go.Proofs.Tryd.f18)))) (resK (altAlg cx.pure S18) cx (ann18x FU) Go.Proofs.Tryd.f18) (fun _ _ => Res.stuck) (resK (altAlg cx.pure S18) cx (ann18x FU) Go.Proofs.Tryd.f18)
noncomputable def f18_j3 : St → Res := fun s => f18_k3 (nrm (ann18x FU) (headId (sq2 (sq2 (sq2 (bodyOf Go.Proofs.Tryd.f18))))) s)
noncomputable def f18_x2 : Nat → St → Res := fun i s => if i = 0 then (f18_j3) s else (fun _ _ => Res.stuck) i s
noncomputable def f18_l1 : Nat → St → Res := loopR (altAlg cx.pure S18) (fun ih1_ s => aC cx (ann18x FU) (altAlg cx.pure S18) (altAlg cx.pure S18) (blk (blk (sq1 (sq2 (sq2 (bodyOf Go.Proofs.Tryd.f18)))))) (fun s' => ih1_ (nrm (ann18x FU) (headId (blk (blk (sq1 (sq2 (sq2 (bodyOf Go.Proofs.Tryd.f18))))))) s')) (f18_x2) (resK (altAlg cx.pure S18) cx (ann18x FU) Go.Proofs.Tryd.f18) s)
noncomputable def f18_p1 (x0 : Int) (x1 : List UInt8) : Res :=
      chk (decide (1 + List.length x1 ≤ 140737488355328)) (
      Res.ret (AV.S (List.set [0] 0 (UInt8.ofNat (Int.toNat (IntKind.wrap IntKind.u8 (IntKind.wrap IntKind.i64 (48 + x0))))) ++ x1)) ([]))
theorem f18_p1_eq (x0 : Int) (x1 : List UInt8) : f18_k3 (mkSt [(0, (EV.v (AV.I IntKind.i64 x0))), (3, (EV.v (AV.S x1)))] [] []) = f18_p1 x0 x1 := by
  kernel_rfl
noncomputable def f18_L1 : Nat → Int → List UInt8 → Res
  | 0, _, _ => Res.stuck
  | n + 1, x0, x1 =>
      bIte (decide (x0 > 9)) (
      chk (decide (1 + List.length x1 ≤ 140737488355328)) (
      (f18_L1 n) (IntKind.wrap IntKind.i64 (Int.tdiv x0 10)) (List.set [0] 0 (UInt8.ofNat (Int.toNat (IntKind.wrap IntKind.u8 (IntKind.wrap IntKind.i64 (48 + Int.tmod x0 10))))) ++ x1))) (
      f18_p1 x0 x1)
theorem f18_L1_eq : ∀ (n : Nat) (x0 : Int) (x1 : List UInt8), f18_l1 n (mkSt [(0, (EV.v (AV.I IntKind.i64 x0))), (3, (EV.v (AV.S x1)))] [] []) = f18_L1 n x0 x1 := by
  intro n
  induction n with
  | zero => intros; rfl
  | succ n IH =>
    intro x0 x1
    refine Eq.trans (b :=
      bIte (decide (x0 > 9)) (
      chk (decide (1 + List.length x1 ≤ 140737488355328)) (
      (f18_l1 n) (mkSt [(0, (EV.v (AV.I IntKind.i64 (IntKind.wrap IntKind.i64 (Int.tdiv x0 10))))), (3, (EV.v (AV.S (List.set [0] 0 (UInt8.ofNat (Int.toNat (IntKind.wrap IntKind.u8 (IntKind.wrap IntKind.i64 (48 + Int.tmod x0 10))))) ++ x1))))] [] []))) (
      f18_k3 (mkSt [(0, (EV.v (AV.I IntKind.i64 x0))), (3, (EV.v (AV.S x1)))] [] []))) (by kernel_rfl) ?_
    simp only [f18_L1, IH, f18_p1_eq]
noncomputable def f18_p0 (x0 : Int) (x1 : List UInt8) : Res :=
      f18_L1 (ann18x FU).fuel x0 x1
theorem f18_p0_eq (x0 : Int) (x1 : List UInt8) : f18_k0 (mkSt [(0, (EV.v (AV.I IntKind.i64 x0))), (3, (EV.v (AV.S x1)))] [] []) = f18_p0 x0 x1 := by
  refine Eq.trans (b :=
      f18_l1 (ann18x FU).fuel (mkSt [(0, (EV.v (AV.I IntKind.i64 x0))), (3, (EV.v (AV.S x1)))] [] [])) (by kernel_rfl) ?_
  simp only [f18_p0, f18_L1_eq]
noncomputable def f18_e (x0 : Int) : Res :=
      f18_p0 x0 ([])
theorem f18_eq (x0 : Int) : f18_sem [(AV.I IntKind.i64 x0)] [] = f18_e x0 := by
  refine Eq.trans (b :=
      f18_k0 (mkSt [(0, (EV.v (AV.I IntKind.i64 x0))), (3, (EV.v (AV.S ([]))))] [] [])) (by kernel_rfl) ?_
  simp only [f18_e, f18_p0_eq]
end Go.Vm
