/- Part of a proof: ZzU15. -/
import Derived.Test.YteaplibpphjokaaDoorZzSp2
import Derived.Test.YteaplibpphjokaaDoorVE
set_option linter.unusedSimpArgs false
set_option linter.unusedVariables false
set_option linter.unusedSectionVars false
namespace Go.Vm
open Go (IntKind Fn)
set_option maxHeartbeats 0
noncomputable def S31 : Nat → Sp := fun g => bif Nat.beq g 44 then sp44 else spN
noncomputable def f31_sem : List AV → List HO → Res := semU cx (ann31x FU) Go.Proofs.Tryd.f31 S31
noncomputable def f31_e (x0 : Int) (x1 : Int) : Res :=
      chk (decide (List.length (decB (Int.toNat x0)) + 1 ≤ 140737488355328)) (
      chk (decide (List.length (decB (Int.toNat x0) ++ [46]) + List.length (decB (Int.toNat x1)) ≤ 140737488355328)) (
      Res.ret (AV.S (decB (Int.toNat x0) ++ [46] ++ decB (Int.toNat x1))) ([])))
theorem f31_eq (x0 : Int) (x1 : Int) : f31_sem [(AV.A [(AV.I IntKind.u64 x0), (AV.I IntKind.u64 x1)])] [] = f31_e x0 x1 := by
  kernel_rfl
noncomputable def S29 : Nat → Sp := fun g => bif Nat.beq g 14 then sp14 else bif Nat.beq g 26 then sp26 else spN
noncomputable def f29_sem : List AV → List HO → Res := semU cx (ann29x FU) Go.Proofs.Tryd.f29 S29
noncomputable def f29_k0 : St → Res := aC cx (ann29x FU) (altAlg cx.pure S29) (altAlg cx.pure S29) (sq2 (bodyOf Go.Proofs.Tryd.f29)) (resK (altAlg cx.pure S29) cx (ann29x FU) Go.Proofs.Tryd.f29) (fun _ _ => Res.stuck) (resK (altAlg cx.pure S29) cx (ann29x FU) Go.Proofs.Tryd.f29)
noncomputable def f29_j0 : St → Res := fun s => f29_k0 (nrm (ann29x FU) (headId (sq2 (bodyOf Go.Proofs.Tryd.f29))) s)
noncomputable def f29_p0 (x0 : Int) (x1 : List UInt8) (x2 : Bool) : Res :=
      bIte (decide (x0 > 0)) (
      chk (decide (5 + List.length (decI x0) ≤ 140737488355328)) (
      chk (Sp.pre sp14 [AV.P 0 0, AV.S ([32, 99, 117, 116, 32] ++ decI x0)] [HO.cells [HV.a (AV.P 0 0), HV.g (SC.y 5 x1), HV.a (AV.B x2)]]) (
      Res.ret (AV.T []) ([HO.cells [HV.a (AV.P 0 0), HV.g (SC.y 5 (x1 ++ ([32, 99, 117, 116, 32] ++ decI x0))), HV.a (AV.B x2)]])))) (
      Res.ret (AV.T []) ([HO.cells [HV.a (AV.P 0 0), HV.g (SC.y 5 x1), HV.a (AV.B x2)]]))
theorem f29_p0_eq (x0 : Int) (x1 : List UInt8) (x2 : Bool) : f29_k0 (mkSt [(0, (EV.v (AV.P 0 0))), (1, (EV.v (AV.I IntKind.i64 x0)))] [] [(HO.cells [(HV.a (AV.P 0 0)), (HV.g (SC.y 5 x1)), (HV.a (AV.B x2))])]) = f29_p0 x0 x1 x2 := by
  kernel_rfl
noncomputable def f29_e (x0 : Int) (x1 : List UInt8) (x2 : Bool) : Res :=
      bIte x2 (
      f29_p0 x0 x1 true) (
      f29_p0 x0 x1 (decide (x0 < 0)))
theorem f29_eq (x0 : Int) (x1 : List UInt8) (x2 : Bool) : f29_sem [(AV.P 0 0), (AV.I IntKind.i64 x0)] [(HO.cells [(HV.a (AV.P 0 0)), (HV.g (SC.y 5 x1)), (HV.a (AV.B x2))])] = f29_e x0 x1 x2 := by
  refine Eq.trans (b :=
      bIte x2 (
      f29_k0 (mkSt [(0, (EV.v (AV.P 0 0))), (1, (EV.v (AV.I IntKind.i64 x0)))] [] [(HO.cells [(HV.a (AV.P 0 0)), (HV.g (SC.y 5 x1)), (HV.a (AV.B true))])])) (
      f29_k0 (mkSt [(0, (EV.v (AV.P 0 0))), (1, (EV.v (AV.I IntKind.i64 x0)))] [] [(HO.cells [(HV.a (AV.P 0 0)), (HV.g (SC.y 5 x1)), (HV.a (AV.B (decide (x0 < 0))))])]))) (by kernel_rfl) ?_
  simp only [f29_e, f29_p0_eq]
noncomputable def S28 : Nat → Sp := fun g => bif Nat.beq g 14 then sp14 else bif Nat.beq g 30 then sp30 else bif Nat.beq g 26 then sp26 else bif Nat.beq g 43 then sp43 else spN
noncomputable def f28_sem : List AV → List HO → Res := semU cx (ann28x FU) Go.Proofs.Tryd.f28 S28
noncomputable def f28_k0 : St → Res := aC cx (ann28x FU) (altAlg cx.pure S28) (altAlg cx.pure S28) (sq2 (sq2 (bodyOf Go.Proofs.Tryd.f28))) (resK (altAlg cx.pure S28) cx (ann28x FU) Go.Proofs.Tryd.f28) (fun _ _ => Res.stuck) (resK (altAlg cx.pure S28) cx (ann28x FU) Go.Proofs.Tryd.f28)
noncomputable def f28_j0 : St → Res := fun s => f28_k0 (nrm (ann28x FU) (headId (sq2 (sq2 (bodyOf Go.Proofs.Tryd.f28)))) s)
noncomputable def f28_p0 (x0 : Int) (x1 : Int) (x2 : List UInt8) (x3 : List UInt8) (x4 : Bool) : Res :=
      bIte (x0 == 1) (
      chk (decide (7 + List.length (decI x1) ≤ 140737488355328)) (
      chk (decide (List.length ([32, 119, 114, 105, 116, 101, 32] ++ decI x1) + 1 ≤ 140737488355328)) (
      chk (Sp.pre sp30 [AV.S x2] []) (
      chk (decide (List.length ([32, 119, 114, 105, 116, 101, 32] ++ decI x1 ++ [32]) + List.length (hexB x2) ≤ 140737488355328)) (
      chk (Sp.pre sp14 [AV.P 0 0, AV.S ([32, 119, 114, 105, 116, 101, 32] ++ decI x1 ++ [32] ++ hexB x2)] [HO.cells [HV.a (AV.P 0 0), HV.g (SC.y 5 x3), HV.a (AV.B x4)]]) (
      Res.ret (AV.T []) ([HO.cells [HV.a (AV.P 0 0), HV.g (SC.y 5 (x3 ++ ([32, 119, 114, 105, 116, 101, 32] ++ decI x1 ++ [32] ++ hexB x2))), HV.a (AV.B x4)]]))))))) (
      bIte (x0 == 2) (
      chk (Sp.pre sp30 [AV.S x2] []) (
      chk (decide (8 + List.length (hexB x2) ≤ 140737488355328)) (
      chk (Sp.pre sp14 [AV.P 0 0, AV.S ([32, 97, 112, 112, 101, 110, 100, 32] ++ hexB x2)] [HO.cells [HV.a (AV.P 0 0), HV.g (SC.y 5 x3), HV.a (AV.B x4)]]) (
      Res.ret (AV.T []) ([HO.cells [HV.a (AV.P 0 0), HV.g (SC.y 5 (x3 ++ ([32, 97, 112, 112, 101, 110, 100, 32] ++ hexB x2))), HV.a (AV.B x4)]]))))) (
      bIte (x0 == 3) (
      chk (decide (6 + List.length (decI x1) ≤ 140737488355328)) (
      chk (Sp.pre sp14 [AV.P 0 0, AV.S ([32, 114, 101, 97, 100, 32] ++ decI x1)] [HO.cells [HV.a (AV.P 0 0), HV.g (SC.y 5 x3), HV.a (AV.B x4)]]) (
      Res.ret (AV.T []) ([HO.cells [HV.a (AV.P 0 0), HV.g (SC.y 5 (x3 ++ ([32, 114, 101, 97, 100, 32] ++ decI x1))), HV.a (AV.B x4)]])))) (
      bIte (x0 == 4) (
      chk (Sp.pre sp14 [AV.P 0 0, AV.S [32, 99, 111, 117, 110, 116]] [HO.cells [HV.a (AV.P 0 0), HV.g (SC.y 5 x3), HV.a (AV.B x4)]]) (
      Res.ret (AV.T []) ([HO.cells [HV.a (AV.P 0 0), HV.g (SC.y 5 (x3 ++ [32, 99, 111, 117, 110, 116])), HV.a (AV.B x4)]]))) (
      Res.ret (AV.T []) ([HO.cells [HV.a (AV.P 0 0), HV.g (SC.y 5 x3), HV.a (AV.B x4)]])))))
theorem f28_p0_eq (x0 : Int) (x1 : Int) (x2 : List UInt8) (x3 : List UInt8) (x4 : Bool) : f28_k0 (mkSt [(0, (EV.v (AV.P 0 0))), (3, (EV.lp 3 0 0))] [(3, LOv.mk 0 (LO.box 0 [(HV.a (AV.I IntKind.i64 x0)), (HV.a (AV.I IntKind.i64 x1)), (HV.a (AV.S x2))]))] [(HO.cells [(HV.a (AV.P 0 0)), (HV.g (SC.y 5 x3)), (HV.a (AV.B x4))])]) = f28_p0 x0 x1 x2 x3 x4 := by
  kernel_rfl
noncomputable def f28_e (x0 : Int) (x1 : Int) (x2 : List UInt8) (x3 : List UInt8) (x4 : Bool) : Res :=
      bIte x4 (
      f28_p0 x0 x1 x2 x3 true) (
      f28_p0 x0 x1 x2 x3 (opErr x0 x1 x2 != 0))
theorem f28_eq (x0 : Int) (x1 : Int) (x2 : List UInt8) (x3 : List UInt8) (x4 : Bool) : f28_sem [(AV.P 0 0), (AV.A [(AV.I IntKind.i64 x0), (AV.I IntKind.i64 x1), (AV.S x2)])] [(HO.cells [(HV.a (AV.P 0 0)), (HV.g (SC.y 5 x3)), (HV.a (AV.B x4))])] = f28_e x0 x1 x2 x3 x4 := by
  refine Eq.trans (b :=
      bIte x4 (
      f28_k0 (mkSt [(0, (EV.v (AV.P 0 0))), (3, (EV.lp 3 0 0))] [(3, LOv.mk 0 (LO.box 0 [(HV.a (AV.I IntKind.i64 x0)), (HV.a (AV.I IntKind.i64 x1)), (HV.a (AV.S x2))]))] [(HO.cells [(HV.a (AV.P 0 0)), (HV.g (SC.y 5 x3)), (HV.a (AV.B true))])])) (
      f28_k0 (mkSt [(0, (EV.v (AV.P 0 0))), (3, (EV.lp 3 0 0))] [(3, LOv.mk 0 (LO.box 0 [(HV.a (AV.I IntKind.i64 x0)), (HV.a (AV.I IntKind.i64 x1)), (HV.a (AV.S x2))]))] [(HO.cells [(HV.a (AV.P 0 0)), (HV.g (SC.y 5 x3)), (HV.a (AV.B (opErr x0 x1 x2 != 0)))])]))) (by kernel_rfl) ?_
  simp only [f28_e, f28_p0_eq]
noncomputable def S15 : Nat → Sp := fun g => bif Nat.beq g 30 then sp30 else bif Nat.beq g 14 then sp14 else bif Nat.beq g 31 then sp31 else bif Nat.beq g 29 then sp29 else bif Nat.beq g 28 then sp28 else bif Nat.beq g 13 then sp13 else spN
noncomputable def f15_sem : List AV → List HO → Res := semU cx (ann15x FU) Go.Proofs.Tryd.f15 S15
noncomputable def f15_k0 : St → Res := aC cx (ann15x FU) (altAlg cx.pure S15) (altAlg cx.pure S15) (sq2 (sq2 (bodyOf Go.Proofs.Tryd.f15))) (resK (altAlg cx.pure S15) cx (ann15x FU) Go.Proofs.Tryd.f15) (fun _ _ => Res.stuck) (resK (altAlg cx.pure S15) cx (ann15x FU) Go.Proofs.Tryd.f15)
noncomputable def f15_j0 : St → Res := fun s => f15_k0 (nrm (ann15x FU) (headId (sq2 (sq2 (bodyOf Go.Proofs.Tryd.f15)))) s)
noncomputable def f15_x2 : Nat → St → Res := fun i s => if i = 0 then (f15_j0) s else (fun _ _ => Res.stuck) i s
noncomputable def f15_k1 : St → Res := aC cx (ann15x FU) (altAlg cx.pure S15) (altAlg cx.pure S15) (sq2 (sq2 (cn1 (sq2 (cn2 (sq2 (cn2 (sq2 (cn2 (sq2 (cn2 (sq2 (cn2 (sq2 (cn2 (sq2 (blk (sq2 (sq1 (sq2 (bodyOf Go.Proofs.Tryd.f15))))))))))))))))))))) (f15_j0) (f15_x2) (resK (altAlg cx.pure S15) cx (ann15x FU) Go.Proofs.Tryd.f15)
noncomputable def f15_j1 : St → Res := fun s => f15_k1 (nrm (ann15x FU) (headId (sq2 (sq2 (cn1 (sq2 (cn2 (sq2 (cn2 (sq2 (cn2 (sq2 (cn2 (sq2 (cn2 (sq2 (cn2 (sq2 (blk (sq2 (sq1 (sq2 (bodyOf Go.Proofs.Tryd.f15)))))))))))))))))))))) s)
noncomputable def f15_k3 : St → Res := aC cx (ann15x FU) (altAlg cx.pure S15) (altAlg cx.pure S15) (sq2 (sq2 (cn1 (sq2 (cn2 (sq2 (cn2 (sq2 (cn2 (sq2 (cn2 (sq2 (cn2 (sq2 (cn2 (sq2 (cn2 (sq2 (cn2 (sq2 (cn2 (sq2 (cn2 (sq2 (cn2 (sq2 (blk (sq2 (sq1 (sq2 (bodyOf Go.Proofs.Tryd.f15))))))))))))))))))))))))))))))) (f15_j0) (f15_x2) (resK (altAlg cx.pure S15) cx (ann15x FU) Go.Proofs.Tryd.f15)
noncomputable def f15_j3 : St → Res := fun s => f15_k3 (nrm (ann15x FU) (headId (sq2 (sq2 (cn1 (sq2 (cn2 (sq2 (cn2 (sq2 (cn2 (sq2 (cn2 (sq2 (cn2 (sq2 (cn2 (sq2 (cn2 (sq2 (cn2 (sq2 (cn2 (sq2 (cn2 (sq2 (cn2 (sq2 (blk (sq2 (sq1 (sq2 (bodyOf Go.Proofs.Tryd.f15)))))))))))))))))))))))))))))))) s)
noncomputable def f15_p0 (x0 : List UInt8) (x1 : Bool) : Res :=
      chk (Sp.pre sp14 [AV.P 0 0, AV.S [10]] [HO.cells [HV.a (AV.P 0 0), HV.g (SC.y 5 x0), HV.a (AV.B x1)]]) (
      Res.ret (AV.T []) ([HO.cells [HV.a (AV.P 0 0), HV.g (SC.y 5 (x0 ++ [10])), HV.a (AV.B x1)]]))
theorem f15_p0_eq (x0 : List UInt8) (x1 : Bool) : f15_k0 (mkSt [(0, (EV.v (AV.P 0 0)))] [] [(HO.cells [(HV.a (AV.P 0 0)), (HV.g (SC.y 5 x0)), (HV.a (AV.B x1))])]) = f15_p0 x0 x1 := by
  kernel_rfl
noncomputable def f15_p1 (x0 : Int) (x1 : Int) (x2 : Int) (x3 : Int) (x4 : Int) (x5 : Int) (x6 : Int) (x7 : Int) (x8 : Int) (x9 : Int) (x10 : Int) (x11 : List UInt8) (x12 : List UInt8) (x13 : List UInt8) (x14 : Bool) : Res :=
      chk (decide (List.length x12 ≤ 140737488355328)) (
      chk (Sp.pre sp30 [AV.S x12] []) (
      chk (decide (1 + List.length (hexB x12) ≤ 140737488355328)) (
      chk (Sp.pre sp14 [AV.P 0 0, AV.S ([32] ++ hexB x12)] [HO.cells [HV.a (AV.P 0 0), HV.g (SC.y 5 x13), HV.a (AV.B x14)]]) (
      f15_p0 (x13 ++ ([32] ++ hexB x12)) x14))))
theorem f15_p1_eq (x0 : Int) (x1 : Int) (x2 : Int) (x3 : Int) (x4 : Int) (x5 : Int) (x6 : Int) (x7 : Int) (x8 : Int) (x9 : Int) (x10 : Int) (x11 : List UInt8) (x12 : List UInt8) (x13 : List UInt8) (x14 : Bool) : f15_k1 (mkSt [(0, (EV.v (AV.P 0 0))), (3, (EV.lp 3 0 0))] [(3, LOv.mk 0 (LO.box 0 [(HV.a (AV.I IntKind.i64 x0)), (HV.a (AV.I IntKind.i64 x1)), (HV.a (AV.I IntKind.i64 x2)), (HV.a (AV.I IntKind.i64 x3)), (HV.a (AV.I IntKind.i64 x4)), (HV.a (AV.I IntKind.i64 x5)), (HV.a (AV.I IntKind.i64 x6)), (HV.a (AV.I IntKind.u64 x7)), (HV.a (AV.I IntKind.u64 x8)), (HV.a (AV.I IntKind.i64 x9)), (HV.a (AV.I IntKind.i64 x10)), (HV.a (AV.S x11)), (HV.a (AV.Y x12))]))] [(HO.cells [(HV.a (AV.P 0 0)), (HV.g (SC.y 5 x13)), (HV.a (AV.B x14))])]) = f15_p1 x0 x1 x2 x3 x4 x5 x6 x7 x8 x9 x10 x11 x12 x13 x14 := by
  refine Eq.trans (b :=
      chk (decide (List.length x12 ≤ 140737488355328)) (
      chk (Sp.pre sp30 [AV.S x12] []) (
      chk (decide (1 + List.length (hexB x12) ≤ 140737488355328)) (
      chk (Sp.pre sp14 [AV.P 0 0, AV.S ([32] ++ hexB x12)] [HO.cells [HV.a (AV.P 0 0), HV.g (SC.y 5 x13), HV.a (AV.B x14)]]) (
      f15_k0 (mkSt [(0, (EV.v (AV.P 0 0)))] [] [(HO.cells [(HV.a (AV.P 0 0)), (HV.g (SC.y 5 (x13 ++ ([32] ++ hexB x12)))), (HV.a (AV.B x14))])])))))) (by kernel_rfl) ?_
  simp only [f15_p1, f15_p0_eq]
noncomputable def f15_p2 (x0 : Int) (x1 : Int) (x2 : Int) (x3 : Int) (x4 : Int) (x5 : Int) (x6 : Int) (x7 : Int) (x8 : Int) (x9 : Int) (x10 : Int) (x11 : List UInt8) (x12 : List UInt8) (x13 : List UInt8) (x14 : Bool) : Res :=
      chk (Sp.pre sp28 [AV.P 0 0, AV.A [AV.I IntKind.i64 x9, AV.I IntKind.i64 x10, AV.S x11]] [HO.cells [HV.a (AV.P 0 0), HV.g (SC.y 5 x13), HV.a (AV.B x14)]]) (
      f15_p0 (x13 ++ opB x9 x10 x11) (x14 || decide (opErr x9 x10 x11 ≠ 0)))
theorem f15_p2_eq (x0 : Int) (x1 : Int) (x2 : Int) (x3 : Int) (x4 : Int) (x5 : Int) (x6 : Int) (x7 : Int) (x8 : Int) (x9 : Int) (x10 : Int) (x11 : List UInt8) (x12 : List UInt8) (x13 : List UInt8) (x14 : Bool) : f15_k3 (mkSt [(0, (EV.v (AV.P 0 0))), (3, (EV.lp 3 0 0))] [(3, LOv.mk 0 (LO.box 0 [(HV.a (AV.I IntKind.i64 x0)), (HV.a (AV.I IntKind.i64 x1)), (HV.a (AV.I IntKind.i64 x2)), (HV.a (AV.I IntKind.i64 x3)), (HV.a (AV.I IntKind.i64 x4)), (HV.a (AV.I IntKind.i64 x5)), (HV.a (AV.I IntKind.i64 x6)), (HV.a (AV.I IntKind.u64 x7)), (HV.a (AV.I IntKind.u64 x8)), (HV.a (AV.I IntKind.i64 x9)), (HV.a (AV.I IntKind.i64 x10)), (HV.a (AV.S x11)), (HV.a (AV.Y x12))]))] [(HO.cells [(HV.a (AV.P 0 0)), (HV.g (SC.y 5 x13)), (HV.a (AV.B x14))])]) = f15_p2 x0 x1 x2 x3 x4 x5 x6 x7 x8 x9 x10 x11 x12 x13 x14 := by
  refine Eq.trans (b :=
      chk (Sp.pre sp28 [AV.P 0 0, AV.A [AV.I IntKind.i64 x9, AV.I IntKind.i64 x10, AV.S x11]] [HO.cells [HV.a (AV.P 0 0), HV.g (SC.y 5 x13), HV.a (AV.B x14)]]) (
      f15_k0 (mkSt [(0, (EV.v (AV.P 0 0)))] [] [(HO.cells [(HV.a (AV.P 0 0)), (HV.g (SC.y 5 (x13 ++ opB x9 x10 x11))), (HV.a (AV.B (x14 || decide (opErr x9 x10 x11 ≠ 0))))])]))) (by kernel_rfl) ?_
  simp only [f15_p2, f15_p0_eq]
noncomputable def f15_e (x0 : Int) (x1 : Int) (x2 : Int) (x3 : Int) (x4 : Int) (x5 : Int) (x6 : Int) (x7 : Int) (x8 : Int) (x9 : Int) (x10 : Int) (x11 : List UInt8) (x12 : List UInt8) (x13 : List UInt8) (x14 : Bool) : Res :=
      bIte (x0 == 1) (
      chk (Sp.pre sp13 [AV.P 0 0, AV.S [115, 117, 98, 109, 105, 116], AV.L 1 [[AV.I IntKind.i64 x2]]] [HO.cells [HV.a (AV.P 0 0), HV.g (SC.y 5 x13), HV.a (AV.B x14)]]) (
      chk (Sp.pre sp28 [AV.P 0 0, AV.A [AV.I IntKind.i64 x9, AV.I IntKind.i64 x10, AV.S x11]] [HO.cells [HV.a (AV.P 0 0), HV.g (SC.y 5 (x13 ++ [115, 117, 98, 109, 105, 116] ++ sayB [x2])), HV.a (AV.B (x14 || anyNeg [x2]))]]) (
      f15_p0 (x13 ++ [115, 117, 98, 109, 105, 116] ++ sayB [x2] ++ opB x9 x10 x11) (x14 || anyNeg [x2] || decide (opErr x9 x10 x11 ≠ 0))))) (
      bIte (x0 == 2) (
      chk (Sp.pre sp13 [AV.P 0 0, AV.S [114, 101, 116, 114, 121], AV.L 1 [[AV.I IntKind.i64 x2]]] [HO.cells [HV.a (AV.P 0 0), HV.g (SC.y 5 x13), HV.a (AV.B x14)]]) (
      f15_p0 (x13 ++ [114, 101, 116, 114, 121] ++ sayB [x2]) (x14 || anyNeg [x2]))) (
      bIte (x0 == 3) (
      chk (Sp.pre sp13 [AV.P 0 0, AV.S [100, 101, 108, 105, 118, 101, 114], AV.L 1 [[AV.I IntKind.i64 x3]]] [HO.cells [HV.a (AV.P 0 0), HV.g (SC.y 5 x13), HV.a (AV.B x14)]]) (
      chk (Sp.pre sp29 [AV.P 0 0, AV.I IntKind.i64 x6] [HO.cells [HV.a (AV.P 0 0), HV.g (SC.y 5 (x13 ++ [100, 101, 108, 105, 118, 101, 114] ++ sayB [x3])), HV.a (AV.B (x14 || anyNeg [x3]))]]) (
      f15_p0 (x13 ++ [100, 101, 108, 105, 118, 101, 114] ++ sayB [x3] ++ cutB x6) (x14 || anyNeg [x3] || decide (x6 < 0))))) (
      bIte (x0 == 4) (
      chk (Sp.pre sp13 [AV.P 0 0, AV.S [100, 114, 111, 112], AV.L 1 [[AV.I IntKind.i64 x3]]] [HO.cells [HV.a (AV.P 0 0), HV.g (SC.y 5 x13), HV.a (AV.B x14)]]) (
      f15_p0 (x13 ++ [100, 114, 111, 112] ++ sayB [x3]) (x14 || anyNeg [x3]))) (
      bIte (x0 == 5) (
      chk (Sp.pre sp13 [AV.P 0 0, AV.S [99, 111, 112, 121], AV.L 1 [[AV.I IntKind.i64 x3]]] [HO.cells [HV.a (AV.P 0 0), HV.g (SC.y 5 x13), HV.a (AV.B x14)]]) (
      f15_p0 (x13 ++ [99, 111, 112, 121] ++ sayB [x3]) (x14 || anyNeg [x3]))) (
      bIte (x0 == 6) (
      chk (Sp.pre sp13 [AV.P 0 0, AV.S [115, 112, 111, 105, 108], AV.L 1 [[AV.I IntKind.i64 x3], [AV.I IntKind.i64 x4], [AV.I IntKind.i64 x5]]] [HO.cells [HV.a (AV.P 0 0), HV.g (SC.y 5 x13), HV.a (AV.B x14)]]) (
      f15_p0 (x13 ++ [115, 112, 111, 105, 108] ++ sayB [x3, x4, x5]) (x14 || anyNeg [x3, x4, x5]))) (
      bIte (x0 == 7) (
      chk (Sp.pre sp13 [AV.P 0 0, AV.S [105, 110, 106, 101, 99, 116], AV.L 1 [[AV.I IntKind.i64 x4], [AV.I IntKind.i64 x1]]] [HO.cells [HV.a (AV.P 0 0), HV.g (SC.y 5 x13), HV.a (AV.B x14)]]) (
      bIte (x14 || anyNeg [x4, x1]) (
      f15_p1 x0 x1 x2 x3 x4 x5 x6 x7 x8 x9 x10 x11 x12 (x13 ++ [105, 110, 106, 101, 99, 116] ++ sayB [x4, x1]) true) (
      f15_p1 x0 x1 x2 x3 x4 x5 x6 x7 x8 x9 x10 x11 x12 (x13 ++ [105, 110, 106, 101, 99, 116] ++ sayB [x4, x1]) (decide ((↑(List.length x12) : Int) > 32768))))) (
      bIte (x0 == 8) (
      chk (Sp.pre sp13 [AV.P 0 0, AV.S [116, 105, 99, 107], AV.L 1 [[AV.I IntKind.i64 x1]]] [HO.cells [HV.a (AV.P 0 0), HV.g (SC.y 5 x13), HV.a (AV.B x14)]]) (
      chk (Sp.pre sp29 [AV.P 0 0, AV.I IntKind.i64 x6] [HO.cells [HV.a (AV.P 0 0), HV.g (SC.y 5 (x13 ++ [116, 105, 99, 107] ++ sayB [x1])), HV.a (AV.B (x14 || anyNeg [x1]))]]) (
      f15_p0 (x13 ++ [116, 105, 99, 107] ++ sayB [x1] ++ cutB x6) (x14 || anyNeg [x1] || decide (x6 < 0))))) (
      bIte (x0 == 9) (
      chk (Sp.pre sp13 [AV.P 0 0, AV.S [99, 114, 97, 115, 104], AV.L 1 [[AV.I IntKind.i64 x1]]] [HO.cells [HV.a (AV.P 0 0), HV.g (SC.y 5 x13), HV.a (AV.B x14)]]) (
      f15_p0 (x13 ++ [99, 114, 97, 115, 104] ++ sayB [x1]) (x14 || anyNeg [x1]))) (
      bIte (x0 == 10) (
      chk (Sp.pre sp13 [AV.P 0 0, AV.S [114, 101, 115, 116, 97, 114, 116], AV.L 1 [[AV.I IntKind.i64 x1]]] [HO.cells [HV.a (AV.P 0 0), HV.g (SC.y 5 x13), HV.a (AV.B x14)]]) (
      chk (decide (1 + List.length (drawB x7 x8) ≤ 140737488355328)) (
      chk (Sp.pre sp14 [AV.P 0 0, AV.S ([32] ++ drawB x7 x8)] [HO.cells [HV.a (AV.P 0 0), HV.g (SC.y 5 (x13 ++ [114, 101, 115, 116, 97, 114, 116] ++ sayB [x1])), HV.a (AV.B (x14 || anyNeg [x1]))]]) (
      chk (Sp.pre sp29 [AV.P 0 0, AV.I IntKind.i64 x6] [HO.cells [HV.a (AV.P 0 0), HV.g (SC.y 5 (x13 ++ [114, 101, 115, 116, 97, 114, 116] ++ sayB [x1] ++ ([32] ++ drawB x7 x8))), HV.a (AV.B (x14 || anyNeg [x1]))]]) (
      f15_p0 (x13 ++ [114, 101, 115, 116, 97, 114, 116] ++ sayB [x1] ++ ([32] ++ drawB x7 x8) ++ cutB x6) (x14 || anyNeg [x1] || decide (x6 < 0))))))) (
      bIte (x0 == 11) (
      chk (Sp.pre sp13 [AV.P 0 0, AV.S [114, 111, 117, 110, 100], AV.L 1 [[AV.I IntKind.i64 x5]]] [HO.cells [HV.a (AV.P 0 0), HV.g (SC.y 5 x13), HV.a (AV.B x14)]]) (
      f15_p0 (x13 ++ [114, 111, 117, 110, 100] ++ sayB [x5]) (x14 || anyNeg [x5]))) (
      bIte (x0 == 12) (
      chk (Sp.pre sp13 [AV.P 0 0, AV.S [113, 117, 101, 114, 121], AV.L 1 [[AV.I IntKind.i64 x2], [AV.I IntKind.i64 x1]]] [HO.cells [HV.a (AV.P 0 0), HV.g (SC.y 5 x13), HV.a (AV.B x14)]]) (
      bIte (x14 || anyNeg [x2, x1]) (
      f15_p2 x0 x1 x2 x3 x4 x5 x6 x7 x8 x9 x10 x11 x12 (x13 ++ [113, 117, 101, 114, 121] ++ sayB [x2, x1]) true) (
      bIte (x9 != 3) (
      f15_p2 x0 x1 x2 x3 x4 x5 x6 x7 x8 x9 x10 x11 x12 (x13 ++ [113, 117, 101, 114, 121] ++ sayB [x2, x1]) (x9 != 4)) (
      f15_p2 x0 x1 x2 x3 x4 x5 x6 x7 x8 x9 x10 x11 x12 (x13 ++ [113, 117, 101, 114, 121] ++ sayB [x2, x1]) false)))) (
      f15_p0 x13 true))))))))))))
theorem f15_eq (x0 : Int) (x1 : Int) (x2 : Int) (x3 : Int) (x4 : Int) (x5 : Int) (x6 : Int) (x7 : Int) (x8 : Int) (x9 : Int) (x10 : Int) (x11 : List UInt8) (x12 : List UInt8) (x13 : List UInt8) (x14 : Bool) : f15_sem [(AV.P 0 0), (AV.A [(AV.I IntKind.i64 x0), (AV.I IntKind.i64 x1), (AV.I IntKind.i64 x2), (AV.I IntKind.i64 x3), (AV.I IntKind.i64 x4), (AV.I IntKind.i64 x5), (AV.I IntKind.i64 x6), (AV.I IntKind.u64 x7), (AV.I IntKind.u64 x8), (AV.I IntKind.i64 x9), (AV.I IntKind.i64 x10), (AV.S x11), (AV.Y x12)])] [(HO.cells [(HV.a (AV.P 0 0)), (HV.g (SC.y 5 x13)), (HV.a (AV.B x14))])] = f15_e x0 x1 x2 x3 x4 x5 x6 x7 x8 x9 x10 x11 x12 x13 x14 := by
  refine Eq.trans (b :=
      bIte (x0 == 1) (
      chk (Sp.pre sp13 [AV.P 0 0, AV.S [115, 117, 98, 109, 105, 116], AV.L 1 [[AV.I IntKind.i64 x2]]] [HO.cells [HV.a (AV.P 0 0), HV.g (SC.y 5 x13), HV.a (AV.B x14)]]) (
      chk (Sp.pre sp28 [AV.P 0 0, AV.A [AV.I IntKind.i64 x9, AV.I IntKind.i64 x10, AV.S x11]] [HO.cells [HV.a (AV.P 0 0), HV.g (SC.y 5 (x13 ++ [115, 117, 98, 109, 105, 116] ++ sayB [x2])), HV.a (AV.B (x14 || anyNeg [x2]))]]) (
      f15_k0 (mkSt [(0, (EV.v (AV.P 0 0)))] [] [(HO.cells [(HV.a (AV.P 0 0)), (HV.g (SC.y 5 (x13 ++ [115, 117, 98, 109, 105, 116] ++ sayB [x2] ++ opB x9 x10 x11))), (HV.a (AV.B (x14 || anyNeg [x2] || decide (opErr x9 x10 x11 ≠ 0))))])])))) (
      bIte (x0 == 2) (
      chk (Sp.pre sp13 [AV.P 0 0, AV.S [114, 101, 116, 114, 121], AV.L 1 [[AV.I IntKind.i64 x2]]] [HO.cells [HV.a (AV.P 0 0), HV.g (SC.y 5 x13), HV.a (AV.B x14)]]) (
      f15_k0 (mkSt [(0, (EV.v (AV.P 0 0)))] [] [(HO.cells [(HV.a (AV.P 0 0)), (HV.g (SC.y 5 (x13 ++ [114, 101, 116, 114, 121] ++ sayB [x2]))), (HV.a (AV.B (x14 || anyNeg [x2])))])]))) (
      bIte (x0 == 3) (
      chk (Sp.pre sp13 [AV.P 0 0, AV.S [100, 101, 108, 105, 118, 101, 114], AV.L 1 [[AV.I IntKind.i64 x3]]] [HO.cells [HV.a (AV.P 0 0), HV.g (SC.y 5 x13), HV.a (AV.B x14)]]) (
      chk (Sp.pre sp29 [AV.P 0 0, AV.I IntKind.i64 x6] [HO.cells [HV.a (AV.P 0 0), HV.g (SC.y 5 (x13 ++ [100, 101, 108, 105, 118, 101, 114] ++ sayB [x3])), HV.a (AV.B (x14 || anyNeg [x3]))]]) (
      f15_k0 (mkSt [(0, (EV.v (AV.P 0 0)))] [] [(HO.cells [(HV.a (AV.P 0 0)), (HV.g (SC.y 5 (x13 ++ [100, 101, 108, 105, 118, 101, 114] ++ sayB [x3] ++ cutB x6))), (HV.a (AV.B (x14 || anyNeg [x3] || decide (x6 < 0))))])])))) (
      bIte (x0 == 4) (
      chk (Sp.pre sp13 [AV.P 0 0, AV.S [100, 114, 111, 112], AV.L 1 [[AV.I IntKind.i64 x3]]] [HO.cells [HV.a (AV.P 0 0), HV.g (SC.y 5 x13), HV.a (AV.B x14)]]) (
      f15_k0 (mkSt [(0, (EV.v (AV.P 0 0)))] [] [(HO.cells [(HV.a (AV.P 0 0)), (HV.g (SC.y 5 (x13 ++ [100, 114, 111, 112] ++ sayB [x3]))), (HV.a (AV.B (x14 || anyNeg [x3])))])]))) (
      bIte (x0 == 5) (
      chk (Sp.pre sp13 [AV.P 0 0, AV.S [99, 111, 112, 121], AV.L 1 [[AV.I IntKind.i64 x3]]] [HO.cells [HV.a (AV.P 0 0), HV.g (SC.y 5 x13), HV.a (AV.B x14)]]) (
      f15_k0 (mkSt [(0, (EV.v (AV.P 0 0)))] [] [(HO.cells [(HV.a (AV.P 0 0)), (HV.g (SC.y 5 (x13 ++ [99, 111, 112, 121] ++ sayB [x3]))), (HV.a (AV.B (x14 || anyNeg [x3])))])]))) (
      bIte (x0 == 6) (
      chk (Sp.pre sp13 [AV.P 0 0, AV.S [115, 112, 111, 105, 108], AV.L 1 [[AV.I IntKind.i64 x3], [AV.I IntKind.i64 x4], [AV.I IntKind.i64 x5]]] [HO.cells [HV.a (AV.P 0 0), HV.g (SC.y 5 x13), HV.a (AV.B x14)]]) (
      f15_k0 (mkSt [(0, (EV.v (AV.P 0 0)))] [] [(HO.cells [(HV.a (AV.P 0 0)), (HV.g (SC.y 5 (x13 ++ [115, 112, 111, 105, 108] ++ sayB [x3, x4, x5]))), (HV.a (AV.B (x14 || anyNeg [x3, x4, x5])))])]))) (
      bIte (x0 == 7) (
      chk (Sp.pre sp13 [AV.P 0 0, AV.S [105, 110, 106, 101, 99, 116], AV.L 1 [[AV.I IntKind.i64 x4], [AV.I IntKind.i64 x1]]] [HO.cells [HV.a (AV.P 0 0), HV.g (SC.y 5 x13), HV.a (AV.B x14)]]) (
      bIte (x14 || anyNeg [x4, x1]) (
      f15_k1 (mkSt [(0, (EV.v (AV.P 0 0))), (3, (EV.lp 3 0 0))] [(3, LOv.mk 0 (LO.box 0 [(HV.a (AV.I IntKind.i64 x0)), (HV.a (AV.I IntKind.i64 x1)), (HV.a (AV.I IntKind.i64 x2)), (HV.a (AV.I IntKind.i64 x3)), (HV.a (AV.I IntKind.i64 x4)), (HV.a (AV.I IntKind.i64 x5)), (HV.a (AV.I IntKind.i64 x6)), (HV.a (AV.I IntKind.u64 x7)), (HV.a (AV.I IntKind.u64 x8)), (HV.a (AV.I IntKind.i64 x9)), (HV.a (AV.I IntKind.i64 x10)), (HV.a (AV.S x11)), (HV.a (AV.Y x12))]))] [(HO.cells [(HV.a (AV.P 0 0)), (HV.g (SC.y 5 (x13 ++ [105, 110, 106, 101, 99, 116] ++ sayB [x4, x1]))), (HV.a (AV.B true))])])) (
      f15_k1 (mkSt [(0, (EV.v (AV.P 0 0))), (3, (EV.lp 3 0 0))] [(3, LOv.mk 0 (LO.box 0 [(HV.a (AV.I IntKind.i64 x0)), (HV.a (AV.I IntKind.i64 x1)), (HV.a (AV.I IntKind.i64 x2)), (HV.a (AV.I IntKind.i64 x3)), (HV.a (AV.I IntKind.i64 x4)), (HV.a (AV.I IntKind.i64 x5)), (HV.a (AV.I IntKind.i64 x6)), (HV.a (AV.I IntKind.u64 x7)), (HV.a (AV.I IntKind.u64 x8)), (HV.a (AV.I IntKind.i64 x9)), (HV.a (AV.I IntKind.i64 x10)), (HV.a (AV.S x11)), (HV.a (AV.Y x12))]))] [(HO.cells [(HV.a (AV.P 0 0)), (HV.g (SC.y 5 (x13 ++ [105, 110, 106, 101, 99, 116] ++ sayB [x4, x1]))), (HV.a (AV.B (decide ((↑(List.length x12) : Int) > 32768))))])])))) (
      bIte (x0 == 8) (
      chk (Sp.pre sp13 [AV.P 0 0, AV.S [116, 105, 99, 107], AV.L 1 [[AV.I IntKind.i64 x1]]] [HO.cells [HV.a (AV.P 0 0), HV.g (SC.y 5 x13), HV.a (AV.B x14)]]) (
      chk (Sp.pre sp29 [AV.P 0 0, AV.I IntKind.i64 x6] [HO.cells [HV.a (AV.P 0 0), HV.g (SC.y 5 (x13 ++ [116, 105, 99, 107] ++ sayB [x1])), HV.a (AV.B (x14 || anyNeg [x1]))]]) (
      f15_k0 (mkSt [(0, (EV.v (AV.P 0 0)))] [] [(HO.cells [(HV.a (AV.P 0 0)), (HV.g (SC.y 5 (x13 ++ [116, 105, 99, 107] ++ sayB [x1] ++ cutB x6))), (HV.a (AV.B (x14 || anyNeg [x1] || decide (x6 < 0))))])])))) (
      bIte (x0 == 9) (
      chk (Sp.pre sp13 [AV.P 0 0, AV.S [99, 114, 97, 115, 104], AV.L 1 [[AV.I IntKind.i64 x1]]] [HO.cells [HV.a (AV.P 0 0), HV.g (SC.y 5 x13), HV.a (AV.B x14)]]) (
      f15_k0 (mkSt [(0, (EV.v (AV.P 0 0)))] [] [(HO.cells [(HV.a (AV.P 0 0)), (HV.g (SC.y 5 (x13 ++ [99, 114, 97, 115, 104] ++ sayB [x1]))), (HV.a (AV.B (x14 || anyNeg [x1])))])]))) (
      bIte (x0 == 10) (
      chk (Sp.pre sp13 [AV.P 0 0, AV.S [114, 101, 115, 116, 97, 114, 116], AV.L 1 [[AV.I IntKind.i64 x1]]] [HO.cells [HV.a (AV.P 0 0), HV.g (SC.y 5 x13), HV.a (AV.B x14)]]) (
      chk (decide (1 + List.length (drawB x7 x8) ≤ 140737488355328)) (
      chk (Sp.pre sp14 [AV.P 0 0, AV.S ([32] ++ drawB x7 x8)] [HO.cells [HV.a (AV.P 0 0), HV.g (SC.y 5 (x13 ++ [114, 101, 115, 116, 97, 114, 116] ++ sayB [x1])), HV.a (AV.B (x14 || anyNeg [x1]))]]) (
      chk (Sp.pre sp29 [AV.P 0 0, AV.I IntKind.i64 x6] [HO.cells [HV.a (AV.P 0 0), HV.g (SC.y 5 (x13 ++ [114, 101, 115, 116, 97, 114, 116] ++ sayB [x1] ++ ([32] ++ drawB x7 x8))), HV.a (AV.B (x14 || anyNeg [x1]))]]) (
      f15_k0 (mkSt [(0, (EV.v (AV.P 0 0)))] [] [(HO.cells [(HV.a (AV.P 0 0)), (HV.g (SC.y 5 (x13 ++ [114, 101, 115, 116, 97, 114, 116] ++ sayB [x1] ++ ([32] ++ drawB x7 x8) ++ cutB x6))), (HV.a (AV.B (x14 || anyNeg [x1] || decide (x6 < 0))))])])))))) (
      bIte (x0 == 11) (
      chk (Sp.pre sp13 [AV.P 0 0, AV.S [114, 111, 117, 110, 100], AV.L 1 [[AV.I IntKind.i64 x5]]] [HO.cells [HV.a (AV.P 0 0), HV.g (SC.y 5 x13), HV.a (AV.B x14)]]) (
      f15_k0 (mkSt [(0, (EV.v (AV.P 0 0)))] [] [(HO.cells [(HV.a (AV.P 0 0)), (HV.g (SC.y 5 (x13 ++ [114, 111, 117, 110, 100] ++ sayB [x5]))), (HV.a (AV.B (x14 || anyNeg [x5])))])]))) (
      bIte (x0 == 12) (
      chk (Sp.pre sp13 [AV.P 0 0, AV.S [113, 117, 101, 114, 121], AV.L 1 [[AV.I IntKind.i64 x2], [AV.I IntKind.i64 x1]]] [HO.cells [HV.a (AV.P 0 0), HV.g (SC.y 5 x13), HV.a (AV.B x14)]]) (
      bIte (x14 || anyNeg [x2, x1]) (
      f15_k3 (mkSt [(0, (EV.v (AV.P 0 0))), (3, (EV.lp 3 0 0))] [(3, LOv.mk 0 (LO.box 0 [(HV.a (AV.I IntKind.i64 x0)), (HV.a (AV.I IntKind.i64 x1)), (HV.a (AV.I IntKind.i64 x2)), (HV.a (AV.I IntKind.i64 x3)), (HV.a (AV.I IntKind.i64 x4)), (HV.a (AV.I IntKind.i64 x5)), (HV.a (AV.I IntKind.i64 x6)), (HV.a (AV.I IntKind.u64 x7)), (HV.a (AV.I IntKind.u64 x8)), (HV.a (AV.I IntKind.i64 x9)), (HV.a (AV.I IntKind.i64 x10)), (HV.a (AV.S x11)), (HV.a (AV.Y x12))]))] [(HO.cells [(HV.a (AV.P 0 0)), (HV.g (SC.y 5 (x13 ++ [113, 117, 101, 114, 121] ++ sayB [x2, x1]))), (HV.a (AV.B true))])])) (
      bIte (x9 != 3) (
      f15_k3 (mkSt [(0, (EV.v (AV.P 0 0))), (3, (EV.lp 3 0 0))] [(3, LOv.mk 0 (LO.box 0 [(HV.a (AV.I IntKind.i64 x0)), (HV.a (AV.I IntKind.i64 x1)), (HV.a (AV.I IntKind.i64 x2)), (HV.a (AV.I IntKind.i64 x3)), (HV.a (AV.I IntKind.i64 x4)), (HV.a (AV.I IntKind.i64 x5)), (HV.a (AV.I IntKind.i64 x6)), (HV.a (AV.I IntKind.u64 x7)), (HV.a (AV.I IntKind.u64 x8)), (HV.a (AV.I IntKind.i64 x9)), (HV.a (AV.I IntKind.i64 x10)), (HV.a (AV.S x11)), (HV.a (AV.Y x12))]))] [(HO.cells [(HV.a (AV.P 0 0)), (HV.g (SC.y 5 (x13 ++ [113, 117, 101, 114, 121] ++ sayB [x2, x1]))), (HV.a (AV.B (x9 != 4)))])])) (
      f15_k3 (mkSt [(0, (EV.v (AV.P 0 0))), (3, (EV.lp 3 0 0))] [(3, LOv.mk 0 (LO.box 0 [(HV.a (AV.I IntKind.i64 x0)), (HV.a (AV.I IntKind.i64 x1)), (HV.a (AV.I IntKind.i64 x2)), (HV.a (AV.I IntKind.i64 x3)), (HV.a (AV.I IntKind.i64 x4)), (HV.a (AV.I IntKind.i64 x5)), (HV.a (AV.I IntKind.i64 x6)), (HV.a (AV.I IntKind.u64 x7)), (HV.a (AV.I IntKind.u64 x8)), (HV.a (AV.I IntKind.i64 x9)), (HV.a (AV.I IntKind.i64 x10)), (HV.a (AV.S x11)), (HV.a (AV.Y x12))]))] [(HO.cells [(HV.a (AV.P 0 0)), (HV.g (SC.y 5 (x13 ++ [113, 117, 101, 114, 121] ++ sayB [x2, x1]))), (HV.a (AV.B false))])]))))) (
      f15_k0 (mkSt [(0, (EV.v (AV.P 0 0)))] [] [(HO.cells [(HV.a (AV.P 0 0)), (HV.g (SC.y 5 x13)), (HV.a (AV.B true))])])))))))))))))) (by kernel_rfl) ?_
  simp only [f15_e, f15_p2_eq, f15_p1_eq, f15_p0_eq]
end Go.Vm
