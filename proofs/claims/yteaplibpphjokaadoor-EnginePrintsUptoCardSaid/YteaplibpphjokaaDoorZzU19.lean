/- Part of a proof: ZzU19. -/
import Derived.Test.YteaplibpphjokaaDoorZzSp3
import Derived.Test.YteaplibpphjokaaDoorVE
set_option linter.unusedSimpArgs false
set_option linter.unusedVariables false
set_option linter.unusedSectionVars false
namespace Go.Vm
open Go (IntKind Fn)
set_option maxHeartbeats 0
noncomputable def S19 : Nat → Sp := fun g => bif Nat.beq g 34 then sp34 else bif Nat.beq g 36 then sp36 else bif Nat.beq g 35 then sp35 else bif Nat.beq g 33 then sp33 else bif Nat.beq g 18 then sp18 else spN
noncomputable def f19_sem : List AV → List HO → Res := semU cx (ann19x FU) Go.Proofs.Tryd.f19 S19
noncomputable def f19_k1 : St → Res := aC cx (ann19x FU) (altAlg cx.pure S19) (altAlg cx.pure S19) (sq2 (sq2 (bodyOf Go.Proofs.Tryd.f19))) (resK (altAlg cx.pure S19) cx (ann19x FU) Go.Proofs.Tryd.f19) (fun _ _ => Res.stuck) (resK (altAlg cx.pure S19) cx (ann19x FU) Go.Proofs.Tryd.f19)
noncomputable def f19_j1 : St → Res := fun s => f19_k1 (nrm (ann19x FU) (headId (sq2 (sq2 (bodyOf Go.Proofs.Tryd.f19)))) s)
noncomputable def f19_x2 : Nat → St → Res := fun i s => if i = 0 then (f19_j1) s else (fun _ _ => Res.stuck) i s
noncomputable def f19_k0 : St → Res := aC cx (ann19x FU) (altAlg cx.pure S19) (altAlg cx.pure S19) (sq2 (sq2 (cn1 (sq2 (blk (sq2 (sq1 (sq2 (bodyOf Go.Proofs.Tryd.f19))))))))) (f19_j1) (f19_x2) (resK (altAlg cx.pure S19) cx (ann19x FU) Go.Proofs.Tryd.f19)
noncomputable def f19_j0 : St → Res := fun s => f19_k0 (nrm (ann19x FU) (headId (sq2 (sq2 (cn1 (sq2 (blk (sq2 (sq1 (sq2 (bodyOf Go.Proofs.Tryd.f19)))))))))) s)
noncomputable def f19_k3 : St → Res := aC cx (ann19x FU) (altAlg cx.pure S19) (altAlg cx.pure S19) (sq2 (sq2 (cn1 (sq2 (cn2 (sq2 (blk (sq2 (sq1 (sq2 (bodyOf Go.Proofs.Tryd.f19))))))))))) (f19_j1) (f19_x2) (resK (altAlg cx.pure S19) cx (ann19x FU) Go.Proofs.Tryd.f19)
noncomputable def f19_j3 : St → Res := fun s => f19_k3 (nrm (ann19x FU) (headId (sq2 (sq2 (cn1 (sq2 (cn2 (sq2 (blk (sq2 (sq1 (sq2 (bodyOf Go.Proofs.Tryd.f19)))))))))))) s)
noncomputable def f19_p0 (x0 : List UInt8) (x1 : Int) (x2 : Int) (x3 : Int) (x4 : Int) (x5 : Int) (x6 : Int) (x7 : Int) (x8 : Int) (x9 : Int) (x10 : Int) (x11 : Int) (x12 : List UInt8) (x13 : List UInt8) : Res :=
      bIte (decide (x3 ≥ 0)) (
      Res.ret (AV.T [AV.S x0, AV.B (opErr x10 x11 x12 == 0)]) ([])) (
      Res.ret (AV.T [AV.S x0, AV.B false]) ([]))
theorem f19_p0_eq (x0 : List UInt8) (x1 : Int) (x2 : Int) (x3 : Int) (x4 : Int) (x5 : Int) (x6 : Int) (x7 : Int) (x8 : Int) (x9 : Int) (x10 : Int) (x11 : Int) (x12 : List UInt8) (x13 : List UInt8) : f19_k0 (mkSt [(1, (EV.lp 1 0 0)), (4, (EV.v (AV.S x0)))] [(1, LOv.mk 0 (LO.box 0 [(HV.a (AV.I IntKind.i64 x1)), (HV.a (AV.I IntKind.i64 x2)), (HV.a (AV.I IntKind.i64 x3)), (HV.a (AV.I IntKind.i64 x4)), (HV.a (AV.I IntKind.i64 x5)), (HV.a (AV.I IntKind.i64 x6)), (HV.a (AV.I IntKind.i64 x7)), (HV.a (AV.I IntKind.u64 x8)), (HV.a (AV.I IntKind.u64 x9)), (HV.a (AV.I IntKind.i64 x10)), (HV.a (AV.I IntKind.i64 x11)), (HV.a (AV.S x12)), (HV.a (AV.Y x13))]))] []) = f19_p0 x0 x1 x2 x3 x4 x5 x6 x7 x8 x9 x10 x11 x12 x13 := by
  kernel_rfl
noncomputable def f19_p1 (x0 : List UInt8) (x1 : Int) (x2 : Int) (x3 : Int) (x4 : Int) (x5 : Int) (x6 : Int) (x7 : Int) (x8 : Int) (x9 : Int) (x10 : Int) (x11 : Int) (x12 : List UInt8) (x13 : List UInt8) : Res :=
      bIte (decide (x3 ≥ 0)) (
      bIte (decide (x2 ≥ 0)) (
      bIte (opErr x10 x11 x12 == 0) (
      bIte (x10 == 3) (
      Res.ret (AV.T [AV.S x0, AV.B true]) ([])) (
      Res.ret (AV.T [AV.S x0, AV.B (x10 == 4)]) ([]))) (
      Res.ret (AV.T [AV.S x0, AV.B false]) ([]))) (
      Res.ret (AV.T [AV.S x0, AV.B false]) ([]))) (
      Res.ret (AV.T [AV.S x0, AV.B false]) ([]))
theorem f19_p1_eq (x0 : List UInt8) (x1 : Int) (x2 : Int) (x3 : Int) (x4 : Int) (x5 : Int) (x6 : Int) (x7 : Int) (x8 : Int) (x9 : Int) (x10 : Int) (x11 : Int) (x12 : List UInt8) (x13 : List UInt8) : f19_k3 (mkSt [(1, (EV.lp 1 0 0)), (5, (EV.v (AV.S x0)))] [(1, LOv.mk 0 (LO.box 0 [(HV.a (AV.I IntKind.i64 x1)), (HV.a (AV.I IntKind.i64 x2)), (HV.a (AV.I IntKind.i64 x3)), (HV.a (AV.I IntKind.i64 x4)), (HV.a (AV.I IntKind.i64 x5)), (HV.a (AV.I IntKind.i64 x6)), (HV.a (AV.I IntKind.i64 x7)), (HV.a (AV.I IntKind.u64 x8)), (HV.a (AV.I IntKind.u64 x9)), (HV.a (AV.I IntKind.i64 x10)), (HV.a (AV.I IntKind.i64 x11)), (HV.a (AV.S x12)), (HV.a (AV.Y x13))]))] []) = f19_p1 x0 x1 x2 x3 x4 x5 x6 x7 x8 x9 x10 x11 x12 x13 := by
  kernel_rfl
noncomputable def f19_p2 : Res :=
      Res.ret (AV.T [AV.S [], AV.B false]) ([])
theorem f19_p2_eq : f19_k1 (mkSt [] [] []) = f19_p2 := by
  kernel_rfl
noncomputable def f19_e (x0 : Int) (x1 : Int) (x2 : Int) (x3 : Int) (x4 : Int) (x5 : Int) (x6 : Int) (x7 : Int) (x8 : Int) (x9 : Int) (x10 : Int) (x11 : List UInt8) (x12 : List UInt8) : Res :=
      bIte (x0 == 1) (
      chk (Sp.pre sp18 [AV.I IntKind.i64 (if x2 > 0 then x2 else 0)] []) (
      chk (decide (7 + List.length (decB (Int.toNat (if x2 > 0 then x2 else 0))) ≤ 140737488355328)) (
      chk (decide (List.length ([115, 117, 98, 109, 105, 116, 32] ++ decB (Int.toNat (if x2 > 0 then x2 else 0))) + 1 ≤ 140737488355328)) (
      bIte (x9 == 1) (
      chk (decide (List.length ([115, 117, 98, 109, 105, 116, 32] ++ decB (Int.toNat (if x2 > 0 then x2 else 0)) ++ [32]) + 6 ≤ 140737488355328)) (
      chk (Sp.pre sp18 [AV.I IntKind.i64 (if x10 > 0 then x10 else 0)] []) (
      chk (decide (List.length ([115, 117, 98, 109, 105, 116, 32] ++ decB (Int.toNat (if x2 > 0 then x2 else 0)) ++ [32] ++ [119, 114, 105, 116, 101, 32]) + List.length (decB (Int.toNat (if x10 > 0 then x10 else 0))) ≤ 140737488355328)) (
      chk (decide (List.length ([115, 117, 98, 109, 105, 116, 32] ++ decB (Int.toNat (if x2 > 0 then x2 else 0)) ++ [32] ++ [119, 114, 105, 116, 101, 32] ++ decB (Int.toNat (if x10 > 0 then x10 else 0))) + 1 ≤ 140737488355328)) (
      chk (Sp.pre sp33 [AV.S x11] []) (
      chk (decide (List.length ([115, 117, 98, 109, 105, 116, 32] ++ decB (Int.toNat (if x2 > 0 then x2 else 0)) ++ [32] ++ [119, 114, 105, 116, 101, 32] ++ decB (Int.toNat (if x10 > 0 then x10 else 0)) ++ [32]) + List.length (hexB x11) ≤ 140737488355328)) (
      f19_p0 ([115, 117, 98, 109, 105, 116, 32] ++ decB (Int.toNat (if x2 > 0 then x2 else 0)) ++ [32] ++ [119, 114, 105, 116, 101, 32] ++ decB (Int.toNat (if x10 > 0 then x10 else 0)) ++ [32] ++ hexB x11) x0 x1 x2 x3 x4 x5 x6 x7 x8 x9 x10 x11 x12))))))) (
      bIte (x9 == 2) (
      chk (decide (List.length ([115, 117, 98, 109, 105, 116, 32] ++ decB (Int.toNat (if x2 > 0 then x2 else 0)) ++ [32]) + 7 ≤ 140737488355328)) (
      chk (Sp.pre sp33 [AV.S x11] []) (
      chk (decide (List.length ([115, 117, 98, 109, 105, 116, 32] ++ decB (Int.toNat (if x2 > 0 then x2 else 0)) ++ [32] ++ [97, 112, 112, 101, 110, 100, 32]) + List.length (hexB x11) ≤ 140737488355328)) (
      f19_p0 ([115, 117, 98, 109, 105, 116, 32] ++ decB (Int.toNat (if x2 > 0 then x2 else 0)) ++ [32] ++ [97, 112, 112, 101, 110, 100, 32] ++ hexB x11) x0 x1 x2 x3 x4 x5 x6 x7 x8 x9 x10 x11 x12)))) (
      bIte (x9 == 3) (
      chk (decide (List.length ([115, 117, 98, 109, 105, 116, 32] ++ decB (Int.toNat (if x2 > 0 then x2 else 0)) ++ [32]) + 5 ≤ 140737488355328)) (
      chk (Sp.pre sp18 [AV.I IntKind.i64 (if x10 > 0 then x10 else 0)] []) (
      chk (decide (List.length ([115, 117, 98, 109, 105, 116, 32] ++ decB (Int.toNat (if x2 > 0 then x2 else 0)) ++ [32] ++ [114, 101, 97, 100, 32]) + List.length (decB (Int.toNat (if x10 > 0 then x10 else 0))) ≤ 140737488355328)) (
      f19_p0 ([115, 117, 98, 109, 105, 116, 32] ++ decB (Int.toNat (if x2 > 0 then x2 else 0)) ++ [32] ++ [114, 101, 97, 100, 32] ++ decB (Int.toNat (if x10 > 0 then x10 else 0))) x0 x1 x2 x3 x4 x5 x6 x7 x8 x9 x10 x11 x12)))) (
      bIte (x9 == 4) (
      chk (decide (List.length ([115, 117, 98, 109, 105, 116, 32] ++ decB (Int.toNat (if x2 > 0 then x2 else 0)) ++ [32]) + 5 ≤ 140737488355328)) (
      f19_p0 ([115, 117, 98, 109, 105, 116, 32] ++ decB (Int.toNat (if x2 > 0 then x2 else 0)) ++ [32] ++ [99, 111, 117, 110, 116]) x0 x1 x2 x3 x4 x5 x6 x7 x8 x9 x10 x11 x12)) (
      f19_p0 ([115, 117, 98, 109, 105, 116, 32] ++ decB (Int.toNat (if x2 > 0 then x2 else 0)) ++ [32]) x0 x1 x2 x3 x4 x5 x6 x7 x8 x9 x10 x11 x12)))))))) (
      bIte (x0 == 12) (
      chk (Sp.pre sp18 [AV.I IntKind.i64 (if x2 > 0 then x2 else 0)] []) (
      chk (decide (6 + List.length (decB (Int.toNat (if x2 > 0 then x2 else 0))) ≤ 140737488355328)) (
      chk (decide (List.length ([113, 117, 101, 114, 121, 32] ++ decB (Int.toNat (if x2 > 0 then x2 else 0))) + 1 ≤ 140737488355328)) (
      chk (Sp.pre sp18 [AV.I IntKind.i64 (if x1 > 0 then x1 else 0)] []) (
      chk (decide (List.length ([113, 117, 101, 114, 121, 32] ++ decB (Int.toNat (if x2 > 0 then x2 else 0)) ++ [32]) + List.length (decB (Int.toNat (if x1 > 0 then x1 else 0))) ≤ 140737488355328)) (
      bIte (x9 == 3) (
      chk (decide (List.length ([113, 117, 101, 114, 121, 32] ++ decB (Int.toNat (if x2 > 0 then x2 else 0)) ++ [32] ++ decB (Int.toNat (if x1 > 0 then x1 else 0))) + 6 ≤ 140737488355328)) (
      chk (Sp.pre sp18 [AV.I IntKind.i64 (if x10 > 0 then x10 else 0)] []) (
      chk (decide (List.length ([113, 117, 101, 114, 121, 32] ++ decB (Int.toNat (if x2 > 0 then x2 else 0)) ++ [32] ++ decB (Int.toNat (if x1 > 0 then x1 else 0)) ++ [32, 114, 101, 97, 100, 32]) + List.length (decB (Int.toNat (if x10 > 0 then x10 else 0))) ≤ 140737488355328)) (
      f19_p1 ([113, 117, 101, 114, 121, 32] ++ decB (Int.toNat (if x2 > 0 then x2 else 0)) ++ [32] ++ decB (Int.toNat (if x1 > 0 then x1 else 0)) ++ [32, 114, 101, 97, 100, 32] ++ decB (Int.toNat (if x10 > 0 then x10 else 0))) x0 x1 x2 x3 x4 x5 x6 x7 x8 x9 x10 x11 x12)))) (
      chk (decide (List.length ([113, 117, 101, 114, 121, 32] ++ decB (Int.toNat (if x2 > 0 then x2 else 0)) ++ [32] ++ decB (Int.toNat (if x1 > 0 then x1 else 0))) + 6 ≤ 140737488355328)) (
      f19_p1 ([113, 117, 101, 114, 121, 32] ++ decB (Int.toNat (if x2 > 0 then x2 else 0)) ++ [32] ++ decB (Int.toNat (if x1 > 0 then x1 else 0)) ++ [32, 99, 111, 117, 110, 116]) x0 x1 x2 x3 x4 x5 x6 x7 x8 x9 x10 x11 x12)))))))) (
      bIte (x0 == 2) (
      chk (Sp.pre sp18 [AV.I IntKind.i64 (if x2 > 0 then x2 else 0)] []) (
      chk (decide (6 + List.length (decB (Int.toNat (if x2 > 0 then x2 else 0))) ≤ 140737488355328)) (
      Res.ret (AV.T [AV.S ([114, 101, 116, 114, 121, 32] ++ decB (Int.toNat (if x2 > 0 then x2 else 0))), AV.B (decide (x2 ≥ 0))]) ([])))) (
      bIte (x0 == 3) (
      chk (Sp.pre sp18 [AV.I IntKind.i64 (if x3 > 0 then x3 else 0)] []) (
      chk (decide (8 + List.length (decB (Int.toNat (if x3 > 0 then x3 else 0))) ≤ 140737488355328)) (
      chk (Sp.pre sp35 [AV.I IntKind.i64 x6] []) (
      chk (decide (List.length ([100, 101, 108, 105, 118, 101, 114, 32] ++ decB (Int.toNat (if x3 > 0 then x3 else 0))) + List.length (cutR x6) ≤ 140737488355328)) (
      bIte (decide (x3 ≥ 0)) (
      Res.ret (AV.T [AV.S ([100, 101, 108, 105, 118, 101, 114, 32] ++ decB (Int.toNat (if x3 > 0 then x3 else 0)) ++ cutR x6), AV.B (decide (x6 ≥ 0))]) ([])) (
      Res.ret (AV.T [AV.S ([100, 101, 108, 105, 118, 101, 114, 32] ++ decB (Int.toNat (if x3 > 0 then x3 else 0)) ++ cutR x6), AV.B false]) ([]))))))) (
      bIte (x0 == 4) (
      chk (Sp.pre sp18 [AV.I IntKind.i64 (if x3 > 0 then x3 else 0)] []) (
      chk (decide (5 + List.length (decB (Int.toNat (if x3 > 0 then x3 else 0))) ≤ 140737488355328)) (
      Res.ret (AV.T [AV.S ([100, 114, 111, 112, 32] ++ decB (Int.toNat (if x3 > 0 then x3 else 0))), AV.B (decide (x3 ≥ 0))]) ([])))) (
      bIte (x0 == 5) (
      chk (Sp.pre sp18 [AV.I IntKind.i64 (if x3 > 0 then x3 else 0)] []) (
      chk (decide (5 + List.length (decB (Int.toNat (if x3 > 0 then x3 else 0))) ≤ 140737488355328)) (
      Res.ret (AV.T [AV.S ([99, 111, 112, 121, 32] ++ decB (Int.toNat (if x3 > 0 then x3 else 0))), AV.B (decide (x3 ≥ 0))]) ([])))) (
      bIte (x0 == 6) (
      chk (Sp.pre sp18 [AV.I IntKind.i64 (if x3 > 0 then x3 else 0)] []) (
      chk (decide (6 + List.length (decB (Int.toNat (if x3 > 0 then x3 else 0))) ≤ 140737488355328)) (
      chk (decide (List.length ([115, 112, 111, 105, 108, 32] ++ decB (Int.toNat (if x3 > 0 then x3 else 0))) + 1 ≤ 140737488355328)) (
      chk (Sp.pre sp18 [AV.I IntKind.i64 (if x4 > 0 then x4 else 0)] []) (
      chk (decide (List.length ([115, 112, 111, 105, 108, 32] ++ decB (Int.toNat (if x3 > 0 then x3 else 0)) ++ [32]) + List.length (decB (Int.toNat (if x4 > 0 then x4 else 0))) ≤ 140737488355328)) (
      chk (decide (List.length ([115, 112, 111, 105, 108, 32] ++ decB (Int.toNat (if x3 > 0 then x3 else 0)) ++ [32] ++ decB (Int.toNat (if x4 > 0 then x4 else 0))) + 1 ≤ 140737488355328)) (
      chk (Sp.pre sp18 [AV.I IntKind.i64 (if x5 > 0 then x5 else 0)] []) (
      chk (decide (List.length ([115, 112, 111, 105, 108, 32] ++ decB (Int.toNat (if x3 > 0 then x3 else 0)) ++ [32] ++ decB (Int.toNat (if x4 > 0 then x4 else 0)) ++ [32]) + List.length (decB (Int.toNat (if x5 > 0 then x5 else 0))) ≤ 140737488355328)) (
      bIte (decide (x3 ≥ 0)) (
      bIte (decide (x4 ≥ 0)) (
      Res.ret (AV.T [AV.S ([115, 112, 111, 105, 108, 32] ++ decB (Int.toNat (if x3 > 0 then x3 else 0)) ++ [32] ++ decB (Int.toNat (if x4 > 0 then x4 else 0)) ++ [32] ++ decB (Int.toNat (if x5 > 0 then x5 else 0))), AV.B (decide (x5 ≥ 0))]) ([])) (
      Res.ret (AV.T [AV.S ([115, 112, 111, 105, 108, 32] ++ decB (Int.toNat (if x3 > 0 then x3 else 0)) ++ [32] ++ decB (Int.toNat (if x4 > 0 then x4 else 0)) ++ [32] ++ decB (Int.toNat (if x5 > 0 then x5 else 0))), AV.B false]) ([]))) (
      Res.ret (AV.T [AV.S ([115, 112, 111, 105, 108, 32] ++ decB (Int.toNat (if x3 > 0 then x3 else 0)) ++ [32] ++ decB (Int.toNat (if x4 > 0 then x4 else 0)) ++ [32] ++ decB (Int.toNat (if x5 > 0 then x5 else 0))), AV.B false]) ([]))))))))))) (
      bIte (x0 == 7) (
      chk (Sp.pre sp18 [AV.I IntKind.i64 (if x4 > 0 then x4 else 0)] []) (
      chk (decide (7 + List.length (decB (Int.toNat (if x4 > 0 then x4 else 0))) ≤ 140737488355328)) (
      chk (decide (List.length ([105, 110, 106, 101, 99, 116, 32] ++ decB (Int.toNat (if x4 > 0 then x4 else 0))) + 1 ≤ 140737488355328)) (
      chk (Sp.pre sp18 [AV.I IntKind.i64 (if x1 > 0 then x1 else 0)] []) (
      chk (decide (List.length ([105, 110, 106, 101, 99, 116, 32] ++ decB (Int.toNat (if x4 > 0 then x4 else 0)) ++ [32]) + List.length (decB (Int.toNat (if x1 > 0 then x1 else 0))) ≤ 140737488355328)) (
      chk (decide (List.length ([105, 110, 106, 101, 99, 116, 32] ++ decB (Int.toNat (if x4 > 0 then x4 else 0)) ++ [32] ++ decB (Int.toNat (if x1 > 0 then x1 else 0))) + 1 ≤ 140737488355328)) (
      chk (decide (List.length x12 ≤ 140737488355328)) (
      chk (Sp.pre sp33 [AV.S x12] []) (
      chk (decide (List.length ([105, 110, 106, 101, 99, 116, 32] ++ decB (Int.toNat (if x4 > 0 then x4 else 0)) ++ [32] ++ decB (Int.toNat (if x1 > 0 then x1 else 0)) ++ [32]) + List.length (hexB x12) ≤ 140737488355328)) (
      bIte (decide (x4 ≥ 0)) (
      bIte (decide (x1 ≥ 0)) (
      Res.ret (AV.T [AV.S ([105, 110, 106, 101, 99, 116, 32] ++ decB (Int.toNat (if x4 > 0 then x4 else 0)) ++ [32] ++ decB (Int.toNat (if x1 > 0 then x1 else 0)) ++ [32] ++ hexB x12), AV.B (decide ((↑(List.length x12) : Int) ≤ 32768))]) ([])) (
      Res.ret (AV.T [AV.S ([105, 110, 106, 101, 99, 116, 32] ++ decB (Int.toNat (if x4 > 0 then x4 else 0)) ++ [32] ++ decB (Int.toNat (if x1 > 0 then x1 else 0)) ++ [32] ++ hexB x12), AV.B false]) ([]))) (
      Res.ret (AV.T [AV.S ([105, 110, 106, 101, 99, 116, 32] ++ decB (Int.toNat (if x4 > 0 then x4 else 0)) ++ [32] ++ decB (Int.toNat (if x1 > 0 then x1 else 0)) ++ [32] ++ hexB x12), AV.B false]) ([])))))))))))) (
      bIte (x0 == 8) (
      chk (Sp.pre sp18 [AV.I IntKind.i64 (if x1 > 0 then x1 else 0)] []) (
      chk (decide (5 + List.length (decB (Int.toNat (if x1 > 0 then x1 else 0))) ≤ 140737488355328)) (
      chk (Sp.pre sp35 [AV.I IntKind.i64 x6] []) (
      chk (decide (List.length ([116, 105, 99, 107, 32] ++ decB (Int.toNat (if x1 > 0 then x1 else 0))) + List.length (cutR x6) ≤ 140737488355328)) (
      bIte (decide (x1 ≥ 0)) (
      Res.ret (AV.T [AV.S ([116, 105, 99, 107, 32] ++ decB (Int.toNat (if x1 > 0 then x1 else 0)) ++ cutR x6), AV.B (decide (x6 ≥ 0))]) ([])) (
      Res.ret (AV.T [AV.S ([116, 105, 99, 107, 32] ++ decB (Int.toNat (if x1 > 0 then x1 else 0)) ++ cutR x6), AV.B false]) ([]))))))) (
      bIte (x0 == 9) (
      chk (Sp.pre sp18 [AV.I IntKind.i64 (if x1 > 0 then x1 else 0)] []) (
      chk (decide (6 + List.length (decB (Int.toNat (if x1 > 0 then x1 else 0))) ≤ 140737488355328)) (
      Res.ret (AV.T [AV.S ([99, 114, 97, 115, 104, 32] ++ decB (Int.toNat (if x1 > 0 then x1 else 0))), AV.B (decide (x1 ≥ 0))]) ([])))) (
      bIte (x0 == 10) (
      chk (Sp.pre sp18 [AV.I IntKind.i64 (if x1 > 0 then x1 else 0)] []) (
      chk (decide (8 + List.length (decB (Int.toNat (if x1 > 0 then x1 else 0))) ≤ 140737488355328)) (
      chk (decide (List.length ([114, 101, 115, 116, 97, 114, 116, 32] ++ decB (Int.toNat (if x1 > 0 then x1 else 0))) + 1 ≤ 140737488355328)) (
      chk (decide (List.length ([114, 101, 115, 116, 97, 114, 116, 32] ++ decB (Int.toNat (if x1 > 0 then x1 else 0)) ++ [32]) + List.length (drawB x7 x8) ≤ 140737488355328)) (
      chk (Sp.pre sp35 [AV.I IntKind.i64 x6] []) (
      chk (decide (List.length ([114, 101, 115, 116, 97, 114, 116, 32] ++ decB (Int.toNat (if x1 > 0 then x1 else 0)) ++ [32] ++ drawB x7 x8) + List.length (cutR x6) ≤ 140737488355328)) (
      bIte (decide (x1 ≥ 0)) (
      Res.ret (AV.T [AV.S ([114, 101, 115, 116, 97, 114, 116, 32] ++ decB (Int.toNat (if x1 > 0 then x1 else 0)) ++ [32] ++ drawB x7 x8 ++ cutR x6), AV.B (decide (x6 ≥ 0))]) ([])) (
      Res.ret (AV.T [AV.S ([114, 101, 115, 116, 97, 114, 116, 32] ++ decB (Int.toNat (if x1 > 0 then x1 else 0)) ++ [32] ++ drawB x7 x8 ++ cutR x6), AV.B false]) ([]))))))))) (
      bIte (x0 == 11) (
      chk (Sp.pre sp18 [AV.I IntKind.i64 (if x5 > 0 then x5 else 0)] []) (
      chk (decide (6 + List.length (decB (Int.toNat (if x5 > 0 then x5 else 0))) ≤ 140737488355328)) (
      Res.ret (AV.T [AV.S ([114, 111, 117, 110, 100, 32] ++ decB (Int.toNat (if x5 > 0 then x5 else 0))), AV.B (decide (x5 ≥ 0))]) ([])))) (
      f19_p2))))))))))))
theorem f19_eq (x0 : Int) (x1 : Int) (x2 : Int) (x3 : Int) (x4 : Int) (x5 : Int) (x6 : Int) (x7 : Int) (x8 : Int) (x9 : Int) (x10 : Int) (x11 : List UInt8) (x12 : List UInt8) : f19_sem [(AV.A [(AV.I IntKind.i64 x0), (AV.I IntKind.i64 x1), (AV.I IntKind.i64 x2), (AV.I IntKind.i64 x3), (AV.I IntKind.i64 x4), (AV.I IntKind.i64 x5), (AV.I IntKind.i64 x6), (AV.I IntKind.u64 x7), (AV.I IntKind.u64 x8), (AV.I IntKind.i64 x9), (AV.I IntKind.i64 x10), (AV.S x11), (AV.Y x12)])] [] = f19_e x0 x1 x2 x3 x4 x5 x6 x7 x8 x9 x10 x11 x12 := by
  refine Eq.trans (b :=
      bIte (x0 == 1) (
      chk (Sp.pre sp18 [AV.I IntKind.i64 (if x2 > 0 then x2 else 0)] []) (
      chk (decide (7 + List.length (decB (Int.toNat (if x2 > 0 then x2 else 0))) ≤ 140737488355328)) (
      chk (decide (List.length ([115, 117, 98, 109, 105, 116, 32] ++ decB (Int.toNat (if x2 > 0 then x2 else 0))) + 1 ≤ 140737488355328)) (
      bIte (x9 == 1) (
      chk (decide (List.length ([115, 117, 98, 109, 105, 116, 32] ++ decB (Int.toNat (if x2 > 0 then x2 else 0)) ++ [32]) + 6 ≤ 140737488355328)) (
      chk (Sp.pre sp18 [AV.I IntKind.i64 (if x10 > 0 then x10 else 0)] []) (
      chk (decide (List.length ([115, 117, 98, 109, 105, 116, 32] ++ decB (Int.toNat (if x2 > 0 then x2 else 0)) ++ [32] ++ [119, 114, 105, 116, 101, 32]) + List.length (decB (Int.toNat (if x10 > 0 then x10 else 0))) ≤ 140737488355328)) (
      chk (decide (List.length ([115, 117, 98, 109, 105, 116, 32] ++ decB (Int.toNat (if x2 > 0 then x2 else 0)) ++ [32] ++ [119, 114, 105, 116, 101, 32] ++ decB (Int.toNat (if x10 > 0 then x10 else 0))) + 1 ≤ 140737488355328)) (
      chk (Sp.pre sp33 [AV.S x11] []) (
      chk (decide (List.length ([115, 117, 98, 109, 105, 116, 32] ++ decB (Int.toNat (if x2 > 0 then x2 else 0)) ++ [32] ++ [119, 114, 105, 116, 101, 32] ++ decB (Int.toNat (if x10 > 0 then x10 else 0)) ++ [32]) + List.length (hexB x11) ≤ 140737488355328)) (
      f19_k0 (mkSt [(1, (EV.lp 1 0 0)), (4, (EV.v (AV.S ([115, 117, 98, 109, 105, 116, 32] ++ decB (Int.toNat (if x2 > 0 then x2 else 0)) ++ [32] ++ [119, 114, 105, 116, 101, 32] ++ decB (Int.toNat (if x10 > 0 then x10 else 0)) ++ [32] ++ hexB x11))))] [(1, LOv.mk 0 (LO.box 0 [(HV.a (AV.I IntKind.i64 x0)), (HV.a (AV.I IntKind.i64 x1)), (HV.a (AV.I IntKind.i64 x2)), (HV.a (AV.I IntKind.i64 x3)), (HV.a (AV.I IntKind.i64 x4)), (HV.a (AV.I IntKind.i64 x5)), (HV.a (AV.I IntKind.i64 x6)), (HV.a (AV.I IntKind.u64 x7)), (HV.a (AV.I IntKind.u64 x8)), (HV.a (AV.I IntKind.i64 x9)), (HV.a (AV.I IntKind.i64 x10)), (HV.a (AV.S x11)), (HV.a (AV.Y x12))]))] [])))))))) (
      bIte (x9 == 2) (
      chk (decide (List.length ([115, 117, 98, 109, 105, 116, 32] ++ decB (Int.toNat (if x2 > 0 then x2 else 0)) ++ [32]) + 7 ≤ 140737488355328)) (
      chk (Sp.pre sp33 [AV.S x11] []) (
      chk (decide (List.length ([115, 117, 98, 109, 105, 116, 32] ++ decB (Int.toNat (if x2 > 0 then x2 else 0)) ++ [32] ++ [97, 112, 112, 101, 110, 100, 32]) + List.length (hexB x11) ≤ 140737488355328)) (
      f19_k0 (mkSt [(1, (EV.lp 1 0 0)), (4, (EV.v (AV.S ([115, 117, 98, 109, 105, 116, 32] ++ decB (Int.toNat (if x2 > 0 then x2 else 0)) ++ [32] ++ [97, 112, 112, 101, 110, 100, 32] ++ hexB x11))))] [(1, LOv.mk 0 (LO.box 0 [(HV.a (AV.I IntKind.i64 x0)), (HV.a (AV.I IntKind.i64 x1)), (HV.a (AV.I IntKind.i64 x2)), (HV.a (AV.I IntKind.i64 x3)), (HV.a (AV.I IntKind.i64 x4)), (HV.a (AV.I IntKind.i64 x5)), (HV.a (AV.I IntKind.i64 x6)), (HV.a (AV.I IntKind.u64 x7)), (HV.a (AV.I IntKind.u64 x8)), (HV.a (AV.I IntKind.i64 x9)), (HV.a (AV.I IntKind.i64 x10)), (HV.a (AV.S x11)), (HV.a (AV.Y x12))]))] []))))) (
      bIte (x9 == 3) (
      chk (decide (List.length ([115, 117, 98, 109, 105, 116, 32] ++ decB (Int.toNat (if x2 > 0 then x2 else 0)) ++ [32]) + 5 ≤ 140737488355328)) (
      chk (Sp.pre sp18 [AV.I IntKind.i64 (if x10 > 0 then x10 else 0)] []) (
      chk (decide (List.length ([115, 117, 98, 109, 105, 116, 32] ++ decB (Int.toNat (if x2 > 0 then x2 else 0)) ++ [32] ++ [114, 101, 97, 100, 32]) + List.length (decB (Int.toNat (if x10 > 0 then x10 else 0))) ≤ 140737488355328)) (
      f19_k0 (mkSt [(1, (EV.lp 1 0 0)), (4, (EV.v (AV.S ([115, 117, 98, 109, 105, 116, 32] ++ decB (Int.toNat (if x2 > 0 then x2 else 0)) ++ [32] ++ [114, 101, 97, 100, 32] ++ decB (Int.toNat (if x10 > 0 then x10 else 0))))))] [(1, LOv.mk 0 (LO.box 0 [(HV.a (AV.I IntKind.i64 x0)), (HV.a (AV.I IntKind.i64 x1)), (HV.a (AV.I IntKind.i64 x2)), (HV.a (AV.I IntKind.i64 x3)), (HV.a (AV.I IntKind.i64 x4)), (HV.a (AV.I IntKind.i64 x5)), (HV.a (AV.I IntKind.i64 x6)), (HV.a (AV.I IntKind.u64 x7)), (HV.a (AV.I IntKind.u64 x8)), (HV.a (AV.I IntKind.i64 x9)), (HV.a (AV.I IntKind.i64 x10)), (HV.a (AV.S x11)), (HV.a (AV.Y x12))]))] []))))) (
      bIte (x9 == 4) (
      chk (decide (List.length ([115, 117, 98, 109, 105, 116, 32] ++ decB (Int.toNat (if x2 > 0 then x2 else 0)) ++ [32]) + 5 ≤ 140737488355328)) (
      f19_k0 (mkSt [(1, (EV.lp 1 0 0)), (4, (EV.v (AV.S ([115, 117, 98, 109, 105, 116, 32] ++ decB (Int.toNat (if x2 > 0 then x2 else 0)) ++ [32] ++ [99, 111, 117, 110, 116]))))] [(1, LOv.mk 0 (LO.box 0 [(HV.a (AV.I IntKind.i64 x0)), (HV.a (AV.I IntKind.i64 x1)), (HV.a (AV.I IntKind.i64 x2)), (HV.a (AV.I IntKind.i64 x3)), (HV.a (AV.I IntKind.i64 x4)), (HV.a (AV.I IntKind.i64 x5)), (HV.a (AV.I IntKind.i64 x6)), (HV.a (AV.I IntKind.u64 x7)), (HV.a (AV.I IntKind.u64 x8)), (HV.a (AV.I IntKind.i64 x9)), (HV.a (AV.I IntKind.i64 x10)), (HV.a (AV.S x11)), (HV.a (AV.Y x12))]))] []))) (
      f19_k0 (mkSt [(1, (EV.lp 1 0 0)), (4, (EV.v (AV.S ([115, 117, 98, 109, 105, 116, 32] ++ decB (Int.toNat (if x2 > 0 then x2 else 0)) ++ [32]))))] [(1, LOv.mk 0 (LO.box 0 [(HV.a (AV.I IntKind.i64 x0)), (HV.a (AV.I IntKind.i64 x1)), (HV.a (AV.I IntKind.i64 x2)), (HV.a (AV.I IntKind.i64 x3)), (HV.a (AV.I IntKind.i64 x4)), (HV.a (AV.I IntKind.i64 x5)), (HV.a (AV.I IntKind.i64 x6)), (HV.a (AV.I IntKind.u64 x7)), (HV.a (AV.I IntKind.u64 x8)), (HV.a (AV.I IntKind.i64 x9)), (HV.a (AV.I IntKind.i64 x10)), (HV.a (AV.S x11)), (HV.a (AV.Y x12))]))] []))))))))) (
      bIte (x0 == 12) (
      chk (Sp.pre sp18 [AV.I IntKind.i64 (if x2 > 0 then x2 else 0)] []) (
      chk (decide (6 + List.length (decB (Int.toNat (if x2 > 0 then x2 else 0))) ≤ 140737488355328)) (
      chk (decide (List.length ([113, 117, 101, 114, 121, 32] ++ decB (Int.toNat (if x2 > 0 then x2 else 0))) + 1 ≤ 140737488355328)) (
      chk (Sp.pre sp18 [AV.I IntKind.i64 (if x1 > 0 then x1 else 0)] []) (
      chk (decide (List.length ([113, 117, 101, 114, 121, 32] ++ decB (Int.toNat (if x2 > 0 then x2 else 0)) ++ [32]) + List.length (decB (Int.toNat (if x1 > 0 then x1 else 0))) ≤ 140737488355328)) (
      bIte (x9 == 3) (
      chk (decide (List.length ([113, 117, 101, 114, 121, 32] ++ decB (Int.toNat (if x2 > 0 then x2 else 0)) ++ [32] ++ decB (Int.toNat (if x1 > 0 then x1 else 0))) + 6 ≤ 140737488355328)) (
      chk (Sp.pre sp18 [AV.I IntKind.i64 (if x10 > 0 then x10 else 0)] []) (
      chk (decide (List.length ([113, 117, 101, 114, 121, 32] ++ decB (Int.toNat (if x2 > 0 then x2 else 0)) ++ [32] ++ decB (Int.toNat (if x1 > 0 then x1 else 0)) ++ [32, 114, 101, 97, 100, 32]) + List.length (decB (Int.toNat (if x10 > 0 then x10 else 0))) ≤ 140737488355328)) (
      f19_k3 (mkSt [(1, (EV.lp 1 0 0)), (5, (EV.v (AV.S ([113, 117, 101, 114, 121, 32] ++ decB (Int.toNat (if x2 > 0 then x2 else 0)) ++ [32] ++ decB (Int.toNat (if x1 > 0 then x1 else 0)) ++ [32, 114, 101, 97, 100, 32] ++ decB (Int.toNat (if x10 > 0 then x10 else 0))))))] [(1, LOv.mk 0 (LO.box 0 [(HV.a (AV.I IntKind.i64 x0)), (HV.a (AV.I IntKind.i64 x1)), (HV.a (AV.I IntKind.i64 x2)), (HV.a (AV.I IntKind.i64 x3)), (HV.a (AV.I IntKind.i64 x4)), (HV.a (AV.I IntKind.i64 x5)), (HV.a (AV.I IntKind.i64 x6)), (HV.a (AV.I IntKind.u64 x7)), (HV.a (AV.I IntKind.u64 x8)), (HV.a (AV.I IntKind.i64 x9)), (HV.a (AV.I IntKind.i64 x10)), (HV.a (AV.S x11)), (HV.a (AV.Y x12))]))] []))))) (
      chk (decide (List.length ([113, 117, 101, 114, 121, 32] ++ decB (Int.toNat (if x2 > 0 then x2 else 0)) ++ [32] ++ decB (Int.toNat (if x1 > 0 then x1 else 0))) + 6 ≤ 140737488355328)) (
      f19_k3 (mkSt [(1, (EV.lp 1 0 0)), (5, (EV.v (AV.S ([113, 117, 101, 114, 121, 32] ++ decB (Int.toNat (if x2 > 0 then x2 else 0)) ++ [32] ++ decB (Int.toNat (if x1 > 0 then x1 else 0)) ++ [32, 99, 111, 117, 110, 116]))))] [(1, LOv.mk 0 (LO.box 0 [(HV.a (AV.I IntKind.i64 x0)), (HV.a (AV.I IntKind.i64 x1)), (HV.a (AV.I IntKind.i64 x2)), (HV.a (AV.I IntKind.i64 x3)), (HV.a (AV.I IntKind.i64 x4)), (HV.a (AV.I IntKind.i64 x5)), (HV.a (AV.I IntKind.i64 x6)), (HV.a (AV.I IntKind.u64 x7)), (HV.a (AV.I IntKind.u64 x8)), (HV.a (AV.I IntKind.i64 x9)), (HV.a (AV.I IntKind.i64 x10)), (HV.a (AV.S x11)), (HV.a (AV.Y x12))]))] []))))))))) (
      bIte (x0 == 2) (
      chk (Sp.pre sp18 [AV.I IntKind.i64 (if x2 > 0 then x2 else 0)] []) (
      chk (decide (6 + List.length (decB (Int.toNat (if x2 > 0 then x2 else 0))) ≤ 140737488355328)) (
      Res.ret (AV.T [AV.S ([114, 101, 116, 114, 121, 32] ++ decB (Int.toNat (if x2 > 0 then x2 else 0))), AV.B (decide (x2 ≥ 0))]) ([])))) (
      bIte (x0 == 3) (
      chk (Sp.pre sp18 [AV.I IntKind.i64 (if x3 > 0 then x3 else 0)] []) (
      chk (decide (8 + List.length (decB (Int.toNat (if x3 > 0 then x3 else 0))) ≤ 140737488355328)) (
      chk (Sp.pre sp35 [AV.I IntKind.i64 x6] []) (
      chk (decide (List.length ([100, 101, 108, 105, 118, 101, 114, 32] ++ decB (Int.toNat (if x3 > 0 then x3 else 0))) + List.length (cutR x6) ≤ 140737488355328)) (
      bIte (decide (x3 ≥ 0)) (
      Res.ret (AV.T [AV.S ([100, 101, 108, 105, 118, 101, 114, 32] ++ decB (Int.toNat (if x3 > 0 then x3 else 0)) ++ cutR x6), AV.B (decide (x6 ≥ 0))]) ([])) (
      Res.ret (AV.T [AV.S ([100, 101, 108, 105, 118, 101, 114, 32] ++ decB (Int.toNat (if x3 > 0 then x3 else 0)) ++ cutR x6), AV.B false]) ([]))))))) (
      bIte (x0 == 4) (
      chk (Sp.pre sp18 [AV.I IntKind.i64 (if x3 > 0 then x3 else 0)] []) (
      chk (decide (5 + List.length (decB (Int.toNat (if x3 > 0 then x3 else 0))) ≤ 140737488355328)) (
      Res.ret (AV.T [AV.S ([100, 114, 111, 112, 32] ++ decB (Int.toNat (if x3 > 0 then x3 else 0))), AV.B (decide (x3 ≥ 0))]) ([])))) (
      bIte (x0 == 5) (
      chk (Sp.pre sp18 [AV.I IntKind.i64 (if x3 > 0 then x3 else 0)] []) (
      chk (decide (5 + List.length (decB (Int.toNat (if x3 > 0 then x3 else 0))) ≤ 140737488355328)) (
      Res.ret (AV.T [AV.S ([99, 111, 112, 121, 32] ++ decB (Int.toNat (if x3 > 0 then x3 else 0))), AV.B (decide (x3 ≥ 0))]) ([])))) (
      bIte (x0 == 6) (
      chk (Sp.pre sp18 [AV.I IntKind.i64 (if x3 > 0 then x3 else 0)] []) (
      chk (decide (6 + List.length (decB (Int.toNat (if x3 > 0 then x3 else 0))) ≤ 140737488355328)) (
      chk (decide (List.length ([115, 112, 111, 105, 108, 32] ++ decB (Int.toNat (if x3 > 0 then x3 else 0))) + 1 ≤ 140737488355328)) (
      chk (Sp.pre sp18 [AV.I IntKind.i64 (if x4 > 0 then x4 else 0)] []) (
      chk (decide (List.length ([115, 112, 111, 105, 108, 32] ++ decB (Int.toNat (if x3 > 0 then x3 else 0)) ++ [32]) + List.length (decB (Int.toNat (if x4 > 0 then x4 else 0))) ≤ 140737488355328)) (
      chk (decide (List.length ([115, 112, 111, 105, 108, 32] ++ decB (Int.toNat (if x3 > 0 then x3 else 0)) ++ [32] ++ decB (Int.toNat (if x4 > 0 then x4 else 0))) + 1 ≤ 140737488355328)) (
      chk (Sp.pre sp18 [AV.I IntKind.i64 (if x5 > 0 then x5 else 0)] []) (
      chk (decide (List.length ([115, 112, 111, 105, 108, 32] ++ decB (Int.toNat (if x3 > 0 then x3 else 0)) ++ [32] ++ decB (Int.toNat (if x4 > 0 then x4 else 0)) ++ [32]) + List.length (decB (Int.toNat (if x5 > 0 then x5 else 0))) ≤ 140737488355328)) (
      bIte (decide (x3 ≥ 0)) (
      bIte (decide (x4 ≥ 0)) (
      Res.ret (AV.T [AV.S ([115, 112, 111, 105, 108, 32] ++ decB (Int.toNat (if x3 > 0 then x3 else 0)) ++ [32] ++ decB (Int.toNat (if x4 > 0 then x4 else 0)) ++ [32] ++ decB (Int.toNat (if x5 > 0 then x5 else 0))), AV.B (decide (x5 ≥ 0))]) ([])) (
      Res.ret (AV.T [AV.S ([115, 112, 111, 105, 108, 32] ++ decB (Int.toNat (if x3 > 0 then x3 else 0)) ++ [32] ++ decB (Int.toNat (if x4 > 0 then x4 else 0)) ++ [32] ++ decB (Int.toNat (if x5 > 0 then x5 else 0))), AV.B false]) ([]))) (
      Res.ret (AV.T [AV.S ([115, 112, 111, 105, 108, 32] ++ decB (Int.toNat (if x3 > 0 then x3 else 0)) ++ [32] ++ decB (Int.toNat (if x4 > 0 then x4 else 0)) ++ [32] ++ decB (Int.toNat (if x5 > 0 then x5 else 0))), AV.B false]) ([]))))))))))) (
      bIte (x0 == 7) (
      chk (Sp.pre sp18 [AV.I IntKind.i64 (if x4 > 0 then x4 else 0)] []) (
      chk (decide (7 + List.length (decB (Int.toNat (if x4 > 0 then x4 else 0))) ≤ 140737488355328)) (
      chk (decide (List.length ([105, 110, 106, 101, 99, 116, 32] ++ decB (Int.toNat (if x4 > 0 then x4 else 0))) + 1 ≤ 140737488355328)) (
      chk (Sp.pre sp18 [AV.I IntKind.i64 (if x1 > 0 then x1 else 0)] []) (
      chk (decide (List.length ([105, 110, 106, 101, 99, 116, 32] ++ decB (Int.toNat (if x4 > 0 then x4 else 0)) ++ [32]) + List.length (decB (Int.toNat (if x1 > 0 then x1 else 0))) ≤ 140737488355328)) (
      chk (decide (List.length ([105, 110, 106, 101, 99, 116, 32] ++ decB (Int.toNat (if x4 > 0 then x4 else 0)) ++ [32] ++ decB (Int.toNat (if x1 > 0 then x1 else 0))) + 1 ≤ 140737488355328)) (
      chk (decide (List.length x12 ≤ 140737488355328)) (
      chk (Sp.pre sp33 [AV.S x12] []) (
      chk (decide (List.length ([105, 110, 106, 101, 99, 116, 32] ++ decB (Int.toNat (if x4 > 0 then x4 else 0)) ++ [32] ++ decB (Int.toNat (if x1 > 0 then x1 else 0)) ++ [32]) + List.length (hexB x12) ≤ 140737488355328)) (
      bIte (decide (x4 ≥ 0)) (
      bIte (decide (x1 ≥ 0)) (
      Res.ret (AV.T [AV.S ([105, 110, 106, 101, 99, 116, 32] ++ decB (Int.toNat (if x4 > 0 then x4 else 0)) ++ [32] ++ decB (Int.toNat (if x1 > 0 then x1 else 0)) ++ [32] ++ hexB x12), AV.B (decide ((↑(List.length x12) : Int) ≤ 32768))]) ([])) (
      Res.ret (AV.T [AV.S ([105, 110, 106, 101, 99, 116, 32] ++ decB (Int.toNat (if x4 > 0 then x4 else 0)) ++ [32] ++ decB (Int.toNat (if x1 > 0 then x1 else 0)) ++ [32] ++ hexB x12), AV.B false]) ([]))) (
      Res.ret (AV.T [AV.S ([105, 110, 106, 101, 99, 116, 32] ++ decB (Int.toNat (if x4 > 0 then x4 else 0)) ++ [32] ++ decB (Int.toNat (if x1 > 0 then x1 else 0)) ++ [32] ++ hexB x12), AV.B false]) ([])))))))))))) (
      bIte (x0 == 8) (
      chk (Sp.pre sp18 [AV.I IntKind.i64 (if x1 > 0 then x1 else 0)] []) (
      chk (decide (5 + List.length (decB (Int.toNat (if x1 > 0 then x1 else 0))) ≤ 140737488355328)) (
      chk (Sp.pre sp35 [AV.I IntKind.i64 x6] []) (
      chk (decide (List.length ([116, 105, 99, 107, 32] ++ decB (Int.toNat (if x1 > 0 then x1 else 0))) + List.length (cutR x6) ≤ 140737488355328)) (
      bIte (decide (x1 ≥ 0)) (
      Res.ret (AV.T [AV.S ([116, 105, 99, 107, 32] ++ decB (Int.toNat (if x1 > 0 then x1 else 0)) ++ cutR x6), AV.B (decide (x6 ≥ 0))]) ([])) (
      Res.ret (AV.T [AV.S ([116, 105, 99, 107, 32] ++ decB (Int.toNat (if x1 > 0 then x1 else 0)) ++ cutR x6), AV.B false]) ([]))))))) (
      bIte (x0 == 9) (
      chk (Sp.pre sp18 [AV.I IntKind.i64 (if x1 > 0 then x1 else 0)] []) (
      chk (decide (6 + List.length (decB (Int.toNat (if x1 > 0 then x1 else 0))) ≤ 140737488355328)) (
      Res.ret (AV.T [AV.S ([99, 114, 97, 115, 104, 32] ++ decB (Int.toNat (if x1 > 0 then x1 else 0))), AV.B (decide (x1 ≥ 0))]) ([])))) (
      bIte (x0 == 10) (
      chk (Sp.pre sp18 [AV.I IntKind.i64 (if x1 > 0 then x1 else 0)] []) (
      chk (decide (8 + List.length (decB (Int.toNat (if x1 > 0 then x1 else 0))) ≤ 140737488355328)) (
      chk (decide (List.length ([114, 101, 115, 116, 97, 114, 116, 32] ++ decB (Int.toNat (if x1 > 0 then x1 else 0))) + 1 ≤ 140737488355328)) (
      chk (decide (List.length ([114, 101, 115, 116, 97, 114, 116, 32] ++ decB (Int.toNat (if x1 > 0 then x1 else 0)) ++ [32]) + List.length (drawB x7 x8) ≤ 140737488355328)) (
      chk (Sp.pre sp35 [AV.I IntKind.i64 x6] []) (
      chk (decide (List.length ([114, 101, 115, 116, 97, 114, 116, 32] ++ decB (Int.toNat (if x1 > 0 then x1 else 0)) ++ [32] ++ drawB x7 x8) + List.length (cutR x6) ≤ 140737488355328)) (
      bIte (decide (x1 ≥ 0)) (
      Res.ret (AV.T [AV.S ([114, 101, 115, 116, 97, 114, 116, 32] ++ decB (Int.toNat (if x1 > 0 then x1 else 0)) ++ [32] ++ drawB x7 x8 ++ cutR x6), AV.B (decide (x6 ≥ 0))]) ([])) (
      Res.ret (AV.T [AV.S ([114, 101, 115, 116, 97, 114, 116, 32] ++ decB (Int.toNat (if x1 > 0 then x1 else 0)) ++ [32] ++ drawB x7 x8 ++ cutR x6), AV.B false]) ([]))))))))) (
      bIte (x0 == 11) (
      chk (Sp.pre sp18 [AV.I IntKind.i64 (if x5 > 0 then x5 else 0)] []) (
      chk (decide (6 + List.length (decB (Int.toNat (if x5 > 0 then x5 else 0))) ≤ 140737488355328)) (
      Res.ret (AV.T [AV.S ([114, 111, 117, 110, 100, 32] ++ decB (Int.toNat (if x5 > 0 then x5 else 0))), AV.B (decide (x5 ≥ 0))]) ([])))) (
      f19_k1 (mkSt [] [] [])))))))))))))) (by kernel_rfl) ?_
  simp only [f19_e, f19_p2_eq, f19_p1_eq, f19_p0_eq]
end Go.Vm
