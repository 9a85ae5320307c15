/- Part of a proof: ZzUq. -/
import Derived.Test.YteaplibpphjokaaDoorZzSp4
import Derived.Test.YteaplibpphjokaaDoorVE
set_option linter.unusedSimpArgs false
set_option linter.unusedVariables false
set_option linter.unusedSectionVars false
namespace Go.Vm
open Go (IntKind Fn)
set_option maxHeartbeats 0
noncomputable def S7 : Nat → Sp := fun g => bif Nat.beq g 19 then sp19 else bif Nat.beq g 18 then sp18 else bif Nat.beq g 17 then sp17 else spN
noncomputable def f7_sem : List AV → List HO → Res := semU cx (ann7x FU) Go.Proofs.Tryd.f7 S7
noncomputable def f7_k0 : St → Res := aC cx (ann7x FU) (altAlg cx.pure S7) (altAlg cx.pure S7) (sq2 (sq2 (sq2 (sq2 (sq2 (bodyOf Go.Proofs.Tryd.f7)))))) (resK (altAlg cx.pure S7) cx (ann7x FU) Go.Proofs.Tryd.f7) (fun _ _ => Res.stuck) (resK (altAlg cx.pure S7) cx (ann7x FU) Go.Proofs.Tryd.f7)
noncomputable def f7_j0 : St → Res := fun s => f7_k0 (nrm (ann7x FU) (headId (sq2 (sq2 (sq2 (sq2 (sq2 (bodyOf Go.Proofs.Tryd.f7))))))) s)
noncomputable def f7_k2 : St → Res := aC cx (ann7x FU) (altAlg cx.pure S7) (altAlg cx.pure S7) (sq2 (sq2 (sq2 (sq2 (sq2 (sq2 (sq2 (bodyOf Go.Proofs.Tryd.f7)))))))) (resK (altAlg cx.pure S7) cx (ann7x FU) Go.Proofs.Tryd.f7) (fun _ _ => Res.stuck) (resK (altAlg cx.pure S7) cx (ann7x FU) Go.Proofs.Tryd.f7)
noncomputable def f7_j2 : St → Res := fun s => f7_k2 (nrm (ann7x FU) (headId (sq2 (sq2 (sq2 (sq2 (sq2 (sq2 (sq2 (bodyOf Go.Proofs.Tryd.f7))))))))) s)
noncomputable def f7_k1 : St → Res := aC cx (ann7x FU) (altAlg cx.pure S7) (altAlg cx.pure S7) (sq2 (sq1 (sq2 (sq2 (sq2 (sq2 (sq2 (sq2 (bodyOf Go.Proofs.Tryd.f7))))))))) (f7_j2) (fun _ _ => Res.stuck) (resK (altAlg cx.pure S7) cx (ann7x FU) Go.Proofs.Tryd.f7)
noncomputable def f7_j1 : St → Res := fun s => f7_k1 (nrm (ann7x FU) (headId (sq2 (sq1 (sq2 (sq2 (sq2 (sq2 (sq2 (sq2 (bodyOf Go.Proofs.Tryd.f7)))))))))) s)
noncomputable def f7_x1 : Nat → St → Res := fun i s => if i = 0 then (f7_j2) s else (fun _ _ => Res.stuck) i s
noncomputable def f7_l3 : Nat → St → Res := loopR (altAlg cx.pure S7) (fun ih3_ s => aC cx (ann7x FU) (altAlg cx.pure S7) (altAlg cx.pure S7) (blk (blk (sq2 (sq1 (sq2 (sq2 (sq2 (sq2 (sq2 (sq2 (bodyOf Go.Proofs.Tryd.f7))))))))))) (fun s' => ih3_ (nrm (ann7x FU) (headId (blk (blk (sq2 (sq1 (sq2 (sq2 (sq2 (sq2 (sq2 (sq2 (bodyOf Go.Proofs.Tryd.f7)))))))))))) s')) (f7_x1) (resK (altAlg cx.pure S7) cx (ann7x FU) Go.Proofs.Tryd.f7) s)
noncomputable def f7_k4 (ih3_ : St → Res) : St → Res := aC cx (ann7x FU) (altAlg cx.pure S7) (altAlg cx.pure S7) (sq2 (sq2 (blk (blk (sq2 (sq1 (sq2 (sq2 (sq2 (sq2 (sq2 (sq2 (bodyOf Go.Proofs.Tryd.f7))))))))))))) (fun s => ih3_ (nrm (ann7x FU) (headId (blk (blk (sq2 (sq1 (sq2 (sq2 (sq2 (sq2 (sq2 (sq2 (bodyOf Go.Proofs.Tryd.f7)))))))))))) s)) (f7_x1) (resK (altAlg cx.pure S7) cx (ann7x FU) Go.Proofs.Tryd.f7)
noncomputable def f7_j4 (ih3_ : St → Res) : St → Res := fun s => f7_k4 ih3_ (nrm (ann7x FU) (headId (sq2 (sq2 (blk (blk (sq2 (sq1 (sq2 (sq2 (sq2 (sq2 (sq2 (sq2 (bodyOf Go.Proofs.Tryd.f7)))))))))))))) s)
noncomputable def f7_k6 : St → Res := aC cx (ann7x FU) (altAlg cx.pure S7) (altAlg cx.pure S7) (sq2 (sq2 (sq2 (sq2 (sq2 (sq2 (sq2 (sq2 (bodyOf Go.Proofs.Tryd.f7))))))))) (resK (altAlg cx.pure S7) cx (ann7x FU) Go.Proofs.Tryd.f7) (fun _ _ => Res.stuck) (resK (altAlg cx.pure S7) cx (ann7x FU) Go.Proofs.Tryd.f7)
noncomputable def f7_j6 : St → Res := fun s => f7_k6 (nrm (ann7x FU) (headId (sq2 (sq2 (sq2 (sq2 (sq2 (sq2 (sq2 (sq2 (bodyOf Go.Proofs.Tryd.f7)))))))))) s)
noncomputable def f7_k5 : St → Res := aC cx (ann7x FU) (altAlg cx.pure S7) (altAlg cx.pure S7) (sq2 (sq1 (sq2 (sq2 (sq2 (sq2 (sq2 (sq2 (sq2 (bodyOf Go.Proofs.Tryd.f7)))))))))) (f7_j6) (fun _ _ => Res.stuck) (resK (altAlg cx.pure S7) cx (ann7x FU) Go.Proofs.Tryd.f7)
noncomputable def f7_j5 : St → Res := fun s => f7_k5 (nrm (ann7x FU) (headId (sq2 (sq1 (sq2 (sq2 (sq2 (sq2 (sq2 (sq2 (sq2 (bodyOf Go.Proofs.Tryd.f7))))))))))) s)
noncomputable def f7_x5 : Nat → St → Res := fun i s => if i = 2 then (f7_j6) s else (fun _ _ => Res.stuck) i s
noncomputable def f7_l7 : Nat → St → Res := loopR (altAlg cx.pure S7) (fun ih7_ s => aC cx (ann7x FU) (altAlg cx.pure S7) (altAlg cx.pure S7) (blk (blk (sq2 (sq1 (sq2 (sq2 (sq2 (sq2 (sq2 (sq2 (sq2 (bodyOf Go.Proofs.Tryd.f7)))))))))))) (fun s' => ih7_ (nrm (ann7x FU) (headId (blk (blk (sq2 (sq1 (sq2 (sq2 (sq2 (sq2 (sq2 (sq2 (sq2 (bodyOf Go.Proofs.Tryd.f7))))))))))))) s')) (f7_x5) (resK (altAlg cx.pure S7) cx (ann7x FU) Go.Proofs.Tryd.f7) s)
noncomputable def f7_k8 (ih7_ : St → Res) : St → Res := aC cx (ann7x FU) (altAlg cx.pure S7) (altAlg cx.pure S7) (sq2 (sq2 (blk (blk (sq2 (sq1 (sq2 (sq2 (sq2 (sq2 (sq2 (sq2 (sq2 (bodyOf Go.Proofs.Tryd.f7)))))))))))))) (fun s => ih7_ (nrm (ann7x FU) (headId (blk (blk (sq2 (sq1 (sq2 (sq2 (sq2 (sq2 (sq2 (sq2 (sq2 (bodyOf Go.Proofs.Tryd.f7))))))))))))) s)) (f7_x5) (resK (altAlg cx.pure S7) cx (ann7x FU) Go.Proofs.Tryd.f7)
noncomputable def f7_j8 (ih7_ : St → Res) : St → Res := fun s => f7_k8 ih7_ (nrm (ann7x FU) (headId (sq2 (sq2 (blk (blk (sq2 (sq1 (sq2 (sq2 (sq2 (sq2 (sq2 (sq2 (sq2 (bodyOf Go.Proofs.Tryd.f7))))))))))))))) s)
noncomputable def f7_p4 (rec3_ : List (List AV) → List UInt8 → Int → Int → Int → Int → Bool → List (List AV) → Res) (x0 : List (List AV)) (x1 : List UInt8) (x2 : Int) (x3 : Int) (x4 : Int) (x5 : Int) (x6 : Bool) (x7 : List (List AV)) : Res :=
      rec3_ x0 x1 (IntKind.wrap IntKind.i64 (x2 + 1)) x3 x4 x5 x6 x7
theorem f7_p4_eq (ih3_ : St → Res) (rec3_ : List (List AV) → List UInt8 → Int → Int → Int → Int → Bool → List (List AV) → Res) (h3_ : ∀ (x0 : List (List AV)) (x1 : List UInt8) (x2 : Int) (x3 : Int) (x4 : Int) (x5 : Int) (x6 : Bool) (x7 : List (List AV)), ih3_ (mkSt [(1, (EV.v (AV.L 13 x0))), (2, (EV.lp 2 0 0)), (7, (EV.v (AV.S x1))), (8, (EV.v (AV.I IntKind.i64 x2)))] [(2, LOv.mk 0 (LO.box 0 [(HV.a (AV.I IntKind.i64 x3)), (HV.a (AV.I IntKind.i64 x4)), (HV.a (AV.I IntKind.i64 x5)), (HV.a (AV.B x6)), (HV.a (AV.L 1 x7))]))] []) = rec3_ x0 x1 x2 x3 x4 x5 x6 x7) (x0 : List (List AV)) (x1 : List UInt8) (x2 : Int) (x3 : Int) (x4 : Int) (x5 : Int) (x6 : Bool) (x7 : List (List AV)) : f7_k4 ih3_ (mkSt [(1, (EV.v (AV.L 13 x0))), (2, (EV.lp 2 0 0)), (7, (EV.v (AV.S x1))), (8, (EV.v (AV.I IntKind.i64 x2)))] [(2, LOv.mk 0 (LO.box 0 [(HV.a (AV.I IntKind.i64 x3)), (HV.a (AV.I IntKind.i64 x4)), (HV.a (AV.I IntKind.i64 x5)), (HV.a (AV.B x6)), (HV.a (AV.L 1 x7))]))] []) = f7_p4 rec3_ x0 x1 x2 x3 x4 x5 x6 x7 := by
  refine Eq.trans (b :=
      ih3_ (mkSt [(1, (EV.v (AV.L 13 x0))), (2, (EV.lp 2 0 0)), (7, (EV.v (AV.S x1))), (8, (EV.v (AV.I IntKind.i64 (IntKind.wrap IntKind.i64 (x2 + 1)))))] [(2, LOv.mk 0 (LO.box 0 [(HV.a (AV.I IntKind.i64 x3)), (HV.a (AV.I IntKind.i64 x4)), (HV.a (AV.I IntKind.i64 x5)), (HV.a (AV.B x6)), (HV.a (AV.L 1 x7))]))] [])) (by kernel_rfl) ?_
  simp only [f7_p4, h3_]
noncomputable def f7_p8 (rec7_ : List (List AV) → List UInt8 → Int → Res) (x0 : List (List AV)) (x1 : List UInt8) (x2 : Int) : Res :=
      rec7_ x0 x1 (IntKind.wrap IntKind.i64 (x2 + 1))
theorem f7_p8_eq (ih7_ : St → Res) (rec7_ : List (List AV) → List UInt8 → Int → Res) (h7_ : ∀ (x0 : List (List AV)) (x1 : List UInt8) (x2 : Int), ih7_ (mkSt [(1, (EV.v (AV.L 13 x0))), (7, (EV.v (AV.S x1))), (9, (EV.v (AV.I IntKind.i64 x2)))] [] []) = rec7_ x0 x1 x2) (x0 : List (List AV)) (x1 : List UInt8) (x2 : Int) : f7_k8 ih7_ (mkSt [(1, (EV.v (AV.L 13 x0))), (7, (EV.v (AV.S x1))), (9, (EV.v (AV.I IntKind.i64 x2)))] [] []) = f7_p8 rec7_ x0 x1 x2 := by
  refine Eq.trans (b :=
      ih7_ (mkSt [(1, (EV.v (AV.L 13 x0))), (7, (EV.v (AV.S x1))), (9, (EV.v (AV.I IntKind.i64 (IntKind.wrap IntKind.i64 (x2 + 1)))))] [] [])) (by kernel_rfl) ?_
  simp only [f7_p8, h7_]
noncomputable def f7_p9 (x0 : List UInt8) : Res :=
      Res.ret (AV.T [AV.S x0, AV.I IntKind.i64 0]) ([])
theorem f7_p9_eq (x0 : List UInt8) : f7_k6 (mkSt [(7, (EV.v (AV.S x0)))] [] []) = f7_p9 x0 := by
  kernel_rfl
noncomputable def f7_L7 : Nat → List (List AV) → List UInt8 → Int → Res
  | 0, _, _, _ => Res.stuck
  | n + 1, x0, x1, x2 =>
      bIte (decide (x2 < (↑(List.length x0) : Int))) (
      ix x2 (List.length x0) fun i7 =>
      chk (noPs [AV.A (List.getD x0 i7 [])]) (
      chk (Sp.pre sp19 [AV.A (List.getD x0 i7 [])] []) (
      bIte (!!badL (evAV (AV.A (List.getD x0 i7 [])))) (
      Res.ret (AV.T [AV.S [], AV.I IntKind.i64 150]) ([])) (
      chk (decide (List.length x1 + List.length (refS (evAV (AV.A (List.getD x0 i7 [])))) ≤ 140737488355328)) (
      chk (decide (List.length (x1 ++ refS (evAV (AV.A (List.getD x0 i7 [])))) + 1 ≤ 140737488355328)) (
      f7_p8 (f7_L7 n) x0 (x1 ++ refS (evAV (AV.A (List.getD x0 i7 []))) ++ [10]) x2)))))) (
      f7_p9 x1)
theorem f7_L7_eq : ∀ (n : Nat) (x0 : List (List AV)) (x1 : List UInt8) (x2 : Int), f7_l7 n (mkSt [(1, (EV.v (AV.L 13 x0))), (7, (EV.v (AV.S x1))), (9, (EV.v (AV.I IntKind.i64 x2)))] [] []) = f7_L7 n x0 x1 x2 := by
  intro n
  induction n with
  | zero => intros; rfl
  | succ n IH =>
    intro x0 x1 x2
    refine Eq.trans (b :=
      bIte (decide (x2 < (↑(List.length x0) : Int))) (
      ix x2 (List.length x0) fun i7 =>
      chk (noPs [AV.A (List.getD x0 i7 [])]) (
      chk (Sp.pre sp19 [AV.A (List.getD x0 i7 [])] []) (
      bIte (!!badL (evAV (AV.A (List.getD x0 i7 [])))) (
      Res.ret (AV.T [AV.S [], AV.I IntKind.i64 150]) ([])) (
      chk (decide (List.length x1 + List.length (refS (evAV (AV.A (List.getD x0 i7 [])))) ≤ 140737488355328)) (
      chk (decide (List.length (x1 ++ refS (evAV (AV.A (List.getD x0 i7 [])))) + 1 ≤ 140737488355328)) (
      f7_k8 (f7_l7 n) (mkSt [(1, (EV.v (AV.L 13 x0))), (7, (EV.v (AV.S (x1 ++ refS (evAV (AV.A (List.getD x0 i7 []))) ++ [10])))), (9, (EV.v (AV.I IntKind.i64 x2)))] [] []))))))) (
      f7_k6 (mkSt [(7, (EV.v (AV.S x1)))] [] []))) (by kernel_rfl) ?_
    simp only [f7_L7, IH, f7_p9_eq, f7_p8_eq (f7_l7 n) (f7_L7 n) IH]
noncomputable def f7_p6 (x0 : List (List AV)) (x1 : List UInt8) (x2 : Int) : Res :=
      f7_L7 (ann7x FU).fuel x0 x1 x2
theorem f7_p6_eq (x0 : List (List AV)) (x1 : List UInt8) (x2 : Int) : f7_k5 (mkSt [(1, (EV.v (AV.L 13 x0))), (7, (EV.v (AV.S x1))), (9, (EV.v (AV.I IntKind.i64 x2)))] [] []) = f7_p6 x0 x1 x2 := by
  refine Eq.trans (b :=
      f7_l7 (ann7x FU).fuel (mkSt [(1, (EV.v (AV.L 13 x0))), (7, (EV.v (AV.S x1))), (9, (EV.v (AV.I IntKind.i64 x2)))] [] [])) (by kernel_rfl) ?_
  simp only [f7_p6, f7_L7_eq]
noncomputable def f7_p5 (x0 : List (List AV)) (x1 : List UInt8) : Res :=
      f7_p6 x0 x1 (0 : Int)
theorem f7_p5_eq (x0 : List (List AV)) (x1 : List UInt8) : f7_k2 (mkSt [(1, (EV.v (AV.L 13 x0))), (7, (EV.v (AV.S x1)))] [] []) = f7_p5 x0 x1 := by
  refine Eq.trans (b :=
      f7_k5 (mkSt [(1, (EV.v (AV.L 13 x0))), (7, (EV.v (AV.S x1))), (9, (EV.v (AV.I IntKind.i64 (0 : Int))))] [] [])) (by kernel_rfl) ?_
  simp only [f7_p5, f7_p6_eq]
noncomputable def f7_L3 : Nat → List (List AV) → List UInt8 → Int → Int → Int → Int → Bool → List (List AV) → Res
  | 0, _, _, _, _, _, _, _, _ => Res.stuck
  | n + 1, x0, x1, x2, x3, x4, x5, x6, x7 =>
      bIte (decide (x2 < (↑(List.length x7) : Int))) (
      chk (decide (List.length x1 + 7 ≤ 140737488355328)) (
      ix x2 (List.length x7) fun i2 =>
      chk (noPs [List.getD (List.getD x7 i2 []) 0 AV.U]) (
      chk (Sp.pre sp18 [List.getD (List.getD x7 i2 []) 0 AV.U] []) (
      chk (noP (Sp.val sp18 [List.getD (List.getD x7 i2 []) 0 AV.U] [])) (
      mS (Sp.val sp18 [List.getD (List.getD x7 i2 []) 0 AV.U] []) fun s3 =>
      chk (decide (List.length (x1 ++ [99, 108, 105, 101, 110, 116, 32]) + List.length s3 ≤ 140737488355328)) (
      chk (decide (List.length (x1 ++ [99, 108, 105, 101, 110, 116, 32] ++ s3) + 1 ≤ 140737488355328)) (
      f7_p4 (f7_L3 n) x0 (x1 ++ [99, 108, 105, 101, 110, 116, 32] ++ s3 ++ [10]) x2 x3 x4 x5 x6 x7))))))) (
      f7_p5 x0 x1)
theorem f7_L3_eq : ∀ (n : Nat) (x0 : List (List AV)) (x1 : List UInt8) (x2 : Int) (x3 : Int) (x4 : Int) (x5 : Int) (x6 : Bool) (x7 : List (List AV)), f7_l3 n (mkSt [(1, (EV.v (AV.L 13 x0))), (2, (EV.lp 2 0 0)), (7, (EV.v (AV.S x1))), (8, (EV.v (AV.I IntKind.i64 x2)))] [(2, LOv.mk 0 (LO.box 0 [(HV.a (AV.I IntKind.i64 x3)), (HV.a (AV.I IntKind.i64 x4)), (HV.a (AV.I IntKind.i64 x5)), (HV.a (AV.B x6)), (HV.a (AV.L 1 x7))]))] []) = f7_L3 n x0 x1 x2 x3 x4 x5 x6 x7 := by
  intro n
  induction n with
  | zero => intros; rfl
  | succ n IH =>
    intro x0 x1 x2 x3 x4 x5 x6 x7
    refine Eq.trans (b :=
      bIte (decide (x2 < (↑(List.length x7) : Int))) (
      chk (decide (List.length x1 + 7 ≤ 140737488355328)) (
      ix x2 (List.length x7) fun i2 =>
      chk (noPs [List.getD (List.getD x7 i2 []) 0 AV.U]) (
      chk (Sp.pre sp18 [List.getD (List.getD x7 i2 []) 0 AV.U] []) (
      chk (noP (Sp.val sp18 [List.getD (List.getD x7 i2 []) 0 AV.U] [])) (
      mS (Sp.val sp18 [List.getD (List.getD x7 i2 []) 0 AV.U] []) fun s3 =>
      chk (decide (List.length (x1 ++ [99, 108, 105, 101, 110, 116, 32]) + List.length s3 ≤ 140737488355328)) (
      chk (decide (List.length (x1 ++ [99, 108, 105, 101, 110, 116, 32] ++ s3) + 1 ≤ 140737488355328)) (
      f7_k4 (f7_l3 n) (mkSt [(1, (EV.v (AV.L 13 x0))), (2, (EV.lp 2 0 0)), (7, (EV.v (AV.S (x1 ++ [99, 108, 105, 101, 110, 116, 32] ++ s3 ++ [10])))), (8, (EV.v (AV.I IntKind.i64 x2)))] [(2, LOv.mk 0 (LO.box 0 [(HV.a (AV.I IntKind.i64 x3)), (HV.a (AV.I IntKind.i64 x4)), (HV.a (AV.I IntKind.i64 x5)), (HV.a (AV.B x6)), (HV.a (AV.L 1 x7))]))] [])))))))) (
      f7_k2 (mkSt [(1, (EV.v (AV.L 13 x0))), (7, (EV.v (AV.S x1)))] [] []))) (by kernel_rfl) ?_
    simp only [f7_L3, IH, f7_p5_eq, f7_p4_eq (f7_l3 n) (f7_L3 n) IH]
noncomputable def f7_p1 (x0 : List (List AV)) (x1 : List UInt8) (x2 : Int) (x3 : Int) (x4 : Int) (x5 : Int) (x6 : Bool) (x7 : List (List AV)) : Res :=
      f7_L3 (ann7x FU).fuel x0 x1 x2 x3 x4 x5 x6 x7
theorem f7_p1_eq (x0 : List (List AV)) (x1 : List UInt8) (x2 : Int) (x3 : Int) (x4 : Int) (x5 : Int) (x6 : Bool) (x7 : List (List AV)) : f7_k1 (mkSt [(1, (EV.v (AV.L 13 x0))), (2, (EV.lp 2 0 0)), (7, (EV.v (AV.S x1))), (8, (EV.v (AV.I IntKind.i64 x2)))] [(2, LOv.mk 0 (LO.box 0 [(HV.a (AV.I IntKind.i64 x3)), (HV.a (AV.I IntKind.i64 x4)), (HV.a (AV.I IntKind.i64 x5)), (HV.a (AV.B x6)), (HV.a (AV.L 1 x7))]))] []) = f7_p1 x0 x1 x2 x3 x4 x5 x6 x7 := by
  refine Eq.trans (b :=
      f7_l3 (ann7x FU).fuel (mkSt [(1, (EV.v (AV.L 13 x0))), (2, (EV.lp 2 0 0)), (7, (EV.v (AV.S x1))), (8, (EV.v (AV.I IntKind.i64 x2)))] [(2, LOv.mk 0 (LO.box 0 [(HV.a (AV.I IntKind.i64 x3)), (HV.a (AV.I IntKind.i64 x4)), (HV.a (AV.I IntKind.i64 x5)), (HV.a (AV.B x6)), (HV.a (AV.L 1 x7))]))] [])) (by kernel_rfl) ?_
  simp only [f7_p1, f7_L3_eq]
noncomputable def f7_p0 (x0 : List (List AV)) (x1 : List UInt8) (x2 : Int) (x3 : Int) (x4 : Int) (x5 : Bool) (x6 : List (List AV)) : Res :=
      chk (decide (List.length x1 + 1 ≤ 140737488355328)) (
      f7_p1 x0 (x1 ++ [10]) (0 : Int) x2 x3 x4 x5 x6)
theorem f7_p0_eq (x0 : List (List AV)) (x1 : List UInt8) (x2 : Int) (x3 : Int) (x4 : Int) (x5 : Bool) (x6 : List (List AV)) : f7_k0 (mkSt [(1, (EV.v (AV.L 13 x0))), (2, (EV.lp 2 0 0)), (7, (EV.v (AV.S x1)))] [(2, LOv.mk 0 (LO.box 0 [(HV.a (AV.I IntKind.i64 x2)), (HV.a (AV.I IntKind.i64 x3)), (HV.a (AV.I IntKind.i64 x4)), (HV.a (AV.B x5)), (HV.a (AV.L 1 x6))]))] []) = f7_p0 x0 x1 x2 x3 x4 x5 x6 := by
  refine Eq.trans (b :=
      chk (decide (List.length x1 + 1 ≤ 140737488355328)) (
      f7_k1 (mkSt [(1, (EV.v (AV.L 13 x0))), (2, (EV.lp 2 0 0)), (7, (EV.v (AV.S (x1 ++ [10])))), (8, (EV.v (AV.I IntKind.i64 (0 : Int))))] [(2, LOv.mk 0 (LO.box 0 [(HV.a (AV.I IntKind.i64 x2)), (HV.a (AV.I IntKind.i64 x3)), (HV.a (AV.I IntKind.i64 x4)), (HV.a (AV.B x5)), (HV.a (AV.L 1 x6))]))] []))) (by kernel_rfl) ?_
  simp only [f7_p0, f7_p1_eq]
noncomputable def f7_e (x0 : Int) (x1 : Int) (x2 : Int) (x3 : Bool) (x4 : List (List AV)) (x5 : List (List AV)) : Res :=
      chk (noPs [AV.A [AV.I IntKind.i64 x0, AV.I IntKind.i64 x1, AV.I IntKind.i64 x2, AV.B x3, AV.L 1 x4]]) (
      chk (Sp.pre sp17 [AV.A [AV.I IntKind.i64 x0, AV.I IntKind.i64 x1, AV.I IntKind.i64 x2, AV.B x3, AV.L 1 x4]] []) (
      bIte (setErr x0 x1 x2 (List.map intOf x4) != 0) (
      Res.ret (AV.T [AV.S [], AV.I IntKind.i64 (setErr x0 x1 x2 (List.map intOf x4))]) ([])) (
      chk (Sp.pre sp18 [AV.I IntKind.i64 x0] []) (
      chk (decide (6 + List.length (decB (Int.toNat x0)) ≤ 140737488355328)) (
      chk (decide (List.length ([103, 114, 111, 117, 112, 32] ++ decB (Int.toNat x0)) + 1 ≤ 140737488355328)) (
      chk (Sp.pre sp18 [AV.I IntKind.i64 x1] []) (
      chk (decide (List.length ([103, 114, 111, 117, 112, 32] ++ decB (Int.toNat x0) ++ [32]) + List.length (decB (Int.toNat x1)) ≤ 140737488355328)) (
      chk (decide (List.length ([103, 114, 111, 117, 112, 32] ++ decB (Int.toNat x0) ++ [32] ++ decB (Int.toNat x1)) + 1 ≤ 140737488355328)) (
      chk (Sp.pre sp18 [AV.I IntKind.i64 x2] []) (
      chk (decide (List.length ([103, 114, 111, 117, 112, 32] ++ decB (Int.toNat x0) ++ [32] ++ decB (Int.toNat x1) ++ [32]) + List.length (decB (Int.toNat x2)) ≤ 140737488355328)) (
      bIte x3 (
      chk (decide (List.length ([103, 114, 111, 117, 112, 32] ++ decB (Int.toNat x0) ++ [32] ++ decB (Int.toNat x1) ++ [32] ++ decB (Int.toNat x2)) + 10 ≤ 140737488355328)) (
      f7_p0 x5 ([103, 114, 111, 117, 112, 32] ++ decB (Int.toNat x0) ++ [32] ++ decB (Int.toNat x1) ++ [32] ++ decB (Int.toNat x2) ++ [32, 117, 110, 103, 117, 97, 114, 100, 101, 100]) x0 x1 x2 x3 x4)) (
      f7_p0 x5 ([103, 114, 111, 117, 112, 32] ++ decB (Int.toNat x0) ++ [32] ++ decB (Int.toNat x1) ++ [32] ++ decB (Int.toNat x2)) x0 x1 x2 x3 x4))))))))))))
theorem f7_eq (x0 : Int) (x1 : Int) (x2 : Int) (x3 : Bool) (x4 : List (List AV)) (x5 : List (List AV)) : f7_sem [(AV.A [(AV.I IntKind.i64 x0), (AV.I IntKind.i64 x1), (AV.I IntKind.i64 x2), (AV.B x3), (AV.L 1 x4)]), (AV.L 13 x5)] [] = f7_e x0 x1 x2 x3 x4 x5 := by
  refine Eq.trans (b :=
      chk (noPs [AV.A [AV.I IntKind.i64 x0, AV.I IntKind.i64 x1, AV.I IntKind.i64 x2, AV.B x3, AV.L 1 x4]]) (
      chk (Sp.pre sp17 [AV.A [AV.I IntKind.i64 x0, AV.I IntKind.i64 x1, AV.I IntKind.i64 x2, AV.B x3, AV.L 1 x4]] []) (
      bIte (setErr x0 x1 x2 (List.map intOf x4) != 0) (
      Res.ret (AV.T [AV.S [], AV.I IntKind.i64 (setErr x0 x1 x2 (List.map intOf x4))]) ([])) (
      chk (Sp.pre sp18 [AV.I IntKind.i64 x0] []) (
      chk (decide (6 + List.length (decB (Int.toNat x0)) ≤ 140737488355328)) (
      chk (decide (List.length ([103, 114, 111, 117, 112, 32] ++ decB (Int.toNat x0)) + 1 ≤ 140737488355328)) (
      chk (Sp.pre sp18 [AV.I IntKind.i64 x1] []) (
      chk (decide (List.length ([103, 114, 111, 117, 112, 32] ++ decB (Int.toNat x0) ++ [32]) + List.length (decB (Int.toNat x1)) ≤ 140737488355328)) (
      chk (decide (List.length ([103, 114, 111, 117, 112, 32] ++ decB (Int.toNat x0) ++ [32] ++ decB (Int.toNat x1)) + 1 ≤ 140737488355328)) (
      chk (Sp.pre sp18 [AV.I IntKind.i64 x2] []) (
      chk (decide (List.length ([103, 114, 111, 117, 112, 32] ++ decB (Int.toNat x0) ++ [32] ++ decB (Int.toNat x1) ++ [32]) + List.length (decB (Int.toNat x2)) ≤ 140737488355328)) (
      bIte x3 (
      chk (decide (List.length ([103, 114, 111, 117, 112, 32] ++ decB (Int.toNat x0) ++ [32] ++ decB (Int.toNat x1) ++ [32] ++ decB (Int.toNat x2)) + 10 ≤ 140737488355328)) (
      f7_k0 (mkSt [(1, (EV.v (AV.L 13 x5))), (2, (EV.lp 2 0 0)), (7, (EV.v (AV.S ([103, 114, 111, 117, 112, 32] ++ decB (Int.toNat x0) ++ [32] ++ decB (Int.toNat x1) ++ [32] ++ decB (Int.toNat x2) ++ [32, 117, 110, 103, 117, 97, 114, 100, 101, 100]))))] [(2, LOv.mk 0 (LO.box 0 [(HV.a (AV.I IntKind.i64 x0)), (HV.a (AV.I IntKind.i64 x1)), (HV.a (AV.I IntKind.i64 x2)), (HV.a (AV.B x3)), (HV.a (AV.L 1 x4))]))] []))) (
      f7_k0 (mkSt [(1, (EV.v (AV.L 13 x5))), (2, (EV.lp 2 0 0)), (7, (EV.v (AV.S ([103, 114, 111, 117, 112, 32] ++ decB (Int.toNat x0) ++ [32] ++ decB (Int.toNat x1) ++ [32] ++ decB (Int.toNat x2)))))] [(2, LOv.mk 0 (LO.box 0 [(HV.a (AV.I IntKind.i64 x0)), (HV.a (AV.I IntKind.i64 x1)), (HV.a (AV.I IntKind.i64 x2)), (HV.a (AV.B x3)), (HV.a (AV.L 1 x4))]))] [])))))))))))))) (by kernel_rfl) ?_
  simp only [f7_e, f7_p0_eq]
noncomputable def S9 : Nat → Sp := fun g => bif Nat.beq g 20 then sp20 else spN
noncomputable def f9_sem : List AV → List HO → Res := semU cx (ann9x FU) Go.Proofs.Tryd.f9 S9
noncomputable def f9_k2 : St → Res := aC cx (ann9x FU) (altAlg cx.pure S9) (altAlg cx.pure S9) (sq2 (sq2 (sq2 (bodyOf Go.Proofs.Tryd.f9)))) (resK (altAlg cx.pure S9) cx (ann9x FU) Go.Proofs.Tryd.f9) (fun _ _ => Res.stuck) (resK (altAlg cx.pure S9) cx (ann9x FU) Go.Proofs.Tryd.f9)
noncomputable def f9_j2 : St → Res := fun s => f9_k2 (nrm (ann9x FU) (headId (sq2 (sq2 (sq2 (bodyOf Go.Proofs.Tryd.f9))))) s)
noncomputable def f9_x1 : Nat → St → Res := fun i s => if i = 0 then (f9_j2) s else (fun _ _ => Res.stuck) i s
noncomputable def f9_l0 : Nat → St → Res := loopR (altAlg cx.pure S9) (fun ih0_ s => aC cx (ann9x FU) (altAlg cx.pure S9) (altAlg cx.pure S9) (blk (blk (sq2 (sq1 (sq2 (sq2 (bodyOf Go.Proofs.Tryd.f9))))))) (fun s' => ih0_ (nrm (ann9x FU) (headId (blk (blk (sq2 (sq1 (sq2 (sq2 (bodyOf Go.Proofs.Tryd.f9)))))))) s')) (f9_x1) (resK (altAlg cx.pure S9) cx (ann9x FU) Go.Proofs.Tryd.f9) s)
noncomputable def f9_L0 : Nat → List (List AV) → List (List AV) → Int → Res
  | 0, _, _, _ => Res.stuck
  | n + 1, x0, x1, x2 =>
      bIte (decide (x2 < (↑(List.length x0) : Int))) (
      ix x2 (List.length x0) fun i0 =>
      ix x2 (List.length x1) fun i1 =>
      mA 13 (AV.A (List.getD x0 i0 [])) fun c2 =>
      mA 13 (AV.A (List.getD x1 i1 [])) fun c3 =>
      mI IntKind.i64 (List.getD c2 0 AV.U) fun n4 =>
      mI IntKind.i64 (List.getD c3 0 AV.U) fun n5 =>
      bIte (n4 != n5) (
      Res.ret (AV.B false) ([])) (
      mI IntKind.i64 (List.getD c2 1 AV.U) fun n6 =>
      mI IntKind.i64 (List.getD c3 1 AV.U) fun n7 =>
      bIte (n6 != n7) (
      Res.ret (AV.B false) ([])) (
      mI IntKind.i64 (List.getD c2 2 AV.U) fun n8 =>
      mI IntKind.i64 (List.getD c3 2 AV.U) fun n9 =>
      bIte (n8 != n9) (
      Res.ret (AV.B false) ([])) (
      mI IntKind.i64 (List.getD c2 3 AV.U) fun n10 =>
      mI IntKind.i64 (List.getD c3 3 AV.U) fun n11 =>
      bIte (n10 != n11) (
      Res.ret (AV.B false) ([])) (
      mI IntKind.i64 (List.getD c2 4 AV.U) fun n12 =>
      mI IntKind.i64 (List.getD c3 4 AV.U) fun n13 =>
      bIte (n12 != n13) (
      Res.ret (AV.B false) ([])) (
      mI IntKind.i64 (List.getD c2 5 AV.U) fun n14 =>
      mI IntKind.i64 (List.getD c3 5 AV.U) fun n15 =>
      bIte (n14 != n15) (
      Res.ret (AV.B false) ([])) (
      mI IntKind.i64 (List.getD c2 6 AV.U) fun n16 =>
      mI IntKind.i64 (List.getD c3 6 AV.U) fun n17 =>
      bIte (n16 != n17) (
      Res.ret (AV.B false) ([])) (
      eqs ([FK.i, FK.i]) ([List.getD c2 7 AV.U, List.getD c2 8 AV.U]) ([List.getD c3 7 AV.U, List.getD c3 8 AV.U]) fun b18 =>
      bIte (!b18) (
      Res.ret (AV.B false) ([])) (
      eqs ([FK.i, FK.i, FK.s]) ([List.getD c2 9 AV.U, List.getD c2 10 AV.U, List.getD c2 11 AV.U]) ([List.getD c3 9 AV.U, List.getD c3 10 AV.U, List.getD c3 11 AV.U]) fun b19 =>
      bIte (!b19) (
      Res.ret (AV.B false) ([])) (
      mW (List.getD c2 12 AV.U) ( fun w20 =>
      mW (List.getD c3 12 AV.U) ( fun w21 =>
      Res.stuck) (
      Res.stuck)) (
      mW (List.getD c3 12 AV.U) ( fun w22 =>
      chk (noPs [List.getD c2 12 AV.U, AV.W w22]) (
      chk (Sp.pre sp20 [List.getD c2 12 AV.U, AV.W w22] []) (
      chk (noP (Sp.val sp20 [List.getD c2 12 AV.U, AV.W w22] [])) (
      mB (Sp.val sp20 [List.getD c2 12 AV.U, AV.W w22] []) fun b23 =>
      bIte (!b23) (
      Res.ret (AV.B false) ([])) (
      (f9_L0 n) x0 x1 (IntKind.wrap IntKind.i64 (x2 + 1))))))) (
      chk (noPs [List.getD c2 12 AV.U, List.getD c3 12 AV.U]) (
      chk (Sp.pre sp20 [List.getD c2 12 AV.U, List.getD c3 12 AV.U] []) (
      chk (noP (Sp.val sp20 [List.getD c2 12 AV.U, List.getD c3 12 AV.U] [])) (
      mB (Sp.val sp20 [List.getD c2 12 AV.U, List.getD c3 12 AV.U] []) fun b24 =>
      bIte (!b24) (
      Res.ret (AV.B false) ([])) (
      (f9_L0 n) x0 x1 (IntKind.wrap IntKind.i64 (x2 + 1)))))))))))))))))) (
      Res.ret (AV.B true) ([]))
theorem f9_L0_eq : ∀ (n : Nat) (x0 : List (List AV)) (x1 : List (List AV)) (x2 : Int), f9_l0 n (mkSt [(0, (EV.v (AV.L 13 x0))), (1, (EV.v (AV.L 13 x1))), (5, (EV.v (AV.I IntKind.i64 x2)))] [] []) = f9_L0 n x0 x1 x2 := by
  intro n
  induction n with
  | zero => intros; rfl
  | succ n IH =>
    intro x0 x1 x2
    refine Eq.trans (b :=
      bIte (decide (x2 < (↑(List.length x0) : Int))) (
      ix x2 (List.length x0) fun i0 =>
      ix x2 (List.length x1) fun i1 =>
      mA 13 (AV.A (List.getD x0 i0 [])) fun c2 =>
      mA 13 (AV.A (List.getD x1 i1 [])) fun c3 =>
      mI IntKind.i64 (List.getD c2 0 AV.U) fun n4 =>
      mI IntKind.i64 (List.getD c3 0 AV.U) fun n5 =>
      bIte (n4 != n5) (
      Res.ret (AV.B false) ([])) (
      mI IntKind.i64 (List.getD c2 1 AV.U) fun n6 =>
      mI IntKind.i64 (List.getD c3 1 AV.U) fun n7 =>
      bIte (n6 != n7) (
      Res.ret (AV.B false) ([])) (
      mI IntKind.i64 (List.getD c2 2 AV.U) fun n8 =>
      mI IntKind.i64 (List.getD c3 2 AV.U) fun n9 =>
      bIte (n8 != n9) (
      Res.ret (AV.B false) ([])) (
      mI IntKind.i64 (List.getD c2 3 AV.U) fun n10 =>
      mI IntKind.i64 (List.getD c3 3 AV.U) fun n11 =>
      bIte (n10 != n11) (
      Res.ret (AV.B false) ([])) (
      mI IntKind.i64 (List.getD c2 4 AV.U) fun n12 =>
      mI IntKind.i64 (List.getD c3 4 AV.U) fun n13 =>
      bIte (n12 != n13) (
      Res.ret (AV.B false) ([])) (
      mI IntKind.i64 (List.getD c2 5 AV.U) fun n14 =>
      mI IntKind.i64 (List.getD c3 5 AV.U) fun n15 =>
      bIte (n14 != n15) (
      Res.ret (AV.B false) ([])) (
      mI IntKind.i64 (List.getD c2 6 AV.U) fun n16 =>
      mI IntKind.i64 (List.getD c3 6 AV.U) fun n17 =>
      bIte (n16 != n17) (
      Res.ret (AV.B false) ([])) (
      eqs ([FK.i, FK.i]) ([List.getD c2 7 AV.U, List.getD c2 8 AV.U]) ([List.getD c3 7 AV.U, List.getD c3 8 AV.U]) fun b18 =>
      bIte (!b18) (
      Res.ret (AV.B false) ([])) (
      eqs ([FK.i, FK.i, FK.s]) ([List.getD c2 9 AV.U, List.getD c2 10 AV.U, List.getD c2 11 AV.U]) ([List.getD c3 9 AV.U, List.getD c3 10 AV.U, List.getD c3 11 AV.U]) fun b19 =>
      bIte (!b19) (
      Res.ret (AV.B false) ([])) (
      mW (List.getD c2 12 AV.U) ( fun w20 =>
      mW (List.getD c3 12 AV.U) ( fun w21 =>
      Res.stuck) (
      Res.stuck)) (
      mW (List.getD c3 12 AV.U) ( fun w22 =>
      chk (noPs [List.getD c2 12 AV.U, AV.W w22]) (
      chk (Sp.pre sp20 [List.getD c2 12 AV.U, AV.W w22] []) (
      chk (noP (Sp.val sp20 [List.getD c2 12 AV.U, AV.W w22] [])) (
      mB (Sp.val sp20 [List.getD c2 12 AV.U, AV.W w22] []) fun b23 =>
      bIte (!b23) (
      Res.ret (AV.B false) ([])) (
      (f9_l0 n) (mkSt [(0, (EV.v (AV.L 13 x0))), (1, (EV.v (AV.L 13 x1))), (5, (EV.v (AV.I IntKind.i64 (IntKind.wrap IntKind.i64 (x2 + 1)))))] [] [])))))) (
      chk (noPs [List.getD c2 12 AV.U, List.getD c3 12 AV.U]) (
      chk (Sp.pre sp20 [List.getD c2 12 AV.U, List.getD c3 12 AV.U] []) (
      chk (noP (Sp.val sp20 [List.getD c2 12 AV.U, List.getD c3 12 AV.U] [])) (
      mB (Sp.val sp20 [List.getD c2 12 AV.U, List.getD c3 12 AV.U] []) fun b24 =>
      bIte (!b24) (
      Res.ret (AV.B false) ([])) (
      (f9_l0 n) (mkSt [(0, (EV.v (AV.L 13 x0))), (1, (EV.v (AV.L 13 x1))), (5, (EV.v (AV.I IntKind.i64 (IntKind.wrap IntKind.i64 (x2 + 1)))))] [] []))))))))))))))))) (
      Res.ret (AV.B true) ([]))) (by kernel_rfl) ?_
    simp only [f9_L0, IH]
noncomputable def f9_e (x0 : List (List AV)) (x1 : List (List AV)) : Res :=
      bIte ((↑(List.length x0) : Int) != (↑(List.length x1) : Int)) (
      Res.ret (AV.B false) ([])) (
      f9_L0 (ann9x FU).fuel x0 x1 (0 : Int))
theorem f9_eq (x0 : List (List AV)) (x1 : List (List AV)) : f9_sem [(AV.L 13 x0), (AV.L 13 x1)] [] = f9_e x0 x1 := by
  refine Eq.trans (b :=
      bIte ((↑(List.length x0) : Int) != (↑(List.length x1) : Int)) (
      Res.ret (AV.B false) ([])) (
      f9_l0 (ann9x FU).fuel (mkSt [(0, (EV.v (AV.L 13 x0))), (1, (EV.v (AV.L 13 x1))), (5, (EV.v (AV.I IntKind.i64 (0 : Int))))] [] []))) (by kernel_rfl) ?_
  simp only [f9_e, f9_L0_eq]
noncomputable def S11 : Nat → Sp := fun g => bif Nat.beq g 25 then sp25 else spN
noncomputable def f11_sem : List AV → List HO → Res := semU cx (ann11x FU) Go.Proofs.Tryd.f11 S11
noncomputable def f11_e (x0 : List UInt8) (x1 : List (List AV)) (x2 : List (List AV)) (x3 : List (List AV)) (x4 : List (List AV)) (x5 : List (List AV)) (x6 : List (List AV)) (x7 : List (List AV)) (x8 : List (List AV)) (x9 : List (List AV)) (x10 : List (List AV)) : Res :=
      chk (Sp.pre sp25 [AV.Y x0] []) (
      chk (decide (List.length x0 + 1 ≤ 140737488355328 ∧ (List.length x0 + 1) * 1 ≤ 140737488355328)) (
      chk (decide (List.length x1 + 1 ≤ 140737488355328 ∧ (List.length x1 + 1) * 24 ≤ 140737488355328)) (
      chk (Sp.pre sp25 [AV.Y (x0 ++ [90])] []) (
      chk (decide (List.length x2 + 1 ≤ 140737488355328 ∧ (List.length x2 + 1) * 24 ≤ 140737488355328)) (
      chk (decide (0 ≤ (↑(List.length x0) : Int) ∧ (↑(List.length x0) : Int) ≤ (↑(List.length (x0 ++ [90])) : Int))) (
      Res.ret (AV.Y (List.drop 0 (List.take (Int.toNat (↑(List.length x0) : Int)) (x0 ++ [90])))) ([HO.cells [HV.g (SC.e 41 1 (x1 ++ [[AV.Y (x0 ++ [90])]])), HV.g (SC.e 41 1 (x2 ++ [[AV.Y (x0 ++ [90])]])), HV.g (SC.e 82 1 x3), HV.g (SC.e 82 1 x4), HV.g (SC.e 80 1 x5), HV.g (SC.e 80 1 x6), HV.g (SC.e 90 1 x7), HV.g (SC.e 90 1 x8), HV.g (SC.e 88 12 x9), HV.g (SC.e 88 12 x10)]])))))))
theorem f11_eq (x0 : List UInt8) (x1 : List (List AV)) (x2 : List (List AV)) (x3 : List (List AV)) (x4 : List (List AV)) (x5 : List (List AV)) (x6 : List (List AV)) (x7 : List (List AV)) (x8 : List (List AV)) (x9 : List (List AV)) (x10 : List (List AV)) : f11_sem [(AV.P 0 0), (AV.Y x0)] [(HO.cells [(HV.g (SC.e 41 1 x1)), (HV.g (SC.e 41 1 x2)), (HV.g (SC.e 82 1 x3)), (HV.g (SC.e 82 1 x4)), (HV.g (SC.e 80 1 x5)), (HV.g (SC.e 80 1 x6)), (HV.g (SC.e 90 1 x7)), (HV.g (SC.e 90 1 x8)), (HV.g (SC.e 88 12 x9)), (HV.g (SC.e 88 12 x10))])] = f11_e x0 x1 x2 x3 x4 x5 x6 x7 x8 x9 x10 := by
  kernel_rfl
noncomputable def S4 : Nat → Sp := fun g => bif Nat.beq g 11 then sp11 else spN
noncomputable def f4_sem : List AV → List HO → Res := semU cx (ann4x FU) Go.Proofs.Tryd.f4 S4
noncomputable def f4_e (x0 : Int) (x1 : Int) (x2 : Int) (x3 : Int) (x4 : Int) (x5 : Int) (x6 : Int) (x7 : Int) (x8 : Int) (x9 : Int) (x10 : Int) (x11 : List UInt8) (x12 : List UInt8) (x13 : List (List AV)) (x14 : List (List AV)) (x15 : List (List AV)) (x16 : List (List AV)) (x17 : List (List AV)) (x18 : List (List AV)) (x19 : List (List AV)) (x20 : List (List AV)) (x21 : List (List AV)) (x22 : List (List AV)) : Res :=
      chk (Sp.pre sp11 [AV.P 0 0, AV.Y x12] [HO.cells [HV.g (SC.e 41 1 x13), HV.g (SC.e 41 1 x14), HV.g (SC.e 82 1 x15), HV.g (SC.e 82 1 x16), HV.g (SC.e 80 1 x17), HV.g (SC.e 80 1 x18), HV.g (SC.e 90 1 x19), HV.g (SC.e 90 1 x20), HV.g (SC.e 88 12 x21), HV.g (SC.e 88 12 x22)]]) (
      Res.ret (AV.A [AV.I IntKind.i64 x0, AV.I IntKind.i64 x1, AV.I IntKind.i64 x2, AV.I IntKind.i64 x3, AV.I IntKind.i64 x4, AV.I IntKind.i64 x5, AV.I IntKind.i64 x6, AV.I IntKind.u64 x7, AV.I IntKind.u64 x8, AV.I IntKind.i64 x9, AV.I IntKind.i64 x10, AV.S x11, AV.Y x12]) ([HO.cells [HV.g (SC.e 41 1 (x13 ++ [[AV.Y (x12 ++ [90])]])), HV.g (SC.e 41 1 (x14 ++ [[AV.Y (x12 ++ [90])]])), HV.g (SC.e 82 1 x15), HV.g (SC.e 82 1 x16), HV.g (SC.e 80 1 x17), HV.g (SC.e 80 1 x18), HV.g (SC.e 90 1 x19), HV.g (SC.e 90 1 x20), HV.g (SC.e 88 12 x21), HV.g (SC.e 88 12 x22)]]))
theorem f4_eq (x0 : Int) (x1 : Int) (x2 : Int) (x3 : Int) (x4 : Int) (x5 : Int) (x6 : Int) (x7 : Int) (x8 : Int) (x9 : Int) (x10 : Int) (x11 : List UInt8) (x12 : List UInt8) (x13 : List (List AV)) (x14 : List (List AV)) (x15 : List (List AV)) (x16 : List (List AV)) (x17 : List (List AV)) (x18 : List (List AV)) (x19 : List (List AV)) (x20 : List (List AV)) (x21 : List (List AV)) (x22 : List (List AV)) : f4_sem [(AV.P 0 0), (AV.A [(AV.I IntKind.i64 x0), (AV.I IntKind.i64 x1), (AV.I IntKind.i64 x2), (AV.I IntKind.i64 x3), (AV.I IntKind.i64 x4), (AV.I IntKind.i64 x5), (AV.I IntKind.i64 x6), (AV.I IntKind.u64 x7), (AV.I IntKind.u64 x8), (AV.I IntKind.i64 x9), (AV.I IntKind.i64 x10), (AV.S x11), (AV.Y x12)])] [(HO.cells [(HV.g (SC.e 41 1 x13)), (HV.g (SC.e 41 1 x14)), (HV.g (SC.e 82 1 x15)), (HV.g (SC.e 82 1 x16)), (HV.g (SC.e 80 1 x17)), (HV.g (SC.e 80 1 x18)), (HV.g (SC.e 90 1 x19)), (HV.g (SC.e 90 1 x20)), (HV.g (SC.e 88 12 x21)), (HV.g (SC.e 88 12 x22))])] = f4_e x0 x1 x2 x3 x4 x5 x6 x7 x8 x9 x10 x11 x12 x13 x14 x15 x16 x17 x18 x19 x20 x21 x22 := by
  kernel_rfl
noncomputable def S10 : Nat → Sp := fun g => bif Nat.beq g 24 then sp24 else bif Nat.beq g 23 then sp23 else bif Nat.beq g 22 then sp22 else bif Nat.beq g 21 then sp21 else bif Nat.beq g 20 then sp20 else spN
noncomputable def f10_sem : List AV → List HO → Res := semU cx (ann10x FU) Go.Proofs.Tryd.f10 S10
noncomputable def f10_k1 : St → Res := aC cx (ann10x FU) (altAlg cx.pure S10) (altAlg cx.pure S10) (sq2 (sq2 (bodyOf Go.Proofs.Tryd.f10))) (resK (altAlg cx.pure S10) cx (ann10x FU) Go.Proofs.Tryd.f10) (fun _ _ => Res.stuck) (resK (altAlg cx.pure S10) cx (ann10x FU) Go.Proofs.Tryd.f10)
noncomputable def f10_j1 : St → Res := fun s => f10_k1 (nrm (ann10x FU) (headId (sq2 (sq2 (bodyOf Go.Proofs.Tryd.f10)))) s)
noncomputable def f10_k0 : St → Res := aC cx (ann10x FU) (altAlg cx.pure S10) (altAlg cx.pure S10) (sq2 (sq1 (sq2 (bodyOf Go.Proofs.Tryd.f10)))) (f10_j1) (fun _ _ => Res.stuck) (resK (altAlg cx.pure S10) cx (ann10x FU) Go.Proofs.Tryd.f10)
noncomputable def f10_j0 : St → Res := fun s => f10_k0 (nrm (ann10x FU) (headId (sq2 (sq1 (sq2 (bodyOf Go.Proofs.Tryd.f10))))) s)
noncomputable def f10_x0 : Nat → St → Res := fun i s => if i = 0 then (f10_j1) s else (fun _ _ => Res.stuck) i s
noncomputable def f10_l2 : Nat → St → Res := loopR (altAlg cx.pure S10) (fun ih2_ s => aC cx (ann10x FU) (altAlg cx.pure S10) (altAlg cx.pure S10) (blk (blk (sq2 (sq1 (sq2 (bodyOf Go.Proofs.Tryd.f10)))))) (fun s' => ih2_ (nrm (ann10x FU) (headId (blk (blk (sq2 (sq1 (sq2 (bodyOf Go.Proofs.Tryd.f10))))))) s')) (f10_x0) (resK (altAlg cx.pure S10) cx (ann10x FU) Go.Proofs.Tryd.f10) s)
noncomputable def f10_k3 (ih2_ : St → Res) : St → Res := aC cx (ann10x FU) (altAlg cx.pure S10) (altAlg cx.pure S10) (sq2 (sq2 (blk (blk (sq2 (sq1 (sq2 (bodyOf Go.Proofs.Tryd.f10)))))))) (fun s => ih2_ (nrm (ann10x FU) (headId (blk (blk (sq2 (sq1 (sq2 (bodyOf Go.Proofs.Tryd.f10))))))) s)) (f10_x0) (resK (altAlg cx.pure S10) cx (ann10x FU) Go.Proofs.Tryd.f10)
noncomputable def f10_j3 (ih2_ : St → Res) : St → Res := fun s => f10_k3 ih2_ (nrm (ann10x FU) (headId (sq2 (sq2 (blk (blk (sq2 (sq1 (sq2 (bodyOf Go.Proofs.Tryd.f10))))))))) s)
noncomputable def f10_k5 : St → Res := aC cx (ann10x FU) (altAlg cx.pure S10) (altAlg cx.pure S10) (sq2 (sq2 (sq2 (bodyOf Go.Proofs.Tryd.f10)))) (resK (altAlg cx.pure S10) cx (ann10x FU) Go.Proofs.Tryd.f10) (fun _ _ => Res.stuck) (resK (altAlg cx.pure S10) cx (ann10x FU) Go.Proofs.Tryd.f10)
noncomputable def f10_j5 : St → Res := fun s => f10_k5 (nrm (ann10x FU) (headId (sq2 (sq2 (sq2 (bodyOf Go.Proofs.Tryd.f10))))) s)
noncomputable def f10_k4 : St → Res := aC cx (ann10x FU) (altAlg cx.pure S10) (altAlg cx.pure S10) (sq2 (sq1 (sq2 (sq2 (bodyOf Go.Proofs.Tryd.f10))))) (f10_j5) (fun _ _ => Res.stuck) (resK (altAlg cx.pure S10) cx (ann10x FU) Go.Proofs.Tryd.f10)
noncomputable def f10_j4 : St → Res := fun s => f10_k4 (nrm (ann10x FU) (headId (sq2 (sq1 (sq2 (sq2 (bodyOf Go.Proofs.Tryd.f10)))))) s)
noncomputable def f10_x4 : Nat → St → Res := fun i s => if i = 2 then (f10_j5) s else (fun _ _ => Res.stuck) i s
noncomputable def f10_l6 : Nat → St → Res := loopR (altAlg cx.pure S10) (fun ih6_ s => aC cx (ann10x FU) (altAlg cx.pure S10) (altAlg cx.pure S10) (blk (blk (sq2 (sq1 (sq2 (sq2 (bodyOf Go.Proofs.Tryd.f10))))))) (fun s' => ih6_ (nrm (ann10x FU) (headId (blk (blk (sq2 (sq1 (sq2 (sq2 (bodyOf Go.Proofs.Tryd.f10)))))))) s')) (f10_x4) (resK (altAlg cx.pure S10) cx (ann10x FU) Go.Proofs.Tryd.f10) s)
noncomputable def f10_k8 : St → Res := aC cx (ann10x FU) (altAlg cx.pure S10) (altAlg cx.pure S10) (sq2 (sq2 (sq2 (sq2 (bodyOf Go.Proofs.Tryd.f10))))) (resK (altAlg cx.pure S10) cx (ann10x FU) Go.Proofs.Tryd.f10) (fun _ _ => Res.stuck) (resK (altAlg cx.pure S10) cx (ann10x FU) Go.Proofs.Tryd.f10)
noncomputable def f10_j8 : St → Res := fun s => f10_k8 (nrm (ann10x FU) (headId (sq2 (sq2 (sq2 (sq2 (bodyOf Go.Proofs.Tryd.f10)))))) s)
noncomputable def f10_k7 : St → Res := aC cx (ann10x FU) (altAlg cx.pure S10) (altAlg cx.pure S10) (sq2 (sq1 (sq2 (sq2 (sq2 (bodyOf Go.Proofs.Tryd.f10)))))) (f10_j8) (fun _ _ => Res.stuck) (resK (altAlg cx.pure S10) cx (ann10x FU) Go.Proofs.Tryd.f10)
noncomputable def f10_j7 : St → Res := fun s => f10_k7 (nrm (ann10x FU) (headId (sq2 (sq1 (sq2 (sq2 (sq2 (bodyOf Go.Proofs.Tryd.f10))))))) s)
noncomputable def f10_x7 : Nat → St → Res := fun i s => if i = 4 then (f10_j8) s else (fun _ _ => Res.stuck) i s
noncomputable def f10_l9 : Nat → St → Res := loopR (altAlg cx.pure S10) (fun ih9_ s => aC cx (ann10x FU) (altAlg cx.pure S10) (altAlg cx.pure S10) (blk (blk (sq2 (sq1 (sq2 (sq2 (sq2 (bodyOf Go.Proofs.Tryd.f10)))))))) (fun s' => ih9_ (nrm (ann10x FU) (headId (blk (blk (sq2 (sq1 (sq2 (sq2 (sq2 (bodyOf Go.Proofs.Tryd.f10))))))))) s')) (f10_x7) (resK (altAlg cx.pure S10) cx (ann10x FU) Go.Proofs.Tryd.f10) s)
noncomputable def f10_k11 : St → Res := aC cx (ann10x FU) (altAlg cx.pure S10) (altAlg cx.pure S10) (sq2 (sq2 (sq2 (sq2 (sq2 (bodyOf Go.Proofs.Tryd.f10)))))) (resK (altAlg cx.pure S10) cx (ann10x FU) Go.Proofs.Tryd.f10) (fun _ _ => Res.stuck) (resK (altAlg cx.pure S10) cx (ann10x FU) Go.Proofs.Tryd.f10)
noncomputable def f10_j11 : St → Res := fun s => f10_k11 (nrm (ann10x FU) (headId (sq2 (sq2 (sq2 (sq2 (sq2 (bodyOf Go.Proofs.Tryd.f10))))))) s)
noncomputable def f10_k10 : St → Res := aC cx (ann10x FU) (altAlg cx.pure S10) (altAlg cx.pure S10) (sq2 (sq1 (sq2 (sq2 (sq2 (sq2 (bodyOf Go.Proofs.Tryd.f10))))))) (f10_j11) (fun _ _ => Res.stuck) (resK (altAlg cx.pure S10) cx (ann10x FU) Go.Proofs.Tryd.f10)
noncomputable def f10_j10 : St → Res := fun s => f10_k10 (nrm (ann10x FU) (headId (sq2 (sq1 (sq2 (sq2 (sq2 (sq2 (bodyOf Go.Proofs.Tryd.f10)))))))) s)
noncomputable def f10_x10 : Nat → St → Res := fun i s => if i = 6 then (f10_j11) s else (fun _ _ => Res.stuck) i s
noncomputable def f10_l12 : Nat → St → Res := loopR (altAlg cx.pure S10) (fun ih12_ s => aC cx (ann10x FU) (altAlg cx.pure S10) (altAlg cx.pure S10) (blk (blk (sq2 (sq1 (sq2 (sq2 (sq2 (sq2 (bodyOf Go.Proofs.Tryd.f10))))))))) (fun s' => ih12_ (nrm (ann10x FU) (headId (blk (blk (sq2 (sq1 (sq2 (sq2 (sq2 (sq2 (bodyOf Go.Proofs.Tryd.f10)))))))))) s')) (f10_x10) (resK (altAlg cx.pure S10) cx (ann10x FU) Go.Proofs.Tryd.f10) s)
noncomputable def f10_k14 : St → Res := aC cx (ann10x FU) (altAlg cx.pure S10) (altAlg cx.pure S10) (sq2 (sq2 (sq2 (sq2 (sq2 (sq2 (bodyOf Go.Proofs.Tryd.f10))))))) (resK (altAlg cx.pure S10) cx (ann10x FU) Go.Proofs.Tryd.f10) (fun _ _ => Res.stuck) (resK (altAlg cx.pure S10) cx (ann10x FU) Go.Proofs.Tryd.f10)
noncomputable def f10_j14 : St → Res := fun s => f10_k14 (nrm (ann10x FU) (headId (sq2 (sq2 (sq2 (sq2 (sq2 (sq2 (bodyOf Go.Proofs.Tryd.f10)))))))) s)
noncomputable def f10_k13 : St → Res := aC cx (ann10x FU) (altAlg cx.pure S10) (altAlg cx.pure S10) (sq2 (sq1 (sq2 (sq2 (sq2 (sq2 (sq2 (bodyOf Go.Proofs.Tryd.f10)))))))) (f10_j14) (fun _ _ => Res.stuck) (resK (altAlg cx.pure S10) cx (ann10x FU) Go.Proofs.Tryd.f10)
noncomputable def f10_j13 : St → Res := fun s => f10_k13 (nrm (ann10x FU) (headId (sq2 (sq1 (sq2 (sq2 (sq2 (sq2 (sq2 (bodyOf Go.Proofs.Tryd.f10))))))))) s)
noncomputable def f10_x13 : Nat → St → Res := fun i s => if i = 8 then (f10_j14) s else (fun _ _ => Res.stuck) i s
noncomputable def f10_l15 : Nat → St → Res := loopR (altAlg cx.pure S10) (fun ih15_ s => aC cx (ann10x FU) (altAlg cx.pure S10) (altAlg cx.pure S10) (blk (blk (sq2 (sq1 (sq2 (sq2 (sq2 (sq2 (sq2 (bodyOf Go.Proofs.Tryd.f10)))))))))) (fun s' => ih15_ (nrm (ann10x FU) (headId (blk (blk (sq2 (sq1 (sq2 (sq2 (sq2 (sq2 (sq2 (bodyOf Go.Proofs.Tryd.f10))))))))))) s')) (f10_x13) (resK (altAlg cx.pure S10) cx (ann10x FU) Go.Proofs.Tryd.f10) s)
noncomputable def f10_p4 (rec2_ : Int → List (List AV) → List (List AV) → List (List AV) → List (List AV) → List (List AV) → List (List AV) → List (List AV) → List (List AV) → List (List AV) → List (List AV) → Res) (x0 : Int) (x1 : List (List AV)) (x2 : List (List AV)) (x3 : List (List AV)) (x4 : List (List AV)) (x5 : List (List AV)) (x6 : List (List AV)) (x7 : List (List AV)) (x8 : List (List AV)) (x9 : List (List AV)) (x10 : List (List AV)) : Res :=
      rec2_ (IntKind.wrap IntKind.i64 (x0 + 1)) x1 x2 x3 x4 x5 x6 x7 x8 x9 x10
theorem f10_p4_eq (ih2_ : St → Res) (rec2_ : Int → List (List AV) → List (List AV) → List (List AV) → List (List AV) → List (List AV) → List (List AV) → List (List AV) → List (List AV) → List (List AV) → List (List AV) → Res) (h2_ : ∀ (x0 : Int) (x1 : List (List AV)) (x2 : List (List AV)) (x3 : List (List AV)) (x4 : List (List AV)) (x5 : List (List AV)) (x6 : List (List AV)) (x7 : List (List AV)) (x8 : List (List AV)) (x9 : List (List AV)) (x10 : List (List AV)), ih2_ (mkSt [(0, (EV.v (AV.P 0 0))), (3, (EV.v (AV.I IntKind.i64 x0)))] [] [(HO.cells [(HV.g (SC.e 41 1 x1)), (HV.g (SC.e 41 1 x2)), (HV.g (SC.e 82 1 x3)), (HV.g (SC.e 82 1 x4)), (HV.g (SC.e 80 1 x5)), (HV.g (SC.e 80 1 x6)), (HV.g (SC.e 90 1 x7)), (HV.g (SC.e 90 1 x8)), (HV.g (SC.e 88 12 x9)), (HV.g (SC.e 88 12 x10))])]) = rec2_ x0 x1 x2 x3 x4 x5 x6 x7 x8 x9 x10) (x0 : Int) (x1 : List (List AV)) (x2 : List (List AV)) (x3 : List (List AV)) (x4 : List (List AV)) (x5 : List (List AV)) (x6 : List (List AV)) (x7 : List (List AV)) (x8 : List (List AV)) (x9 : List (List AV)) (x10 : List (List AV)) : f10_k3 ih2_ (mkSt [(0, (EV.v (AV.P 0 0))), (3, (EV.v (AV.I IntKind.i64 x0)))] [] [(HO.cells [(HV.g (SC.e 41 1 x1)), (HV.g (SC.e 41 1 x2)), (HV.g (SC.e 82 1 x3)), (HV.g (SC.e 82 1 x4)), (HV.g (SC.e 80 1 x5)), (HV.g (SC.e 80 1 x6)), (HV.g (SC.e 90 1 x7)), (HV.g (SC.e 90 1 x8)), (HV.g (SC.e 88 12 x9)), (HV.g (SC.e 88 12 x10))])]) = f10_p4 rec2_ x0 x1 x2 x3 x4 x5 x6 x7 x8 x9 x10 := by
  refine Eq.trans (b :=
      ih2_ (mkSt [(0, (EV.v (AV.P 0 0))), (3, (EV.v (AV.I IntKind.i64 (IntKind.wrap IntKind.i64 (x0 + 1)))))] [] [(HO.cells [(HV.g (SC.e 41 1 x1)), (HV.g (SC.e 41 1 x2)), (HV.g (SC.e 82 1 x3)), (HV.g (SC.e 82 1 x4)), (HV.g (SC.e 80 1 x5)), (HV.g (SC.e 80 1 x6)), (HV.g (SC.e 90 1 x7)), (HV.g (SC.e 90 1 x8)), (HV.g (SC.e 88 12 x9)), (HV.g (SC.e 88 12 x10))])])) (by kernel_rfl) ?_
  simp only [f10_p4, h2_]
noncomputable def f10_p21 (x0 : List (List AV)) (x1 : List (List AV)) (x2 : List (List AV)) (x3 : List (List AV)) (x4 : List (List AV)) (x5 : List (List AV)) (x6 : List (List AV)) (x7 : List (List AV)) (x8 : List (List AV)) (x9 : List (List AV)) : Res :=
      Res.ret (AV.B true) ([HO.cells [HV.g (SC.e 41 1 x0), HV.g (SC.e 41 1 x1), HV.g (SC.e 82 1 x2), HV.g (SC.e 82 1 x3), HV.g (SC.e 80 1 x4), HV.g (SC.e 80 1 x5), HV.g (SC.e 90 1 x6), HV.g (SC.e 90 1 x7), HV.g (SC.e 88 12 x8), HV.g (SC.e 88 12 x9)]])
theorem f10_p21_eq (x0 : List (List AV)) (x1 : List (List AV)) (x2 : List (List AV)) (x3 : List (List AV)) (x4 : List (List AV)) (x5 : List (List AV)) (x6 : List (List AV)) (x7 : List (List AV)) (x8 : List (List AV)) (x9 : List (List AV)) : f10_k14 (mkSt [] [] [(HO.cells [(HV.g (SC.e 41 1 x0)), (HV.g (SC.e 41 1 x1)), (HV.g (SC.e 82 1 x2)), (HV.g (SC.e 82 1 x3)), (HV.g (SC.e 80 1 x4)), (HV.g (SC.e 80 1 x5)), (HV.g (SC.e 90 1 x6)), (HV.g (SC.e 90 1 x7)), (HV.g (SC.e 88 12 x8)), (HV.g (SC.e 88 12 x9))])]) = f10_p21 x0 x1 x2 x3 x4 x5 x6 x7 x8 x9 := by
  kernel_rfl
noncomputable def f10_L15 : Nat → Int → List (List AV) → List (List AV) → List (List AV) → List (List AV) → List (List AV) → List (List AV) → List (List AV) → List (List AV) → List (List AV) → List (List AV) → Res
  | 0, _, _, _, _, _, _, _, _, _, _, _ => Res.stuck
  | n + 1, x0, x1, x2, x3, x4, x5, x6, x7, x8, x9, x10 =>
      bIte (decide (x0 < (↑(List.length x5) : Int))) (
      ix x0 (List.length x5) fun i19 =>
      ix x0 (List.length x6) fun i20 =>
      chk (noPs [List.getD (List.getD x5 i19 []) 0 AV.U, List.getD (List.getD x6 i20 []) 0 AV.U]) (
      Res.stuck)) (
      f10_p21 x1 x2 x3 x4 x5 x6 x7 x8 x9 x10)
theorem f10_L15_eq : ∀ (n : Nat) (x0 : Int) (x1 : List (List AV)) (x2 : List (List AV)) (x3 : List (List AV)) (x4 : List (List AV)) (x5 : List (List AV)) (x6 : List (List AV)) (x7 : List (List AV)) (x8 : List (List AV)) (x9 : List (List AV)) (x10 : List (List AV)), f10_l15 n (mkSt [(0, (EV.v (AV.P 0 0))), (7, (EV.v (AV.I IntKind.i64 x0)))] [] [(HO.cells [(HV.g (SC.e 41 1 x1)), (HV.g (SC.e 41 1 x2)), (HV.g (SC.e 82 1 x3)), (HV.g (SC.e 82 1 x4)), (HV.g (SC.e 80 1 x5)), (HV.g (SC.e 80 1 x6)), (HV.g (SC.e 90 1 x7)), (HV.g (SC.e 90 1 x8)), (HV.g (SC.e 88 12 x9)), (HV.g (SC.e 88 12 x10))])]) = f10_L15 n x0 x1 x2 x3 x4 x5 x6 x7 x8 x9 x10 := by
  intro n
  induction n with
  | zero => intros; rfl
  | succ n IH =>
    intro x0 x1 x2 x3 x4 x5 x6 x7 x8 x9 x10
    refine Eq.trans (b :=
      bIte (decide (x0 < (↑(List.length x5) : Int))) (
      ix x0 (List.length x5) fun i19 =>
      ix x0 (List.length x6) fun i20 =>
      chk (noPs [List.getD (List.getD x5 i19 []) 0 AV.U, List.getD (List.getD x6 i20 []) 0 AV.U]) (
      Res.stuck)) (
      f10_k14 (mkSt [] [] [(HO.cells [(HV.g (SC.e 41 1 x1)), (HV.g (SC.e 41 1 x2)), (HV.g (SC.e 82 1 x3)), (HV.g (SC.e 82 1 x4)), (HV.g (SC.e 80 1 x5)), (HV.g (SC.e 80 1 x6)), (HV.g (SC.e 90 1 x7)), (HV.g (SC.e 90 1 x8)), (HV.g (SC.e 88 12 x9)), (HV.g (SC.e 88 12 x10))])]))) (by kernel_rfl) ?_
    simp only [f10_L15, IH, f10_p21_eq]
noncomputable def f10_p18 (x0 : Int) (x1 : List (List AV)) (x2 : List (List AV)) (x3 : List (List AV)) (x4 : List (List AV)) (x5 : List (List AV)) (x6 : List (List AV)) (x7 : List (List AV)) (x8 : List (List AV)) (x9 : List (List AV)) (x10 : List (List AV)) : Res :=
      f10_L15 (ann10x FU).fuel x0 x1 x2 x3 x4 x5 x6 x7 x8 x9 x10
theorem f10_p18_eq (x0 : Int) (x1 : List (List AV)) (x2 : List (List AV)) (x3 : List (List AV)) (x4 : List (List AV)) (x5 : List (List AV)) (x6 : List (List AV)) (x7 : List (List AV)) (x8 : List (List AV)) (x9 : List (List AV)) (x10 : List (List AV)) : f10_k13 (mkSt [(0, (EV.v (AV.P 0 0))), (7, (EV.v (AV.I IntKind.i64 x0)))] [] [(HO.cells [(HV.g (SC.e 41 1 x1)), (HV.g (SC.e 41 1 x2)), (HV.g (SC.e 82 1 x3)), (HV.g (SC.e 82 1 x4)), (HV.g (SC.e 80 1 x5)), (HV.g (SC.e 80 1 x6)), (HV.g (SC.e 90 1 x7)), (HV.g (SC.e 90 1 x8)), (HV.g (SC.e 88 12 x9)), (HV.g (SC.e 88 12 x10))])]) = f10_p18 x0 x1 x2 x3 x4 x5 x6 x7 x8 x9 x10 := by
  refine Eq.trans (b :=
      f10_l15 (ann10x FU).fuel (mkSt [(0, (EV.v (AV.P 0 0))), (7, (EV.v (AV.I IntKind.i64 x0)))] [] [(HO.cells [(HV.g (SC.e 41 1 x1)), (HV.g (SC.e 41 1 x2)), (HV.g (SC.e 82 1 x3)), (HV.g (SC.e 82 1 x4)), (HV.g (SC.e 80 1 x5)), (HV.g (SC.e 80 1 x6)), (HV.g (SC.e 90 1 x7)), (HV.g (SC.e 90 1 x8)), (HV.g (SC.e 88 12 x9)), (HV.g (SC.e 88 12 x10))])])) (by kernel_rfl) ?_
  simp only [f10_p18, f10_L15_eq]
noncomputable def f10_p17 (x0 : List (List AV)) (x1 : List (List AV)) (x2 : List (List AV)) (x3 : List (List AV)) (x4 : List (List AV)) (x5 : List (List AV)) (x6 : List (List AV)) (x7 : List (List AV)) (x8 : List (List AV)) (x9 : List (List AV)) : Res :=
      f10_p18 (0 : Int) x0 x1 x2 x3 x4 x5 x6 x7 x8 x9
theorem f10_p17_eq (x0 : List (List AV)) (x1 : List (List AV)) (x2 : List (List AV)) (x3 : List (List AV)) (x4 : List (List AV)) (x5 : List (List AV)) (x6 : List (List AV)) (x7 : List (List AV)) (x8 : List (List AV)) (x9 : List (List AV)) : f10_k11 (mkSt [(0, (EV.v (AV.P 0 0)))] [] [(HO.cells [(HV.g (SC.e 41 1 x0)), (HV.g (SC.e 41 1 x1)), (HV.g (SC.e 82 1 x2)), (HV.g (SC.e 82 1 x3)), (HV.g (SC.e 80 1 x4)), (HV.g (SC.e 80 1 x5)), (HV.g (SC.e 90 1 x6)), (HV.g (SC.e 90 1 x7)), (HV.g (SC.e 88 12 x8)), (HV.g (SC.e 88 12 x9))])]) = f10_p17 x0 x1 x2 x3 x4 x5 x6 x7 x8 x9 := by
  refine Eq.trans (b :=
      f10_k13 (mkSt [(0, (EV.v (AV.P 0 0))), (7, (EV.v (AV.I IntKind.i64 (0 : Int))))] [] [(HO.cells [(HV.g (SC.e 41 1 x0)), (HV.g (SC.e 41 1 x1)), (HV.g (SC.e 82 1 x2)), (HV.g (SC.e 82 1 x3)), (HV.g (SC.e 80 1 x4)), (HV.g (SC.e 80 1 x5)), (HV.g (SC.e 90 1 x6)), (HV.g (SC.e 90 1 x7)), (HV.g (SC.e 88 12 x8)), (HV.g (SC.e 88 12 x9))])])) (by kernel_rfl) ?_
  simp only [f10_p17, f10_p18_eq]
noncomputable def f10_L12 : Nat → Int → List (List AV) → List (List AV) → List (List AV) → List (List AV) → List (List AV) → List (List AV) → List (List AV) → List (List AV) → List (List AV) → List (List AV) → Res
  | 0, _, _, _, _, _, _, _, _, _, _, _ => Res.stuck
  | n + 1, x0, x1, x2, x3, x4, x5, x6, x7, x8, x9, x10 =>
      bIte (decide (x0 < (↑(List.length x3) : Int))) (
      ix x0 (List.length x3) fun i15 =>
      ix x0 (List.length x4) fun i16 =>
      chk (noPs [List.getD (List.getD x3 i15 []) 0 AV.U, List.getD (List.getD x4 i16 []) 0 AV.U]) (
      Res.stuck)) (
      f10_p17 x1 x2 x3 x4 x5 x6 x7 x8 x9 x10)
theorem f10_L12_eq : ∀ (n : Nat) (x0 : Int) (x1 : List (List AV)) (x2 : List (List AV)) (x3 : List (List AV)) (x4 : List (List AV)) (x5 : List (List AV)) (x6 : List (List AV)) (x7 : List (List AV)) (x8 : List (List AV)) (x9 : List (List AV)) (x10 : List (List AV)), f10_l12 n (mkSt [(0, (EV.v (AV.P 0 0))), (6, (EV.v (AV.I IntKind.i64 x0)))] [] [(HO.cells [(HV.g (SC.e 41 1 x1)), (HV.g (SC.e 41 1 x2)), (HV.g (SC.e 82 1 x3)), (HV.g (SC.e 82 1 x4)), (HV.g (SC.e 80 1 x5)), (HV.g (SC.e 80 1 x6)), (HV.g (SC.e 90 1 x7)), (HV.g (SC.e 90 1 x8)), (HV.g (SC.e 88 12 x9)), (HV.g (SC.e 88 12 x10))])]) = f10_L12 n x0 x1 x2 x3 x4 x5 x6 x7 x8 x9 x10 := by
  intro n
  induction n with
  | zero => intros; rfl
  | succ n IH =>
    intro x0 x1 x2 x3 x4 x5 x6 x7 x8 x9 x10
    refine Eq.trans (b :=
      bIte (decide (x0 < (↑(List.length x3) : Int))) (
      ix x0 (List.length x3) fun i15 =>
      ix x0 (List.length x4) fun i16 =>
      chk (noPs [List.getD (List.getD x3 i15 []) 0 AV.U, List.getD (List.getD x4 i16 []) 0 AV.U]) (
      Res.stuck)) (
      f10_k11 (mkSt [(0, (EV.v (AV.P 0 0)))] [] [(HO.cells [(HV.g (SC.e 41 1 x1)), (HV.g (SC.e 41 1 x2)), (HV.g (SC.e 82 1 x3)), (HV.g (SC.e 82 1 x4)), (HV.g (SC.e 80 1 x5)), (HV.g (SC.e 80 1 x6)), (HV.g (SC.e 90 1 x7)), (HV.g (SC.e 90 1 x8)), (HV.g (SC.e 88 12 x9)), (HV.g (SC.e 88 12 x10))])]))) (by kernel_rfl) ?_
    simp only [f10_L12, IH, f10_p17_eq]
noncomputable def f10_p14 (x0 : Int) (x1 : List (List AV)) (x2 : List (List AV)) (x3 : List (List AV)) (x4 : List (List AV)) (x5 : List (List AV)) (x6 : List (List AV)) (x7 : List (List AV)) (x8 : List (List AV)) (x9 : List (List AV)) (x10 : List (List AV)) : Res :=
      f10_L12 (ann10x FU).fuel x0 x1 x2 x3 x4 x5 x6 x7 x8 x9 x10
theorem f10_p14_eq (x0 : Int) (x1 : List (List AV)) (x2 : List (List AV)) (x3 : List (List AV)) (x4 : List (List AV)) (x5 : List (List AV)) (x6 : List (List AV)) (x7 : List (List AV)) (x8 : List (List AV)) (x9 : List (List AV)) (x10 : List (List AV)) : f10_k10 (mkSt [(0, (EV.v (AV.P 0 0))), (6, (EV.v (AV.I IntKind.i64 x0)))] [] [(HO.cells [(HV.g (SC.e 41 1 x1)), (HV.g (SC.e 41 1 x2)), (HV.g (SC.e 82 1 x3)), (HV.g (SC.e 82 1 x4)), (HV.g (SC.e 80 1 x5)), (HV.g (SC.e 80 1 x6)), (HV.g (SC.e 90 1 x7)), (HV.g (SC.e 90 1 x8)), (HV.g (SC.e 88 12 x9)), (HV.g (SC.e 88 12 x10))])]) = f10_p14 x0 x1 x2 x3 x4 x5 x6 x7 x8 x9 x10 := by
  refine Eq.trans (b :=
      f10_l12 (ann10x FU).fuel (mkSt [(0, (EV.v (AV.P 0 0))), (6, (EV.v (AV.I IntKind.i64 x0)))] [] [(HO.cells [(HV.g (SC.e 41 1 x1)), (HV.g (SC.e 41 1 x2)), (HV.g (SC.e 82 1 x3)), (HV.g (SC.e 82 1 x4)), (HV.g (SC.e 80 1 x5)), (HV.g (SC.e 80 1 x6)), (HV.g (SC.e 90 1 x7)), (HV.g (SC.e 90 1 x8)), (HV.g (SC.e 88 12 x9)), (HV.g (SC.e 88 12 x10))])])) (by kernel_rfl) ?_
  simp only [f10_p14, f10_L12_eq]
noncomputable def f10_p13 (x0 : List (List AV)) (x1 : List (List AV)) (x2 : List (List AV)) (x3 : List (List AV)) (x4 : List (List AV)) (x5 : List (List AV)) (x6 : List (List AV)) (x7 : List (List AV)) (x8 : List (List AV)) (x9 : List (List AV)) : Res :=
      f10_p14 (0 : Int) x0 x1 x2 x3 x4 x5 x6 x7 x8 x9
theorem f10_p13_eq (x0 : List (List AV)) (x1 : List (List AV)) (x2 : List (List AV)) (x3 : List (List AV)) (x4 : List (List AV)) (x5 : List (List AV)) (x6 : List (List AV)) (x7 : List (List AV)) (x8 : List (List AV)) (x9 : List (List AV)) : f10_k8 (mkSt [(0, (EV.v (AV.P 0 0)))] [] [(HO.cells [(HV.g (SC.e 41 1 x0)), (HV.g (SC.e 41 1 x1)), (HV.g (SC.e 82 1 x2)), (HV.g (SC.e 82 1 x3)), (HV.g (SC.e 80 1 x4)), (HV.g (SC.e 80 1 x5)), (HV.g (SC.e 90 1 x6)), (HV.g (SC.e 90 1 x7)), (HV.g (SC.e 88 12 x8)), (HV.g (SC.e 88 12 x9))])]) = f10_p13 x0 x1 x2 x3 x4 x5 x6 x7 x8 x9 := by
  refine Eq.trans (b :=
      f10_k10 (mkSt [(0, (EV.v (AV.P 0 0))), (6, (EV.v (AV.I IntKind.i64 (0 : Int))))] [] [(HO.cells [(HV.g (SC.e 41 1 x0)), (HV.g (SC.e 41 1 x1)), (HV.g (SC.e 82 1 x2)), (HV.g (SC.e 82 1 x3)), (HV.g (SC.e 80 1 x4)), (HV.g (SC.e 80 1 x5)), (HV.g (SC.e 90 1 x6)), (HV.g (SC.e 90 1 x7)), (HV.g (SC.e 88 12 x8)), (HV.g (SC.e 88 12 x9))])])) (by kernel_rfl) ?_
  simp only [f10_p13, f10_p14_eq]
noncomputable def f10_L9 : Nat → Int → List (List AV) → List (List AV) → List (List AV) → List (List AV) → List (List AV) → List (List AV) → List (List AV) → List (List AV) → List (List AV) → List (List AV) → Res
  | 0, _, _, _, _, _, _, _, _, _, _, _ => Res.stuck
  | n + 1, x0, x1, x2, x3, x4, x5, x6, x7, x8, x9, x10 =>
      bIte (decide (x0 < (↑(List.length x7) : Int))) (
      ix x0 (List.length x7) fun i11 =>
      ix x0 (List.length x8) fun i12 =>
      chk (noPs [List.getD (List.getD x7 i11 []) 0 AV.U, List.getD (List.getD x8 i12 []) 0 AV.U]) (
      Res.stuck)) (
      f10_p13 x1 x2 x3 x4 x5 x6 x7 x8 x9 x10)
theorem f10_L9_eq : ∀ (n : Nat) (x0 : Int) (x1 : List (List AV)) (x2 : List (List AV)) (x3 : List (List AV)) (x4 : List (List AV)) (x5 : List (List AV)) (x6 : List (List AV)) (x7 : List (List AV)) (x8 : List (List AV)) (x9 : List (List AV)) (x10 : List (List AV)), f10_l9 n (mkSt [(0, (EV.v (AV.P 0 0))), (5, (EV.v (AV.I IntKind.i64 x0)))] [] [(HO.cells [(HV.g (SC.e 41 1 x1)), (HV.g (SC.e 41 1 x2)), (HV.g (SC.e 82 1 x3)), (HV.g (SC.e 82 1 x4)), (HV.g (SC.e 80 1 x5)), (HV.g (SC.e 80 1 x6)), (HV.g (SC.e 90 1 x7)), (HV.g (SC.e 90 1 x8)), (HV.g (SC.e 88 12 x9)), (HV.g (SC.e 88 12 x10))])]) = f10_L9 n x0 x1 x2 x3 x4 x5 x6 x7 x8 x9 x10 := by
  intro n
  induction n with
  | zero => intros; rfl
  | succ n IH =>
    intro x0 x1 x2 x3 x4 x5 x6 x7 x8 x9 x10
    refine Eq.trans (b :=
      bIte (decide (x0 < (↑(List.length x7) : Int))) (
      ix x0 (List.length x7) fun i11 =>
      ix x0 (List.length x8) fun i12 =>
      chk (noPs [List.getD (List.getD x7 i11 []) 0 AV.U, List.getD (List.getD x8 i12 []) 0 AV.U]) (
      Res.stuck)) (
      f10_k8 (mkSt [(0, (EV.v (AV.P 0 0)))] [] [(HO.cells [(HV.g (SC.e 41 1 x1)), (HV.g (SC.e 41 1 x2)), (HV.g (SC.e 82 1 x3)), (HV.g (SC.e 82 1 x4)), (HV.g (SC.e 80 1 x5)), (HV.g (SC.e 80 1 x6)), (HV.g (SC.e 90 1 x7)), (HV.g (SC.e 90 1 x8)), (HV.g (SC.e 88 12 x9)), (HV.g (SC.e 88 12 x10))])]))) (by kernel_rfl) ?_
    simp only [f10_L9, IH, f10_p13_eq]
noncomputable def f10_p10 (x0 : Int) (x1 : List (List AV)) (x2 : List (List AV)) (x3 : List (List AV)) (x4 : List (List AV)) (x5 : List (List AV)) (x6 : List (List AV)) (x7 : List (List AV)) (x8 : List (List AV)) (x9 : List (List AV)) (x10 : List (List AV)) : Res :=
      f10_L9 (ann10x FU).fuel x0 x1 x2 x3 x4 x5 x6 x7 x8 x9 x10
theorem f10_p10_eq (x0 : Int) (x1 : List (List AV)) (x2 : List (List AV)) (x3 : List (List AV)) (x4 : List (List AV)) (x5 : List (List AV)) (x6 : List (List AV)) (x7 : List (List AV)) (x8 : List (List AV)) (x9 : List (List AV)) (x10 : List (List AV)) : f10_k7 (mkSt [(0, (EV.v (AV.P 0 0))), (5, (EV.v (AV.I IntKind.i64 x0)))] [] [(HO.cells [(HV.g (SC.e 41 1 x1)), (HV.g (SC.e 41 1 x2)), (HV.g (SC.e 82 1 x3)), (HV.g (SC.e 82 1 x4)), (HV.g (SC.e 80 1 x5)), (HV.g (SC.e 80 1 x6)), (HV.g (SC.e 90 1 x7)), (HV.g (SC.e 90 1 x8)), (HV.g (SC.e 88 12 x9)), (HV.g (SC.e 88 12 x10))])]) = f10_p10 x0 x1 x2 x3 x4 x5 x6 x7 x8 x9 x10 := by
  refine Eq.trans (b :=
      f10_l9 (ann10x FU).fuel (mkSt [(0, (EV.v (AV.P 0 0))), (5, (EV.v (AV.I IntKind.i64 x0)))] [] [(HO.cells [(HV.g (SC.e 41 1 x1)), (HV.g (SC.e 41 1 x2)), (HV.g (SC.e 82 1 x3)), (HV.g (SC.e 82 1 x4)), (HV.g (SC.e 80 1 x5)), (HV.g (SC.e 80 1 x6)), (HV.g (SC.e 90 1 x7)), (HV.g (SC.e 90 1 x8)), (HV.g (SC.e 88 12 x9)), (HV.g (SC.e 88 12 x10))])])) (by kernel_rfl) ?_
  simp only [f10_p10, f10_L9_eq]
noncomputable def f10_p9 (x0 : List (List AV)) (x1 : List (List AV)) (x2 : List (List AV)) (x3 : List (List AV)) (x4 : List (List AV)) (x5 : List (List AV)) (x6 : List (List AV)) (x7 : List (List AV)) (x8 : List (List AV)) (x9 : List (List AV)) : Res :=
      f10_p10 (0 : Int) x0 x1 x2 x3 x4 x5 x6 x7 x8 x9
theorem f10_p9_eq (x0 : List (List AV)) (x1 : List (List AV)) (x2 : List (List AV)) (x3 : List (List AV)) (x4 : List (List AV)) (x5 : List (List AV)) (x6 : List (List AV)) (x7 : List (List AV)) (x8 : List (List AV)) (x9 : List (List AV)) : f10_k5 (mkSt [(0, (EV.v (AV.P 0 0)))] [] [(HO.cells [(HV.g (SC.e 41 1 x0)), (HV.g (SC.e 41 1 x1)), (HV.g (SC.e 82 1 x2)), (HV.g (SC.e 82 1 x3)), (HV.g (SC.e 80 1 x4)), (HV.g (SC.e 80 1 x5)), (HV.g (SC.e 90 1 x6)), (HV.g (SC.e 90 1 x7)), (HV.g (SC.e 88 12 x8)), (HV.g (SC.e 88 12 x9))])]) = f10_p9 x0 x1 x2 x3 x4 x5 x6 x7 x8 x9 := by
  refine Eq.trans (b :=
      f10_k7 (mkSt [(0, (EV.v (AV.P 0 0))), (5, (EV.v (AV.I IntKind.i64 (0 : Int))))] [] [(HO.cells [(HV.g (SC.e 41 1 x0)), (HV.g (SC.e 41 1 x1)), (HV.g (SC.e 82 1 x2)), (HV.g (SC.e 82 1 x3)), (HV.g (SC.e 80 1 x4)), (HV.g (SC.e 80 1 x5)), (HV.g (SC.e 90 1 x6)), (HV.g (SC.e 90 1 x7)), (HV.g (SC.e 88 12 x8)), (HV.g (SC.e 88 12 x9))])])) (by kernel_rfl) ?_
  simp only [f10_p9, f10_p10_eq]
noncomputable def f10_L6 : Nat → Int → List (List AV) → List (List AV) → List (List AV) → List (List AV) → List (List AV) → List (List AV) → List (List AV) → List (List AV) → List (List AV) → List (List AV) → Res
  | 0, _, _, _, _, _, _, _, _, _, _, _ => Res.stuck
  | n + 1, x0, x1, x2, x3, x4, x5, x6, x7, x8, x9, x10 =>
      bIte (decide (x0 < (↑(List.length x9) : Int))) (
      ix x0 (List.length x9) fun i7 =>
      ix x0 (List.length x10) fun i8 =>
      chk (noPs [AV.A (List.getD x9 i7 []), AV.A (List.getD x10 i8 [])]) (
      Res.stuck)) (
      f10_p9 x1 x2 x3 x4 x5 x6 x7 x8 x9 x10)
theorem f10_L6_eq : ∀ (n : Nat) (x0 : Int) (x1 : List (List AV)) (x2 : List (List AV)) (x3 : List (List AV)) (x4 : List (List AV)) (x5 : List (List AV)) (x6 : List (List AV)) (x7 : List (List AV)) (x8 : List (List AV)) (x9 : List (List AV)) (x10 : List (List AV)), f10_l6 n (mkSt [(0, (EV.v (AV.P 0 0))), (4, (EV.v (AV.I IntKind.i64 x0)))] [] [(HO.cells [(HV.g (SC.e 41 1 x1)), (HV.g (SC.e 41 1 x2)), (HV.g (SC.e 82 1 x3)), (HV.g (SC.e 82 1 x4)), (HV.g (SC.e 80 1 x5)), (HV.g (SC.e 80 1 x6)), (HV.g (SC.e 90 1 x7)), (HV.g (SC.e 90 1 x8)), (HV.g (SC.e 88 12 x9)), (HV.g (SC.e 88 12 x10))])]) = f10_L6 n x0 x1 x2 x3 x4 x5 x6 x7 x8 x9 x10 := by
  intro n
  induction n with
  | zero => intros; rfl
  | succ n IH =>
    intro x0 x1 x2 x3 x4 x5 x6 x7 x8 x9 x10
    refine Eq.trans (b :=
      bIte (decide (x0 < (↑(List.length x9) : Int))) (
      ix x0 (List.length x9) fun i7 =>
      ix x0 (List.length x10) fun i8 =>
      chk (noPs [AV.A (List.getD x9 i7 []), AV.A (List.getD x10 i8 [])]) (
      Res.stuck)) (
      f10_k5 (mkSt [(0, (EV.v (AV.P 0 0)))] [] [(HO.cells [(HV.g (SC.e 41 1 x1)), (HV.g (SC.e 41 1 x2)), (HV.g (SC.e 82 1 x3)), (HV.g (SC.e 82 1 x4)), (HV.g (SC.e 80 1 x5)), (HV.g (SC.e 80 1 x6)), (HV.g (SC.e 90 1 x7)), (HV.g (SC.e 90 1 x8)), (HV.g (SC.e 88 12 x9)), (HV.g (SC.e 88 12 x10))])]))) (by kernel_rfl) ?_
    simp only [f10_L6, IH, f10_p9_eq]
noncomputable def f10_p6 (x0 : Int) (x1 : List (List AV)) (x2 : List (List AV)) (x3 : List (List AV)) (x4 : List (List AV)) (x5 : List (List AV)) (x6 : List (List AV)) (x7 : List (List AV)) (x8 : List (List AV)) (x9 : List (List AV)) (x10 : List (List AV)) : Res :=
      f10_L6 (ann10x FU).fuel x0 x1 x2 x3 x4 x5 x6 x7 x8 x9 x10
theorem f10_p6_eq (x0 : Int) (x1 : List (List AV)) (x2 : List (List AV)) (x3 : List (List AV)) (x4 : List (List AV)) (x5 : List (List AV)) (x6 : List (List AV)) (x7 : List (List AV)) (x8 : List (List AV)) (x9 : List (List AV)) (x10 : List (List AV)) : f10_k4 (mkSt [(0, (EV.v (AV.P 0 0))), (4, (EV.v (AV.I IntKind.i64 x0)))] [] [(HO.cells [(HV.g (SC.e 41 1 x1)), (HV.g (SC.e 41 1 x2)), (HV.g (SC.e 82 1 x3)), (HV.g (SC.e 82 1 x4)), (HV.g (SC.e 80 1 x5)), (HV.g (SC.e 80 1 x6)), (HV.g (SC.e 90 1 x7)), (HV.g (SC.e 90 1 x8)), (HV.g (SC.e 88 12 x9)), (HV.g (SC.e 88 12 x10))])]) = f10_p6 x0 x1 x2 x3 x4 x5 x6 x7 x8 x9 x10 := by
  refine Eq.trans (b :=
      f10_l6 (ann10x FU).fuel (mkSt [(0, (EV.v (AV.P 0 0))), (4, (EV.v (AV.I IntKind.i64 x0)))] [] [(HO.cells [(HV.g (SC.e 41 1 x1)), (HV.g (SC.e 41 1 x2)), (HV.g (SC.e 82 1 x3)), (HV.g (SC.e 82 1 x4)), (HV.g (SC.e 80 1 x5)), (HV.g (SC.e 80 1 x6)), (HV.g (SC.e 90 1 x7)), (HV.g (SC.e 90 1 x8)), (HV.g (SC.e 88 12 x9)), (HV.g (SC.e 88 12 x10))])])) (by kernel_rfl) ?_
  simp only [f10_p6, f10_L6_eq]
noncomputable def f10_p5 (x0 : List (List AV)) (x1 : List (List AV)) (x2 : List (List AV)) (x3 : List (List AV)) (x4 : List (List AV)) (x5 : List (List AV)) (x6 : List (List AV)) (x7 : List (List AV)) (x8 : List (List AV)) (x9 : List (List AV)) : Res :=
      f10_p6 (0 : Int) x0 x1 x2 x3 x4 x5 x6 x7 x8 x9
theorem f10_p5_eq (x0 : List (List AV)) (x1 : List (List AV)) (x2 : List (List AV)) (x3 : List (List AV)) (x4 : List (List AV)) (x5 : List (List AV)) (x6 : List (List AV)) (x7 : List (List AV)) (x8 : List (List AV)) (x9 : List (List AV)) : f10_k1 (mkSt [(0, (EV.v (AV.P 0 0)))] [] [(HO.cells [(HV.g (SC.e 41 1 x0)), (HV.g (SC.e 41 1 x1)), (HV.g (SC.e 82 1 x2)), (HV.g (SC.e 82 1 x3)), (HV.g (SC.e 80 1 x4)), (HV.g (SC.e 80 1 x5)), (HV.g (SC.e 90 1 x6)), (HV.g (SC.e 90 1 x7)), (HV.g (SC.e 88 12 x8)), (HV.g (SC.e 88 12 x9))])]) = f10_p5 x0 x1 x2 x3 x4 x5 x6 x7 x8 x9 := by
  refine Eq.trans (b :=
      f10_k4 (mkSt [(0, (EV.v (AV.P 0 0))), (4, (EV.v (AV.I IntKind.i64 (0 : Int))))] [] [(HO.cells [(HV.g (SC.e 41 1 x0)), (HV.g (SC.e 41 1 x1)), (HV.g (SC.e 82 1 x2)), (HV.g (SC.e 82 1 x3)), (HV.g (SC.e 80 1 x4)), (HV.g (SC.e 80 1 x5)), (HV.g (SC.e 90 1 x6)), (HV.g (SC.e 90 1 x7)), (HV.g (SC.e 88 12 x8)), (HV.g (SC.e 88 12 x9))])])) (by kernel_rfl) ?_
  simp only [f10_p5, f10_p6_eq]
noncomputable def f10_L2 : Nat → Int → List (List AV) → List (List AV) → List (List AV) → List (List AV) → List (List AV) → List (List AV) → List (List AV) → List (List AV) → List (List AV) → List (List AV) → Res
  | 0, _, _, _, _, _, _, _, _, _, _, _ => Res.stuck
  | n + 1, x0, x1, x2, x3, x4, x5, x6, x7, x8, x9, x10 =>
      bIte (decide (x0 < (↑(List.length x1) : Int))) (
      ix x0 (List.length x1) fun i1 =>
      ix x0 (List.length x2) fun i2 =>
      chk (noPs [List.getD (List.getD x1 i1 []) 0 AV.U, List.getD (List.getD x2 i2 []) 0 AV.U]) (
      chk (Sp.pre sp20 [List.getD (List.getD x1 i1 []) 0 AV.U, List.getD (List.getD x2 i2 []) 0 AV.U] []) (
      chk (noP (Sp.val sp20 [List.getD (List.getD x1 i1 []) 0 AV.U, List.getD (List.getD x2 i2 []) 0 AV.U] [])) (
      mB (Sp.val sp20 [List.getD (List.getD x1 i1 []) 0 AV.U, List.getD (List.getD x2 i2 []) 0 AV.U] []) fun b3 =>
      bIte (!b3) (
      Res.ret (AV.B false) ([HO.cells [HV.g (SC.e 41 1 x1), HV.g (SC.e 41 1 x2), HV.g (SC.e 82 1 x3), HV.g (SC.e 82 1 x4), HV.g (SC.e 80 1 x5), HV.g (SC.e 80 1 x6), HV.g (SC.e 90 1 x7), HV.g (SC.e 90 1 x8), HV.g (SC.e 88 12 x9), HV.g (SC.e 88 12 x10)]])) (
      f10_p4 (f10_L2 n) x0 x1 x2 x3 x4 x5 x6 x7 x8 x9 x10))))) (
      f10_p5 x1 x2 x3 x4 x5 x6 x7 x8 x9 x10)
theorem f10_L2_eq : ∀ (n : Nat) (x0 : Int) (x1 : List (List AV)) (x2 : List (List AV)) (x3 : List (List AV)) (x4 : List (List AV)) (x5 : List (List AV)) (x6 : List (List AV)) (x7 : List (List AV)) (x8 : List (List AV)) (x9 : List (List AV)) (x10 : List (List AV)), f10_l2 n (mkSt [(0, (EV.v (AV.P 0 0))), (3, (EV.v (AV.I IntKind.i64 x0)))] [] [(HO.cells [(HV.g (SC.e 41 1 x1)), (HV.g (SC.e 41 1 x2)), (HV.g (SC.e 82 1 x3)), (HV.g (SC.e 82 1 x4)), (HV.g (SC.e 80 1 x5)), (HV.g (SC.e 80 1 x6)), (HV.g (SC.e 90 1 x7)), (HV.g (SC.e 90 1 x8)), (HV.g (SC.e 88 12 x9)), (HV.g (SC.e 88 12 x10))])]) = f10_L2 n x0 x1 x2 x3 x4 x5 x6 x7 x8 x9 x10 := by
  intro n
  induction n with
  | zero => intros; rfl
  | succ n IH =>
    intro x0 x1 x2 x3 x4 x5 x6 x7 x8 x9 x10
    refine Eq.trans (b :=
      bIte (decide (x0 < (↑(List.length x1) : Int))) (
      ix x0 (List.length x1) fun i1 =>
      ix x0 (List.length x2) fun i2 =>
      chk (noPs [List.getD (List.getD x1 i1 []) 0 AV.U, List.getD (List.getD x2 i2 []) 0 AV.U]) (
      chk (Sp.pre sp20 [List.getD (List.getD x1 i1 []) 0 AV.U, List.getD (List.getD x2 i2 []) 0 AV.U] []) (
      chk (noP (Sp.val sp20 [List.getD (List.getD x1 i1 []) 0 AV.U, List.getD (List.getD x2 i2 []) 0 AV.U] [])) (
      mB (Sp.val sp20 [List.getD (List.getD x1 i1 []) 0 AV.U, List.getD (List.getD x2 i2 []) 0 AV.U] []) fun b3 =>
      bIte (!b3) (
      Res.ret (AV.B false) ([HO.cells [HV.g (SC.e 41 1 x1), HV.g (SC.e 41 1 x2), HV.g (SC.e 82 1 x3), HV.g (SC.e 82 1 x4), HV.g (SC.e 80 1 x5), HV.g (SC.e 80 1 x6), HV.g (SC.e 90 1 x7), HV.g (SC.e 90 1 x8), HV.g (SC.e 88 12 x9), HV.g (SC.e 88 12 x10)]])) (
      f10_k3 (f10_l2 n) (mkSt [(0, (EV.v (AV.P 0 0))), (3, (EV.v (AV.I IntKind.i64 x0)))] [] [(HO.cells [(HV.g (SC.e 41 1 x1)), (HV.g (SC.e 41 1 x2)), (HV.g (SC.e 82 1 x3)), (HV.g (SC.e 82 1 x4)), (HV.g (SC.e 80 1 x5)), (HV.g (SC.e 80 1 x6)), (HV.g (SC.e 90 1 x7)), (HV.g (SC.e 90 1 x8)), (HV.g (SC.e 88 12 x9)), (HV.g (SC.e 88 12 x10))])])))))) (
      f10_k1 (mkSt [(0, (EV.v (AV.P 0 0)))] [] [(HO.cells [(HV.g (SC.e 41 1 x1)), (HV.g (SC.e 41 1 x2)), (HV.g (SC.e 82 1 x3)), (HV.g (SC.e 82 1 x4)), (HV.g (SC.e 80 1 x5)), (HV.g (SC.e 80 1 x6)), (HV.g (SC.e 90 1 x7)), (HV.g (SC.e 90 1 x8)), (HV.g (SC.e 88 12 x9)), (HV.g (SC.e 88 12 x10))])]))) (by kernel_rfl) ?_
    simp only [f10_L2, IH, f10_p5_eq, f10_p4_eq (f10_l2 n) (f10_L2 n) IH]
noncomputable def f10_p0 (x0 : Int) (x1 : List (List AV)) (x2 : List (List AV)) (x3 : List (List AV)) (x4 : List (List AV)) (x5 : List (List AV)) (x6 : List (List AV)) (x7 : List (List AV)) (x8 : List (List AV)) (x9 : List (List AV)) (x10 : List (List AV)) : Res :=
      f10_L2 (ann10x FU).fuel x0 x1 x2 x3 x4 x5 x6 x7 x8 x9 x10
theorem f10_p0_eq (x0 : Int) (x1 : List (List AV)) (x2 : List (List AV)) (x3 : List (List AV)) (x4 : List (List AV)) (x5 : List (List AV)) (x6 : List (List AV)) (x7 : List (List AV)) (x8 : List (List AV)) (x9 : List (List AV)) (x10 : List (List AV)) : f10_k0 (mkSt [(0, (EV.v (AV.P 0 0))), (3, (EV.v (AV.I IntKind.i64 x0)))] [] [(HO.cells [(HV.g (SC.e 41 1 x1)), (HV.g (SC.e 41 1 x2)), (HV.g (SC.e 82 1 x3)), (HV.g (SC.e 82 1 x4)), (HV.g (SC.e 80 1 x5)), (HV.g (SC.e 80 1 x6)), (HV.g (SC.e 90 1 x7)), (HV.g (SC.e 90 1 x8)), (HV.g (SC.e 88 12 x9)), (HV.g (SC.e 88 12 x10))])]) = f10_p0 x0 x1 x2 x3 x4 x5 x6 x7 x8 x9 x10 := by
  refine Eq.trans (b :=
      f10_l2 (ann10x FU).fuel (mkSt [(0, (EV.v (AV.P 0 0))), (3, (EV.v (AV.I IntKind.i64 x0)))] [] [(HO.cells [(HV.g (SC.e 41 1 x1)), (HV.g (SC.e 41 1 x2)), (HV.g (SC.e 82 1 x3)), (HV.g (SC.e 82 1 x4)), (HV.g (SC.e 80 1 x5)), (HV.g (SC.e 80 1 x6)), (HV.g (SC.e 90 1 x7)), (HV.g (SC.e 90 1 x8)), (HV.g (SC.e 88 12 x9)), (HV.g (SC.e 88 12 x10))])])) (by kernel_rfl) ?_
  simp only [f10_p0, f10_L2_eq]
noncomputable def f10_e (x0 : List (List AV)) (x1 : List (List AV)) (x2 : List (List AV)) (x3 : List (List AV)) (x4 : List (List AV)) (x5 : List (List AV)) (x6 : List (List AV)) (x7 : List (List AV)) (x8 : List (List AV)) (x9 : List (List AV)) : Res :=
      f10_p0 (0 : Int) x0 x1 x2 x3 x4 x5 x6 x7 x8 x9
theorem f10_eq (x0 : List (List AV)) (x1 : List (List AV)) (x2 : List (List AV)) (x3 : List (List AV)) (x4 : List (List AV)) (x5 : List (List AV)) (x6 : List (List AV)) (x7 : List (List AV)) (x8 : List (List AV)) (x9 : List (List AV)) : f10_sem [(AV.P 0 0)] [(HO.cells [(HV.g (SC.e 41 1 x0)), (HV.g (SC.e 41 1 x1)), (HV.g (SC.e 82 1 x2)), (HV.g (SC.e 82 1 x3)), (HV.g (SC.e 80 1 x4)), (HV.g (SC.e 80 1 x5)), (HV.g (SC.e 90 1 x6)), (HV.g (SC.e 90 1 x7)), (HV.g (SC.e 88 12 x8)), (HV.g (SC.e 88 12 x9))])] = f10_e x0 x1 x2 x3 x4 x5 x6 x7 x8 x9 := by
  refine Eq.trans (b :=
      f10_k0 (mkSt [(0, (EV.v (AV.P 0 0))), (3, (EV.v (AV.I IntKind.i64 (0 : Int))))] [] [(HO.cells [(HV.g (SC.e 41 1 x0)), (HV.g (SC.e 41 1 x1)), (HV.g (SC.e 82 1 x2)), (HV.g (SC.e 82 1 x3)), (HV.g (SC.e 80 1 x4)), (HV.g (SC.e 80 1 x5)), (HV.g (SC.e 90 1 x6)), (HV.g (SC.e 90 1 x7)), (HV.g (SC.e 88 12 x8)), (HV.g (SC.e 88 12 x9))])])) (by kernel_rfl) ?_
  simp only [f10_e, f10_p0_eq]
end Go.Vm
