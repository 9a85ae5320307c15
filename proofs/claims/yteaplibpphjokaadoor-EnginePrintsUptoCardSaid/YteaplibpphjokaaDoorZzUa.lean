/- Part of a proof: ZzUa. -/
import Derived.Test.YteaplibpphjokaaDoorZzAnnP
import Derived.Test.YteaplibpphjokaaDoorVE
set_option linter.unusedSimpArgs false
set_option linter.unusedVariables false
set_option linter.unusedSectionVars false
namespace Go.Vm
open Go (IntKind Fn)
set_option maxHeartbeats 0
noncomputable def S33 : Nat → Sp := fun g => spN
noncomputable def f33_sem : List AV → List HO → Res := semU cx (ann33x FU) Go.Proofs.Tryd.f33 S33
noncomputable def f33_k1 : St → Res := aC cx (ann33x FU) (altAlg cx.pure S33) (altAlg cx.pure S33) (sq2 (sq2 (sq2 (sq2 (bodyOf Go.Proofs.Tryd.f33))))) (resK (altAlg cx.pure S33) cx (ann33x FU) Go.Proofs.Tryd.f33) (fun _ _ => Res.stuck) (resK (altAlg cx.pure S33) cx (ann33x FU) Go.Proofs.Tryd.f33)
noncomputable def f33_j1 : St → Res := fun s => f33_k1 (nrm (ann33x FU) (headId (sq2 (sq2 (sq2 (sq2 (bodyOf Go.Proofs.Tryd.f33)))))) s)
noncomputable def f33_k0 : St → Res := aC cx (ann33x FU) (altAlg cx.pure S33) (altAlg cx.pure S33) (sq2 (sq1 (sq2 (sq2 (sq2 (bodyOf Go.Proofs.Tryd.f33)))))) (f33_j1) (fun _ _ => Res.stuck) (resK (altAlg cx.pure S33) cx (ann33x FU) Go.Proofs.Tryd.f33)
noncomputable def f33_j0 : St → Res := fun s => f33_k0 (nrm (ann33x FU) (headId (sq2 (sq1 (sq2 (sq2 (sq2 (bodyOf Go.Proofs.Tryd.f33))))))) s)
noncomputable def f33_x0 : Nat → St → Res := fun i s => if i = 0 then (f33_j1) s else (fun _ _ => Res.stuck) i s
noncomputable def f33_l2 : Nat → St → Res := loopR (altAlg cx.pure S33) (fun ih2_ s => aC cx (ann33x FU) (altAlg cx.pure S33) (altAlg cx.pure S33) (blk (blk (sq2 (sq1 (sq2 (sq2 (sq2 (bodyOf Go.Proofs.Tryd.f33)))))))) (fun s' => ih2_ (nrm (ann33x FU) (headId (blk (blk (sq2 (sq1 (sq2 (sq2 (sq2 (bodyOf Go.Proofs.Tryd.f33))))))))) s')) (f33_x0) (resK (altAlg cx.pure S33) cx (ann33x FU) Go.Proofs.Tryd.f33) s)
noncomputable def f33_k3 (ih2_ : St → Res) : St → Res := aC cx (ann33x FU) (altAlg cx.pure S33) (altAlg cx.pure S33) (sq2 (sq2 (blk (blk (sq2 (sq1 (sq2 (sq2 (sq2 (bodyOf Go.Proofs.Tryd.f33)))))))))) (fun s => ih2_ (nrm (ann33x FU) (headId (blk (blk (sq2 (sq1 (sq2 (sq2 (sq2 (bodyOf Go.Proofs.Tryd.f33))))))))) s)) (f33_x0) (resK (altAlg cx.pure S33) cx (ann33x FU) Go.Proofs.Tryd.f33)
noncomputable def f33_j3 (ih2_ : St → Res) : St → Res := fun s => f33_k3 ih2_ (nrm (ann33x FU) (headId (sq2 (sq2 (blk (blk (sq2 (sq1 (sq2 (sq2 (sq2 (bodyOf Go.Proofs.Tryd.f33))))))))))) s)
noncomputable def f33_p5 (rec2_ : List UInt8 → Int → List UInt8 → Res) (x0 : List UInt8) (x1 : Int) (x2 : List UInt8) : Res :=
      rec2_ x0 (IntKind.wrap IntKind.i64 (x1 + 1)) x2
theorem f33_p5_eq (ih2_ : St → Res) (rec2_ : List UInt8 → Int → List UInt8 → Res) (h2_ : ∀ (x0 : List UInt8) (x1 : Int) (x2 : List UInt8), ih2_ (mkSt [(0, (EV.v (AV.S x0))), (3, (EV.ls 3 0)), (4, (EV.v (AV.I IntKind.i64 x1)))] [(3, LOv.mk 0 (LO.arr (SC.y 5 x2) false))] []) = rec2_ x0 x1 x2) (x0 : List UInt8) (x1 : Int) (x2 : List UInt8) : f33_k3 ih2_ (mkSt [(0, (EV.v (AV.S x0))), (3, (EV.ls 3 0)), (4, (EV.v (AV.I IntKind.i64 x1)))] [(3, LOv.mk 0 (LO.arr (SC.y 5 x2) false))] []) = f33_p5 rec2_ x0 x1 x2 := by
  refine Eq.trans (b :=
      ih2_ (mkSt [(0, (EV.v (AV.S x0))), (3, (EV.ls 3 0)), (4, (EV.v (AV.I IntKind.i64 (IntKind.wrap IntKind.i64 (x1 + 1)))))] [(3, LOv.mk 0 (LO.arr (SC.y 5 x2) false))] [])) (by kernel_rfl) ?_
  simp only [f33_p5, h2_]
noncomputable def f33_p6 (x0 : List UInt8) : Res :=
      chk (decide (List.length x0 ≤ 140737488355328)) (
      Res.ret (AV.S x0) ([]))
theorem f33_p6_eq (x0 : List UInt8) : f33_k1 (mkSt [(3, (EV.ls 3 0))] [(3, LOv.mk 0 (LO.arr (SC.y 5 x0) false))] []) = f33_p6 x0 := by
  kernel_rfl
noncomputable def f33_L2 : Nat → List UInt8 → Int → List UInt8 → Res
  | 0, _, _, _ => Res.stuck
  | n + 1, x0, x1, x2 =>
      bIte (decide (x1 < (↑(List.length x0) : Int))) (
      ix x1 (List.length x0) fun i1 =>
      ix (IntKind.wrap IntKind.u8 (Int.tdiv (↑(UInt8.toNat (List.getD x0 i1 0)) : Int) 16)) 16 fun i2 =>
      ix x1 (List.length x0) fun i3 =>
      ix (Int.tmod (↑(UInt8.toNat (List.getD x0 i3 0)) : Int) 16) 16 fun i4 =>
      chk (decide (List.length x2 + 2 ≤ 140737488355328 ∧ (List.length x2 + 2) * 1 ≤ 140737488355328)) (
      f33_p5 (f33_L2 n) x0 x1 (x2 ++ List.set (List.set [0, 0] 0 (UInt8.ofNat (Int.toNat (↑(UInt8.toNat (List.getD [48, 49, 50, 51, 52, 53, 54, 55, 56, 57, 97, 98, 99, 100, 101, 102] i2 0)) : Int)))) 1 (UInt8.ofNat (Int.toNat (↑(UInt8.toNat (List.getD [48, 49, 50, 51, 52, 53, 54, 55, 56, 57, 97, 98, 99, 100, 101, 102] i4 0)) : Int)))))) (
      f33_p6 x2)
theorem f33_L2_eq : ∀ (n : Nat) (x0 : List UInt8) (x1 : Int) (x2 : List UInt8), f33_l2 n (mkSt [(0, (EV.v (AV.S x0))), (3, (EV.ls 3 0)), (4, (EV.v (AV.I IntKind.i64 x1)))] [(3, LOv.mk 0 (LO.arr (SC.y 5 x2) false))] []) = f33_L2 n x0 x1 x2 := by
  intro n
  induction n with
  | zero => intros; rfl
  | succ n IH =>
    intro x0 x1 x2
    refine Eq.trans (b :=
      bIte (decide (x1 < (↑(List.length x0) : Int))) (
      ix x1 (List.length x0) fun i1 =>
      ix (IntKind.wrap IntKind.u8 (Int.tdiv (↑(UInt8.toNat (List.getD x0 i1 0)) : Int) 16)) 16 fun i2 =>
      ix x1 (List.length x0) fun i3 =>
      ix (Int.tmod (↑(UInt8.toNat (List.getD x0 i3 0)) : Int) 16) 16 fun i4 =>
      chk (decide (List.length x2 + 2 ≤ 140737488355328 ∧ (List.length x2 + 2) * 1 ≤ 140737488355328)) (
      f33_k3 (f33_l2 n) (mkSt [(0, (EV.v (AV.S x0))), (3, (EV.ls 3 0)), (4, (EV.v (AV.I IntKind.i64 x1)))] [(3, LOv.mk 0 (LO.arr (SC.y 5 (x2 ++ List.set (List.set [0, 0] 0 (UInt8.ofNat (Int.toNat (↑(UInt8.toNat (List.getD [48, 49, 50, 51, 52, 53, 54, 55, 56, 57, 97, 98, 99, 100, 101, 102] i2 0)) : Int)))) 1 (UInt8.ofNat (Int.toNat (↑(UInt8.toNat (List.getD [48, 49, 50, 51, 52, 53, 54, 55, 56, 57, 97, 98, 99, 100, 101, 102] i4 0)) : Int))))) false))] []))) (
      f33_k1 (mkSt [(3, (EV.ls 3 0))] [(3, LOv.mk 0 (LO.arr (SC.y 5 x2) false))] []))) (by kernel_rfl) ?_
    simp only [f33_L2, IH, f33_p6_eq, f33_p5_eq (f33_l2 n) (f33_L2 n) IH]
noncomputable def f33_p0 (x0 : List UInt8) (x1 : Int) (x2 : List UInt8) : Res :=
      f33_L2 (ann33x FU).fuel x0 x1 x2
theorem f33_p0_eq (x0 : List UInt8) (x1 : Int) (x2 : List UInt8) : f33_k0 (mkSt [(0, (EV.v (AV.S x0))), (3, (EV.ls 3 0)), (4, (EV.v (AV.I IntKind.i64 x1)))] [(3, LOv.mk 0 (LO.arr (SC.y 5 x2) false))] []) = f33_p0 x0 x1 x2 := by
  refine Eq.trans (b :=
      f33_l2 (ann33x FU).fuel (mkSt [(0, (EV.v (AV.S x0))), (3, (EV.ls 3 0)), (4, (EV.v (AV.I IntKind.i64 x1)))] [(3, LOv.mk 0 (LO.arr (SC.y 5 x2) false))] [])) (by kernel_rfl) ?_
  simp only [f33_p0, f33_L2_eq]
noncomputable def f33_e (x0 : List UInt8) : Res :=
      bIte (x0 == []) (
      Res.ret (AV.S [45]) ([])) (
      f33_p0 x0 (0 : Int) ([]))
theorem f33_eq (x0 : List UInt8) : f33_sem [(AV.S x0)] [] = f33_e x0 := by
  refine Eq.trans (b :=
      bIte (x0 == []) (
      Res.ret (AV.S [45]) ([])) (
      f33_k0 (mkSt [(0, (EV.v (AV.S x0))), (3, (EV.ls 3 0)), (4, (EV.v (AV.I IntKind.i64 (0 : Int))))] [(3, LOv.mk 0 (LO.arr (SC.y 5 ([])) false))] []))) (by kernel_rfl) ?_
  simp only [f33_e, f33_p0_eq]
noncomputable def S46 : Nat → Sp := fun g => spN
noncomputable def f46_sem : List AV → List HO → Res := semU cx (ann46x FU) Go.Proofs.Tryd.f46 S46
noncomputable def f46_k0 : St → Res := aC cx (ann46x FU) (altAlg cx.pure S46) (altAlg cx.pure S46) (sq2 (sq2 (bodyOf Go.Proofs.Tryd.f46))) (resK (altAlg cx.pure S46) cx (ann46x FU) Go.Proofs.Tryd.f46) (fun _ _ => Res.stuck) (resK (altAlg cx.pure S46) cx (ann46x FU) Go.Proofs.Tryd.f46)
noncomputable def f46_j0 : St → Res := fun s => f46_k0 (nrm (ann46x FU) (headId (sq2 (sq2 (bodyOf Go.Proofs.Tryd.f46)))) s)
noncomputable def f46_k3 : St → Res := aC cx (ann46x FU) (altAlg cx.pure S46) (altAlg cx.pure S46) (sq2 (sq2 (sq2 (bodyOf Go.Proofs.Tryd.f46)))) (resK (altAlg cx.pure S46) cx (ann46x FU) Go.Proofs.Tryd.f46) (fun _ _ => Res.stuck) (resK (altAlg cx.pure S46) cx (ann46x FU) Go.Proofs.Tryd.f46)
noncomputable def f46_j3 : St → Res := fun s => f46_k3 (nrm (ann46x FU) (headId (sq2 (sq2 (sq2 (bodyOf Go.Proofs.Tryd.f46))))) s)
noncomputable def f46_x2 : Nat → St → Res := fun i s => if i = 0 then (f46_j3) s else (fun _ _ => Res.stuck) i s
noncomputable def f46_l1 : Nat → St → Res := loopR (altAlg cx.pure S46) (fun ih1_ s => aC cx (ann46x FU) (altAlg cx.pure S46) (altAlg cx.pure S46) (blk (blk (sq1 (sq2 (sq2 (bodyOf Go.Proofs.Tryd.f46)))))) (fun s' => ih1_ (nrm (ann46x FU) (headId (blk (blk (sq1 (sq2 (sq2 (bodyOf Go.Proofs.Tryd.f46))))))) s')) (f46_x2) (resK (altAlg cx.pure S46) cx (ann46x FU) Go.Proofs.Tryd.f46) s)
noncomputable def f46_p1 (x0 : List UInt8) : Res :=
      Res.ret (AV.S x0) ([])
theorem f46_p1_eq (x0 : List UInt8) : f46_k3 (mkSt [(3, (EV.v (AV.S x0)))] [] []) = f46_p1 x0 := by
  kernel_rfl
noncomputable def f46_L1 : Nat → Int → List UInt8 → Res
  | 0, _, _ => Res.stuck
  | n + 1, x0, x1 =>
      bIte (decide (x0 ≥ 10)) (
      chk (decide (1 + List.length x1 ≤ 140737488355328)) (
      (f46_L1 n) (IntKind.wrap IntKind.u64 (Int.tdiv x0 10)) (List.set [0] 0 (UInt8.ofNat (Int.toNat (IntKind.wrap IntKind.u8 (IntKind.wrap IntKind.u64 (48 + Int.tmod (IntKind.wrap IntKind.u64 (Int.tdiv x0 10)) 10))))) ++ x1))) (
      f46_p1 x1)
theorem f46_L1_eq : ∀ (n : Nat) (x0 : Int) (x1 : List UInt8), f46_l1 n (mkSt [(0, (EV.v (AV.I IntKind.u64 x0))), (3, (EV.v (AV.S x1)))] [] []) = f46_L1 n x0 x1 := by
  intro n
  induction n with
  | zero => intros; rfl
  | succ n IH =>
    intro x0 x1
    refine Eq.trans (b :=
      bIte (decide (x0 ≥ 10)) (
      chk (decide (1 + List.length x1 ≤ 140737488355328)) (
      (f46_l1 n) (mkSt [(0, (EV.v (AV.I IntKind.u64 (IntKind.wrap IntKind.u64 (Int.tdiv x0 10))))), (3, (EV.v (AV.S (List.set [0] 0 (UInt8.ofNat (Int.toNat (IntKind.wrap IntKind.u8 (IntKind.wrap IntKind.u64 (48 + Int.tmod (IntKind.wrap IntKind.u64 (Int.tdiv x0 10)) 10))))) ++ x1))))] [] []))) (
      f46_k3 (mkSt [(3, (EV.v (AV.S x1)))] [] []))) (by kernel_rfl) ?_
    simp only [f46_L1, IH, f46_p1_eq]
noncomputable def f46_p0 (x0 : Int) (x1 : List UInt8) : Res :=
      f46_L1 (ann46x FU).fuel x0 x1
theorem f46_p0_eq (x0 : Int) (x1 : List UInt8) : f46_k0 (mkSt [(0, (EV.v (AV.I IntKind.u64 x0))), (3, (EV.v (AV.S x1)))] [] []) = f46_p0 x0 x1 := by
  refine Eq.trans (b :=
      f46_l1 (ann46x FU).fuel (mkSt [(0, (EV.v (AV.I IntKind.u64 x0))), (3, (EV.v (AV.S x1)))] [] [])) (by kernel_rfl) ?_
  simp only [f46_p0, f46_L1_eq]
noncomputable def f46_e (x0 : Int) : Res :=
      f46_p0 x0 (List.set [0] 0 (UInt8.ofNat (Int.toNat (IntKind.wrap IntKind.u8 (IntKind.wrap IntKind.u64 (48 + Int.tmod x0 10))))))
theorem f46_eq (x0 : Int) : f46_sem [(AV.I IntKind.u64 x0)] [] = f46_e x0 := by
  refine Eq.trans (b :=
      f46_k0 (mkSt [(0, (EV.v (AV.I IntKind.u64 x0))), (3, (EV.v (AV.S (List.set [0] 0 (UInt8.ofNat (Int.toNat (IntKind.wrap IntKind.u8 (IntKind.wrap IntKind.u64 (48 + Int.tmod x0 10)))))))))] [] [])) (by kernel_rfl) ?_
  simp only [f46_e, f46_p0_eq]
noncomputable def S30 : Nat → Sp := fun g => spN
noncomputable def f30_sem : List AV → List HO → Res := semU cx (ann30x FU) Go.Proofs.Tryd.f30 S30
noncomputable def f30_k1 : St → Res := aC cx (ann30x FU) (altAlg cx.pure S30) (altAlg cx.pure S30) (sq2 (sq2 (sq2 (sq2 (bodyOf Go.Proofs.Tryd.f30))))) (resK (altAlg cx.pure S30) cx (ann30x FU) Go.Proofs.Tryd.f30) (fun _ _ => Res.stuck) (resK (altAlg cx.pure S30) cx (ann30x FU) Go.Proofs.Tryd.f30)
noncomputable def f30_j1 : St → Res := fun s => f30_k1 (nrm (ann30x FU) (headId (sq2 (sq2 (sq2 (sq2 (bodyOf Go.Proofs.Tryd.f30)))))) s)
noncomputable def f30_k0 : St → Res := aC cx (ann30x FU) (altAlg cx.pure S30) (altAlg cx.pure S30) (sq2 (sq1 (sq2 (sq2 (sq2 (bodyOf Go.Proofs.Tryd.f30)))))) (f30_j1) (fun _ _ => Res.stuck) (resK (altAlg cx.pure S30) cx (ann30x FU) Go.Proofs.Tryd.f30)
noncomputable def f30_j0 : St → Res := fun s => f30_k0 (nrm (ann30x FU) (headId (sq2 (sq1 (sq2 (sq2 (sq2 (bodyOf Go.Proofs.Tryd.f30))))))) s)
noncomputable def f30_x0 : Nat → St → Res := fun i s => if i = 0 then (f30_j1) s else (fun _ _ => Res.stuck) i s
noncomputable def f30_l2 : Nat → St → Res := loopR (altAlg cx.pure S30) (fun ih2_ s => aC cx (ann30x FU) (altAlg cx.pure S30) (altAlg cx.pure S30) (blk (blk (sq2 (sq1 (sq2 (sq2 (sq2 (bodyOf Go.Proofs.Tryd.f30)))))))) (fun s' => ih2_ (nrm (ann30x FU) (headId (blk (blk (sq2 (sq1 (sq2 (sq2 (sq2 (bodyOf Go.Proofs.Tryd.f30))))))))) s')) (f30_x0) (resK (altAlg cx.pure S30) cx (ann30x FU) Go.Proofs.Tryd.f30) s)
noncomputable def f30_k3 (ih2_ : St → Res) : St → Res := aC cx (ann30x FU) (altAlg cx.pure S30) (altAlg cx.pure S30) (sq2 (sq2 (sq2 (blk (blk (sq2 (sq1 (sq2 (sq2 (sq2 (bodyOf Go.Proofs.Tryd.f30))))))))))) (fun s => ih2_ (nrm (ann30x FU) (headId (blk (blk (sq2 (sq1 (sq2 (sq2 (sq2 (bodyOf Go.Proofs.Tryd.f30))))))))) s)) (f30_x0) (resK (altAlg cx.pure S30) cx (ann30x FU) Go.Proofs.Tryd.f30)
noncomputable def f30_j3 (ih2_ : St → Res) : St → Res := fun s => f30_k3 ih2_ (nrm (ann30x FU) (headId (sq2 (sq2 (sq2 (blk (blk (sq2 (sq1 (sq2 (sq2 (sq2 (bodyOf Go.Proofs.Tryd.f30)))))))))))) s)
noncomputable def f30_p5 (rec2_ : List UInt8 → Int → Int → List UInt8 → Res) (x0 : List UInt8) (x1 : Int) (x2 : Int) (x3 : List UInt8) : Res :=
      rec2_ x0 x1 (IntKind.wrap IntKind.i64 (x2 + 1)) x3
theorem f30_p5_eq (ih2_ : St → Res) (rec2_ : List UInt8 → Int → Int → List UInt8 → Res) (h2_ : ∀ (x0 : List UInt8) (x1 : Int) (x2 : Int) (x3 : List UInt8), ih2_ (mkSt [(0, (EV.v (AV.S x0))), (3, (EV.ls 3 0)), (8, (EV.v (AV.I IntKind.i64 x1))), (9, (EV.v (AV.I IntKind.i64 x2)))] [(3, LOv.mk 0 (LO.arr (SC.y 5 x3) false))] []) = rec2_ x0 x1 x2 x3) (x0 : List UInt8) (x1 : Int) (x2 : Int) (x3 : List UInt8) : f30_k3 ih2_ (mkSt [(0, (EV.v (AV.S x0))), (3, (EV.ls 3 0)), (8, (EV.v (AV.I IntKind.i64 x1))), (9, (EV.v (AV.I IntKind.i64 x2)))] [(3, LOv.mk 0 (LO.arr (SC.y 5 x3) false))] []) = f30_p5 rec2_ x0 x1 x2 x3 := by
  refine Eq.trans (b :=
      ih2_ (mkSt [(0, (EV.v (AV.S x0))), (3, (EV.ls 3 0)), (8, (EV.v (AV.I IntKind.i64 x1))), (9, (EV.v (AV.I IntKind.i64 (IntKind.wrap IntKind.i64 (x2 + 1)))))] [(3, LOv.mk 0 (LO.arr (SC.y 5 x3) false))] [])) (by kernel_rfl) ?_
  simp only [f30_p5, h2_]
noncomputable def f30_p6 (x0 : List UInt8) : Res :=
      chk (decide (List.length x0 ≤ 140737488355328)) (
      Res.ret (AV.S x0) ([]))
theorem f30_p6_eq (x0 : List UInt8) : f30_k1 (mkSt [(3, (EV.ls 3 0))] [(3, LOv.mk 0 (LO.arr (SC.y 5 x0) false))] []) = f30_p6 x0 := by
  kernel_rfl
noncomputable def f30_L2 : Nat → List UInt8 → Int → Int → List UInt8 → Res
  | 0, _, _, _, _ => Res.stuck
  | n + 1, x0, x1, x2, x3 =>
      bIte (decide (x2 < x1)) (
      ix x2 (List.length x0) fun i1 =>
      ix (Int.fdiv (↑(UInt8.toNat (List.getD x0 i1 0)) : Int) 16) 16 fun i2 =>
      ix x2 (List.length x0) fun i3 =>
      ix (IntKind.wrap IntKind.u8 (↑(BitVec.toNat (BitVec.ofInt 8 (↑(UInt8.toNat (List.getD x0 i3 0)) : Int) &&& BitVec.ofInt 8 15)) : Int)) 16 fun i4 =>
      chk (decide (List.length x3 + 2 ≤ 140737488355328 ∧ (List.length x3 + 2) * 1 ≤ 140737488355328)) (
      f30_p5 (f30_L2 n) x0 x1 x2 (x3 ++ List.set (List.set [0, 0] 0 (UInt8.ofNat (Int.toNat (↑(UInt8.toNat (List.getD [48, 49, 50, 51, 52, 53, 54, 55, 56, 57, 97, 98, 99, 100, 101, 102] i2 0)) : Int)))) 1 (UInt8.ofNat (Int.toNat (↑(UInt8.toNat (List.getD [48, 49, 50, 51, 52, 53, 54, 55, 56, 57, 97, 98, 99, 100, 101, 102] i4 0)) : Int)))))) (
      f30_p6 x3)
theorem f30_L2_eq : ∀ (n : Nat) (x0 : List UInt8) (x1 : Int) (x2 : Int) (x3 : List UInt8), f30_l2 n (mkSt [(0, (EV.v (AV.S x0))), (3, (EV.ls 3 0)), (8, (EV.v (AV.I IntKind.i64 x1))), (9, (EV.v (AV.I IntKind.i64 x2)))] [(3, LOv.mk 0 (LO.arr (SC.y 5 x3) false))] []) = f30_L2 n x0 x1 x2 x3 := by
  intro n
  induction n with
  | zero => intros; rfl
  | succ n IH =>
    intro x0 x1 x2 x3
    refine Eq.trans (b :=
      bIte (decide (x2 < x1)) (
      ix x2 (List.length x0) fun i1 =>
      ix (Int.fdiv (↑(UInt8.toNat (List.getD x0 i1 0)) : Int) 16) 16 fun i2 =>
      ix x2 (List.length x0) fun i3 =>
      ix (IntKind.wrap IntKind.u8 (↑(BitVec.toNat (BitVec.ofInt 8 (↑(UInt8.toNat (List.getD x0 i3 0)) : Int) &&& BitVec.ofInt 8 15)) : Int)) 16 fun i4 =>
      chk (decide (List.length x3 + 2 ≤ 140737488355328 ∧ (List.length x3 + 2) * 1 ≤ 140737488355328)) (
      f30_k3 (f30_l2 n) (mkSt [(0, (EV.v (AV.S x0))), (3, (EV.ls 3 0)), (8, (EV.v (AV.I IntKind.i64 x1))), (9, (EV.v (AV.I IntKind.i64 x2)))] [(3, LOv.mk 0 (LO.arr (SC.y 5 (x3 ++ List.set (List.set [0, 0] 0 (UInt8.ofNat (Int.toNat (↑(UInt8.toNat (List.getD [48, 49, 50, 51, 52, 53, 54, 55, 56, 57, 97, 98, 99, 100, 101, 102] i2 0)) : Int)))) 1 (UInt8.ofNat (Int.toNat (↑(UInt8.toNat (List.getD [48, 49, 50, 51, 52, 53, 54, 55, 56, 57, 97, 98, 99, 100, 101, 102] i4 0)) : Int))))) false))] []))) (
      f30_k1 (mkSt [(3, (EV.ls 3 0))] [(3, LOv.mk 0 (LO.arr (SC.y 5 x3) false))] []))) (by kernel_rfl) ?_
    simp only [f30_L2, IH, f30_p6_eq, f30_p5_eq (f30_l2 n) (f30_L2 n) IH]
noncomputable def f30_p0 (x0 : List UInt8) (x1 : Int) (x2 : Int) (x3 : List UInt8) : Res :=
      f30_L2 (ann30x FU).fuel x0 x1 x2 x3
theorem f30_p0_eq (x0 : List UInt8) (x1 : Int) (x2 : Int) (x3 : List UInt8) : f30_k0 (mkSt [(0, (EV.v (AV.S x0))), (3, (EV.ls 3 0)), (8, (EV.v (AV.I IntKind.i64 x1))), (9, (EV.v (AV.I IntKind.i64 x2)))] [(3, LOv.mk 0 (LO.arr (SC.y 5 x3) false))] []) = f30_p0 x0 x1 x2 x3 := by
  refine Eq.trans (b :=
      f30_l2 (ann30x FU).fuel (mkSt [(0, (EV.v (AV.S x0))), (3, (EV.ls 3 0)), (8, (EV.v (AV.I IntKind.i64 x1))), (9, (EV.v (AV.I IntKind.i64 x2)))] [(3, LOv.mk 0 (LO.arr (SC.y 5 x3) false))] [])) (by kernel_rfl) ?_
  simp only [f30_p0, f30_L2_eq]
noncomputable def f30_e (x0 : List UInt8) : Res :=
      bIte (x0 == []) (
      Res.ret (AV.S [45]) ([])) (
      f30_p0 x0 ((↑(List.length x0) : Int)) (0 : Int) ([]))
theorem f30_eq (x0 : List UInt8) : f30_sem [(AV.S x0)] [] = f30_e x0 := by
  refine Eq.trans (b :=
      bIte (x0 == []) (
      Res.ret (AV.S [45]) ([])) (
      f30_k0 (mkSt [(0, (EV.v (AV.S x0))), (3, (EV.ls 3 0)), (8, (EV.v (AV.I IntKind.i64 ((↑(List.length x0) : Int))))), (9, (EV.v (AV.I IntKind.i64 (0 : Int))))] [(3, LOv.mk 0 (LO.arr (SC.y 5 ([])) false))] []))) (by kernel_rfl) ?_
  simp only [f30_e, f30_p0_eq]
noncomputable def S8 : Nat → Sp := fun g => spN
noncomputable def f8_sem : List AV → List HO → Res := semU cx (ann8x FU) Go.Proofs.Tryd.f8 S8
noncomputable def f8_e (x0 : Int) : Res :=
      Res.ret (AV.I IntKind.i64 x0) ([])
theorem f8_eq (x0 : Int) : f8_sem [(AV.I IntKind.i64 x0)] [] = f8_e x0 := by
  kernel_rfl
noncomputable def S20 : Nat → Sp := fun g => spN
noncomputable def f20_sem : List AV → List HO → Res := semU cx (ann20x FU) Go.Proofs.Tryd.f20 S20
noncomputable def f20_e (x0 : List UInt8) (x1 : List UInt8) : Res :=
      chk (decide (List.length x0 ≤ 140737488355328)) (
      chk (decide (List.length x1 ≤ 140737488355328)) (
      Res.ret (AV.B (x0 == x1)) ([])))
theorem f20_eq (x0 : List UInt8) (x1 : List UInt8) : f20_sem [(AV.Y x0), (AV.Y x1)] [] = f20_e x0 x1 := by
  kernel_rfl
noncomputable def S25 : Nat → Sp := fun g => spN
noncomputable def f25_sem : List AV → List HO → Res := semU cx (ann25x FU) Go.Proofs.Tryd.f25 S25
noncomputable def f25_e (x0 : List UInt8) : Res :=
      chk (decide (0 + List.length x0 ≤ 140737488355328 ∧ (0 + List.length x0) * 1 ≤ 140737488355328)) (
      Res.ret (AV.Y x0) ([]))
theorem f25_eq (x0 : List UInt8) : f25_sem [(AV.Y x0)] [] = f25_e x0 := by
  kernel_rfl
noncomputable def S6 : Nat → Sp := fun g => spN
noncomputable def f6_sem : List AV → List HO → Res := semU cx (ann6x FU) Go.Proofs.Tryd.f6 S6
noncomputable def f6_e (x0 : Int) (x1 : Int) (x2 : Int) (x3 : Bool) (x4 : List (List AV)) : Res :=
      chk (decide (0 + List.length x4 ≤ 140737488355328 ∧ (0 + List.length x4) * 8 ≤ 140737488355328)) (
      Res.ret (AV.A [AV.I IntKind.i64 x0, AV.I IntKind.i64 x1, AV.I IntKind.i64 x2, AV.B x3, AV.L 1 x4]) ([]))
theorem f6_eq (x0 : Int) (x1 : Int) (x2 : Int) (x3 : Bool) (x4 : List (List AV)) : f6_sem [(AV.A [(AV.I IntKind.i64 x0), (AV.I IntKind.i64 x1), (AV.I IntKind.i64 x2), (AV.B x3), (AV.L 1 x4)])] [] = f6_e x0 x1 x2 x3 x4 := by
  kernel_rfl
noncomputable def S43 : Nat → Sp := fun g => spN
noncomputable def f43_sem : List AV → List HO → Res := semU cx (ann43x FU) Go.Proofs.Tryd.f43 S43
noncomputable def f43_k1 : St → Res := aC cx (ann43x FU) (altAlg cx.pure S43) (altAlg cx.pure S43) (sq2 (sq2 (bodyOf Go.Proofs.Tryd.f43))) (resK (altAlg cx.pure S43) cx (ann43x FU) Go.Proofs.Tryd.f43) (fun _ _ => Res.stuck) (resK (altAlg cx.pure S43) cx (ann43x FU) Go.Proofs.Tryd.f43)
noncomputable def f43_j1 : St → Res := fun s => f43_k1 (nrm (ann43x FU) (headId (sq2 (sq2 (bodyOf Go.Proofs.Tryd.f43)))) s)
noncomputable def f43_x2 : Nat → St → Res := fun i s => if i = 0 then (f43_j1) s else (fun _ _ => Res.stuck) i s
noncomputable def f43_k0 : St → Res := aC cx (ann43x FU) (altAlg cx.pure S43) (altAlg cx.pure S43) (cn1 (sq2 (blk (sq2 (sq1 (sq2 (bodyOf Go.Proofs.Tryd.f43))))))) (f43_j1) (f43_x2) (resK (altAlg cx.pure S43) cx (ann43x FU) Go.Proofs.Tryd.f43)
noncomputable def f43_j0 : St → Res := fun s => f43_k0 (nrm (ann43x FU) (headId (cn1 (sq2 (blk (sq2 (sq1 (sq2 (bodyOf Go.Proofs.Tryd.f43)))))))) s)
noncomputable def f43_k3 : St → Res := aC cx (ann43x FU) (altAlg cx.pure S43) (altAlg cx.pure S43) (cn2 (sq2 (blk (sq2 (sq1 (sq2 (bodyOf Go.Proofs.Tryd.f43))))))) (f43_j1) (f43_x2) (resK (altAlg cx.pure S43) cx (ann43x FU) Go.Proofs.Tryd.f43)
noncomputable def f43_j3 : St → Res := fun s => f43_k3 (nrm (ann43x FU) (headId (cn2 (sq2 (blk (sq2 (sq1 (sq2 (bodyOf Go.Proofs.Tryd.f43)))))))) s)
noncomputable def f43_k5 : St → Res := aC cx (ann43x FU) (altAlg cx.pure S43) (altAlg cx.pure S43) (sq2 (sq2 (sq2 (sq2 (bodyOf Go.Proofs.Tryd.f43))))) (resK (altAlg cx.pure S43) cx (ann43x FU) Go.Proofs.Tryd.f43) (fun _ _ => Res.stuck) (resK (altAlg cx.pure S43) cx (ann43x FU) Go.Proofs.Tryd.f43)
noncomputable def f43_j5 : St → Res := fun s => f43_k5 (nrm (ann43x FU) (headId (sq2 (sq2 (sq2 (sq2 (bodyOf Go.Proofs.Tryd.f43)))))) s)
noncomputable def f43_x6 : Nat → St → Res := fun i s => if i = 1 then (f43_j5) s else (fun _ _ => Res.stuck) i s
noncomputable def f43_k4 : St → Res := aC cx (ann43x FU) (altAlg cx.pure S43) (altAlg cx.pure S43) (sq2 (blk (sq2 (sq1 (sq2 (sq2 (sq2 (bodyOf Go.Proofs.Tryd.f43)))))))) (f43_j5) (f43_x6) (resK (altAlg cx.pure S43) cx (ann43x FU) Go.Proofs.Tryd.f43)
noncomputable def f43_j4 : St → Res := fun s => f43_k4 (nrm (ann43x FU) (headId (sq2 (blk (sq2 (sq1 (sq2 (sq2 (sq2 (bodyOf Go.Proofs.Tryd.f43))))))))) s)
noncomputable def f43_p4 (x0 : Int) (x1 : Int) (x2 : Int) (x3 : List UInt8) : Res :=
      bIte (decide ((↑(List.length x3) : Int) > x0)) (
      Res.ret (AV.I IntKind.i64 42) ([])) (
      Res.ret (AV.I IntKind.i64 0) ([]))
theorem f43_p4_eq (x0 : Int) (x1 : Int) (x2 : Int) (x3 : List UInt8) : f43_k5 (mkSt [(1, (EV.lp 1 0 0)), (3, (EV.v (AV.I IntKind.i64 x0)))] [(1, LOv.mk 0 (LO.box 0 [(HV.a (AV.I IntKind.i64 x1)), (HV.a (AV.I IntKind.i64 x2)), (HV.a (AV.S x3))]))] []) = f43_p4 x0 x1 x2 x3 := by
  kernel_rfl
noncomputable def f43_p3 (x0 : Int) (x1 : Int) (x2 : List UInt8) : Res :=
      f43_p4 (64 : Int) x0 x1 x2
theorem f43_p3_eq (x0 : Int) (x1 : Int) (x2 : List UInt8) : f43_k4 (mkSt [(1, (EV.lp 1 0 0))] [(1, LOv.mk 0 (LO.box 0 [(HV.a (AV.I IntKind.i64 x0)), (HV.a (AV.I IntKind.i64 x1)), (HV.a (AV.S x2))]))] []) = f43_p3 x0 x1 x2 := by
  refine Eq.trans (b :=
      f43_k5 (mkSt [(1, (EV.lp 1 0 0)), (3, (EV.v (AV.I IntKind.i64 (64 : Int))))] [(1, LOv.mk 0 (LO.box 0 [(HV.a (AV.I IntKind.i64 x0)), (HV.a (AV.I IntKind.i64 x1)), (HV.a (AV.S x2))]))] [])) (by kernel_rfl) ?_
  simp only [f43_p3, f43_p4_eq]
noncomputable def f43_p2 (x0 : Int) (x1 : Int) (x2 : List UInt8) : Res :=
      bIte (x0 == 1) (
      f43_p3 x0 x1 x2) (
      bIte (x0 == 2) (
      f43_p3 x0 x1 x2) (
      f43_p4 (0 : Int) x0 x1 x2))
theorem f43_p2_eq (x0 : Int) (x1 : Int) (x2 : List UInt8) : f43_k1 (mkSt [(1, (EV.lp 1 0 0))] [(1, LOv.mk 0 (LO.box 0 [(HV.a (AV.I IntKind.i64 x0)), (HV.a (AV.I IntKind.i64 x1)), (HV.a (AV.S x2))]))] []) = f43_p2 x0 x1 x2 := by
  refine Eq.trans (b :=
      bIte (x0 == 1) (
      f43_k4 (mkSt [(1, (EV.lp 1 0 0))] [(1, LOv.mk 0 (LO.box 0 [(HV.a (AV.I IntKind.i64 x0)), (HV.a (AV.I IntKind.i64 x1)), (HV.a (AV.S x2))]))] [])) (
      bIte (x0 == 2) (
      f43_k4 (mkSt [(1, (EV.lp 1 0 0))] [(1, LOv.mk 0 (LO.box 0 [(HV.a (AV.I IntKind.i64 x0)), (HV.a (AV.I IntKind.i64 x1)), (HV.a (AV.S x2))]))] [])) (
      f43_k5 (mkSt [(1, (EV.lp 1 0 0)), (3, (EV.v (AV.I IntKind.i64 (0 : Int))))] [(1, LOv.mk 0 (LO.box 0 [(HV.a (AV.I IntKind.i64 x0)), (HV.a (AV.I IntKind.i64 x1)), (HV.a (AV.S x2))]))] [])))) (by kernel_rfl) ?_
  simp only [f43_p2, f43_p4_eq, f43_p3_eq]
noncomputable def f43_p0 (x0 : Int) (x1 : Int) (x2 : List UInt8) : Res :=
      bIte (decide (x1 < 0)) (
      Res.ret (AV.I IntKind.i64 41) ([])) (
      bIte (decide (x1 ≥ 1024)) (
      Res.ret (AV.I IntKind.i64 41) ([])) (
      f43_p2 x0 x1 x2))
theorem f43_p0_eq (x0 : Int) (x1 : Int) (x2 : List UInt8) : f43_k0 (mkSt [(1, (EV.lp 1 0 0))] [(1, LOv.mk 0 (LO.box 0 [(HV.a (AV.I IntKind.i64 x0)), (HV.a (AV.I IntKind.i64 x1)), (HV.a (AV.S x2))]))] []) = f43_p0 x0 x1 x2 := by
  refine Eq.trans (b :=
      bIte (decide (x1 < 0)) (
      Res.ret (AV.I IntKind.i64 41) ([])) (
      bIte (decide (x1 ≥ 1024)) (
      Res.ret (AV.I IntKind.i64 41) ([])) (
      f43_k1 (mkSt [(1, (EV.lp 1 0 0))] [(1, LOv.mk 0 (LO.box 0 [(HV.a (AV.I IntKind.i64 x0)), (HV.a (AV.I IntKind.i64 x1)), (HV.a (AV.S x2))]))] [])))) (by kernel_rfl) ?_
  simp only [f43_p0, f43_p2_eq]
noncomputable def f43_p1 (x0 : Int) (x1 : Int) (x2 : Int) (x3 : List UInt8) : Res :=
      bIte (x0 == 2) (
      bIte (x2 != 0) (
      Res.ret (AV.I IntKind.i64 41) ([])) (
      f43_p2 x1 x2 x3)) (
      bIte (x0 == 4) (
      bIte (x2 != 0) (
      Res.ret (AV.I IntKind.i64 41) ([])) (
      f43_p2 x1 x2 x3)) (
      Res.ret (AV.I IntKind.i64 40) ([])))
theorem f43_p1_eq (x0 : Int) (x1 : Int) (x2 : Int) (x3 : List UInt8) : f43_k3 (mkSt [(1, (EV.lp 1 0 0)), (5, (EV.v (AV.I IntKind.i64 x0)))] [(1, LOv.mk 0 (LO.box 0 [(HV.a (AV.I IntKind.i64 x1)), (HV.a (AV.I IntKind.i64 x2)), (HV.a (AV.S x3))]))] []) = f43_p1 x0 x1 x2 x3 := by
  refine Eq.trans (b :=
      bIte (x0 == 2) (
      bIte (x2 != 0) (
      Res.ret (AV.I IntKind.i64 41) ([])) (
      f43_k1 (mkSt [(1, (EV.lp 1 0 0))] [(1, LOv.mk 0 (LO.box 0 [(HV.a (AV.I IntKind.i64 x1)), (HV.a (AV.I IntKind.i64 x2)), (HV.a (AV.S x3))]))] []))) (
      bIte (x0 == 4) (
      bIte (x2 != 0) (
      Res.ret (AV.I IntKind.i64 41) ([])) (
      f43_k1 (mkSt [(1, (EV.lp 1 0 0))] [(1, LOv.mk 0 (LO.box 0 [(HV.a (AV.I IntKind.i64 x1)), (HV.a (AV.I IntKind.i64 x2)), (HV.a (AV.S x3))]))] []))) (
      Res.ret (AV.I IntKind.i64 40) ([])))) (by kernel_rfl) ?_
  simp only [f43_p1, f43_p2_eq]
noncomputable def f43_e (x0 : Int) (x1 : Int) (x2 : List UInt8) : Res :=
      bIte (x0 == 1) (
      f43_p0 x0 x1 x2) (
      bIte (x0 == 3) (
      f43_p0 x0 x1 x2) (
      f43_p1 x0 x0 x1 x2))
theorem f43_eq (x0 : Int) (x1 : Int) (x2 : List UInt8) : f43_sem [(AV.A [(AV.I IntKind.i64 x0), (AV.I IntKind.i64 x1), (AV.S x2)])] [] = f43_e x0 x1 x2 := by
  refine Eq.trans (b :=
      bIte (x0 == 1) (
      f43_k0 (mkSt [(1, (EV.lp 1 0 0))] [(1, LOv.mk 0 (LO.box 0 [(HV.a (AV.I IntKind.i64 x0)), (HV.a (AV.I IntKind.i64 x1)), (HV.a (AV.S x2))]))] [])) (
      bIte (x0 == 3) (
      f43_k0 (mkSt [(1, (EV.lp 1 0 0))] [(1, LOv.mk 0 (LO.box 0 [(HV.a (AV.I IntKind.i64 x0)), (HV.a (AV.I IntKind.i64 x1)), (HV.a (AV.S x2))]))] [])) (
      f43_k3 (mkSt [(1, (EV.lp 1 0 0)), (5, (EV.v (AV.I IntKind.i64 x0)))] [(1, LOv.mk 0 (LO.box 0 [(HV.a (AV.I IntKind.i64 x0)), (HV.a (AV.I IntKind.i64 x1)), (HV.a (AV.S x2))]))] [])))) (by kernel_rfl) ?_
  simp only [f43_e, f43_p1_eq, f43_p0_eq]
noncomputable def S45 : Nat → Sp := fun g => spN
noncomputable def f45_sem : List AV → List HO → Res := semU cx (ann45x FU) Go.Proofs.Tryd.f45 S45
noncomputable def f45_e (x0 : Int) (x1 : Int) (x2 : Int) (x3 : Bool) : Res :=
      bIte (decide (x0 ≥ 1)) (
      bIte (decide (x0 ≤ 3)) (
      bIte (decide (x1 ≥ 1)) (
      bIte (decide (x1 ≤ 256)) (
      bIte (decide (x2 ≥ 6)) (
      Res.ret (AV.B (decide (x2 ≤ 100))) ([])) (
      Res.ret (AV.B false) ([]))) (
      Res.ret (AV.B false) ([]))) (
      Res.ret (AV.B false) ([]))) (
      Res.ret (AV.B false) ([]))) (
      Res.ret (AV.B false) ([]))
theorem f45_eq (x0 : Int) (x1 : Int) (x2 : Int) (x3 : Bool) : f45_sem [(AV.A [(AV.I IntKind.i64 x0), (AV.I IntKind.i64 x1), (AV.I IntKind.i64 x2), (AV.B x3)])] [] = f45_e x0 x1 x2 x3 := by
  kernel_rfl
end Go.Vm
