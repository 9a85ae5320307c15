/- Part of a proof: ZzUp. -/
import Derived.Test.YteaplibpphjokaaDoorZzSp3
import Derived.Test.YteaplibpphjokaaDoorVE
set_option linter.unusedSimpArgs false
set_option linter.unusedVariables false
set_option linter.unusedSectionVars false
namespace Go.Vm
open Go (IntKind Fn)
set_option maxHeartbeats 0
noncomputable def S35 : Nat → Sp := fun g => bif Nat.beq g 18 then sp18 else spN
noncomputable def f35_sem : List AV → List HO → Res := semU cx (ann35x FU) Go.Proofs.Tryd.f35 S35
noncomputable def f35_e (x0 : Int) : Res :=
      bIte (decide (x0 > 0)) (
      chk (Sp.pre sp18 [AV.I IntKind.i64 x0] []) (
      chk (decide (5 + List.length (decB (Int.toNat x0)) ≤ 140737488355328)) (
      Res.ret (AV.S ([32, 99, 117, 116, 32] ++ decB (Int.toNat x0))) ([])))) (
      Res.ret (AV.S []) ([]))
theorem f35_eq (x0 : Int) : f35_sem [(AV.I IntKind.i64 x0)] [] = f35_e x0 := by
  kernel_rfl
noncomputable def S36 : Nat → Sp := fun g => bif Nat.beq g 46 then sp46 else spN
noncomputable def f36_sem : List AV → List HO → Res := semU cx (ann36x FU) Go.Proofs.Tryd.f36 S36
noncomputable def f36_e (x0 : Int) (x1 : Int) : Res :=
      chk (Sp.pre sp46 [AV.I IntKind.u64 x0] []) (
      chk (decide (List.length (decB (Int.toNat x0)) + 1 ≤ 140737488355328)) (
      chk (Sp.pre sp46 [AV.I IntKind.u64 x1] []) (
      chk (decide (List.length (decB (Int.toNat x0) ++ [46]) + List.length (decB (Int.toNat x1)) ≤ 140737488355328)) (
      Res.ret (AV.S (decB (Int.toNat x0) ++ [46] ++ decB (Int.toNat x1))) ([])))))
theorem f36_eq (x0 : Int) (x1 : Int) : f36_sem [(AV.A [(AV.I IntKind.u64 x0), (AV.I IntKind.u64 x1)])] [] = f36_e x0 x1 := by
  kernel_rfl
noncomputable def S32 : Nat → Sp := fun g => bif Nat.beq g 45 then sp45 else spN
noncomputable def f32_sem : List AV → List HO → Res := semU cx (ann32x FU) Go.Proofs.Tryd.f32 S32
noncomputable def f32_e (x0 : Int) (x1 : Int) (x2 : Int) (x3 : Bool) : Res :=
      bIte (!cfgOK x0 x1 x2) (
      Res.ret (AV.I IntKind.i64 1) ([])) (
      Res.ret (AV.I IntKind.i64 0) ([]))
theorem f32_eq (x0 : Int) (x1 : Int) (x2 : Int) (x3 : Bool) : f32_sem [(AV.A [(AV.I IntKind.i64 x0), (AV.I IntKind.i64 x1), (AV.I IntKind.i64 x2), (AV.B x3)])] [] = f32_e x0 x1 x2 x3 := by
  kernel_rfl
noncomputable def S17 : Nat → Sp := fun g => bif Nat.beq g 32 then sp32 else spN
noncomputable def f17_sem : List AV → List HO → Res := semU cx (ann17x FU) Go.Proofs.Tryd.f17 S17
noncomputable def f17_k1 : St → Res := aC cx (ann17x FU) (altAlg cx.pure S17) (altAlg cx.pure S17) (sq2 (sq2 (sq2 (sq2 (bodyOf Go.Proofs.Tryd.f17))))) (resK (altAlg cx.pure S17) cx (ann17x FU) Go.Proofs.Tryd.f17) (fun _ _ => Res.stuck) (resK (altAlg cx.pure S17) cx (ann17x FU) Go.Proofs.Tryd.f17)
noncomputable def f17_j1 : St → Res := fun s => f17_k1 (nrm (ann17x FU) (headId (sq2 (sq2 (sq2 (sq2 (bodyOf Go.Proofs.Tryd.f17)))))) s)
noncomputable def f17_k0 : St → Res := aC cx (ann17x FU) (altAlg cx.pure S17) (altAlg cx.pure S17) (sq2 (sq1 (sq2 (sq2 (sq2 (bodyOf Go.Proofs.Tryd.f17)))))) (f17_j1) (fun _ _ => Res.stuck) (resK (altAlg cx.pure S17) cx (ann17x FU) Go.Proofs.Tryd.f17)
noncomputable def f17_j0 : St → Res := fun s => f17_k0 (nrm (ann17x FU) (headId (sq2 (sq1 (sq2 (sq2 (sq2 (bodyOf Go.Proofs.Tryd.f17))))))) s)
noncomputable def f17_x0 : Nat → St → Res := fun i s => if i = 0 then (f17_j1) s else (fun _ _ => Res.stuck) i s
noncomputable def f17_l2 : Nat → St → Res := loopR (altAlg cx.pure S17) (fun ih2_ s => aC cx (ann17x FU) (altAlg cx.pure S17) (altAlg cx.pure S17) (blk (blk (sq2 (sq1 (sq2 (sq2 (sq2 (bodyOf Go.Proofs.Tryd.f17)))))))) (fun s' => ih2_ (nrm (ann17x FU) (headId (blk (blk (sq2 (sq1 (sq2 (sq2 (sq2 (bodyOf Go.Proofs.Tryd.f17))))))))) s')) (f17_x0) (resK (altAlg cx.pure S17) cx (ann17x FU) Go.Proofs.Tryd.f17) s)
noncomputable def f17_k3 (ih2_ : St → Res) : St → Res := aC cx (ann17x FU) (altAlg cx.pure S17) (altAlg cx.pure S17) (sq2 (sq2 (blk (blk (sq2 (sq1 (sq2 (sq2 (sq2 (bodyOf Go.Proofs.Tryd.f17)))))))))) (fun s => ih2_ (nrm (ann17x FU) (headId (blk (blk (sq2 (sq1 (sq2 (sq2 (sq2 (bodyOf Go.Proofs.Tryd.f17))))))))) s)) (f17_x0) (resK (altAlg cx.pure S17) cx (ann17x FU) Go.Proofs.Tryd.f17)
noncomputable def f17_j3 (ih2_ : St → Res) : St → Res := fun s => f17_k3 ih2_ (nrm (ann17x FU) (headId (sq2 (sq2 (blk (blk (sq2 (sq1 (sq2 (sq2 (sq2 (bodyOf Go.Proofs.Tryd.f17))))))))))) s)
noncomputable def f17_p3 (rec2_ : Int → Int → Int → Int → Bool → List (List AV) → Res) (x0 : Int) (x1 : Int) (x2 : Int) (x3 : Int) (x4 : Bool) (x5 : List (List AV)) : Res :=
      rec2_ (IntKind.wrap IntKind.i64 (x0 + 1)) x1 x2 x3 x4 x5
theorem f17_p3_eq (ih2_ : St → Res) (rec2_ : Int → Int → Int → Int → Bool → List (List AV) → Res) (h2_ : ∀ (x0 : Int) (x1 : Int) (x2 : Int) (x3 : Int) (x4 : Bool) (x5 : List (List AV)), ih2_ (mkSt [(1, (EV.lp 1 0 0)), (3, (EV.v (AV.I IntKind.i64 x0)))] [(1, LOv.mk 0 (LO.box 0 [(HV.a (AV.I IntKind.i64 x1)), (HV.a (AV.I IntKind.i64 x2)), (HV.a (AV.I IntKind.i64 x3)), (HV.a (AV.B x4)), (HV.a (AV.L 1 x5))]))] []) = rec2_ x0 x1 x2 x3 x4 x5) (x0 : Int) (x1 : Int) (x2 : Int) (x3 : Int) (x4 : Bool) (x5 : List (List AV)) : f17_k3 ih2_ (mkSt [(1, (EV.lp 1 0 0)), (3, (EV.v (AV.I IntKind.i64 x0)))] [(1, LOv.mk 0 (LO.box 0 [(HV.a (AV.I IntKind.i64 x1)), (HV.a (AV.I IntKind.i64 x2)), (HV.a (AV.I IntKind.i64 x3)), (HV.a (AV.B x4)), (HV.a (AV.L 1 x5))]))] []) = f17_p3 rec2_ x0 x1 x2 x3 x4 x5 := by
  refine Eq.trans (b :=
      ih2_ (mkSt [(1, (EV.lp 1 0 0)), (3, (EV.v (AV.I IntKind.i64 (IntKind.wrap IntKind.i64 (x0 + 1)))))] [(1, LOv.mk 0 (LO.box 0 [(HV.a (AV.I IntKind.i64 x1)), (HV.a (AV.I IntKind.i64 x2)), (HV.a (AV.I IntKind.i64 x3)), (HV.a (AV.B x4)), (HV.a (AV.L 1 x5))]))] [])) (by kernel_rfl) ?_
  simp only [f17_p3, h2_]
noncomputable def f17_p4 : Res :=
      Res.ret (AV.I IntKind.i64 0) ([])
theorem f17_p4_eq : f17_k1 (mkSt [] [] []) = f17_p4 := by
  kernel_rfl
noncomputable def f17_L2 : Nat → Int → Int → Int → Int → Bool → List (List AV) → Res
  | 0, _, _, _, _, _, _ => Res.stuck
  | n + 1, x0, x1, x2, x3, x4, x5 =>
      bIte (decide (x0 < (↑(List.length x5) : Int))) (
      ix x0 (List.length x5) fun i1 =>
      mI IntKind.i64 (List.getD (List.getD x5 i1 []) 0 AV.U) fun n2 =>
      bIte (decide (n2 < 0)) (
      Res.ret (AV.I IntKind.i64 152) ([])) (
      f17_p3 (f17_L2 n) x0 x1 x2 x3 x4 x5)) (
      f17_p4)
theorem f17_L2_eq : ∀ (n : Nat) (x0 : Int) (x1 : Int) (x2 : Int) (x3 : Int) (x4 : Bool) (x5 : List (List AV)), f17_l2 n (mkSt [(1, (EV.lp 1 0 0)), (3, (EV.v (AV.I IntKind.i64 x0)))] [(1, LOv.mk 0 (LO.box 0 [(HV.a (AV.I IntKind.i64 x1)), (HV.a (AV.I IntKind.i64 x2)), (HV.a (AV.I IntKind.i64 x3)), (HV.a (AV.B x4)), (HV.a (AV.L 1 x5))]))] []) = f17_L2 n x0 x1 x2 x3 x4 x5 := by
  intro n
  induction n with
  | zero => intros; rfl
  | succ n IH =>
    intro x0 x1 x2 x3 x4 x5
    refine Eq.trans (b :=
      bIte (decide (x0 < (↑(List.length x5) : Int))) (
      ix x0 (List.length x5) fun i1 =>
      mI IntKind.i64 (List.getD (List.getD x5 i1 []) 0 AV.U) fun n2 =>
      bIte (decide (n2 < 0)) (
      Res.ret (AV.I IntKind.i64 152) ([])) (
      f17_k3 (f17_l2 n) (mkSt [(1, (EV.lp 1 0 0)), (3, (EV.v (AV.I IntKind.i64 x0)))] [(1, LOv.mk 0 (LO.box 0 [(HV.a (AV.I IntKind.i64 x1)), (HV.a (AV.I IntKind.i64 x2)), (HV.a (AV.I IntKind.i64 x3)), (HV.a (AV.B x4)), (HV.a (AV.L 1 x5))]))] []))) (
      f17_k1 (mkSt [] [] []))) (by kernel_rfl) ?_
    simp only [f17_L2, IH, f17_p4_eq, f17_p3_eq (f17_l2 n) (f17_L2 n) IH]
noncomputable def f17_p0 (x0 : Int) (x1 : Int) (x2 : Int) (x3 : Int) (x4 : Bool) (x5 : List (List AV)) : Res :=
      f17_L2 (ann17x FU).fuel x0 x1 x2 x3 x4 x5
theorem f17_p0_eq (x0 : Int) (x1 : Int) (x2 : Int) (x3 : Int) (x4 : Bool) (x5 : List (List AV)) : f17_k0 (mkSt [(1, (EV.lp 1 0 0)), (3, (EV.v (AV.I IntKind.i64 x0)))] [(1, LOv.mk 0 (LO.box 0 [(HV.a (AV.I IntKind.i64 x1)), (HV.a (AV.I IntKind.i64 x2)), (HV.a (AV.I IntKind.i64 x3)), (HV.a (AV.B x4)), (HV.a (AV.L 1 x5))]))] []) = f17_p0 x0 x1 x2 x3 x4 x5 := by
  refine Eq.trans (b :=
      f17_l2 (ann17x FU).fuel (mkSt [(1, (EV.lp 1 0 0)), (3, (EV.v (AV.I IntKind.i64 x0)))] [(1, LOv.mk 0 (LO.box 0 [(HV.a (AV.I IntKind.i64 x1)), (HV.a (AV.I IntKind.i64 x2)), (HV.a (AV.I IntKind.i64 x3)), (HV.a (AV.B x4)), (HV.a (AV.L 1 x5))]))] [])) (by kernel_rfl) ?_
  simp only [f17_p0, f17_L2_eq]
noncomputable def f17_e (x0 : Int) (x1 : Int) (x2 : Int) (x3 : Bool) (x4 : List (List AV)) : Res :=
      bIte (cfgErr x0 x1 x2 != 0) (
      Res.ret (AV.I IntKind.i64 1) ([])) (
      bIte (decide ((↑(List.length x4) : Int) > 16)) (
      Res.ret (AV.I IntKind.i64 152) ([])) (
      f17_p0 (0 : Int) x0 x1 x2 x3 x4))
theorem f17_eq (x0 : Int) (x1 : Int) (x2 : Int) (x3 : Bool) (x4 : List (List AV)) : f17_sem [(AV.A [(AV.I IntKind.i64 x0), (AV.I IntKind.i64 x1), (AV.I IntKind.i64 x2), (AV.B x3), (AV.L 1 x4)])] [] = f17_e x0 x1 x2 x3 x4 := by
  refine Eq.trans (b :=
      bIte (cfgErr x0 x1 x2 != 0) (
      Res.ret (AV.I IntKind.i64 1) ([])) (
      bIte (decide ((↑(List.length x4) : Int) > 16)) (
      Res.ret (AV.I IntKind.i64 152) ([])) (
      f17_k0 (mkSt [(1, (EV.lp 1 0 0)), (3, (EV.v (AV.I IntKind.i64 (0 : Int))))] [(1, LOv.mk 0 (LO.box 0 [(HV.a (AV.I IntKind.i64 x0)), (HV.a (AV.I IntKind.i64 x1)), (HV.a (AV.I IntKind.i64 x2)), (HV.a (AV.B x3)), (HV.a (AV.L 1 x4))]))] [])))) (by kernel_rfl) ?_
  simp only [f17_e, f17_p0_eq]
noncomputable def S5 : Nat → Sp := fun g => bif Nat.beq g 16 then sp16 else bif Nat.beq g 15 then sp15 else bif Nat.beq g 14 then sp14 else bif Nat.beq g 13 then sp13 else bif Nat.beq g 12 then sp12 else spN
noncomputable def f5_sem : List AV → List HO → Res := semU cx (ann5x FU) Go.Proofs.Tryd.f5 S5
noncomputable def f5_k0 : St → Res := aC cx (ann5x FU) (altAlg cx.pure S5) (altAlg cx.pure S5) (sq2 (sq2 (sq2 (sq2 (sq2 (sq2 (bodyOf Go.Proofs.Tryd.f5))))))) (resK (altAlg cx.pure S5) cx (ann5x FU) Go.Proofs.Tryd.f5) (fun _ _ => Res.stuck) (resK (altAlg cx.pure S5) cx (ann5x FU) Go.Proofs.Tryd.f5)
noncomputable def f5_j0 : St → Res := fun s => f5_k0 (nrm (ann5x FU) (headId (sq2 (sq2 (sq2 (sq2 (sq2 (sq2 (bodyOf Go.Proofs.Tryd.f5)))))))) s)
noncomputable def f5_k2 : St → Res := aC cx (ann5x FU) (altAlg cx.pure S5) (altAlg cx.pure S5) (sq2 (sq2 (sq2 (sq2 (sq2 (sq2 (sq2 (sq2 (sq2 (bodyOf Go.Proofs.Tryd.f5)))))))))) (resK (altAlg cx.pure S5) cx (ann5x FU) Go.Proofs.Tryd.f5) (fun _ _ => Res.stuck) (resK (altAlg cx.pure S5) cx (ann5x FU) Go.Proofs.Tryd.f5)
noncomputable def f5_j2 : St → Res := fun s => f5_k2 (nrm (ann5x FU) (headId (sq2 (sq2 (sq2 (sq2 (sq2 (sq2 (sq2 (sq2 (sq2 (bodyOf Go.Proofs.Tryd.f5))))))))))) s)
noncomputable def f5_k1 : St → Res := aC cx (ann5x FU) (altAlg cx.pure S5) (altAlg cx.pure S5) (sq2 (sq1 (sq2 (sq2 (sq2 (sq2 (sq2 (sq2 (sq2 (sq2 (bodyOf Go.Proofs.Tryd.f5))))))))))) (f5_j2) (fun _ _ => Res.stuck) (resK (altAlg cx.pure S5) cx (ann5x FU) Go.Proofs.Tryd.f5)
noncomputable def f5_j1 : St → Res := fun s => f5_k1 (nrm (ann5x FU) (headId (sq2 (sq1 (sq2 (sq2 (sq2 (sq2 (sq2 (sq2 (sq2 (sq2 (bodyOf Go.Proofs.Tryd.f5)))))))))))) s)
noncomputable def f5_x1 : Nat → St → Res := fun i s => if i = 0 then (f5_j2) s else (fun _ _ => Res.stuck) i s
noncomputable def f5_l3 : Nat → St → Res := loopR (altAlg cx.pure S5) (fun ih3_ s => aC cx (ann5x FU) (altAlg cx.pure S5) (altAlg cx.pure S5) (blk (blk (sq2 (sq1 (sq2 (sq2 (sq2 (sq2 (sq2 (sq2 (sq2 (sq2 (bodyOf Go.Proofs.Tryd.f5))))))))))))) (fun s' => ih3_ (nrm (ann5x FU) (headId (blk (blk (sq2 (sq1 (sq2 (sq2 (sq2 (sq2 (sq2 (sq2 (sq2 (sq2 (bodyOf Go.Proofs.Tryd.f5)))))))))))))) s')) (f5_x1) (resK (altAlg cx.pure S5) cx (ann5x FU) Go.Proofs.Tryd.f5) s)
noncomputable def f5_k4 (ih3_ : St → Res) : St → Res := aC cx (ann5x FU) (altAlg cx.pure S5) (altAlg cx.pure S5) (sq2 (sq2 (sq2 (blk (blk (sq2 (sq1 (sq2 (sq2 (sq2 (sq2 (sq2 (sq2 (sq2 (sq2 (bodyOf Go.Proofs.Tryd.f5)))))))))))))))) (fun s => ih3_ (nrm (ann5x FU) (headId (blk (blk (sq2 (sq1 (sq2 (sq2 (sq2 (sq2 (sq2 (sq2 (sq2 (sq2 (bodyOf Go.Proofs.Tryd.f5)))))))))))))) s)) (f5_x1) (resK (altAlg cx.pure S5) cx (ann5x FU) Go.Proofs.Tryd.f5)
noncomputable def f5_j4 (ih3_ : St → Res) : St → Res := fun s => f5_k4 ih3_ (nrm (ann5x FU) (headId (sq2 (sq2 (sq2 (blk (blk (sq2 (sq1 (sq2 (sq2 (sq2 (sq2 (sq2 (sq2 (sq2 (sq2 (bodyOf Go.Proofs.Tryd.f5))))))))))))))))) s)
noncomputable def f5_k6 : St → Res := aC cx (ann5x FU) (altAlg cx.pure S5) (altAlg cx.pure S5) (sq2 (sq2 (sq2 (sq2 (sq2 (sq2 (sq2 (sq2 (sq2 (sq2 (sq2 (bodyOf Go.Proofs.Tryd.f5)))))))))))) (resK (altAlg cx.pure S5) cx (ann5x FU) Go.Proofs.Tryd.f5) (fun _ _ => Res.stuck) (resK (altAlg cx.pure S5) cx (ann5x FU) Go.Proofs.Tryd.f5)
noncomputable def f5_j6 : St → Res := fun s => f5_k6 (nrm (ann5x FU) (headId (sq2 (sq2 (sq2 (sq2 (sq2 (sq2 (sq2 (sq2 (sq2 (sq2 (sq2 (bodyOf Go.Proofs.Tryd.f5))))))))))))) s)
noncomputable def f5_k5 : St → Res := aC cx (ann5x FU) (altAlg cx.pure S5) (altAlg cx.pure S5) (sq2 (sq1 (sq2 (sq2 (sq2 (sq2 (sq2 (sq2 (sq2 (sq2 (sq2 (sq2 (bodyOf Go.Proofs.Tryd.f5))))))))))))) (f5_j6) (fun _ _ => Res.stuck) (resK (altAlg cx.pure S5) cx (ann5x FU) Go.Proofs.Tryd.f5)
noncomputable def f5_j5 : St → Res := fun s => f5_k5 (nrm (ann5x FU) (headId (sq2 (sq1 (sq2 (sq2 (sq2 (sq2 (sq2 (sq2 (sq2 (sq2 (sq2 (sq2 (bodyOf Go.Proofs.Tryd.f5)))))))))))))) s)
noncomputable def f5_x5 : Nat → St → Res := fun i s => if i = 2 then (f5_j6) s else (fun _ _ => Res.stuck) i s
noncomputable def f5_l7 : Nat → St → Res := loopR (altAlg cx.pure S5) (fun ih7_ s => aC cx (ann5x FU) (altAlg cx.pure S5) (altAlg cx.pure S5) (blk (blk (sq2 (sq1 (sq2 (sq2 (sq2 (sq2 (sq2 (sq2 (sq2 (sq2 (sq2 (sq2 (bodyOf Go.Proofs.Tryd.f5))))))))))))))) (fun s' => ih7_ (nrm (ann5x FU) (headId (blk (blk (sq2 (sq1 (sq2 (sq2 (sq2 (sq2 (sq2 (sq2 (sq2 (sq2 (sq2 (sq2 (bodyOf Go.Proofs.Tryd.f5)))))))))))))))) s')) (f5_x5) (resK (altAlg cx.pure S5) cx (ann5x FU) Go.Proofs.Tryd.f5) s)
noncomputable def f5_k8 (ih7_ : St → Res) : St → Res := aC cx (ann5x FU) (altAlg cx.pure S5) (altAlg cx.pure S5) (sq2 (sq2 (sq2 (blk (blk (sq2 (sq1 (sq2 (sq2 (sq2 (sq2 (sq2 (sq2 (sq2 (sq2 (sq2 (sq2 (bodyOf Go.Proofs.Tryd.f5)))))))))))))))))) (fun s => ih7_ (nrm (ann5x FU) (headId (blk (blk (sq2 (sq1 (sq2 (sq2 (sq2 (sq2 (sq2 (sq2 (sq2 (sq2 (sq2 (sq2 (bodyOf Go.Proofs.Tryd.f5)))))))))))))))) s)) (f5_x5) (resK (altAlg cx.pure S5) cx (ann5x FU) Go.Proofs.Tryd.f5)
noncomputable def f5_j8 (ih7_ : St → Res) : St → Res := fun s => f5_k8 ih7_ (nrm (ann5x FU) (headId (sq2 (sq2 (sq2 (blk (blk (sq2 (sq1 (sq2 (sq2 (sq2 (sq2 (sq2 (sq2 (sq2 (sq2 (sq2 (sq2 (bodyOf Go.Proofs.Tryd.f5))))))))))))))))))) s)
noncomputable def f5_p4 (rec3_ : List (List AV) → List (List AV) → Int → Int → List UInt8 → Bool → Res) (x0 : List (List AV)) (x1 : List (List AV)) (x2 : Int) (x3 : Int) (x4 : List UInt8) (x5 : Bool) : Res :=
      rec3_ x0 x1 x2 (IntKind.wrap IntKind.i64 (x3 + 1)) x4 x5
theorem f5_p4_eq (ih3_ : St → Res) (rec3_ : List (List AV) → List (List AV) → Int → Int → List UInt8 → Bool → Res) (h3_ : ∀ (x0 : List (List AV)) (x1 : List (List AV)) (x2 : Int) (x3 : Int) (x4 : List UInt8) (x5 : Bool), ih3_ (mkSt [(1, (EV.v (AV.L 13 x0))), (7, (EV.v (AV.P 0 0))), (47, (EV.v (AV.L 1 x1))), (48, (EV.v (AV.I IntKind.i64 x2))), (49, (EV.v (AV.I IntKind.i64 x3)))] [] [(HO.cells [(HV.a (AV.P 0 0)), (HV.g (SC.y 5 x4)), (HV.a (AV.B x5))])]) = rec3_ x0 x1 x2 x3 x4 x5) (x0 : List (List AV)) (x1 : List (List AV)) (x2 : Int) (x3 : Int) (x4 : List UInt8) (x5 : Bool) : f5_k4 ih3_ (mkSt [(1, (EV.v (AV.L 13 x0))), (7, (EV.v (AV.P 0 0))), (47, (EV.v (AV.L 1 x1))), (48, (EV.v (AV.I IntKind.i64 x2))), (49, (EV.v (AV.I IntKind.i64 x3)))] [] [(HO.cells [(HV.a (AV.P 0 0)), (HV.g (SC.y 5 x4)), (HV.a (AV.B x5))])]) = f5_p4 rec3_ x0 x1 x2 x3 x4 x5 := by
  refine Eq.trans (b :=
      ih3_ (mkSt [(1, (EV.v (AV.L 13 x0))), (7, (EV.v (AV.P 0 0))), (47, (EV.v (AV.L 1 x1))), (48, (EV.v (AV.I IntKind.i64 x2))), (49, (EV.v (AV.I IntKind.i64 (IntKind.wrap IntKind.i64 (x3 + 1)))))] [] [(HO.cells [(HV.a (AV.P 0 0)), (HV.g (SC.y 5 x4)), (HV.a (AV.B x5))])])) (by kernel_rfl) ?_
  simp only [f5_p4, h3_]
noncomputable def f5_p9 (rec7_ : List (List AV) → Int → Int → List UInt8 → Bool → Res) (x0 : List (List AV)) (x1 : Int) (x2 : Int) (x3 : List UInt8) (x4 : Bool) : Res :=
      rec7_ x0 x1 (IntKind.wrap IntKind.i64 (x2 + 1)) x3 x4
theorem f5_p9_eq (ih7_ : St → Res) (rec7_ : List (List AV) → Int → Int → List UInt8 → Bool → Res) (h7_ : ∀ (x0 : List (List AV)) (x1 : Int) (x2 : Int) (x3 : List UInt8) (x4 : Bool), ih7_ (mkSt [(7, (EV.v (AV.P 0 0))), (67, (EV.v (AV.L 13 x0))), (68, (EV.v (AV.I IntKind.i64 x1))), (69, (EV.v (AV.I IntKind.i64 x2)))] [] [(HO.cells [(HV.a (AV.P 0 0)), (HV.g (SC.y 5 x3)), (HV.a (AV.B x4))])]) = rec7_ x0 x1 x2 x3 x4) (x0 : List (List AV)) (x1 : Int) (x2 : Int) (x3 : List UInt8) (x4 : Bool) : f5_k8 ih7_ (mkSt [(7, (EV.v (AV.P 0 0))), (67, (EV.v (AV.L 13 x0))), (68, (EV.v (AV.I IntKind.i64 x1))), (69, (EV.v (AV.I IntKind.i64 x2)))] [] [(HO.cells [(HV.a (AV.P 0 0)), (HV.g (SC.y 5 x3)), (HV.a (AV.B x4))])]) = f5_p9 rec7_ x0 x1 x2 x3 x4 := by
  refine Eq.trans (b :=
      ih7_ (mkSt [(7, (EV.v (AV.P 0 0))), (67, (EV.v (AV.L 13 x0))), (68, (EV.v (AV.I IntKind.i64 x1))), (69, (EV.v (AV.I IntKind.i64 (IntKind.wrap IntKind.i64 (x2 + 1)))))] [] [(HO.cells [(HV.a (AV.P 0 0)), (HV.g (SC.y 5 x3)), (HV.a (AV.B x4))])])) (by kernel_rfl) ?_
  simp only [f5_p9, h7_]
noncomputable def f5_p10 (x0 : List UInt8) (x1 : Bool) : Res :=
      chk (Sp.pre sp16 [AV.P 0 0] [HO.cells [HV.a (AV.P 0 0), HV.g (SC.y 5 x0), HV.a (AV.B x1)]]) (
      Res.ret (AV.T [AV.S x0, AV.I IntKind.i64 0]) ([]))
theorem f5_p10_eq (x0 : List UInt8) (x1 : Bool) : f5_k6 (mkSt [(7, (EV.v (AV.P 0 0)))] [] [(HO.cells [(HV.a (AV.P 0 0)), (HV.g (SC.y 5 x0)), (HV.a (AV.B x1))])]) = f5_p10 x0 x1 := by
  kernel_rfl
noncomputable def f5_L7 : Nat → List (List AV) → Int → Int → List UInt8 → Bool → Res
  | 0, _, _, _, _, _ => Res.stuck
  | n + 1, x0, x1, x2, x3, x4 =>
      bIte (decide (x2 < x1)) (
      ix x2 (List.length x0) fun i7 =>
      mA 13 (AV.A (List.getD x0 i7 [])) fun c8 =>
      chk (Sp.pre sp15 [AV.P 0 0, AV.A [List.getD c8 0 AV.U, List.getD c8 1 AV.U, List.getD c8 2 AV.U, List.getD c8 3 AV.U, List.getD c8 4 AV.U, List.getD c8 5 AV.U, List.getD c8 6 AV.U, List.getD c8 7 AV.U, List.getD c8 8 AV.U, List.getD c8 9 AV.U, List.getD c8 10 AV.U, List.getD c8 11 AV.U, List.getD c8 12 AV.U]] [HO.cells [HV.a (AV.P 0 0), HV.g (SC.y 5 x3), HV.a (AV.B x4)]]) (
      bIte (x4 || badL (evAV (AV.A [List.getD c8 0 AV.U, List.getD c8 1 AV.U, List.getD c8 2 AV.U, List.getD c8 3 AV.U, List.getD c8 4 AV.U, List.getD c8 5 AV.U, List.getD c8 6 AV.U, List.getD c8 7 AV.U, List.getD c8 8 AV.U, List.getD c8 9 AV.U, List.getD c8 10 AV.U, List.getD c8 11 AV.U, List.getD c8 12 AV.U]))) (
      Res.ret (AV.T [AV.S [], AV.I IntKind.i64 150]) ([])) (
      f5_p9 (f5_L7 n) x0 x1 x2 (x3 ++ lineB (evAV (AV.A [List.getD c8 0 AV.U, List.getD c8 1 AV.U, List.getD c8 2 AV.U, List.getD c8 3 AV.U, List.getD c8 4 AV.U, List.getD c8 5 AV.U, List.getD c8 6 AV.U, List.getD c8 7 AV.U, List.getD c8 8 AV.U, List.getD c8 9 AV.U, List.getD c8 10 AV.U, List.getD c8 11 AV.U, List.getD c8 12 AV.U])) ++ [10]) (x4 || badL (evAV (AV.A [List.getD c8 0 AV.U, List.getD c8 1 AV.U, List.getD c8 2 AV.U, List.getD c8 3 AV.U, List.getD c8 4 AV.U, List.getD c8 5 AV.U, List.getD c8 6 AV.U, List.getD c8 7 AV.U, List.getD c8 8 AV.U, List.getD c8 9 AV.U, List.getD c8 10 AV.U, List.getD c8 11 AV.U, List.getD c8 12 AV.U])))))) (
      f5_p10 x3 x4)
theorem f5_L7_eq : ∀ (n : Nat) (x0 : List (List AV)) (x1 : Int) (x2 : Int) (x3 : List UInt8) (x4 : Bool), f5_l7 n (mkSt [(7, (EV.v (AV.P 0 0))), (67, (EV.v (AV.L 13 x0))), (68, (EV.v (AV.I IntKind.i64 x1))), (69, (EV.v (AV.I IntKind.i64 x2)))] [] [(HO.cells [(HV.a (AV.P 0 0)), (HV.g (SC.y 5 x3)), (HV.a (AV.B x4))])]) = f5_L7 n x0 x1 x2 x3 x4 := by
  intro n
  induction n with
  | zero => intros; rfl
  | succ n IH =>
    intro x0 x1 x2 x3 x4
    refine Eq.trans (b :=
      bIte (decide (x2 < x1)) (
      ix x2 (List.length x0) fun i7 =>
      mA 13 (AV.A (List.getD x0 i7 [])) fun c8 =>
      chk (Sp.pre sp15 [AV.P 0 0, AV.A [List.getD c8 0 AV.U, List.getD c8 1 AV.U, List.getD c8 2 AV.U, List.getD c8 3 AV.U, List.getD c8 4 AV.U, List.getD c8 5 AV.U, List.getD c8 6 AV.U, List.getD c8 7 AV.U, List.getD c8 8 AV.U, List.getD c8 9 AV.U, List.getD c8 10 AV.U, List.getD c8 11 AV.U, List.getD c8 12 AV.U]] [HO.cells [HV.a (AV.P 0 0), HV.g (SC.y 5 x3), HV.a (AV.B x4)]]) (
      bIte (x4 || badL (evAV (AV.A [List.getD c8 0 AV.U, List.getD c8 1 AV.U, List.getD c8 2 AV.U, List.getD c8 3 AV.U, List.getD c8 4 AV.U, List.getD c8 5 AV.U, List.getD c8 6 AV.U, List.getD c8 7 AV.U, List.getD c8 8 AV.U, List.getD c8 9 AV.U, List.getD c8 10 AV.U, List.getD c8 11 AV.U, List.getD c8 12 AV.U]))) (
      Res.ret (AV.T [AV.S [], AV.I IntKind.i64 150]) ([])) (
      f5_k8 (f5_l7 n) (mkSt [(7, (EV.v (AV.P 0 0))), (67, (EV.v (AV.L 13 x0))), (68, (EV.v (AV.I IntKind.i64 x1))), (69, (EV.v (AV.I IntKind.i64 x2)))] [] [(HO.cells [(HV.a (AV.P 0 0)), (HV.g (SC.y 5 (x3 ++ lineB (evAV (AV.A [List.getD c8 0 AV.U, List.getD c8 1 AV.U, List.getD c8 2 AV.U, List.getD c8 3 AV.U, List.getD c8 4 AV.U, List.getD c8 5 AV.U, List.getD c8 6 AV.U, List.getD c8 7 AV.U, List.getD c8 8 AV.U, List.getD c8 9 AV.U, List.getD c8 10 AV.U, List.getD c8 11 AV.U, List.getD c8 12 AV.U])) ++ [10]))), (HV.a (AV.B (x4 || badL (evAV (AV.A [List.getD c8 0 AV.U, List.getD c8 1 AV.U, List.getD c8 2 AV.U, List.getD c8 3 AV.U, List.getD c8 4 AV.U, List.getD c8 5 AV.U, List.getD c8 6 AV.U, List.getD c8 7 AV.U, List.getD c8 8 AV.U, List.getD c8 9 AV.U, List.getD c8 10 AV.U, List.getD c8 11 AV.U, List.getD c8 12 AV.U])))))])])))) (
      f5_k6 (mkSt [(7, (EV.v (AV.P 0 0)))] [] [(HO.cells [(HV.a (AV.P 0 0)), (HV.g (SC.y 5 x3)), (HV.a (AV.B x4))])]))) (by kernel_rfl) ?_
    simp only [f5_L7, IH, f5_p10_eq, f5_p9_eq (f5_l7 n) (f5_L7 n) IH]
noncomputable def f5_p6 (x0 : List (List AV)) (x1 : Int) (x2 : Int) (x3 : List UInt8) (x4 : Bool) : Res :=
      f5_L7 (ann5x FU).fuel x0 x1 x2 x3 x4
theorem f5_p6_eq (x0 : List (List AV)) (x1 : Int) (x2 : Int) (x3 : List UInt8) (x4 : Bool) : f5_k5 (mkSt [(7, (EV.v (AV.P 0 0))), (67, (EV.v (AV.L 13 x0))), (68, (EV.v (AV.I IntKind.i64 x1))), (69, (EV.v (AV.I IntKind.i64 x2)))] [] [(HO.cells [(HV.a (AV.P 0 0)), (HV.g (SC.y 5 x3)), (HV.a (AV.B x4))])]) = f5_p6 x0 x1 x2 x3 x4 := by
  refine Eq.trans (b :=
      f5_l7 (ann5x FU).fuel (mkSt [(7, (EV.v (AV.P 0 0))), (67, (EV.v (AV.L 13 x0))), (68, (EV.v (AV.I IntKind.i64 x1))), (69, (EV.v (AV.I IntKind.i64 x2)))] [] [(HO.cells [(HV.a (AV.P 0 0)), (HV.g (SC.y 5 x3)), (HV.a (AV.B x4))])])) (by kernel_rfl) ?_
  simp only [f5_p6, f5_L7_eq]
noncomputable def f5_p5 (x0 : List (List AV)) (x1 : List UInt8) (x2 : Bool) : Res :=
      bIte x2 (
      Res.ret (AV.T [AV.S [], AV.I IntKind.i64 152]) ([])) (
      f5_p6 x0 ((↑(List.length x0) : Int)) (0 : Int) x1 x2)
theorem f5_p5_eq (x0 : List (List AV)) (x1 : List UInt8) (x2 : Bool) : f5_k2 (mkSt [(1, (EV.v (AV.L 13 x0))), (7, (EV.v (AV.P 0 0)))] [] [(HO.cells [(HV.a (AV.P 0 0)), (HV.g (SC.y 5 x1)), (HV.a (AV.B x2))])]) = f5_p5 x0 x1 x2 := by
  refine Eq.trans (b :=
      bIte x2 (
      Res.ret (AV.T [AV.S [], AV.I IntKind.i64 152]) ([])) (
      f5_k5 (mkSt [(7, (EV.v (AV.P 0 0))), (67, (EV.v (AV.L 13 x0))), (68, (EV.v (AV.I IntKind.i64 ((↑(List.length x0) : Int))))), (69, (EV.v (AV.I IntKind.i64 (0 : Int))))] [] [(HO.cells [(HV.a (AV.P 0 0)), (HV.g (SC.y 5 x1)), (HV.a (AV.B x2))])]))) (by kernel_rfl) ?_
  simp only [f5_p5, f5_p6_eq]
noncomputable def f5_L3 : Nat → List (List AV) → List (List AV) → Int → Int → List UInt8 → Bool → Res
  | 0, _, _, _, _, _, _ => Res.stuck
  | n + 1, x0, x1, x2, x3, x4, x5 =>
      bIte (decide (x3 < x2)) (
      ix x3 (List.length x1) fun i2 =>
      mA 1 (AV.A (List.getD x1 i2 [])) fun c3 =>
      m1 (List.getD c3 0 AV.U) (
      chk (Sp.pre sp13 [AV.P 0 0, AV.S [99, 108, 105, 101, 110, 116], AV.L 1 [[List.getD c3 0 AV.U]]] [HO.cells [HV.a (AV.P 0 0), HV.g (SC.y 5 x4), HV.a (AV.B x5)]]) (
      chk (Sp.pre sp14 [AV.P 0 0, AV.S [10]] [HO.cells [HV.a (AV.P 0 0), HV.g (SC.y 5 (x4 ++ [99, 108, 105, 101, 110, 116] ++ sayB [intOf [List.getD c3 0 AV.U]])), HV.a (AV.B (x5 || anyNeg [intOf [List.getD c3 0 AV.U]]))]]) (
      f5_p4 (f5_L3 n) x0 x1 x2 x3 (x4 ++ [99, 108, 105, 101, 110, 116] ++ sayB [intOf [List.getD c3 0 AV.U]] ++ [10]) (x5 || anyNeg [intOf [List.getD c3 0 AV.U]]))))) (
      f5_p5 x0 x4 x5)
theorem f5_L3_eq : ∀ (n : Nat) (x0 : List (List AV)) (x1 : List (List AV)) (x2 : Int) (x3 : Int) (x4 : List UInt8) (x5 : Bool), f5_l3 n (mkSt [(1, (EV.v (AV.L 13 x0))), (7, (EV.v (AV.P 0 0))), (47, (EV.v (AV.L 1 x1))), (48, (EV.v (AV.I IntKind.i64 x2))), (49, (EV.v (AV.I IntKind.i64 x3)))] [] [(HO.cells [(HV.a (AV.P 0 0)), (HV.g (SC.y 5 x4)), (HV.a (AV.B x5))])]) = f5_L3 n x0 x1 x2 x3 x4 x5 := by
  intro n
  induction n with
  | zero => intros; rfl
  | succ n IH =>
    intro x0 x1 x2 x3 x4 x5
    refine Eq.trans (b :=
      bIte (decide (x3 < x2)) (
      ix x3 (List.length x1) fun i2 =>
      mA 1 (AV.A (List.getD x1 i2 [])) fun c3 =>
      m1 (List.getD c3 0 AV.U) (
      chk (Sp.pre sp13 [AV.P 0 0, AV.S [99, 108, 105, 101, 110, 116], AV.L 1 [[List.getD c3 0 AV.U]]] [HO.cells [HV.a (AV.P 0 0), HV.g (SC.y 5 x4), HV.a (AV.B x5)]]) (
      chk (Sp.pre sp14 [AV.P 0 0, AV.S [10]] [HO.cells [HV.a (AV.P 0 0), HV.g (SC.y 5 (x4 ++ [99, 108, 105, 101, 110, 116] ++ sayB [intOf [List.getD c3 0 AV.U]])), HV.a (AV.B (x5 || anyNeg [intOf [List.getD c3 0 AV.U]]))]]) (
      f5_k4 (f5_l3 n) (mkSt [(1, (EV.v (AV.L 13 x0))), (7, (EV.v (AV.P 0 0))), (47, (EV.v (AV.L 1 x1))), (48, (EV.v (AV.I IntKind.i64 x2))), (49, (EV.v (AV.I IntKind.i64 x3)))] [] [(HO.cells [(HV.a (AV.P 0 0)), (HV.g (SC.y 5 (x4 ++ [99, 108, 105, 101, 110, 116] ++ sayB [intOf [List.getD c3 0 AV.U]] ++ [10]))), (HV.a (AV.B (x5 || anyNeg [intOf [List.getD c3 0 AV.U]])))])]))))) (
      f5_k2 (mkSt [(1, (EV.v (AV.L 13 x0))), (7, (EV.v (AV.P 0 0)))] [] [(HO.cells [(HV.a (AV.P 0 0)), (HV.g (SC.y 5 x4)), (HV.a (AV.B x5))])]))) (by kernel_rfl) ?_
    simp only [f5_L3, IH, f5_p5_eq, f5_p4_eq (f5_l3 n) (f5_L3 n) IH]
noncomputable def f5_p1 (x0 : List (List AV)) (x1 : List (List AV)) (x2 : Int) (x3 : Int) (x4 : List UInt8) (x5 : Bool) : Res :=
      f5_L3 (ann5x FU).fuel x0 x1 x2 x3 x4 x5
theorem f5_p1_eq (x0 : List (List AV)) (x1 : List (List AV)) (x2 : Int) (x3 : Int) (x4 : List UInt8) (x5 : Bool) : f5_k1 (mkSt [(1, (EV.v (AV.L 13 x0))), (7, (EV.v (AV.P 0 0))), (47, (EV.v (AV.L 1 x1))), (48, (EV.v (AV.I IntKind.i64 x2))), (49, (EV.v (AV.I IntKind.i64 x3)))] [] [(HO.cells [(HV.a (AV.P 0 0)), (HV.g (SC.y 5 x4)), (HV.a (AV.B x5))])]) = f5_p1 x0 x1 x2 x3 x4 x5 := by
  refine Eq.trans (b :=
      f5_l3 (ann5x FU).fuel (mkSt [(1, (EV.v (AV.L 13 x0))), (7, (EV.v (AV.P 0 0))), (47, (EV.v (AV.L 1 x1))), (48, (EV.v (AV.I IntKind.i64 x2))), (49, (EV.v (AV.I IntKind.i64 x3)))] [] [(HO.cells [(HV.a (AV.P 0 0)), (HV.g (SC.y 5 x4)), (HV.a (AV.B x5))])])) (by kernel_rfl) ?_
  simp only [f5_p1, f5_L3_eq]
noncomputable def f5_p0 (x0 : List (List AV)) (x1 : Int) (x2 : Int) (x3 : Int) (x4 : Bool) (x5 : List (List AV)) (x6 : List UInt8) (x7 : Bool) : Res :=
      chk (Sp.pre sp14 [AV.P 0 0, AV.S [10]] [HO.cells [HV.a (AV.P 0 0), HV.g (SC.y 5 x6), HV.a (AV.B x7)]]) (
      bIte (decide ((↑(List.length x5) : Int) > 16)) (
      Res.ret (AV.T [AV.S [], AV.I IntKind.i64 152]) ([])) (
      f5_p1 x0 x5 ((↑(List.length x5) : Int)) (0 : Int) (x6 ++ [10]) x7))
theorem f5_p0_eq (x0 : List (List AV)) (x1 : Int) (x2 : Int) (x3 : Int) (x4 : Bool) (x5 : List (List AV)) (x6 : List UInt8) (x7 : Bool) : f5_k0 (mkSt [(1, (EV.v (AV.L 13 x0))), (2, (EV.lp 2 0 0)), (7, (EV.v (AV.P 0 0)))] [(2, LOv.mk 0 (LO.box 0 [(HV.a (AV.I IntKind.i64 x1)), (HV.a (AV.I IntKind.i64 x2)), (HV.a (AV.I IntKind.i64 x3)), (HV.a (AV.B x4)), (HV.a (AV.L 1 x5))]))] [(HO.cells [(HV.a (AV.P 0 0)), (HV.g (SC.y 5 x6)), (HV.a (AV.B x7))])]) = f5_p0 x0 x1 x2 x3 x4 x5 x6 x7 := by
  refine Eq.trans (b :=
      chk (Sp.pre sp14 [AV.P 0 0, AV.S [10]] [HO.cells [HV.a (AV.P 0 0), HV.g (SC.y 5 x6), HV.a (AV.B x7)]]) (
      bIte (decide ((↑(List.length x5) : Int) > 16)) (
      Res.ret (AV.T [AV.S [], AV.I IntKind.i64 152]) ([])) (
      f5_k1 (mkSt [(1, (EV.v (AV.L 13 x0))), (7, (EV.v (AV.P 0 0))), (47, (EV.v (AV.L 1 x5))), (48, (EV.v (AV.I IntKind.i64 ((↑(List.length x5) : Int))))), (49, (EV.v (AV.I IntKind.i64 (0 : Int))))] [] [(HO.cells [(HV.a (AV.P 0 0)), (HV.g (SC.y 5 (x6 ++ [10]))), (HV.a (AV.B x7))])])))) (by kernel_rfl) ?_
  simp only [f5_p0, f5_p1_eq]
noncomputable def f5_e (x0 : Int) (x1 : Int) (x2 : Int) (x3 : Bool) (x4 : List (List AV)) (x5 : List (List AV)) : Res :=
      bIte (cfgErr x0 x1 x2 != 0) (
      Res.ret (AV.T [AV.S [], AV.I IntKind.i64 (cfgErr x0 x1 x2)]) ([])) (
      chk (Sp.pre sp13 [AV.P 0 0, AV.S [103, 114, 111, 117, 112], AV.L 1 [[AV.I IntKind.i64 x0], [AV.I IntKind.i64 x1], [AV.I IntKind.i64 x2]]] [HO.cells [HV.z 63, HV.g (SC.y 5 []), HV.a (AV.B false)]]) (
      bIte x3 (
      chk (Sp.pre sp14 [AV.P 0 0, AV.S [32, 117, 110, 103, 117, 97, 114, 100, 101, 100]] [HO.cells [HV.a (AV.P 0 0), HV.g (SC.y 5 ([103, 114, 111, 117, 112] ++ sayB [x0, x1, x2])), HV.a (AV.B (false || anyNeg [x0, x1, x2]))]]) (
      f5_p0 x5 x0 x1 x2 x3 x4 ([103, 114, 111, 117, 112] ++ sayB [x0, x1, x2] ++ [32, 117, 110, 103, 117, 97, 114, 100, 101, 100]) (false || anyNeg [x0, x1, x2]))) (
      f5_p0 x5 x0 x1 x2 x3 x4 ([103, 114, 111, 117, 112] ++ sayB [x0, x1, x2]) (false || anyNeg [x0, x1, x2]))))
theorem f5_eq (x0 : Int) (x1 : Int) (x2 : Int) (x3 : Bool) (x4 : List (List AV)) (x5 : List (List AV)) : f5_sem [(AV.A [(AV.I IntKind.i64 x0), (AV.I IntKind.i64 x1), (AV.I IntKind.i64 x2), (AV.B x3), (AV.L 1 x4)]), (AV.L 13 x5)] [] = f5_e x0 x1 x2 x3 x4 x5 := by
  refine Eq.trans (b :=
      bIte (cfgErr x0 x1 x2 != 0) (
      Res.ret (AV.T [AV.S [], AV.I IntKind.i64 (cfgErr x0 x1 x2)]) ([])) (
      chk (Sp.pre sp13 [AV.P 0 0, AV.S [103, 114, 111, 117, 112], AV.L 1 [[AV.I IntKind.i64 x0], [AV.I IntKind.i64 x1], [AV.I IntKind.i64 x2]]] [HO.cells [HV.z 63, HV.g (SC.y 5 []), HV.a (AV.B false)]]) (
      bIte x3 (
      chk (Sp.pre sp14 [AV.P 0 0, AV.S [32, 117, 110, 103, 117, 97, 114, 100, 101, 100]] [HO.cells [HV.a (AV.P 0 0), HV.g (SC.y 5 ([103, 114, 111, 117, 112] ++ sayB [x0, x1, x2])), HV.a (AV.B (false || anyNeg [x0, x1, x2]))]]) (
      f5_k0 (mkSt [(1, (EV.v (AV.L 13 x5))), (2, (EV.lp 2 0 0)), (7, (EV.v (AV.P 0 0)))] [(2, LOv.mk 0 (LO.box 0 [(HV.a (AV.I IntKind.i64 x0)), (HV.a (AV.I IntKind.i64 x1)), (HV.a (AV.I IntKind.i64 x2)), (HV.a (AV.B x3)), (HV.a (AV.L 1 x4))]))] [(HO.cells [(HV.a (AV.P 0 0)), (HV.g (SC.y 5 ([103, 114, 111, 117, 112] ++ sayB [x0, x1, x2] ++ [32, 117, 110, 103, 117, 97, 114, 100, 101, 100]))), (HV.a (AV.B (false || anyNeg [x0, x1, x2])))])]))) (
      f5_k0 (mkSt [(1, (EV.v (AV.L 13 x5))), (2, (EV.lp 2 0 0)), (7, (EV.v (AV.P 0 0)))] [(2, LOv.mk 0 (LO.box 0 [(HV.a (AV.I IntKind.i64 x0)), (HV.a (AV.I IntKind.i64 x1)), (HV.a (AV.I IntKind.i64 x2)), (HV.a (AV.B x3)), (HV.a (AV.L 1 x4))]))] [(HO.cells [(HV.a (AV.P 0 0)), (HV.g (SC.y 5 ([103, 114, 111, 117, 112] ++ sayB [x0, x1, x2]))), (HV.a (AV.B (false || anyNeg [x0, x1, x2])))])]))))) (by kernel_rfl) ?_
  simp only [f5_e, f5_p0_eq]
end Go.Vm
