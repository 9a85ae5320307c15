/- Part of a proof: ZzU13. -/
import Derived.Test.YteaplibpphjokaaDoorZzSp1
import Derived.Test.YteaplibpphjokaaDoorVE
set_option linter.unusedSimpArgs false
set_option linter.unusedVariables false
set_option linter.unusedSectionVars false
namespace Go.Vm
open Go (IntKind Fn)
set_option maxHeartbeats 0
noncomputable def S13 : Nat → Sp := fun g => bif Nat.beq g 26 then sp26 else bif Nat.beq g 14 then sp14 else spN
noncomputable def f13_sem : List AV → List HO → Res := semU cx (ann13x FU) Go.Proofs.Tryd.f13 S13
noncomputable def f13_k0 : St → Res := aC cx (ann13x FU) (altAlg cx.pure S13) (altAlg cx.pure S13) (sq2 (sq2 (bodyOf Go.Proofs.Tryd.f13))) (resK (altAlg cx.pure S13) cx (ann13x FU) Go.Proofs.Tryd.f13) (fun _ _ => Res.stuck) (resK (altAlg cx.pure S13) cx (ann13x FU) Go.Proofs.Tryd.f13)
noncomputable def f13_j0 : St → Res := fun s => f13_k0 (nrm (ann13x FU) (headId (sq2 (sq2 (bodyOf Go.Proofs.Tryd.f13)))) s)
noncomputable def f13_x0 : Nat → St → Res := fun i s => if i = 0 then (resK (altAlg cx.pure S13) cx (ann13x FU) Go.Proofs.Tryd.f13) s else (fun _ _ => Res.stuck) i s
noncomputable def f13_l1 : Nat → St → Res := loopR (altAlg cx.pure S13) (fun ih1_ s => aC cx (ann13x FU) (altAlg cx.pure S13) (altAlg cx.pure S13) (blk (blk (sq2 (sq2 (bodyOf Go.Proofs.Tryd.f13))))) (fun s' => ih1_ (nrm (ann13x FU) (headId (blk (blk (sq2 (sq2 (bodyOf Go.Proofs.Tryd.f13)))))) s')) (f13_x0) (resK (altAlg cx.pure S13) cx (ann13x FU) Go.Proofs.Tryd.f13) s)
noncomputable def f13_k3 (ih1_ : St → Res) : St → Res := aC cx (ann13x FU) (altAlg cx.pure S13) (altAlg cx.pure S13) (sq2 (sq2 (sq2 (blk (blk (sq2 (sq2 (bodyOf Go.Proofs.Tryd.f13)))))))) (fun s => ih1_ (nrm (ann13x FU) (headId (blk (blk (sq2 (sq2 (bodyOf Go.Proofs.Tryd.f13)))))) s)) (f13_x0) (resK (altAlg cx.pure S13) cx (ann13x FU) Go.Proofs.Tryd.f13)
noncomputable def f13_j3 (ih1_ : St → Res) : St → Res := fun s => f13_k3 ih1_ (nrm (ann13x FU) (headId (sq2 (sq2 (sq2 (blk (blk (sq2 (sq2 (bodyOf Go.Proofs.Tryd.f13))))))))) s)
noncomputable def f13_x4 (ih1_ : St → Res) : Nat → St → Res := fun i s => if i = 1 then (f13_j3 ih1_) s else (f13_x0) i s
noncomputable def f13_k2 (ih1_ : St → Res) : St → Res := aC cx (ann13x FU) (altAlg cx.pure S13) (altAlg cx.pure S13) (sq2 (sq2 (blk (sq1 (sq2 (sq2 (blk (blk (sq2 (sq2 (bodyOf Go.Proofs.Tryd.f13))))))))))) (f13_j3 ih1_) (f13_x4 ih1_) (resK (altAlg cx.pure S13) cx (ann13x FU) Go.Proofs.Tryd.f13)
noncomputable def f13_j2 (ih1_ : St → Res) : St → Res := fun s => f13_k2 ih1_ (nrm (ann13x FU) (headId (sq2 (sq2 (blk (sq1 (sq2 (sq2 (blk (blk (sq2 (sq2 (bodyOf Go.Proofs.Tryd.f13)))))))))))) s)
noncomputable def f13_p5 (rec1_ : List (List AV) → Int → Int → List UInt8 → Bool → Res) (x0 : List (List AV)) (x1 : Int) (x2 : Int) (x3 : List UInt8) (x4 : Bool) : Res :=
      rec1_ x0 x1 (IntKind.wrap IntKind.i64 (x2 + 1)) x3 x4
theorem f13_p5_eq (ih1_ : St → Res) (rec1_ : List (List AV) → Int → Int → List UInt8 → Bool → Res) (h1_ : ∀ (x0 : List (List AV)) (x1 : Int) (x2 : Int) (x3 : List UInt8) (x4 : Bool), ih1_ (mkSt [(0, (EV.v (AV.P 0 0))), (13, (EV.v (AV.L 1 x0))), (14, (EV.v (AV.I IntKind.i64 x1))), (15, (EV.v (AV.I IntKind.i64 x2)))] [] [(HO.cells [(HV.a (AV.P 0 0)), (HV.g (SC.y 5 x3)), (HV.a (AV.B x4))])]) = rec1_ x0 x1 x2 x3 x4) (x0 : List (List AV)) (x1 : Int) (x2 : Int) (x3 : List UInt8) (x4 : Bool) : f13_k3 ih1_ (mkSt [(0, (EV.v (AV.P 0 0))), (13, (EV.v (AV.L 1 x0))), (14, (EV.v (AV.I IntKind.i64 x1))), (15, (EV.v (AV.I IntKind.i64 x2)))] [] [(HO.cells [(HV.a (AV.P 0 0)), (HV.g (SC.y 5 x3)), (HV.a (AV.B x4))])]) = f13_p5 rec1_ x0 x1 x2 x3 x4 := by
  refine Eq.trans (b :=
      ih1_ (mkSt [(0, (EV.v (AV.P 0 0))), (13, (EV.v (AV.L 1 x0))), (14, (EV.v (AV.I IntKind.i64 x1))), (15, (EV.v (AV.I IntKind.i64 (IntKind.wrap IntKind.i64 (x2 + 1)))))] [] [(HO.cells [(HV.a (AV.P 0 0)), (HV.g (SC.y 5 x3)), (HV.a (AV.B x4))])])) (by kernel_rfl) ?_
  simp only [f13_p5, h1_]
noncomputable def f13_p2 (rec1_ : List (List AV) → Int → Int → List UInt8 → Bool → Res) (x0 : AV) (x1 : List (List AV)) (x2 : Int) (x3 : Int) (x4 : List UInt8) (x5 : Bool) : Res :=
      chk (noPs [x0]) (
      chk (Sp.pre sp26 [x0] []) (
      chk (noP (Sp.val sp26 [x0] [])) (
      mS (Sp.val sp26 [x0] []) fun s4 =>
      chk (decide (1 + List.length s4 ≤ 140737488355328)) (
      chk (Sp.pre sp14 [AV.P 0 0, AV.S ([32] ++ s4)] [HO.cells [HV.a (AV.P 0 0), HV.g (SC.y 5 x4), HV.a (AV.B x5)]]) (
      f13_p5 rec1_ x1 x2 x3 (x4 ++ ([32] ++ s4)) x5)))))
theorem f13_p2_eq (ih1_ : St → Res) (rec1_ : List (List AV) → Int → Int → List UInt8 → Bool → Res) (h1_ : ∀ (x0 : List (List AV)) (x1 : Int) (x2 : Int) (x3 : List UInt8) (x4 : Bool), ih1_ (mkSt [(0, (EV.v (AV.P 0 0))), (13, (EV.v (AV.L 1 x0))), (14, (EV.v (AV.I IntKind.i64 x1))), (15, (EV.v (AV.I IntKind.i64 x2)))] [] [(HO.cells [(HV.a (AV.P 0 0)), (HV.g (SC.y 5 x3)), (HV.a (AV.B x4))])]) = rec1_ x0 x1 x2 x3 x4) (x0 : AV) (x1 : List (List AV)) (x2 : Int) (x3 : Int) (x4 : List UInt8) (x5 : Bool) : f13_k2 ih1_ (mkSt [(0, (EV.v (AV.P 0 0))), (7, (EV.v x0)), (13, (EV.v (AV.L 1 x1))), (14, (EV.v (AV.I IntKind.i64 x2))), (15, (EV.v (AV.I IntKind.i64 x3)))] [] [(HO.cells [(HV.a (AV.P 0 0)), (HV.g (SC.y 5 x4)), (HV.a (AV.B x5))])]) = f13_p2 rec1_ x0 x1 x2 x3 x4 x5 := by
  refine Eq.trans (b :=
      chk (noPs [x0]) (
      chk (Sp.pre sp26 [x0] []) (
      chk (noP (Sp.val sp26 [x0] [])) (
      mS (Sp.val sp26 [x0] []) fun s4 =>
      chk (decide (1 + List.length s4 ≤ 140737488355328)) (
      chk (Sp.pre sp14 [AV.P 0 0, AV.S ([32] ++ s4)] [HO.cells [HV.a (AV.P 0 0), HV.g (SC.y 5 x4), HV.a (AV.B x5)]]) (
      f13_k3 ih1_ (mkSt [(0, (EV.v (AV.P 0 0))), (13, (EV.v (AV.L 1 x1))), (14, (EV.v (AV.I IntKind.i64 x2))), (15, (EV.v (AV.I IntKind.i64 x3)))] [] [(HO.cells [(HV.a (AV.P 0 0)), (HV.g (SC.y 5 (x4 ++ ([32] ++ s4)))), (HV.a (AV.B x5))])]))))))) (by kernel_rfl) ?_
  simp only [f13_p2, h1_, f13_p5_eq ih1_ rec1_ h1_]
noncomputable def f13_L1 : Nat → List (List AV) → Int → Int → List UInt8 → Bool → Res
  | 0, _, _, _, _, _ => Res.stuck
  | n + 1, x0, x1, x2, x3, x4 =>
      bIte (decide (x2 < x1)) (
      ix x2 (List.length x0) fun i1 =>
      bIte x4 (
      f13_p2 (f13_L1 n) (List.getD (List.getD x0 i1 []) 0 AV.U) x0 x1 x2 x3 true) (
      mI IntKind.i64 (List.getD (List.getD x0 i1 []) 0 AV.U) fun n3 =>
      f13_p2 (f13_L1 n) (List.getD (List.getD x0 i1 []) 0 AV.U) x0 x1 x2 x3 (decide (n3 < 0)))) (
      Res.ret (AV.T []) ([HO.cells [HV.a (AV.P 0 0), HV.g (SC.y 5 x3), HV.a (AV.B x4)]]))
theorem f13_L1_eq : ∀ (n : Nat) (x0 : List (List AV)) (x1 : Int) (x2 : Int) (x3 : List UInt8) (x4 : Bool), f13_l1 n (mkSt [(0, (EV.v (AV.P 0 0))), (13, (EV.v (AV.L 1 x0))), (14, (EV.v (AV.I IntKind.i64 x1))), (15, (EV.v (AV.I IntKind.i64 x2)))] [] [(HO.cells [(HV.a (AV.P 0 0)), (HV.g (SC.y 5 x3)), (HV.a (AV.B x4))])]) = f13_L1 n x0 x1 x2 x3 x4 := by
  intro n
  induction n with
  | zero => intros; rfl
  | succ n IH =>
    intro x0 x1 x2 x3 x4
    refine Eq.trans (b :=
      bIte (decide (x2 < x1)) (
      ix x2 (List.length x0) fun i1 =>
      bIte x4 (
      f13_k2 (f13_l1 n) (mkSt [(0, (EV.v (AV.P 0 0))), (7, (EV.v (List.getD (List.getD x0 i1 []) 0 AV.U))), (13, (EV.v (AV.L 1 x0))), (14, (EV.v (AV.I IntKind.i64 x1))), (15, (EV.v (AV.I IntKind.i64 x2)))] [] [(HO.cells [(HV.a (AV.P 0 0)), (HV.g (SC.y 5 x3)), (HV.a (AV.B true))])])) (
      mI IntKind.i64 (List.getD (List.getD x0 i1 []) 0 AV.U) fun n3 =>
      f13_k2 (f13_l1 n) (mkSt [(0, (EV.v (AV.P 0 0))), (7, (EV.v (List.getD (List.getD x0 i1 []) 0 AV.U))), (13, (EV.v (AV.L 1 x0))), (14, (EV.v (AV.I IntKind.i64 x1))), (15, (EV.v (AV.I IntKind.i64 x2)))] [] [(HO.cells [(HV.a (AV.P 0 0)), (HV.g (SC.y 5 x3)), (HV.a (AV.B (decide (n3 < 0))))])]))) (
      Res.ret (AV.T []) ([HO.cells [HV.a (AV.P 0 0), HV.g (SC.y 5 x3), HV.a (AV.B x4)]]))) (by kernel_rfl) ?_
    simp only [f13_L1, IH, f13_p2_eq (f13_l1 n) (f13_L1 n) IH]
noncomputable def f13_p0 (x0 : List (List AV)) (x1 : Int) (x2 : Int) (x3 : List UInt8) (x4 : Bool) : Res :=
      f13_L1 (ann13x FU).fuel x0 x1 x2 x3 x4
theorem f13_p0_eq (x0 : List (List AV)) (x1 : Int) (x2 : Int) (x3 : List UInt8) (x4 : Bool) : f13_k0 (mkSt [(0, (EV.v (AV.P 0 0))), (13, (EV.v (AV.L 1 x0))), (14, (EV.v (AV.I IntKind.i64 x1))), (15, (EV.v (AV.I IntKind.i64 x2)))] [] [(HO.cells [(HV.a (AV.P 0 0)), (HV.g (SC.y 5 x3)), (HV.a (AV.B x4))])]) = f13_p0 x0 x1 x2 x3 x4 := by
  refine Eq.trans (b :=
      f13_l1 (ann13x FU).fuel (mkSt [(0, (EV.v (AV.P 0 0))), (13, (EV.v (AV.L 1 x0))), (14, (EV.v (AV.I IntKind.i64 x1))), (15, (EV.v (AV.I IntKind.i64 x2)))] [] [(HO.cells [(HV.a (AV.P 0 0)), (HV.g (SC.y 5 x3)), (HV.a (AV.B x4))])])) (by kernel_rfl) ?_
  simp only [f13_p0, f13_L1_eq]
noncomputable def f13_e (x0 : List UInt8) (x1 : List (List AV)) (x2 : HV) (x3 : List UInt8) (x4 : Bool) : Res :=
      chk (Sp.pre sp14 [AV.P 0 0, AV.S x0] [HO.cells [x2, HV.g (SC.y 5 x3), HV.a (AV.B x4)]]) (
      f13_p0 x1 ((↑(List.length x1) : Int)) (0 : Int) (x3 ++ x0) x4)
theorem f13_eq (x0 : List UInt8) (x1 : List (List AV)) (x2 : HV) (x3 : List UInt8) (x4 : Bool) : f13_sem [(AV.P 0 0), (AV.S x0), (AV.L 1 x1)] [(HO.cells [x2, (HV.g (SC.y 5 x3)), (HV.a (AV.B x4))])] = f13_e x0 x1 x2 x3 x4 := by
  refine Eq.trans (b :=
      chk (Sp.pre sp14 [AV.P 0 0, AV.S x0] [HO.cells [x2, HV.g (SC.y 5 x3), HV.a (AV.B x4)]]) (
      f13_k0 (mkSt [(0, (EV.v (AV.P 0 0))), (13, (EV.v (AV.L 1 x1))), (14, (EV.v (AV.I IntKind.i64 ((↑(List.length x1) : Int))))), (15, (EV.v (AV.I IntKind.i64 (0 : Int))))] [] [(HO.cells [(HV.a (AV.P 0 0)), (HV.g (SC.y 5 (x3 ++ x0))), (HV.a (AV.B x4))])]))) (by kernel_rfl) ?_
  simp only [f13_e, f13_p0_eq]
end Go.Vm
