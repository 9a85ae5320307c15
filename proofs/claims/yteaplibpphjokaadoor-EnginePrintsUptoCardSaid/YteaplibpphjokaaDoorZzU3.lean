/- Part of a proof: ZzU3. -/
import Derived.Test.YteaplibpphjokaaDoorZzSp4
import Derived.Test.YteaplibpphjokaaDoorVE
set_option linter.unusedSimpArgs false
set_option linter.unusedVariables false
set_option linter.unusedSectionVars false
namespace Go.Vm
open Go (IntKind Fn)
set_option maxHeartbeats 0
noncomputable def S3 : Nat → Sp := fun g => bif Nat.beq g 10 then sp10 else bif Nat.beq g 9 then sp9 else bif Nat.beq g 8 then sp8 else bif Nat.beq g 7 then sp7 else bif Nat.beq g 5 then sp5 else bif Nat.beq g 6 then sp6 else bif Nat.beq g 4 then sp4 else spN
noncomputable def f3_sem : List AV → List HO → Res := semU cx (ann3x FU) Go.Proofs.Tryd.f3 S3
noncomputable def f3_k2 : St → Res := aC cx (ann3x FU) (altAlg cx.pure S3) (altAlg cx.pure S3) (sq2 (sq2 (sq2 (sq2 (bodyOf Go.Proofs.Tryd.f3))))) (resK (altAlg cx.pure S3) cx (ann3x FU) Go.Proofs.Tryd.f3) (fun _ _ => Res.stuck) (resK (altAlg cx.pure S3) cx (ann3x FU) Go.Proofs.Tryd.f3)
noncomputable def f3_j2 : St → Res := fun s => f3_k2 (nrm (ann3x FU) (headId (sq2 (sq2 (sq2 (sq2 (bodyOf Go.Proofs.Tryd.f3)))))) s)
noncomputable def f3_x1 : Nat → St → Res := fun i s => if i = 0 then (f3_j2) s else (fun _ _ => Res.stuck) i s
noncomputable def f3_l0 : Nat → St → Res := loopR (altAlg cx.pure S3) (fun ih0_ s => aC cx (ann3x FU) (altAlg cx.pure S3) (altAlg cx.pure S3) (blk (blk (sq2 (sq1 (sq2 (sq2 (sq2 (bodyOf Go.Proofs.Tryd.f3)))))))) (fun s' => ih0_ (nrm (ann3x FU) (headId (blk (blk (sq2 (sq1 (sq2 (sq2 (sq2 (bodyOf Go.Proofs.Tryd.f3))))))))) s')) (f3_x1) (resK (altAlg cx.pure S3) cx (ann3x FU) Go.Proofs.Tryd.f3) s)
noncomputable def f3_L0 : Nat → List (List AV) → Int → Int → Int → Int → Bool → List (List AV) → List (List AV) → List (List AV) → List (List AV) → List (List AV) → List (List AV) → List (List AV) → List (List AV) → List (List AV) → List (List AV) → List (List AV) → List (List AV) → Res
  | 0, _, _, _, _, _, _, _, _, _, _, _, _, _, _, _, _, _, _ => Res.stuck
  | n + 1, x0, x1, x2, x3, x4, x5, x6, x7, x8, x9, x10, x11, x12, x13, x14, x15, x16, x17 =>
      bIte (decide (x1 < (↑(List.length x0) : Int))) (
      ix x1 (List.length x0) fun i0 =>
      chk (Sp.pre sp4 [AV.P 0 0, AV.A (List.getD x0 i0 [])] [HO.cells [HV.g (SC.e 41 1 x8), HV.g (SC.e 41 1 x9), HV.g (SC.e 82 1 x10), HV.g (SC.e 82 1 x11), HV.g (SC.e 80 1 x12), HV.g (SC.e 80 1 x13), HV.g (SC.e 90 1 x14), HV.g (SC.e 90 1 x15), HV.g (SC.e 88 12 x16), HV.g (SC.e 88 12 x17)]]) (
      chk (decide (List.length x7 + 1 ≤ 140737488355328 ∧ (List.length x7 + 1) * 128 ≤ 140737488355328)) (
      (f3_L0 n) x0 (IntKind.wrap IntKind.i64 (x1 + 1)) x2 x3 x4 x5 x6 (x7 ++ [[AV.I IntKind.i64 (Ev.k (evAV (AV.A (List.getD x0 i0 [])))), AV.I IntKind.i64 (Ev.nd (evAV (AV.A (List.getD x0 i0 [])))), AV.I IntKind.i64 (Ev.cl (evAV (AV.A (List.getD x0 i0 [])))), AV.I IntKind.i64 (Ev.ix (evAV (AV.A (List.getD x0 i0 [])))), AV.I IntKind.i64 (Ev.at_ (evAV (AV.A (List.getD x0 i0 [])))), AV.I IntKind.i64 (Ev.ct (evAV (AV.A (List.getD x0 i0 [])))), AV.I IntKind.i64 (Ev.cu (evAV (AV.A (List.getD x0 i0 [])))), AV.I IntKind.u64 (Ev.hi (evAV (AV.A (List.getD x0 i0 [])))), AV.I IntKind.u64 (Ev.lo (evAV (AV.A (List.getD x0 i0 [])))), AV.I IntKind.i64 (Ev.ok (evAV (AV.A (List.getD x0 i0 [])))), AV.I IntKind.i64 (Ev.os (evAV (AV.A (List.getD x0 i0 [])))), AV.S (Ev.ov (evAV (AV.A (List.getD x0 i0 [])))), AV.Y (Ev.bs (evAV (AV.A (List.getD x0 i0 []))))]]) (x8 ++ [[AV.Y (Ev.bs (evAV (AV.A (List.getD x0 i0 []))) ++ [90])]]) (x9 ++ [[AV.Y (Ev.bs (evAV (AV.A (List.getD x0 i0 []))) ++ [90])]]) x10 x11 x12 x13 x14 x15 x16 x17))) (
      chk (noPs [AV.A [AV.I IntKind.i64 x2, AV.I IntKind.i64 x3, AV.I IntKind.i64 x4, AV.B x5, AV.L 1 x6]]) (
      chk (Sp.pre sp6 [AV.A [AV.I IntKind.i64 x2, AV.I IntKind.i64 x3, AV.I IntKind.i64 x4, AV.B x5, AV.L 1 x6]] []) (
      chk (noP (AV.A [AV.I IntKind.i64 x2, AV.I IntKind.i64 x3, AV.I IntKind.i64 x4, AV.B x5, AV.L 1 x6])) (
      chk (noPs [AV.A [AV.I IntKind.i64 x2, AV.I IntKind.i64 x3, AV.I IntKind.i64 x4, AV.B x5, AV.L 1 x6], AV.L 13 x7]) (
      chk (Sp.pre sp5 [AV.A [AV.I IntKind.i64 x2, AV.I IntKind.i64 x3, AV.I IntKind.i64 x4, AV.B x5, AV.L 1 x6], AV.L 13 x7] []) (
      chk (noPs [AV.A [AV.I IntKind.i64 x2, AV.I IntKind.i64 x3, AV.I IntKind.i64 x4, AV.B x5, AV.L 1 x6], AV.L 13 x0]) (
      chk (Sp.pre sp7 [AV.A [AV.I IntKind.i64 x2, AV.I IntKind.i64 x3, AV.I IntKind.i64 x4, AV.B x5, AV.L 1 x6], AV.L 13 x0] []) (
      bIte (prE x2 x3 x4 (List.map intOf x6) (evsOf x7) == prE x2 x3 x4 (List.map intOf x6) (evsOf x0)) (
      bIte (prT x2 x3 x4 x5 (List.map intOf x6) (evsOf x7) == prT x2 x3 x4 x5 (List.map intOf x6) (evsOf x0)) (
      chk (noPs [AV.L 13 x7, AV.L 13 x0]) (
      chk (Sp.pre sp9 [AV.L 13 x7, AV.L 13 x0] []) (
      chk (Sp.pre sp10 [AV.P 0 0] [HO.cells [HV.g (SC.e 41 1 x8), HV.g (SC.e 41 1 x9), HV.g (SC.e 82 1 x10), HV.g (SC.e 82 1 x11), HV.g (SC.e 80 1 x12), HV.g (SC.e 80 1 x13), HV.g (SC.e 90 1 x14), HV.g (SC.e 90 1 x15), HV.g (SC.e 88 12 x16), HV.g (SC.e 88 12 x17)]]) (
      Res.ret (AV.B true) ([]))))) (
      Res.ret (AV.B false) ([]))) (
      Res.ret (AV.B false) ([]))))))))))
theorem f3_L0_eq : ∀ (n : Nat) (x0 : List (List AV)) (x1 : Int) (x2 : Int) (x3 : Int) (x4 : Int) (x5 : Bool) (x6 : List (List AV)) (x7 : List (List AV)) (x8 : List (List AV)) (x9 : List (List AV)) (x10 : List (List AV)) (x11 : List (List AV)) (x12 : List (List AV)) (x13 : List (List AV)) (x14 : List (List AV)) (x15 : List (List AV)) (x16 : List (List AV)) (x17 : List (List AV)), f3_l0 n (mkSt [(1, (EV.v (AV.L 13 x0))), (2, (EV.lp 2 0 0)), (5, (EV.v (AV.P 0 0))), (6, (EV.ls 6 0)), (7, (EV.v (AV.I IntKind.i64 x1)))] [(2, LOv.mk 0 (LO.box 0 [(HV.a (AV.I IntKind.i64 x2)), (HV.a (AV.I IntKind.i64 x3)), (HV.a (AV.I IntKind.i64 x4)), (HV.a (AV.B x5)), (HV.a (AV.L 1 x6))])), (6, LOv.mk 0 (LO.arr (SC.e 43 13 x7) false))] [(HO.cells [(HV.g (SC.e 41 1 x8)), (HV.g (SC.e 41 1 x9)), (HV.g (SC.e 82 1 x10)), (HV.g (SC.e 82 1 x11)), (HV.g (SC.e 80 1 x12)), (HV.g (SC.e 80 1 x13)), (HV.g (SC.e 90 1 x14)), (HV.g (SC.e 90 1 x15)), (HV.g (SC.e 88 12 x16)), (HV.g (SC.e 88 12 x17))])]) = f3_L0 n x0 x1 x2 x3 x4 x5 x6 x7 x8 x9 x10 x11 x12 x13 x14 x15 x16 x17 := by
  intro n
  induction n with
  | zero => intros; rfl
  | succ n IH =>
    intro x0 x1 x2 x3 x4 x5 x6 x7 x8 x9 x10 x11 x12 x13 x14 x15 x16 x17
    refine Eq.trans (b :=
      bIte (decide (x1 < (↑(List.length x0) : Int))) (
      ix x1 (List.length x0) fun i0 =>
      chk (Sp.pre sp4 [AV.P 0 0, AV.A (List.getD x0 i0 [])] [HO.cells [HV.g (SC.e 41 1 x8), HV.g (SC.e 41 1 x9), HV.g (SC.e 82 1 x10), HV.g (SC.e 82 1 x11), HV.g (SC.e 80 1 x12), HV.g (SC.e 80 1 x13), HV.g (SC.e 90 1 x14), HV.g (SC.e 90 1 x15), HV.g (SC.e 88 12 x16), HV.g (SC.e 88 12 x17)]]) (
      chk (decide (List.length x7 + 1 ≤ 140737488355328 ∧ (List.length x7 + 1) * 128 ≤ 140737488355328)) (
      (f3_l0 n) (mkSt [(1, (EV.v (AV.L 13 x0))), (2, (EV.lp 2 0 0)), (5, (EV.v (AV.P 0 0))), (6, (EV.ls 6 0)), (7, (EV.v (AV.I IntKind.i64 (IntKind.wrap IntKind.i64 (x1 + 1)))))] [(2, LOv.mk 0 (LO.box 0 [(HV.a (AV.I IntKind.i64 x2)), (HV.a (AV.I IntKind.i64 x3)), (HV.a (AV.I IntKind.i64 x4)), (HV.a (AV.B x5)), (HV.a (AV.L 1 x6))])), (6, LOv.mk 0 (LO.arr (SC.e 43 13 (x7 ++ [[AV.I IntKind.i64 (Ev.k (evAV (AV.A (List.getD x0 i0 [])))), AV.I IntKind.i64 (Ev.nd (evAV (AV.A (List.getD x0 i0 [])))), AV.I IntKind.i64 (Ev.cl (evAV (AV.A (List.getD x0 i0 [])))), AV.I IntKind.i64 (Ev.ix (evAV (AV.A (List.getD x0 i0 [])))), AV.I IntKind.i64 (Ev.at_ (evAV (AV.A (List.getD x0 i0 [])))), AV.I IntKind.i64 (Ev.ct (evAV (AV.A (List.getD x0 i0 [])))), AV.I IntKind.i64 (Ev.cu (evAV (AV.A (List.getD x0 i0 [])))), AV.I IntKind.u64 (Ev.hi (evAV (AV.A (List.getD x0 i0 [])))), AV.I IntKind.u64 (Ev.lo (evAV (AV.A (List.getD x0 i0 [])))), AV.I IntKind.i64 (Ev.ok (evAV (AV.A (List.getD x0 i0 [])))), AV.I IntKind.i64 (Ev.os (evAV (AV.A (List.getD x0 i0 [])))), AV.S (Ev.ov (evAV (AV.A (List.getD x0 i0 [])))), AV.Y (Ev.bs (evAV (AV.A (List.getD x0 i0 []))))]])) false))] [(HO.cells [(HV.g (SC.e 41 1 (x8 ++ [[AV.Y (Ev.bs (evAV (AV.A (List.getD x0 i0 []))) ++ [90])]]))), (HV.g (SC.e 41 1 (x9 ++ [[AV.Y (Ev.bs (evAV (AV.A (List.getD x0 i0 []))) ++ [90])]]))), (HV.g (SC.e 82 1 x10)), (HV.g (SC.e 82 1 x11)), (HV.g (SC.e 80 1 x12)), (HV.g (SC.e 80 1 x13)), (HV.g (SC.e 90 1 x14)), (HV.g (SC.e 90 1 x15)), (HV.g (SC.e 88 12 x16)), (HV.g (SC.e 88 12 x17))])])))) (
      chk (noPs [AV.A [AV.I IntKind.i64 x2, AV.I IntKind.i64 x3, AV.I IntKind.i64 x4, AV.B x5, AV.L 1 x6]]) (
      chk (Sp.pre sp6 [AV.A [AV.I IntKind.i64 x2, AV.I IntKind.i64 x3, AV.I IntKind.i64 x4, AV.B x5, AV.L 1 x6]] []) (
      chk (noP (AV.A [AV.I IntKind.i64 x2, AV.I IntKind.i64 x3, AV.I IntKind.i64 x4, AV.B x5, AV.L 1 x6])) (
      chk (noPs [AV.A [AV.I IntKind.i64 x2, AV.I IntKind.i64 x3, AV.I IntKind.i64 x4, AV.B x5, AV.L 1 x6], AV.L 13 x7]) (
      chk (Sp.pre sp5 [AV.A [AV.I IntKind.i64 x2, AV.I IntKind.i64 x3, AV.I IntKind.i64 x4, AV.B x5, AV.L 1 x6], AV.L 13 x7] []) (
      chk (noPs [AV.A [AV.I IntKind.i64 x2, AV.I IntKind.i64 x3, AV.I IntKind.i64 x4, AV.B x5, AV.L 1 x6], AV.L 13 x0]) (
      chk (Sp.pre sp7 [AV.A [AV.I IntKind.i64 x2, AV.I IntKind.i64 x3, AV.I IntKind.i64 x4, AV.B x5, AV.L 1 x6], AV.L 13 x0] []) (
      bIte (prE x2 x3 x4 (List.map intOf x6) (evsOf x7) == prE x2 x3 x4 (List.map intOf x6) (evsOf x0)) (
      bIte (prT x2 x3 x4 x5 (List.map intOf x6) (evsOf x7) == prT x2 x3 x4 x5 (List.map intOf x6) (evsOf x0)) (
      chk (noPs [AV.L 13 x7, AV.L 13 x0]) (
      chk (Sp.pre sp9 [AV.L 13 x7, AV.L 13 x0] []) (
      chk (Sp.pre sp10 [AV.P 0 0] [HO.cells [HV.g (SC.e 41 1 x8), HV.g (SC.e 41 1 x9), HV.g (SC.e 82 1 x10), HV.g (SC.e 82 1 x11), HV.g (SC.e 80 1 x12), HV.g (SC.e 80 1 x13), HV.g (SC.e 90 1 x14), HV.g (SC.e 90 1 x15), HV.g (SC.e 88 12 x16), HV.g (SC.e 88 12 x17)]]) (
      Res.ret (AV.B true) ([]))))) (
      Res.ret (AV.B false) ([]))) (
      Res.ret (AV.B false) ([]))))))))))) (by kernel_rfl) ?_
    simp only [f3_L0, IH]
noncomputable def f3_e (x0 : Int) (x1 : Int) (x2 : Int) (x3 : Bool) (x4 : List (List AV)) (x5 : List (List AV)) : Res :=
      f3_L0 (ann3x FU).fuel x5 (0 : Int) x0 x1 x2 x3 x4 ([]) ([]) ([]) ([]) ([]) ([]) ([]) ([]) ([]) ([]) ([])
theorem f3_eq (x0 : Int) (x1 : Int) (x2 : Int) (x3 : Bool) (x4 : List (List AV)) (x5 : List (List AV)) : f3_sem [(AV.A [(AV.I IntKind.i64 x0), (AV.I IntKind.i64 x1), (AV.I IntKind.i64 x2), (AV.B x3), (AV.L 1 x4)]), (AV.L 13 x5)] [] = f3_e x0 x1 x2 x3 x4 x5 := by
  refine Eq.trans (b :=
      f3_l0 (ann3x FU).fuel (mkSt [(1, (EV.v (AV.L 13 x5))), (2, (EV.lp 2 0 0)), (5, (EV.v (AV.P 0 0))), (6, (EV.ls 6 0)), (7, (EV.v (AV.I IntKind.i64 (0 : Int))))] [(2, LOv.mk 0 (LO.box 0 [(HV.a (AV.I IntKind.i64 x0)), (HV.a (AV.I IntKind.i64 x1)), (HV.a (AV.I IntKind.i64 x2)), (HV.a (AV.B x3)), (HV.a (AV.L 1 x4))])), (6, LOv.mk 0 (LO.arr (SC.e 43 13 ([])) false))] [(HO.cells [(HV.g (SC.e 41 1 ([]))), (HV.g (SC.e 41 1 ([]))), (HV.g (SC.e 82 1 ([]))), (HV.g (SC.e 82 1 ([]))), (HV.g (SC.e 80 1 ([]))), (HV.g (SC.e 80 1 ([]))), (HV.g (SC.e 90 1 ([]))), (HV.g (SC.e 90 1 ([]))), (HV.g (SC.e 88 12 ([]))), (HV.g (SC.e 88 12 ([])))])])) (by kernel_rfl) ?_
  simp only [f3_e, f3_L0_eq]
end Go.Vm
