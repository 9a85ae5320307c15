/- Part of a proof: ZzL10. -/
import Derived.Test.YteaplibpphjokaaDoorZzL9
set_option linter.unusedSimpArgs false
set_option linter.unusedVariables false
set_option linter.unusedSectionVars false
namespace Go.Vm
open Go (IntKind Fn)
def gl (p : List Ev) : List (List AV) := p.map fun e => [AV.Y (e.bs ++ [90])]
theorem gl_len (p : List Ev) : (gl p).length = p.length := by simp [gl]
theorem gl_all {p : List Ev} (h : ∀ e ∈ p, e.bs.length + 1 ≤ 140737488355328) : (gl p).all isY1 = true := by
  rw [List.all_eq_true]
  intro x hx
  obtain ⟨e, he, rfl⟩ := List.mem_map.1 hx
  show decide ((e.bs ++ [90]).length ≤ 140737488355328) = true
  rw [decide_eq_true_eq]
  simpa using h e he
structure InOK (f r p : Int) (u : Bool) (ns : List Int) (es : List Ev) : Prop where
  hf : i63 f = true
  hr : i63 r = true
  hp : i63 p = true
  hns : ∀ n ∈ ns, i63 n = true
  hes : ∀ e ∈ es, rngE e = true ∧ (refS e).length + (lineB e).length + e.bs.length + 1 ≤ 140737488355328
  tot : (headB f r p u).length + (cliB ns).length + (scrB es).length + es.length * 128 + ns.length * 8 + 1000 ≤ 140737488355328
theorem noPss_I (ns : List Int) : noPss (ns.map mkI) = true := by
  induction ns with
  | nil => rfl
  | cons n l ih => exact ih
theorem noPss_E (es : List Ev) : noPss (es.map evA) = true := by
  induction es with
  | nil => rfl
  | cons n l ih => exact ih
theorem spPr_pre {f r p : Int} {u : Bool} {ns : List Int} {es : List Ev} (h : InOK f r p u ns es) (l : List HO) : spPr.pre [AV.A [AV.I IntKind.i64 f, AV.I IntKind.i64 r, AV.I IntKind.i64 p, AV.B u, AV.L 1 (ns.map mkI)], AV.L 13 (es.map evA)] l = true := by
  have e1 : (ns.map mkI).map intOf = ns := by rw [List.map_map]; exact List.map_id' ns
  have e2 := evsOf_map es
  have a1 : (ns.map mkI).all isInt = true := by
    rw [List.all_eq_true]; intro y hy; obtain ⟨n, _, rfl⟩ := List.mem_map.1 hy; rfl
  have a2 : (es.map evA).all isEv = true := by
    rw [List.all_eq_true]; intro y hy; obtain ⟨n, _, rfl⟩ := List.mem_map.1 hy; rfl
  have a3 : ns.all i63 = true := by rw [List.all_eq_true]; exact h.hns
  have a4 : es.all rngE = true := by rw [List.all_eq_true]; exact fun e he => (h.hes e he).1
  have a5 : (es.all fun e => decide ((refS e).length + (lineB e).length + e.bs.length + 1 ≤ big)) = true := by
    rw [List.all_eq_true]; exact fun e he => decide_eq_true (h.hes e he).2
  have ht := h.tot
  show ((ns.map mkI).all isInt && ((es.map evA).all isEv && (((ns.map mkI).map intOf).all i63 && ((evsOf (es.map evA)).all rngE && (((evsOf (es.map evA)).all fun e => decide ((refS e).length + (lineB e).length + e.bs.length + 1 ≤ big)) &&
    (i63 f && (i63 r && (i63 p && decide ((headB f r p u).length + (cliB ((ns.map mkI).map intOf)).length + (scrB (evsOf (es.map evA))).length + (es.map evA).length + (ns.map mkI).length ≤ big)))))))) ) = true
  rw [e1, e2, a1, a2, a3, a4, a5, h.hf, h.hr, h.hp, decide_eq_true (by simp only [List.length_map, big]; omega)]
  rfl
theorem eqVss_refl : ∀ (es : List Ev), eqVss (es.map evA) (es.map evA) = true
  | [] => rfl
  | e :: r => by
    simp only [List.map_cons, eqVss, eqVss_refl r, Bool.and_true]
    simp [evA, eqVs, eqV]
theorem eqVss_gl : ∀ (es : List Ev), eqVss (gl es) (gl es) = true
  | [] => rfl
  | e :: r => by
    show (eqVs [AV.Y (e.bs ++ [90])] [AV.Y (e.bs ++ [90])] && eqVss (gl r) (gl r)) = true
    rw [eqVss_gl r, Bool.and_true]
    simp [eqVs, eqV]
theorem f3_L0_law (k : Nat) (f rr pp : Int) (u : Bool) (ns : List Int) (es : List Ev) (h : InOK f rr pp u ns es) : ∀ (r p : List Ev), es = p ++ r →
    f3_L0 (k + r.length + 1) (es.map evA) (p.length : Int) f rr pp u (ns.map mkI) (p.map evA) (gl p) (gl p) [] [] [] [] [] [] [] [] = .ret (.B true) [] := by
  intro r
  have ht := h.tot
  induction r with
  | nil =>
    intro p he
    rw [List.append_nil] at he
    subst he
    show f3_L0 (k + 1) _ _ _ _ _ _ _ _ _ _ _ _ _ _ _ _ _ _ = _
    rw [f3_L0, iteF (by simp)]
    have n1 : noPs [AV.A [AV.I IntKind.i64 f, AV.I IntKind.i64 rr, AV.I IntKind.i64 pp, AV.B u, AV.L 1 (ns.map mkI)]] = true := by
      show (noPss (ns.map mkI) && true && true) = true
      rw [noPss_I]; rfl
    have n2 : noP (AV.A [AV.I IntKind.i64 f, AV.I IntKind.i64 rr, AV.I IntKind.i64 pp, AV.B u, AV.L 1 (ns.map mkI)]) = true := by
      show (noPss (ns.map mkI) && true) = true
      rw [noPss_I]; rfl
    have n3 : noPs [AV.A [AV.I IntKind.i64 f, AV.I IntKind.i64 rr, AV.I IntKind.i64 pp, AV.B u, AV.L 1 (ns.map mkI)], AV.L 13 (es.map evA)] = true := by
      show ((noPss (ns.map mkI) && true) && (noPss (es.map evA) && true)) = true
      rw [noPss_I, noPss_E]; rfl
    have n4 : noPs [AV.L 13 (es.map evA), AV.L 13 (es.map evA)] = true := by
      show (noPss (es.map evA) && (noPss (es.map evA) && true)) = true
      rw [noPss_E]; rfl
    have p6 : Sp.pre sp6 [AV.A [AV.I IntKind.i64 f, AV.I IntKind.i64 rr, AV.I IntKind.i64 pp, AV.B u, AV.L 1 (ns.map mkI)]] [] = true := by
      show decide ((ns.map mkI).length * 8 ≤ 140737488355328) = true
      rw [List.length_map, decide_eq_true_eq]; omega
    have p9 : Sp.pre sp9 [AV.L 13 (es.map evA), AV.L 13 (es.map evA)] [] = true := by
      have a2 : (es.map evA).all isEv = true := by
        rw [List.all_eq_true]; intro y hy; obtain ⟨n, _, rfl⟩ := List.mem_map.1 hy; rfl
      show ((es.map evA).all isEv && (eqVss (es.map evA) (es.map evA) && (decide ((es.map evA).length ≤ big) && (evsOf (es.map evA)).all fun e => decide (e.bs.length ≤ big)))) = true
      have a5 : (es.all fun e => decide (e.bs.length ≤ big)) = true := by
        rw [List.all_eq_true]; exact fun e he => decide_eq_true (by have := (h.hes e he).2; unfold big; omega)
      rw [a2, eqVss_refl, evsOf_map, a5, decide_eq_true (by rw [List.length_map]; unfold big; omega)]
      rfl
    have p10 : Sp.pre sp10 [AV.P 0 0] (gv (gl es) (gl es) [] [] [] [] [] [] [] []) = true := by
      show ((gl es).all isY1 && (eqVss (gl es) (gl es) && decide ((gl es).length ≤ big))) = true
      rw [gl_all fun e he => by have := (h.hes e he).2; omega, decide_eq_true (by rw [gl_len]; unfold big; omega)]
      rw [eqVss_gl]; rfl
    rw [chk_t n1, chk_t p6, chk_t n2, chk_t n3, chk_t (b := Sp.pre sp5 [AV.A [AV.I IntKind.i64 f, AV.I IntKind.i64 rr, AV.I IntKind.i64 pp, AV.B u, AV.L 1 (ns.map mkI)], AV.L 13 (es.map evA)] []) (spPr_pre h []), chk_t n3, chk_t (b := Sp.pre sp7 [AV.A [AV.I IntKind.i64 f, AV.I IntKind.i64 rr, AV.I IntKind.i64 pp, AV.B u, AV.L 1 (ns.map mkI)], AV.L 13 (es.map evA)] []) (spPr_pre h []),
      beqT rfl, bIte_t (by simp), chk_t n4, chk_t p9]
    exact chk_t p10 _
  | cons e r ih =>
    intro p he
    have hl : es.length = p.length + r.length + 1 := by rw [he]; simp; omega
    have hb := (h.hes e (by rw [he]; simp)).2
    show f3_L0 (k + r.length + 1 + 1) _ _ _ _ _ _ _ _ _ _ _ _ _ _ _ _ _ _ = _
    rw [f3_L0, iteT (by simp; omega), ix_t (by simp; omega)]
    have eg : List.getD (es.map evA) p.length [] = evA e := by rw [he, getD_mapE]
    rw [eg]
    have p4 : Sp.pre sp4 [AV.P 0 0, AV.A (evA e)] (gv (gl p) (gl p) [] [] [] [] [] [] [] []) = true := by
      show (true && (decide (e.bs.length + 1 ≤ 140737488355328 ∧ ((gl p).length + 1) * 24 ≤ 140737488355328 ∧ ((gl p).length + 1) * 24 ≤ 140737488355328) && true)) = true
      rw [gl_len, decide_eq_true (by omega)]; rfl
    show chk (Sp.pre sp4 [AV.P 0 0, AV.A (evA e)] (gv (gl p) (gl p) [] [] [] [] [] [] [] [])) (chk (decide ((p.map evA).length + 1 ≤ 140737488355328 ∧ ((p.map evA).length + 1) * 128 ≤ 140737488355328))
      (f3_L0 (k + r.length + 1) (es.map evA) (IntKind.wrap IntKind.i64 ((p.length : Int) + 1)) f rr pp u (ns.map mkI) (p.map evA ++ [evA e]) (gl p ++ [[AV.Y (e.bs ++ [90])]]) (gl p ++ [[AV.Y (e.bs ++ [90])]]) [] [] [] [] [] [] [] [])) = _
    rw [chk_t p4, chkD (by rw [List.length_map]; omega), wrap_i64 (by omega)]
    have := ih (p ++ [e]) (by rw [he]; simp)
    simp only [gl, List.map_append, List.map_cons, List.map_nil, List.length_append, List.length_cons, List.length_nil] at this
    exact this
theorem f3_law (f r p : Int) (u : Bool) (ns : List Int) (es : List Ev) (h : InOK f r p u ns es) :
    f3_sem [AV.A [AV.I .i64 f, AV.I .i64 r, AV.I .i64 p, AV.B u, AV.L 1 (ns.map mkI)], AV.L 13 (es.map evA)] [] = .ret (.B true) [] := by
  have ht := h.tot
  obtain ⟨k, hk⟩ : ∃ k, FU = k + es.length + 1 := ⟨FU - (es.length + 1), by have := FU_ge; omega⟩
  rw [f3_eq, f3_e]
  have := f3_L0_law k f r p u ns es h es [] rfl
  rw [← hk] at this
  exact this
end Go.Vm
