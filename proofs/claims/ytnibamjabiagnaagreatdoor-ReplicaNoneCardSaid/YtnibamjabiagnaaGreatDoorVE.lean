/- Part of a proof: VmK, VmX, VmW, VmRow. -/
import Derived.Test.YtnibamjabiagnaaGreatDoorVD
import Derived.Laws.IdiomRangeMap
import Derived.ChangeArms
import Derived.OpenShut
import Derived.DataReads
import Derived.ChangeStays
import Derived.ChangeSame
import Derived.ChangeShapes
import Derived.ChangeOld
import Derived.RowKit3
set_option linter.unusedSimpArgs false
set_option linter.unusedVariables false
set_option linter.unusedSectionVars false
namespace Go.Vm
open Go
theorem run_getObjG {P : Program} {w : World} {l : Nat} {o : Obj} (h : w.heap[l]? = some o) (hn : ncell o = true := by rfl) : (getObj l).run P w = .ok o w := by
  simp only [getObj, Sem.run, h]
  cases o <;> simp_all [ncell]
theorem run_setObjG {P : Program} {w : World} {l : Nat} {o : Obj} (o' : Obj) (h : w.heap[l]? = some o) (hn : ncell o = true := by rfl) : (setObj l o').run P w = .ok () (w.putObj l o') := by
  simp only [setObj, Sem.run, h, World.putObj]
  cases o <;> simp_all [ncell]
theorem run_nextG {P : Program} (w : World) (ty : TypeId) (it bm since c0 : Nat) (seen : Array Nat) (es : Array MapEntry) (clock : Nat) (hit : w.heap[it]? = some (.mapIter (some bm) since seen c0)) (hb : w.heap[bm]? = some (.map es clock))
    (hold : ∀ x ∈ es.toList, x.born < since) (hsc : since ≤ c0) :
    ((leftOf es seen).toList = [] ∧ (Instr.next (.pointer (some ⟨it, 0, none⟩)) false ty).run P w = .ok (.tuple #[.bool false]) w) ∨
    ∃ (j : Nat) (e : MapEntry) (w1 : World), (leftOf es seen).toList[j]? = some e ∧ (w1 = w ∨ w1 = w.drew) ∧ (Instr.next (.pointer (some ⟨it, 0, none⟩)) false ty).run P w = .ok (.tuple #[.bool true, e.key, e.val]) (w1.putObj it (.mapIter (some bm) since (seen.push e.born) clock)) := by
  simp only [Instr.next, Sem.run_bind, run_getObjG hit, run_getObjG hb, Result.andThen, next_test_false seen es since c0 hold hsc, Bool.false_eq_true, if_false]
  unfold leftOf
  have hmem : ∀ x ∈ (Array.filter (fun e => !seen.contains e.born) es).toList, x.born < since := fun x hx => hold x (by simp at hx ⊢; exact hx.1)
  generalize Array.filter (fun e => !seen.contains e.born) es = L at hmem ⊢
  have e1 : L.filter (fun x => decide (x.born < since)) = L := Array.filter_eq_self.2 (fun x hx => by simpa using hmem x (by simpa using hx))
  have e2 : L.filter (fun x => decide (x.born ≥ since)) = #[] := by
    rw [Array.filter_eq_empty_iff]
    intro x hx
    have := hmem x (by simpa using hx)
    simp
    omega
  simp only [e1, e2, Array.append_empty]
  by_cases h0 : L.size = 0
  · left
    have : L = #[] := Array.eq_empty_of_size_eq_zero h0
    subst this
    refine ⟨rfl, ?_⟩
    simp [choose, Sem.run, Question.forced]
  · right
    have hne : L.isEmpty = false := by simp [Array.isEmpty, h0]
    simp only [hne, Bool.false_eq_true, if_false, Array.empty_append, Array.size_map]
    have hch : ∃ (j : Nat) (w1 : World), j < L.size ∧ (w1 = w ∨ w1 = w.drew) ∧ (choose (Question.mapNext L.size)).run P w = .ok j w1 := by
      by_cases hf : L.size ≤ 1
      · exact ⟨0, w, by omega, .inl rfl, by simp [choose, Sem.run, Question.forced, hf]⟩
      · exact ⟨_, w.drew, Nat.mod_lt _ (by omega), .inr rfl, by
          simp only [choose, Sem.run, Question.forced, decide_eq_true_eq, hf, if_false, Question.cut]
          rfl⟩
    obtain ⟨j, w1, hj, hal, hrun⟩ := hch
    refine ⟨j, L[j], w1, by simp [hj], hal, ?_⟩
    have hit1 : w1.heap[it]? = some (.mapIter (some bm) since seen c0) := by rcases hal with rfl | rfl <;> exact hit
    simp only [hrun, Array.getElem?_map, Array.getElem?_eq_getElem hj, Option.map_some, Sem.run_bind, run_setObjG _ hit1, Result.andThen]
    rfl
theorem run_entryG {P : Program} (w : World) (it bm since : Nat) (seen : Array Nat) (es : Array MapEntry) (clock : Nat) (e : MapEntry) (hit : w.heap[it]? = some (.mapIter (some bm) since (seen.push e.born) clock)) (hb : w.heap[bm]? = some (.map es clock)) (he : e ∈ es.toList) (hn : (es.toList.map (·.born)).Nodup) :
    (Instr.entry (.pointer (some ⟨it, 0, none⟩))).run P w = .ok (.tuple #[e.key, e.val]) w := by
  have hf : es.find? (·.born == e.born) = some e := by rw [← Array.find?_toList]; exact find_born e es.toList hn he
  simp only [Instr.entry, Sem.run_bind, run_getObjG hit, run_getObjG hb, Result.andThen, Array.back?_push, bne_self_eq_false, Bool.false_eq_true, if_false, hf]
  rfl
def Gh.hide (g : Gh) (bm : Nat) : Gh := { g with ow := fun b => if b = bm then none else g.ow b }
def Gh.unhide (g : Gh) (bm mid : Nat) : Gh := { g with ow := fun b => if b = bm then some (.obj mid) else g.ow b }
section
variable {C : Cx} {N : Ann} {nt : NT} {g0 g : Gh} {w0 w : World} {f : Fr} {s : St} {a : Act} {R : Res} {G : FuncId → List AV → List HO → Res}
theorem LR.reown {g' : Gh} {be : Nat → Nat} {hd : Nat → Value} {k : Nat} {l : LOv} (h : LR g w be hd k l) (h1 : g'.n = g.n) (h2 : g'.io = g.io) (hst : g'.st = g.st) (how : ∀ b (o : Own), o.site = some k → g.ow b = some o → g'.ow b = some o) : LR g' w be hd k l := by
  unfold LR at h ⊢
  split
  · trivial
  · rename_i m cs e
    rw [e] at h
    exact BoxR.reown h h1 h2 hst (fun b => how b _ rfl) (fun i b => how b _ rfl)
  · rename_i c ex e
    rw [e] at h
    exact SR.reown h h1 h2 hst (fun b => how b _ rfl)
theorem VE.ow {g' : Gh} {s' : St} (h1 : g'.n = g.n) (h2 : g'.io = g.io) (hst : g'.st = g.st) (hl : s'.loc = s.loc) (hv : s'.hv = s.hv) (hh : ∀ (id : Nat) (cs : List HV), s.h[id]? = some (HO.cells cs) → s'.h[id]? = some (HO.cells cs)) {e : EV} {u : Value} (h : VE g w f s e u) : VE g' w f s' e u := by
  have lat := Later.sameV w h1 h2 hst
  cases e with
  | v a => exact V.later lat a u h
  | nil => exact h
  | lp k ver off => simp only [VE] at h ⊢; rw [hl]; exact h
  | ls k ver => simp only [VE] at h ⊢; rw [hl]; exact h
  | le k ver i off => simp only [VE] at h ⊢; rw [hl]; exact h
  | ep n cs off =>
    obtain ⟨b, o, q1, q2, q3⟩ := h
    exact ⟨b, o, q1, q2, VC.later lat b cs o q3⟩
  | hb k ver m off x =>
    obtain ⟨q1, q2⟩ := h
    refine ⟨V.later lat _ _ q1, ?_⟩
    rw [hl]; exact q2
  | hh id off hv0 x =>
    obtain ⟨q1, q2, q3⟩ := h
    refine ⟨V.later lat _ _ q1, by rw [hv]; exact q2, fun e => ?_⟩
    rw [hv] at e
    obtain ⟨cs, c1, c2, c3⟩ := q3 e
    exact ⟨cs, hh id cs c1, c2, by rw [h2]; exact c3⟩
  | ag cs =>
    obtain ⟨us, q1, q2⟩ := h
    exact ⟨us, q1, q2.later lat⟩
  | un => exact h
  | ub => exact h
  | lw k ver off => simp only [VE] at h ⊢; rw [hl]; exact h
theorem Rel.hide (r : Rel C nt g0 w0 g w f s a) (hmk : nt.mks = false) {mid : Nat} {es : List (AV × AV)} (hm : s.h[mid]? = some (.map es)) : Rel C nt g0 w0 (g.hide (g.io mid)) w f { s with h := s.h.set mid .no } a := by
  have hM := r.core.heap.map mid es hm
  have keep : ∀ b (o : Own), o ≠ .obj mid → g.ow b = some o → (g.hide (g.io mid)).ow b = some o := by
    intro b o ho hb
    show (if b = g.io mid then none else g.ow b) = some o
    rw [if_neg]
    · exact hb
    · intro e
      rw [e, hM.ow] at hb
      exact ho (Option.some.inj hb).symm
  have hset : ∀ (id : Nat) (x : HO), (s.h.set mid .no)[id]? = some x → x ≠ .no → id ≠ mid ∧ s.h[id]? = some x := by
    intro id x hx hn
    by_cases e : mid = id
    · subst e
      rw [List.getElem?_set_self (List.getElem?_eq_some_iff.1 hm).1] at hx
      cases hx
      exact absurd rfl hn
    · rw [List.getElem?_set_ne e] at hx
      exact ⟨fun h => e h.symm, hx⟩
  have henv : ∀ t, VE (g.hide (g.io mid)) w f { s with h := s.h.set mid .no } (s.env t) (a.tmps.getD t undef) := fun t =>
    VE.ow (g := g) (g' := g.hide (g.io mid)) (s := s) (s' := { s with h := s.h.set mid .no }) rfl rfl rfl rfl rfl (fun (id : Nat) cs hc => by
      show (s.h.set mid .no)[id]? = _
      by_cases e2 : mid = id
      · subst e2
        rw [hm] at hc
        cases hc
      · rw [List.getElem?_set_ne e2]
        exact hc) (r.env t)
  have hglob : ∀ gi cs, C.glob gi = some cs → VC (g.hide (g.io mid)) w gi 0 cs := fun gi cs hg => VC.later (g := g) (g' := g.hide (g.io mid)) (Later.sameV w rfl rfl rfl) gi cs 0 (r.glob gi cs hg)
  have e := r.ext
  refine ⟨⟨⟨e.later.n, e.later.io, e.later.st, e.later.cell⟩, e.size, e.blk, fun b hb hn => ?_, e.st, e.frz, e.os, e.tape, e.out, e.shape⟩, ⟨⟨?_, r.core.heap.lt, fun id cs hc => ?_, fun id es' hc => ?_⟩, fun k => (r.core.loc k).reown rfl rfl rfl fun b o ho hb => keep b o (by rintro rfl; cases ho) hb, r.core.wf⟩,
    henv, hglob, ?_, r.sz, r.fixed⟩
  · show (if b = g.io mid then none else g.ow b) = g0.ow b
    split
    · rename_i hbm
      have := e.ow b hb hn
      have hn' : g0.ow b = none := by simpa using hn
      rw [hn']
    · exact e.ow b hb hn
  · simp [Gh.hide, r.core.heap.len]
  · obtain ⟨h1, h2⟩ := hset id _ hc (by simp)
    exact BoxR.reown (r.core.heap.obj id cs h2) rfl rfl rfl (fun b => keep b _ (by simp; exact h1)) (fun i b => keep b _ (by simp))
  · obtain ⟨h1, h2⟩ := hset id _ hc (by simp)
    exact MapR.reown (r.core.heap.map id es' h2) rfl rfl rfl (fun b => keep b _ (by simp; exact h1))
  · have := r.dfr
    rw [hmk] at this ⊢
    exact this
theorem Rel.unhide (r : Rel C nt g0 w0 g w f s a) (hmk : nt.mks = false) {mid bm : Nat} {es : List (AV × AV)} (hno : s.h[mid]? = some .no) (hio : g.io mid = bm) (how : g.ow bm = none) (hst : ∀ i, ¬ g.st bm i) (hbm : w0.heap.size ≤ bm ∨ g0.ow bm ≠ none)
    (hrow : ∃ (mes : Array MapEntry) (clock : Nat), w.heap[bm]? = some (.map mes clock) ∧ ER g w es mes.toList ∧ mes.toList.Pairwise (fun x y => x.born < y.born) ∧ ∀ e ∈ mes.toList, e.born < clock) :
    Rel C nt g0 w0 (g.unhide bm mid) w f { s with h := s.h.set mid (.map es) } a := by
  have keep : ∀ b (o : Own), g.ow b = some o → (g.unhide bm mid).ow b = some o := by
    intro b o hb
    show (if b = bm then some (Own.obj mid) else g.ow b) = some o
    rw [if_neg]
    · exact hb
    · intro e
      rw [e, how] at hb
      cases hb
  have lat : Later g w (g.unhide bm mid) w := Later.sameV (g := g) (g' := g.unhide bm mid) w rfl rfl rfl
  have hlt := (List.getElem?_eq_some_iff.1 hno).1
  have henv : ∀ t, VE (g.unhide bm mid) w f { s with h := s.h.set mid (.map es) } (s.env t) (a.tmps.getD t undef) := fun t =>
    VE.ow (g := g) (g' := g.unhide bm mid) (s := s) (s' := { s with h := s.h.set mid (.map es) }) rfl rfl rfl rfl rfl (fun (id : Nat) cs hc => by
      show (s.h.set mid (.map es))[id]? = _
      by_cases e2 : mid = id
      · subst e2
        rw [hno] at hc
        cases hc
      · rw [List.getElem?_set_ne e2]
        exact hc) (r.env t)
  have hglob : ∀ gi cs, C.glob gi = some cs → VC (g.unhide bm mid) w gi 0 cs := fun gi cs hg => VC.later (g := g) (g' := g.unhide bm mid) (Later.sameV w rfl rfl rfl) gi cs 0 (r.glob gi cs hg)
  have e := r.ext
  refine ⟨⟨⟨e.later.n, e.later.io, e.later.st, e.later.cell⟩, e.size, e.blk, fun b hb hn => ?_, e.st, e.frz, e.os, e.tape, e.out, e.shape⟩, ⟨⟨?_, r.core.heap.lt, fun id cs hc => ?_, fun id es' hc => ?_⟩, fun k => (r.core.loc k).reown rfl rfl rfl fun b o _ hb => keep b o hb, r.core.wf⟩,
    henv, hglob, ?_, r.sz, r.fixed⟩
  · show (if b = bm then some (Own.obj mid) else g.ow b) = g0.ow b
    rw [if_neg]
    · exact e.ow b hb hn
    · rintro rfl
      rcases hbm with h | h
      · omega
      · exact hn h
  · simp [Gh.unhide, r.core.heap.len]
  · have hc' : (s.h.set mid (.map es))[id]? = some (.cells cs) := hc
    by_cases e2 : mid = id
    · subst e2
      rw [List.getElem?_set_self hlt] at hc'
      cases hc'
    · rw [List.getElem?_set_ne e2] at hc'
      exact BoxR.reown (r.core.heap.obj id cs hc') rfl rfl rfl (fun b => keep b _) (fun i b => keep b _)
  · have hc' : (s.h.set mid (.map es))[id]? = some (.map es') := hc
    by_cases e2 : mid = id
    · subst e2
      rw [List.getElem?_set_self hlt] at hc'
      cases hc'
      obtain ⟨mes, clock, q1, q2, q3⟩ := hrow
      show MapR _ w _ (g.io mid) es
      rw [hio]
      exact ⟨by show (if bm = bm then some (Own.obj mid) else g.ow bm) = _; rw [if_pos rfl], hst, mes, clock, q1, q2.later lat, q3⟩
    · rw [List.getElem?_set_ne e2] at hc'
      exact MapR.reown (r.core.heap.map id es' hc') rfl rfl rfl (fun b => keep b _)
  · have := r.dfr
    rw [hmk] at this ⊢
    exact this
end
open Classical in
noncomputable def allI (n : Nat) (F : Nat → Res) : Res := match n with
  | 0 => .stuck
  | 1 => F 0
  | n + 2 => if ∀ i, i < n + 2 → F i = F 0 then F 0 else .stuck
theorem allI_inv {n : Nat} {F : Nat → Res} {R : Res} (h : allI n F = R) (hR : R ≠ .stuck) : ∀ i, i < n → F i = R := by
  intro i hi
  match n, h, hi with
  | 1, h, hi =>
    have : i = 0 := by omega
    subst this
    exact h
  | n + 2, h, hi =>
    unfold allI at h
    simp only at h
    split at h
    · rename_i hall
      rw [hall i hi]
      exact h
    · exact absurd h.symm hR
structure MapLoop where
  opsR : Array Oper
  pre : List Oper
  oR : Oper
  oN : Oper
  oX : Oper
  oE : Oper
  mt : TypeId
  tt : TypeId
  tm : Nat
  ti : Nat
  tn : Nat
  tx : Nat
  tE : Nat
  rR : Nat
  rN : Nat
  rE : Nat
  b : Nat
  b5 : Nat
  opsE : Array Oper
  rest : Code
def MapLoop.code (m : MapLoop) : Code := .seq (.region m.rR m.opsR false) (.block m.b (.loop (.seq (.region m.rN #[m.oN, m.oX] false) (.seq (.cond (.tmp m.tx) .skip (.exit m.b)) (.block m.b5 (.seq (.region m.rE m.opsE false) m.rest))))))
structure MapLoop.OK (P : Program) (n : Nat) (m : MapLoop) : Prop where
  ops : m.opsR.toList = m.pre ++ [m.oR]
  oR : IsO m.oR (.range m.mt (.tmp m.tm)) m.ti
  oN : IsO m.oN (.next (.tmp m.ti) false) m.tn
  oX : IsO m.oX (.extract (.tmp m.tn) 0) m.tx
  oE0 : m.opsE[0]? = some m.oE
  oE : IsO m.oE (.entry (.tmp m.ti)) m.tE
  ut : ∃ k e, P.underlying m.mt = some (.map k e)
  dR : dstOK (NT.of n) m.opsR = true
  dE : codeOK (NT.of n) (.region m.rE m.opsE false) = true
  offE : offOK [m.ti] (.region m.rE m.opsE false) = true
  dT : codeOK (NT.of n) m.rest = true
  offT : offOK [m.ti] m.rest = true
  lt : m.ti < n ∧ m.tn < n ∧ m.tx < n ∧ m.tE < n
  ne : m.tn ≠ m.ti ∧ m.tx ≠ m.ti ∧ m.tE ≠ m.ti ∧ m.tn ≠ m.tx
section
variable (C : Cx) (N : Ann) (AN A : Alg Res) (m : MapLoop)
noncomputable def mapTree (mid : Nat) (kT : St → Res) : Nat → List (AV × AV) → St → Res
  | 0, _, s => match s.h[mid]? with
    | some .no => kT (((nrm N (some m.rN) s).put (some m.tn) (.v .U)).put (some m.tx) (.v .U))
    | _ => .stuck
  | n + 1, rest, s => match s.h[mid]? with
    | some .no => allI (n + 1) fun i =>
        aOps A C N m.opsE (m.opsE.toList.drop 1) ((((nrm N (some m.rN) s).put (some m.tn) (.v .U)).put (some m.tx) (.v .U)).put (some m.tE) (.v (.T [(rest.getD i (.U, .U)).1, (rest.getD i (.U, .U)).2]))) fun s' =>
          aC C N AN A m.rest (fun s'' => mapTree mid kT n (rest.eraseIdx i) s'') (fun _ _ => .stuck) (fun _ => .stuck) (nrm N (headId m.rest) s')
    | _ => .stuck
noncomputable def mapK (kT : St → Res) (s : St) : Res := aOps A C N m.opsR m.pre s fun s1 => match s1.env m.tm with
  | .v (.M mid) => match s1.h[mid]? with
    | some (.map es) => mapTree C N AN A m mid (fun s2 => kT { s2 with h := s2.h.set mid (.map es) }) es.length es (({ s1 with h := s1.h.set mid .no } : St).put (some m.ti) (.v .U))
    | _ => .stuck
  | _ => .stuck
end
theorem nrm_h {N : Ann} {r : Option Nat} {s : St} : (nrm N r s).h = s.h := by
  unfold nrm
  split <;> rfl
section
variable {C : Cx} {N : Ann} {G : FuncId → List AV → List HO → Res} {g0 : Gh} {w0 : World} {R : Res} {n : Nat} {m : MapLoop}
structure MJ (C : Cx) (nt : NT) (g0 : Gh) (w0 : World) (it bm mid since clock : Nat) (mes : Array MapEntry) (es rest : List (AV × AV)) (seen : Array Nat) (c0 : Nat) (g : Gh) (w : World) (f : Fr) (s : St) (a : Act) : Prop where
  rel : Rel C nt g0 w0 g w f s a
  iow : g.ow it = none
  ist : ∀ i, ¬ g.st it i
  iter : w.heap[it]? = some (.mapIter (some bm) since seen c0)
  sc : since ≤ c0
  mow : g.ow bm = none
  mst : ∀ i, ¬ g.st bm i
  mp : w.heap[bm]? = some (.map mes clock)
  io : g.io mid = bm
  idn : mid < g.n
  eall : ER g w es mes.toList
  eleft : ER g w rest (leftOf mes seen).toList
theorem MJ.chg {nt nt' : NT} {g0 g0' g g' : Gh} {w0 w0' w w' : World} {it bm mid since clock c0 : Nat} {mes : Array MapEntry} {es rest : List (AV × AV)} {seen : Array Nat} {f f' : Fr} {s s' : St} {a a' : Act}
    (h : MJ C nt g0 w0 it bm mid since clock mes es rest seen c0 g w f s a) (hch : Chg (fun b => g.ow b ≠ none) g w g' w') (r : Rel C nt' g0' w0' g' w' f' s' a') : MJ C nt' g0' w0' it bm mid since clock mes es rest seen c0 g' w' f' s' a' := by
  have hi : it < w.heap.size := (Array.getElem?_eq_some_iff.1 h.iter).1
  have hb : bm < w.heap.size := (Array.getElem?_eq_some_iff.1 h.mp).1
  have ni : ¬ g.ow it ≠ none := fun x => x h.iow
  have nb : ¬ g.ow bm ≠ none := fun x => x h.mow
  exact ⟨r, (hch.ow it hi ni).trans h.iow, fun i x => h.ist i (hch.st it i hi ni x), (hch.blk it hi ni).trans h.iter, h.sc, (hch.ow bm hb nb).trans h.mow, fun i x => h.mst i (hch.st bm i hb nb x), (hch.blk bm hb nb).trans h.mp,
    (hch.later.io mid h.idn).trans h.io, Nat.lt_of_lt_of_le h.idn hch.later.n, h.eall.later hch.later, h.eleft.later hch.later⟩
theorem ER_get {g : Gh} {w : World} : ∀ (es : List (AV × AV)) (ms : List MapEntry) (j : Nat) (e : MapEntry), ER g w es ms → ms[j]? = some e → V g w (es.getD j (.U, .U)).1 e.key ∧ V g w (es.getD j (.U, .U)).2 e.val ∧ ER g w (es.eraseIdx j) (ms.eraseIdx j)
  | [], _, j, e, h, he => by rw [show _ = [] from h] at he; simp at he
  | p :: es, _, 0, e, ⟨e', r, h, h1, h2, h3⟩, he => by
    subst h
    simp at he
    subst he
    exact ⟨h1, h2, h3⟩
  | p :: es, _, j + 1, e, ⟨e', r, h, h1, h2, h3⟩, he => by
    subst h
    obtain ⟨q1, q2, q3⟩ := ER_get es r j e h3 (by simpa using he)
    exact ⟨q1, q2, e', _, rfl, h1, h2, q3⟩
theorem left_push {mes : Array MapEntry} {seen : Array Nat} (hn : (mes.toList.map (·.born)).Nodup) {j : Nat} {e : MapEntry} (he : (leftOf mes seen).toList[j]? = some e) : (leftOf mes (seen.push e.born)).toList = (leftOf mes seen).toList.eraseIdx j := by
  have hsub : ((leftOf mes seen).toList.map (·.born)).Nodup := by
    unfold leftOf
    rw [Array.toList_filter]
    exact (List.Nodup.sublist (List.filter_sublist.map _) hn)
  have h1 : (leftOf mes (seen.push e.born)).toList = (leftOf mes seen).toList.filter fun x => !(x.born == e.born) := by
    unfold leftOf
    simp only [Array.toList_filter, List.filter_filter]
    congr 1
    funext x
    rw [contains_push]
    cases seen.contains x.born <;> cases (x.born == e.born) <;> rfl
  rw [h1]
  generalize (leftOf mes seen).toList = L at he hsub
  clear h1
  induction L generalizing j with
  | nil => simp at he
  | cons x L ih =>
    have hn2 := List.nodup_cons.1 hsub
    cases j with
    | zero =>
      simp at he
      subst he
      rw [List.filter_cons_of_neg (by simp), List.eraseIdx_cons_zero]
      refine List.filter_eq_self.2 fun y hy => ?_
      simp only [Bool.not_eq_true', beq_eq_false_iff_ne]
      intro e2
      exact hn2.1 (by show x.born ∈ _; rw [← e2]; exact List.mem_map_of_mem hy)
    | succ j =>
      have he' : L[j]? = some e := by simpa using he
      rw [List.filter_cons_of_pos, List.eraseIdx_cons_succ, ih he' hn2.2]
      simp only [Bool.not_eq_true', beq_eq_false_iff_ne]
      intro e2
      have hm : e ∈ L := List.mem_of_getElem? he'
      exact hn2.1 (by show x.born ∈ _; rw [e2]; exact List.mem_map_of_mem hm)
theorem codeOK_fix {n : Nat} {fixl : List Nat} {val : Nat → Value} (c : Code) (h : codeOK (NT.of n) c = true) (h' : offOK fixl c = true) : codeOK { n, fix := fixl, val, mks := false } c = true := by
  have := codeOK_rnd (nt := NT.of n) (fixl := fixl) (a := { tmps := #[], defers := [] }) c h h'
  have key : ∀ c : Code, codeOK ((NT.of n).rnd fixl { tmps := #[], defers := [] }) c = codeOK { n, fix := fixl, val, mks := false } c := by
    intro c
    induction c <;> simp_all [codeOK, dstOK, NT.rnd, NT.ofm]
  rw [← key]
  exact this
theorem wp1 {P : Program} {o : Oper} {a : Act} {w w' : World} {ops : Array Oper} {Q : Exit → Act → World → Prop} {i : Nat} {rest : List Nat} {v : Value} {op : Op} {d : Nat} (hi : ops[i]? = some o) (ho : IsO o op d) (hnd : ∀ c, op ≠ .defer c)
    (hx : (execOp a.eval o).run P w = .ok (.value v) w') (h : wpOpsIn (FR none) 0 P ops Q rest (a.put (some d) v) w') : wpOpsIn (FR none) 0 P ops Q (i :: rest) a w := by
  simp only [wpOpsIn, hi]
  rw [if_pos (by simp [Region.wanted, ho.2.2])]
  refine ⟨fun _ _ => trivial, ?_⟩
  rw [Oper.semAt_eq _ _ _ (by rw [ho.1]; exact hnd), hx]
  simp only [Oper.uponIn, ho.2.1]
  exact h
theorem mapTree_sound (hC : OkC C) (hR : R ≠ .stuck) (hnp : ∀ v h, R ≠ .pan v h) (hG : ∀ j, Sound C j (G j)) (hm : m.OK C.P n) {Q : Exit → Act → World → Prop} {it bm mid since clock : Nat} {mes : Array MapEntry} {es : List (AV × AV)} {val : Nat → Value}
    (hval : val m.ti = .pointer (some ⟨it, 0, none⟩)) (hbm : w0.heap.size ≤ bm ∨ g0.ow bm ≠ none) (hit0 : w0.heap.size ≤ it) (hne : it ≠ bm) (hpw : mes.toList.Pairwise (fun x y => x.born < y.born)) (hclk : ∀ e ∈ mes.toList, e.born < clock) (hsince : since = clock) {kT : St → Res}
    (hQ : ∀ g w f s a, Rel C (NT.of n) g0 w0 g w f s a → kT s = R → Q .normal a w) :
    ∀ (k : Nat) (rest : List (AV × AV)) (seen : Array Nat) (c0 : Nat) (g : Gh) (w : World) (f : Fr) (s : St) (a : Act), rest.length = k → MJ C { n, fix := [m.ti], val, mks := false } g0 w0 it bm mid since clock mes es rest seen c0 g w f s a →
      mapTree C N (stdAlg C.pure (noPan G)) (stdAlg C.pure G) m mid (fun s2 => kT { s2 with h := s2.h.set mid (.map es) }) k rest s = R →
      Code.roundsIn (FR none) 0 C.P (.seq (.region m.rN #[m.oN, m.oX] false) (.seq (.cond (.tmp m.tx) .skip (.exit m.b)) (.block m.b5 (.seq (.region m.rE m.opsE false) m.rest)))) (Exit.inBlock m.b Q) (k + 1) a w := by
  have hpanF : ∀ (nt : NT) (g0 : Gh) (w0 : World) (Q : Exit → Act → World → Prop), PanAll nt g0 w0 Q R := fun nt g0 w0 Q => by
    unfold PanAll
    cases nt.mks with
    | true => exact hnp
    | false => exact fun a _ v h' u g' w' e => absurd e (hnp v h')
  have hnod : (mes.toList.map (·.born)).Nodup := by
    rw [List.nodup_iff_pairwise_ne, List.pairwise_map]
    exact hpw.imp fun h => by omega
  have hok : ∀ d, d < n → d ≠ m.ti → ({ n, fix := [m.ti], val, mks := false } : NT).ok d := fun d h1 h2 => ⟨h1, by
    have : Nat.beq d m.ti = false := by
      rw [Bool.eq_false_iff]
      exact fun e => h2 (Nat.eq_of_beq_eq_true e)
    simp [this]⟩
  have start : ∀ {rest : List (AV × AV)} {seen : Array Nat} {c0 : Nat} {g : Gh} {w : World} {f : Fr} {s : St} {a : Act}, MJ C { n, fix := [m.ti], val, mks := false } g0 w0 it bm mid since clock mes es rest seen c0 g w f s a →
      (∃ g1, MJ C { n, fix := [m.ti], val, mks := false } g0 w0 it bm mid since clock mes es rest seen c0 g1 w f (nrm N (some m.rN) s) a) ∧ a.eval (.tmp m.ti) = .pointer (some ⟨it, 0, none⟩) ∧ n ≤ a.tmps.size := by
    intro rest seen c0 g w f s a J
    obtain ⟨g1, r1⟩ := (J.rel.base rfl).nrm (N := N) (some m.rN)
    refine ⟨⟨g1, J.chg r1.since (Rel.unbase J.rel.ext rfl r1)⟩, ?_, J.rel.sz⟩
    have := J.rel.fixed m.ti (by simp)
    have this : a.tmps.getD m.ti undef = val m.ti := this
    rw [hval] at this
    rw [← this]
    simp [Act.eval, Array.getD_eq_getD_getElem?]
  intro k
  induction k with
  | zero =>
    intro rest seen c0 g w f s a hk J h
    have hr0 : rest = [] := List.eq_nil_of_length_eq_zero hk
    subst hr0
    simp only [mapTree] at h
    split at h
    case h_2 => exact absurd h.symm hR
    rename_i hno
    obtain ⟨⟨g1, J1⟩, hti, hsz⟩ := start J
    have hleft : (leftOf mes seen).toList = [] := J.eleft
    rw [roundsIn_succ]
    refine wpIn_seq (wpIn_region ?_)
    show wpOpsIn (FR none) 0 C.P _ _ [0, 1] a w
    rcases run_nextG (P := C.P) w m.oN.type it bm since c0 seen mes clock J.iter J.mp (by rw [hsince]; exact hclk) J.sc with ⟨_, hrun⟩ | ⟨j, e, w1, hj, _⟩
    case inr => rw [hleft] at hj; simp at hj
    refine wp1 (o := m.oN) rfl hm.oN (by simp) (v := .tuple #[.bool false]) (w' := w) (by simp [execOp, hm.oN.1, hti, hrun]) ?_
    have e1 : ∀ t, (a.put (some m.tn) (.tuple #[.bool false])).eval (.tmp t) = if t = m.tn then .tuple #[.bool false] else a.eval (.tmp t) := fun t => ev_put (by have := hm.lt; omega)
    refine wp1 (o := m.oX) rfl hm.oX (by simp) (v := .bool false) (w' := w) (by simp [execOp, hm.oX.1, e1, Instr.extract]) ?_
    have e2 : ((a.put (some m.tn) (.tuple #[.bool false])).put (some m.tx) (.bool false)).eval (.tmp m.tx) = .bool false := by
      rw [ev_put (by rw [sz_put]; have := hm.lt; omega)]
      simp
    refine wpIn_seq (wpIn_cond_false e2 (wpIn_exit ?_))
    show Exit.inBlock m.b Q (.exit m.b) _ w
    simp only [Exit.inBlock, if_true]
    have r2 := (J1.rel.val (d := some m.tn) (e := .v .U) (u := .tuple #[.bool false]) (fun x hx => by cases hx; exact hok _ hm.lt.2.1 hm.ne.1) trivial).val (d := some m.tx) (e := .v .U) (u := .bool false) (fun x hx => by cases hx; exact hok _ hm.lt.2.2.1 hm.ne.2.1) trivial
    have r3 : Rel C (NT.of n) g0 w0 g1 w f _ _ := ⟨r2.ext, r2.core, r2.env, r2.glob, r2.dfr, r2.sz, fun t ht => by simp [NT.ofm] at ht⟩
    have r4 := r3.unhide rfl (mid := mid) (bm := bm) (es := es) (by show (nrm N (some m.rN) s).h[mid]? = _; rw [nrm_h]; exact hno) J1.io J1.mow J1.mst hbm ⟨mes, clock, J1.mp, J1.eall, hpw, hclk⟩
    exact hQ _ _ _ _ _ r4 h
  | succ k ih =>
    intro rest seen c0 g w f s a hk J h
    simp only [mapTree] at h
    split at h
    case h_2 => exact absurd h.symm hR
    rename_i hno
    obtain ⟨⟨g1, J1⟩, hti, hsz⟩ := start J
    rw [roundsIn_succ]
    refine wpIn_seq (wpIn_region ?_)
    show wpOpsIn (FR none) 0 C.P _ _ [0, 1] a w
    have hll : (leftOf mes seen).toList.length = k + 1 := by rw [J.eleft.length, hk]
    rcases run_nextG (P := C.P) w m.oN.type it bm since c0 seen mes clock J.iter J.mp (by rw [hsince]; exact hclk) J.sc with ⟨hnil, _⟩ | ⟨j, e, w1, hj, hw1, hrun⟩
    case inl => rw [hnil] at hll; simp at hll
    have hjk : j < k + 1 := by rw [← hll]; exact (List.getElem?_eq_some_iff.1 hj).1
    have hF := allI_inv h hR j hjk
    refine wp1 (o := m.oN) rfl hm.oN (by simp) (v := .tuple #[.bool true, e.key, e.val]) (w' := w1.putObj it (.mapIter (some bm) since (seen.push e.born) clock)) (by simp [execOp, hm.oN.1, hti, hrun]) ?_
    have e1 : ∀ t, (a.put (some m.tn) (.tuple #[.bool true, e.key, e.val])).eval (.tmp t) = if t = m.tn then .tuple #[.bool true, e.key, e.val] else a.eval (.tmp t) := fun t => ev_put (by have := hm.lt; omega)
    refine wp1 (o := m.oX) rfl hm.oX (by simp) (v := .bool true) (w' := w1.putObj it (.mapIter (some bm) since (seen.push e.born) clock)) (by simp [execOp, hm.oX.1, e1, Instr.extract]) ?_
    have e2 : ∀ t, ((a.put (some m.tn) (.tuple #[.bool true, e.key, e.val])).put (some m.tx) (.bool true)).eval (.tmp t) = if t = m.tx then .bool true else if t = m.tn then .tuple #[.bool true, e.key, e.val] else a.eval (.tmp t) := fun t => by
      rw [ev_put (by rw [sz_put]; have := hm.lt; omega), e1]
    refine wpIn_seq (wpIn_cond_true (by rw [e2]; simp) (wpIn_skip ?_))
    show (Code.block m.b5 (.seq (.region m.rE m.opsE false) m.rest)).wpIn (FR none) 0 C.P _ _ _
    have r1w : Rel C { n, fix := [m.ti], val, mks := false } g0 w0 g1 w1 f (nrm N (some m.rN) s) a ∧ w1.heap = w.heap := by
      rcases hw1 with rfl | rfl
      · exact ⟨J1.rel, rfl⟩
      · exact ⟨J1.rel.drew, rfl⟩
    obtain ⟨r1w, hheap⟩ := r1w
    have hit1 : w1.heap[it]? = some (.mapIter (some bm) since seen c0) := by rw [hheap]; exact J1.iter
    have hitlt : it < w1.heap.size := (Array.getElem?_eq_some_iff.1 hit1).1
    have hcell1 : ∀ ad, w1.cell? ad = w.cell? ad := fun ad => by simp only [World.cell?, hheap]
    have lat1 : Later g1 w g1 w1 := ⟨Nat.le_refl _, fun _ _ => rfl, fun _ _ h => h, fun _ _ _ => hcell1 _⟩
    have hch2 := put_chg (g := g1) (o' := .mapIter (some bm) since (seen.push e.born) clock) hit1 rfl rfl
    have r2 := r1w.quietB rfl hch2 rfl (fun b e => by cases e; exact ⟨J1.iow, hit0⟩) fun b i x => by simpa using r1w.core.wf b i x
    have lat2 := lat1.trans hch2.later
    obtain ⟨k1, k2, k3⟩ := ER_get rest _ j e J1.eleft hj
    have J2 : MJ C { n, fix := [m.ti], val, mks := false } g0 w0 it bm mid since clock mes es (rest.eraseIdx j) (seen.push e.born) clock g1 (w1.putObj it (.mapIter (some bm) since (seen.push e.born) clock)) f (nrm N (some m.rN) s) a :=
      ⟨r2, J1.iow, J1.ist, World.putObj_heap_same hitlt, by omega, J1.mow, J1.mst, by rw [World.putObj_heap_other (Ne.symm hne), hheap]; exact J1.mp, J1.io, J1.idn, J1.eall.later lat2, by rw [left_push hnod hj]; exact k3.later lat2⟩
    have r3 := (J2.rel.val (d := some m.tn) (e := .v .U) (u := .tuple #[.bool true, e.key, e.val]) (fun x hx => by cases hx; exact hok _ hm.lt.2.1 hm.ne.1) trivial).val (d := some m.tx) (e := .v .U) (u := .bool true) (fun x hx => by cases hx; exact hok _ hm.lt.2.2.1 hm.ne.2.1) trivial
    refine wpIn_block (wpIn_seq (wpIn_region ?_))
    have hEs : (List.range m.opsE.size) = 0 :: (List.range m.opsE.size).drop 1 := by
      have : 0 < m.opsE.size := (Array.getElem?_eq_some_iff.1 hm.oE0).1
      have h := List.drop_eq_getElem_cons (l := List.range m.opsE.size) (i := 0) (by simpa using this)
      simpa using h
    rw [hEs]
    have hmem : e ∈ mes.toList := by
      have := List.mem_of_getElem? hj
      unfold leftOf at this
      rw [Array.toList_filter] at this
      exact (List.mem_filter.1 this).1
    refine wp1 (o := m.oE) hm.oE0 hm.oE (by simp) (v := .tuple #[e.key, e.val]) (w' := w1.putObj it (.mapIter (some bm) since (seen.push e.born) clock)) (by
      have := run_entryG (P := C.P) _ it bm since seen mes clock e J2.iter J2.mp hmem hnod
      have h0 : ((a.put (some m.tn) (.tuple #[.bool true, e.key, e.val])).put (some m.tx) (.bool true)).eval (.tmp m.ti) = .pointer (some ⟨it, 0, none⟩) := by
        rw [e2, if_neg (Ne.symm hm.ne.2.1), if_neg (Ne.symm hm.ne.1), hti]
      simp [execOp, hm.oE.1, h0, this]) ?_
    have r4 := r3.val (d := some m.tE) (e := .v (.T [(rest.getD j (.U, .U)).1, (rest.getD j (.U, .U)).2])) (u := .tuple #[e.key, e.val]) (fun x hx => by cases hx; exact hok _ hm.lt.2.2.2 hm.ne.2.2.1) (by
      show V g1 _ (.T _) _
      simp only [V]
      refine ⟨[e.key, e.val], rfl, ?_⟩
      simp only [VT]
      exact ⟨_, _, rfl, V.later lat2 _ _ k1, _, _, rfl, V.later lat2 _ _ k2, rfl⟩)
    have J4 : MJ C { n, fix := [m.ti], val, mks := false } g0 w0 it bm mid since clock mes es (rest.eraseIdx j) (seen.push e.born) clock g1 (w1.putObj it (.mapIter (some bm) since (seen.push e.born) clock)) f _ _ :=
      ⟨r4, J2.iow, J2.ist, J2.iter, J2.sc, J2.mow, J2.mst, J2.mp, J2.io, J2.idn, J2.eall, J2.eleft⟩
    refine aOps_sound (ro := none) (n := 0) (nt := { n, fix := [m.ti], val, mks := false }) hC hR hG (codeOK_fix (.region m.rE m.opsE false) hm.dE hm.offE) (hpanF _ _ _ _) ?_ (m.opsE.toList.drop 1) 1 g1 _ f _ _ rfl (J4.rel.base rfl) hF
    intro g5 w5 f5 s5 a5 r5 h5
    show m.rest.wpIn (FR none) 0 C.P _ a5 w5
    obtain ⟨g6, r6⟩ := r5.nrm (N := N) (headId m.rest)
    refine code_sound m.rest none hC hR hG (codeOK_fix m.rest hm.dT hm.offT) (.inl rfl) (.inl rfl) ?_ (fun id g w f s a _ h => absurd h.symm hR) (fun g w f s a _ h => absurd h.symm hR) (hpanF _ _ _ _) g6 w5 f5 _ a5 r6 h5
    intro g7 w7 f7 s7 a7 r7 h7
    show Code.roundsIn (FR none) 0 C.P _ _ (k + 1) a7 w7
    exact ih (rest.eraseIdx j) (seen.push e.born) clock g7 w7 f7 s7 a7 (by rw [List.length_eraseIdx_of_lt (by omega), hk]; rfl) (J4.chg r7.since (Rel.unbase J4.rel.ext rfl r7)) h7
theorem alloc1_chg {g : Gh} {w : World} (hwf : ∀ b i, g.st b i → b < w.heap.size) (o1 : Obj) : Chg (fun _ => False) g w (g.only w.heap.size) (w.alloc o1) := by
  have hh : ∀ b, b < w.heap.size → (w.alloc o1).heap[b]? = w.heap[b]? := fun b hb => by
    show (w.heap.push o1)[b]? = _
    rw [Array.getElem?_push_lt hb]
    simp [hb]
  refine ⟨⟨Nat.le_refl _, fun _ _ => rfl, fun _ _ h => h, fun b i hx => ?_⟩, by simp, fun b hb _ => hh b hb, fun b hb _ => by simp [Gh.only, hb], fun _ _ _ _ h => h, fun ad hb => ?_, rfl, rfl, rfl, fun b c t fr hb => ⟨c, by rw [hh b (Array.getElem?_eq_some_iff.1 hb).1]; exact hb, rfl⟩⟩
  · simp only [World.cell?, hh b (hwf b i hx)]
  · simp only [World.frozen?, hh _ hb]
theorem mapK_sound (hC : OkC C) (hR : R ≠ .stuck) (hnp : ∀ v h, R ≠ .pan v h) (hG : ∀ j, Sound C j (G j)) (hm : m.OK C.P n) {Q : Exit → Act → World → Prop} {kT : St → Res}
    (hQ : ∀ g w f s a, Rel C (NT.of n) g0 w0 g w f s a → kT s = R → Q .normal a w) (g : Gh) (w : World) (f : Fr) (s : St) (a : Act) (r : Rel C (NT.of n) g0 w0 g w f s a)
    (h : mapK C N (stdAlg C.pure (noPan G)) (stdAlg C.pure G) m kT s = R) : m.code.wpIn (FR none) 0 C.P Q a w := by
  have hpanF : ∀ (nt : NT) (g0 : Gh) (w0 : World) (Q : Exit → Act → World → Prop), PanAll nt g0 w0 Q R := fun nt g0 w0 Q => by
    unfold PanAll
    cases nt.mks with
    | true => exact hnp
    | false => exact fun a _ v h' u g' w' e => absurd e (hnp v h')
  have hdrop0 : (List.range m.opsR.size) = (List.range m.opsR.size).drop 0 := by simp
  have hsize : m.opsR.size = m.pre.length + 1 := by
    have := congrArg List.length hm.ops
    simpa using this
  refine wpIn_seq (wpIn_region ?_)
  rw [hdrop0]
  refine aOps_pre (ro := none) (n := 0) hC hR hG hm.dR (hpanF _ _ _ _) [m.oR] m.pre 0 (by simpa using hm.ops) ?_ g w f s a r h
  intro g1 w1 f1 s1 a1 r1 h1
  split at h1
  case h_2 => exact absurd h1.symm hR
  rename_i mid hmid
  split at h1
  case h_2 => exact absurd h1.symm hR
  rename_i es hes
  have hM := r1.core.heap.map mid es hes
  have hidn : mid < g1.n := by rw [← r1.core.heap.len]; exact (List.getElem?_eq_some_iff.1 hes).1
  obtain ⟨mes, clock, q1, q2, q3, q4⟩ := hM.row
  have hev : a1.eval (.tmp m.tm) = .map (some (g1.io mid)) := by
    have := r1.env m.tm
    rw [hmid] at this
    have h2 : mid < g1.n ∧ a1.tmps.getD m.tm undef = .map (some (g1.io mid)) := by simpa [VE, V] using this
    rw [← h2.2]
    simp [Act.eval, Array.getD_eq_getD_getElem?]
  have hrange : (List.range m.opsR.size).drop (0 + m.pre.length) = [m.pre.length] := by
    rw [hsize, Nat.zero_add, List.range_succ, List.drop_append_of_le_length (by simp)]
    simp
  rw [hrange]
  obtain ⟨kk, ee, hut⟩ := hm.ut
  have hi : m.opsR[m.pre.length]? = some m.oR := by
    rw [← Array.getElem?_toList, hm.ops]
    simp
  refine wp1 (o := m.oR) hi hm.oR (by simp) (v := .pointer (some ⟨w1.heap.size, 0, none⟩)) (w' := w1.alloc (.mapIter (some (g1.io mid)) clock #[] clock)) (by
    have := run_range_map (P := C.P) w1 m.mt kk ee (g1.io mid) mes clock hut q1
    simp [execOp, hm.oR.1, hev, this]) ?_
  have hch := alloc1_chg (g := g1) r1.core.wf (.mapIter (some (g1.io mid)) clock #[] clock)
  have r2 := r1.quietB rfl hch rfl (fun _ x => x.elim) fun b i x => by
    have := r1.core.wf b i x
    simp
    omega
  have r3 := r2.hide rfl hes
  have r4 := r3.val (d := some m.ti) (e := .v .U) (u := .pointer (some ⟨w1.heap.size, 0, none⟩)) (fun x hx => by cases hx; exact ⟨hm.lt.1, rfl⟩) trivial
  have hbmlt := hM.lt
  have hsz : n ≤ a1.tmps.size := r1.sz
  have lat := hch.later
  refine wpIn_block (wpIn_loop_rounds (es.length + 1) ?_)
  refine mapTree_sound (g0 := g0) (w0 := w0) (it := w1.heap.size) (bm := g1.io mid) (mid := mid) (since := clock) (clock := clock) (mes := mes) (es := es) (val := fun t => (a1.put (some m.ti) (.pointer (some ⟨w1.heap.size, 0, none⟩))).tmps.getD t undef) hC hR hnp hG hm ?_ ?_ r1.ext.size (by omega) q3 q4 rfl hQ es.length es #[] clock _ _ f1 _ _ rfl
    ⟨⟨r4.ext, r4.core, r4.env, r4.glob, r4.dfr, r4.sz, fun t _ => rfl⟩, ?_, ?_, ?_, Nat.le_refl _, ?_, hM.st, ?_, rfl, hidn, ?_, ?_⟩ h1
  · rw [getD_put m.ti (by have := hm.lt.1; omega), if_pos rfl]
  · rcases Nat.lt_or_ge (g1.io mid) w0.heap.size with hlt | hge
    · right
      intro h0
      have := r1.ext.ow _ hlt (fun x => x h0)
      rw [hM.ow, h0] at this
      cases this
    · exact .inl hge
  · show (if w1.heap.size = g1.io mid then none else (if w1.heap.size < w1.heap.size then g1.ow w1.heap.size else none)) = none
    split <;> simp
  · intro i x
    have := r1.core.wf _ i x
    omega
  · exact World.alloc_heap_new w1 _
  · show (if g1.io mid = g1.io mid then none else _) = none
    rw [if_pos rfl]
  · show (w1.heap.push _)[g1.io mid]? = _
    rw [Array.getElem?_push_lt hbmlt]
    rw [Array.getElem?_eq_getElem hbmlt] at q1
    exact q1
  · exact (q2.later lat).later (Later.sameV (g := g1.only w1.heap.size) (g' := (g1.only w1.heap.size).hide (g1.io mid)) _ rfl rfl rfl)
  · have : (leftOf mes #[]).toList = mes.toList := by
      unfold leftOf
      rw [Array.toList_filter]
      exact List.filter_eq_self.2 fun x _ => by simp
    rw [this]
    exact (q2.later lat).later (Later.sameV (g := g1.only w1.heap.size) (g' := (g1.only w1.heap.size).hide (g1.io mid)) _ rfl rfl rfl)
end
def seqL : List Code → Code → Code
  | [], T => T
  | c :: cs, T => .seq c (seqL cs T)
def headL (cs : List Code) (T : Code) : Option Nat := match cs with
  | [] => headId T
  | c :: _ => headId c
def preL : Nat → Code → List Code
  | k + 1, .seq a b => a :: preL k b
  | _, _ => []
def dropS : Nat → Code → Code
  | k + 1, .seq _ b => dropS k b
  | _, c => c
def rangeOf : Op → TypeId × Nat
  | .range t (.tmp x) => (t, x)
  | _ => (0, 0)
def dstOf (o : Oper) : Nat := o.dst.getD 0
def mkMap : Code → MapLoop
  | .seq (.region rR opsR _) (.block b (.loop (.seq (.region rN opsN _) (.seq (.cond (.tmp tx) _ _) (.block b5 (.seq (.region rE opsE _) rest)))))) =>
    let oR := opsR.toList.getLastD default
    { opsR, pre := opsR.toList.dropLast, oR, oN := opsN.toList.getD 0 default, oX := opsN.toList.getD 1 default, oE := opsE.toList.getD 0 default, mt := (rangeOf oR.op).1, tt := 0, tm := (rangeOf oR.op).2, ti := dstOf oR, tn := dstOf (opsN.toList.getD 0 default), tx, tE := dstOf (opsE.toList.getD 0 default), rR, rN, rE, b, b5, opsE, rest }
  | _ => { opsR := #[], pre := [], oR := default, oN := default, oX := default, oE := default, mt := 0, tt := 0, tm := 0, ti := 0, tn := 0, tx := 0, tE := 0, rR := 0, rN := 0, rE := 0, b := 0, b5 := 0, opsE := #[], rest := .skip }
section
variable (C : Cx) (N : Ann) (AN A : Alg Res)
noncomputable def aSeq (T : Code) (kT kr : St → Res) : List Code → St → Res
  | [], s => kT s
  | c :: cs, s => aC C N AN A c (fun s' => aSeq T kT kr cs (nrm N (headL cs T) s')) (fun _ _ => .stuck) kr s
end
noncomputable def semMr (C : Cx) (N : Ann) (fn : Func) (pre : List Code) (m : MapLoop) (post : Code) (G : FuncId → FF) : FF := fun as h =>
  let Rk := resK (stdAlg C.pure G) C N fn
  let r := aSeq C N (stdAlg C.pure (noPan G)) (stdAlg C.pure G) (.seq m.code post) (fun s => mapK C N (stdAlg C.pure (noPan G)) (stdAlg C.pure G) m (fun s' => aC C N (stdAlg C.pure (noPan G)) (stdAlg C.pure G) post Rk (fun _ _ => .stuck) Rk (nrm N (headId post) s')) s) Rk pre (initSt as h)
  match r with
  | .ret v h => .ret v h
  | _ => .stuck
section
variable {C : Cx} {N : Ann} {G : FuncId → List AV → List HO → Res} {g0 : Gh} {w0 : World} {R : Res} {n : Nat} {m : MapLoop}
theorem aSeq_sound (hC : OkC C) (hR : R ≠ .stuck) (hnp : ∀ v h, R ≠ .pan v h) (hG : ∀ j, Sound C j (G j)) {T : Code} {kT kr : St → Res} {Q : Exit → Act → World → Prop}
    (hT : ∀ g w f s a, Rel C (NT.of n) g0 w0 g w f s a → kT s = R → T.wpIn (FR none) 0 C.P Q a w) (hr : ∀ g w f s a, Rel C (NT.of n) g0 w0 g w f s a → kr s = R → Q .ret a w) :
    ∀ (cs : List Code), (cs.all fun c => codeOK (NT.of n) c) = true → ∀ g w f s a, Rel C (NT.of n) g0 w0 g w f s a → aSeq C N (stdAlg C.pure (noPan G)) (stdAlg C.pure G) T kT kr cs s = R → (seqL cs T).wpIn (FR none) 0 C.P Q a w
  | [], _, g, w, f, s, a, r, h => hT g w f s a r h
  | c :: cs, hok, g, w, f, s, a, r, h => by
    simp only [List.all_cons, Bool.and_eq_true] at hok
    refine wpIn_seq (code_sound c none hC hR hG hok.1 (.inl rfl) (.inl rfl) (Q := Exit.then ((seqL cs T).wpIn (FR none) 0 C.P Q) Q) ?_ (fun id g w f s a _ h => absurd h.symm hR) (fun g w f s a r h => hr g w f s a r h) (fun a _ v h' u g' w' e => absurd e (hnp v h')) g w f s a r h)
    intro g1 w1 f1 s1 a1 r1 h1
    obtain ⟨g2, r2⟩ := r1.nrm (N := N) (headL cs T)
    exact aSeq_sound hC hR hnp hG hT hr cs hok.2 g2 w1 f1 _ a1 r2 h1
theorem sound_mr (hC : OkC C) (hG : ∀ j, Sound C j (G j)) {f : FuncId} {fn : Func} {pre : List Code} {post : Code} (hf : C.P.funcs[f]? = some fn) (hb : fn.body = some (seqL pre (.seq m.code post))) (hname : fn.name ≠ "runtime.NumGoroutine")
    (hm : m.OK C.P fn.ntmps) (hpre : (pre.all fun c => codeOK (NT.of fn.ntmps) c) = true) (hpost : codeOK (NT.of fn.ntmps) post = true)
    (hlen : fn.results.size = fn.resultTypes.size) (hdrop : N.drop = C.pure f) (hceat : C.eats f = none) (hNf : N.fresh = none) (hfresh : C.fresh f = none) : Sound C f (semMr C N fn pre m post G) := by
  have hcall : Callable C.P f := ⟨fn, hf, by rw [hb]; rfl, hname⟩
  have key : ∀ (g : Gh) (w : World) (as : List AV) (vals : List Value) (h : List HO) (R : Res) (R' : Ending → World → Prop), R ≠ .stuck → semMr C N fn pre m post G as h = R → HeapR g w h → VT g w as vals → Wf g w → GlobR C g w →
      (∀ g' w' f' s' a', Rel C (NT.of fn.ntmps) g.fr0 w g' w' f' s' a' → resK (stdAlg C.pure G) C N fn s' = R → ∃ v, (results fn a'.tmps).run C.P w' = .ok v w' ∧ R' (.returned v) w') → Calls C.P f vals.toArray w R' := by
    intro g w as vals h R R' hR hr hh hv hwf hgl hfin
    have hrel := init_rel (C := C) (n := fn.ntmps) (b := false) hh hv hwf hgl
    unfold semMr at hr
    dsimp only at hr
    split at hr
    case h_2 => exact absurd hr.symm hR
    rename_i rv rh hr'
    subst hr
    have hnp : ∀ v h, Res.ret rv rh ≠ .pan v h := fun v h e => by cases e
    have fin : ∀ g' w' f' s' a', Rel C (NT.of fn.ntmps) g.fr0 w g' w' f' s' a' → resK (stdAlg C.pure G) C N fn s' = .ret rv rh → bodyPost C.P fn R' .ret a' w' := by
      intro g' w' f' s' a' r hk
      obtain ⟨v, h1, h2⟩ := hfin g' w' f' s' a' r hk
      exact ⟨r.dfr, v, h1, h2⟩
    refine callsIn_wide.1 ((?_ : CallsIn (FR none) 0 C.P f vals.toArray w R'))
    refine callsIn_of_wp (F := FR none) (n := 0) hf hb trivial ?_
    refine aSeq_sound (n := fn.ntmps) hC hR hnp hG ?_ fin pre hpre g w _ _ _ hrel hr'
    intro g1 w1 f1 s1 a1 r1 h1
    refine wpIn_seq (mapK_sound hC hR hnp hG hm ?_ g1 w1 f1 s1 a1 r1 h1)
    intro g2 w2 f2 s2 a2 r2 h2
    show post.wpIn (FR none) 0 C.P _ a2 w2
    obtain ⟨g3, r3⟩ := r2.nrm (N := N) (headId post)
    exact code_sound post none hC hR hG hpost (.inl rfl) (.inl rfl) fin (fun id g w f s a _ h => absurd h.symm hR) fin (fun a _ v h' u g' w' e => absurd e (hnp v h')) g3 w2 f2 _ a2 r3 h2
  unfold Sound
  split
  · rename_i hp
    refine ⟨?_, fun e he => by rw [hceat] at he; cases he⟩
    intro g w as vals R hr hR hnp hn0 hv hwf hgl how
    have hh : HeapR g w [] := ⟨by rw [hn0]; rfl, fun id hid => by omega, fun id cs hc => by simp at hc, fun id es hc => by simp at hc⟩
    refine ⟨hcall, key g w as vals [] R _ hR hr hh hv hwf hgl ?_⟩
    have chgF : ∀ {g' : Gh} {w' : World}, Chg (fun b => g.ow b ≠ none) g w g' w' → Chg (fun _ => False) g w g' w' := fun h => h.mono fun b _ hB => hB (how b)
    intro g' w' f' s' a' r h
    obtain ⟨v, u, g2, k1, k2, k3, k4, k5, k6⟩ := end_plain hR hNf hlen r h
    rw [hfresh]
    exact ⟨u, k1, v, _, g2, k6, chgF (fr0_chg k2), k5, k4⟩
  · rename_i hp
    intro g w as vals h R hr hR hh hv hwf hgl how
    refine ⟨hcall, key g w as vals h R _ hR hr hh hv hwf hgl ?_⟩
    intro g' w' f' s' a' r hk
    obtain ⟨v, u, g2, k1, k2, k3, k4, k5, k6⟩ := end_plain hR hNf hlen r hk
    have : N.drop = false := by rw [hdrop]; simpa using hp
    rw [this] at k6
    exact ⟨u, k1, v, _, g2, k6, fr0_chg k2, k3, k4, k5⟩
end
end Go.Vm
namespace Go.Vm
open Go
section
variable {C : Cx}
theorem Sound.by {f : FuncId} {S : FF} (he : C.eats f = none) (h : ∀ as hp, S as hp ≠ .stuck → ∃ S', Sound C f S' ∧ S as hp = S' as hp) : Sound C f S := by
  unfold Sound
  split
  · rename_i hp
    refine ⟨fun g w as vals R hr hR => ?_, fun e h => by rw [he] at h; cases h⟩
    obtain ⟨S', hs, heq⟩ := h as [] (by rw [hr]; exact hR)
    unfold Sound at hs
    rw [if_pos hp] at hs
    exact hs.1 g w as vals R (heq.symm.trans hr) hR
  · rename_i hp
    intro g w as vals hh R hr hR
    obtain ⟨S', hs, heq⟩ := h as hh (by rw [hr]; exact hR)
    unfold Sound at hs
    rw [if_neg hp] at hs
    exact hs g w as vals hh R (heq.symm.trans hr) hR
def orE (a b : FF) : FF := fun as h => match a as h with
  | .stuck => b as h
  | r => r
theorem sound_orE {f : FuncId} {a b : FF} (he : C.eats f = none) (ha : Sound C f a) (hb : Sound C f b) : Sound C f (orE a b) := by
  refine Sound.by he fun as hp _ => ?_
  unfold orE
  cases e : a as hp with
  | stuck => exact ⟨b, hb, rfl⟩
  | _ => exact ⟨a, ha, e.symm⟩
theorem sound_memos {f : FuncId} (he : C.eats f = none) : ∀ (l : List (List AV × List HO × Res)), (∀ p ∈ l, ∃ S, Sound C f S ∧ S p.1 p.2.1 = p.2.2) → Sound C f (memo l)
  | [], _ => (sound_stuck f).less fun _ _ => .inl rfl
  | (a, h, r) :: l, hl => by
    refine Sound.by he fun as hp hn => ?_
    simp only [memo] at hn ⊢
    cases e : eqVs as a && eqHOs hp h with
    | true =>
      rw [Bool.and_eq_true] at e
      obtain ⟨S, hs, heq⟩ := hl (a, h, r) List.mem_cons_self
      refine ⟨S, hs, ?_⟩
      rw [eqVs_eq _ _ e.1, eqHOs_eq _ _ e.2]
      exact heq.symm
    | false => exact ⟨memo l, sound_memos he l fun p hp => hl p (List.mem_cons_of_mem _ hp), rfl⟩
abbrev ML := List (Nat × List AV × List HO × Res)
def memK (k : Nat) : ML → FF
  | [], _, _ => .stuck
  | (i, a, h, r) :: l, as, hp => bif Nat.beq i k && (eqHOs hp h && eqVs as a) then r else memK k l as hp
theorem sound_memK {k : FuncId} (he : C.eats k = none) : ∀ (l : ML), (∀ p ∈ l, p.1 = k → ∃ S, Sound C k S ∧ S p.2.1 p.2.2.1 = p.2.2.2) → Sound C k (memK k l)
  | [], _ => (sound_stuck k).less fun _ _ => .inl rfl
  | (i, a, h, r) :: l, hl => by
    refine Sound.by he fun as hp hn => ?_
    simp only [memK] at hn ⊢
    cases e : Nat.beq i k && (eqHOs hp h && eqVs as a) with
    | true =>
      rw [Bool.and_eq_true, Bool.and_eq_true] at e
      obtain ⟨S, hs, heq⟩ := hl (i, a, h, r) List.mem_cons_self (Nat.eq_of_beq_eq_true e.1)
      refine ⟨S, hs, ?_⟩
      rw [eqVs_eq _ _ e.2.2, eqHOs_eq _ _ e.2.1]
      exact heq.symm
    | false => exact ⟨memK k l, sound_memK he l fun p hp => hl p (List.mem_cons_of_mem _ hp), rfl⟩
def memOff (eats : FuncId → Option TypeId) (l : ML) : Bool := l.all fun p => (eats p.1).isNone
def hasK (k : Nat) (l : ML) : Bool := l.any fun p => Nat.beq p.1 k
noncomputable def GGm (tab : List (Nat × ((FuncId → FF) → FF))) (l : ML) : Nat → FuncId → FF
  | 0, _ => fun _ _ => .stuck
  | n + 1, k => bif hasK k l then orE (memK k l) (lkF k tab (GGm tab l n)) else lkF k tab (GGm tab l n)
theorem GGm_sound {tab : List (Nat × ((FuncId → FF) → FF))} (htab : ∀ {G : FuncId → FF}, (∀ j, Sound C j (G j)) → ∀ k, Sound C k (lkF k tab G)) {l : ML} (hoff : memOff C.eats l = true) (hl : ∀ p ∈ l, ∃ S, Sound C p.1 S ∧ S p.2.1 p.2.2.1 = p.2.2.2) :
    ∀ n k, Sound C k (GGm tab l n k)
  | 0, k => sound_stuck k
  | n + 1, k => by
    have ih := GGm_sound htab hoff hl n
    unfold GGm
    cases hk : hasK k l with
    | false => exact htab ih k
    | true =>
      have he : C.eats k = none := by
        unfold hasK at hk
        obtain ⟨p, hp, hpk⟩ := List.any_eq_true.1 hk
        have := List.all_eq_true.1 hoff p hp
        rw [Nat.eq_of_beq_eq_true hpk] at this
        simpa using this
      exact sound_orE he (sound_memK he l fun p hp e => by
        obtain ⟨S, h1, h2⟩ := hl p hp
        rw [e] at h1
        exact ⟨S, h1, h2⟩) (htab ih k)
end
end Go.Vm
namespace Go.Vm
open Go
section
variable {H : Type}
mutual
def dOK : DataW H → Bool
  | .lit (.string bs) => decide (bs.length ≤ 140737488355328)
  | .lit _ => true
  | .nil => true
  | .ptr d => dOK d
  | .slice e _ => dOKs e
  | .agg p => dOKs p
  | .iface _ d => dOK d
  | .map _ => true
  | .held _ => true
def dOKs : List (DataW H) → Bool
  | [] => true
  | d :: r => dOK d && dOKs r
end
def byteD : DataW H → UInt8
  | .lit (.int _ n) => UInt8.ofNat n.toNat
  | _ => 0
def avD (P : Program) : Nat → TypeId → DataW H → List AV
  | 0, _, _ => []
  | d + 1, t, x => match und P t, x with
    | .bool, .lit (.bool b) => [.B b]
    | .int _, .lit (.int k n) => [.I k n]
    | .string, .lit (.string bs) => [.S bs]
    | .slice e, .nil => [if byteT P e then .Y [] else .L (szT P e) []]
    | .slice e, .slice els _ => [if byteT P e then .Y (els.map byteD) else .L (szT P e) (els.map (avD P d e))]
    | .struct fs, .agg parts => (fs.toList.zip parts).flatMap fun p => avD P d p.1.type p.2
    | .array _ e, .agg parts => parts.flatMap (avD P d e)
    | _, _ => []
end
def dataT (P : Program) : Nat → TypeId → Bool
  | 0, _ => false
  | d + 1, t => match und P t with
    | .bool | .int _ | .string => Nat.beq (szT P t) 1
    | .slice e => Nat.beq (szT P t) 1 && Nat.blt 0 (szT P e) && dataT P d e
    | .struct fs => tiles P 0 fs.toList (szT P t) && fs.toList.all fun f => dataT P d f.type
    | .array n e => Nat.beq (szT P t) (n * szT P e) && dataT P d e
    | _ => false
theorem dOKs_mem {H : Type} : ∀ {l : List (DataW H)} {d : DataW H}, dOKs l = true → d ∈ l → dOK d = true
  | x :: r, d, h, hm => by
    simp only [dOKs, Bool.and_eq_true] at h
    rcases List.mem_cons.1 hm with rfl | hm
    · exact h.1
    · exact dOKs_mem h.2 hm
theorem noPs_app : ∀ (a b : List AV), noPs a = true → noPs b = true → noPs (a ++ b) = true
  | [], b, _, h => h
  | x :: a, b, h, h' => by
    simp only [List.cons_append, noPs, Bool.and_eq_true] at h ⊢
    exact ⟨h.1, noPs_app a b h.2 h'⟩
section
variable {H : Type} {enc : TypeId × Value → H} {P : Program} {w : World} {base : Nat} {sp : Nat → Bool} {held : Bool} {g : Gh}
theorem wf_range {k : IntKind} {n : Int} (h : (Lit.int k n).wf = true) : k.min ≤ n ∧ n ≤ k.max := by
  simpa [Lit.wf] using h
theorem addr_block (a : Addr) (n : Nat) : (a.add n).block = a.block := by unfold Addr.add; split <;> rfl
theorem addr_off (a : Addr) (n : Nat) : (a.add n).off = a.off + n := by
  unfold Addr.add
  split
  · rename_i h; rw [h]; rfl
  · rfl
theorem spot_none {a : Addr} {v : Value} (h : w.cell? a = some v) : a = ⟨a.block, a.off, none⟩ := by
  obtain ⟨b, o, s⟩ := a
  cases s with
  | none => rfl
  | some s =>
    simp only [World.cell?] at h
    split at h
    · simp at h
    · cases h
theorem VC_of_VS {b : Nat} : ∀ (as : List AV) (vs : List Value) (o : Nat), VS g w as vs → (∀ j v, vs[j]? = some v → g.st b (o + j) ∧ w.cell? ⟨b, o + j, none⟩ = some v) → VC g w b o as
  | [], vs, o, _, _ => by simp [VC]
  | a :: as, vs, o, h, hc => by
    simp only [VS] at h
    obtain ⟨u, us, rfl, h1, h2, h3⟩ := h
    have h0 := hc 0 u rfl
    simp only [VC]
    refine ⟨by simpa using h0.1, ⟨u, by simpa using h0.2, h1, h2⟩, VC_of_VS as us (o + 1) h3 fun j v hv => ?_⟩
    have := hc (j + 1) v hv
    rw [show o + (j + 1) = o + 1 + j by omega] at this
    exact this
def Is (P : Program) (g : Gh) (w : World) (dep : Nat) (t : TypeId) (d : DataW H) (cs : List Value) : Prop :=
  VS g w (avD P dep t d) cs ∧ (avD P dep t d).length = szT P t ∧ noPs (avD P dep t d) = true
theorem VR_el {n b : Nat} : ∀ (l : List (List AV)) (o : Nat), (∀ i x, l[i]? = some x → x.length = n ∧ VC g w b (o + i * n) x) → VR g w n b o l
  | [], o, _ => by simp [VR]
  | x :: l, o, h => by
    have h0 := h 0 x rfl
    simp only [VR]
    refine ⟨h0.1, by simpa using h0.2, VR_el l (o + n) fun i y hy => ?_⟩
    have := h (i + 1) y (by simpa using hy)
    rw [show o + (i + 1) * n = o + n + i * n by rw [Nat.succ_mul]; omega] at this
    exact this
theorem fields_is {dep n : Nat} {cs : List Value} (hn : cs.length = n) : ∀ (fl : List Field) (ys : List (DataW H)) (off : Nat), tiles P off fl n = true → ys.length = fl.length →
    (∀ (i : Nat) (f : Field), fl[i]? = some f → ∃ y, ys[i]? = some y ∧ Is P g w dep f.type y ((cs.drop f.offset).take (szT P f.type))) →
    VS g w ((fl.zip ys).flatMap fun p => avD P dep p.1.type p.2) (cs.drop off) ∧ off + ((fl.zip ys).flatMap fun p => avD P dep p.1.type p.2).length = n ∧ noPs ((fl.zip ys).flatMap fun p => avD P dep p.1.type p.2) = true
  | [], ys, off, ht, hl, _ => by
    have := Nat.eq_of_beq_eq_true ht
    subst this
    refine ⟨?_, by simp, rfl⟩
    rw [List.drop_of_length_le (by omega)]
    simp [VS]
  | f :: fl, [], off, ht, hl, _ => by simp at hl
  | f :: fl, y :: ys, off, ht, hl, h => by
    simp only [tiles, Bool.and_eq_true] at ht
    have ho := Nat.eq_of_beq_eq_true ht.1
    obtain ⟨y', hy, h1, h2, h3⟩ := h 0 f rfl
    simp at hy
    subst hy
    obtain ⟨k1, k2, k3⟩ := fields_is hn fl ys (off + szT P f.type) ht.2 (by simpa using hl) fun i f' hf => by simpa using h (i + 1) f' (by simpa using hf)
    rw [ho] at h1
    simp only [List.zip_cons_cons, List.flatMap_cons]
    refine ⟨?_, by rw [List.length_append, h2]; omega, noPs_app _ _ h3 k3⟩
    have := VS_app _ _ _ _ h1 k1
    rwa [← List.drop_drop, List.take_append_drop] at this
theorem array_is {dep : Nat} {e : TypeId} {cs : List Value} : ∀ (ys : List (DataW H)) (k : Nat), cs.length = (k + ys.length) * szT P e → (∀ i y, ys[i]? = some y → Is P g w dep e y ((cs.drop ((k + i) * szT P e)).take (szT P e))) →
    VS g w (ys.flatMap (avD P dep e)) (cs.drop (k * szT P e)) ∧ (ys.flatMap (avD P dep e)).length = ys.length * szT P e ∧ noPs (ys.flatMap (avD P dep e)) = true
  | [], k, hl, _ => by
    refine ⟨?_, by simp, rfl⟩
    rw [List.drop_of_length_le (by simp at hl; omega)]
    simp [VS]
  | y :: ys, k, hl, h => by
    obtain ⟨h1, h2, h3⟩ := h 0 y rfl
    obtain ⟨k1, k2, k3⟩ := array_is ys (k + 1) (by rw [hl]; congr 1; simp; omega) fun i y' hy => by
      have := h (i + 1) y' (by simpa using hy)
      rwa [show k + (i + 1) = k + 1 + i by omega] at this
    simp only [List.flatMap_cons]
    refine ⟨?_, by rw [List.length_append, h2, k2, List.length_cons, Nat.succ_mul]; omega, noPs_app _ _ h3 k3⟩
    have := VS_app _ _ _ _ h1 k1
    rw [Nat.add_zero, show (k + 1) * szT P e = k * szT P e + szT P e by rw [Nat.succ_mul], ← List.drop_drop, List.take_append_drop] at this
    exact this
theorem trod_is (hst : ∀ b o, (w.cell? ⟨b, o, none⟩).isSome = true → g.st b o) : ∀ (dep fuel : Nat) (t : TypeId) (cs : List Value) (x : DataW H × List MemPlace), DataW.trod enc P w base sp held fuel t cs = some x → dataT P dep t = true → dOK x.1 = true → Is P g w dep t x.1 cs
  | 0, _, _, _, _, _, h, _ => by simp [dataT] at h
  | dep + 1, fuel, t, cs, x, h, ht, hd => by
    unfold dataT at ht
    unfold Is avD
    split at ht
    ·
      rename_i hu
      have hu' := und_some hu (by simp)
      obtain ⟨b, rfl, rfl⟩ := DataW.trod_bool hu' h
      simp only [hu]
      refine ⟨⟨_, _, rfl, V_B g w b, rfl, rfl⟩, by simpa using (Nat.eq_of_beq_eq_true ht).symm, by simp [noPs, noP]⟩
    · rename_i k hu
      have hu' := und_some hu (by simp)
      obtain ⟨z, rfl, rfl, hw⟩ := DataW.trod_int hu' h
      simp only [hu]
      have := wf_range hw
      refine ⟨⟨_, _, rfl, V_I g w this, rfl, rfl⟩, by simpa using (Nat.eq_of_beq_eq_true ht).symm, by simp [noPs, noP]⟩
    · rename_i hu
      have hu' := und_some hu (by simp)
      obtain ⟨bs, rfl, rfl, hl⟩ := DataW.trod_string hu' h
      simp only [hu]
      have hlen : bs.data.toList.length ≤ 140737488355328 := by simpa [dOK] using hd
      refine ⟨⟨_, _, rfl, ?_, rfl, rfl⟩, by simpa using (Nat.eq_of_beq_eq_true ht).symm, by simp [noPs, noP]⟩
      have := V_S g w hlen
      simpa using this
    ·
      rename_i e hu
      have hu' := und_some hu (by simp)
      simp only [Bool.and_eq_true] at ht
      have hz : 0 < szT P e := by simpa using ht.1.2
      have h1 := Nat.eq_of_beq_eq_true ht.1.1
      rcases DataW.trod_slice hu' h with ⟨rfl, rfl⟩ | ⟨a, len, cap, elems, rest, m, _, rfl, rfl, hb, hlc, hm, hlen, hel, _, _⟩
      · simp only [hu]
        split
        · refine ⟨⟨_, _, rfl, ?_, rfl, rfl⟩, by simpa using h1.symm, by simp [noPs, noP]⟩
          simp only [V]
          exact ⟨none, 0, 0, rfl, rfl, ⟨Nat.le_refl _, by omega⟩, .inl trivial⟩
        · refine ⟨⟨_, _, rfl, ?_, rfl, rfl⟩, by simpa using h1.symm, by simp [noPs, noP, noPss]⟩
          simp only [V]
          exact ⟨none, 0, 0, rfl, rfl, ⟨Nat.le_refl _, by omega⟩, .inl trivial⟩
      · simp only [hu]
        have hd' : dOKs (elems.map (·.1)) = true := by simpa [dOK] using hd
        have hmax : maxLen = 9223372036854775807 := by decide
        have each : ∀ i y, elems[i]? = some y → ∃ cs', w.cells? base (a.add (i * szT P e)) (szT P e) = some cs' ∧ DataW.trod enc P w base sp held m e cs' = some y := by
          intro i y hy
          have hi : i < len := by rw [← hlen]; exact (List.getElem?_eq_some_iff.1 hy).1
          have := hel i hi
          rw [hy] at this
          exact Option.bind_eq_some_iff.1 this
        have eachI : ∀ i y, elems[i]? = some y → ∃ cs', Is P g w dep e y.1 cs' ∧ cs'.length = szT P e ∧ (∀ j v, cs'[j]? = some v → g.st a.block (a.off + i * szT P e + j) ∧ w.cell? ⟨a.block, a.off + i * szT P e + j, none⟩ = some v) := by
          intro i y hy
          obtain ⟨cs', hcs, hy'⟩ := each i y hy
          obtain ⟨_, hcl, hcell⟩ := World.cells?_some hcs
          refine ⟨cs', trod_is hst dep m e cs' y hy' ht.2 (dOKs_mem hd' (List.mem_map.2 ⟨y, List.mem_of_getElem? hy, rfl⟩)), hcl, fun j v hv => ?_⟩
          have hj : j < szT P e := by rw [← hcl]; exact (List.getElem?_eq_some_iff.1 hv).1
          have hc := hcell j hj
          rw [hv] at hc
          have hsp := spot_none hc
          have hb' : ((a.add (i * szT P e)).add j).block = a.block ∧ ((a.add (i * szT P e)).add j).off = a.off + i * szT P e + j := by
            rw [addr_block, addr_block, addr_off, addr_off]
            exact ⟨rfl, rfl⟩
          rw [hb'.1, hb'.2] at hsp
          rw [hsp] at hc
          exact ⟨hst _ _ (by rw [hc]; rfl), hc⟩
        have hpt : ∀ y0, elems[0]? = some y0 → a = ⟨a.block, a.off, none⟩ := by
          intro y0 hy0
          obtain ⟨cs', hcs, _⟩ := each 0 y0 hy0
          obtain ⟨_, hcl, hcell⟩ := World.cells?_some hcs
          have := hcell 0 hz
          rw [Nat.zero_mul, show (a.add 0).add 0 = a by simp [Addr.add]] at this
          have h0 : 0 < cs'.length := by omega
          rw [List.getElem?_eq_getElem h0] at this
          exact spot_none this
        split
        · rename_i hby
          have hz1 := byteT_sz hby
          have hue := und_some (byteT_und hby) (by simp)
          refine ⟨⟨_, _, rfl, ?_, rfl, rfl⟩, by simpa using h1.symm, by simp [noPs, noP]⟩
          simp only [V]
          refine ⟨some a, len, cap, rfl, by simp [hlen], ⟨hlc, by omega⟩, ?_⟩
          cases helems : elems with
          | nil => exact .inl rfl
          | cons y0 l =>
            right
            rw [← helems]
            refine ⟨a.block, a.off, by rw [← hpt y0 (by rw [helems]; rfl)], VY_of _ _ fun j x hx => ?_⟩
            rw [List.getElem?_map, List.getElem?_map, Option.map_map, Option.map_eq_some_iff] at hx
            obtain ⟨y, hy, rfl⟩ := hx
            obtain ⟨cs', hcs, hy'⟩ := each j y hy
            obtain ⟨cs2, _, _, hc2⟩ := eachI j y hy
            obtain ⟨z, rfl, rfl, hw⟩ := DataW.trod_int hue hy'
            obtain ⟨_, hcl, hcell⟩ := World.cells?_some hcs
            have hr := wf_range hw
            have hb2 : ((a.add (j * szT P e)).add 0) = ⟨a.block, a.off + j, none⟩ := by
              have hc := hcell 0 (by omega)
              have hsp := spot_none (v := .int .u8 z) (by rw [hc]; rfl)
              rw [hsp]
              have : ((a.add (j * szT P e)).add 0).block = a.block ∧ ((a.add (j * szT P e)).add 0).off = a.off + j := by
                rw [hz1, Nat.mul_one]
                rw [addr_block, addr_block, addr_off, addr_off]
                exact ⟨rfl, rfl⟩
              rw [this.1, this.2]
            have hc := hcell 0 (by omega)
            rw [hb2] at hc
            have hc : w.cell? ⟨a.block, a.off + j, none⟩ = some (.int .u8 z) := hc
            refine ⟨?_, hst _ _ (by rw [hc]; rfl)⟩
            rw [hc]
            have e1 : IntKind.u8.min = 0 := by decide
            have e2 : IntKind.u8.max = 255 := by decide
            rw [e1, e2] at hr
            show some (Value.int .u8 z) = some (.int .u8 (UInt8.ofNat z.toNat).toNat)
            congr 2
            simp
            omega
        · refine ⟨⟨_, _, rfl, ?_, rfl, rfl⟩, by simpa using h1.symm, ?_⟩
          · simp only [V]
            refine ⟨some a, len, cap, rfl, by simp [hlen], ⟨hlc, by omega⟩, ?_⟩
            cases helems : elems with
            | nil => exact .inl rfl
            | cons y0 l =>
              right
              rw [← helems]
              refine ⟨a.block, a.off, by rw [← hpt y0 (by rw [helems]; rfl)], VR_el _ _ fun i x hx => ?_⟩
              rw [List.getElem?_map, List.getElem?_map, Option.map_map, Option.map_eq_some_iff] at hx
              obtain ⟨y, hy, rfl⟩ := hx
              obtain ⟨cs', ⟨k1, k2, _⟩, k4, k5⟩ := eachI i y hy
              exact ⟨k2, VC_of_VS _ _ _ k1 k5⟩
          · simp only [noPs, noP, Bool.and_true]
            have : ∀ (l : List (DataW H × List MemPlace)), (∀ y ∈ l, noPs (avD P dep e y.1) = true) → noPss ((l.map (·.1)).map (avD P dep e)) = true := by
              intro l
              induction l with
              | nil => intro _; rfl
              | cons y l ih =>
                intro hall
                simp only [List.map_cons, noPss, Bool.and_eq_true]
                exact ⟨hall y List.mem_cons_self, ih fun z hz => hall z (List.mem_cons_of_mem _ hz)⟩
            refine this elems fun y hy => ?_
            obtain ⟨i, hi⟩ := List.getElem?_of_mem hy
            obtain ⟨cs', ⟨_, _, k3⟩, _⟩ := eachI i y hi
            exact k3
    ·
      rename_i fs hu
      have hu' := und_some hu (by simp)
      simp only [Bool.and_eq_true] at ht
      obtain ⟨xs, m, _, rfl, hcl, hxl, hf⟩ := DataW.trod_struct hu' h
      simp only [hu]
      have hd' : dOKs (xs.map (·.1)) = true := by simpa [dOK] using hd
      have := fields_is (P := P) (g := g) (w := w) (dep := dep) (cs := cs) hcl fs.toList (xs.map (·.1)) 0 ht.1 (by simp [hxl]) fun i f hfi => by
        have h2 := hf i f (by rw [← Array.getElem?_toList]; exact hfi)
        have hlt : i < xs.length := by rw [hxl, ← Array.length_toList]; exact (List.getElem?_eq_some_iff.1 hfi).1
        rw [List.getElem?_eq_getElem hlt] at h2
        refine ⟨xs[i].1, by simp [hlt], trod_is hst dep m f.type _ xs[i] h2 (List.all_eq_true.1 ht.2 f (List.mem_of_getElem? hfi)) (dOKs_mem hd' (List.mem_map.2 ⟨xs[i], List.getElem_mem hlt, rfl⟩))⟩
      rw [List.drop_zero, Nat.zero_add] at this
      exact this
    ·
      rename_i n e hu
      have hu' := und_some hu (by simp)
      simp only [Bool.and_eq_true] at ht
      have hsz := Nat.eq_of_beq_eq_true ht.1
      obtain ⟨xs, m, _, rfl, hcl, hxl, hf⟩ := DataW.trod_array hu' h
      have hcl : cs.length = szT P t := hcl
      simp only [hu]
      have hd' : dOKs (xs.map (·.1)) = true := by simpa [dOK] using hd
      have := array_is (P := P) (g := g) (w := w) (dep := dep) (e := e) (cs := cs) (xs.map (·.1)) 0 (by rw [hcl, hsz]; simp [hxl]) fun i y hy => by
        rw [List.getElem?_map, Option.map_eq_some_iff] at hy
        obtain ⟨x, hx, rfl⟩ := hy
        have hlt : i < n := by rw [← hxl]; exact (List.getElem?_eq_some_iff.1 hx).1
        have h2 := hf i hlt
        rw [hx] at h2
        rw [Nat.zero_add]
        exact trod_is hst dep m e _ x h2 ht.2 (dOKs_mem hd' (List.mem_map.2 ⟨x, List.mem_of_getElem? hx, rfl⟩))
      rw [Nat.zero_mul, List.drop_zero] at this
      rw [hsz]
      refine ⟨this.1, ?_, this.2.2⟩
      rw [this.2.1]
      simp [hxl]
    · cases ht
end
end Go.Vm
namespace Go.Vm
open Go
section
variable {H : Type} {enc : TypeId × Value → H} {P : Program} {w : World} {base : Nat} {sp : Nat → Bool} {held : Bool}
theorem dOKs_of : ∀ {l : List (DataW H)}, (∀ d ∈ l, dOK d = true) → dOKs l = true
  | [], _ => rfl
  | d :: l, h => by
    simp only [dOKs, Bool.and_eq_true]
    exact ⟨h d List.mem_cons_self, dOKs_of fun x hx => h x (List.mem_cons_of_mem _ hx)⟩
def light (l : List Nat) : Prop := l.all (fun x => decide (x ≤ reachBytes)) = true
theorem light_app {a b : List Nat} (h : light (a ++ b)) : light a ∧ light b := by
  simpa [light, List.all_append, Bool.and_eq_true] using h
theorem light_all {e : TypeId} : ∀ {l : List (DataW H)}, light (DataW.weightsAll P e l) → ∀ d ∈ l, light (d.weights P e)
  | x :: l, h, d, hd => by
    simp only [DataW.weightsAll] at h
    obtain ⟨h1, h2⟩ := light_app h
    rcases List.mem_cons.1 hd with rfl | hd
    · exact h1
    · exact light_all h2 d hd
theorem light_each : ∀ {ts : List TypeId} {l : List (DataW H)}, light (DataW.weightsEach P ts l) → ∀ (i : Nat) t d, ts[i]? = some t → l[i]? = some d → light (d.weights P t)
  | t :: ts, x :: l, h, 0, t', d, ht, hd => by
    simp only [DataW.weightsEach] at h
    simp at ht hd
    subst ht; subst hd
    exact (light_app h).1
  | t :: ts, x :: l, h, i + 1, t', d, ht, hd => by
    simp only [DataW.weightsEach] at h
    exact light_each (light_app h).2 i t' d (by simpa using ht) (by simpa using hd)
  | [], _, _, _, _, _, ht, _ => by simp at ht
  | _ :: _, [], _, _, _, _, _, hd => by simp at hd
theorem trod_ok : ∀ (dep fuel : Nat) (t : TypeId) (cs : List Value) (x : DataW H × List MemPlace), DataW.trod enc P w base sp held fuel t cs = some x → dataT P dep t = true → light (x.1.weights P t) → dOK x.1 = true
  | 0, _, _, _, _, _, h, _ => by simp [dataT] at h
  | dep + 1, fuel, t, cs, x, h, ht, hl => by
    unfold dataT at ht
    split at ht
    · rename_i hu
      obtain ⟨b, rfl, rfl⟩ := DataW.trod_bool (und_some hu (by simp)) h
      rfl
    · rename_i k hu
      obtain ⟨z, rfl, rfl, hw⟩ := DataW.trod_int (und_some hu (by simp)) h
      rfl
    · rename_i hu
      obtain ⟨bs, rfl, rfl, _⟩ := DataW.trod_string (und_some hu (by simp)) h
      simp only [DataW.weights, light, List.all_cons, List.all_nil, Bool.and_true, decide_eq_true_eq] at hl
      simp only [dOK, decide_eq_true_eq]
      unfold reachBytes at hl
      omega
    · rename_i e hu
      have hu' := und_some hu (by simp)
      simp only [Bool.and_eq_true] at ht
      rcases DataW.trod_slice hu' h with ⟨rfl, rfl⟩ | ⟨a, len, cap, elems, rest, m, _, rfl, rfl, hb, hlc, hm, hlen, hel, _, _⟩
      · rfl
      · simp only [DataW.weights, hu'] at hl
        have hl2 : light (DataW.weightsAll P e (elems.map (·.1))) := by
          have : light ([_] ++ (_ ++ _)) := hl
          exact (light_app (light_app this).2).1
        simp only [dOK]
        refine dOKs_of fun d hd => ?_
        obtain ⟨y, hy, rfl⟩ := List.mem_map.1 hd
        obtain ⟨i, hi⟩ := List.getElem?_of_mem hy
        have hil : i < len := by rw [← hlen]; exact (List.getElem?_eq_some_iff.1 hi).1
        have := hel i hil
        rw [hi] at this
        obtain ⟨cs', _, h2⟩ := Option.bind_eq_some_iff.1 this
        exact trod_ok dep m e cs' y h2 ht.2 (light_all hl2 _ hd)
    · rename_i fs hu
      have hu' := und_some hu (by simp)
      simp only [Bool.and_eq_true] at ht
      obtain ⟨xs, m, _, rfl, hcl, hxl, hf⟩ := DataW.trod_struct hu' h
      simp only [DataW.weights, hu'] at hl
      simp only [dOK]
      refine dOKs_of fun d hd => ?_
      obtain ⟨y, hy, rfl⟩ := List.mem_map.1 hd
      obtain ⟨i, hi⟩ := List.getElem?_of_mem hy
      have hil : i < fs.size := by rw [← hxl]; exact (List.getElem?_eq_some_iff.1 hi).1
      have hfi : fs[i]? = some fs[i] := Array.getElem?_eq_getElem hil
      have h2 := hf i fs[i] hfi
      rw [hi] at h2
      refine trod_ok dep m fs[i].type _ y h2 (List.all_eq_true.1 ht.2 _ (by simp)) (light_each hl i _ _ ?_ (by simp [hi]))
      rw [List.getElem?_map, Array.getElem?_toList, hfi]
      rfl
    · rename_i n e hu
      have hu' := und_some hu (by simp)
      simp only [Bool.and_eq_true] at ht
      obtain ⟨xs, m, _, rfl, hcl, hxl, hf⟩ := DataW.trod_array hu' h
      simp only [DataW.weights, hu'] at hl
      simp only [dOK]
      refine dOKs_of fun d hd => ?_
      obtain ⟨y, hy, rfl⟩ := List.mem_map.1 hd
      obtain ⟨i, hi⟩ := List.getElem?_of_mem hy
      have hil : i < n := by rw [← hxl]; exact (List.getElem?_eq_some_iff.1 hi).1
      have h2 := hf i hil
      rw [hi] at h2
      exact trod_ok dep m e _ y h2 ht.2 (light_all hl _ hd)
    · cases ht
theorem args_ok : ∀ (ts : List TypeId) (vs : List Value) (ds : List (DataW H)) (ps : List MemPlace), DataW.TrodAll enc P w base sp held ts vs ds ps → (ts.all fun t => dataT P 20 t) = true → light (DataW.weightsEach P ts ds) → dOKs ds = true
  | [], [], [], ps, h, _, _ => rfl
  | [], [], _ :: _, ps, h, _, _ => by simp [DataW.TrodAll] at h
  | [], _ :: _, _, ps, h, _, _ => by simp [DataW.TrodAll] at h
  | t :: ts, [], _, ps, h, _, _ => by simp [DataW.TrodAll] at h
  | t :: ts, v :: vs, [], ps, h, _, _ => by simp [DataW.TrodAll] at h
  | t :: ts, v :: vs, d :: ds, ps, h, ht, hl => by
    simp only [DataW.TrodAll] at h
    obtain ⟨p, q, ⟨fuel, h1⟩, h2, rfl⟩ := h
    simp only [List.all_cons, Bool.and_eq_true] at ht
    simp only [DataW.weightsEach] at hl
    obtain ⟨l1, l2⟩ := light_app hl
    simp only [dOKs, Bool.and_eq_true]
    exact ⟨trod_ok 20 fuel t _ _ h1 ht.1 l1, args_ok ts vs ds q h2 ht.2 l2⟩
end
def gin (W : World) : Gh := { n := 0, io := fun _ => 0, st := fun b i => (W.cell? ⟨b, i, none⟩).isSome = true, ow := fun _ => none, df := [] }
theorem gin_wf (W : World) : Wf (gin W) W := by
  intro b i h
  have h : (W.cell? ⟨b, i, none⟩).isSome = true := h
  rcases Nat.lt_or_ge b W.heap.size with hlt | hge
  · exact hlt
  · simp [World.cell?, Array.getElem?_eq_none hge] at h
def argAV {H : Type} (P : Program) (t : TypeId) (d : DataW H) : AV := if aggT P t = true then .A (avD P 20 t d) else (avD P 20 t d).headD .U
def argsOf {H : Type} (P : Program) : List TypeId → List (DataW H) → List AV
  | t :: ts, d :: ds => argAV P t d :: argsOf P ts ds
  | _, _ => []
section
variable {H : Type} {enc : TypeId × Value → H} {P : Program} {W : World}
theorem cells_one {r : Reach} {base : Nat} {t : TypeId} {v : Value} (ht : dataT P 20 t = true) (ha : aggT P t = false) (hv : Value.okWide P W r base t v) : v.cells = #[v] := by
  unfold dataT at ht
  cases v with
  | agg cs =>
    exfalso
    split at ht
    · rename_i hu; simp [Value.okWide, und_some hu (by simp), Cell.okWide, Cell.ok] at hv
    · rename_i hu; simp [Value.okWide, und_some hu (by simp), Cell.okWide, Cell.ok] at hv
    · rename_i hu; simp [Value.okWide, und_some hu (by simp), Cell.okWide, Cell.ok] at hv
    · rename_i hu; simp [Value.okWide, und_some hu (by simp), Cell.okWide, Cell.ok] at hv
    · rename_i hu; simp [aggT, hu] at ha
    · rename_i hu; simp [aggT, hu] at ha
    · cases ht
  | _ => rfl
theorem cells_agg {r : Reach} {base : Nat} {t : TypeId} {v : Value} (ha : aggT P t = true) (hv : Value.okWide P W r base t v) : ∃ cs, v = .agg cs := by
  unfold aggT at ha
  split at ha
  · rename_i fs hu
    simp only [Value.okWide, und_some hu (by simp)] at hv
    obtain ⟨cs, h, _⟩ := hv
    exact ⟨cs, h⟩
  · rename_i n e hu
    simp only [Value.okWide, und_some hu (by simp)] at hv
    obtain ⟨cs, h, _⟩ := hv
    exact ⟨cs, h⟩
  · cases ha
theorem args_VT {base : Nat} : ∀ (ts : List TypeId) (vs : List Value) (ds : List (DataW H)) (ps : List MemPlace), DataW.TrodAll enc P W 0 (fun _ => true) true ts vs ds ps → (ts.all fun t => dataT P 20 t) = true → dOKs ds = true →
    (∀ (j : Nat) t v, ts[j]? = some t → vs[j]? = some v → Value.okWide P W .any base t v) → VT (gin W) W (argsOf P ts ds) vs ∧ noPs (argsOf P ts ds) = true ∧ ds.length = ts.length
  | [], [], [], ps, h, _, _, _ => ⟨by simp [argsOf, VT], rfl, rfl⟩
  | [], [], _ :: _, ps, h, _, _, _ => by simp [DataW.TrodAll] at h
  | [], _ :: _, _, ps, h, _, _, _ => by simp [DataW.TrodAll] at h
  | t :: ts, [], _, ps, h, _, _, _ => by simp [DataW.TrodAll] at h
  | t :: ts, v :: vs, [], ps, h, _, _, _ => by simp [DataW.TrodAll] at h
  | t :: ts, v :: vs, d :: ds, ps, h, ht, hd, hv => by
    simp only [DataW.TrodAll] at h
    obtain ⟨p, q, ⟨fuel, h1⟩, h2, rfl⟩ := h
    simp only [List.all_cons, Bool.and_eq_true] at ht
    simp only [dOKs, Bool.and_eq_true] at hd
    obtain ⟨k1, k2, k3⟩ := args_VT ts vs ds q h2 ht.2 hd.2 fun j t' v' a b => hv (j + 1) t' v' (by simpa using a) (by simpa using b)
    obtain ⟨i1, i2, i3⟩ := trod_is (g := gin W) (fun b o h => h) 20 fuel t _ _ h1 ht.1 hd.1
    have hok := hv 0 t v rfl rfl
    simp only [argsOf, VT, noPs, Bool.and_eq_true, List.length_cons, k3]
    unfold argAV
    cases ha : aggT P t with
    | true =>
      obtain ⟨cs, rfl⟩ := cells_agg ha hok
      simp only [if_true]
      refine ⟨⟨_, _, rfl, ?_, k1⟩, ⟨?_, k2⟩, trivial⟩
      · simp only [V]
        exact ⟨cs.toList, by simp, i1⟩
      · simpa [noP] using i3
    | false =>
      have hc := cells_one ht.1 ha hok
      rw [hc] at i1
      simp only [Bool.false_eq_true, if_false]
      cases hav : avD P 20 t d with
      | nil =>
        simp only at i1
        rw [hav] at i1
        simp [VS] at i1
      | cons a as =>
        simp only at i1 i3
        rw [hav] at i1 i3
        simp only [VS] at i1
        obtain ⟨u, us, e, hva, _, _⟩ := i1
        simp only [List.cons.injEq] at e
        obtain ⟨rfl, _⟩ := e
        simp only [noPs, Bool.and_eq_true] at i3
        exact ⟨⟨_, _, rfl, hva, k1⟩, ⟨i3.1, k2⟩, trivial⟩
theorem all_stay {W' : World} (K : Kids P (· < P.types.size)) (hsz : ∀ {t e : TypeId}, t < P.types.size → P.underlying t = some (.slice e) → 0 < P.cellsOf e) (hsame : ∀ b, b < W.heap.size → W'.heap[b]? = W.heap[b]?) {sp : Nat → Bool} :
    ∀ (ts : List TypeId) (vs : List Value) (ds : List (DataW H)) (ps : List MemPlace), (∀ t ∈ ts, t < P.types.size) → DataW.TrodAll enc P W 0 (fun _ => true) true ts vs ds ps → (∀ p ∈ ps, p.block < W.heap.size) → (∀ p ∈ ps, sp p.block = true) → DataW.TrodAll enc P W' 0 sp true ts vs ds ps
  | [], [], [], ps, _, h, _, _ => by simpa [DataW.TrodAll] using h
  | [], [], _ :: _, ps, _, h, _, _ => by simp [DataW.TrodAll] at h
  | [], _ :: _, _, ps, _, h, _, _ => by simp [DataW.TrodAll] at h
  | t :: ts, [], _, ps, _, h, _, _ => by simp [DataW.TrodAll] at h
  | t :: ts, v :: vs, [], ps, _, h, _, _ => by simp [DataW.TrodAll] at h
  | t :: ts, v :: vs, d :: ds, ps, hts, h, hlt, hsp => by
    simp only [DataW.TrodAll] at h ⊢
    obtain ⟨p, q, ⟨fuel, h1⟩, h2, rfl⟩ := h
    refine ⟨p, q, ⟨fuel, DataW.trod_stays K (fun a b => hsz a b) (fun e => by cases e) (hts t List.mem_cons_self) h1 (fun x hx => ?_) fun x hx => hsp x (List.mem_append_left _ hx)⟩,
      all_stay K hsz hsame ts vs ds q (fun t' ht' => hts t' (List.mem_cons_of_mem _ ht')) h2 (fun x hx => hlt x (List.mem_append_right _ hx)) (fun x hx => hsp x (List.mem_append_right _ hx)), rfl⟩
    have hb := hlt x (List.mem_append_left _ hx)
    cases x with
    | cell b off => simp only [World.sameAt, World.cell?, hsame b hb]
    | map b => exact hsame b hb
end
section
variable {H : Type} {enc : TypeId × Value → H} {P : Program}
theorem post_true {fn : Func} {s : ChangeSpec} {W W' : World} {args : Array Value} {ds gs : List (DataW H)} {before : List MemPlace} {tb : TypeId} (K : Kids P (· < P.types.size)) (hsz : ∀ {t e : TypeId}, t < P.types.size → P.underlying t = some (.slice e) → 0 < P.cellsOf e)
    (hts : ∀ t ∈ fn.params.toList, t < P.types.size) (hres : fn.resultTypes = #[tb]) (htb : P.underlying tb = some .bool) (hvars : s.vars = []) (hspec : s.fn H ds = { results := [.lit (.bool true)], args := ds })
    (hW : DataW.Whole enc P fn.params.toList s.vars false W args.toList ds gs before) (hsame : ∀ b, b < W.heap.size → W'.heap[b]? = W.heap[b]?) (hos : W'.os = W.os) (hout : W'.output = W.output) :
    s.post enc P fn false true false false W args (.bool true) W' := by
  have hW0 := hW
  obtain ⟨p, q, hA, hV, rfl, hz, hn⟩ := hW
  rw [hvars] at hV
  obtain ⟨rfl, rfl⟩ := Go.ChangeShapes.trodVars_none hV
  have hlt : ∀ x ∈ p, x.block < W.heap.size := fun x hx => hW0.lt x (List.mem_append_left _ hx)
  have hres1 : ∀ (b : Nat) (sp : Nat → Bool) (hd : Bool), DataW.TrodAll enc P W' b sp hd fn.resultTypes.toList ((Value.bool true).resultList fn.resultTypes.size) [.lit (.bool true)] [] := by
    intro b sp hd
    rw [hres]
    exact ⟨[], [], ⟨1, by simp [DataW.trod, Value.cells, htb]⟩, rfl, rfl⟩
  have hargs : ∀ sp : Nat → Bool, (∀ x ∈ p, sp x.block = true) → DataW.TrodAll enc P W' 0 sp true fn.params.toList args.toList ds p := fun sp hsp =>
    all_stay K hsz hsame _ _ _ _ hts hA hlt hsp
  have hkept : W.keptBut W' (fun _ => False) := by
    refine ⟨hos, hout, fun i hi => ?_⟩
    rw [hsame i hi]
    cases W.heap[i]? with
    | none => rfl
    | some o => cases o <;> first | rfl | exact ⟨rfl, rfl, rfl, fun _ _ => rfl⟩ | exact .inr ⟨rfl, rfl⟩
  simp only [List.append_nil] at hspec hW0 hz hn
  unfold ChangeSpec.post
  refine ⟨ds, [], p, [], p, [], by simpa using hW0, ?_, ?_, ?_, World.keptBut_mono (fun _ h => h.elim) hkept, fun h => by cases h⟩
  · rw [List.append_nil, hspec]
    exact hres1 _ _ _
  · rw [List.append_nil, hspec]
    exact hargs _ fun x hx => by simpa using hlt x hx
  · rw [List.append_nil, hspec, hvars]
    rfl
end
section
variable {C : Cx} {f : FuncId} {fn : Func} {S : FF}
theorem contract (hS : Sound C f S) (hp : C.pure f = true) (hfr : C.fresh f = none) (K : Kids C.P (· < C.P.types.size)) (hsz : ∀ {t e : TypeId}, t < C.P.types.size → C.P.underlying t = some (.slice e) → 0 < C.P.cellsOf e)
    (hts : ∀ t ∈ fn.params.toList, t < C.P.types.size) (hdt : (fn.params.toList.all fun t => dataT C.P 20 t) = true) {tb : TypeId} (hres : fn.resultTypes = #[tb]) (htb : C.P.underlying tb = some .bool) {s : ChangeSpec} (hvars : s.vars = [])
    {H : Type} {enc : TypeId × Value → H} {W : World} {base : Nat} {args : Array Value} {ds gs : List (DataW H)} {before : List MemPlace}
    (hval : ∀ (j : Nat) t v, fn.params[j]? = some t → args[j]? = some v → Value.okWide C.P W .any base t v)
    (hW : DataW.Whole enc C.P fn.params.toList s.vars false W args.toList ds gs before) (hspec : s.fn H ds = { results := [.lit (.bool true)], args := ds }) (hglob : GlobR C (gin W) W) (hd : dOKs ds = true)
    (heval : S (argsOf C.P fn.params.toList ds) [] = .ret (.B true) []) :
    Calls C.P f args W fun e W' => ∃ v, e = .returned v ∧ s.post enc C.P fn false true false false W args v W' := by
  obtain ⟨p, q, hA, hV, _, _, _⟩ := id hW
  obtain ⟨k1, k2, _⟩ := args_VT (base := base) _ _ _ _ hA hdt hd fun j t v a b => hval j t v (by rw [← Array.getElem?_toList]; exact a) (by rw [← Array.getElem?_toList]; exact b)
  unfold Sound at hS
  rw [if_pos hp] at hS
  obtain ⟨_, hc⟩ := hS.1 (gin W) W _ args.toList _ heval (by simp) k2 rfl k1 (gin_wf W) hglob (fun _ => rfl)
  rw [Array.toArray_toList] at hc
  refine hc.mono fun e W' he => ?_
  rw [hfr] at he
  cases e with
  | returned u =>
    obtain ⟨v, h', g', h1, h2, h3, h4⟩ := he
    cases h1
    have hu : u = .bool true := V_B' (g := g') (w := W') h4
    subst hu
    exact ⟨_, rfl, post_true K (fun a b => hsz a b) hts hres htb hvars hspec hW (fun b hb => h2.blk b hb fun x => x) h2.os h2.out⟩
  | panicked chain => obtain ⟨v, h', u, g', h1, _⟩ := he; cases h1
  | outgrown => exact he.elim
end
theorem laid_VC {P : Program} {W : World} {n : String} {d : DataW Unit} {gi t : Nat} (hg : P.globalNamed n = some gi) (hty : (P.globals[gi]?).map (·.type) = some t) (hdt : dataT P 20 t = true) (hd : dOK d = true) :
    ∀ (laid : List (String × DataW Unit)) (ps : List MemPlace), DataW.LaidVars P W laid ps → (n, d) ∈ laid → VC (gin W) W gi 0 (avD P 20 t d)
  | [], _, _, hm => by cases hm
  | (n', d') :: r, ps, h, hm => by
    simp only [DataW.LaidVars] at h
    obtain ⟨g, t', cs, fuel, p, q, h1, h2, h3, h4, h5, h6⟩ := h
    rcases List.mem_cons.1 hm with e | hm
    · cases e
      obtain rfl := Option.some.inj (hg.symm.trans h1)
      obtain rfl := Option.some.inj (hty.symm.trans h2)
      obtain ⟨i1, _, _⟩ := trod_is (g := gin W) (fun b o h => h) 20 fuel t _ _ h4 hdt hd
      simp only [World.var?, hg, Option.bind_some] at h3
      refine VC_of_VS _ _ _ i1 fun j v hv => ?_
      have hc : W.cell? ⟨gi, 0 + j, none⟩ = some v := by
        cases hh : W.heap[gi]? with
        | none => rw [hh] at h3; cases h3
        | some o =>
          rw [hh] at h3
          cases o with
          | cells c ty fr =>
            simp only [Option.some.injEq] at h3
            subst h3
            simp only [World.cell?, hh, Nat.zero_add]
            simpa using hv
          | _ => cases h3
      exact ⟨by show (W.cell? _).isSome = true; rw [hc]; rfl, hc⟩
    · exact laid_VC hg hty hdt hd r q h5 hm
def slicesOK (P : Program) : Bool := (List.range P.types.size).all fun t => match P.underlying t with
  | some (.slice e) => Nat.blt 0 (P.cellsOf e)
  | _ => true
theorem slicesOK_get {P : Program} (h : slicesOK P = true) {t e : TypeId} (ht : t < P.types.size) (hu : P.underlying t = some (.slice e)) : 0 < P.cellsOf e := by
  have := List.all_eq_true.1 h t (List.mem_range.2 ht)
  simp only [hu] at this
  simpa using this
end Go.Vm
