/- Part of a proof: Vm36, VmT, VmW, VmRow, VmU, VmBld, VmSh. -/
import Derived.Test.YteaplibpphjokaaDoorVD
import Derived.ChangeArms
import Derived.OpenShut
import Derived.DataReads
import Derived.ChangeStays
import Derived.ChangeSame
import Derived.ChangeShapes
import Derived.ChangeOld
import Derived.RowKit3
import Derived.Lib.AppendIntMem
import Derived.Lib.UnsafeStr
import Derived.Sort.Grow
set_option linter.unusedSimpArgs false
set_option linter.unusedVariables false
set_option linter.unusedSectionVars false
namespace Go.Vm
open Go
section
variable {C : Cx} {N : Ann} {G : FuncId → List AV → List HO → Res} {nt : NT} {R : Res}
theorem lk_args (as : List AV) : ∀ (k t : Nat), lk t ((List.range' k as.length).zip (as.map .v)) = if k ≤ t ∧ t < k + as.length then .v (as.getD (t - k) .U) else .v .U := by
  induction as with
  | nil => intro k t; simp [lk]
  | cons x as ih =>
    intro k t
    simp only [List.length_cons, List.range'_succ, List.map_cons, List.zip_cons_cons, lk]
    by_cases e : t = k
    · subst e
      simp
    · have hb : Nat.beq k t = false := by
        rw [Bool.eq_false_iff]
        exact fun e' => e (Nat.eq_of_beq_eq_true e').symm
      rw [hb, cond_false, ih (k + 1) t]
      by_cases h : k + 1 ≤ t ∧ t < k + 1 + as.length
      · rw [if_pos h, if_pos (by omega), show t - k = (t - (k + 1)) + 1 by omega]
        simp
      · rw [if_neg h, if_neg (by omega)]
def Gh.fr0 (g : Gh) : Gh := { g with df := [] }
theorem fr0_chg {B : Nat → Prop} {g g' : Gh} {w w' : World} (h : Chg B g.fr0 w g' w') : Chg B g w g' w' :=
  ⟨⟨h.later.n, h.later.ix, h.later.st, h.later.cell⟩, h.size, h.blk, h.ow, h.st, h.os, h.tape, h.out⟩
theorem fr0_refl {B : Nat → Prop} {g : Gh} {w : World} : Chg B g.fr0 w g w :=
  have h := Chg.refl B g w
  ⟨⟨h.later.n, h.later.ix, h.later.st, h.later.cell⟩, h.size, h.blk, h.ow, h.st, h.os, h.tape, h.out⟩
theorem init_rel {g : Gh} {w : World} {as : List AV} {vals : List Value} {h : List HO} {n : Nat} {b : Bool} (hh : HeapR g w h) (hv : VT g w as vals) (hwf : Wf g w) (hgl : GlobR C g w) :
    Rel C (NT.ofm n b) g.fr0 w g w ⟨fun _ => 0, fun _ => undef⟩ (initSt as h) { tmps := vals.toArray ++ Array.replicate (n - vals.toArray.size) undef, defers := [] } := by
  have hlen := VT.length _ _ hv
  refine ⟨fr0_refl, ⟨hh, fun _ => trivial, hwf⟩, fun t => ?_, hgl, Dfr.zero, by simp [NT.ofm]; omega, fun t ht => by simp [NT.ofm] at ht⟩
  show VE _ _ _ _ (lk t ((List.range as.length).zip (as.map .v))) _
  rw [List.range_eq_range', lk_args]
  split
  · rename_i ht
    obtain ⟨u, hu, hvu⟩ := VT_get as vals hv t (by omega)
    have : (vals.toArray ++ Array.replicate (n - vals.toArray.size) undef).getD t undef = u := by
      rw [Array.getD_eq_getD_getElem?, Array.getElem?_append_left (by simp; omega)]
      simp [hu]
    rw [this]
    exact hvu
  · trivial
theorem array_mapM_run {P : Program} {w : World} {α : Type} {F : α → Sem Value} {xs : Array α} {us : List Value} (h : (xs.toList.mapM F).run P w = .ok us w) : (xs.mapM F).run P w = .ok us.toArray w := by
  rw [Array.mapM_eq_mapM_toList]
  simp only [Sem.run_map, h, Result.andThen_ok]
theorem end_plain (hR : R ≠ .stuck) (hfr : N.fresh = none) {fn : Func} (hlen : fn.results.size = fn.resultTypes.size) {g0 g : Gh} {w0 w : World} {f : Fr} {s : St} {a : Act} (r : Rel C nt g0 w0 g w f s a) (h : resK (stdAlg C.pure G) C N fn s = R) :
    ∃ v u g', (results fn a.tmps).run C.P w = .ok u w ∧ Chg (fun b => g0.ow b ≠ none) g0 w0 g' w ∧ HeapR g' w s.h ∧ V g' w v u ∧ Wf g' w ∧ R = .ret v (if N.drop then [] else s.h) := by
  unfold resK at h
  obtain ⟨as, us, g', s', h1, h2, h3, h4, h5, h6⟩ := resK_inv hR hfr _ g w f s a [] [] r (by simp [VT]) h
  have hmap : (fn.results.toList.zip fn.resultTypes.toList).map (·.1) = fn.results.toList := by
    rw [List.map_fst_zip]
    simp [hlen]
  have h1 := h1 ()
  rw [hmap] at h1
  have hrun := array_mapM_run h1
  simp only [List.nil_append, List.reverse_nil] at h4 h6
  have hvl := VT.length _ _ h4
  have hres : ∀ u, (if h : us.toArray.size = 1 then us.toArray[0] else Value.tuple us.toArray) = u → (results fn a.tmps).run C.P w = .ok u w := by
    intro u hu
    rw [results_eq, Sem.run_bind, hrun, Result.andThen_ok, Sem.run_pure, hu]
  have hh : HeapR g' w s.h := by rw [← h3]; exact h2.core.heap
  match as, us, h4, h6, hvl, hres with
  | [], us, h4, h6, hvl, hres =>
    have : us = [] := List.eq_nil_of_length_eq_zero hvl
    subst this
    exact ⟨.T [], .tuple #[], g', hres _ (by simp), h2.ext, hh, by simp only [V]; exact ⟨[], rfl, by simp [VT]⟩, h2.core.wf, h6⟩
  | [x], [u], h4, h6, hvl, hres =>
    simp only [VT] at h4
    obtain ⟨u', r', e, hv, _⟩ := h4
    cases e
    exact ⟨x, u, g', hres _ (by simp), h2.ext, hh, hv, h2.core.wf, h6⟩
  | [x], [], h4, h6, hvl, hres => simp at hvl
  | [x], _ :: _ :: _, h4, h6, hvl, hres => simp at hvl
  | x :: y :: z, us, h4, h6, hvl, hres =>
    refine ⟨.T (x :: y :: z), .tuple us.toArray, g', hres _ ?_, h2.ext, hh, by simp only [V]; exact ⟨us, rfl, h4⟩, h2.core.wf, h6⟩
    rw [dif_neg]
    simp only [List.size_toArray, hvl, List.length_cons]
    omega
theorem end_slice (hR : R ≠ .stuck) {e : TypeId} (hfr : N.fresh = some e) {fn : Func} (hlen : fn.results.size = fn.resultTypes.size) (h1 : fn.results.size = 1) {g0 g : Gh} {w0 w : World} {f : Fr} {s : St} {a : Act} (r : Rel C nt g0 w0 g w f s a) (h : resK (stdAlg C.pure G) C N fn s = R) :
    ∃ c k ex u h', (results fn a.tmps).run C.P w = .ok u w ∧ c.elem = e ∧ SR g w (.arr k) c ex u ∧ (N.eat = none → ex = true) ∧ R = .ret c.toAV h' := by
  unfold resK at h
  have hz : ∃ rv ty, fn.results = #[rv] ∧ fn.resultTypes = #[ty] := by
    have a1 : fn.results.toList.length = 1 := by simpa using h1
    have a2 : fn.resultTypes.toList.length = 1 := by simpa using hlen ▸ h1
    match e1 : fn.results.toList, e2 : fn.resultTypes.toList, a1, a2 with
    | [rv], [ty], _, _ => exact ⟨rv, ty, by apply Array.toList_inj.1; rw [e1], by apply Array.toList_inj.1; rw [e2]⟩
  obtain ⟨rv, ty, e1, e2⟩ := hz
  rw [e1, e2] at h
  have h : resK.go (stdAlg C.pure G) C N [(rv, ty)] s [] = R := h
  have hres : ∀ t, rv = .tmp t → (results fn a.tmps).run C.P w = .ok (a.eval (.tmp t)) w := by
    intro t ht
    have e : a.eval (.tmp t) = a.tmps.getD t undef := by
      simp [Act.eval, Array.getD_eq_getD_getElem?]
    rw [results_eq, e1, ht, e]
    simp [resVal]
  unfold resK.go at h
  cases rv with
  | cell t ty' =>
    simp only [hfr, Option.isSome_some, if_true] at h
    exact absurd h.symm hR
  | tmp t =>
    simp only [hfr] at h
    have hve := r.ev (.tmp t)
    split at h
    · rename_i k ver ver' c ex _q1 _q2 es el2
      split at h
      · rename_i hk
        obtain ⟨rfl, hel, hex⟩ := hk
        have es' : evO C s (.tmp t) = .ls k ver := es
        rw [es'] at hve
        rw [es] at el2
        simp only [loO, EV.site] at el2
        have hu := hve.2 (by rw [el2]) c ex (by rw [el2])
        have hlr := r.core.loc k
        unfold LR at hlr
        rw [el2] at hlr
        exact ⟨c, k, ex, _, _, hres t rfl, hel, by rw [hu]; exact hlr, fun hn => by rw [hn] at hex; simpa using hex, h.symm⟩
      · exact absurd h.symm hR
    · rename_i _q1 _q2 es
      split at h
      · rename_i hz
        have es' : evO C s (.tmp t) = .nil := es
        rw [es'] at hve
        have hu : a.eval (.tmp t) = .slice none 0 0 := hve
        have hem := emptySC_ok (P := C.P) (e := e) (by
          rcases hz with hz | hz
          · simp [hz]
          · simp; exact .inr (Nat.pos_of_ne_zero hz))
        refine ⟨emptySC C.P e, 0, true, _, _, hres t rfl, ?_, by rw [hu]; exact SR_empty _ _ hem.1 hem.2, fun _ => rfl, h.symm⟩
        unfold emptySC; split <;> rfl
      · exact absurd h.symm hR
    · exact absurd h.symm hR
theorem end_fresh (hR : R ≠ .stuck) {e : TypeId} (hfr : N.fresh = some e) (heat : N.eat = none) {fn : Func} (hlen : fn.results.size = fn.resultTypes.size) (h1 : fn.results.size = 1) {g0 g : Gh} {w0 w : World} {f : Fr} {s : St} {a : Act} (how : ∀ b, g0.ow b = none) (r : Rel C nt g0 w0 g w f s a) (h : resK (stdAlg C.pure G) C N fn s = R) :
    ∃ v u h', (results fn a.tmps).run C.P w = .ok u w ∧ FreshR e w0 g w v u ∧ R = .ret v h' := by
  obtain ⟨c, k, ex, u, h', k1, k2, k3, k4, k5⟩ := end_slice hR hfr hlen h1 r h
  have := k4 heat
  subst this
  refine ⟨c.toAV, u, h', k1, ⟨c, .arr k, rfl, k2, k3, fun b hb => ?_⟩, k5⟩
  have hown := (SR.owner k3 hb).1
  rcases Nat.lt_or_ge b w0.heap.size with hlt | hge
  · have := r.ext.ow b hlt (fun x => x (how b))
    rw [hown, how b] at this
    cases this
  · exact hge
theorem sound_fn (hC : OkC C) (hG : ∀ j, Sound C j (G j)) {f : FuncId} {fn : Func} {c : Code} (hf : C.P.funcs[f]? = some fn) (hb : fn.body = some c) (hname : fn.name ≠ "runtime.NumGoroutine") (hok : codeOK (NT.of fn.ntmps) c = true)
    (hlen : fn.results.size = fn.resultTypes.size) (hdrop : N.drop = C.pure f) (heat : N.eat = none) (hceat : C.eats f = none) (hfresh : N.fresh = C.fresh f) (hfp : C.fresh f = none ∨ (C.pure f = true ∧ fn.results.size = 1)) : Sound C f (semF C N fn G) := by
  have hcall : Callable C.P f := ⟨fn, hf, by rw [hb]; rfl, hname⟩
  have body : ∀ (as : List AV) (h : List HO) (R : Res), semF C N fn G as h = R →
      aC C N (stdAlg C.pure (noPan G)) (stdAlg C.pure G) c (resK (stdAlg C.pure G) C N fn) (fun _ _ => Res.stuck) (resK (stdAlg C.pure G) C N fn) (initSt as h) = R := by
    intro as h R hr
    unfold semF aF at hr
    rw [hb, heat] at hr
    exact hr
  unfold Sound
  split
  · rename_i hp
    refine ⟨?_, fun e he => by rw [hceat] at he; cases he⟩
    intro g w as vals R hr hR hnp hn0 hv hwf hgl how
    refine ⟨hcall, calls_of_wp hf hb ?_⟩
    have hh : HeapR g w [] := ⟨by rw [hn0]; rfl, fun id hid => by omega, fun id cs hc => by simp at hc, fun id es hc => by simp at hc, fun id t n xs hc => by simp at hc⟩
    have hrel := init_rel (C := C) (n := fn.ntmps) (b := false) hh hv hwf hgl
    have chgF : ∀ {g' : Gh} {w' : World}, Chg (fun b => g.ow b ≠ none) g w g' w' → Chg (fun _ => False) g w g' w' := fun h => h.mono fun b _ hB => hB (how b)
    have fin : ∀ g' w' f' s' a', Rel C (NT.of fn.ntmps) g.fr0 w g' w' f' s' a' → resK (stdAlg C.pure G) C N fn s' = R → a'.defers = [] ∧ ∃ v, (results fn a'.tmps).run C.P w' = .ok v w' ∧ PostP (C.fresh f) g w R (.returned v) w' := by
      intro g' w' f' s' a' r h
      refine ⟨r.dfr, ?_⟩
      cases hfe : C.fresh f with
      | none =>
        obtain ⟨v, u, g2, k1, k2, k3, k4, k5, k6⟩ := end_plain hR (by rw [hfresh, hfe]) hlen r h
        exact ⟨u, k1, v, _, g2, k6, chgF (fr0_chg k2), k5, k4⟩
      | some e =>
        have h1 := (hfp.resolve_left (by rw [hfe]; simp)).2
        obtain ⟨v, u, h', k1, k2, k3⟩ := end_fresh (g0 := g.fr0) hR (by rw [hfresh, hfe]) heat hlen h1 how r h
        exact ⟨u, k1, v, h', g', k3, chgF (fr0_chg r.ext), r.core.wf, k2⟩
    refine aC_sound hC hR hG c hok (.inl rfl) (fun g' w' f' s' a' r h => fin g' w' f' s' a' r h) (fun id g' w' f' s' a' r h => absurd h.symm hR) (fun g' w' f' s' a' r h => fin g' w' f' s' a' r h) ?_ g w _ _ _ hrel (body as [] R hr)
    intro a ha v h' u g' w' hRv hch hhe hvv hwf'
    exact ⟨ha, v, h', u, g', hRv, rfl, chgF (fr0_chg hch), hvv, hwf'⟩
  · rename_i hp
    intro g w as vals h R hr hR hh hv hwf hgl how
    refine ⟨hcall, calls_of_wp hf hb ?_⟩
    have hrel := init_rel (C := C) (n := fn.ntmps) (b := false) hh hv hwf hgl
    have hnf : C.fresh f = none := hfp.resolve_right fun h => hp h.1
    have fin : ∀ g' w' f' s' a', Rel C (NT.of fn.ntmps) g.fr0 w g' w' f' s' a' → resK (stdAlg C.pure G) C N fn s' = R → a'.defers = [] ∧ ∃ v, (results fn a'.tmps).run C.P w' = .ok v w' ∧ Post g w R (.returned v) w' := by
      intro g' w' f' s' a' r h
      refine ⟨r.dfr, ?_⟩
      obtain ⟨v, u, g2, k1, k2, k3, k4, k5, k6⟩ := end_plain hR (by rw [hfresh, hnf]) hlen r h
      have : N.drop = false := by rw [hdrop]; simpa using hp
      rw [this] at k6
      exact ⟨u, k1, v, _, g2, k6, fr0_chg k2, k3, k4, k5⟩
    refine aC_sound hC hR hG c hok (.inl rfl) (fun g' w' f' s' a' r h => fin g' w' f' s' a' r h) (fun id g' w' f' s' a' r h => absurd h.symm hR) (fun g' w' f' s' a' r h => fin g' w' f' s' a' r h) ?_ g w _ _ _ hrel (body as h R hr)
    intro a ha v h' u g' w' hRv hch hhe hvv hwf'
    exact ⟨ha, v, h', u, g', hRv, rfl, fr0_chg hch, hhe, hvv, hwf'⟩
theorem eat_rel {g : Gh} {w : World} {c : SC} {as : List AV} {u0 : Value} {vals : List Value} {k n : Nat} (hs : SR g w (.arr k) c false u0) (hv : VT g w as vals) (hwf : Wf g w) (hgl : GlobR C g w) (hn0 : g.n = 0) :
    Rel C (NT.of n) g.fr0 w g w ⟨fun _ => 0, fun _ => u0⟩ (eatSt k c as []) { tmps := (u0 :: vals).toArray ++ Array.replicate (n - (u0 :: vals).toArray.size) undef, defers := [] } := by
  have hlen := VT.length _ _ hv
  have hloc : ∀ j, (eatSt k c as []).loc j = if k = j then ⟨0, .arr c false⟩ else ⟨0, .no⟩ := by
    intro j
    show lkL j [(k, _)] = _
    simp only [lkL]
    cases e : Nat.beq k j with
    | true => rw [if_pos (Nat.eq_of_beq_eq_true e)]; rfl
    | false =>
      rw [if_neg]
      · rfl
      · intro e2; subst e2; simp at e
  refine ⟨fr0_refl, ⟨⟨by rw [hn0]; rfl, fun id hid => by omega, fun id cs hc => by simp [eatSt, mkSt] at hc, fun id es hc => by simp [eatSt, mkSt] at hc, fun id t n xs hc => by simp [eatSt, mkSt] at hc⟩, fun j => ?_, hwf⟩, fun t => ?_, hgl, Dfr.zero, by simp [NT.ofm]; omega, fun t ht => by simp [NT.ofm] at ht⟩
  · unfold LR
    rw [hloc j]
    by_cases e : k = j
    · subst e
      rw [if_pos rfl]
      exact hs
    · rw [if_neg e]
      trivial
  · show VE _ _ _ _ (lk t ((List.range (as.length + 1)).zip (.ls k 0 :: as.map .v))) _
    have e0 : (List.range (as.length + 1)).zip (EV.ls k 0 :: as.map .v) = (0, EV.ls k 0) :: (List.range' 1 as.length).zip (as.map .v) := by
      rw [List.range_eq_range']
      rfl
    rw [e0]
    cases t with
    | zero =>
      simp only [lk, Nat.beq_refl, cond_true]
      refine ⟨Nat.zero_le _, fun _ c' ex' e => ?_⟩
      rw [Array.getD_eq_getD_getElem?, Array.getElem?_append_left (by simp)]
      rfl
    | succ t =>
      simp only [lk, show Nat.beq 0 (t + 1) = false from rfl, cond_false]
      rw [lk_args]
      split
      · rename_i ht
        obtain ⟨u, hu, hvu⟩ := VT_get as vals hv (t + 1 - 1) (by omega)
        have : ((u0 :: vals).toArray ++ Array.replicate (n - (u0 :: vals).toArray.size) undef).getD (t + 1) undef = u := by
          rw [Array.getD_eq_getD_getElem?, Array.getElem?_append_left (by simp; omega)]
          simp at hu
          simp [hu]
        rw [this]
        exact hvu
      · trivial
theorem sound_eat (hC : OkC C) (hG : ∀ j, Sound C j (G j)) {f : FuncId} {fn : Func} {c : Code} {e : TypeId} {k : Nat} (hf : C.P.funcs[f]? = some fn) (hb : fn.body = some c) (hname : fn.name ≠ "runtime.NumGoroutine") (hok : codeOK (NT.of fn.ntmps) c = true)
    (hlen : fn.results.size = fn.resultTypes.size) (hp : C.pure f = true) (heat : N.eat = some (k, e)) (hceat : C.eats f = some e) (hfresh : N.fresh = some e) (h1 : fn.results.size = 1) : Sound C f (semF C N fn G) := by
  have hcall : Callable C.P f := ⟨fn, hf, by rw [hb]; rfl, hname⟩
  unfold Sound
  rw [if_pos hp]
  refine ⟨fun g w as vals R hr hR => ?_, fun e' he' => ⟨k, ?_⟩⟩
  · unfold semF aF at hr
    rw [hb, heat] at hr
    cases as <;> exact absurd hr.symm hR
  · rw [hceat] at he'
    cases he'
    intro g w sc as u0 vals v hh hr hnp hn0 hel hw hY hs hv hwf hgl how
    refine ⟨hcall, calls_of_wp hf hb ?_⟩
    have body : aC C N (stdAlg C.pure (noPan G)) (stdAlg C.pure G) c (resK (stdAlg C.pure G) C N fn) (fun _ _ => Res.stuck) (resK (stdAlg C.pure G) C N fn) (eatSt k sc as []) = .ret v hh := by
      unfold semF aF at hr
      rw [hb, heat] at hr
      simp only at hr
      cases sc with
      | y t sb =>
        simp only [SC.elem] at hel
        subst hel
        have hY' : byteT C.P t = true := hY.symm
        rw [if_pos hY'] at hr
        exact hr
      | e t n xs =>
        simp only [SC.elem] at hel
        subst hel
        simp only [SC.width] at hw
        subst hw
        rw [if_neg (by rw [← hY]; simp [SC.isY])] at hr
        have hr' : mL (szT C.P t) (SC.e t (szT C.P t) xs).toAV (fun xs => aC C N (stdAlg C.pure (noPan G)) (stdAlg C.pure G) c (resK (stdAlg C.pure G) C N fn)
          (fun x x_1 => Res.stuck) (resK (stdAlg C.pure G) C N fn) (eatSt k (SC.e t (szT C.P t) xs) as [])) = Res.ret v hh := hr
        obtain ⟨xs', e1, h2⟩ := mL_inv hr' (by simp)
        simp only [SC.toAV, AV.L.injEq, true_and] at e1
        rw [e1]
        exact h2
    have fin : ∀ g' w' f' s' a', Rel C (NT.of fn.ntmps) g.fr0 w g' w' f' s' a' → resK (stdAlg C.pure G) C N fn s' = .ret v hh → a'.defers = [] ∧ ∃ u, (results fn a'.tmps).run C.P w' = .ok u w' ∧ PostE e g w v (.returned u) w' := by
      intro g' w' f' s' a' r h
      refine ⟨r.dfr, ?_⟩
      obtain ⟨c', k', ex, u, h', k1, k2, k3, k4, k5⟩ := end_slice (by simp) hfresh hlen h1 r h
      cases k5
      obtain ⟨g2, z1, z2, z3, z4, z5, z6⟩ := SR.give (o' := .arr k') k3
      have hch := r.ext.trans z1 fun b hb hB hn => by
        have := r.ext.ow b hb (fun x => x hn)
        rw [hn, hB] at this
        cases this
      refine ⟨u, k1, g2, fr0_chg hch, fun b i hx => (z5 b i hx).elim (r.core.wf b i) id, c', .arr k', rfl, k2, z2, fun b hb => ?_⟩
      rcases Nat.lt_or_ge b w.heap.size with hlt | hge
      · right
        intro hn
        have := r.ext.ow b hlt (fun x => x hn)
        have this2 : some (Own.arr k') = g.ow b := (SR.owner k3 hb).1.symm.trans this
        rw [hn] at this2
        cases this2
      · exact .inl hge
    refine aC_sound hC (by simp) hG c hok (.inl rfl) (fun g' w' f' s' a' r h => fin g' w' f' s' a' r h) (fun id g' w' f' s' a' r h => by cases h) (fun g' w' f' s' a' r h => fin g' w' f' s' a' r h) ?_ g w _ _ _ (eat_rel (n := fn.ntmps) hs hv hwf hgl hn0) body
    intro a ha v h' u g' w' hRv
    cases hRv
end
end Go.Vm
namespace Go.Vm
open Go
def mkA (drop : Bool) (fresh : Option TypeId) (eat : Option (Nat × TypeId)) (dyn : Bool) (fu : Nat) (excl asV heap narrow win frz mutA : List Nat) (rfix : List (Nat × List Nat)) (live : List (Nat × List Nat × List Nat)) : Ann :=
  { drop, fresh, eat, dynPure := dyn, fuel := fu, excl := fun n => excl.contains n, asV := fun n => asV.contains n, heapSite := fun n => heap.contains n, narrow := fun n => narrow.contains n, win := fun n => win.contains n, frz := fun n => frz.contains n, mutA := fun n => mutA.contains n, rfix := fun n => lkR n rfix, live := fun r => lkA r live }
abbrev FF := List AV → List HO → Res
def lkF (k : Nat) : List (Nat × ((FuncId → FF) → FF)) → (FuncId → FF) → FF
  | [], _ => fun _ _ => .stuck
  | (i, f) :: r, G => bif Nat.beq i k then f G else lkF k r G
section
variable {C : Cx}
theorem Sound.less {f : FuncId} {S S' : FF} (hs : Sound C f S') (h : ∀ as hp, S as hp = .stuck ∨ S as hp = S' as hp) : Sound C f S := by
  have key : ∀ {as hp R}, S as hp = R → R ≠ .stuck → S' as hp = R := fun {as hp R} hr hR => by
    rcases h as hp with e | e
    · rw [e] at hr; exact absurd hr.symm hR
    · rw [← e]; exact hr
  unfold Sound at hs ⊢
  split
  · rename_i hp
    rw [if_pos hp] at hs
    refine ⟨fun g w as vals R hr hR => hs.1 g w as vals R (key hr hR) hR, fun e he => ?_⟩
    obtain ⟨k, h2⟩ := hs.2 e he
    exact ⟨k, fun g w c as u0 vals v hh hr => h2 g w c as u0 vals v hh (key hr (by simp))⟩
  · rename_i hp
    rw [if_neg hp] at hs
    exact fun g w as vals hh R hr hR => hs g w as vals hh R (key hr hR) hR
theorem sound_stuck (f : FuncId) : Sound C f (fun _ _ => .stuck) := by
  unfold Sound
  split
  · exact ⟨fun g w as vals R hr hR => absurd hr.symm hR, fun e he => ⟨0, fun g w c as u0 vals v hh hr => by cases hr⟩⟩
  · exact fun g w as vals hh R hr hR => absurd hr.symm hR
theorem sound_nil {G : FuncId → FF} : ∀ k, Sound C k (lkF k [] G) := fun k => sound_stuck k
theorem sound_cons {G : FuncId → FF} {i : Nat} {f : (FuncId → FF) → FF} {r : List (Nat × ((FuncId → FF) → FF))} (h : Sound C i (f G)) (hr : ∀ k, Sound C k (lkF k r G)) : ∀ k, Sound C k (lkF k ((i, f) :: r) G) := by
  intro k
  simp only [lkF]
  cases e : Nat.beq i k with
  | true =>
    rw [Nat.eq_of_beq_eq_true e] at h
    exact h
  | false => exact hr k
end
def eqSC : SC → SC → Bool
  | .e t n xs, .e u m ys => Nat.beq t u && Nat.beq n m && eqVss xs ys
  | .y t s, .y u r => Nat.beq t u && s == r
  | _, _ => false
def eqHV : HV → HV → Bool
  | .a v, .a u => eqV v u
  | .g c, .g d => eqSC c d
  | .z t, .z u => Nat.beq t u
  | _, _ => false
def eqHVs : List HV → List HV → Bool
  | [], [] => true
  | a :: as, b :: bs => eqHV a b && eqHVs as bs
  | _, _ => false
def eqPs : List (AV × AV) → List (AV × AV) → Bool
  | [], [] => true
  | (a, x) :: as, (b, y) :: bs => eqV a b && eqV x y && eqPs as bs
  | _, _ => false
theorem eqPs_eq : ∀ (a b : List (AV × AV)), eqPs a b = true → a = b
  | [], b, h => by cases b <;> simp_all [eqPs]
  | (x, y) :: xs, b, h => by
    cases b <;> simp only [eqPs, Bool.and_eq_true, Bool.false_eq_true] at h
    rename_i p q
    obtain ⟨b1, b2⟩ := p
    simp only [eqPs, Bool.and_eq_true] at h
    rw [eqV_eq _ _ h.1.1, eqV_eq _ _ h.1.2, eqPs_eq _ _ h.2]
def eqHO : HO → HO → Bool
  | .cells a, .cells b => eqHVs a b
  | .arr t n xs, .arr u m ys => Nat.beq t u && Nat.beq n m && eqVss xs ys
  | .map es, .map fs => eqPs es fs
  | .no, .no => true
  | _, _ => false
def eqHOs : List HO → List HO → Bool
  | [], [] => true
  | a :: as, b :: bs => eqHO a b && eqHOs as bs
  | _, _ => false
theorem eqSC_eq : ∀ (a b : SC), eqSC a b = true → a = b
  | .e t n xs, b, h => by
    cases b <;> simp only [eqSC, Bool.and_eq_true, Bool.false_eq_true] at h
    rw [Nat.eq_of_beq_eq_true h.1.1, Nat.eq_of_beq_eq_true h.1.2, eqVss_eq _ _ h.2]
  | .y t s, b, h => by
    cases b <;> simp only [eqSC, Bool.and_eq_true, Bool.false_eq_true] at h
    rw [Nat.eq_of_beq_eq_true h.1, eq_of_beq h.2]
theorem eqHV_eq : ∀ (a b : HV), eqHV a b = true → a = b
  | .a v, b, h => by
    cases b <;> simp only [eqHV, Bool.false_eq_true] at h
    rw [eqV_eq _ _ h]
  | .g c, b, h => by
    cases b <;> simp only [eqHV, Bool.false_eq_true] at h
    rw [eqSC_eq _ _ h]
  | .z t, b, h => by
    cases b <;> simp only [eqHV, Bool.false_eq_true] at h
    rw [Nat.eq_of_beq_eq_true h]
theorem eqHVs_eq : ∀ (a b : List HV), eqHVs a b = true → a = b
  | [], b, h => by cases b <;> simp_all [eqHVs]
  | x :: xs, b, h => by
    cases b <;> simp only [eqHVs, Bool.and_eq_true, Bool.false_eq_true] at h
    rw [eqHV_eq _ _ h.1, eqHVs_eq _ _ h.2]
theorem eqHO_eq : ∀ (a b : HO), eqHO a b = true → a = b
  | .cells v, b, h => by
    cases b <;> simp only [eqHO, Bool.false_eq_true] at h
    rw [eqHVs_eq _ _ h]
  | .map es, b, h => by
    cases b <;> simp only [eqHO, Bool.false_eq_true] at h
    rw [eqPs_eq _ _ h]
  | .arr t n xs, b, h => by
    cases b <;> simp only [eqHO, Bool.and_eq_true, Bool.false_eq_true] at h
    rw [Nat.eq_of_beq_eq_true h.1.1, Nat.eq_of_beq_eq_true h.1.2, eqVss_eq _ _ h.2]
  | .no, b, h => by cases b <;> simp_all [eqHO]
theorem eqHOs_eq : ∀ (a b : List HO), eqHOs a b = true → a = b
  | [], b, h => by cases b <;> simp_all [eqHOs]
  | x :: xs, b, h => by
    cases b <;> simp only [eqHOs, Bool.and_eq_true, Bool.false_eq_true] at h
    rw [eqHO_eq _ _ h.1, eqHOs_eq _ _ h.2]
def memo : List (List AV × List HO × Res) → FF
  | [], _, _ => .stuck
  | (a, h, r) :: l, as, hp => bif eqVs as a && eqHOs hp h then r else memo l as hp
theorem sound_memo {C : Cx} {f : FuncId} {S : FF} (hs : Sound C f S) : ∀ (l : List (List AV × List HO × Res)), (∀ p ∈ l, S p.1 p.2.1 = p.2.2) → Sound C f (memo l) := by
  intro l hl
  refine hs.less fun as hp => ?_
  induction l with
  | nil => exact .inl rfl
  | cons p l ih =>
    obtain ⟨a, h, r⟩ := p
    simp only [memo]
    cases e : eqVs as a && eqHOs hp h with
    | true =>
      rw [Bool.and_eq_true] at e
      rw [eqVs_eq _ _ e.1, eqHOs_eq _ _ e.2]
      exact .inr (hl (a, h, r) List.mem_cons_self).symm
    | false => exact ih fun p hp => hl p (List.mem_cons_of_mem _ hp)
end Go.Vm
namespace Go.Vm
open Go
section
variable {H : Type}
mutual
def dOK : DataW H → Bool
  | .lit (.string bs) => decide (bs.length ≤ 140737488355328)
  | .lit _ => true
  | .nil => true
  | .ptr d => dOK d
  | .slice e _ => dOKs e
  | .agg p => dOKs p
  | .iface _ d => dOK d
  | .map _ => true
  | .held _ => true
def dOKs : List (DataW H) → Bool
  | [] => true
  | d :: r => dOK d && dOKs r
end
def byteD : DataW H → UInt8
  | .lit (.int _ n) => UInt8.ofNat n.toNat
  | _ => 0
def avD (P : Program) : Nat → TypeId → DataW H → List AV
  | 0, _, _ => []
  | d + 1, t, x => match und P t, x with
    | .bool, .lit (.bool b) => [.B b]
    | .int _, .lit (.int k n) => [.I k n]
    | .string, .lit (.string bs) => [.S bs]
    | .slice e, .nil => [if byteT P e then .Y [] else .L (szT P e) []]
    | .slice e, .slice els _ => [if byteT P e then .Y (els.map byteD) else .L (szT P e) (els.map (avD P d e))]
    | .struct fs, .agg parts => (fs.toList.zip parts).flatMap fun p => avD P d p.1.type p.2
    | .array _ e, .agg parts => parts.flatMap (avD P d e)
    | _, _ => []
end
def dataT (P : Program) : Nat → TypeId → Bool
  | 0, _ => false
  | d + 1, t => match und P t with
    | .bool | .int _ | .string => Nat.beq (szT P t) 1
    | .slice e => Nat.beq (szT P t) 1 && Nat.blt 0 (szT P e) && dataT P d e
    | .struct fs => tiles P 0 fs.toList (szT P t) && fs.toList.all fun f => dataT P d f.type
    | .array n e => Nat.beq (szT P t) (n * szT P e) && dataT P d e
    | _ => false
theorem dOKs_mem {H : Type} : ∀ {l : List (DataW H)} {d : DataW H}, dOKs l = true → d ∈ l → dOK d = true
  | x :: r, d, h, hm => by
    simp only [dOKs, Bool.and_eq_true] at h
    rcases List.mem_cons.1 hm with rfl | hm
    · exact h.1
    · exact dOKs_mem h.2 hm
theorem noPs_app : ∀ (a b : List AV), noPs a = true → noPs b = true → noPs (a ++ b) = true
  | [], b, _, h => h
  | x :: a, b, h, h' => by
    simp only [List.cons_append, noPs, Bool.and_eq_true] at h ⊢
    exact ⟨h.1, noPs_app a b h.2 h'⟩
section
variable {H : Type} {enc : TypeId × Value → H} {P : Program} {w : World} {base : Nat} {sp : Nat → Bool} {held : Bool} {g : Gh}
theorem wf_range {k : IntKind} {n : Int} (h : (Lit.int k n).wf = true) : k.min ≤ n ∧ n ≤ k.max := by
  simpa [Lit.wf] using h
theorem addr_block (a : Addr) (n : Nat) : (a.add n).block = a.block := by unfold Addr.add; split <;> rfl
theorem addr_off (a : Addr) (n : Nat) : (a.add n).off = a.off + n := by
  unfold Addr.add
  split
  · rename_i h; rw [h]; rfl
  · rfl
theorem spot_none {a : Addr} {v : Value} (h : w.cell? a = some v) : a = ⟨a.block, a.off, none⟩ := by
  obtain ⟨b, o, s⟩ := a
  cases s with
  | none => rfl
  | some s =>
    simp only [World.cell?] at h
    split at h
    · simp at h
    · cases h
theorem VC_of_VS {b : Nat} : ∀ (as : List AV) (vs : List Value) (o : Nat), VS g w as vs → (∀ j v, vs[j]? = some v → g.st b (o + j) ∧ w.cell? ⟨b, o + j, none⟩ = some v) → VC g w b o as
  | [], vs, o, _, _ => by simp [VC]
  | a :: as, vs, o, h, hc => by
    simp only [VS] at h
    obtain ⟨u, us, rfl, h1, h2, h3⟩ := h
    have h0 := hc 0 u rfl
    simp only [VC]
    refine ⟨by simpa using h0.1, ⟨u, by simpa using h0.2, h1, h2⟩, VC_of_VS as us (o + 1) h3 fun j v hv => ?_⟩
    have := hc (j + 1) v hv
    rw [show o + (j + 1) = o + 1 + j by omega] at this
    exact this
def Is (P : Program) (g : Gh) (w : World) (dep : Nat) (t : TypeId) (d : DataW H) (cs : List Value) : Prop :=
  VS g w (avD P dep t d) cs ∧ (avD P dep t d).length = szT P t ∧ noPs (avD P dep t d) = true
theorem VR_el {n b : Nat} : ∀ (l : List (List AV)) (o : Nat), (∀ i x, l[i]? = some x → x.length = n ∧ VC g w b (o + i * n) x) → VR g w n b o l
  | [], o, _ => by simp [VR]
  | x :: l, o, h => by
    have h0 := h 0 x rfl
    simp only [VR]
    refine ⟨h0.1, by simpa using h0.2, VR_el l (o + n) fun i y hy => ?_⟩
    have := h (i + 1) y (by simpa using hy)
    rw [show o + (i + 1) * n = o + n + i * n by rw [Nat.succ_mul]; omega] at this
    exact this
theorem fields_is {dep n : Nat} {cs : List Value} (hn : cs.length = n) : ∀ (fl : List Field) (ys : List (DataW H)) (off : Nat), tiles P off fl n = true → ys.length = fl.length →
    (∀ (i : Nat) (f : Field), fl[i]? = some f → ∃ y, ys[i]? = some y ∧ Is P g w dep f.type y ((cs.drop f.offset).take (szT P f.type))) →
    VS g w ((fl.zip ys).flatMap fun p => avD P dep p.1.type p.2) (cs.drop off) ∧ off + ((fl.zip ys).flatMap fun p => avD P dep p.1.type p.2).length = n ∧ noPs ((fl.zip ys).flatMap fun p => avD P dep p.1.type p.2) = true
  | [], ys, off, ht, hl, _ => by
    have := Nat.eq_of_beq_eq_true ht
    subst this
    refine ⟨?_, by simp, rfl⟩
    rw [List.drop_of_length_le (by omega)]
    simp [VS]
  | f :: fl, [], off, ht, hl, _ => by simp at hl
  | f :: fl, y :: ys, off, ht, hl, h => by
    simp only [tiles, Bool.and_eq_true] at ht
    have ho := Nat.eq_of_beq_eq_true ht.1
    obtain ⟨y', hy, h1, h2, h3⟩ := h 0 f rfl
    simp at hy
    subst hy
    obtain ⟨k1, k2, k3⟩ := fields_is hn fl ys (off + szT P f.type) ht.2 (by simpa using hl) fun i f' hf => by simpa using h (i + 1) f' (by simpa using hf)
    rw [ho] at h1
    simp only [List.zip_cons_cons, List.flatMap_cons]
    refine ⟨?_, by rw [List.length_append, h2]; omega, noPs_app _ _ h3 k3⟩
    have := VS_app _ _ _ _ h1 k1
    rwa [← List.drop_drop, List.take_append_drop] at this
theorem array_is {dep : Nat} {e : TypeId} {cs : List Value} : ∀ (ys : List (DataW H)) (k : Nat), cs.length = (k + ys.length) * szT P e → (∀ i y, ys[i]? = some y → Is P g w dep e y ((cs.drop ((k + i) * szT P e)).take (szT P e))) →
    VS g w (ys.flatMap (avD P dep e)) (cs.drop (k * szT P e)) ∧ (ys.flatMap (avD P dep e)).length = ys.length * szT P e ∧ noPs (ys.flatMap (avD P dep e)) = true
  | [], k, hl, _ => by
    refine ⟨?_, by simp, rfl⟩
    rw [List.drop_of_length_le (by simp at hl; omega)]
    simp [VS]
  | y :: ys, k, hl, h => by
    obtain ⟨h1, h2, h3⟩ := h 0 y rfl
    obtain ⟨k1, k2, k3⟩ := array_is ys (k + 1) (by rw [hl]; congr 1; simp; omega) fun i y' hy => by
      have := h (i + 1) y' (by simpa using hy)
      rwa [show k + (i + 1) = k + 1 + i by omega] at this
    simp only [List.flatMap_cons]
    refine ⟨?_, by rw [List.length_append, h2, k2, List.length_cons, Nat.succ_mul]; omega, noPs_app _ _ h3 k3⟩
    have := VS_app _ _ _ _ h1 k1
    rw [Nat.add_zero, show (k + 1) * szT P e = k * szT P e + szT P e by rw [Nat.succ_mul], ← List.drop_drop, List.take_append_drop] at this
    exact this
theorem trod_is (hst : ∀ b o, (w.cell? ⟨b, o, none⟩).isSome = true → g.st b o) : ∀ (dep fuel : Nat) (t : TypeId) (cs : List Value) (x : DataW H × List MemPlace), DataW.trod enc P w base sp held fuel t cs = some x → dataT P dep t = true → dOK x.1 = true → Is P g w dep t x.1 cs
  | 0, _, _, _, _, _, h, _ => by simp [dataT] at h
  | dep + 1, fuel, t, cs, x, h, ht, hd => by
    unfold dataT at ht
    unfold Is avD
    split at ht
    ·
      rename_i hu
      have hu' := und_some hu (by simp)
      obtain ⟨b, rfl, rfl⟩ := DataW.trod_bool hu' h
      simp only [hu]
      refine ⟨⟨_, _, rfl, V_B g w b, rfl, rfl⟩, by simpa using (Nat.eq_of_beq_eq_true ht).symm, by simp [noPs, noP]⟩
    · rename_i k hu
      have hu' := und_some hu (by simp)
      obtain ⟨z, rfl, rfl, hw⟩ := DataW.trod_int hu' h
      simp only [hu]
      have := wf_range hw
      refine ⟨⟨_, _, rfl, V_I g w this, rfl, rfl⟩, by simpa using (Nat.eq_of_beq_eq_true ht).symm, by simp [noPs, noP]⟩
    · rename_i hu
      have hu' := und_some hu (by simp)
      obtain ⟨bs, rfl, rfl, hl⟩ := DataW.trod_string hu' h
      simp only [hu]
      have hlen : bs.data.toList.length ≤ 140737488355328 := by simpa [dOK] using hd
      refine ⟨⟨_, _, rfl, ?_, rfl, rfl⟩, by simpa using (Nat.eq_of_beq_eq_true ht).symm, by simp [noPs, noP]⟩
      have := V_S g w hlen
      simpa using this
    ·
      rename_i e hu
      have hu' := und_some hu (by simp)
      simp only [Bool.and_eq_true] at ht
      have hz : 0 < szT P e := by simpa using ht.1.2
      have h1 := Nat.eq_of_beq_eq_true ht.1.1
      rcases DataW.trod_slice hu' h with ⟨rfl, rfl⟩ | ⟨a, len, cap, elems, rest, m, _, rfl, rfl, hb, hlc, hm, hlen, hel, _, _⟩
      · simp only [hu]
        split
        · refine ⟨⟨_, _, rfl, ?_, rfl, rfl⟩, by simpa using h1.symm, by simp [noPs, noP]⟩
          simp only [V]
          exact ⟨none, 0, 0, rfl, rfl, ⟨Nat.le_refl _, by omega⟩, .inl trivial⟩
        · refine ⟨⟨_, _, rfl, ?_, rfl, rfl⟩, by simpa using h1.symm, by simp [noPs, noP, noPss]⟩
          simp only [V]
          exact ⟨none, 0, 0, rfl, rfl, ⟨Nat.le_refl _, by omega⟩, .inl trivial⟩
      · simp only [hu]
        have hd' : dOKs (elems.map (·.1)) = true := by simpa [dOK] using hd
        have hmax : maxLen = 9223372036854775807 := by decide
        have each : ∀ i y, elems[i]? = some y → ∃ cs', w.cells? base (a.add (i * szT P e)) (szT P e) = some cs' ∧ DataW.trod enc P w base sp held m e cs' = some y := by
          intro i y hy
          have hi : i < len := by rw [← hlen]; exact (List.getElem?_eq_some_iff.1 hy).1
          have := hel i hi
          rw [hy] at this
          exact Option.bind_eq_some_iff.1 this
        have eachI : ∀ i y, elems[i]? = some y → ∃ cs', Is P g w dep e y.1 cs' ∧ cs'.length = szT P e ∧ (∀ j v, cs'[j]? = some v → g.st a.block (a.off + i * szT P e + j) ∧ w.cell? ⟨a.block, a.off + i * szT P e + j, none⟩ = some v) := by
          intro i y hy
          obtain ⟨cs', hcs, hy'⟩ := each i y hy
          obtain ⟨_, hcl, hcell⟩ := World.cells?_some hcs
          refine ⟨cs', trod_is hst dep m e cs' y hy' ht.2 (dOKs_mem hd' (List.mem_map.2 ⟨y, List.mem_of_getElem? hy, rfl⟩)), hcl, fun j v hv => ?_⟩
          have hj : j < szT P e := by rw [← hcl]; exact (List.getElem?_eq_some_iff.1 hv).1
          have hc := hcell j hj
          rw [hv] at hc
          have hsp := spot_none hc
          have hb' : ((a.add (i * szT P e)).add j).block = a.block ∧ ((a.add (i * szT P e)).add j).off = a.off + i * szT P e + j := by
            rw [addr_block, addr_block, addr_off, addr_off]
            exact ⟨rfl, rfl⟩
          rw [hb'.1, hb'.2] at hsp
          rw [hsp] at hc
          exact ⟨hst _ _ (by rw [hc]; rfl), hc⟩
        have hpt : ∀ y0, elems[0]? = some y0 → a = ⟨a.block, a.off, none⟩ := by
          intro y0 hy0
          obtain ⟨cs', hcs, _⟩ := each 0 y0 hy0
          obtain ⟨_, hcl, hcell⟩ := World.cells?_some hcs
          have := hcell 0 hz
          rw [Nat.zero_mul, show (a.add 0).add 0 = a by simp [Addr.add]] at this
          have h0 : 0 < cs'.length := by omega
          rw [List.getElem?_eq_getElem h0] at this
          exact spot_none this
        split
        · rename_i hby
          have hz1 := byteT_sz hby
          have hue := und_some (byteT_und hby) (by simp)
          refine ⟨⟨_, _, rfl, ?_, rfl, rfl⟩, by simpa using h1.symm, by simp [noPs, noP]⟩
          simp only [V]
          refine ⟨some a, len, cap, rfl, by simp [hlen], ⟨hlc, by omega⟩, ?_⟩
          cases helems : elems with
          | nil => exact .inl rfl
          | cons y0 l =>
            right
            rw [← helems]
            refine ⟨a.block, a.off, by rw [← hpt y0 (by rw [helems]; rfl)], VY_of _ _ fun j x hx => ?_⟩
            rw [List.getElem?_map, List.getElem?_map, Option.map_map, Option.map_eq_some_iff] at hx
            obtain ⟨y, hy, rfl⟩ := hx
            obtain ⟨cs', hcs, hy'⟩ := each j y hy
            obtain ⟨cs2, _, _, hc2⟩ := eachI j y hy
            obtain ⟨z, rfl, rfl, hw⟩ := DataW.trod_int hue hy'
            obtain ⟨_, hcl, hcell⟩ := World.cells?_some hcs
            have hr := wf_range hw
            have hb2 : ((a.add (j * szT P e)).add 0) = ⟨a.block, a.off + j, none⟩ := by
              have hc := hcell 0 (by omega)
              have hsp := spot_none (v := .int .u8 z) (by rw [hc]; rfl)
              rw [hsp]
              have : ((a.add (j * szT P e)).add 0).block = a.block ∧ ((a.add (j * szT P e)).add 0).off = a.off + j := by
                rw [hz1, Nat.mul_one]
                rw [addr_block, addr_block, addr_off, addr_off]
                exact ⟨rfl, rfl⟩
              rw [this.1, this.2]
            have hc := hcell 0 (by omega)
            rw [hb2] at hc
            have hc : w.cell? ⟨a.block, a.off + j, none⟩ = some (.int .u8 z) := hc
            refine ⟨?_, hst _ _ (by rw [hc]; rfl)⟩
            rw [hc]
            have e1 : IntKind.u8.min = 0 := by decide
            have e2 : IntKind.u8.max = 255 := by decide
            rw [e1, e2] at hr
            show some (Value.int .u8 z) = some (.int .u8 (UInt8.ofNat z.toNat).toNat)
            congr 2
            simp
            omega
        · refine ⟨⟨_, _, rfl, ?_, rfl, rfl⟩, by simpa using h1.symm, ?_⟩
          · simp only [V]
            refine ⟨some a, len, cap, rfl, by simp [hlen], ⟨hlc, by omega⟩, ?_⟩
            cases helems : elems with
            | nil => exact .inl rfl
            | cons y0 l =>
              right
              rw [← helems]
              refine ⟨a.block, a.off, by rw [← hpt y0 (by rw [helems]; rfl)], VR_el _ _ fun i x hx => ?_⟩
              rw [List.getElem?_map, List.getElem?_map, Option.map_map, Option.map_eq_some_iff] at hx
              obtain ⟨y, hy, rfl⟩ := hx
              obtain ⟨cs', ⟨k1, k2, _⟩, k4, k5⟩ := eachI i y hy
              exact ⟨k2, VC_of_VS _ _ _ k1 k5⟩
          · simp only [noPs, noP, Bool.and_true]
            have : ∀ (l : List (DataW H × List MemPlace)), (∀ y ∈ l, noPs (avD P dep e y.1) = true) → noPss ((l.map (·.1)).map (avD P dep e)) = true := by
              intro l
              induction l with
              | nil => intro _; rfl
              | cons y l ih =>
                intro hall
                simp only [List.map_cons, noPss, Bool.and_eq_true]
                exact ⟨hall y List.mem_cons_self, ih fun z hz => hall z (List.mem_cons_of_mem _ hz)⟩
            refine this elems fun y hy => ?_
            obtain ⟨i, hi⟩ := List.getElem?_of_mem hy
            obtain ⟨cs', ⟨_, _, k3⟩, _⟩ := eachI i y hi
            exact k3
    ·
      rename_i fs hu
      have hu' := und_some hu (by simp)
      simp only [Bool.and_eq_true] at ht
      obtain ⟨xs, m, _, rfl, hcl, hxl, hf⟩ := DataW.trod_struct hu' h
      simp only [hu]
      have hd' : dOKs (xs.map (·.1)) = true := by simpa [dOK] using hd
      have := fields_is (P := P) (g := g) (w := w) (dep := dep) (cs := cs) hcl fs.toList (xs.map (·.1)) 0 ht.1 (by simp [hxl]) fun i f hfi => by
        have h2 := hf i f (by rw [← Array.getElem?_toList]; exact hfi)
        have hlt : i < xs.length := by rw [hxl, ← Array.length_toList]; exact (List.getElem?_eq_some_iff.1 hfi).1
        rw [List.getElem?_eq_getElem hlt] at h2
        refine ⟨xs[i].1, by simp [hlt], trod_is hst dep m f.type _ xs[i] h2 (List.all_eq_true.1 ht.2 f (List.mem_of_getElem? hfi)) (dOKs_mem hd' (List.mem_map.2 ⟨xs[i], List.getElem_mem hlt, rfl⟩))⟩
      rw [List.drop_zero, Nat.zero_add] at this
      exact this
    ·
      rename_i n e hu
      have hu' := und_some hu (by simp)
      simp only [Bool.and_eq_true] at ht
      have hsz := Nat.eq_of_beq_eq_true ht.1
      obtain ⟨xs, m, _, rfl, hcl, hxl, hf⟩ := DataW.trod_array hu' h
      have hcl : cs.length = szT P t := hcl
      simp only [hu]
      have hd' : dOKs (xs.map (·.1)) = true := by simpa [dOK] using hd
      have := array_is (P := P) (g := g) (w := w) (dep := dep) (e := e) (cs := cs) (xs.map (·.1)) 0 (by rw [hcl, hsz]; simp [hxl]) fun i y hy => by
        rw [List.getElem?_map, Option.map_eq_some_iff] at hy
        obtain ⟨x, hx, rfl⟩ := hy
        have hlt : i < n := by rw [← hxl]; exact (List.getElem?_eq_some_iff.1 hx).1
        have h2 := hf i hlt
        rw [hx] at h2
        rw [Nat.zero_add]
        exact trod_is hst dep m e _ x h2 ht.2 (dOKs_mem hd' (List.mem_map.2 ⟨x, List.mem_of_getElem? hx, rfl⟩))
      rw [Nat.zero_mul, List.drop_zero] at this
      rw [hsz]
      refine ⟨this.1, ?_, this.2.2⟩
      rw [this.2.1]
      simp [hxl]
    · cases ht
end
end Go.Vm
namespace Go.Vm
open Go
section
variable {H : Type} {enc : TypeId × Value → H} {P : Program} {w : World} {base : Nat} {sp : Nat → Bool} {held : Bool}
theorem dOKs_of : ∀ {l : List (DataW H)}, (∀ d ∈ l, dOK d = true) → dOKs l = true
  | [], _ => rfl
  | d :: l, h => by
    simp only [dOKs, Bool.and_eq_true]
    exact ⟨h d List.mem_cons_self, dOKs_of fun x hx => h x (List.mem_cons_of_mem _ hx)⟩
def light (l : List Nat) : Prop := l.all (fun x => decide (x ≤ reachBytes)) = true
theorem light_app {a b : List Nat} (h : light (a ++ b)) : light a ∧ light b := by
  simpa [light, List.all_append, Bool.and_eq_true] using h
theorem light_all {e : TypeId} : ∀ {l : List (DataW H)}, light (DataW.weightsAll P e l) → ∀ d ∈ l, light (d.weights P e)
  | x :: l, h, d, hd => by
    simp only [DataW.weightsAll] at h
    obtain ⟨h1, h2⟩ := light_app h
    rcases List.mem_cons.1 hd with rfl | hd
    · exact h1
    · exact light_all h2 d hd
theorem light_each : ∀ {ts : List TypeId} {l : List (DataW H)}, light (DataW.weightsEach P ts l) → ∀ (i : Nat) t d, ts[i]? = some t → l[i]? = some d → light (d.weights P t)
  | t :: ts, x :: l, h, 0, t', d, ht, hd => by
    simp only [DataW.weightsEach] at h
    simp at ht hd
    subst ht; subst hd
    exact (light_app h).1
  | t :: ts, x :: l, h, i + 1, t', d, ht, hd => by
    simp only [DataW.weightsEach] at h
    exact light_each (light_app h).2 i t' d (by simpa using ht) (by simpa using hd)
  | [], _, _, _, _, _, ht, _ => by simp at ht
  | _ :: _, [], _, _, _, _, _, hd => by simp at hd
theorem trod_ok : ∀ (dep fuel : Nat) (t : TypeId) (cs : List Value) (x : DataW H × List MemPlace), DataW.trod enc P w base sp held fuel t cs = some x → dataT P dep t = true → light (x.1.weights P t) → dOK x.1 = true
  | 0, _, _, _, _, _, h, _ => by simp [dataT] at h
  | dep + 1, fuel, t, cs, x, h, ht, hl => by
    unfold dataT at ht
    split at ht
    · rename_i hu
      obtain ⟨b, rfl, rfl⟩ := DataW.trod_bool (und_some hu (by simp)) h
      rfl
    · rename_i k hu
      obtain ⟨z, rfl, rfl, hw⟩ := DataW.trod_int (und_some hu (by simp)) h
      rfl
    · rename_i hu
      obtain ⟨bs, rfl, rfl, _⟩ := DataW.trod_string (und_some hu (by simp)) h
      simp only [DataW.weights, light, List.all_cons, List.all_nil, Bool.and_true, decide_eq_true_eq] at hl
      simp only [dOK, decide_eq_true_eq]
      unfold reachBytes at hl
      omega
    · rename_i e hu
      have hu' := und_some hu (by simp)
      simp only [Bool.and_eq_true] at ht
      rcases DataW.trod_slice hu' h with ⟨rfl, rfl⟩ | ⟨a, len, cap, elems, rest, m, _, rfl, rfl, hb, hlc, hm, hlen, hel, _, _⟩
      · rfl
      · simp only [DataW.weights, hu'] at hl
        have hl2 : light (DataW.weightsAll P e (elems.map (·.1))) := by
          have : light ([_] ++ (_ ++ _)) := hl
          exact (light_app (light_app this).2).1
        simp only [dOK]
        refine dOKs_of fun d hd => ?_
        obtain ⟨y, hy, rfl⟩ := List.mem_map.1 hd
        obtain ⟨i, hi⟩ := List.getElem?_of_mem hy
        have hil : i < len := by rw [← hlen]; exact (List.getElem?_eq_some_iff.1 hi).1
        have := hel i hil
        rw [hi] at this
        obtain ⟨cs', _, h2⟩ := Option.bind_eq_some_iff.1 this
        exact trod_ok dep m e cs' y h2 ht.2 (light_all hl2 _ hd)
    · rename_i fs hu
      have hu' := und_some hu (by simp)
      simp only [Bool.and_eq_true] at ht
      obtain ⟨xs, m, _, rfl, hcl, hxl, hf⟩ := DataW.trod_struct hu' h
      simp only [DataW.weights, hu'] at hl
      simp only [dOK]
      refine dOKs_of fun d hd => ?_
      obtain ⟨y, hy, rfl⟩ := List.mem_map.1 hd
      obtain ⟨i, hi⟩ := List.getElem?_of_mem hy
      have hil : i < fs.size := by rw [← hxl]; exact (List.getElem?_eq_some_iff.1 hi).1
      have hfi : fs[i]? = some fs[i] := Array.getElem?_eq_getElem hil
      have h2 := hf i fs[i] hfi
      rw [hi] at h2
      refine trod_ok dep m fs[i].type _ y h2 (List.all_eq_true.1 ht.2 _ (by simp)) (light_each hl i _ _ ?_ (by simp [hi]))
      rw [List.getElem?_map, Array.getElem?_toList, hfi]
      rfl
    · rename_i n e hu
      have hu' := und_some hu (by simp)
      simp only [Bool.and_eq_true] at ht
      obtain ⟨xs, m, _, rfl, hcl, hxl, hf⟩ := DataW.trod_array hu' h
      simp only [DataW.weights, hu'] at hl
      simp only [dOK]
      refine dOKs_of fun d hd => ?_
      obtain ⟨y, hy, rfl⟩ := List.mem_map.1 hd
      obtain ⟨i, hi⟩ := List.getElem?_of_mem hy
      have hil : i < n := by rw [← hxl]; exact (List.getElem?_eq_some_iff.1 hi).1
      have h2 := hf i hil
      rw [hi] at h2
      exact trod_ok dep m e _ y h2 ht.2 (light_all hl _ hd)
    · cases ht
theorem args_ok : ∀ (ts : List TypeId) (vs : List Value) (ds : List (DataW H)) (ps : List MemPlace), DataW.TrodAll enc P w base sp held ts vs ds ps → (ts.all fun t => dataT P 20 t) = true → light (DataW.weightsEach P ts ds) → dOKs ds = true
  | [], [], [], ps, h, _, _ => rfl
  | [], [], _ :: _, ps, h, _, _ => by simp [DataW.TrodAll] at h
  | [], _ :: _, _, ps, h, _, _ => by simp [DataW.TrodAll] at h
  | t :: ts, [], _, ps, h, _, _ => by simp [DataW.TrodAll] at h
  | t :: ts, v :: vs, [], ps, h, _, _ => by simp [DataW.TrodAll] at h
  | t :: ts, v :: vs, d :: ds, ps, h, ht, hl => by
    simp only [DataW.TrodAll] at h
    obtain ⟨p, q, ⟨fuel, h1⟩, h2, rfl⟩ := h
    simp only [List.all_cons, Bool.and_eq_true] at ht
    simp only [DataW.weightsEach] at hl
    obtain ⟨l1, l2⟩ := light_app hl
    simp only [dOKs, Bool.and_eq_true]
    exact ⟨trod_ok 20 fuel t _ _ h1 ht.1 l1, args_ok ts vs ds q h2 ht.2 l2⟩
end
def gin (W : World) : Gh := { n := 0, ix := fun _ => (0, undef), st := fun b _ => b < W.heap.size, ow := fun _ => none, df := [] }
theorem gin_wf (W : World) : Wf (gin W) W := fun b i h => h
theorem gin_st {W : World} (b o : Nat) (h : (W.cell? ⟨b, o, none⟩).isSome = true) : (gin W).st b o := by
  show b < W.heap.size
  rcases Nat.lt_or_ge b W.heap.size with hlt | hge
  · exact hlt
  · simp [World.cell?, Array.getElem?_eq_none hge] at h
def argAV {H : Type} (P : Program) (t : TypeId) (d : DataW H) : AV := if aggT P t = true then .A (avD P 20 t d) else (avD P 20 t d).headD .U
def argsOf {H : Type} (P : Program) : List TypeId → List (DataW H) → List AV
  | t :: ts, d :: ds => argAV P t d :: argsOf P ts ds
  | _, _ => []
section
variable {H : Type} {enc : TypeId × Value → H} {P : Program} {W : World}
theorem cells_one {r : Reach} {base : Nat} {t : TypeId} {v : Value} (ht : dataT P 20 t = true) (ha : aggT P t = false) (hv : Value.okWide P W r base t v) : v.cells = #[v] := by
  unfold dataT at ht
  cases v with
  | agg cs =>
    exfalso
    split at ht
    · rename_i hu; simp [Value.okWide, und_some hu (by simp), Cell.okWide, Cell.ok] at hv
    · rename_i hu; simp [Value.okWide, und_some hu (by simp), Cell.okWide, Cell.ok] at hv
    · rename_i hu; simp [Value.okWide, und_some hu (by simp), Cell.okWide, Cell.ok] at hv
    · rename_i hu; simp [Value.okWide, und_some hu (by simp), Cell.okWide, Cell.ok] at hv
    · rename_i hu; simp [aggT, hu] at ha
    · rename_i hu; simp [aggT, hu] at ha
    · cases ht
  | _ => rfl
theorem cells_agg {r : Reach} {base : Nat} {t : TypeId} {v : Value} (ha : aggT P t = true) (hv : Value.okWide P W r base t v) : ∃ cs, v = .agg cs := by
  unfold aggT at ha
  split at ha
  · rename_i fs hu
    simp only [Value.okWide, und_some hu (by simp)] at hv
    obtain ⟨cs, h, _⟩ := hv
    exact ⟨cs, h⟩
  · rename_i n e hu
    simp only [Value.okWide, und_some hu (by simp)] at hv
    obtain ⟨cs, h, _⟩ := hv
    exact ⟨cs, h⟩
  · cases ha
theorem args_VT {base : Nat} : ∀ (ts : List TypeId) (vs : List Value) (ds : List (DataW H)) (ps : List MemPlace), DataW.TrodAll enc P W 0 (fun _ => true) true ts vs ds ps → (ts.all fun t => dataT P 20 t) = true → dOKs ds = true →
    (∀ (j : Nat) t v, ts[j]? = some t → vs[j]? = some v → Value.okWide P W .any base t v) → VT (gin W) W (argsOf P ts ds) vs ∧ noPs (argsOf P ts ds) = true ∧ ds.length = ts.length
  | [], [], [], ps, h, _, _, _ => ⟨by simp [argsOf, VT], rfl, rfl⟩
  | [], [], _ :: _, ps, h, _, _, _ => by simp [DataW.TrodAll] at h
  | [], _ :: _, _, ps, h, _, _, _ => by simp [DataW.TrodAll] at h
  | t :: ts, [], _, ps, h, _, _, _ => by simp [DataW.TrodAll] at h
  | t :: ts, v :: vs, [], ps, h, _, _, _ => by simp [DataW.TrodAll] at h
  | t :: ts, v :: vs, d :: ds, ps, h, ht, hd, hv => by
    simp only [DataW.TrodAll] at h
    obtain ⟨p, q, ⟨fuel, h1⟩, h2, rfl⟩ := h
    simp only [List.all_cons, Bool.and_eq_true] at ht
    simp only [dOKs, Bool.and_eq_true] at hd
    obtain ⟨k1, k2, k3⟩ := args_VT ts vs ds q h2 ht.2 hd.2 fun j t' v' a b => hv (j + 1) t' v' (by simpa using a) (by simpa using b)
    obtain ⟨i1, i2, i3⟩ := trod_is (g := gin W) gin_st 20 fuel t _ _ h1 ht.1 hd.1
    have hok := hv 0 t v rfl rfl
    simp only [argsOf, VT, noPs, Bool.and_eq_true, List.length_cons, k3]
    unfold argAV
    cases ha : aggT P t with
    | true =>
      obtain ⟨cs, rfl⟩ := cells_agg ha hok
      simp only [if_true]
      refine ⟨⟨_, _, rfl, ?_, k1⟩, ⟨?_, k2⟩, trivial⟩
      · simp only [V]
        exact ⟨cs.toList, by simp, i1⟩
      · simpa [noP] using i3
    | false =>
      have hc := cells_one ht.1 ha hok
      rw [hc] at i1
      simp only [Bool.false_eq_true, if_false]
      cases hav : avD P 20 t d with
      | nil =>
        simp only at i1
        rw [hav] at i1
        simp [VS] at i1
      | cons a as =>
        simp only at i1 i3
        rw [hav] at i1 i3
        simp only [VS] at i1
        obtain ⟨u, us, e, hva, _, _⟩ := i1
        simp only [List.cons.injEq] at e
        obtain ⟨rfl, _⟩ := e
        simp only [noPs, Bool.and_eq_true] at i3
        exact ⟨⟨_, _, rfl, hva, k1⟩, ⟨i3.1, k2⟩, trivial⟩
theorem all_stay {W' : World} (K : Kids P (· < P.types.size)) (hsz : ∀ {t e : TypeId}, t < P.types.size → P.underlying t = some (.slice e) → 0 < P.cellsOf e) (hsame : ∀ b, b < W.heap.size → W'.heap[b]? = W.heap[b]?) {sp : Nat → Bool} :
    ∀ (ts : List TypeId) (vs : List Value) (ds : List (DataW H)) (ps : List MemPlace), (∀ t ∈ ts, t < P.types.size) → DataW.TrodAll enc P W 0 (fun _ => true) true ts vs ds ps → (∀ p ∈ ps, p.block < W.heap.size) → (∀ p ∈ ps, sp p.block = true) → DataW.TrodAll enc P W' 0 sp true ts vs ds ps
  | [], [], [], ps, _, h, _, _ => by simpa [DataW.TrodAll] using h
  | [], [], _ :: _, ps, _, h, _, _ => by simp [DataW.TrodAll] at h
  | [], _ :: _, _, ps, _, h, _, _ => by simp [DataW.TrodAll] at h
  | t :: ts, [], _, ps, _, h, _, _ => by simp [DataW.TrodAll] at h
  | t :: ts, v :: vs, [], ps, _, h, _, _ => by simp [DataW.TrodAll] at h
  | t :: ts, v :: vs, d :: ds, ps, hts, h, hlt, hsp => by
    simp only [DataW.TrodAll] at h ⊢
    obtain ⟨p, q, ⟨fuel, h1⟩, h2, rfl⟩ := h
    refine ⟨p, q, ⟨fuel, DataW.trod_stays K (fun a b => hsz a b) (fun e => by cases e) (hts t List.mem_cons_self) h1 (fun x hx => ?_) fun x hx => hsp x (List.mem_append_left _ hx)⟩,
      all_stay K hsz hsame ts vs ds q (fun t' ht' => hts t' (List.mem_cons_of_mem _ ht')) h2 (fun x hx => hlt x (List.mem_append_right _ hx)) (fun x hx => hsp x (List.mem_append_right _ hx)), rfl⟩
    have hb := hlt x (List.mem_append_left _ hx)
    cases x with
    | cell b off => simp only [World.sameAt, World.cell?, hsame b hb]
    | map b => exact hsame b hb
end
section
variable {H : Type} {enc : TypeId × Value → H} {P : Program}
theorem post_true {fn : Func} {s : ChangeSpec} {W W' : World} {args : Array Value} {ds gs : List (DataW H)} {before : List MemPlace} {tb : TypeId} (K : Kids P (· < P.types.size)) (hsz : ∀ {t e : TypeId}, t < P.types.size → P.underlying t = some (.slice e) → 0 < P.cellsOf e)
    (hts : ∀ t ∈ fn.params.toList, t < P.types.size) (hres : fn.resultTypes = #[tb]) (htb : P.underlying tb = some .bool) (hvars : s.vars = []) (hspec : s.fn H ds = { results := [.lit (.bool true)], args := ds })
    (hW : DataW.Whole enc P fn.params.toList s.vars false W args.toList ds gs before) (hsame : ∀ b, b < W.heap.size → W'.heap[b]? = W.heap[b]?) (hos : W'.os = W.os) (hout : W'.output = W.output) :
    s.post enc P fn false true false false W args (.bool true) W' := by
  have hW0 := hW
  obtain ⟨p, q, hA, hV, rfl, hz, hn⟩ := hW
  rw [hvars] at hV
  obtain ⟨rfl, rfl⟩ := Go.ChangeShapes.trodVars_none hV
  have hlt : ∀ x ∈ p, x.block < W.heap.size := fun x hx => hW0.lt x (List.mem_append_left _ hx)
  have hres1 : ∀ (b : Nat) (sp : Nat → Bool) (hd : Bool), DataW.TrodAll enc P W' b sp hd fn.resultTypes.toList ((Value.bool true).resultList fn.resultTypes.size) [.lit (.bool true)] [] := by
    intro b sp hd
    rw [hres]
    exact ⟨[], [], ⟨1, by simp [DataW.trod, Value.cells, htb]⟩, rfl, rfl⟩
  have hargs : ∀ sp : Nat → Bool, (∀ x ∈ p, sp x.block = true) → DataW.TrodAll enc P W' 0 sp true fn.params.toList args.toList ds p := fun sp hsp =>
    all_stay K hsz hsame _ _ _ _ hts hA hlt hsp
  have hkept : W.keptBut W' (fun _ => False) := by
    refine ⟨hos, hout, fun i hi => ?_⟩
    rw [hsame i hi]
    cases W.heap[i]? with
    | none => rfl
    | some o => cases o <;> first | rfl | exact ⟨rfl, rfl, rfl, fun _ _ => rfl⟩ | exact .inr ⟨rfl, rfl⟩
  simp only [List.append_nil] at hspec hW0 hz hn
  unfold ChangeSpec.post
  refine ⟨ds, [], p, [], p, [], by simpa using hW0, ?_, ?_, ?_, World.keptBut_mono (fun _ h => h.elim) hkept, fun h => by cases h⟩
  · rw [List.append_nil, hspec]
    exact hres1 _ _ _
  · rw [List.append_nil, hspec]
    exact hargs _ fun x hx => by simpa using hlt x hx
  · rw [List.append_nil, hspec, hvars]
    rfl
end
section
variable {C : Cx} {f : FuncId} {fn : Func} {S : FF}
theorem contract (hS : Sound C f S) (hp : C.pure f = true) (hfr : C.fresh f = none) (K : Kids C.P (· < C.P.types.size)) (hsz : ∀ {t e : TypeId}, t < C.P.types.size → C.P.underlying t = some (.slice e) → 0 < C.P.cellsOf e)
    (hts : ∀ t ∈ fn.params.toList, t < C.P.types.size) (hdt : (fn.params.toList.all fun t => dataT C.P 20 t) = true) {tb : TypeId} (hres : fn.resultTypes = #[tb]) (htb : C.P.underlying tb = some .bool) {s : ChangeSpec} (hvars : s.vars = [])
    {H : Type} {enc : TypeId × Value → H} {W : World} {base : Nat} {args : Array Value} {ds gs : List (DataW H)} {before : List MemPlace}
    (hval : ∀ (j : Nat) t v, fn.params[j]? = some t → args[j]? = some v → Value.okWide C.P W .any base t v)
    (hW : DataW.Whole enc C.P fn.params.toList s.vars false W args.toList ds gs before) (hspec : s.fn H ds = { results := [.lit (.bool true)], args := ds }) (hglob : GlobR C (gin W) W) (hd : dOKs ds = true)
    (heval : VT (gin W) W (argsOf C.P fn.params.toList ds) args.toList → S (argsOf C.P fn.params.toList ds) [] = .ret (.B true) []) :
    Calls C.P f args W fun e W' => ∃ v, e = .returned v ∧ s.post enc C.P fn false true false false W args v W' := by
  obtain ⟨p, q, hA, hV, _, _, _⟩ := id hW
  obtain ⟨k1, k2, _⟩ := args_VT (base := base) _ _ _ _ hA hdt hd fun j t v a b => hval j t v (by rw [← Array.getElem?_toList]; exact a) (by rw [← Array.getElem?_toList]; exact b)
  unfold Sound at hS
  rw [if_pos hp] at hS
  obtain ⟨_, hc⟩ := hS.1 (gin W) W _ args.toList _ (heval k1) (by simp) k2 rfl k1 (gin_wf W) hglob (fun _ => rfl)
  rw [Array.toArray_toList] at hc
  refine hc.mono fun e W' he => ?_
  rw [hfr] at he
  cases e with
  | returned u =>
    obtain ⟨v, h', g', h1, h2, h3, h4⟩ := he
    cases h1
    have hu : u = .bool true := V_B' (g := g') (w := W') h4
    subst hu
    exact ⟨_, rfl, post_true K (fun a b => hsz a b) hts hres htb hvars hspec hW (fun b hb => h2.blk b hb fun x => x) h2.os h2.out⟩
  | panicked chain => obtain ⟨v, h', u, g', h1, _⟩ := he; cases h1
  | outgrown => exact he.elim
end
theorem laid_VC {P : Program} {W : World} {n : String} {d : DataW Unit} {gi t : Nat} (hg : P.globalNamed n = some gi) (hty : (P.globals[gi]?).map (·.type) = some t) (hdt : dataT P 20 t = true) (hd : dOK d = true) :
    ∀ (laid : List (String × DataW Unit)) (ps : List MemPlace), DataW.LaidVars P W laid ps → (n, d) ∈ laid → GV (gin W) W gi (avD P 20 t d)
  | [], _, _, hm => by cases hm
  | (n', d') :: r, ps, h, hm => by
    simp only [DataW.LaidVars] at h
    obtain ⟨g, t', cs, fuel, p, q, h1, h2, h3, h4, h5, h6⟩ := h
    rcases List.mem_cons.1 hm with e | hm
    · cases e
      obtain rfl := Option.some.inj (hg.symm.trans h1)
      obtain rfl := Option.some.inj (hty.symm.trans h2)
      obtain ⟨i1, _, _⟩ := trod_is (g := gin W) gin_st 20 fuel t _ _ h4 hdt hd
      simp only [World.var?, hg, Option.bind_some] at h3
      have hlt : gi < W.heap.size := by
        rcases Nat.lt_or_ge gi W.heap.size with hlt | hge
        · exact hlt
        · simp [Array.getElem?_eq_none hge] at h3
      have hc : ∀ j, W.cell? ⟨gi, j, none⟩ = cs.toList[j]? := by
        intro j
        cases hh : W.heap[gi]? with
        | none => rw [hh] at h3; cases h3
        | some o =>
          rw [hh] at h3
          cases o with
          | cells c ty fr =>
            simp only [Option.some.injEq] at h3
            subst h3
            simp only [World.cell?, hh]
            simp
          | _ => cases h3
      refine ⟨VC_of_VS _ _ _ i1 fun j v hv => ⟨hlt, by rw [Nat.zero_add, hc]; exact hv⟩, hlt, ?_⟩
      rw [hc, List.getElem?_eq_none]
      exact Nat.le_of_eq (VS.length _ _ i1)
    · exact laid_VC hg hty hdt hd r q h5 hm
def slicesOK (P : Program) : Bool := (List.range P.types.size).all fun t => match P.underlying t with
  | some (.slice e) => Nat.blt 0 (P.cellsOf e)
  | _ => true
theorem slicesOK_get {P : Program} (h : slicesOK P = true) {t e : TypeId} (ht : t < P.types.size) (hu : P.underlying t = some (.slice e)) : 0 < P.cellsOf e := by
  have := List.all_eq_true.1 h t (List.mem_range.2 ht)
  simp only [hu] at this
  simpa using this
end Go.Vm
namespace Go.Vm
open Go
structure Sp where
  pre : List AV → List HO → Bool
  val : List AV → List HO → AV
  hp : List AV → List HO → List HO
def Sp.sem (p : Sp) : List AV → List HO → Res := fun as h => chk (p.pre as h) (.ret (p.val as h) (p.hp as h))
def spN : Sp := ⟨fun _ _ => false, fun _ _ => .U, fun _ h => h⟩
def altAlg (pu : FuncId → Bool) (sp : FuncId → Sp) : Alg Res := { stdAlg pu (fun f => (sp f).sem) with
  call := fun f as h K => chk ((sp f).pre as h) (K ((sp f).val as h) ((sp f).hp as h))
  pcall := fun f as _ K => chk (noPs as) (chk ((sp f).pre as []) (chk (noP ((sp f).val as [])) (K ((sp f).val as [])))) }
theorem altAlg_eq (pu : FuncId → Bool) (sp : FuncId → Sp) : altAlg pu sp = stdAlg pu (fun f => (sp f).sem) := by
  have h1 : (fun (f : FuncId) (as : List AV) (h : List HO) (K : AV → List HO → Res) => chk ((sp f).pre as h) (K ((sp f).val as h) ((sp f).hp as h))) = fun f as h K => bRes ((sp f).sem as h) K := by
    funext f as h K
    unfold Sp.sem
    cases (sp f).pre as h <;> rfl
  have h2 : (fun (f : FuncId) (as : List AV) (_ : List HO) (K : AV → Res) => chk (noPs as) (chk ((sp f).pre as []) (chk (noP ((sp f).val as [])) (K ((sp f).val as []))))) = fun f as h K => pcall (sp f).sem as h K := by
    funext f as h K
    unfold pcall Sp.sem
    cases noPs as with
    | false => rfl
    | true =>
      cases (sp f).pre as [] with
      | false => rfl
      | true =>
        show chk (noP ((sp f).val as [])) (K ((sp f).val as [])) = match noP ((sp f).val as []) with
          | true => K ((sp f).val as [])
          | false => .stuck
        cases noP ((sp f).val as []) <;> rfl
  unfold altAlg
  rw [h1, h2]
  rfl
theorem noPan_sp (sp : FuncId → Sp) : noPan (fun f => (sp f).sem) = fun f => (sp f).sem := by
  funext f as h
  show noPan1 (sp f).sem as h = (sp f).sem as h
  unfold noPan1 Sp.sem
  show (match chk ((sp f).pre as h) (Res.ret ((sp f).val as h) ((sp f).hp as h)) with
    | .pan _ _ => .stuck
    | r => r) = chk ((sp f).pre as h) (Res.ret ((sp f).val as h) ((sp f).hp as h))
  cases (sp f).pre as h <;> rfl
def semU (cx : Cx) (ann : Ann) (fn : Func) (sp : FuncId → Sp) : List AV → List HO → Res :=
  aF (altAlg cx.pure sp) cx ann (altAlg cx.pure sp) fn
theorem semU_eq (cx : Cx) (ann : Ann) (fn : Func) (sp : FuncId → Sp) : semU cx ann fn sp = semF cx ann fn (fun f => (sp f).sem) := by
  unfold semU semF
  rw [noPan_sp, altAlg_eq]
theorem Sound.mono {C : Cx} {f : FuncId} {S S' : List AV → List HO → Res} (h : Sound C f S) (hle : ∀ as l R, S' as l = R → R ≠ .stuck → S as l = R) : Sound C f S' := by
  unfold Sound at *
  split at h
  · rename_i hp
    rw [if_pos hp]
    obtain ⟨h1, h2⟩ := h
    refine ⟨fun g w as vals R e hR => h1 g w as vals R (hle _ _ _ e hR) hR, fun e he => ?_⟩
    obtain ⟨k, hk⟩ := h2 e he
    exact ⟨k, fun g w c as u0 vals v l hs => hk g w c as u0 vals v l (hle _ _ _ hs (by simp))⟩
  · rename_i hp
    rw [if_neg hp]
    exact fun g w as vals l R e hR => h g w as vals l R (hle _ _ _ e hR) hR
theorem Sound.sp {C : Cx} {f : FuncId} {S : List AV → List HO → Res} {p : Sp} (h : Sound C f S) (hle : ∀ as l, p.pre as l = true → S as l = .ret (p.val as l) (p.hp as l)) : Sound C f p.sem :=
  h.mono fun as l R e hR => by
    unfold Sp.sem at e
    cases hp : p.pre as l with
    | false => rw [hp] at e; exact absurd e.symm hR
    | true => rw [hp] at e; rw [hle as l hp]; exact e
theorem sound_spN {C : Cx} {f : FuncId} : Sound C f spN.sem := by
  have h : ∀ (as : List AV) (l : List HO) (R : Res), spN.sem as l = R → R ≠ .stuck → False := fun as l R e hR => hR e.symm
  unfold Sound
  split
  · exact ⟨fun g w as vals R e hR => (h _ _ _ e hR).elim, fun e he => ⟨0, fun g w c as u0 vals v l hs => (h _ _ _ hs (fun e => by cases e)).elim⟩⟩
  · exact fun g w as vals l R e hR => (h _ _ _ e hR).elim
theorem Sound.spV {C : Cx} {f : FuncId} {S : List AV → List HO → Res} {p : Sp} (he : C.eats f = none) (h : Sound C f S) (hle : ∀ as l (g : Gh) (w : World) (vals : List Value), VT g w as vals → p.pre as l = true → S as l = .ret (p.val as l) (p.hp as l)) : Sound C f p.sem := by
  have key : ∀ as l (g : Gh) (w : World) (vals : List Value) R, VT g w as vals → p.sem as l = R → R ≠ .stuck → S as l = R := by
    intro as l g w vals R hv e hR
    unfold Sp.sem at e
    cases hp : p.pre as l with
    | false => rw [hp] at e; exact absurd e.symm hR
    | true => rw [hp] at e; rw [hle as l g w vals hv hp]; exact e
  unfold Sound at h ⊢
  split at h
  · rename_i hp
    rw [if_pos hp]
    exact ⟨fun g w as vals R e hR h1 h2 hv => h.1 g w as vals R (key as [] g w vals R hv e hR) hR h1 h2 hv, fun e hx => by rw [he] at hx; cases hx⟩
  · rename_i hp
    rw [if_neg hp]
    exact fun g w as vals l R e hR hh hv => h g w as vals l R (key as l g w vals R hv e hR) hR hh hv
theorem Sound.pureV {C : Cx} {f : FuncId} {S : List AV → List HO → Res} {p : Sp} (hp : C.pure f = true) (he : C.eats f = none) (h : Sound C f S) (hle : ∀ as (g : Gh) (w : World) (vals : List Value), VT g w as vals → p.pre as [] = true → S as [] = .ret (p.val as []) (p.hp as [])) : Sound C f p.sem := by
  unfold Sound at h ⊢
  rw [if_pos hp] at h ⊢
  refine ⟨fun g w as vals R e hR h1 h2 hv => h.1 g w as vals R ?_ hR h1 h2 hv, fun e hx => by rw [he] at hx; cases hx⟩
  unfold Sp.sem at e
  cases hp : p.pre as [] with
  | false => rw [hp] at e; exact absurd e.symm hR
  | true => rw [hp] at e; rw [hle as g w vals hv hp]; exact e
theorem Sound.pure0 {C : Cx} {f : FuncId} {S : List AV → List HO → Res} {p : Sp} (hp : C.pure f = true) (he : C.eats f = none) (h : Sound C f S) (hle : ∀ as, p.pre as [] = true → S as [] = .ret (p.val as []) (p.hp as [])) : Sound C f p.sem :=
  h.pureV hp he fun as _ _ _ _ hq => hle as hq
end Go.Vm
namespace Go.Vm
open Go
def WsC (P : Program) (T k ty ts : TypeId) (f : FuncId) : Prop := Callable P f ∧ ∀ (b n cap n' cap' : Nat) (p : Value) (ao ao' : Option Addr) (s : ByteArray) (w w1 w2 : World),
    ((p = .pointer none ∧ w.shape? b = some (T, k) ∧ w1 = w.setCell ⟨b, 0, none⟩ (.pointer (some ⟨b, 0, none⟩))) ∨ (p = .pointer (some ⟨b, 0, none⟩) ∧ w1 = w)) →
    w.cell? ⟨b, 0, none⟩ = some p → w.frozen? ⟨b, 0, none⟩ = false → w1.cell? ⟨b, 1, none⟩ = some (.slice ao n cap) →
    (Builtin.append_ #[ty, ts] ty #[.slice ao n cap, .string s]).run P w1 = .ok (.slice ao' n' cap') w2 →
    w2.cell? ⟨b, 1, none⟩ = some (.slice ao n cap) → w2.frozen? ⟨b, 1, none⟩ = false →
    Calls P f #[.pointer (some ⟨b, 0, none⟩), .string s] w fun e w' => e = .returned (.tuple #[.int .i64 s.size, .nilIface]) ∧ w' = w2.setCell ⟨b, 1, none⟩ (.slice ao' n' cap')
def okZ (T : TypeId) (id : Nat) : HV → Bool
  | .z t => Nat.beq t T
  | .a (.P i o) => Nat.beq i id && Nat.beq o 0
  | _ => false
def bldAt (te : TypeId) (h : List HO) (id : Nat) : Option (HV × List UInt8 × List HV) := match h[id]? with
  | some (.cells (x :: .g (.y t buf) :: r)) => if t = te then some (x, buf, r) else none
  | _ => none
theorem bldAt_inv {te : TypeId} {h : List HO} {id : Nat} {x : HV} {buf : List UInt8} {r : List HV} (e : bldAt te h id = some (x, buf, r)) : h[id]? = some (.cells (x :: .g (.y te buf) :: r)) := by
  unfold bldAt at e
  split at e
  · rename_i h1
    split at e
    · rename_i ht; cases e; rw [h1, ht]
    · cases e
  · cases e
def semWs (T k te : Nat) : FF := fun as h => match as with
  | [.P id 0, .S s] => match bldAt te h id with
    | some (x, buf, r) => if okZ T id x = true ∧ buf.length + s.length ≤ 140737488355328 ∧ r.length + 2 = k then .ret (.T [.I .i64 s.length, .X0]) (h.set id (.cells (.a (.P id 0) :: .g (.y te (buf ++ s)) :: r))) else .stuck
    | none => .stuck
  | _ => .stuck
def st0 (h : List HO) : St := { env := fun _ => .v .U, loc := fun _ => ⟨0, .no⟩, h := h, hv := fun _ => 0 }
def fr0' : Fr := ⟨fun _ => 0, fun _ => undef⟩
theorem HeapR.core {g : Gh} {w : World} {h : List HO} (hh : HeapR g w h) (hwf : Wf g w) : Core g w fr0' (st0 h) := ⟨hh, fun _ => trivial, hwf⟩
theorem HeapR.drop {g g1 : Gh} {w w1 : World} {h : List HO} (hh : HeapR g w h) {id off : Nat} {cs : List HV} (hl : h[id]? = some (.cells cs)) (hch : Chg (fun b => g.ow b = some (.cell id off)) g w g1 w1) (hn : g1.n = g.n) :
    HeapR g1 w1 (h.set id (.cells (cs.set off (.a .U)))) := by
  have hlt : id < h.length := (List.getElem?_eq_some_iff.1 hl).1
  have hidn : id < g.n := by rw [← hh.len]; exact hlt
  refine ⟨by rw [hn, ← hh.len]; simp, fun j hj => ?_, fun j cs' hj => ?_, fun j es' hj => ?_, fun j t' n' xs' hj => ?_⟩
  · rw [hn] at hj
    rw [hch.later.io j hj]
    exact Nat.lt_of_lt_of_le (hh.lt j hj) hch.size
  · rw [List.getElem?_set] at hj
    by_cases e : id = j
    · subst e
      rw [if_pos rfl, if_pos hlt] at hj
      cases hj
      rw [hch.later.io id hidn]
      exact BoxR.drop (hh.obj id cs hl) hch (fun b hb => by rw [hb]; simp) (fun j b hj hb => by rw [hb]; simp; exact fun e => hj e.symm)
    · rw [if_neg e] at hj
      have hjn : j < g.n := by rw [← hh.len]; exact (List.getElem?_eq_some_iff.1 hj).1
      rw [hch.later.io j hjn]
      exact (hh.obj j cs' hj).chgO hch (fun b hb => by rw [hb]; simp) (fun i b hb => by rw [hb]; simp; exact fun e' => absurd e' e)
  · rw [List.getElem?_set] at hj
    by_cases e : id = j
    · subst e
      rw [if_pos rfl, if_pos hlt] at hj
      cases hj
    · rw [if_neg e] at hj
      have hjn : j < g.n := by rw [← hh.len]; exact (List.getElem?_eq_some_iff.1 hj).1
      rw [hch.later.io j hjn]
      exact (hh.map j es' hj).chgO hch (fun b hb => by rw [hb]; simp)
  · rw [List.getElem?_set] at hj
    by_cases e : id = j
    · subst e
      rw [if_pos rfl, if_pos hlt] at hj
      cases hj
    · rw [if_neg e] at hj
      have hjn : j < g.n := by rw [← hh.len]; exact (List.getElem?_eq_some_iff.1 hj).1
      rw [hch.later.io j hjn, hch.later.hdr j hjn]
      exact (hh.arr j t' n' xs' hj).chgO hch (fun b hb => by rw [hb]; simp)
theorem HeapR.put {g : Gh} {w : World} {h : List HO} (hh : HeapR g w h) (hwf : Wf g w) {id off : Nat} {cs : List HV} (hl : h[id]? = some (.cells cs)) {x : HV} {u : Value} (hle : off < cs.length) (hx : HVR g w (.cell id off) x u) :
    ∃ w', w' = w.setCell ⟨g.io id, off, none⟩ u ∧ HeapR g w' (h.set id (.cells (cs.set off x))) ∧ Wf g w' ∧ Chg (fun b => g.ow b ≠ none) g w g w' := by
  obtain ⟨old, tt, h1, h2, h3, h4⟩ := (hh.core hwf).putObj (s := st0 h) hl (l := [x]) (us := [u]) (off := off) rfl (by simp; omega) (fun j y hy => by
    cases j with
    | zero => simp only [List.getElem?_cons_zero, Option.some.injEq] at hy; subst hy; exact ⟨u, rfl, hx⟩
    | succ j => simp at hy)
  have e : w.setCell ⟨g.io id, off, none⟩ u = w.setRow (g.io id) (setV old.toList off [u]).toArray := by
    rw [setCell_eq_setRow w (g.io id) off old tt (0, 0) u h1]
    congr 1
    simp [setV]
    apply Array.ext'
    simp
  refine ⟨_, e.symm, h3.heap, h3.wf, h4.chg⟩
theorem sound_ws {C : Cx} {f : FuncId} {T k te ty ts : TypeId} {i : TypeInfo} (hp : C.pure f = false) (hd : WsC C.P T k ty ts f) (hty : C.P.underlying ty = some (.slice te)) (hts : C.P.underlying ts = some .string)
    (hi : C.P.info? te = some i) (hz : i.zero = some (.int .u8 0)) (hsz : i.size = 1) (hby : i.bytes = 1) : Sound C f (semWs T k te) := by
  unfold Sound
  rw [if_neg (by simp [hp])]
  intro g w as vals h R hr hR hh hv hwf hgl how
  unfold semWs at hr
  split at hr
  case h_2 => exact absurd hr.symm hR
  rename_i id s
  split at hr
  case h_2 => exact absurd hr.symm hR
  rename_i x buf r hbl
  split at hr
  case isFalse => exact absurd hr.symm hR
  rename_i hk
  obtain ⟨hx, hlen, hrl⟩ := hk
  subst hr
  have hid := bldAt_inv hbl
  simp only [VT, V] at hv
  obtain ⟨u0, us0, rfl, ⟨hidn, rfl⟩, u1, us1, rfl, ⟨rfl, hsl⟩, rfl⟩ := hv
  refine ⟨hd.1, ?_⟩
  have hB := hh.obj id _ hid
  obtain ⟨arr, t, h1, h2, h3⟩ := hB.row
  obtain ⟨p0, a0, c0⟩ := h3 0 _ rfl
  obtain ⟨p1, a1, c1⟩ := h3 1 _ rfl
  have hcell : ∀ j, w.cell? ⟨g.io id, j, none⟩ = arr[j]? := fun j => by simp only [World.cell?, h1]; rfl
  have hs1 : SR g w (.cell id 1) (.y te buf) false p1 := c1.elim (fun h => h) fun h => by cases h.1
  have hln : (x :: HV.g (.y te buf) :: r).length = k := by simp; omega
  obtain ⟨w1, hw1, hh1, hwf1, hch1⟩ := hh.put hwf hid (off := 0) (x := .a (.P id 0)) (u := .pointer (some ⟨g.io id, 0, none⟩)) (by simp) ⟨⟨hidn, rfl⟩, rfl⟩
  have hor : (p0 = .pointer none ∧ w.shape? (g.io id) = some (T, k) ∧ w1 = w.setCell ⟨g.io id, 0, none⟩ (.pointer (some ⟨g.io id, 0, none⟩))) ∨ (p0 = .pointer (some ⟨g.io id, 0, none⟩) ∧ w1 = w) := by
    unfold okZ at hx
    split at hx
    · rename_i t'
      have e := Nat.eq_of_beq_eq_true hx
      rcases c0 with c0 | ⟨c0, rfl⟩
      · exact c0.elim
      · cases c0
        refine .inl ⟨rfl, ?_, hw1⟩
        simp only [World.shape?, h1]
        rw [h2, hln, e]
    · rename_i i' o'
      simp only [Bool.and_eq_true] at hx
      have e1 := Nat.eq_of_beq_eq_true hx.1
      have e2 := Nat.eq_of_beq_eq_true hx.2
      subst e1
      subst e2
      have hpp : p0 = .pointer (some ⟨g.io i', 0, none⟩) := c0.elim (fun h => h.1.2) fun h => by cases h.1
      refine .inr ⟨hpp, ?_⟩
      rw [hw1, setCell_eq_setRow w (g.io i') 0 arr t (0, 0) _ h1]
      have : arr.setIfInBounds 0 (Value.pointer (some ⟨g.io i', 0, none⟩)) = arr := by
        apply Array.ext
        · simp
        · intro j hj1 hj2
          rw [Array.getElem_setIfInBounds]
          · split
            · rename_i e
              subst e
              rw [← hpp]
              exact (Array.getElem?_eq_some_iff.1 a0).2.symm
            · rfl
      rw [this]
      exact setRow_self w (g.io i') arr t (0, 0) h1
    · cases hx
  have hid1 : (h.set id (.cells ((x :: HV.g (.y te buf) :: r).set 0 (.a (.P id 0)))))[id]? = some (.cells (.a (.P id 0) :: .g (.y te buf) :: r)) := by
    rw [List.getElem?_set, if_pos rfl, if_pos (List.getElem?_eq_some_iff.1 hid).1]
    rfl
  have hB1 := hh1.obj id _ hid1
  obtain ⟨arr1, t1, k1, k2, k3⟩ := hB1.row
  obtain ⟨q1, b1, d1⟩ := k3 1 _ rfl
  have hs2 : SR g w1 (.cell id 1) (.y te buf) false q1 := d1.elim (fun h => h) fun h => by cases h.1
  have hcell1 : ∀ j, w1.cell? ⟨g.io id, j, none⟩ = arr1[j]? := fun j => by simp only [World.cell?, k1]; rfl
  obtain ⟨u', g2, w2, m1, m2, m3, m4, m5, m6, m7⟩ := SR.append (C := C) (z := .y te s) (u := q1) (x := .string ⟨s.toArray⟩) (t := ty) (tx := ts) (ty := ty) (e := te) (i := i) (zv := .int .u8 0) (news := byteCells ⟨s.toArray⟩) hs2 hwf1 hty hi hz (by rw [hsz]; rfl) rfl (by rw [hsz]; rfl) trivial
    (by rw [hsz]; exact Src.ofString (P := C.P) w1 hts ⟨s.toArray⟩) (by simp [SCV, byteCells]) (by simpa [SC.len] using hlen) (by rw [hby]; simpa [SC.len] using hlen)
  have hh2 := hh1.drop hid1 m2 m4
  have hb2 := hh2.obj id _ (by rw [List.getElem?_set, if_pos rfl, if_pos (by simpa using (List.getElem?_eq_some_iff.1 hid).1)])
  obtain ⟨w3, hw3, hh3, hwf3, hch3⟩ := hh2.put m6 (id := id) (off := 1) (x := .g (.y te (buf ++ s))) (u := u') (by rw [List.getElem?_set, if_pos rfl, if_pos (by simpa using (List.getElem?_eq_some_iff.1 hid).1)]) (by simp) m3
  have hio : g2.io id = g.io id := m2.later.io id hidn
  rw [hio] at hw3
  obtain ⟨ao, cap, e1, _⟩ : ∃ a cap, q1 = .slice a buf.length cap ∧ (buf.length ≤ cap ∧ buf.length ≤ 9223372036854775807) := ownsRow_len (SR_iff.1 hs2).choose_spec.1
  obtain ⟨ao', cap', e2, _⟩ : ∃ a cap, u' = .slice a (buf ++ s).length cap ∧ ((buf ++ s).length ≤ cap ∧ (buf ++ s).length ≤ 9223372036854775807) := ownsRow_len (SR_iff.1 m3).choose_spec.1
  subst e1
  subst e2
  have hblk : w2.heap[g.io id]? = w1.heap[g.io id]? := m2.blk _ (Array.getElem?_eq_some_iff.1 k1).1 (by rw [hB1.ow]; simp)
  refine (hd.2 (g.io id) buf.length cap (buf ++ s).length cap' p0 ao ao' ⟨s.toArray⟩ w w1 w2 hor (by rw [hcell, a0]) (by simp [World.frozen?, h1]) (by rw [hcell1, b1]) m1 ?_ ?_).mono ?_
  · simp only [World.cell?, hblk, k1]
    exact b1
  · simp [World.frozen?, hblk, k1]
  rintro e w' ⟨rfl, rfl⟩
  rw [← hw3]
  refine ⟨.T [.I .i64 s.length, .X0], _, g2, rfl, ?_, ?_, ?_, hwf3⟩
  · refine (hch1.trans (m2.mono (B' := fun b => g.ow b ≠ none) fun b _ e => by rw [e]; simp) fun b _ e => e).trans hch3 fun b hb e => ?_
    rw [m7 b (Nat.lt_of_lt_of_le hb hch1.size)] at e
    exact e
  · simpa using hh3
  · simp only [V, VT]
    refine ⟨[.int .i64 s.length, .nilIface], ?_, _, _, rfl, ⟨rfl, ?_⟩, _, _, rfl, rfl, rfl⟩
    · simp [ByteArray.size]
    · have h1 : IntKind.min .i64 = -9223372036854775808 := rfl
      have h2 : IntKind.max .i64 = 9223372036854775807 := rfl
      omega
def BsC (P : Program) (tp ti ts : TypeId) (f : FuncId) : Prop := Callable P f ∧ ∀ (b gb n cap : Nat) (s : ByteArray) (w w2 : World), cap ≠ 0 →
    w.cell? ⟨b, 1, none⟩ = some (.slice (some ⟨gb, 0, none⟩) n cap) →
    (Builtin.unsafeString_ #[tp, ti] ts #[.pointer (some ⟨gb, 0, none⟩), .int .i64 n]).run P w.drew = .ok (.string s) w2 →
    Calls P f #[.pointer (some ⟨b, 0, none⟩)] w fun e w' => e = .returned (.string s) ∧ w' = w2
def semBs (te : Nat) : FF := fun as h => match as with
  | [.P id 0] => match bldAt te h id with
    | some (_, buf, _) => if buf ≠ [] ∧ buf.length ≤ 140737488355328 then .ret (.S buf) (h.set id .no) else .stuck
    | none => .stuck
  | _ => .stuck
theorem freeze_other (w : World) (p : Addr) (n k : Nat) (h : p.block ≠ k) : (w.freeze p n).heap[k]? = w.heap[k]? := by
  unfold World.freeze
  split
  · rfl
  · simp only [Array.getElem?_modify]
    rw [if_neg h]
theorem freeze_row (w : World) (p : Addr) (n : Nat) {c : Array Value} {t : TypeId} {fz : Nat × Nat} (h : w.heap[p.block]? = some (.cells c t fz)) : ∃ fz', (w.freeze p n).heap[p.block]? = some (.cells c t fz') := by
  unfold World.freeze
  split
  · exact ⟨_, h⟩
  · simp only [Array.getElem?_modify, if_true, h, Option.map_some]
    exact ⟨_, rfl⟩
theorem freeze_size (w : World) (p : Addr) (n : Nat) : (w.freeze p n).heap.size = w.heap.size := by
  unfold World.freeze
  split
  · rfl
  · simp
theorem freeze_cell (w : World) (p : Addr) (n : Nat) (b i : Nat) (hb : ∃ c t fz, w.heap[p.block]? = some (.cells c t fz)) : (w.freeze p n).cell? ⟨b, i, none⟩ = w.cell? ⟨b, i, none⟩ := by
  by_cases e : p.block = b
  · obtain ⟨c, t, fz, hc⟩ := hb
    obtain ⟨fz', h2⟩ := freeze_row w p n hc
    simp only [World.cell?, ← e, hc, h2]
  · simp only [World.cell?, freeze_other w p n b e]
theorem sound_bs {C : Cx} {f : FuncId} {te tp ti ts : TypeId} (hp : C.pure f = false) (hd : BsC C.P tp ti ts f) (htp : C.P.underlying tp = some (.pointer te)) (hc1 : C.P.cellsOf te = 1) : Sound C f (semBs te) := by
  unfold Sound
  rw [if_neg (by simp [hp])]
  intro g w as vals h R hr hR hh hv hwf hgl how
  unfold semBs at hr
  split at hr
  case h_2 => exact absurd hr.symm hR
  rename_i id
  split at hr
  case h_2 => exact absurd hr.symm hR
  rename_i x buf r hbl
  split at hr
  case isFalse => exact absurd hr.symm hR
  rename_i hk
  obtain ⟨hne, hlen⟩ := hk
  subst hr
  have hid := bldAt_inv hbl
  simp only [VT, V] at hv
  obtain ⟨u0, us0, rfl, ⟨hidn, rfl⟩, rfl⟩ := hv
  refine ⟨hd.1, ?_⟩
  have hB := hh.obj id _ hid
  obtain ⟨arr, t, h1, h2, h3⟩ := hB.row
  obtain ⟨p1, a1, c1⟩ := h3 1 _ rfl
  have hcell : ∀ j, w.cell? ⟨g.io id, j, none⟩ = arr[j]? := fun j => by simp only [World.cell?, h1]; rfl
  have hs1 : SR g w (.cell id 1) (.y te buf) false p1 := c1.elim (fun h => h) fun h => by cases h.1
  obtain ⟨hrow, hob⟩ := hs1
  have hpos : 0 < buf.length := by
    cases buf with
    | nil => exact absurd rfl hne
    | cons c r => simp
  rcases hrow.2 with ⟨_, h0⟩ | ⟨gb, cap, cur, rfl, _, hcur, hle, hmx, hsz, htk⟩
  · omega
  have hlt : gb < w.heap.size := (Array.getElem?_eq_some_iff.1 hcur).1
  have hcurd : w.drew.heap[gb]? = some (.cells cur te (0, 0)) := hcur
  have hUS := Lib.run_unsafeString_row (P := C.P) w.drew tp ti ts te htp hc1 gb cur.size (by simp [World.shape?, hcurd]) buf hne (by rw [hsz]; omega) (by omega) (fun j y hy => by
    have := hrow.cells (g := gb) rfl j (.int .u8 y.toNat) (by simp [hy])
    exact this)
  refine (hd.2 (g.io id) gb buf.length cap ⟨buf.toArray⟩ w _ (by omega) (by rw [hcell, a1]) hUS).mono ?_
  rintro e w' ⟨rfl, rfl⟩
  have hown : g.ow gb = some (.cell id 1) := (hob gb rfl).1
  obtain ⟨wf, hwf'⟩ : ∃ wf, wf = w.drew.freeze ⟨gb, 0, none⟩ buf.length := ⟨_, rfl⟩
  rw [← hwf']
  have hch : Chg (· = gb) g w g wf := by
    rw [hwf']
    refine ⟨⟨Nat.le_refl _, fun _ _ => rfl, fun _ _ h => h, fun b i _ => freeze_cell w.drew ⟨gb, 0, none⟩ _ b i ⟨_, _, _, hcurd⟩⟩, by rw [freeze_size]; exact Nat.le_refl _, fun b _ hn => freeze_other w.drew ⟨gb, 0, none⟩ _ b fun e => hn e.symm, fun _ _ _ => rfl, fun _ _ _ _ h => h, ?_, ?_, ?_⟩ <;> (unfold World.freeze; split <;> rfl)
  have hother : ∀ b, b = gb → ∀ ow : Own, ow ≠ .cell id 1 → g.ow b ≠ some ow := by
    intro b e ow hne he
    rw [e, hown] at he
    exact hne (Option.some.inj he).symm
  have hset : ∀ (k : Nat) (x : HO), (h.set id .no)[k]? = some x → (k = id ∧ x = .no) ∨ (id ≠ k ∧ h[k]? = some x) := by
    intro k x hk
    rw [List.getElem?_set] at hk
    by_cases e : id = k
    · subst e
      rw [if_pos rfl, if_pos (List.getElem?_eq_some_iff.1 hid).1] at hk
      exact .inl ⟨rfl, (Option.some.inj hk).symm⟩
    · rw [if_neg e] at hk
      exact .inr ⟨e, hk⟩
  refine ⟨.S buf, _, g, rfl, hch.mono fun b _ e => by rw [e, hown]; simp, ⟨by rw [List.length_set]; exact hh.len, fun k hk => Nat.lt_of_lt_of_le (hh.lt k hk) hch.size, fun k cs' hk => ?_, fun k es' hk => ?_, fun k t' n' xs' hk => ?_⟩, ⟨rfl, hlen⟩, fun b i hx => Nat.lt_of_lt_of_le (hwf b i hx) hch.size⟩
  · rcases hset k _ hk with ⟨_, e⟩ | ⟨e, hj⟩
    · cases e
    · exact (hh.obj k cs' hj).chgO hch (fun b hb => hother b hb _ (by simp)) (fun i b hb => hother b hb _ (by simp; exact fun e' => absurd e'.symm e))
  · rcases hset k _ hk with ⟨_, e⟩ | ⟨e, hj⟩
    · cases e
    · exact (hh.map k es' hj).chgO hch (fun b hb => hother b hb _ (by simp))
  · rcases hset k _ hk with ⟨_, e⟩ | ⟨e, hj⟩
    · cases e
    · exact (hh.arr k t' n' xs' hj).chgO hch (fun b hb => hother b hb _ (by simp))
theorem VS_ints {g : Gh} {w : World} {k : IntKind} : ∀ (zs : List Int) (vs : List Value), VS g w (zs.map (AV.I k)) vs → vs = zs.map (Value.int k)
  | [], vs, h => by simpa [VS] using h
  | z :: zs, vs, h => by
    simp only [List.map_cons, VS, V] at h
    obtain ⟨u, us, rfl, ⟨rfl, _⟩, _, hs⟩ := h
    rw [VS_ints zs us hs, List.map_cons]
theorem GV.ints {g : Gh} {w : World} {b : Nat} {k : IntKind} {zs : List Int} (h : GV g w b (zs.map (AV.I k))) (h0 : 0 < zs.length) : ∃ t fr, w.heap[b]? = some (.cells (zs.map (Value.int k)).toArray t fr) := by
  obtain ⟨h1, _, h3⟩ := h
  obtain ⟨vs, e1, e2, e3⟩ := VC_vals _ _ h1
  have hv := VS_ints _ _ e3
  subst hv
  have hc : ∀ j, j < zs.length → w.cell? ⟨b, j, none⟩ = (zs.map (Value.int k))[j]? := fun j hj => by
    have := e2 j ((zs.map (Value.int k))[j]'(by simpa using hj)) (List.getElem?_eq_getElem (by simpa using hj))
    rw [Nat.zero_add] at this
    rw [this, List.getElem?_eq_getElem (by simpa using hj)]
  have hc0 := hc 0 h0
  cases hh : w.heap[b]? with
  | none =>
    simp only [World.cell?, hh] at hc0
    rw [List.getElem?_eq_getElem (by simpa using h0)] at hc0
    cases hc0
  | some o =>
    cases o with
    | cells c t fr =>
      refine ⟨t, fr, ?_⟩
      have hcell : ∀ j, w.cell? ⟨b, j, none⟩ = c[j]? := fun j => by simp only [World.cell?, hh]; rfl
      have hsz : c.size = zs.length := by
        rw [List.length_map, hcell, Array.getElem?_eq_none_iff] at h3
        rcases Nat.lt_or_ge c.size zs.length with hlt | hge
        · have := hc c.size hlt
          rw [hcell, Array.getElem?_eq_none (Nat.le_refl _), List.getElem?_eq_getElem (by simpa using hlt)] at this
          cases this
        · omega
      congr 2
      apply Array.ext
      · simpa using hsz
      · intro j h1 h2
        have := hc j (by omega)
        rw [hcell, Array.getElem?_eq_getElem h1, List.getElem?_eq_getElem (by simpa using h2)] at this
        simpa using Option.some.inj this
    | _ =>
      simp only [World.cell?, hh] at hc0
      rw [List.getElem?_eq_getElem (by simpa using h0)] at hc0
      cases hc0
theorem sound_txt {C : Cx} {f : FuncId} {p : Sp} (hp : C.pure f = true) (hfr : C.fresh f = none) (he : C.eats f = none) (hc : Callable C.P f)
    (h : ∀ (g : Gh) (w : World) (as : List AV) (vals : List Value), p.pre as [] = true → VT g w as vals → GlobR C g w → ∃ s : List UInt8, p.val as [] = .S s ∧ s.length ≤ 140737488355328 ∧
      Calls C.P f vals.toArray w fun e w' => e = .returned (.string ⟨s.toArray⟩) ∧ ∃ k os, w' = Sort.grow (w.drewN k) os) : Sound C f p.sem := by
  unfold Sound
  rw [if_pos hp]
  refine ⟨fun g w as vals R hr hR _ _ hv hwf hgl how => ⟨hc, ?_⟩, fun e hx => by rw [he] at hx; cases hx⟩
  unfold Sp.sem at hr
  cases hpre : p.pre as [] with
  | false => rw [hpre] at hr; exact absurd hr.symm hR
  | true =>
    rw [hpre] at hr
    obtain ⟨s, e1, e2, hcall⟩ := h g w as vals hpre hv hgl
    refine hcall.mono ?_
    rintro e w' ⟨rfl, k, os, rfl⟩
    have hr' : R = .ret (p.val as []) (p.hp as []) := hr.symm
    refine ⟨p.val as [], _, g.only w.heap.size, hr', ?_, fun b i hx => ?_, ?_⟩
    · refine grown_chg hwf (by rw [Sort.size_grow]; exact Nat.le_add_right _ _) (fun b hb => ?_) rfl rfl rfl
      show ((w.heap ++ os : Array Obj))[b]? = _
      exact Array.getElem?_append_left hb
    · rw [Sort.size_grow]
      exact Nat.lt_of_lt_of_le (hwf b i hx) (Nat.le_add_right _ _)
    · rw [hfr]
      show V _ _ (p.val as []) _
      rw [e1]
      exact ⟨rfl, e2⟩
end Go.Vm
namespace Go.Vm
open Go
section
variable {H : Type}
mutual
def smallD (M : Nat) : DataW H → Bool
  | .lit (.string bs) => decide (bs.length ≤ M)
  | .lit _ => true
  | .nil => true
  | .ptr d => smallD M d
  | .slice e _ => decide (e.length ≤ M) && smallDs M e
  | .agg p => smallDs M p
  | .iface _ d => smallD M d
  | .map _ => true
  | .held _ => true
def smallDs (M : Nat) : List (DataW H) → Bool
  | [] => true
  | d :: r => smallD M d && smallDs M r
end
theorem smallDs_mem {M : Nat} : ∀ {l : List (DataW H)} {d : DataW H}, smallDs M l = true → d ∈ l → smallD M d = true
  | x :: r, d, h, hm => by
    simp only [smallDs, Bool.and_eq_true] at h
    rcases List.mem_cons.1 hm with rfl | hm
    · exact h.1
    · exact smallDs_mem h.2 hm
end
def Fs (Q : TypeId → List AV → Prop) : List TypeId → List AV → Prop
  | [], l => l = []
  | t :: ts, l => ∃ a b, l = a ++ b ∧ Q t a ∧ Fs Q ts b
def Sh (P : Program) (M : Nat) : Nat → TypeId → List AV → Prop
  | 0, _, _ => True
  | d + 1, t, l => match und P t with
    | .bool => ∃ b, l = [.B b]
    | .int k => ∃ n, l = [.I k n] ∧ k.min ≤ n ∧ n ≤ k.max
    | .string => ∃ s, l = [.S s] ∧ s.length ≤ M
    | .slice e => if byteT P e = true then ∃ s, l = [.Y s] ∧ s.length ≤ M else ∃ xs, l = [.L (szT P e) xs] ∧ xs.length ≤ M ∧ ∀ x ∈ xs, Sh P M d e x
    | .struct fs => Fs (Sh P M d) (fs.toList.map (·.type)) l
    | _ => True
section
variable {H : Type} {enc : TypeId × Value → H} {P : Program} {w : World} {base : Nat} {sp : Nat → Bool} {held : Bool} {M : Nat}
theorem fs_sh {dep : Nat} {cs : List Value} : ∀ (fl : List Field) (ys : List (DataW H)), ys.length = fl.length →
    (∀ (i : Nat) (f : Field), fl[i]? = some f → ∃ y, ys[i]? = some y ∧ Sh P M dep f.type (avD P dep f.type y)) → Fs (Sh P M dep) (fl.map (·.type)) ((fl.zip ys).flatMap fun p => avD P dep p.1.type p.2)
  | [], ys, hl, _ => by simp [Fs]
  | f :: fl, [], hl, _ => by simp at hl
  | f :: fl, y :: ys, hl, h => by
    obtain ⟨y', hy, h1⟩ := h 0 f rfl
    simp at hy
    subst hy
    refine ⟨_, _, by simp only [List.zip_cons_cons, List.flatMap_cons], h1, fs_sh (cs := cs) fl ys (by simpa using hl) fun i f' hf => by simpa using h (i + 1) f' (by simpa using hf)⟩
theorem trod_sh : ∀ (dep fuel : Nat) (t : TypeId) (cs : List Value) (x : DataW H × List MemPlace), DataW.trod enc P w base sp held fuel t cs = some x → dataT P dep t = true → smallD M x.1 = true → Sh P M dep t (avD P dep t x.1)
  | 0, _, _, _, _, _, _, _ => trivial
  | dep + 1, fuel, t, cs, x, h, ht, hd => by
    unfold dataT at ht
    unfold Sh avD
    split at ht
    · rename_i hu
      have hu' := und_some hu (by simp)
      obtain ⟨b, rfl, rfl⟩ := DataW.trod_bool hu' h
      simp only [hu]
      exact ⟨b, rfl⟩
    · rename_i k hu
      have hu' := und_some hu (by simp)
      obtain ⟨z, rfl, rfl, hw⟩ := DataW.trod_int hu' h
      simp only [hu]
      exact ⟨z, rfl, wf_range hw⟩
    · rename_i hu
      have hu' := und_some hu (by simp)
      obtain ⟨bs, rfl, rfl, hl⟩ := DataW.trod_string hu' h
      simp only [hu]
      exact ⟨_, rfl, by simpa [smallD] using hd⟩
    · rename_i e hu
      have hu' := und_some hu (by simp)
      simp only [Bool.and_eq_true] at ht
      rcases DataW.trod_slice hu' h with ⟨rfl, rfl⟩ | ⟨a, len, cap, elems, rest, m, _, rfl, rfl, hb, hlc, hm, hlen, hel, _, _⟩
      · simp only [hu]
        split
        · exact ⟨[], rfl, Nat.zero_le _⟩
        · exact ⟨[], rfl, Nat.zero_le _, fun x hx => by cases hx⟩
      · simp only [hu]
        have hd' : elems.length ≤ M ∧ smallDs M (elems.map (·.1)) = true := by simpa [smallD] using hd
        split
        · exact ⟨_, rfl, by simpa using hd'.1⟩
        · refine ⟨_, rfl, by simpa using hd'.1, fun y hy => ?_⟩
          obtain ⟨z, hz, rfl⟩ := List.mem_map.1 hy
          obtain ⟨u, hu2, rfl⟩ := List.mem_map.1 hz
          obtain ⟨i, hi⟩ := List.getElem?_of_mem hu2
          have hlt : i < len := by rw [← hlen]; exact (List.getElem?_eq_some_iff.1 hi).1
          have := hel i hlt
          rw [hi] at this
          obtain ⟨cs', _, hy'⟩ := Option.bind_eq_some_iff.1 this
          exact trod_sh dep m e cs' u hy' ht.2 (smallDs_mem hd'.2 hz)
    · rename_i fs hu
      have hu' := und_some hu (by simp)
      simp only [Bool.and_eq_true] at ht
      obtain ⟨xs, m, _, rfl, hcl, hxl, hf⟩ := DataW.trod_struct hu' h
      simp only [hu]
      have hd' : smallDs M (xs.map (·.1)) = true := by simpa [smallD] using hd
      exact fs_sh (cs := cs) fs.toList (xs.map (·.1)) (by simp [hxl]) fun i f hfi => by
        have h2 := hf i f (by rw [← Array.getElem?_toList]; exact hfi)
        have hlt : i < xs.length := by rw [hxl, ← Array.length_toList]; exact (List.getElem?_eq_some_iff.1 hfi).1
        rw [List.getElem?_eq_getElem hlt] at h2
        exact ⟨xs[i].1, by simp [hlt], trod_sh dep m f.type _ xs[i] h2 (List.all_eq_true.1 ht.2 f (List.mem_of_getElem? hfi)) (smallDs_mem hd' (List.mem_map.2 ⟨xs[i], List.getElem_mem hlt, rfl⟩))⟩
    · rename_i n e hu
      simp only [hu]
    · cases ht
def tysOf (P : Program) (t : TypeId) : Option (List TypeId) := match und P t with
  | .struct fs => some (fs.toList.map (·.type))
  | _ => none
theorem Sh.st {d : Nat} {t : TypeId} {ts : List TypeId} {l : List AV} (ht : tysOf P t = some ts) (h : Sh P M (d + 1) t l) : Fs (Sh P M d) ts l := by
  unfold tysOf at ht
  unfold Sh at h
  split at ht
  · rename_i fs hu
    rw [hu] at h
    cases ht
    exact h
  · cases ht
theorem Sh.int {d : Nat} {t : TypeId} {k : IntKind} {l : List AV} (ht : und P t = .int k) (h : Sh P M (d + 1) t l) : ∃ n, l = [.I k n] ∧ k.min ≤ n ∧ n ≤ k.max := by
  unfold Sh at h
  rw [ht] at h
  exact h
theorem Sh.bool {d : Nat} {t : TypeId} {l : List AV} (ht : und P t = .bool) (h : Sh P M (d + 1) t l) : ∃ b, l = [.B b] := by
  unfold Sh at h
  rw [ht] at h
  exact h
theorem Sh.str {d : Nat} {t : TypeId} {l : List AV} (ht : und P t = .string) (h : Sh P M (d + 1) t l) : ∃ s, l = [.S s] ∧ s.length ≤ M := by
  unfold Sh at h
  rw [ht] at h
  exact h
theorem Sh.bytes {d : Nat} {t e : TypeId} {l : List AV} (ht : und P t = .slice e) (hb : byteT P e = true) (h : Sh P M (d + 1) t l) : ∃ s, l = [.Y s] ∧ s.length ≤ M := by
  unfold Sh at h
  rw [ht] at h
  simp only [hb, if_true] at h
  exact h
theorem Sh.list {d n : Nat} {t e : TypeId} {l : List AV} (ht : und P t = .slice e) (hb : byteT P e = false) (hn : szT P e = n) (h : Sh P M (d + 1) t l) : ∃ xs, l = [.L n xs] ∧ xs.length ≤ M ∧ ∀ x ∈ xs, Sh P M d e x := by
  unfold Sh at h
  rw [ht] at h
  simp only [hb, hn] at h
  simpa using h
end
end Go.Vm
