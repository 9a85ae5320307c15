/- Part of a proof: VmDc, VmQ3, VmNet, VmDel, VmW, VmRow. -/
import Derived.Test.YthlinepdlobodaaGreatDoorVE
import Derived.Test.YthlinepdlobodaaGreatDoorVC
import Derived.ChangeArms
import Derived.OpenShut
import Derived.DataReads
import Derived.ChangeStays
import Derived.ChangeSame
import Derived.ChangeShapes
import Derived.ChangeOld
import Derived.RowKit3
set_option linter.unusedSimpArgs false
set_option linter.unusedVariables false
set_option linter.unusedSectionVars false
namespace Go.Vm
open Go
section
variable {C : Cx} {N : Ann} {G : FuncId → List AV → List HO → Res}
def semDc (C : Cx) (N : Ann) (fn : Func) (A D : Code) (om : Oper) (idr td : Nat) (fd : FuncId) (ops : Array Oper) (S : FF) (G : FuncId → FF) : FF := fun as h =>
  let Rk := resK (stdAlg C.pure G) C N fn
  aC C N (stdAlg C.pure (noPan G)) (stdAlg C.pure G) A
    (fun s => aOps (stdAlg C.pure G) C N ops [om]
      (nrm N (some idr) s) (fun s => match s.env td with
        | .v (.F (.func f) [] caps) => (match Nat.beq f fd with
          | true => (match aC C N (stdAlg C.pure (noPan G)) (stdAlg C.pure G) D Rk (fun _ _ => .stuck) Rk (nrm N (headId D) s) with
            | .ret v h' => (match S caps h' with
              | .ret _ h'' => .ret v h''
              | _ => .stuck)
            | _ => .stuck)
          | false => .stuck)
        | _ => .stuck))
    (fun _ _ => .stuck) (fun _ => .stuck) (initSt as h)
def SoundD (C : Cx) (f : FuncId) (S : FF) : Prop := ∀ (g : Gh) (w : World) (as : List AV) (vals : List Value) (h : List HO) (v : AV) (h2 : List HO), S as h = .ret v h2 → HeapR g w h → VT g w as vals → Wf g w → GlobR C g w → (∀ b o, g.ow b = some o → o.heap) →
  Callable C.P f ∧ ∀ u : FrameMode, CallsD C.P f vals.toArray u w fun e u' w' => u' = u ∧ Post g w (.ret v h2) e w'
theorem soundD_fn (hC : OkC C) (hG : ∀ j, Sound C j (G j)) {f : FuncId} {fn : Func} {c : Code} (hf : C.P.funcs[f]? = some fn) (hb : fn.body = some c) (hname : fn.name ≠ "runtime.NumGoroutine") (hok : codeOK (NT.of fn.ntmps) c = true)
    (hlen : fn.results.size = fn.resultTypes.size) (hdrop : N.drop = false) (heat : N.eat = none) (hfresh : N.fresh = none) : SoundD C f (semF C N fn G) := by
  have hcall : Callable C.P f := ⟨fn, hf, by rw [hb]; rfl, hname⟩
  intro g w as vals h v0 h2 hr hh hv hwf hgl how
  have hR : Res.ret v0 h2 ≠ .stuck := by simp
  refine ⟨hcall, fun u => callsD_of_wp (R := Post g w (.ret v0 h2)) hf hb ?_⟩
  have hrel := init_rel (C := C) (n := fn.ntmps) (b := false) hh hv hwf hgl
  have body : aC C N (stdAlg C.pure (noPan G)) (stdAlg C.pure G) c (resK (stdAlg C.pure G) C N fn) (fun _ _ => Res.stuck) (resK (stdAlg C.pure G) C N fn) (initSt as h) = .ret v0 h2 := by
    unfold semF aF at hr
    rw [hb, heat] at hr
    exact hr
  have fin : ∀ g' w' f' s' a', Rel C (NT.of fn.ntmps) g.fr0 w g' w' f' s' a' → resK (stdAlg C.pure G) C N fn s' = .ret v0 h2 → a'.defers = [] ∧ ∃ v, (results fn a'.tmps).run C.P w' = .ok v w' ∧ Post g w (.ret v0 h2) (.returned v) w' := by
    intro g' w' f' s' a' r h
    refine ⟨r.dfr, ?_⟩
    obtain ⟨v, u, g2, k1, k2, k3, k4, k5, k6⟩ := end_plain hR hfresh hlen r h
    rw [hdrop] at k6
    exact ⟨u, k1, v, _, g2, k6, fr0_chg k2, k3, k4, k5⟩
  refine aC_sound hC hR hG c hok (.inl rfl) (fun g' w' f' s' a' r h => fin g' w' f' s' a' r h) (fun id g' w' f' s' a' r h => by cases h) (fun g' w' f' s' a' r h => fin g' w' f' s' a' r h) ?_ g w _ _ _ hrel body
  intro a ha v h' u g' w' hRv hch hhe hvv hwf'
  cases hRv
theorem mask_heapR {g : Gh} {w : World} {h : List HO} (hh : HeapR g w h) : HeapR g.mask w h := hh.reown rfl rfl rfl fun b ow how hb => mask_heap.2 ⟨hb, how⟩
theorem sound_deferC (hC : OkC C) (hG : ∀ j, Sound C j (G j)) {f fd : FuncId} {fn : Func} {A D : Code} {idr td : Nat} {om od : Oper} {cd : Call} {S : FF} (hD : SoundD C fd S) (hf : C.P.funcs[f]? = some fn) (hb : fn.body = some (.seq A (.seq (.region idr #[om, od] false) D))) (hname : fn.name ≠ "runtime.NumGoroutine")
    (hokA : codeOK (NT.of fn.ntmps) A = true) (hokR : dstOK (NT.of fn.ntmps) #[om, od] = true) (hokD : codeOK (NT.of fn.ntmps) D = true) (hlen : fn.results.size = fn.resultTypes.size) (hdrop : N.drop = false) (hfresh : N.fresh = none) (hp : C.pure f = false)
    (hod : od.op = .defer cd) (hcd : cd.callee = .value (.tmp td)) (hca : cd.args = #[]) (hgd : od.guard = none) (hdst : od.dst = none) (hres : fn.results = #[]) : Sound C f (semDc C N fn A D om idr td fd #[om, od] S G) := by
  have hcall : Callable C.P f := ⟨fn, hf, by rw [hb]; rfl, hname⟩
  unfold Sound
  rw [if_neg (by simp [hp])]
  intro g w as vals h R hr hR hh hv hwf hgl how
  refine ⟨hcall, calls_of_wp_defers hf hb ?_⟩
  have hrel := init_rel (C := C) (n := fn.ntmps) (b := false) hh hv hwf hgl
  unfold semDc at hr
  dsimp only at hr
  have key : ∀ s : St, (match s.env td with
        | .v (.F (.func f) [] caps) => (match Nat.beq f fd with
          | true => (match aC C N (stdAlg C.pure (noPan G)) (stdAlg C.pure G) D (resK (stdAlg C.pure G) C N fn) (fun _ _ => .stuck) (resK (stdAlg C.pure G) C N fn) (nrm N (headId D) s) with
            | .ret v h' => (match S caps h' with
              | .ret _ h'' => .ret v h''
              | _ => .stuck)
            | _ => .stuck)
          | false => .stuck)
        | _ => Res.stuck) = R → ∃ caps v h' v2 h'', s.env td = .v (.F (.func fd) [] caps) ∧ aC C N (stdAlg C.pure (noPan G)) (stdAlg C.pure G) D (resK (stdAlg C.pure G) C N fn) (fun _ _ => .stuck) (resK (stdAlg C.pure G) C N fn) (nrm N (headId D) s) = .ret v h' ∧ S caps h' = .ret v2 h'' ∧ R = .ret v h'' := by
    intro s hk
    split at hk
    case h_2 => exact absurd hk.symm hR
    rename_i f' caps he
    split at hk
    case h_2 => exact absurd hk.symm hR
    rename_i hfe
    split at hk
    case h_2 => exact absurd hk.symm hR
    rename_i v h' hb1
    split at hk
    case h_2 => exact absurd hk.symm hR
    rename_i v2 h'' hg2
    rw [Nat.eq_of_beq_eq_true hfe] at he
    exact ⟨caps, v, h', v2, h'', he, hb1, hg2, hk.symm⟩
  have panAll : ∀ (g0 : Gh), (∀ v h, R ≠ .pan v h) → PanAll (NT.of fn.ntmps) g0 w (bodyPostD C.P fn (Post g w R)) R := by
    intro g0 hnp a ha v h' u g' w' hRv
    exact absurd hRv (hnp v h')
  have pan1 : PanAll (NT.of fn.ntmps) g.fr0 w (bodyPostD C.P fn (Post g w R)) R := by
    intro a ha v h' u g' w' hRv hch hhe hvv hwf'
    have ha' : a.defers = [] := ha
    show Leaves C.P fn a.tmps (Post g w R) a.defers _ w'
    rw [ha']
    exact ⟨v, h', u, g', hRv, rfl, fr0_chg hch, hhe, hvv, hwf'⟩
  refine wp_seq (aC_sound (g0 := g.fr0) (w0 := w) hC hR hG A hokA (.inl rfl) (Q := Exit.then ((Code.seq (Code.region idr #[om, od] false) D).wp C.P (bodyPostD C.P fn (Post g w R))) (bodyPostD C.P fn (Post g w R))) ?_ (fun id g' w' f' s' a' r h => absurd h.symm hR) (fun g' w' f' s' a' r h => absurd h.symm hR) pan1.then g w _ _ _ hrel hr)
  intro g1 w1 f1 s1 a1 r1 h1
  obtain ⟨g1', r1'⟩ := r1.nrm (some idr)
  refine wp_seq (wpIn_wide.1 ((wpIn_region ?_ : Code.wpIn (FR none) 0 C.P (.region idr #[om, od] false) _ a1 w1)))
  refine aOps_pre (ro := none) (n := 0) (g0 := g.fr0) (w0 := w) (all := #[om, od]) hC hR hG hokR pan1.then [od] [om] 0 rfl (fun g2 w2 f2 s2 a2 r2 h2 => ?_) g1' w1 f1 _ a1 r1' h1
  obtain ⟨caps, v, h', v2, h'', he, hbD, hgd2, rfl⟩ := key s2 h2
  show wpOpsIn (FR none) 0 C.P #[om, od] _ [1] a2 w2
  have hve := r2.env td
  rw [he] at hve
  have hve : V g2 w2 (.F (.func fd) [] caps) (a2.tmps.getD td undef) := hve
  obtain ⟨vf, vc, hg, hvf, hvc⟩ := V_F' hve
  simp only [VT] at hvf
  subst hvf
  have hev : a2.eval (.tmp td) = .func (.func fd) #[] vc.toArray := by
    rw [show a2.eval (.tmp td) = a2.tmps.getD td undef by simp [Act.eval, Array.getD_eq_getD_getElem?]]
    exact hg
  have hx : (execOp a2.eval od).run C.P w2 = .ok (.defer { target := .fn (.func fd) vc.toArray, args := #[] }) w2 := by
    simp [execOp, hod, resolve, hcd, hca, hev, Deferred.ofValue]
  have r3 : Rel C (NT.of fn.ntmps) { g with df := [{ target := .fn (.func fd) vc.toArray, args := #[] }] } w g2 w2 f2 s2 { a2 with defers := { target := .fn (.func fd) vc.toArray, args := #[] } :: a2.defers } := by
    have e := r2.ext
    refine ⟨⟨⟨e.later.n, e.later.ix, e.later.st, e.later.cell⟩, e.size, e.blk, e.ow, e.st, e.frz, e.os, e.tape, e.out, e.shape⟩, r2.core, r2.env, r2.glob, ?_, r2.sz, r2.fixed⟩
    show _ :: a2.defers = _
    rw [show a2.defers = [] from r2.dfr]
  obtain ⟨g3, r3b⟩ := (r3.base rfl).nrm (N := N) (headId D)
  have hvc3 : VT g3 w2 caps vc := VT.later r3b.since.later _ _ hvc
  have r3' := Rel.unbase r3.ext rfl r3b
  have rb := r3'.base rfl
  have fin1 : ∀ g' w' f' s' a', Rel C (NT.of fn.ntmps) { g3 with df := [{ target := .fn (.func fd) vc.toArray, args := #[] }] } w2 g' w' f' s' a' → resK (stdAlg C.pure G) C N fn s' = .ret v h' → Leaves C.P fn a'.tmps (Post g w (.ret v h'')) a'.defers .returning w' := by
    intro g' w' f' s' a' r h
    have hdf : a'.defers = [{ target := .fn (.func fd) vc.toArray, args := #[] }] := r.dfr
    rw [hdf]
    obtain ⟨v', u, g4, k1, k2, k3, k4, k5, k6⟩ := end_plain (by simp) hfresh hlen r h
    rw [hdrop] at k6
    simp only [if_false, Bool.false_eq_true, Res.ret.injEq] at k6
    obtain ⟨rfl, rfl⟩ := k6
    have k2' : Chg (fun b => g3.ow b ≠ none) g3 w2 g4 w' := ⟨⟨k2.later.n, k2.later.ix, k2.later.st, k2.later.cell⟩, k2.size, k2.blk, k2.ow, k2.st, k2.frz, k2.os, k2.tape, k2.out, k2.shape⟩
    have e3 := r3'.ext
    have e3' : Chg (fun b => g.ow b ≠ none) g w g3 w2 := ⟨⟨e3.later.n, e3.later.ix, e3.later.st, e3.later.cell⟩, e3.size, e3.blk, e3.ow, e3.st, e3.frz, e3.os, e3.tape, e3.out, e3.shape⟩
    have hch4 : Chg (fun b => g.ow b ≠ none) g w g4 w' := e3'.trans k2' fun b hb hB hn => hB ((e3'.ow b hb (fun x => x hn)).trans hn)
    have hmn : ∀ b, g4.ow b = none → g4.mask.ow b = none := fun b hb => by simp [Gh.mask, hb]
    have hch4m : Chg (fun b => g.ow b ≠ none) g w g4.mask w' := ⟨⟨hch4.later.n, hch4.later.ix, hch4.later.st, hch4.later.cell⟩, hch4.size, hch4.blk, fun b hb hn => by
      have h0 : g.ow b = none := Classical.not_not.1 hn
      have := hch4.ow b hb hn
      rw [h0] at this ⊢
      exact hmn b this, hch4.st, hch4.frz, hch4.os, hch4.tape, hch4.out, hch4.shape⟩
    have hlm : Later g4 w' g4.mask w' := Later.sameV w' rfl rfl rfl
    have hvc4 : VT g4.mask w' caps vc := VT.later hlm _ _ (VT.later k2'.later _ _ hvc3)
    have hgl4 : GlobR C g4.mask w' := fun gi cs hg => VC.later hch4m.later gi cs 0 (hgl gi cs hg)
    obtain ⟨hcd2, hcD⟩ := hD g4.mask w' caps vc _ _ _ hgd2 (mask_heapR k3) hvc4 k5 hgl4 (fun b ow hb => (mask_heap.1 hb).2)
    have hinv : (invoke (.fn (.func fd) vc.toArray) #[]).run C.P w' = .ok (.enter fd vc.toArray) w' := by
      have := hcd2.run vc.toArray w'
      simpa [invoke] using this
    refine leaves_cons (f := fd) (args := vc.toArray) (by simp) hinv ((hcD .returning).mono fun e u' w4 hq => ?_)
    obtain ⟨rfl, hpost⟩ := hq
    cases e with
    | outgrown => exact hpost.elim
    | panicked chain => obtain ⟨_, _, _, _, e1, _⟩ := hpost; cases e1
    | returned u2 =>
      obtain ⟨v3, h3, g5, e1, hch5, hheap5, _, hwf5⟩ := hpost
      cases e1
      have hu : u = .tuple #[] := by
        have := k1
        rw [results_eq, hres] at this
        simp at this
        exact this.symm
      have hl5 : Later g4 w' g5 w4 := ⟨hch5.later.n, hch5.later.ix, hch5.later.st, hch5.later.cell⟩
      refine ⟨u, ?_, v, _, g5, rfl, hch4m.trans hch5 fun b hb hB hn => hB ?_, hheap5, V.later hl5 _ _ k4, hwf5⟩
      · rw [hu, results_eq, hres]
        simp
      · have h0 : g.ow b = none := hn
        exact hmn b ((hch4.ow b hb (fun x => x h0)).trans h0)
  have hDw : D.wp C.P (bodyPostD C.P fn (Post g w (.ret v h''))) { a2 with defers := { target := .fn (.func fd) vc.toArray, args := #[] } :: a2.defers } w2 :=
    aC_sound (w0 := w2) hC (by simp) hG D hokD (.inl rfl) (Q := bodyPostD C.P fn (Post g w (.ret v h''))) (fun g' w' f' s' a' r h => fin1 _ _ _ _ _ r h) (fun id g' w' f' s' a' r h => by cases h) (fun g' w' f' s' a' r h => fin1 _ _ _ _ _ r h) (fun a ha v h' u g' w' hRv => by cases hRv) g3 w2 _ _ _ rb hbD
  simp only [wpOpsIn, List.getElem?_toArray, List.getElem?_cons_succ, List.getElem?_cons_zero]
  rw [if_pos (by simp [Region.wanted, hgd])]
  refine ⟨fun _ _ => trivial, ?_⟩
  show od.uponIn (FR none) 0 C.P a2 _ _ ((od.semAt none a2.eval).run C.P w2)
  rw [Oper.semAt_none, hx, Oper.uponIn_defer, hdst]
  exact hDw
end
end Go.Vm
namespace Go.Vm
open Go
section
variable (C : Cx) (N : Ann)
def frcL (sites : List Nat) (s : St) : List Nat → (List (Nat × EV) → Res) → Res
  | [], K => K []
  | t :: ts, K => frcE (match N.asV t with
    | true => fixEV s sites (toV N s (s.env t))
    | false => fixEV s sites (s.env t)) fun e => frcL sites s ts fun l => K ((t, e) :: l)
theorem frcL_eq (sites : List Nat) (s : St) : ∀ (l : List Nat) (K : List (Nat × EV) → Res), frcL N sites s l K = K (l.map fun t => (t, if N.asV t then fixEV s sites (toV N s (s.env t)) else fixEV s sites (s.env t)))
  | [], K => rfl
  | t :: ts, K => by
    simp only [frcL, frcE_eq, frcL_eq sites s ts, List.map_cons]
    cases N.asV t <;> rfl
def frcLO (l : LOv) (K : LOv → Res) : Res := match l with
  | ⟨v, .no⟩ => frcN v fun v => K ⟨v, .no⟩
  | ⟨v, .box m cs⟩ => frcN v fun v => frcN m fun m => K ⟨v, .box m cs⟩
  | ⟨v, .arr (.e t n xs) ex⟩ => frcN v fun v => K ⟨v, .arr (.e t n xs) ex⟩
  | ⟨v, .arr (.y t xs) ex⟩ => frcN v fun v => K ⟨v, .arr (.y t xs) ex⟩
theorem frcLO_eq (l : LOv) (K : LOv → Res) : frcLO l K = K l := by
  obtain ⟨v, lo⟩ := l
  cases lo with
  | no => exact frcN_eq v fun v => K ⟨v, .no⟩
  | box m cs => simp only [frcLO, frcN_eq]
  | arr c ex => cases c <;> simp only [frcLO, frcN_eq]
def frcS (s : St) : List Nat → (List (Nat × LOv) → Res) → Res
  | [], K => K []
  | k :: ks, K => frcLO (fixLO N k (s.loc k)) fun e => frcS s ks fun l => K ((k, e) :: l)
theorem frcS_eq (s : St) : ∀ (l : List Nat) (K : List (Nat × LOv) → Res), frcS N s l K = K (l.map fun k => (k, fixLO N k (s.loc k)))
  | [], K => rfl
  | k :: ks, K => by simp only [frcS, frcLO_eq, frcS_eq s ks, List.map_cons]
structure NrB where
  run : St → (St → Res) → Res
def cNrm (r : Option Nat) : NrB := match r.bind N.live with
  | some (live, sites) => ⟨fun s K => frcL N sites s live fun l => frcS N s sites fun ls => K (mkSt l ls s.h)⟩
  | none => ⟨fun s K => K s⟩
theorem cNrm_eq (r : Option Nat) (s : St) (K : St → Res) : (cNrm N r).run s K = K (nrm N r s) := by
  unfold cNrm nrm
  cases r.bind N.live with
  | none => rfl
  | some p =>
    obtain ⟨live, sites⟩ := p
    simp only [frcL_eq, frcS_eq]
def cC (Gn : FuncId → FF) : (FuncId → FF) → Code → CdB
  | _, .skip => ⟨fun kn _ _ s => kn s⟩
  | G, .region _ ops dr => (match dr with
    | true => ⟨fun kn _ _ s => (cOpsD C N Gn ops (befores ops.toList []) ⟨0, 0, []⟩ 0 ops.toList).run [] [] s kn⟩
    | false => ⟨fun kn _ _ s => (cOps C N G ops ops.toList).run s kn⟩)
  | G, .seq a b => ⟨fun kn kx kr s => (cC Gn G a).run (fun s' => (cNrm N (headId b)).run s' fun s' => (cC Gn G b).run kn kx kr s') kx kr s⟩
  | G, .cond c x y => ⟨fun kn kx kr s => condK (stdAlg C.pure G) c s fun b s' => match b with
    | true => (cNrm N (headId x)).run s' fun s' => (cC Gn G x).run kn kx kr s'
    | false => (cNrm N (headId y)).run s' fun s' => (cC Gn G y).run kn kx kr s'⟩
  | G, .block id b => ⟨fun kn kx kr s => (cC Gn G b).run kn (fun i s' => if i = id then kn s' else kx i s') kr s⟩
  | G, .loop b => ⟨fun _ kx kr s => (cNrm N (headId b)).run s fun s => loopR (stdAlg C.pure G) (fun ih s => (cC Gn G b).run (fun s' => (cNrm N (headId b)).run s' fun s' => ih s') kx kr s) N.fuel s⟩
  | _, .exit id => ⟨fun _ kx _ s => kx id s⟩
  | _, .ret => ⟨fun _ _ kr s => kr s⟩
  | G, .scope b => ⟨fun kn kx kr s => (cC Gn G b).run kn kx kr s⟩
  | _, .label _ => ⟨fun kn _ _ s => kn s⟩
  | G, .rangeFunc g ps asg bod => ⟨fun kn kx kr s => match evO C s g with
    | .v v => mF v fun fn fs cs => match fn, fs with
      | .func f, [] => match C.iter f cs with
        | some xs =>
          let fixl := N.rfix ((headId asg).getD 0)
          if rfOK fixl ps asg bod then
            roundsR (stdAlg C.pure G) N fixl ps.toList (fun kn kx kr s => (cC Gn Gn asg).run kn kx kr s) (fun kn kx kr s => (cC Gn Gn bod).run kn kx kr s) (headId asg) (headId bod) kn kx kr xs (s.keep fixl)
          else .stuck
        | none => .stuck
      | _, _ => .stuck
    | _ => .stuck⟩
  | _, _ => ⟨fun _ _ _ _ => .stuck⟩
theorem cC_eq (Gn : FuncId → FF) : ∀ (c : Code) (G : FuncId → FF) (kn : St → Res) (kx : Nat → St → Res) (kr : St → Res) (s : St), (cC C N Gn G c).run kn kx kr s = aC C N (stdAlg C.pure Gn) (stdAlg C.pure G) c kn kx kr s := by
  intro c
  induction c with
  | skip => intro G kn kx kr s; rfl
  | region id ops dr =>
    intro G kn kx kr s
    cases dr with
    | true => exact cOpsD_eq C N Gn ops _ ops.toList _ 0 [] [] s kn rfl (fun j x hj => by omega) .nil (fun p hp => by cases hp)
    | false => exact cOps_eq C N G ops ops.toList s kn
  | seq a b iha ihb =>
    intro G kn kx kr s
    simp only [cC, aC, iha, ihb, cNrm_eq]
  | cond c x y ihx ihy =>
    intro G kn kx kr s
    simp only [cC, aC, ihx, ihy, cNrm_eq]
    congr 1
    funext b s'
    cases b <;> rfl
  | block id b ih =>
    intro G kn kx kr s
    simp only [cC, aC, ih]
  | loop b ih =>
    intro G kn kx kr s
    simp only [cC, aC, ih, cNrm_eq]
  | exit id => intro G kn kx kr s; rfl
  | ret => intro G kn kx kr s; rfl
  | scope b ih =>
    intro G kn kx kr s
    simp only [cC, aC, ih]
  | label l => intro G kn kx kr s; rfl
  | rangeFunc g ps asg bod iha ihb =>
    intro G kn kx kr s
    simp only [cC, aC, iha, ihb]
    rfl
  | _ => intro G kn kx kr s; rfl
def fastF (fn : Func) (G : FuncId → FF) : FF := fun args h => match fn.body with
  | some c =>
    (match N.eat with
    | none => (cC C N (noPan G) G c).run (resK (stdAlg C.pure G) C N fn) (fun _ _ => .stuck) (resK (stdAlg C.pure G) C N fn) (initSt args h)
    | some (k, e) => match args, h with
      | a :: as, [.no] =>
        if byteT C.P e then mY a fun s => (cC C N (noPan G) G c).run (resK (stdAlg C.pure G) C N fn) (fun _ _ => .stuck) (resK (stdAlg C.pure G) C N fn) (eatSt k (.y e s) as [])
        else mL (szT C.P e) a fun xs => (cC C N (noPan G) G c).run (resK (stdAlg C.pure G) C N fn) (fun _ _ => .stuck) (resK (stdAlg C.pure G) C N fn) (eatSt k (.e e (szT C.P e) xs) as [])
      | _, _ => .stuck)
  | none => .stuck
theorem fastF_eq (fn : Func) (G : FuncId → FF) : fastF C N fn G = semF C N fn G := by
  funext args h
  unfold fastF semF aF
  cases fn.body with
  | none => rfl
  | some c =>
    simp only [cC_eq]
    cases N.eat with
    | none => rfl
    | some p =>
      obtain ⟨k, e⟩ := p
      simp only
      cases args with
      | nil => rfl
      | cons a as =>
        match h with
        | [.no] => rfl
        | [] => rfl
        | [.cells _] => rfl
        | [.arr _ _ _] => rfl
        | [.map _] => rfl
        | .no :: _ :: _ => rfl
        | .cells _ :: _ :: _ => rfl
        | .arr _ _ _ :: _ :: _ => rfl
        | .map _ :: _ :: _ => rfl
end
section
variable {C : Cx} {N : Ann} {G : FuncId → FF}
theorem sound_fnQ (hC : OkC C) (hG : ∀ j, Sound C j (G j)) {f : FuncId} {fn : Func} {c : Code} (hf : C.P.funcs[f]? = some fn) (hb : fn.body = some c) (hname : fn.name ≠ "runtime.NumGoroutine") (hok : codeOK (NT.of fn.ntmps) c = true)
    (hlen : fn.results.size = fn.resultTypes.size) (hdrop : N.drop = C.pure f) (heat : N.eat = none) (hceat : C.eats f = none) (hfresh : N.fresh = C.fresh f) (hfp : C.fresh f = none ∨ (C.pure f = true ∧ fn.results.size = 1)) : Sound C f (fastF C N fn G) := by
  rw [fastF_eq]
  exact sound_fn hC hG hf hb hname hok hlen hdrop heat hceat hfresh hfp
theorem sound_rfQ (hC : OkC C) (hG : ∀ j, Sound C j (G j)) {f : FuncId} {fn : Func} {c : Code} (hf : C.P.funcs[f]? = some fn) (hb : fn.body = some c) (hname : fn.name ≠ "runtime.NumGoroutine") (hok : codeOK (NT.ofm fn.ntmps true) c = true)
    (hlen : fn.results.size = fn.resultTypes.size) (hdrop : N.drop = C.pure f) (heat : N.eat = none) (hceat : C.eats f = none) (hfresh : N.fresh = C.fresh f) (hfp : C.fresh f = none ∨ (C.pure f = true ∧ fn.results.size = 1)) : Sound C f (noPan1 (fastF C N fn G)) := by
  rw [fastF_eq]
  exact sound_rf hC hG hf hb hname hok hlen hdrop heat hceat hfresh hfp
theorem sound_eatQ (hC : OkC C) (hG : ∀ j, Sound C j (G j)) {f : FuncId} {fn : Func} {c : Code} {e : TypeId} {k : Nat} (hf : C.P.funcs[f]? = some fn) (hb : fn.body = some c) (hname : fn.name ≠ "runtime.NumGoroutine") (hok : codeOK (NT.of fn.ntmps) c = true)
    (hlen : fn.results.size = fn.resultTypes.size) (hp : C.pure f = true) (heat : N.eat = some (k, e)) (hceat : C.eats f = some e) (hfresh : N.fresh = some e) (h1 : fn.results.size = 1) : Sound C f (fastF C N fn G) := by
  rw [fastF_eq]
  exact sound_eat hC hG hf hb hname hok hlen hp heat hceat hfresh h1
theorem soundD_fnQ (hC : OkC C) (hG : ∀ j, Sound C j (G j)) {f : FuncId} {fn : Func} {c : Code} (hf : C.P.funcs[f]? = some fn) (hb : fn.body = some c) (hname : fn.name ≠ "runtime.NumGoroutine") (hok : codeOK (NT.of fn.ntmps) c = true)
    (hlen : fn.results.size = fn.resultTypes.size) (hdrop : N.drop = false) (heat : N.eat = none) (hfresh : N.fresh = none) : SoundD C f (fastF C N fn G) := by
  rw [fastF_eq]
  exact soundD_fn hC hG hf hb hname hok hlen hdrop heat hfresh
def fastDc (C : Cx) (N : Ann) (fn : Func) (A D : Code) (om : Oper) (idr td : Nat) (fd : FuncId) (ops : Array Oper) (S : FF) (G : FuncId → FF) : FF := fun as h =>
  let Rk := resK (stdAlg C.pure G) C N fn
  (cC C N (noPan G) G A).run
    (fun s => (cNrm N (some idr)).run s fun s => (cOps C N G ops [om]).run s fun s => match s.env td with
        | .v (.F (.func f) [] caps) => (match Nat.beq f fd with
          | true => (match ((cNrm N (headId D)).run s fun s => (cC C N (noPan G) G D).run Rk (fun _ _ => .stuck) Rk s) with
            | .ret v h' => (match S caps h' with
              | .ret _ h'' => .ret v h''
              | _ => .stuck)
            | _ => .stuck)
          | false => .stuck)
        | _ => .stuck)
    (fun _ _ => .stuck) (fun _ => .stuck) (initSt as h)
theorem fastDc_eq (fn : Func) (A D : Code) (om : Oper) (idr td : Nat) (fd : FuncId) (ops : Array Oper) (S : FF) : fastDc C N fn A D om idr td fd ops S G = semDc C N fn A D om idr td fd ops S G := by
  funext as h
  unfold fastDc semDc
  simp only [cC_eq, cNrm_eq, cOps_eq] <;> rfl
structure FB where
  run : FF
def lkB (k : Nat) : List (Nat × ((FuncId → FF) → FF)) → (FuncId → FF) → FB
  | [], _ => ⟨fun _ _ => .stuck⟩
  | (i, f) :: r, G => bif Nat.beq i k then ⟨f G⟩ else lkB k r G
theorem lkB_eq (k : Nat) (G : FuncId → FF) : ∀ l, (lkB k l G).run = lkF k l G
  | [] => rfl
  | (i, f) :: r => by
    simp only [lkB, lkF]
    cases Nat.beq i k with
    | true => rfl
    | false => exact lkB_eq k G r
noncomputable def GGb (tab : List (Nat × ((FuncId → FF) → FF))) (l : ML) (k : FuncId) (G : FuncId → FF) : FB := match hasK k l with
  | true => ⟨orE (memK k l) (lkF k tab G)⟩
  | false => lkB k tab G
noncomputable def GGq (tab : List (Nat × ((FuncId → FF) → FF))) (l : ML) : Nat → FuncId → FF
  | 0, _ => fun _ _ => .stuck
  | n + 1, k => fun as h => (GGb tab l k (GGq tab l n)).run as h
theorem GGq_eq (tab : List (Nat × ((FuncId → FF) → FF))) (l : ML) : ∀ n k, GGq tab l n k = GGm tab l n k
  | 0, k => rfl
  | n + 1, k => by
    have ih : GGq tab l n = GGm tab l n := funext fun k => GGq_eq tab l n k
    show (fun as h => (GGb tab l k (GGq tab l n)).run as h) = _
    unfold GGb GGm
    rw [ih]
    cases hasK k l with
    | true => rfl
    | false => exact lkB_eq k _ tab
theorem GGq_sound {tab : List (Nat × ((FuncId → FF) → FF))} (htab : ∀ {G : FuncId → FF}, (∀ j, Sound C j (G j)) → ∀ k, Sound C k (lkF k tab G)) {l : ML} (hoff : memOff C.eats l = true) (hl : ∀ p ∈ l, ∃ S, Sound C p.1 S ∧ S p.2.1 p.2.2.1 = p.2.2.2) (n k : Nat) : Sound C k (GGq tab l n k) := by
  rw [GGq_eq]
  exact GGm_sound htab hoff hl n k
end
end Go.Vm
namespace Go.Vm
open Go
def pktOK : List AV → Bool
  | [.I .i64 _, .I .i64 _, .Y s] => decide (s.length ≤ 140737488355328)
  | _ => false
def netL (xs : List (List AV)) : List (List AV) := (List.range xs.length).map fun (j : Nat) => [AV.I .i64 (j : Int), AV.A (xs.getD j [])]
def CopyC (P : Program) (f : FuncId) : Prop := ∀ (x : List AV), pktOK x = true → ∀ (g : Gh) (w : World) (v : Value), g.n = 0 → (∀ b, g.ow b = none) → Wf g w → V g w (.A x) v →
  Callable P f ∧ Calls P f #[v] w (PostP none g w (.ret (.A x) []))
theorem grown_chg {g : Gh} {w w' : World} (hwf : ∀ b i, g.st b i → b < w.heap.size) (hs : w.heap.size ≤ w'.heap.size) (hh : ∀ b, b < w.heap.size → w'.heap[b]? = w.heap[b]?) (h1 : w'.os = w.os) (h2 : w'.tape = w.tape) (h3 : w'.output = w.output) : Chg (fun _ => False) g w (g.only w.heap.size) w' := by
  refine ⟨⟨Nat.le_refl _, fun _ _ => rfl, fun _ _ h => h, fun b i hx => ?_⟩, hs, fun b hb _ => hh b hb, fun b hb _ => by simp [Gh.only, hb], fun _ _ _ _ h => h, fun ad hb => ?_, h1, h2, h3, fun b c t fr hb => ⟨c, by rw [hh b (Array.getElem?_eq_some_iff.1 hb).1]; exact hb, rfl⟩⟩
  · simp only [World.cell?, hh b (hwf b i hx)]
  · simp only [World.frozen?, hh _ hb]
section
variable {P : Program} {o : Oper} {a : Act} {w : World}
theorem ops_vw {M : Nat} {w' : World} {ro : Option Nat} {n : Nat} {ops : Array Oper} {Q : Exit → Act → World → Prop} {i : Nat} {rest : List Nat} (v : Value) {op : Op} {d : Nat} (hs : M ≤ a.tmps.size) (hi : ops[i]? = some o) (ho : IsO o op d) (hd : d < M) (hnd : ∀ c, op ≠ .defer c)
    (hx : (execOp a.eval o).run P w = .ok (.value v) w') (h : ∀ a' : Act, M ≤ a'.tmps.size → a'.defers = a.defers → (∀ t, a'.eval (.tmp t) = if t = d then v else a.eval (.tmp t)) → wpOpsIn (FR ro) n P ops Q rest a' w') : wpOpsIn (FR ro) n P ops Q (i :: rest) a w := by
  simp only [wpOpsIn, hi]
  rw [if_pos (by simp [Region.wanted, ho.2.2])]
  refine ⟨fun _ _ => trivial, ?_⟩
  rw [Oper.semAt_eq _ _ _ (by rw [ho.1]; exact hnd), hx]
  simp only [Oper.uponIn, ho.2.1]
  exact h _ (by rw [sz_put]; exact hs) rfl fun t => ev_put (by omega)
theorem ops_sk {w' : World} {ro : Option Nat} {n : Nat} {ops : Array Oper} {Q : Exit → Act → World → Prop} {i : Nat} {rest : List Nat} {op : Op} (hi : ops[i]? = some o) (ho : o.op = op ∧ o.dst = none ∧ o.guard = none) (hnd : ∀ c, op ≠ .defer c)
    (hx : (execOp a.eval o).run P w = .ok .skip w') (h : wpOpsIn (FR ro) n P ops Q rest a w') : wpOpsIn (FR ro) n P ops Q (i :: rest) a w := by
  simp only [wpOpsIn, hi]
  rw [if_pos (by simp [Region.wanted, ho.2.2])]
  refine ⟨fun _ _ => trivial, ?_⟩
  rw [Oper.semAt_eq _ _ _ (by rw [ho.1]; exact hnd), hx]
  simp only [Oper.uponIn, ho.2.1]
  exact h
theorem ops_call {M : Nat} {ops : Array Oper} {Q : Exit → Act → World → Prop} {i : Nat} {rest : List Nat} {op : Op} {d : Nat} {f : FuncId} {args : Array Value} {R' : Ending → World → Prop} (hs : M ≤ a.tmps.size) (hi : ops[i]? = some o) (ho : IsO o op d) (hd : d < M) (hnd : ∀ c, op ≠ .defer c)
    (hx : (execOp a.eval o).run P w = .ok (.enter f args) w) (hc : Calls P f args w R') (h : ∀ e W, R' e W → ∃ v, e = .returned v ∧ ∀ a' : Act, M ≤ a'.tmps.size → a'.defers = a.defers → (∀ t, a'.eval (.tmp t) = if t = d then v else a.eval (.tmp t)) → wpOpsIn (FR none) 0 P ops Q rest a' W) : wpOpsIn (FR none) 0 P ops Q (i :: rest) a w := by
  simp only [wpOpsIn, hi]
  rw [if_pos (by simp [Region.wanted, ho.2.2])]
  refine ⟨fun _ _ => trivial, ?_⟩
  rw [Oper.semAt_eq _ _ _ (by rw [ho.1]; exact hnd), hx]
  refine ⟨fun h => by simp [FR, Fence.wide] at h, callsIn_wide.2 (hc.mono ?_)⟩
  intro e W hR
  obtain ⟨v, rfl, h2⟩ := h e W hR
  simp only [ho.2.1]
  exact h2 _ (by rw [sz_put]; exact hs) rfl fun t => ev_put (by omega)
end
section
variable {P : Program} {f fc : FuncId} {fn : Func} {ti ts te : TypeId}
structure NetCode (P : Program) (fn : Func) (fc : FuncId) (ti ts te : TypeId) : Prop where
  hts : okT P ts = true
  ats : aggT P ts = false
  uts : P.underlying ts = some (.slice te)
  hte : okT P te = true
  ate : aggT P te = true
  zte : szT P te = 3
  zero : zeroOK P te = true
  nt : 19 ≤ fn.ntmps
  res : fn.results = #[]
  np : fn.name ≠ "runtime.NumGoroutine"
  body : ∃ (r0 r1 r2 r3 r4 b0 b1 : Nat) (o0 o1 o2 p0 q0 q1 q2 q3 q4 q5 u0 u1 u2 u3 u4 u5 s0 s1 : Oper) (t1 t2 t3 : TypeId) (c1 c2 c3 : Call),
    fn.body = some (.seq (.region r0 #[o0, o1, o2] false) (.block b0 (.loop (.seq (.region r1 #[p0] false) (.seq (.cond (.tmp 8) .skip (.exit b0))
      (.seq (.block b1 (.seq (.region r2 #[q0, q1, q2, q3, q4, q5] false) (.seq (.region r3 #[u0, u1, u2, u3, u4, u5] false) (.cond (.tmp 17) .ret .skip)))) (.region r4 #[s0, s1] false))))))) ∧
    IsO o0 (.load ts (.tmp 1)) 5 ∧ IsO o1 (.call c1) 6 ∧ IsO o2 (.move (.const (.int .i64 0))) 7 ∧
    (c1.callee = .builtin .len ∧ c1.args = #[.tmp 5] ∧ c1.argTypes = #[ts]) ∧
    IsO p0 (.binOp .lss ti (.tmp 7) (.tmp 6) t1) 8 ∧
    IsO q0 (.move (.tmp 7)) 9 ∧ IsO q1 (.indexAddr ts (.tmp 5) (.tmp 7)) 10 ∧ IsO q2 (.load te (.tmp 10)) 11 ∧ IsO q3 (.alloc te) 4 ∧ IsO q4 (.assign (.tmp 9)) 3 ∧ (∃ ty, q5.op = .store te (.tmp 4) (.tmp 11) ∧ q5.dst = none ∧ q5.guard = none ∧ ty = te) ∧
    IsO u0 (.move (.tmp 0)) 12 ∧ IsO u1 (.move (.tmp 3)) 13 ∧ IsO u2 (.load te (.tmp 4)) 14 ∧ IsO u3 (.call c2) 15 ∧ IsO u4 (.call c3) 16 ∧ IsO u5 (.unOp .not t2 (.tmp 16)) 17 ∧
    (c2.callee = .value (.func fc) ∧ c2.args = #[.tmp 14]) ∧ (c3.callee = .value (.tmp 12) ∧ c3.args = #[.tmp 13, .tmp 15]) ∧
    IsO s0 (.binOp .add ti (.tmp 7) (.const (.int .i64 1)) t3) 18 ∧ IsO s1 (.move (.tmp 18)) 7
theorem netL_length (xs : List (List AV)) : (netL xs).length = xs.length := by simp [netL]
theorem netL_get {xs : List (List AV)} {j : Nat} (h : j < xs.length) : (netL xs)[j]? = some [AV.I .i64 (j : Int), AV.A (xs.getD j [])] := by
  rw [netL, List.getElem?_map, List.getElem?_range h]
  rfl
theorem net_iter (hf : P.funcs[f]? = some fn) (hc : NetCode P fn fc ti ts te) (hcp : CopyC P fc) {xs : List (List AV)} (hpk : ∀ x ∈ xs, pktOK x = true) : IterC P f [.Q [.L 3 xs]] (netL xs) := by
  intro g w vals hv l J Jx hlat hy gj0 hJ0
  simp only [VT] at hv
  obtain ⟨v2, vs2, rfl, hv2, rfl⟩ := hv
  simp only [V, VC] at hv2
  obtain ⟨b2, o2', rfl, hst2, ⟨u2', hcell2, ⟨ad, len, cap, rfl, rfl, ⟨hlc, hl63⟩, hrows⟩, _⟩, _⟩ := hv2
  obtain ⟨r0, r1, r2, r3, r4, k0, k1, o0, o1, o2, p0, q0, q1, q2, q3, q4, q5, u0, u1, u2, u3, u4, u5, s0, s1, t1, t2, t3, c1, c2, c3, hb, io0, io1, io2, hc1, ip0, iq0, iq1, iq2, iq3, iq4, ⟨_, iq5, iq5', iq5'', _⟩, iu0, iu1, iu2, iu3, iu4, iu5, hc2, hc3, is0, is1⟩ := hc.body
  have hz0 : szT P te ≠ 0 := by rw [hc.zte]; omega
  refine callsIn_wide.1 ((?_ : CallsIn (FR none) 0 P f _ w _))
  refine callsIn_of_wp (F := FR none) (n := 0) hf hb trivial ?_
  let At := fun (a : Act) => 19 ≤ a.tmps.size ∧ a.defers = [] ∧ a.eval (.tmp 0) = .func (.yield l) #[] #[] ∧ a.eval (.tmp 5) = .slice ad xs.length cap ∧ a.eval (.tmp 6) = .int .i64 xs.length
  obtain ⟨a0, ha0⟩ : ∃ a0 : Act, a0 = { tmps := #[Value.func (.yield l) #[] #[]] ++ [Value.pointer (some ⟨b2, o2', none⟩)].toArray ++ Array.replicate (fn.ntmps - (#[Value.func (.yield l) #[] #[]] ++ [Value.pointer (some ⟨b2, o2', none⟩)].toArray).size) undef, defers := [] } := ⟨_, rfl⟩
  have hA0 : 19 ≤ a0.tmps.size ∧ a0.defers = [] ∧ a0.eval (.tmp 0) = .func (.yield l) #[] #[] ∧ a0.eval (.tmp 1) = .pointer (some ⟨b2, o2', none⟩) := by
    have hn := hc.nt
    subst ha0
    refine ⟨by simp; omega, rfl, ?_, ?_⟩ <;> (simp only [Act.eval, Array.getD_eq_getD_getElem?]; rw [Array.getElem?_append_left (by simp)]; rfl)
  rw [← ha0]
  clear ha0
  have done : ∀ a W, a.defers = [] → ((∃ g2, J (netL xs).length g2 W) ∨ Jx W) → bodyPost P fn (fun e W' => (∃ v, e = .returned v) ∧ ((∃ g2, J (netL xs).length g2 W') ∨ Jx W')) .ret a W := by
    intro a W hd h
    refine ⟨hd, .tuple #[], ?_, ⟨_, rfl⟩, h⟩
    rw [results_eq, hc.res]
    simp
  obtain ⟨h01, h02, h03, h05⟩ := hA0
  refine wpIn_seq (wpIn_region ?_)
  show wpOpsIn (FR none) 0 P _ _ [0, 1, 2] a0 w
  refine ops_vw (o := o0) (.slice ad xs.length cap) h01 rfl io0 (by omega) (by simp) (run_ld io0.1 h05 (run_loadVar_one hc.hts hc.ats hcell2)) fun a1 z1 f1 e1 => ?_
  refine ops_vw (o := o1) (.int .i64 xs.length) z1 rfl io1 (by omega) (by simp) (run_lenS (ad := ad) (len := xs.length) (cap := cap) io1.1 hc1.1 hc1.2.1 hc1.2.2 hc.uts (by simp [e1])) fun a2 z2 f2 e2 => ?_
  refine ops_vw (o := o2) (.int .i64 0) z2 rfl io2 (by omega) (by simp) (run_mv (.inl io2.1) rfl) fun aL z4 f4 e4 => ?_
  have hAL : At aL ∧ aL.eval (.tmp 7) = .int .i64 ((0 : Nat) : Int) := by
    refine ⟨⟨z4, by rw [f4, f2, f1, h02], ?_, ?_, ?_⟩, ?_⟩ <;> simp [e1, e2, e4, h03]
  clear e1 e2 e4 f1 f2 f4 z1 z2 z4
  refine wpIn_block (wpIn_loop_rounds (xs.length + 1) ?_)
  have round : ∀ (j : Nat) (a : Act) (gj : Gh) (W : World) (K : Act → World → Prop), j ≤ (netL xs).length → At a → a.eval (.tmp 7) = .int .i64 (j : Int) → J j gj W →
      (j < xs.length → ∀ a gj W, At a → a.eval (.tmp 7) = .int .i64 ((j + 1 : Nat) : Int) → J (j + 1) gj W → K a W) →
      (Code.seq (.region r1 #[p0] false) (.seq (.cond (.tmp 8) .skip (.exit k0))
        (.seq (.block k1 (.seq (.region r2 #[q0, q1, q2, q3, q4, q5] false) (.seq (.region r3 #[u0, u1, u2, u3, u4, u5] false) (.cond (.tmp 17) .ret .skip)))) (.region r4 #[s0, s1] false)))).wpIn (FR none) 0 P
        (Exit.then K (Exit.inBlock k0 (bodyPost P fn (fun e W' => (∃ v, e = .returned v) ∧ ((∃ g2, J (netL xs).length g2 W') ∨ Jx W'))))) a W := by
    intro j a gj W K hj ⟨a1, a2, a3, a4, a5⟩ a6 hJ hnext
    refine wpIn_seq (wpIn_region ?_)
    show wpOpsIn (FR none) 0 P _ _ [0] a W
    refine ops_vw (o := p0) (.bool (decide ((j : Int) < (xs.length : Int)))) a1 rfl ip0 (by omega) (by simp) (run_int2 (m := (j : Int)) (n := (xs.length : Int)) ip0.1 (.inr (.inr rfl)) a6 a5) fun aB z4 f4 e4 => ?_
    have hAB : At aB ∧ aB.eval (.tmp 7) = .int .i64 (j : Int) ∧ aB.eval (.tmp 8) = .bool (decide ((j : Int) < (xs.length : Int))) := by
      refine ⟨⟨z4, by rw [f4, a2], ?_, ?_, ?_⟩, ?_, ?_⟩ <;> simp [e4, a3, a4, a5, a6]
    clear e4 f4 z4
    obtain ⟨⟨b1', b2', b3, b4, b5⟩, b6, b7⟩ := hAB
    by_cases hlt : j < xs.length
    · refine wpIn_seq (wpIn_cond_true (by rw [b7]; simp; omega) (wpIn_skip ?_))
      have hrow := hrows
      rcases hrow with rfl | ⟨bb, oo, rfl, hrow⟩
      · simp at hlt
      have hrw := VR_get j xs oo (by rw [← hc.zte] at hrow; exact hrow) hlt
      obtain ⟨cv, hcv1, hcv2, hcv3⟩ := VC_vals _ _ hrw.1
      have hxm : xs.getD j [] ∈ xs := by
        rw [List.getD_eq_getElem?_getD, List.getElem?_eq_getElem hlt]
        exact List.getElem_mem hlt
      have hxok := hpk _ hxm
      obtain ⟨hlW, hwfW, hgrow⟩ := hlat j gj W hJ
      have hcvW : ∀ i v, cv[i]? = some v → W.cell? ⟨bb, oo + j * szT P te + i, none⟩ = some v := by
        intro i v hi
        have hst' : g.st bb (oo + j * szT P te + i) := by
          have hil : i < (xs.getD j []).length := by rw [← hcv1]; exact (List.getElem?_eq_some_iff.1 hi).1
          exact VC_st _ _ hrw.1 i hil
        exact (hlW.cell _ _ hst').trans (hcv2 i v hi)
      have hcl : cv.length = szT P te := hcv1.trans hrw.2
      have h1c : ∀ u ∈ cv, u.oneCell' = true := VS_one _ _ hcv3
      obtain ⟨ti', z, hi, hz', hzl, hzl2, _⟩ := zeroOK_inv (g := gj) (w := W) hc.zero
      have hzsz : z.cells.size = szT P te := by
        rw [hzl, hzl2]
        simp [szT, hi]
      refine wpIn_seq (wpIn_block (wpIn_seq (wpIn_region ?_)))
      show wpOpsIn (FR none) 0 P _ _ [0, 1, 2, 3, 4, 5] aB W
      refine ops_vw (o := q0) (.int .i64 (j : Int)) b1' rfl iq0 (by omega) (by simp) (run_mv (.inl iq0.1) b6) fun x1 z1 f1 e1 => ?_
      refine ops_vw (o := q1) (.pointer (some ⟨bb, oo + j * szT P te, none⟩)) z1 rfl iq1 (by omega) (by simp) (run_idx (b := bb) (o' := oo) (len := xs.length) (cap := cap) (n := j) iq1.1 hc.uts hz0 (by simp [e1, b4]) (by simp [e1, b6]) hlt) fun x2 z2 f2 e2 => ?_
      refine ops_vw (o := q2) (.agg cv.toArray) z2 rfl iq2 (by omega) (by simp) (run_ld (b := bb) (off := oo + j * szT P te) iq2.1 (by simp [e2]) (run_loadVar_agg hc.hte hc.ate hcl hcvW)) fun x3 z3 f3 e3 => ?_
      refine ops_vw (o := q3) (.pointer (some ⟨W.heap.size, 0, none⟩)) z3 rfl iq3 (by omega) (by simp) (w' := World.push' W (.cells z.cells te (0, 0))) (by simp [execOp, iq3.1, Instr.alloc, run_zero hi hz', newVar, run_newRow]) fun x4 z4 f4 e4 => ?_
      refine ops_vw (o := q4) (.int .i64 (j : Int)) z4 rfl iq4 (by omega) (by simp) (run_mv (.inr iq4.1) (by simp [e4, e3, e2, e1])) fun x5 z5 f5 e5 => ?_
      obtain ⟨W2, hW2⟩ : ∃ W2, W2 = (World.push' W (.cells z.cells te (0, 0))).setRow W.heap.size (setV z.cells.toList 0 cv).toArray := ⟨_, rfl⟩
      have hnew := push_new W (.cells z.cells te (0, 0))
      have hst5 : (execOp x5.eval q5).run P (World.push' W (.cells z.cells te (0, 0))) = .ok .skip W2 := by
        have := run_storeVar (C := { P := P, glob := fun _ => none, pure := fun _ => false, fresh := fun _ => none, eats := fun _ => none, bound := 0, iter := fun _ _ => none }) (t := te) (b := W.heap.size) (off := 0) (v := .agg cv.toArray) (us := cv) hc.hte hnew rfl hcl (by omega) h1c
        have e14 : x5.eval (.tmp 4) = .pointer (some ⟨W.heap.size, 0, none⟩) := by simp [e5, e4]
        have e111 : x5.eval (.tmp 11) = .agg cv.toArray := by simp [e5, e4, e3]
        rw [hW2]
        simp [execOp, iq5, Instr.storeAt, Instr.sureAddr, e14, e111, this]
      refine ops_sk (o := q5) rfl ⟨iq5, iq5', iq5''⟩ (by simp) hst5 ?_
      have hrow2 : W2.heap[W.heap.size]? = some (.cells cv.toArray te (0, 0)) := by
        rw [hW2, setRow_heap _ _ _ _ _ _ hnew]
        have : (setV z.cells.toList 0 cv) = cv := by
          apply List.ext_getElem?
          intro i
          rw [setV_get _ _ _ _ (by simp; omega)]
          by_cases hi : i < cv.length
          · rw [if_pos (by omega)]; simp
          · rw [if_neg (by omega), List.getElem?_eq_none (by simp; omega), List.getElem?_eq_none (by omega)]
        rw [this]
      have hold2 : ∀ b, b < W.heap.size → W2.heap[b]? = W.heap[b]? := by
        intro b hb
        rw [hW2, setRow_other _ _ _ _ (by omega)]
        exact push_get W _ b hb
      have hsz2 : W.heap.size + 1 = W2.heap.size := by
        rw [hW2]; simp [World.push', World.setRow]
      have hch2 : Chg (fun _ => False) gj W (gj.only W.heap.size) W2 := grown_chg hwfW (by omega) hold2 (by rw [hW2]; rfl) (by rw [hW2]; rfl) (by rw [hW2]; rfl)
      have hwf2 : ∀ b i, (gj.only W.heap.size).st b i → b < W2.heap.size := fun b i h => by have := hwfW b i h; omega
      have hJ2 := hgrow _ _ hch2 rfl hwf2
      have hAX : At x5 ∧ x5.eval (.tmp 7) = .int .i64 (j : Int) ∧ x5.eval (.tmp 3) = .int .i64 (j : Int) ∧ x5.eval (.tmp 4) = .pointer (some ⟨W.heap.size, 0, none⟩) := by
        refine ⟨⟨z5, by rw [f5, f4, f3, f2, f1, b2'], ?_, ?_, ?_⟩, ?_, ?_, ?_⟩ <;> simp [e1, e2, e3, e4, e5, b3, b4, b5, b6]
      clear e1 e2 e3 e4 e5 f1 f2 f3 f4 f5 z1 z2 z3 z4 z5
      obtain ⟨⟨m1, m2, m3, m4, m5⟩, m6, m7, m8⟩ := hAX
      refine wpIn_seq (wpIn_region ?_)
      show wpOpsIn (FR none) 0 P _ _ [0, 1, 2, 3, 4, 5] x5 W2
      refine ops_vw (o := u0) (.func (.yield l) #[] #[]) m1 rfl iu0 (by omega) (by simp) (run_mv (.inl iu0.1) m3) fun y1 z1 f1 e1 => ?_
      refine ops_vw (o := u1) (.int .i64 (j : Int)) z1 rfl iu1 (by omega) (by simp) (run_mv (.inl iu1.1) (by simp [e1, m7])) fun y2 z2 f2 e2 => ?_
      refine ops_vw (o := u2) (.agg cv.toArray) z2 rfl iu2 (by omega) (by simp) (run_ld (b := W.heap.size) (off := 0) iu2.1 (by simp [e2, e1, m8]) (run_loadVar_agg hc.hte hc.ate hcl (fun i v hi => by
        simp only [World.cell?, hrow2]
        simpa using hi))) fun y3 z3 f3 e3 => ?_
      have hlW2 : Later g w (gj.only W.heap.size) W2 := hlW.trans hch2.later
      have hclB : Cells (gj.only W.heap.size) W2 (gj.only W.heap.size).bare W2 := ⟨fun _ _ h => h, fun _ _ _ => rfl⟩
      have hpno : noP (.A (xs.getD j [])) = true := by
        revert hxok
        unfold pktOK
        split
        · rename_i e; rw [e]; intro _; rfl
        · intro h; cases h
      have hvA : V (gj.only W.heap.size) W2 (.A (xs.getD j [])) (.agg cv.toArray) := by
        simp only [V]
        exact ⟨cv, rfl, VS.later hlW2 _ _ hcv3⟩
      obtain ⟨hcb, hcalls⟩ := hcp _ hxok (gj.only W.heap.size).bare W2 (.agg cv.toArray) rfl (fun _ => rfl) hwf2 (V.noP hclB _ _ hpno hvA)
      have hent : (execOp y3.eval u3).run P W2 = .ok (.enter fc #[.agg cv.toArray]) W2 := by
        have := hcb.run #[.agg cv.toArray] W2
        have e14 : y3.eval (.tmp 14) = .agg cv.toArray := by simp [e3]
        have ef : y3.eval (.func fc) = .func (.func fc) #[] #[] := rfl
        simpa [execOp, iu3.1, resolve, hc2.1, hc2.2, e14, ef, Deferred.ofValue, invoke] using this
      refine ops_call (o := u3) z3 rfl iu3 (by omega) (by simp) hent hcalls ?_
      rintro e W3 hpost
      cases e with
      | outgrown => exact hpost.elim
      | panicked chain => obtain ⟨_, _, _, _, e1, _⟩ := hpost; cases e1
      | returned uc =>
      obtain ⟨v', h1', g3, er, hch3, hwf3, hval3⟩ := hpost
      cases er
      refine ⟨uc, rfl, fun y4 z4 f4 e4 => ?_⟩
      have hch3' := back_chg (g1 := gj.only W.heap.size) hch3 (fun _ => none)
      have hJ3 := (hlat j _ W2 hJ2).2.2 _ W3 hch3' rfl hwf3
      have hval : V ((gj.only W.heap.size).back g3 W2.heap.size fun _ => none) W3 (.A (xs.getD j [])) uc :=
        have hcl2 : Cells g3 W3 ((gj.only W.heap.size).back g3 W2.heap.size fun _ => none) W3 := ⟨fun _ _ h => h, fun _ _ _ => rfl⟩
        V.noP hcl2 _ _ hpno hval3
      have hAY : At y4 ∧ y4.eval (.tmp 7) = .int .i64 (j : Int) ∧ y4.eval (.tmp 12) = .func (.yield l) #[] #[] ∧ y4.eval (.tmp 13) = .int .i64 (j : Int) ∧ y4.eval (.tmp 15) = uc := by
        refine ⟨⟨z4, by rw [f4, f3, f2, f1, m2], ?_, ?_, ?_⟩, ?_, ?_, ?_, ?_⟩ <;> simp [e1, e2, e3, e4, m3, m4, m5, m6, m7]
      clear e1 e2 e3 e4 f1 f2 f3 f4 z1 z2 z3 z4
      obtain ⟨⟨d1, d2, d3, d4, d5⟩, d6, d7, d8, d9⟩ := hAY
      have hjl : j < (netL xs).length := by rw [netL_length]; exact hlt
      obtain ⟨fn2, tm2, as2, bo2, hyr, hround⟩ := hy j _ [.int .i64 (j : Int), uc] _ W3 (netL_get hlt) hJ3 (by
        simp only [VT]
        refine ⟨_, _, rfl, V_I _ W3 ?_, _, _, rfl, hval, rfl⟩
        have := i64_range (n := j) (by omega)
        simpa using this)
      have hrun : (execOp y4.eval u4).run P W3 = .ok (.round l fn2 tm2 as2 bo2) W3 := by
        have e : #[y4.eval (.tmp 13), y4.eval (.tmp 15)] = [.int .i64 (j : Int), uc].toArray := by rw [d8, d9]
        simp only [execOp, iu4.1, resolve, hc3.1, hc3.2]
        simpa [d7, d8, d9, Deferred.ofValue, invoke] using hyr
      refine ops_round (o := u4) rfl iu4 (by simp) hrun hround ?_
      rintro e W' (⟨rfl, gj', hJ'⟩ | ⟨rfl, hJx⟩)
      · refine ⟨_, rfl, ?_⟩
        have e1 : ∀ t, (y4.put (some 16) (.bool true)).eval (.tmp t) = if t = 16 then .bool true else y4.eval (.tmp t) := fun t => ev_put (by omega)
        refine ops_vw (o := u5) (.bool false) (by rw [sz_put]; exact d1) rfl iu5 (by omega) (by simp) (run_not (b := true) iu5.1 (by simp [e1])) fun x2 z2 f2 e2 => ?_
        refine wpIn_cond_false (by simp [e2]) (wpIn_skip ?_)
        show Code.wpIn (FR none) 0 P (.region r4 #[s0, s1] false) _ x2 W'
        refine wpIn_region ?_
        show wpOpsIn (FR none) 0 P _ _ [0, 1] x2 W'
        have hw1 : IntKind.i64.wrap ((j : Int) + 1) = ((j + 1 : Nat) : Int) := by rw [IntKind.wrap_i64]; omega
        refine ops_vw (o := s0) (.int .i64 ((j + 1 : Nat) : Int)) z2 rfl is0 (by omega) (by simp) (by rw [← hw1]; exact run_int2 (m := (j : Int)) (n := 1) is0.1 (.inl rfl) (by simp [e2, e1, d6]) rfl) fun x4 z4 f4 e4 => ?_
        refine ops_vw (o := s1) (.int .i64 ((j + 1 : Nat) : Int)) z4 rfl is1 (by omega) (by simp) (run_mv (.inl is1.1) (by simp [e4])) fun x5 z5 f5 e5 => ?_
        refine hnext hlt x5 gj' W' ⟨z5, ?_, ?_, ?_, ?_⟩ ?_ hJ'
        · rw [f5, f4, f2]; exact d2
        · simp [e5, e4, e2, e1, d3]
        · simp [e5, e4, e2, e1, d4]
        · simp [e5, e4, e2, e1, d5]
        · simp [e5]
      · refine ⟨_, rfl, ?_⟩
        have e1 : ∀ t, (y4.put (some 16) (.bool false)).eval (.tmp t) = if t = 16 then .bool false else y4.eval (.tmp t) := fun t => ev_put (by omega)
        refine ops_vw (o := u5) (.bool true) (by rw [sz_put]; exact d1) rfl iu5 (by omega) (by simp) (run_not (b := false) iu5.1 (by simp [e1])) fun x2 z2 f2 e2 => ?_
        refine wpIn_cond_true (by simp [e2]) (wpIn_ret ?_)
        exact done x2 W' (by rw [f2]; exact d2) (.inr hJx)
    · refine wpIn_seq (wpIn_cond_false (by rw [b7]; simp; omega) (wpIn_exit ?_))
      show Exit.inBlock k0 _ (.exit k0) aB W
      simp only [Exit.inBlock, if_true]
      refine done aB W b2' (.inl ⟨gj, ?_⟩)
      have : j = (netL xs).length := by rw [netL_length] at hj ⊢; omega
      rw [← this]
      exact hJ
  have key : ∀ (m j : Nat) (a : Act) (gj : Gh) (W : World), xs.length < j + (m + 1) → j ≤ (netL xs).length → At a → a.eval (.tmp 7) = .int .i64 (j : Int) → J j gj W →
      Code.roundsIn (FR none) 0 P (.seq (.region r1 #[p0] false) (.seq (.cond (.tmp 8) .skip (.exit k0))
        (.seq (.block k1 (.seq (.region r2 #[q0, q1, q2, q3, q4, q5] false) (.seq (.region r3 #[u0, u1, u2, u3, u4, u5] false) (.cond (.tmp 17) .ret .skip)))) (.region r4 #[s0, s1] false))))
        (Exit.inBlock k0 (bodyPost P fn (fun e W' => (∃ v, e = .returned v) ∧ ((∃ g2, J (netL xs).length g2 W') ∨ Jx W')))) (m + 1) a W := by
    intro m
    induction m with
    | zero =>
      intro j a gj W hm hj hA h4 hJ
      rw [roundsIn_succ]
      refine round j a gj W _ hj hA h4 hJ fun hlt => ?_
      omega
    | succ m ih =>
      intro j a gj W hm hj hA h4 hJ
      rw [roundsIn_succ]
      refine round j a gj W _ hj hA h4 hJ fun hlt a' gj' W' hA' h4' hJ' => ih (j + 1) a' gj' W' (by omega) ?_ hA' h4' hJ'
      rw [netL_length]
      omega
  exact key xs.length 0 aL gj0 w (by omega) (Nat.zero_le _) hAL.1 hAL.2 hJ0
def netI : List AV → Option (List (List AV))
  | [.Q [.L k xs]] => if k = 3 ∧ xs.all pktOK = true then some (netL xs) else none
  | _ => none
theorem netI_ok (hf : P.funcs[f]? = some fn) (hc : NetCode P fn fc ti ts te) (hcp : CopyC P fc) (cs : List AV) (xs : List (List AV)) (h : netI cs = some xs) : Callable P f ∧ IterC P f cs xs := by
  refine ⟨⟨fn, hf, ?_, hc.np⟩, ?_⟩
  · obtain ⟨r0, r1, r2, r3, r4, k0, k1, o0, o1, o2, p0, q0, q1, q2, q3, q4, q5, u0, u1, u2, u3, u4, u5, s0, s1, t1, t2, t3, c1, c2, c3, hb, _⟩ := hc.body
    rw [hb]; rfl
  · unfold netI at h
    split at h
    · rename_i k xs'
      split at h
      · rename_i hk
        obtain ⟨rfl, hn⟩ := hk
        cases h
        exact net_iter hf hc hcp (List.all_eq_true.1 hn)
      · cases h
    · cases h
end
end Go.Vm
namespace Go.Vm
open Go
def DelC (P : Program) (f : FuncId) : Prop := Callable P f ∧ ∀ (b len cap i j : Nat) (news : List Value) (w : World), i < j → j ≤ len → len ≤ cap → cap ≤ 9223372036854775807 →
    news.length = (len - j) * 3 → (∀ u ∈ news, u.oneCell' = true) →
    (∀ t u, news[t]? = some u → w.cell? ⟨b, j * 3 + t, none⟩ = some u) → (∀ t, t < cap * 3 → (w.cell? ⟨b, t, none⟩).isSome = true) → (∀ t, t < cap * 3 → w.frozen? ⟨b, t, none⟩ = false) →
    Calls P f #[.slice (some ⟨b, 0, none⟩) len cap, .int .i64 i, .int .i64 j] w fun e w' => e = .returned (.slice (some ⟨b, 0, none⟩) (i + (len - j)) cap) ∧
      ∃ tail : List Value, tail.length = (len - (i + (len - j))) * 3 ∧ w' = (w.drew.setCells b (i * 3) news).setCells b ((i + (len - j)) * 3) tail
def semDel (te : TypeId) : FF := fun as h => match as with
  | [.W id, .I .i64 i, .I .i64 j] => match arrAt h id with
    | some (t, n, xs) => if t = te ∧ n = 3 ∧ 0 ≤ i ∧ i < j ∧ j ≤ (xs.length : Int) then .ret (.W h.length) (h.set id .no ++ [.arr te 3 (xs.take i.toNat ++ xs.drop j.toNat)]) else .stuck
    | none => .stuck
  | _ => .stuck
theorem setCells_row {w : World} {b : Nat} {t : TypeId} {fr : Nat × Nat} : ∀ (vs : List Value) (o : Nat) (w : World) (old : Array Value), w.heap[b]? = some (.cells old t fr) → w.setCells b o vs = w.setRow b (setV old.toList o vs).toArray
  | [], o, w, old, h => by
    simp only [World.setCells, setV, Array.toArray_toList]
    exact (setRow_self w b old t fr h).symm
  | v :: vs, o, w, old, h => by
    have e := setCell_eq_setRow w b o old t fr v h
    simp only [World.setCells, setV]
    rw [e]
    have h2 := setRow_heap w b old (old.setIfInBounds o v) t fr h
    rw [setCells_row (w := w) vs (o + 1) _ _ h2, setRow_setRow]
    simp
theorem flat_len {n : Nat} : ∀ (xs : List (List AV)), (∀ x ∈ xs, x.length = n) → xs.flatten.length = xs.length * n
  | [], _ => by simp
  | x :: xs, h => by
    simp only [List.flatten_cons, List.length_append, List.length_cons]
    rw [h x List.mem_cons_self, flat_len xs fun y hy => h y (List.mem_cons_of_mem _ hy), Nat.add_mul]
    omega
theorem flat_takeV {n : Nat} : ∀ (xs : List (List AV)) (i : Nat), (∀ x ∈ xs, x.length = n) → (xs.take i).flatten = xs.flatten.take (i * n)
  | [], i, _ => by simp
  | x :: xs, 0, _ => by simp
  | x :: xs, i + 1, h => by
    have hx := h x List.mem_cons_self
    simp only [List.take_succ_cons, List.flatten_cons]
    rw [flat_takeV xs i fun y hy => h y (List.mem_cons_of_mem _ hy), List.take_append, hx, List.take_of_length_le (l := x) (by rw [hx, Nat.add_mul]; omega), show (i + 1) * n - n = i * n by rw [Nat.add_mul]; omega]
theorem flat_dropV {n : Nat} : ∀ (xs : List (List AV)) (i : Nat), (∀ x ∈ xs, x.length = n) → (xs.drop i).flatten = xs.flatten.drop (i * n)
  | [], i, _ => by simp
  | x :: xs, 0, _ => by simp
  | x :: xs, i + 1, h => by
    have hx := h x List.mem_cons_self
    simp only [List.drop_succ_cons, List.flatten_cons]
    rw [flat_dropV xs i fun y hy => h y (List.mem_cons_of_mem _ hy), List.drop_append, hx, List.drop_of_length_le (l := x) (by rw [hx, Nat.add_mul]; omega), show (i + 1) * n - n = i * n by rw [Nat.add_mul]; omega, List.nil_append]
theorem sound_del {C : Cx} {f : FuncId} {te : TypeId} (hp : C.pure f = false) (hd : DelC C.P f) : Sound C f (semDel te) := by
  unfold Sound
  rw [if_neg (by simp [hp])]
  intro g w as vals h R hr hR hh hv hwf hgl how
  unfold semDel at hr
  split at hr
  case h_2 => exact absurd hr.symm hR
  rename_i id i j
  split at hr
  case h_2 => exact absurd hr.symm hR
  rename_i t n xs harr
  split at hr
  case isFalse => exact absurd hr.symm hR
  rename_i hk
  obtain ⟨rfl, rfl, hi0, hij, hjl⟩ := hk
  subst hr
  have hid : h[id]? = some (.arr t 3 xs) := by
    unfold arrAt at harr
    split at harr
    · rename_i e; cases harr; exact e
    · cases harr
  simp only [VT, V] at hv
  obtain ⟨u0, us0, rfl, ⟨hidn, hu0, _⟩, u1, us1, rfl, ⟨rfl, hb1, hb1'⟩, u2, us2, rfl, ⟨rfl, hb2, hb2'⟩, rfl⟩ := hv
  have ha := hh.arr id t 3 xs hid
  obtain ⟨b, cap, hhd, hbio⟩ := ha.head (by omega)
  obtain ⟨vals, hrow, _, hxl, hvs, hob⟩ := ha.sr
  obtain ⟨hvl, hrow'⟩ := hrow
  rcases hrow' with ⟨e1, e2⟩ | ⟨b', cap', cur, e1, _, hcur, hle, hmx, hsz, htk⟩
  · omega
  rw [hhd] at e1
  simp only [Value.slice.injEq, Option.some.injEq, Addr.mk.injEq] at e1
  obtain ⟨⟨rfl, _, _⟩, _, rfl⟩ := e1
  obtain ⟨iN, rfl⟩ : ∃ iN : Nat, i = iN := ⟨i.toNat, by omega⟩
  obtain ⟨jN, rfl⟩ : ∃ jN : Nat, j = jN := ⟨j.toNat, by omega⟩
  have hij' : iN < jN := by omega
  have hjl' : jN ≤ xs.length := by omega
  simp only [Int.toNat_natCast]
  refine ⟨hd.1, ?_⟩
  have hblk : b < w.heap.size := (Array.getElem?_eq_some_iff.1 hcur).1
  have hown : g.ow b = some (.obj id) := (hob b (by rw [hhd]; rfl)).1
  have hst : ∀ k, ¬ g.st b k := fun k x => by
    have := ((hob b (by rw [hhd]; rfl)).2 k).1 x
    simp at this
  have hcell : ∀ k, w.cell? ⟨b, k, none⟩ = cur[k]? := fun k => by simp only [World.cell?, hcur]; rfl
  have hnl : (vals.drop (jN * 3)).length = (xs.length - jN) * 3 := by rw [List.length_drop, hvl]; omega
  have hcurv : ∀ k, k < xs.length * 3 → cur[k]? = vals[k]? := fun k hk => by
    rw [← htk, List.getElem?_take, if_pos hk, Array.getElem?_toList]
  rw [hu0, hhd]
  refine (hd.2 b xs.length cap iN jN (vals.drop (jN * 3)) w hij' hjl' hle (by simp only [maxLen] at hmx; omega) hnl (fun u hu => VS_one _ _ hvs u (List.mem_of_mem_drop hu)) (fun k u hk => ?_) (fun k hk => ?_) (fun k hk => ?_)).mono ?_
  · rw [List.getElem?_drop] at hk
    have hlt := (List.getElem?_eq_some_iff.1 hk).1
    rw [hcell, hcurv _ (by omega)]
    exact hk
  · rw [hcell, Array.getElem?_eq_getElem (by omega)]
    rfl
  · simp [World.frozen?, hcur]
  rintro e w' ⟨rfl, tail, htl, hw'⟩
  obtain ⟨row, hrow⟩ : ∃ row : List Value, row = setV (setV cur.toList (iN * 3) (vals.drop (jN * 3))) ((iN + (xs.length - jN)) * 3) tail := ⟨_, rfl⟩
  have hcurd : w.drew.heap[b]? = some (.cells cur t (0, 0)) := hcur
  have hw2 : w' = w.drew.setRow b row.toArray := by
    rw [hw', setCells_row (w := w) _ _ _ _ hcurd, setCells_row (w := w) _ _ _ _ (setRow_heap _ _ _ _ _ _ hcurd), setRow_setRow, hrow]
  have hrl : row.length = cap * 3 := by rw [hrow, setV_len, setV_len]; simpa using hsz
  have hl1 : iN * 3 + (vals.drop (jN * 3)).length ≤ cur.toList.length := by rw [hnl]; simp; omega
  have hl2 : (iN + (xs.length - jN)) * 3 + tail.length ≤ (setV cur.toList (iN * 3) (vals.drop (jN * 3))).length := by rw [setV_len, htl]; simp; omega
  have hget : row.take ((iN + (xs.length - jN)) * 3) = vals.take (iN * 3) ++ vals.drop (jN * 3) := by
    apply List.ext_getElem?
    intro k
    rw [List.getElem?_take]
    by_cases hk : k < (iN + (xs.length - jN)) * 3
    · rw [if_pos hk, hrow, setV_get _ _ _ _ hl2, if_neg (by omega), setV_get _ _ _ _ hl1, hnl]
      by_cases hk2 : k < iN * 3
      · rw [if_neg (by omega), List.getElem?_append_left (by rw [List.length_take]; omega), List.getElem?_take, if_pos hk2, Array.getElem?_toList]
        exact hcurv k (by omega)
      · rw [if_pos (by omega), List.getElem?_append_right (by rw [List.length_take]; omega), List.length_take]
        congr 1
        omega
    · rw [if_neg hk, List.getElem?_eq_none]
      rw [List.length_append, List.length_take, hnl]
      omega
  obtain ⟨u', hu'⟩ : ∃ u' : Value, u' = .slice (some ⟨b, 0, none⟩) (iN + (xs.length - jN)) cap := ⟨_, rfl⟩
  rw [← hu']
  obtain ⟨g2, hg2⟩ : ∃ g2 : Gh, g2 = (g.new b u').own b (.obj g.n) := ⟨_, rfl⟩
  have hch0 := row_chg (g := g) (w := w.drew) (b := b) hcurd hst (cs := row.toArray) (by simp [hrl, hsz])
  have g2n : g2.n = g.n + 1 := by rw [hg2]; rfl
  have g2st : g2.st = g.st := by rw [hg2]; rfl
  have g2ix : ∀ k, k < g.n → g2.ix k = g.ix k := fun k hk => by rw [hg2]; exact Gh.new_ix_old hk
  have g2ow : ∀ k, k ≠ b → g2.ow k = g.ow k := fun k hk => by rw [hg2]; simp only [Gh.own]; rw [if_neg hk]; rfl
  have g2owb : g2.ow b = some (.obj g.n) := by rw [hg2]; simp [Gh.own]
  have g2io : g2.io g.n = b := by rw [hg2]; exact Gh.new_io
  have g2hdr : g2.hdr g.n = u' := by rw [hg2]; exact Gh.new_hdr
  have hch : Chg (· = b) g w g2 w' := by
    rw [hw2]
    refine ⟨⟨by omega, g2ix, fun x y hx => by rw [g2st]; exact hx, hch0.later.cell⟩, hch0.size, hch0.blk, fun k hk hn => g2ow k hn, fun k i hk hn hx => by rw [g2st] at hx; exact hx, hch0.frz, hch0.os, hch0.tape, hch0.out, hch0.shape⟩
  have hother : ∀ b', b' = b → ∀ ow : Own, ow ≠ .obj id → g.ow b' ≠ some ow := by
    intro b' e ow hne he
    rw [e, hown] at he
    exact hne (Option.some.inj he).symm
  have hhl := hh.len
  have hset : ∀ (k : Nat) (x : HO), (h.set id .no ++ [.arr t 3 (xs.take iN ++ xs.drop jN)])[k]? = some x → (k = id ∧ x = .no) ∨ (id ≠ k ∧ h[k]? = some x) ∨ (k = g.n ∧ x = .arr t 3 (xs.take iN ++ xs.drop jN)) := by
    intro k x hk
    rcases Nat.lt_or_ge k h.length with hlt | hge
    · rw [List.getElem?_append_left (by simpa using hlt), List.getElem?_set] at hk
      by_cases e : id = k
      · subst e
        rw [if_pos rfl, if_pos hlt] at hk
        exact .inl ⟨rfl, (Option.some.inj hk).symm⟩
      · rw [if_neg e] at hk
        exact .inr (.inl ⟨e, hk⟩)
    · rw [List.getElem?_append_right (by simpa using hge), List.length_set] at hk
      have h0 : k - h.length = 0 := by
        rcases Nat.eq_zero_or_pos (k - h.length) with e | e
        · exact e
        · rw [List.getElem?_eq_none (by simp; omega)] at hk
          cases hk
      rw [h0] at hk
      simp only [List.getElem?_cons_zero, Option.some.injEq] at hk
      exact .inr (.inr ⟨by omega, hk.symm⟩)
  have hsz' : w.heap.size ≤ w'.heap.size := hch.size
  refine ⟨.W h.length, _, g2, rfl, hch.mono fun b' _ e => by rw [e, hown]; simp, ⟨by rw [g2n]; simp [hhl], fun k hk => ?_, fun k cs' hk => ?_, fun k es' hk => ?_, fun k t' n' xs' hk => ?_⟩, ?_, fun b' k hx => by rw [g2st] at hx; exact Nat.lt_of_lt_of_le (hwf b' k hx) hsz'⟩
  · rw [g2n] at hk
    rcases Nat.lt_or_ge k g.n with hlt | hge
    · have := hh.lt k hlt
      unfold Gh.io at this ⊢
      rw [g2ix k hlt]
      omega
    · have e : k = g.n := by omega
      rw [e, g2io]
      omega
  · rcases hset k _ hk with ⟨_, e⟩ | ⟨e, hj⟩ | ⟨_, e⟩
    · cases e
    · have hkn : k < g.n := by rw [← hhl]; exact (List.getElem?_eq_some_iff.1 hj).1
      have : g2.io k = g.io k := congrArg Prod.fst (g2ix k hkn)
      rw [this]
      exact (hh.obj k cs' hj).chgO hch (fun b' hb' => hother b' hb' _ (by simp; exact fun e' => e e'.symm)) (fun i b' hb' => hother b' hb' _ (by simp))
    · cases e
  · rcases hset k _ hk with ⟨_, e⟩ | ⟨e, hj⟩ | ⟨_, e⟩
    · cases e
    · have hkn : k < g.n := by rw [← hhl]; exact (List.getElem?_eq_some_iff.1 hj).1
      have : g2.io k = g.io k := congrArg Prod.fst (g2ix k hkn)
      rw [this]
      exact (hh.map k es' hj).chgO hch (fun b' hb' => hother b' hb' _ (by simp; exact fun e' => e e'.symm))
    · cases e
  · rcases hset k _ hk with ⟨_, e⟩ | ⟨e, hj⟩ | ⟨e0, e⟩
    · cases e
    · have hkn : k < g.n := by rw [← hhl]; exact (List.getElem?_eq_some_iff.1 hj).1
      have h1 : g2.io k = g.io k := congrArg Prod.fst (g2ix k hkn)
      have h2 : g2.hdr k = g.hdr k := congrArg Prod.snd (g2ix k hkn)
      rw [h1, h2]
      exact (hh.arr k t' n' xs' hj).chgO hch (fun b' hb' => hother b' hb' _ (by simp; exact fun e' => e e'.symm))
    · cases e
      subst e0
      rw [g2io, g2hdr]
      have hxl' : (xs.take iN ++ xs.drop jN).length = iN + (xs.length - jN) := by simp; omega
      refine ⟨⟨vals.take (iN * 3) ++ vals.drop (jN * 3), ⟨?_, .inr ⟨b, cap, row.toArray, ?_, Nat.zero_le _, ?_, ?_, hmx, ?_, ?_⟩⟩, by omega, fun x hx => ?_, ?_, fun b' hb' => ?_⟩, fun b' hb' => ?_⟩
      · rw [List.length_append, List.length_take, hnl, hxl']; omega
      · rw [hu', hxl']
      · rw [hw2]; exact setRow_heap _ _ _ _ _ _ hcurd
      · rw [hxl']; omega
      · simp [hrl]
      · rw [hxl']; exact hget
      · rcases List.mem_append.1 hx with hx | hx
        · exact hxl x (List.mem_of_mem_take hx)
        · exact hxl x (List.mem_of_mem_drop hx)
      · rw [List.flatten_append, flat_takeV xs iN hxl, flat_dropV xs jN hxl]
        have hvs' := VS.later hch.later _ _ hvs
        exact VS_app _ _ _ _ (VS_take _ _ _ hvs') (VS_drop _ _ _ hvs')
      · rw [hu'] at hb'
        cases hb'
        exact ⟨g2owb, fun k => ⟨fun x => by rw [g2st] at x; exact absurd x (hst k), fun x => by simp at x⟩⟩
      · rw [hu'] at hb'
        cases hb'
        rfl
  · simp only [V]
    rw [hhl, g2hdr, g2n]
    exact ⟨by omega, rfl, by rw [hu']; rfl⟩
end Go.Vm
namespace Go.Vm
open Go
section
variable {H : Type}
mutual
def dOK : DataW H → Bool
  | .lit (.string bs) => decide (bs.length ≤ 140737488355328)
  | .lit _ => true
  | .nil => true
  | .ptr d => dOK d
  | .slice e _ => dOKs e
  | .agg p => dOKs p
  | .iface _ d => dOK d
  | .map _ => true
  | .held _ => true
def dOKs : List (DataW H) → Bool
  | [] => true
  | d :: r => dOK d && dOKs r
end
def byteD : DataW H → UInt8
  | .lit (.int _ n) => UInt8.ofNat n.toNat
  | _ => 0
def avD (P : Program) : Nat → TypeId → DataW H → List AV
  | 0, _, _ => []
  | d + 1, t, x => match und P t, x with
    | .bool, .lit (.bool b) => [.B b]
    | .int _, .lit (.int k n) => [.I k n]
    | .string, .lit (.string bs) => [.S bs]
    | .slice e, .nil => [if byteT P e then .Y [] else .L (szT P e) []]
    | .slice e, .slice els _ => [if byteT P e then .Y (els.map byteD) else .L (szT P e) (els.map (avD P d e))]
    | .struct fs, .agg parts => (fs.toList.zip parts).flatMap fun p => avD P d p.1.type p.2
    | .array _ e, .agg parts => parts.flatMap (avD P d e)
    | _, _ => []
end
def dataT (P : Program) : Nat → TypeId → Bool
  | 0, _ => false
  | d + 1, t => match und P t with
    | .bool | .int _ | .string => Nat.beq (szT P t) 1
    | .slice e => Nat.beq (szT P t) 1 && Nat.blt 0 (szT P e) && dataT P d e
    | .struct fs => tiles P 0 fs.toList (szT P t) && fs.toList.all fun f => dataT P d f.type
    | .array n e => Nat.beq (szT P t) (n * szT P e) && dataT P d e
    | _ => false
theorem dOKs_mem {H : Type} : ∀ {l : List (DataW H)} {d : DataW H}, dOKs l = true → d ∈ l → dOK d = true
  | x :: r, d, h, hm => by
    simp only [dOKs, Bool.and_eq_true] at h
    rcases List.mem_cons.1 hm with rfl | hm
    · exact h.1
    · exact dOKs_mem h.2 hm
theorem noPs_app : ∀ (a b : List AV), noPs a = true → noPs b = true → noPs (a ++ b) = true
  | [], b, _, h => h
  | x :: a, b, h, h' => by
    simp only [List.cons_append, noPs, Bool.and_eq_true] at h ⊢
    exact ⟨h.1, noPs_app a b h.2 h'⟩
section
variable {H : Type} {enc : TypeId × Value → H} {P : Program} {w : World} {base : Nat} {sp : Nat → Bool} {held : Bool} {g : Gh}
theorem wf_range {k : IntKind} {n : Int} (h : (Lit.int k n).wf = true) : k.min ≤ n ∧ n ≤ k.max := by
  simpa [Lit.wf] using h
theorem addr_block (a : Addr) (n : Nat) : (a.add n).block = a.block := by unfold Addr.add; split <;> rfl
theorem addr_off (a : Addr) (n : Nat) : (a.add n).off = a.off + n := by
  unfold Addr.add
  split
  · rename_i h; rw [h]; rfl
  · rfl
theorem spot_none {a : Addr} {v : Value} (h : w.cell? a = some v) : a = ⟨a.block, a.off, none⟩ := by
  obtain ⟨b, o, s⟩ := a
  cases s with
  | none => rfl
  | some s =>
    simp only [World.cell?] at h
    split at h
    · simp at h
    · cases h
theorem VC_of_VS {b : Nat} : ∀ (as : List AV) (vs : List Value) (o : Nat), VS g w as vs → (∀ j v, vs[j]? = some v → g.st b (o + j) ∧ w.cell? ⟨b, o + j, none⟩ = some v) → VC g w b o as
  | [], vs, o, _, _ => by simp [VC]
  | a :: as, vs, o, h, hc => by
    simp only [VS] at h
    obtain ⟨u, us, rfl, h1, h2, h3⟩ := h
    have h0 := hc 0 u rfl
    simp only [VC]
    refine ⟨by simpa using h0.1, ⟨u, by simpa using h0.2, h1, h2⟩, VC_of_VS as us (o + 1) h3 fun j v hv => ?_⟩
    have := hc (j + 1) v hv
    rw [show o + (j + 1) = o + 1 + j by omega] at this
    exact this
def Is (P : Program) (g : Gh) (w : World) (dep : Nat) (t : TypeId) (d : DataW H) (cs : List Value) : Prop :=
  VS g w (avD P dep t d) cs ∧ (avD P dep t d).length = szT P t ∧ noPs (avD P dep t d) = true
theorem VR_el {n b : Nat} : ∀ (l : List (List AV)) (o : Nat), (∀ i x, l[i]? = some x → x.length = n ∧ VC g w b (o + i * n) x) → VR g w n b o l
  | [], o, _ => by simp [VR]
  | x :: l, o, h => by
    have h0 := h 0 x rfl
    simp only [VR]
    refine ⟨h0.1, by simpa using h0.2, VR_el l (o + n) fun i y hy => ?_⟩
    have := h (i + 1) y (by simpa using hy)
    rw [show o + (i + 1) * n = o + n + i * n by rw [Nat.succ_mul]; omega] at this
    exact this
theorem fields_is {dep n : Nat} {cs : List Value} (hn : cs.length = n) : ∀ (fl : List Field) (ys : List (DataW H)) (off : Nat), tiles P off fl n = true → ys.length = fl.length →
    (∀ (i : Nat) (f : Field), fl[i]? = some f → ∃ y, ys[i]? = some y ∧ Is P g w dep f.type y ((cs.drop f.offset).take (szT P f.type))) →
    VS g w ((fl.zip ys).flatMap fun p => avD P dep p.1.type p.2) (cs.drop off) ∧ off + ((fl.zip ys).flatMap fun p => avD P dep p.1.type p.2).length = n ∧ noPs ((fl.zip ys).flatMap fun p => avD P dep p.1.type p.2) = true
  | [], ys, off, ht, hl, _ => by
    have := Nat.eq_of_beq_eq_true ht
    subst this
    refine ⟨?_, by simp, rfl⟩
    rw [List.drop_of_length_le (by omega)]
    simp [VS]
  | f :: fl, [], off, ht, hl, _ => by simp at hl
  | f :: fl, y :: ys, off, ht, hl, h => by
    simp only [tiles, Bool.and_eq_true] at ht
    have ho := Nat.eq_of_beq_eq_true ht.1
    obtain ⟨y', hy, h1, h2, h3⟩ := h 0 f rfl
    simp at hy
    subst hy
    obtain ⟨k1, k2, k3⟩ := fields_is hn fl ys (off + szT P f.type) ht.2 (by simpa using hl) fun i f' hf => by simpa using h (i + 1) f' (by simpa using hf)
    rw [ho] at h1
    simp only [List.zip_cons_cons, List.flatMap_cons]
    refine ⟨?_, by rw [List.length_append, h2]; omega, noPs_app _ _ h3 k3⟩
    have := VS_app _ _ _ _ h1 k1
    rwa [← List.drop_drop, List.take_append_drop] at this
theorem array_is {dep : Nat} {e : TypeId} {cs : List Value} : ∀ (ys : List (DataW H)) (k : Nat), cs.length = (k + ys.length) * szT P e → (∀ i y, ys[i]? = some y → Is P g w dep e y ((cs.drop ((k + i) * szT P e)).take (szT P e))) →
    VS g w (ys.flatMap (avD P dep e)) (cs.drop (k * szT P e)) ∧ (ys.flatMap (avD P dep e)).length = ys.length * szT P e ∧ noPs (ys.flatMap (avD P dep e)) = true
  | [], k, hl, _ => by
    refine ⟨?_, by simp, rfl⟩
    rw [List.drop_of_length_le (by simp at hl; omega)]
    simp [VS]
  | y :: ys, k, hl, h => by
    obtain ⟨h1, h2, h3⟩ := h 0 y rfl
    obtain ⟨k1, k2, k3⟩ := array_is ys (k + 1) (by rw [hl]; congr 1; simp; omega) fun i y' hy => by
      have := h (i + 1) y' (by simpa using hy)
      rwa [show k + (i + 1) = k + 1 + i by omega] at this
    simp only [List.flatMap_cons]
    refine ⟨?_, by rw [List.length_append, h2, k2, List.length_cons, Nat.succ_mul]; omega, noPs_app _ _ h3 k3⟩
    have := VS_app _ _ _ _ h1 k1
    rw [Nat.add_zero, show (k + 1) * szT P e = k * szT P e + szT P e by rw [Nat.succ_mul], ← List.drop_drop, List.take_append_drop] at this
    exact this
theorem trod_is (hst : ∀ b o, (w.cell? ⟨b, o, none⟩).isSome = true → g.st b o) : ∀ (dep fuel : Nat) (t : TypeId) (cs : List Value) (x : DataW H × List MemPlace), DataW.trod enc P w base sp held fuel t cs = some x → dataT P dep t = true → dOK x.1 = true → Is P g w dep t x.1 cs
  | 0, _, _, _, _, _, h, _ => by simp [dataT] at h
  | dep + 1, fuel, t, cs, x, h, ht, hd => by
    unfold dataT at ht
    unfold Is avD
    split at ht
    ·
      rename_i hu
      have hu' := und_some hu (by simp)
      obtain ⟨b, rfl, rfl⟩ := DataW.trod_bool hu' h
      simp only [hu]
      refine ⟨⟨_, _, rfl, V_B g w b, rfl, rfl⟩, by simpa using (Nat.eq_of_beq_eq_true ht).symm, by simp [noPs, noP]⟩
    · rename_i k hu
      have hu' := und_some hu (by simp)
      obtain ⟨z, rfl, rfl, hw⟩ := DataW.trod_int hu' h
      simp only [hu]
      have := wf_range hw
      refine ⟨⟨_, _, rfl, V_I g w this, rfl, rfl⟩, by simpa using (Nat.eq_of_beq_eq_true ht).symm, by simp [noPs, noP]⟩
    · rename_i hu
      have hu' := und_some hu (by simp)
      obtain ⟨bs, rfl, rfl, hl⟩ := DataW.trod_string hu' h
      simp only [hu]
      have hlen : bs.data.toList.length ≤ 140737488355328 := by simpa [dOK] using hd
      refine ⟨⟨_, _, rfl, ?_, rfl, rfl⟩, by simpa using (Nat.eq_of_beq_eq_true ht).symm, by simp [noPs, noP]⟩
      have := V_S g w hlen
      simpa using this
    ·
      rename_i e hu
      have hu' := und_some hu (by simp)
      simp only [Bool.and_eq_true] at ht
      have hz : 0 < szT P e := by simpa using ht.1.2
      have h1 := Nat.eq_of_beq_eq_true ht.1.1
      rcases DataW.trod_slice hu' h with ⟨rfl, rfl⟩ | ⟨a, len, cap, elems, rest, m, _, rfl, rfl, hb, hlc, hm, hlen, hel, _, _⟩
      · simp only [hu]
        split
        · refine ⟨⟨_, _, rfl, ?_, rfl, rfl⟩, by simpa using h1.symm, by simp [noPs, noP]⟩
          simp only [V]
          exact ⟨none, 0, 0, rfl, rfl, ⟨Nat.le_refl _, by omega⟩, .inl trivial⟩
        · refine ⟨⟨_, _, rfl, ?_, rfl, rfl⟩, by simpa using h1.symm, by simp [noPs, noP, noPss]⟩
          simp only [V]
          exact ⟨none, 0, 0, rfl, rfl, ⟨Nat.le_refl _, by omega⟩, .inl trivial⟩
      · simp only [hu]
        have hd' : dOKs (elems.map (·.1)) = true := by simpa [dOK] using hd
        have hmax : maxLen = 9223372036854775807 := by decide
        have each : ∀ i y, elems[i]? = some y → ∃ cs', w.cells? base (a.add (i * szT P e)) (szT P e) = some cs' ∧ DataW.trod enc P w base sp held m e cs' = some y := by
          intro i y hy
          have hi : i < len := by rw [← hlen]; exact (List.getElem?_eq_some_iff.1 hy).1
          have := hel i hi
          rw [hy] at this
          exact Option.bind_eq_some_iff.1 this
        have eachI : ∀ i y, elems[i]? = some y → ∃ cs', Is P g w dep e y.1 cs' ∧ cs'.length = szT P e ∧ (∀ j v, cs'[j]? = some v → g.st a.block (a.off + i * szT P e + j) ∧ w.cell? ⟨a.block, a.off + i * szT P e + j, none⟩ = some v) := by
          intro i y hy
          obtain ⟨cs', hcs, hy'⟩ := each i y hy
          obtain ⟨_, hcl, hcell⟩ := World.cells?_some hcs
          refine ⟨cs', trod_is hst dep m e cs' y hy' ht.2 (dOKs_mem hd' (List.mem_map.2 ⟨y, List.mem_of_getElem? hy, rfl⟩)), hcl, fun j v hv => ?_⟩
          have hj : j < szT P e := by rw [← hcl]; exact (List.getElem?_eq_some_iff.1 hv).1
          have hc := hcell j hj
          rw [hv] at hc
          have hsp := spot_none hc
          have hb' : ((a.add (i * szT P e)).add j).block = a.block ∧ ((a.add (i * szT P e)).add j).off = a.off + i * szT P e + j := by
            rw [addr_block, addr_block, addr_off, addr_off]
            exact ⟨rfl, rfl⟩
          rw [hb'.1, hb'.2] at hsp
          rw [hsp] at hc
          exact ⟨hst _ _ (by rw [hc]; rfl), hc⟩
        have hpt : ∀ y0, elems[0]? = some y0 → a = ⟨a.block, a.off, none⟩ := by
          intro y0 hy0
          obtain ⟨cs', hcs, _⟩ := each 0 y0 hy0
          obtain ⟨_, hcl, hcell⟩ := World.cells?_some hcs
          have := hcell 0 hz
          rw [Nat.zero_mul, show (a.add 0).add 0 = a by simp [Addr.add]] at this
          have h0 : 0 < cs'.length := by omega
          rw [List.getElem?_eq_getElem h0] at this
          exact spot_none this
        split
        · rename_i hby
          have hz1 := byteT_sz hby
          have hue := und_some (byteT_und hby) (by simp)
          refine ⟨⟨_, _, rfl, ?_, rfl, rfl⟩, by simpa using h1.symm, by simp [noPs, noP]⟩
          simp only [V]
          refine ⟨some a, len, cap, rfl, by simp [hlen], ⟨hlc, by omega⟩, ?_⟩
          cases helems : elems with
          | nil => exact .inl rfl
          | cons y0 l =>
            right
            rw [← helems]
            refine ⟨a.block, a.off, by rw [← hpt y0 (by rw [helems]; rfl)], VY_of _ _ fun j x hx => ?_⟩
            rw [List.getElem?_map, List.getElem?_map, Option.map_map, Option.map_eq_some_iff] at hx
            obtain ⟨y, hy, rfl⟩ := hx
            obtain ⟨cs', hcs, hy'⟩ := each j y hy
            obtain ⟨cs2, _, _, hc2⟩ := eachI j y hy
            obtain ⟨z, rfl, rfl, hw⟩ := DataW.trod_int hue hy'
            obtain ⟨_, hcl, hcell⟩ := World.cells?_some hcs
            have hr := wf_range hw
            have hb2 : ((a.add (j * szT P e)).add 0) = ⟨a.block, a.off + j, none⟩ := by
              have hc := hcell 0 (by omega)
              have hsp := spot_none (v := .int .u8 z) (by rw [hc]; rfl)
              rw [hsp]
              have : ((a.add (j * szT P e)).add 0).block = a.block ∧ ((a.add (j * szT P e)).add 0).off = a.off + j := by
                rw [hz1, Nat.mul_one]
                rw [addr_block, addr_block, addr_off, addr_off]
                exact ⟨rfl, rfl⟩
              rw [this.1, this.2]
            have hc := hcell 0 (by omega)
            rw [hb2] at hc
            have hc : w.cell? ⟨a.block, a.off + j, none⟩ = some (.int .u8 z) := hc
            refine ⟨?_, hst _ _ (by rw [hc]; rfl)⟩
            rw [hc]
            have e1 : IntKind.u8.min = 0 := by decide
            have e2 : IntKind.u8.max = 255 := by decide
            rw [e1, e2] at hr
            show some (Value.int .u8 z) = some (.int .u8 (UInt8.ofNat z.toNat).toNat)
            congr 2
            simp
            omega
        · refine ⟨⟨_, _, rfl, ?_, rfl, rfl⟩, by simpa using h1.symm, ?_⟩
          · simp only [V]
            refine ⟨some a, len, cap, rfl, by simp [hlen], ⟨hlc, by omega⟩, ?_⟩
            cases helems : elems with
            | nil => exact .inl rfl
            | cons y0 l =>
              right
              rw [← helems]
              refine ⟨a.block, a.off, by rw [← hpt y0 (by rw [helems]; rfl)], VR_el _ _ fun i x hx => ?_⟩
              rw [List.getElem?_map, List.getElem?_map, Option.map_map, Option.map_eq_some_iff] at hx
              obtain ⟨y, hy, rfl⟩ := hx
              obtain ⟨cs', ⟨k1, k2, _⟩, k4, k5⟩ := eachI i y hy
              exact ⟨k2, VC_of_VS _ _ _ k1 k5⟩
          · simp only [noPs, noP, Bool.and_true]
            have : ∀ (l : List (DataW H × List MemPlace)), (∀ y ∈ l, noPs (avD P dep e y.1) = true) → noPss ((l.map (·.1)).map (avD P dep e)) = true := by
              intro l
              induction l with
              | nil => intro _; rfl
              | cons y l ih =>
                intro hall
                simp only [List.map_cons, noPss, Bool.and_eq_true]
                exact ⟨hall y List.mem_cons_self, ih fun z hz => hall z (List.mem_cons_of_mem _ hz)⟩
            refine this elems fun y hy => ?_
            obtain ⟨i, hi⟩ := List.getElem?_of_mem hy
            obtain ⟨cs', ⟨_, _, k3⟩, _⟩ := eachI i y hi
            exact k3
    ·
      rename_i fs hu
      have hu' := und_some hu (by simp)
      simp only [Bool.and_eq_true] at ht
      obtain ⟨xs, m, _, rfl, hcl, hxl, hf⟩ := DataW.trod_struct hu' h
      simp only [hu]
      have hd' : dOKs (xs.map (·.1)) = true := by simpa [dOK] using hd
      have := fields_is (P := P) (g := g) (w := w) (dep := dep) (cs := cs) hcl fs.toList (xs.map (·.1)) 0 ht.1 (by simp [hxl]) fun i f hfi => by
        have h2 := hf i f (by rw [← Array.getElem?_toList]; exact hfi)
        have hlt : i < xs.length := by rw [hxl, ← Array.length_toList]; exact (List.getElem?_eq_some_iff.1 hfi).1
        rw [List.getElem?_eq_getElem hlt] at h2
        refine ⟨xs[i].1, by simp [hlt], trod_is hst dep m f.type _ xs[i] h2 (List.all_eq_true.1 ht.2 f (List.mem_of_getElem? hfi)) (dOKs_mem hd' (List.mem_map.2 ⟨xs[i], List.getElem_mem hlt, rfl⟩))⟩
      rw [List.drop_zero, Nat.zero_add] at this
      exact this
    ·
      rename_i n e hu
      have hu' := und_some hu (by simp)
      simp only [Bool.and_eq_true] at ht
      have hsz := Nat.eq_of_beq_eq_true ht.1
      obtain ⟨xs, m, _, rfl, hcl, hxl, hf⟩ := DataW.trod_array hu' h
      have hcl : cs.length = szT P t := hcl
      simp only [hu]
      have hd' : dOKs (xs.map (·.1)) = true := by simpa [dOK] using hd
      have := array_is (P := P) (g := g) (w := w) (dep := dep) (e := e) (cs := cs) (xs.map (·.1)) 0 (by rw [hcl, hsz]; simp [hxl]) fun i y hy => by
        rw [List.getElem?_map, Option.map_eq_some_iff] at hy
        obtain ⟨x, hx, rfl⟩ := hy
        have hlt : i < n := by rw [← hxl]; exact (List.getElem?_eq_some_iff.1 hx).1
        have h2 := hf i hlt
        rw [hx] at h2
        rw [Nat.zero_add]
        exact trod_is hst dep m e _ x h2 ht.2 (dOKs_mem hd' (List.mem_map.2 ⟨x, List.mem_of_getElem? hx, rfl⟩))
      rw [Nat.zero_mul, List.drop_zero] at this
      rw [hsz]
      refine ⟨this.1, ?_, this.2.2⟩
      rw [this.2.1]
      simp [hxl]
    · cases ht
end
end Go.Vm
namespace Go.Vm
open Go
section
variable {H : Type} {enc : TypeId × Value → H} {P : Program} {w : World} {base : Nat} {sp : Nat → Bool} {held : Bool}
theorem dOKs_of : ∀ {l : List (DataW H)}, (∀ d ∈ l, dOK d = true) → dOKs l = true
  | [], _ => rfl
  | d :: l, h => by
    simp only [dOKs, Bool.and_eq_true]
    exact ⟨h d List.mem_cons_self, dOKs_of fun x hx => h x (List.mem_cons_of_mem _ hx)⟩
def light (l : List Nat) : Prop := l.all (fun x => decide (x ≤ reachBytes)) = true
theorem light_app {a b : List Nat} (h : light (a ++ b)) : light a ∧ light b := by
  simpa [light, List.all_append, Bool.and_eq_true] using h
theorem light_all {e : TypeId} : ∀ {l : List (DataW H)}, light (DataW.weightsAll P e l) → ∀ d ∈ l, light (d.weights P e)
  | x :: l, h, d, hd => by
    simp only [DataW.weightsAll] at h
    obtain ⟨h1, h2⟩ := light_app h
    rcases List.mem_cons.1 hd with rfl | hd
    · exact h1
    · exact light_all h2 d hd
theorem light_each : ∀ {ts : List TypeId} {l : List (DataW H)}, light (DataW.weightsEach P ts l) → ∀ (i : Nat) t d, ts[i]? = some t → l[i]? = some d → light (d.weights P t)
  | t :: ts, x :: l, h, 0, t', d, ht, hd => by
    simp only [DataW.weightsEach] at h
    simp at ht hd
    subst ht; subst hd
    exact (light_app h).1
  | t :: ts, x :: l, h, i + 1, t', d, ht, hd => by
    simp only [DataW.weightsEach] at h
    exact light_each (light_app h).2 i t' d (by simpa using ht) (by simpa using hd)
  | [], _, _, _, _, _, ht, _ => by simp at ht
  | _ :: _, [], _, _, _, _, _, hd => by simp at hd
theorem trod_ok : ∀ (dep fuel : Nat) (t : TypeId) (cs : List Value) (x : DataW H × List MemPlace), DataW.trod enc P w base sp held fuel t cs = some x → dataT P dep t = true → light (x.1.weights P t) → dOK x.1 = true
  | 0, _, _, _, _, _, h, _ => by simp [dataT] at h
  | dep + 1, fuel, t, cs, x, h, ht, hl => by
    unfold dataT at ht
    split at ht
    · rename_i hu
      obtain ⟨b, rfl, rfl⟩ := DataW.trod_bool (und_some hu (by simp)) h
      rfl
    · rename_i k hu
      obtain ⟨z, rfl, rfl, hw⟩ := DataW.trod_int (und_some hu (by simp)) h
      rfl
    · rename_i hu
      obtain ⟨bs, rfl, rfl, _⟩ := DataW.trod_string (und_some hu (by simp)) h
      simp only [DataW.weights, light, List.all_cons, List.all_nil, Bool.and_true, decide_eq_true_eq] at hl
      simp only [dOK, decide_eq_true_eq]
      unfold reachBytes at hl
      omega
    · rename_i e hu
      have hu' := und_some hu (by simp)
      simp only [Bool.and_eq_true] at ht
      rcases DataW.trod_slice hu' h with ⟨rfl, rfl⟩ | ⟨a, len, cap, elems, rest, m, _, rfl, rfl, hb, hlc, hm, hlen, hel, _, _⟩
      · rfl
      · simp only [DataW.weights, hu'] at hl
        have hl2 : light (DataW.weightsAll P e (elems.map (·.1))) := by
          have : light ([_] ++ (_ ++ _)) := hl
          exact (light_app (light_app this).2).1
        simp only [dOK]
        refine dOKs_of fun d hd => ?_
        obtain ⟨y, hy, rfl⟩ := List.mem_map.1 hd
        obtain ⟨i, hi⟩ := List.getElem?_of_mem hy
        have hil : i < len := by rw [← hlen]; exact (List.getElem?_eq_some_iff.1 hi).1
        have := hel i hil
        rw [hi] at this
        obtain ⟨cs', _, h2⟩ := Option.bind_eq_some_iff.1 this
        exact trod_ok dep m e cs' y h2 ht.2 (light_all hl2 _ hd)
    · rename_i fs hu
      have hu' := und_some hu (by simp)
      simp only [Bool.and_eq_true] at ht
      obtain ⟨xs, m, _, rfl, hcl, hxl, hf⟩ := DataW.trod_struct hu' h
      simp only [DataW.weights, hu'] at hl
      simp only [dOK]
      refine dOKs_of fun d hd => ?_
      obtain ⟨y, hy, rfl⟩ := List.mem_map.1 hd
      obtain ⟨i, hi⟩ := List.getElem?_of_mem hy
      have hil : i < fs.size := by rw [← hxl]; exact (List.getElem?_eq_some_iff.1 hi).1
      have hfi : fs[i]? = some fs[i] := Array.getElem?_eq_getElem hil
      have h2 := hf i fs[i] hfi
      rw [hi] at h2
      refine trod_ok dep m fs[i].type _ y h2 (List.all_eq_true.1 ht.2 _ (by simp)) (light_each hl i _ _ ?_ (by simp [hi]))
      rw [List.getElem?_map, Array.getElem?_toList, hfi]
      rfl
    · rename_i n e hu
      have hu' := und_some hu (by simp)
      simp only [Bool.and_eq_true] at ht
      obtain ⟨xs, m, _, rfl, hcl, hxl, hf⟩ := DataW.trod_array hu' h
      simp only [DataW.weights, hu'] at hl
      simp only [dOK]
      refine dOKs_of fun d hd => ?_
      obtain ⟨y, hy, rfl⟩ := List.mem_map.1 hd
      obtain ⟨i, hi⟩ := List.getElem?_of_mem hy
      have hil : i < n := by rw [← hxl]; exact (List.getElem?_eq_some_iff.1 hi).1
      have h2 := hf i hil
      rw [hi] at h2
      exact trod_ok dep m e _ y h2 ht.2 (light_all hl _ hd)
    · cases ht
theorem args_ok : ∀ (ts : List TypeId) (vs : List Value) (ds : List (DataW H)) (ps : List MemPlace), DataW.TrodAll enc P w base sp held ts vs ds ps → (ts.all fun t => dataT P 20 t) = true → light (DataW.weightsEach P ts ds) → dOKs ds = true
  | [], [], [], ps, h, _, _ => rfl
  | [], [], _ :: _, ps, h, _, _ => by simp [DataW.TrodAll] at h
  | [], _ :: _, _, ps, h, _, _ => by simp [DataW.TrodAll] at h
  | t :: ts, [], _, ps, h, _, _ => by simp [DataW.TrodAll] at h
  | t :: ts, v :: vs, [], ps, h, _, _ => by simp [DataW.TrodAll] at h
  | t :: ts, v :: vs, d :: ds, ps, h, ht, hl => by
    simp only [DataW.TrodAll] at h
    obtain ⟨p, q, ⟨fuel, h1⟩, h2, rfl⟩ := h
    simp only [List.all_cons, Bool.and_eq_true] at ht
    simp only [DataW.weightsEach] at hl
    obtain ⟨l1, l2⟩ := light_app hl
    simp only [dOKs, Bool.and_eq_true]
    exact ⟨trod_ok 20 fuel t _ _ h1 ht.1 l1, args_ok ts vs ds q h2 ht.2 l2⟩
end
def gin (W : World) : Gh := { n := 0, ix := fun _ => (0, undef), st := fun b i => (W.cell? ⟨b, i, none⟩).isSome = true, ow := fun _ => none, df := [] }
theorem gin_wf (W : World) : Wf (gin W) W := by
  intro b i h
  have h : (W.cell? ⟨b, i, none⟩).isSome = true := h
  rcases Nat.lt_or_ge b W.heap.size with hlt | hge
  · exact hlt
  · simp [World.cell?, Array.getElem?_eq_none hge] at h
def argAV {H : Type} (P : Program) (t : TypeId) (d : DataW H) : AV := if aggT P t = true then .A (avD P 20 t d) else (avD P 20 t d).headD .U
def argsOf {H : Type} (P : Program) : List TypeId → List (DataW H) → List AV
  | t :: ts, d :: ds => argAV P t d :: argsOf P ts ds
  | _, _ => []
section
variable {H : Type} {enc : TypeId × Value → H} {P : Program} {W : World}
theorem cells_one {r : Reach} {base : Nat} {t : TypeId} {v : Value} (ht : dataT P 20 t = true) (ha : aggT P t = false) (hv : Value.okWide P W r base t v) : v.cells = #[v] := by
  unfold dataT at ht
  cases v with
  | agg cs =>
    exfalso
    split at ht
    · rename_i hu; simp [Value.okWide, und_some hu (by simp), Cell.okWide, Cell.ok] at hv
    · rename_i hu; simp [Value.okWide, und_some hu (by simp), Cell.okWide, Cell.ok] at hv
    · rename_i hu; simp [Value.okWide, und_some hu (by simp), Cell.okWide, Cell.ok] at hv
    · rename_i hu; simp [Value.okWide, und_some hu (by simp), Cell.okWide, Cell.ok] at hv
    · rename_i hu; simp [aggT, hu] at ha
    · rename_i hu; simp [aggT, hu] at ha
    · cases ht
  | _ => rfl
theorem cells_agg {r : Reach} {base : Nat} {t : TypeId} {v : Value} (ha : aggT P t = true) (hv : Value.okWide P W r base t v) : ∃ cs, v = .agg cs := by
  unfold aggT at ha
  split at ha
  · rename_i fs hu
    simp only [Value.okWide, und_some hu (by simp)] at hv
    obtain ⟨cs, h, _⟩ := hv
    exact ⟨cs, h⟩
  · rename_i n e hu
    simp only [Value.okWide, und_some hu (by simp)] at hv
    obtain ⟨cs, h, _⟩ := hv
    exact ⟨cs, h⟩
  · cases ha
theorem args_VT {base : Nat} : ∀ (ts : List TypeId) (vs : List Value) (ds : List (DataW H)) (ps : List MemPlace), DataW.TrodAll enc P W 0 (fun _ => true) true ts vs ds ps → (ts.all fun t => dataT P 20 t) = true → dOKs ds = true →
    (∀ (j : Nat) t v, ts[j]? = some t → vs[j]? = some v → Value.okWide P W .any base t v) → VT (gin W) W (argsOf P ts ds) vs ∧ noPs (argsOf P ts ds) = true ∧ ds.length = ts.length
  | [], [], [], ps, h, _, _, _ => ⟨by simp [argsOf, VT], rfl, rfl⟩
  | [], [], _ :: _, ps, h, _, _, _ => by simp [DataW.TrodAll] at h
  | [], _ :: _, _, ps, h, _, _, _ => by simp [DataW.TrodAll] at h
  | t :: ts, [], _, ps, h, _, _, _ => by simp [DataW.TrodAll] at h
  | t :: ts, v :: vs, [], ps, h, _, _, _ => by simp [DataW.TrodAll] at h
  | t :: ts, v :: vs, d :: ds, ps, h, ht, hd, hv => by
    simp only [DataW.TrodAll] at h
    obtain ⟨p, q, ⟨fuel, h1⟩, h2, rfl⟩ := h
    simp only [List.all_cons, Bool.and_eq_true] at ht
    simp only [dOKs, Bool.and_eq_true] at hd
    obtain ⟨k1, k2, k3⟩ := args_VT ts vs ds q h2 ht.2 hd.2 fun j t' v' a b => hv (j + 1) t' v' (by simpa using a) (by simpa using b)
    obtain ⟨i1, i2, i3⟩ := trod_is (g := gin W) (fun b o h => h) 20 fuel t _ _ h1 ht.1 hd.1
    have hok := hv 0 t v rfl rfl
    simp only [argsOf, VT, noPs, Bool.and_eq_true, List.length_cons, k3]
    unfold argAV
    cases ha : aggT P t with
    | true =>
      obtain ⟨cs, rfl⟩ := cells_agg ha hok
      simp only [if_true]
      refine ⟨⟨_, _, rfl, ?_, k1⟩, ⟨?_, k2⟩, trivial⟩
      · simp only [V]
        exact ⟨cs.toList, by simp, i1⟩
      · simpa [noP] using i3
    | false =>
      have hc := cells_one ht.1 ha hok
      rw [hc] at i1
      simp only [Bool.false_eq_true, if_false]
      cases hav : avD P 20 t d with
      | nil =>
        simp only at i1
        rw [hav] at i1
        simp [VS] at i1
      | cons a as =>
        simp only at i1 i3
        rw [hav] at i1 i3
        simp only [VS] at i1
        obtain ⟨u, us, e, hva, _, _⟩ := i1
        simp only [List.cons.injEq] at e
        obtain ⟨rfl, _⟩ := e
        simp only [noPs, Bool.and_eq_true] at i3
        exact ⟨⟨_, _, rfl, hva, k1⟩, ⟨i3.1, k2⟩, trivial⟩
theorem all_stay {W' : World} (K : Kids P (· < P.types.size)) (hsz : ∀ {t e : TypeId}, t < P.types.size → P.underlying t = some (.slice e) → 0 < P.cellsOf e) (hsame : ∀ b, b < W.heap.size → W'.heap[b]? = W.heap[b]?) {sp : Nat → Bool} :
    ∀ (ts : List TypeId) (vs : List Value) (ds : List (DataW H)) (ps : List MemPlace), (∀ t ∈ ts, t < P.types.size) → DataW.TrodAll enc P W 0 (fun _ => true) true ts vs ds ps → (∀ p ∈ ps, p.block < W.heap.size) → (∀ p ∈ ps, sp p.block = true) → DataW.TrodAll enc P W' 0 sp true ts vs ds ps
  | [], [], [], ps, _, h, _, _ => by simpa [DataW.TrodAll] using h
  | [], [], _ :: _, ps, _, h, _, _ => by simp [DataW.TrodAll] at h
  | [], _ :: _, _, ps, _, h, _, _ => by simp [DataW.TrodAll] at h
  | t :: ts, [], _, ps, _, h, _, _ => by simp [DataW.TrodAll] at h
  | t :: ts, v :: vs, [], ps, _, h, _, _ => by simp [DataW.TrodAll] at h
  | t :: ts, v :: vs, d :: ds, ps, hts, h, hlt, hsp => by
    simp only [DataW.TrodAll] at h ⊢
    obtain ⟨p, q, ⟨fuel, h1⟩, h2, rfl⟩ := h
    refine ⟨p, q, ⟨fuel, DataW.trod_stays K (fun a b => hsz a b) (fun e => by cases e) (hts t List.mem_cons_self) h1 (fun x hx => ?_) fun x hx => hsp x (List.mem_append_left _ hx)⟩,
      all_stay K hsz hsame ts vs ds q (fun t' ht' => hts t' (List.mem_cons_of_mem _ ht')) h2 (fun x hx => hlt x (List.mem_append_right _ hx)) (fun x hx => hsp x (List.mem_append_right _ hx)), rfl⟩
    have hb := hlt x (List.mem_append_left _ hx)
    cases x with
    | cell b off => simp only [World.sameAt, World.cell?, hsame b hb]
    | map b => exact hsame b hb
end
section
variable {H : Type} {enc : TypeId × Value → H} {P : Program}
theorem post_true {fn : Func} {s : ChangeSpec} {W W' : World} {args : Array Value} {ds gs : List (DataW H)} {before : List MemPlace} {tb : TypeId} (K : Kids P (· < P.types.size)) (hsz : ∀ {t e : TypeId}, t < P.types.size → P.underlying t = some (.slice e) → 0 < P.cellsOf e)
    (hts : ∀ t ∈ fn.params.toList, t < P.types.size) (hres : fn.resultTypes = #[tb]) (htb : P.underlying tb = some .bool) (hvars : s.vars = []) (hspec : s.fn H ds = { results := [.lit (.bool true)], args := ds })
    (hW : DataW.Whole enc P fn.params.toList s.vars false W args.toList ds gs before) (hsame : ∀ b, b < W.heap.size → W'.heap[b]? = W.heap[b]?) (hos : W'.os = W.os) (hout : W'.output = W.output) :
    s.post enc P fn false true false false W args (.bool true) W' := by
  have hW0 := hW
  obtain ⟨p, q, hA, hV, rfl, hz, hn⟩ := hW
  rw [hvars] at hV
  obtain ⟨rfl, rfl⟩ := Go.ChangeShapes.trodVars_none hV
  have hlt : ∀ x ∈ p, x.block < W.heap.size := fun x hx => hW0.lt x (List.mem_append_left _ hx)
  have hres1 : ∀ (b : Nat) (sp : Nat → Bool) (hd : Bool), DataW.TrodAll enc P W' b sp hd fn.resultTypes.toList ((Value.bool true).resultList fn.resultTypes.size) [.lit (.bool true)] [] := by
    intro b sp hd
    rw [hres]
    exact ⟨[], [], ⟨1, by simp [DataW.trod, Value.cells, htb]⟩, rfl, rfl⟩
  have hargs : ∀ sp : Nat → Bool, (∀ x ∈ p, sp x.block = true) → DataW.TrodAll enc P W' 0 sp true fn.params.toList args.toList ds p := fun sp hsp =>
    all_stay K hsz hsame _ _ _ _ hts hA hlt hsp
  have hkept : W.keptBut W' (fun _ => False) := by
    refine ⟨hos, hout, fun i hi => ?_⟩
    rw [hsame i hi]
    cases W.heap[i]? with
    | none => rfl
    | some o => cases o <;> first | rfl | exact ⟨rfl, rfl, rfl, fun _ _ => rfl⟩ | exact .inr ⟨rfl, rfl⟩
  simp only [List.append_nil] at hspec hW0 hz hn
  unfold ChangeSpec.post
  refine ⟨ds, [], p, [], p, [], by simpa using hW0, ?_, ?_, ?_, World.keptBut_mono (fun _ h => h.elim) hkept, fun h => by cases h⟩
  · rw [List.append_nil, hspec]
    exact hres1 _ _ _
  · rw [List.append_nil, hspec]
    exact hargs _ fun x hx => by simpa using hlt x hx
  · rw [List.append_nil, hspec, hvars]
    rfl
end
section
variable {C : Cx} {f : FuncId} {fn : Func} {S : FF}
theorem contract (hS : Sound C f S) (hp : C.pure f = true) (hfr : C.fresh f = none) (K : Kids C.P (· < C.P.types.size)) (hsz : ∀ {t e : TypeId}, t < C.P.types.size → C.P.underlying t = some (.slice e) → 0 < C.P.cellsOf e)
    (hts : ∀ t ∈ fn.params.toList, t < C.P.types.size) (hdt : (fn.params.toList.all fun t => dataT C.P 20 t) = true) {tb : TypeId} (hres : fn.resultTypes = #[tb]) (htb : C.P.underlying tb = some .bool) {s : ChangeSpec} (hvars : s.vars = [])
    {H : Type} {enc : TypeId × Value → H} {W : World} {base : Nat} {args : Array Value} {ds gs : List (DataW H)} {before : List MemPlace}
    (hval : ∀ (j : Nat) t v, fn.params[j]? = some t → args[j]? = some v → Value.okWide C.P W .any base t v)
    (hW : DataW.Whole enc C.P fn.params.toList s.vars false W args.toList ds gs before) (hspec : s.fn H ds = { results := [.lit (.bool true)], args := ds }) (hglob : GlobR C (gin W) W) (hd : dOKs ds = true)
    (heval : S (argsOf C.P fn.params.toList ds) [] = .ret (.B true) []) :
    Calls C.P f args W fun e W' => ∃ v, e = .returned v ∧ s.post enc C.P fn false true false false W args v W' := by
  obtain ⟨p, q, hA, hV, _, _, _⟩ := id hW
  obtain ⟨k1, k2, _⟩ := args_VT (base := base) _ _ _ _ hA hdt hd fun j t v a b => hval j t v (by rw [← Array.getElem?_toList]; exact a) (by rw [← Array.getElem?_toList]; exact b)
  unfold Sound at hS
  rw [if_pos hp] at hS
  obtain ⟨_, hc⟩ := hS.1 (gin W) W _ args.toList _ heval (by simp) k2 rfl k1 (gin_wf W) hglob (fun _ => rfl)
  rw [Array.toArray_toList] at hc
  refine hc.mono fun e W' he => ?_
  rw [hfr] at he
  cases e with
  | returned u =>
    obtain ⟨v, h', g', h1, h2, h3, h4⟩ := he
    cases h1
    have hu : u = .bool true := V_B' (g := g') (w := W') h4
    subst hu
    exact ⟨_, rfl, post_true K (fun a b => hsz a b) hts hres htb hvars hspec hW (fun b hb => h2.blk b hb fun x => x) h2.os h2.out⟩
  | panicked chain => obtain ⟨v, h', u, g', h1, _⟩ := he; cases h1
  | outgrown => exact he.elim
end
theorem laid_VC {P : Program} {W : World} {n : String} {d : DataW Unit} {gi t : Nat} (hg : P.globalNamed n = some gi) (hty : (P.globals[gi]?).map (·.type) = some t) (hdt : dataT P 20 t = true) (hd : dOK d = true) :
    ∀ (laid : List (String × DataW Unit)) (ps : List MemPlace), DataW.LaidVars P W laid ps → (n, d) ∈ laid → VC (gin W) W gi 0 (avD P 20 t d)
  | [], _, _, hm => by cases hm
  | (n', d') :: r, ps, h, hm => by
    simp only [DataW.LaidVars] at h
    obtain ⟨g, t', cs, fuel, p, q, h1, h2, h3, h4, h5, h6⟩ := h
    rcases List.mem_cons.1 hm with e | hm
    · cases e
      obtain rfl := Option.some.inj (hg.symm.trans h1)
      obtain rfl := Option.some.inj (hty.symm.trans h2)
      obtain ⟨i1, _, _⟩ := trod_is (g := gin W) (fun b o h => h) 20 fuel t _ _ h4 hdt hd
      simp only [World.var?, hg, Option.bind_some] at h3
      refine VC_of_VS _ _ _ i1 fun j v hv => ?_
      have hc : W.cell? ⟨gi, 0 + j, none⟩ = some v := by
        cases hh : W.heap[gi]? with
        | none => rw [hh] at h3; cases h3
        | some o =>
          rw [hh] at h3
          cases o with
          | cells c ty fr =>
            simp only [Option.some.injEq] at h3
            subst h3
            simp only [World.cell?, hh, Nat.zero_add]
            simpa using hv
          | _ => cases h3
      exact ⟨by show (W.cell? _).isSome = true; rw [hc]; rfl, hc⟩
    · exact laid_VC hg hty hdt hd r q h5 hm
def slicesOK (P : Program) : Bool := (List.range P.types.size).all fun t => match P.underlying t with
  | some (.slice e) => Nat.blt 0 (P.cellsOf e)
  | _ => true
theorem slicesOK_get {P : Program} (h : slicesOK P = true) {t e : TypeId} (ht : t < P.types.size) (hu : P.underlying t = some (.slice e)) : 0 < P.cellsOf e := by
  have := List.all_eq_true.1 h t (List.mem_range.2 ht)
  simp only [hu] at this
  simpa using this
end Go.Vm
