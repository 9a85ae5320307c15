/- Part of a proof: Vm25, Vm26, Vm27, Vm28, VmE, VmM, VmC, Vm29, Vm30, Vm31. -/
import Derived.Test.YtnibamjabiagnaaGreatDoorVB
import Derived.Laws.IdiomStrings
import Derived.MapKept
import Derived.Laws.CopyRow
import Derived.OrdersIn
set_option linter.unusedSimpArgs false
set_option linter.unusedVariables false
set_option linter.unusedSectionVars false
namespace Go.Vm
open Go
section
variable {C : Cx} {N : Ann} {nt : NT} {g0 g : Gh} {w0 w : World} {f : Fr} {s : St} {a : Act} {o : Oper}
variable {K : Upd → Res} {R : Res} {G : FuncId → List AV → List HO → Res}
theorem Core.newSlice (hc : Core g w f s) (k ver : Nat) (hv : (s.loc k).ver < ver) {c : SC} {ex : Bool} {u1 : Value} {g1 : Gh} {w1 : World} (hch : Chg (fun b => g.ow b = some (.arr k)) g w g1 w1) (hn : g1.n = g.n) (hwf : ∀ b i, g1.st b i → b < w1.heap.size)
    (hs : SR g1 w1 (.arr k) c ex u1) :
    Core g1 w1 (f.setHd k u1) (s.withLocs [(k, ⟨ver, .arr c ex⟩)]) ∧ Stp g w f s g1 w1 (f.setHd k u1) (s.withLocs [(k, ⟨ver, .arr c ex⟩)]) ∧ VE g1 w1 (f.setHd k u1) (s.withLocs [(k, ⟨ver, .arr c ex⟩)]) (.ls k ver) u1 := by
  refine ⟨⟨hc.heap.chg hch hn fun b hb ow ho he => ?_, fun i => ?_, hwf⟩, ⟨hch.mono fun b _ e => by rw [e]; simp, fun i => ?_, fun id => .keep rfl rfl fun cs0 hid j => ?_⟩, ?_, fun _ c' ex' e => ?_⟩
  · rw [hb] at he; cases he; exact ho
  · rw [withLocs_loc]
    by_cases e : i = k
    · subst e
      rw [if_pos rfl]
      show SR g1 w1 (.arr i) c ex ((f.setHd i u1).hd i)
      simp only [Fr.setHd, if_true]
      exact hs
    · rw [if_neg e]
      refine ((hc.loc i).chg hch fun b hb ow ho he => ?_).fr rfl (by simp [Fr.setHd, e])
      rw [hb] at he
      cases he
      simp only [Own.site, Option.some.injEq] at ho
      exact e ho.symm
  · by_cases e : i = k
    · subst e
      left
      rw [withLocs_loc, if_pos rfl]
      exact hv
    · refine SiteStp.same (by rw [withLocs_loc, if_neg e]) rfl (by simp [Fr.setHd, e]) fun m cs' hb j => ?_
      have hl := hc.loc i
      unfold LR at hl
      rw [hb] at hl
      have hlt := hl.lt
      have := hch.blk _ hlt (by rw [hl.ow]; simp)
      simp only [World.cell?, this]
  · have hb := hc.heap.obj id cs0 hid
    have := hch.blk _ hb.lt (by rw [hb.ow]; simp)
    simp only [World.cell?, this]
  · rw [withLocs_loc, if_pos rfl]
    exact Nat.le_refl _
  · simp [Fr.setHd]
theorem BoxR.drop {B : Nat → Prop} {g' : Gh} {w' : World} {ow : Own} {co : Nat → Own} {b off : Nat} {cs : List HV} (hs : BoxR g w ow co b cs) (hch : Chg B g w g' w') (hn : ∀ b, B b → g.ow b ≠ some ow) (hcc : ∀ i b, i ≠ off → B b → g.ow b ≠ some (co i)) :
    BoxR g' w' ow co b (cs.set off (.a .U)) := by
  have hb : ¬ B b := fun x => hn b x hs.ow
  obtain ⟨arr, t, h1, h2, h3⟩ := hs.row
  refine ⟨(hch.ow b hs.lt hb).trans hs.ow, fun i x => hs.st i (hch.st b i hs.lt hb x), arr, t, by rw [hch.blk b hs.lt hb]; exact h1, by simpa using h2, fun i x hx => ?_⟩
  rw [List.getElem?_set] at hx
  by_cases e : off = i
  · subst e
    rw [if_pos rfl] at hx
    split at hx
    · rename_i hlt
      cases hx
      obtain ⟨u, hu, hr⟩ := h3 off _ (List.getElem?_eq_getElem hlt)
      exact ⟨u, hu, trivial, (HVR.toV hr).2⟩
    · cases hx
  · rw [if_neg e] at hx
    obtain ⟨u, hu, hr⟩ := h3 i x hx
    exact ⟨u, hu, HVR.chgO hch hr (hcc i · (fun e' => e e'.symm))⟩
theorem SR.appendTo {ow ow' : Own} {c z : SC} {ex : Bool} {u x : Value} {t tx ty e : TypeId} {i : TypeInfo} {zv : Value} {news : List Value} (h : SR g w ow c ex u) (hwf : ∀ b i, g.st b i → b < w.heap.size)
    (ht : C.P.underlying t = some (.slice e)) (hi : C.P.info? e = some i) (hz : i.zero = some zv) (hzs : zv.cells.size = i.size) (he : c.elem = e) (hw : c.width = i.size) (hsm : c.same z)
    (hsrc : Src C.P i.size tx x z.len news w) (hnews : SCV g w z news) (hb1 : c.len + z.len ≤ 140737488355328) (hb2 : (c.len + z.len) * i.bytes ≤ 140737488355328) :
    ∃ u' g' w', (Builtin.append_ #[t, tx] ty #[u, x]).run C.P w = .ok u' w' ∧ Chg (fun b => g.ow b = some ow) g w g' w' ∧ SR g' w' ow' (c.app z) false u' ∧ g'.n = g.n ∧ (∀ b i, g'.st b i → b < w'.heap.size) := by
  obtain ⟨u', g1, w1, h1, h2, h3, h4, h5, h6, h7⟩ := SR.append (ty := ty) h hwf ht hi hz hzs he hw hsm hsrc hnews hb1 hb2
  obtain ⟨g2, k1, k2, k3, k4, k5, k6⟩ := SR.give (o' := ow') h3
  refine ⟨u', g2, w1, h1, h2.trans k1 fun b hb hB => ?_, k2, k3.trans h4, fun b i hx => (k5 b i hx).elim (h6 b i) id⟩
  rw [← h7 b hb]
  exact hB
theorem VR_vals {n b : Nat} : ∀ (xs : List (List AV)) (ofs : Nat), VR g w n b ofs xs → ∃ vs : List Value, vs.length = xs.length * n ∧ (∀ j v, vs[j]? = some v → w.cell? ⟨b, ofs + j, none⟩ = some v) ∧ (∀ x ∈ xs, x.length = n) ∧ VS g w xs.flatten vs
  | [], ofs, _ => ⟨[], by simp, fun j v hv => (by simp at hv), fun x hx => (by cases hx), by simp [VS]⟩
  | x :: xs, ofs, h => by
    simp only [VR] at h
    obtain ⟨hx, hc, hr⟩ := h
    obtain ⟨v1, a1, a2, a3⟩ := VC_vals x ofs hc
    obtain ⟨v2, b1, b2, b3, b4⟩ := VR_vals xs (ofs + n) hr
    refine ⟨v1 ++ v2, ?_, fun j v hv => ?_, fun y hy => ?_, ?_⟩
    · simp only [List.length_append, a1, b1, hx, List.length_cons, Nat.succ_mul]; omega
    · rcases Nat.lt_or_ge j v1.length with hj | hj
      · rw [List.getElem?_append_left hj] at hv
        exact a2 j v hv
      · rw [List.getElem?_append_right hj] at hv
        have := b2 _ _ hv
        rw [a1, hx] at this
        rw [a1, hx] at hj
        rw [show ofs + j = ofs + n + (j - n) by omega]
        exact this
    · rcases List.mem_cons.1 hy with rfl | hy
      · exact hx
      · exact b3 y hy
    · simp only [List.flatten_cons]
      exact VS_app _ _ _ _ a3 b4
theorem VY_vals {b : Nat} : ∀ (xs : List UInt8) (ofs : Nat), VY g w b ofs xs → ∀ (j : Nat) (v : Value), (xs.map fun x => Value.int .u8 x.toNat)[j]? = some v → w.cell? ⟨b, ofs + j, none⟩ = some v
  | [], _, _, j, v, hv => by simp at hv
  | x :: xs, ofs, h, j, v, hv => by
    cases j with
    | zero =>
      simp only [List.map_cons, List.getElem?_cons_zero, Option.some.injEq] at hv
      rw [← hv]
      exact h.2.1
    | succ j =>
      have := VY_vals xs (ofs + 1) h.2.2 j v (by simpa using hv)
      rw [show ofs + (j + 1) = ofs + 1 + j by omega]
      exact this
theorem Src.mk' {size : Nat} {tx : TypeId} (hk : (∃ e', C.P.underlying tx = some (.slice e')) ∨ C.P.underlying tx = some .string) {ad : Option Addr} {n c : Nat} {news : List Value} (hl : news.length = n * size)
    (hc : n = 0 ∨ ∃ b o, ad = some ⟨b, o, none⟩ ∧ ∀ j u, news[j]? = some u → w.cell? ⟨b, o + j, none⟩ = some u) (h1 : ∀ u ∈ news, u.oneCell' = true) : Src C.P size tx (.slice ad n c) n news w := by
  have cells : ∀ w' : World, (∀ a : Addr, w'.cell? a = w.cell? a) → (Builtin.firstCells size n (.slice ad n c)).run C.P w' = .ok news.toArray w' := by
    intro w' hw
    rcases hc with rfl | ⟨b, ofs, rfl, hcell⟩
    · have : news = [] := List.eq_nil_of_length_eq_zero (by simpa using hl)
      subst this
      cases ad with
      | none => exact run_firstCells_none _ _ _ _ _
      | some ad => exact run_firstCells_some _ _ _ _ _ _ _ (by simp) (fun j v hv => by simp at hv)
    · exact run_firstCells_some _ _ _ _ _ _ _ hl fun j v hv => by rw [add_off, hw]; exact hcell j v hv
  exact ⟨hk, fun _ => rfl, cells w fun _ => rfl, cells w.drew fun _ => rfl, hl, h1⟩
def fromK (c : SC) (strSrc : Bool) (K' : SC → Res) (av : AV) : Res := match c with
  | .e t n _ => mL n av fun xs => K' (.e t n xs)
  | .y t _ => if strSrc then mS av fun b => K' (.y t b) else mY av fun b => K' (.y t b)
theorem srcK_inv (r : Rel C nt g0 w0 g w f s a) (hR : R ≠ .stuck) {c : SC} {y : Operand} {strSrc : Bool} {K' : SC → Res} {tx : TypeId} (hk : (∃ e', C.P.underlying tx = some (.slice e')) ∨ C.P.underlying tx = some .string)
    (hs : strSrc = true → C.P.underlying tx = some .string) (h : srcK (stdAlg C.pure G) c (evO C s y) (loO s (evO C s y)) strSrc K' = R) :
    ∃ z news, K' z = R ∧ c.same z ∧ Src C.P c.width tx (a.eval y) z.len news w ∧ SCV g w z news := by
  have fromAV : ∀ (av : AV) (u : Value), V g w av u → fromK c strSrc K' av = R →
      ∃ z news, K' z = R ∧ c.same z ∧ Src C.P c.width tx u z.len news w ∧ SCV g w z news := by
    clear h
    intro av u hv h
    unfold fromK at h
    cases c with
    | e t n cs =>
      obtain ⟨xs, rfl, h1⟩ := mL_inv h hR
      obtain ⟨ad, len, cap, rfl, rfl, hb, hr⟩ := V_L' hv
      rcases hr with rfl | ⟨b, ofs, rfl, hr⟩
      · exact ⟨_, [], h1, rfl, Src.mk' hk (by simp) (.inl rfl) (fun u hu => by cases hu), fun x hx => (by cases hx), by simp [VS]⟩
      · obtain ⟨vs, q1, q2, q3, q4⟩ := VR_vals xs ofs hr
        exact ⟨_, vs, h1, rfl, Src.mk' hk q1 (.inr ⟨b, ofs, rfl, q2⟩) (VS_one _ _ q4), q3, q4⟩
    | y t cs =>
      simp only at h
      split at h
      · rename_i hst
        obtain ⟨b, rfl, h1⟩ := mS_inv h hR
        obtain ⟨rfl, _⟩ := V_S' hv
        have := Src.ofString (P := C.P) w (hs hst) ⟨b.toArray⟩
        refine ⟨_, byteCells ⟨b.toArray⟩, h1, trivial, ?_, ?_⟩
        · exact this
        · simp [SCV, byteCells]
      · obtain ⟨b, rfl, h1⟩ := mY_inv h hR
        obtain ⟨ad, len, cap, rfl, rfl, hb, hr⟩ := V_Y' hv
        have h1c : ∀ u ∈ b.map fun x => Value.int .u8 (x.toNat : Int), u.oneCell' = true := by
          intro u hu
          obtain ⟨x, _, rfl⟩ := List.mem_map.1 hu
          rfl
        rcases hr with rfl | ⟨bb, ofs, rfl, hr⟩
        · exact ⟨_, [], h1, trivial, Src.mk' hk (by simp [SC.len]) (.inl rfl) (fun u hu => by cases hu), rfl⟩
        · exact ⟨_, _, h1, trivial, Src.mk' hk (by simp [SC.len, SC.width]) (.inr ⟨bb, ofs, rfl, VY_vals b ofs hr⟩) h1c, rfl⟩
  have hy := r.ev y
  unfold srcK at h
  dsimp only at h
  split at h
  · rename_i e1
    rw [e1] at hy
    have hy' : a.eval y = .slice none 0 0 := hy
    rw [hy']
    cases c with
    | e t n cs => exact ⟨_, [], h, rfl, Src.mk' hk (by simp [SC.len]) (.inl rfl) (fun u hu => by cases hu), fun x hx => (by cases hx), by simp [VS]⟩
    | y t cs => exact ⟨_, [], h, trivial, Src.mk' hk (by simp [SC.len]) (.inl rfl) (fun u hu => by cases hu), rfl⟩
  · rename_i k ver e1
    split at h
    · rename_i ver' c' ex e2
      split at h
      · rename_i hver
        subst hver
        rw [e1] at hy e2
        simp only [loO, EV.site] at e2
        have hu := hy.2 (by rw [e2]) c' ex (by rw [e2])
        have hlr := r.core.loc k
        unfold LR at hlr
        rw [e2] at hlr
        obtain ⟨vals, q1, q2, q3, q4⟩ := SR_iff.1 hlr
        rw [hu]
        have key : c.same c' → K' (match c, c' with | .e t _ _, .e _ n xs => .e t n xs | .y t _, .y _ sb => .y t sb | c, _ => c) = R → ∃ z news, K' z = R ∧ c.same z ∧ Src C.P c.width tx (f.hd k) z.len news w ∧ SCV g w z news := by
          intro hsm hk'
          have hw : c.width = c'.width := by
            cases c <;> cases c' <;> simp_all [SC.same, SC.width]
          have hsrc : Src C.P c.width tx (f.hd k) c'.len vals w := by
            rw [hw]
            rcases q1.2 with ⟨hn, h0⟩ | ⟨b, cap, cur, hn, _, _⟩
            · rw [hn, h0]
              have : vals = [] := List.eq_nil_of_length_eq_zero (by rw [q1.1, h0, Nat.zero_mul])
              subst this
              exact Src.mk' hk (by simp) (.inl rfl) (fun u hu => by cases hu)
            · rw [hn]
              refine Src.mk' hk q1.1 (.inr ⟨b, 0, rfl, fun j u hj => ?_⟩) (SCV.one q3)
              have := q1.cells (g := b) (by rw [hn]; rfl) j u hj
              rw [Addr.add_zero_off] at this
              simpa using this
          refine ⟨_, vals, hk', ?_, ?_, ?_⟩
          · cases c <;> cases c' <;> simp_all [SC.same]
          · cases c <;> cases c' <;> first | exact hsrc | exact hsm.elim
          · cases c <;> cases c' <;> first | exact q3 | exact hsm.elim
        cases c with
        | e t n cs =>
          obtain ⟨xs, hx, h1⟩ := mL_inv h hR
          cases c' with
          | e t' m ys => simp only [SC.toAV, AV.L.injEq] at hx; obtain ⟨rfl, rfl⟩ := hx; exact key rfl h1
          | y t' sb => simp [SC.toAV] at hx
        | y t cs =>
          simp only at h
          split at h
          · obtain ⟨b, hx, h1⟩ := mS_inv h hR
            cases c' <;> simp [SC.toAV] at hx
          · obtain ⟨b, hx, h1⟩ := mY_inv h hR
            cases c' with
            | e t' m ys => simp [SC.toAV] at hx
            | y t' sb => simp only [SC.toAV, AV.Y.injEq] at hx; subst hx; exact key trivial h1
      · exact absurd h.symm hR
    · exact absurd h.symm hR
  · rename_i av e1
    rw [e1] at hy
    exact fromAV av _ hy h
  · rename_i e1
    rw [e1] at hy
    exact fromAV _ _ hy.1 h
  · rename_i e1
    rw [e1] at hy
    exact fromAV _ _ hy.1 h
  · exact absurd h.symm hR
end
end Go.Vm
namespace Go.Vm
open Go
section
variable {C : Cx} {N : Ann} {nt : NT} {g0 g : Gh} {w0 w : World} {f : Fr} {s : St} {a : Act} {o : Oper}
variable {K : Upd → Res} {R : Res} {G : FuncId → List AV → List HO → Res}
theorem withLocs_pair (s : St) (d k : Nat) (x y : LOv) (i : Nat) : (s.withLocs [(d, x), (k, y)]).loc i = if i = d then x else if i = k then y else s.loc i := by
  rw [withLocs_cons, withLocs_loc, withLocs_loc]
theorem Core.boxToArr (hc : Core g w f s) {d k dver ver md off : Nat} {cs : List HV} (hv : (s.loc d).ver < dver) (hdk : k ≠ d) (hl : s.loc k = ⟨ver, .box md cs⟩) {c' : SC} {u1 : Value} {g1 : Gh} {w1 : World}
    (hch : Chg (fun b => g.ow b = some (.bcell k off)) g w g1 w1) (hn : g1.n = g.n) (hwf : ∀ b i, g1.st b i → b < w1.heap.size) (hs : SR g1 w1 (.arr d) c' false u1) :
    Core g1 w1 (f.setHd d u1) (s.withLocs [(d, ⟨dver, .arr c' false⟩), (k, ⟨ver, .box (md + 1) (cs.set off (.a .U))⟩)]) ∧
    Stp g w f s g1 w1 (f.setHd d u1) (s.withLocs [(d, ⟨dver, .arr c' false⟩), (k, ⟨ver, .box (md + 1) (cs.set off (.a .U))⟩)]) ∧
    VE g1 w1 (f.setHd d u1) (s.withLocs [(d, ⟨dver, .arr c' false⟩), (k, ⟨ver, .box (md + 1) (cs.set off (.a .U))⟩)]) (.ls d dver) u1 := by
  have hk := hc.loc k
  unfold LR at hk
  rw [hl] at hk
  refine ⟨⟨hc.heap.chg hch hn fun b hb ow ho he => ?_, fun i => ?_, hwf⟩, ⟨hch.mono fun b _ e => by rw [e]; simp, fun i => ?_, fun id => .keep rfl rfl fun cs0 hid j => ?_⟩, ?_, fun _ c' ex' e => ?_⟩
  · rw [hb] at he; cases he; exact ho
  · rw [withLocs_pair]
    by_cases e : i = d
    · subst e
      rw [if_pos rfl]
      show SR g1 w1 (.arr i) c' false ((f.setHd i u1).hd i)
      simp only [Fr.setHd, if_true]
      exact hs
    · rw [if_neg e]
      by_cases e2 : i = k
      · subst e2
        rw [if_pos rfl]
        refine LR.fr (be := f.be) (hd := f.hd) ?_ rfl (by simp [Fr.setHd, e])
        exact BoxR.drop hk hch (fun b hb => by rw [hb]; simp) (fun j b hj hb => by rw [hb]; simp; exact fun e => hj e.symm)
      · rw [if_neg e2]
        refine ((hc.loc i).chg hch fun b hb ow ho he => ?_).fr rfl (by simp [Fr.setHd, e])
        rw [hb] at he
        cases he
        simp only [Own.site, Option.some.injEq] at ho
        exact e2 ho.symm
  · by_cases e : i = d
    · subst e
      left
      rw [withLocs_pair, if_pos rfl]
      exact hv
    · have blk : ∀ m cs', (s.loc i).lo = .box m cs' → ∀ j, w1.cell? ⟨f.be i, j, none⟩ = w.cell? ⟨f.be i, j, none⟩ := by
        intro m cs' hb j
        have hli := hc.loc i
        unfold LR at hli
        rw [hb] at hli
        have := hch.blk _ hli.lt (by rw [hli.ow]; simp)
        simp only [World.cell?, this]
      by_cases e2 : i = k
      · subst e2
        right
        rw [withLocs_pair, if_neg e, if_pos rfl, hl]
        refine ⟨rfl, rfl, by simp [Fr.setHd, e], fun m' cs' e => ?_, fun c' ex' e => by cases e⟩
        cases e
        exact ⟨md, cs, rfl, by omega, fun e => by omega⟩
      · exact SiteStp.same (by rw [withLocs_pair, if_neg e, if_neg e2]) rfl (by simp [Fr.setHd, e]) blk
  · have hb := hc.heap.obj id cs0 hid
    have := hch.blk _ hb.lt (by rw [hb.ow]; simp)
    simp only [World.cell?, this]
  · rw [withLocs_pair, if_pos rfl]
    exact Nat.le_refl _
  · simp [Fr.setHd]
theorem Core.objToArr (hc : Core g w f s) {d dver id off : Nat} {cs : List HV} (hv : (s.loc d).ver < dver) (hl : s.h[id]? = some (.cells cs)) {c' : SC} {u1 : Value} {g1 : Gh} {w1 : World}
    (hch : Chg (fun b => g.ow b = some (.cell id off)) g w g1 w1) (hn : g1.n = g.n) (hwf : ∀ b i, g1.st b i → b < w1.heap.size) (hs : SR g1 w1 (.arr d) c' false u1) {s' : St}
    (hs' : s' = (s.withLocs [(d, ⟨dver, .arr c' false⟩)]).setO id (.cells (cs.set off (.a .U)))) :
    Core g1 w1 (f.setHd d u1) s' ∧ Stp g w f s g1 w1 (f.setHd d u1) s' ∧ VE g1 w1 (f.setHd d u1) s' (.ls d dver) u1 := by
  subst hs'
  have hlt : id < s.h.length := (List.getElem?_eq_some_iff.1 hl).1
  have hidn : id < g.n := by rw [← hc.heap.len]; exact hlt
  refine ⟨⟨⟨by rw [hn, ← hc.heap.len]; simp [St.setO, St.withLocs], fun j hj => ?_, fun j cs' hj => ?_, fun j es' hj => ?_⟩, fun i => ?_, hwf⟩, ⟨hch.mono fun b _ e => by rw [e]; simp, fun i => ?_, fun j => ?_⟩, ?_, fun _ c' ex' e => ?_⟩
  · rw [hn] at hj
    rw [hch.later.io j hj]
    exact Nat.lt_of_lt_of_le (hc.heap.lt j hj) hch.size
  · rw [setO_h, show (s.withLocs [(d, ⟨dver, .arr c' false⟩)]).h = s.h from rfl, List.getElem?_set] at hj
    by_cases e : id = j
    · subst e
      rw [if_pos rfl, if_pos hlt] at hj
      cases hj
      rw [hch.later.io id hidn]
      exact BoxR.drop (hc.heap.obj id cs hl) hch (fun b hb => by rw [hb]; simp) (fun j b hj hb => by rw [hb]; simp; exact fun e => hj e.symm)
    · rw [if_neg e] at hj
      have hjn : j < g.n := by rw [← hc.heap.len]; exact (List.getElem?_eq_some_iff.1 hj).1
      rw [hch.later.io j hjn]
      exact (hc.heap.obj j cs' hj).chgO hch (fun b hb => by rw [hb]; simp) (fun i b hb => by rw [hb]; simp; exact fun e' => absurd e' e)
  · rw [setO_h, show (s.withLocs [(d, ⟨dver, .arr c' false⟩)]).h = s.h from rfl, List.getElem?_set] at hj
    by_cases e : id = j
    · subst e
      rw [if_pos rfl, if_pos hlt] at hj
      cases hj
    · rw [if_neg e] at hj
      have hjn : j < g.n := by rw [← hc.heap.len]; exact (List.getElem?_eq_some_iff.1 hj).1
      rw [hch.later.io j hjn]
      exact (hc.heap.map j es' hj).chgO hch (fun b hb => by rw [hb]; simp)
  · show LR g1 w1 _ _ i ((s.withLocs [(d, _)]).loc i)
    rw [withLocs_loc]
    by_cases e : i = d
    · subst e
      rw [if_pos rfl]
      show SR g1 w1 (.arr i) c' false ((f.setHd i u1).hd i)
      simp only [Fr.setHd, if_true]
      exact hs
    · rw [if_neg e]
      refine ((hc.loc i).chg hch fun b hb ow ho he => ?_).fr rfl (by simp [Fr.setHd, e])
      rw [hb] at he
      cases he
      cases ho
  · by_cases e : i = d
    · subst e
      left
      show _ < ((s.withLocs [(i, _)]).loc i).ver
      rw [withLocs_loc, if_pos rfl]
      exact hv
    · refine SiteStp.same (by show (s.withLocs [(d, _)]).loc i = _; rw [withLocs_loc, if_neg e]) rfl (by simp [Fr.setHd, e]) fun m cs' hb j => ?_
      have hli := hc.loc i
      unfold LR at hli
      rw [hb] at hli
      have := hch.blk _ hli.lt (by rw [hli.ow]; simp)
      simp only [World.cell?, this]
  · by_cases e : id = j
    · subst e
      exact .inl (by rw [setO_hv_eq]; exact Nat.lt_succ_self _)
    · refine .inr ⟨setO_hv_ne e, fun cs' hj => ⟨by rw [setO_h, show (s.withLocs [(d, ⟨dver, .arr c' false⟩)]).h = s.h from rfl, List.getElem?_set, if_neg e]; exact hj, fun i => ?_⟩⟩
      have hb := hc.heap.obj j cs' hj
      have := hch.blk _ hb.lt (by rw [hb.ow]; simp)
      simp only [World.cell?, this]
  · show _ ≤ ((s.withLocs [(d, _)]).loc d).ver
    rw [withLocs_loc, if_pos rfl]
    exact Nat.le_refl _
  · simp [Fr.setHd]
theorem OpS.append (hC : OkC C) (r : Rel C nt g0 w0 g w f s a) (hd : ∀ x, o.dst = some x → nt.ok x) (hR : R ≠ .stuck) {c : Call} (ho : o.op = .call c) (hc : c.callee = .builtin .append)
    (h : opH C N G o s K R) : OpS C nt g0 w0 s a w o K R := by
  simp only [opH, opF, ho, hc, Op.operands, Call.operands, Array.empty_append] at h
  split at h
  · rename_i x y t tx hargs htys
    simp only [hargs, List.map_cons, List.map_nil, List.getD_cons_zero, List.getD_cons_succ] at h
    have hrun : ∀ u' w', (Builtin.append_ #[t, tx] o.type #[a.eval x, a.eval y]).run C.P w = .ok u' w' → (execOp a.eval o).run C.P w = .ok (.value u') w' := by
      intro u' w' hr
      have e1 : c.argTypes = #[t, tx] := by apply Array.toList_inj.1; rw [htys]
      have e2 : c.args.map a.eval = #[a.eval x, a.eval y] := by apply Array.toList_inj.1; rw [Array.toList_map, hargs]; rfl
      rw [run_builtin ho hc, e1, e2]
      simp only [Go.builtin, Sem.run_bind, hr, Result.andThen_ok, Sem.run_pure]
    have body : ∀ (st : Bool), ((∃ e', C.P.underlying tx = some (.slice e')) ∨ C.P.underlying tx = some .string) → (st = true → C.P.underlying tx = some .string) →
        appendK (stdAlg C.pure G) C (o.dst.getD 0) (s.loc (o.dst.getD 0)) t st (evO C s x) (evO C s y) (loO s (evO C s x)) (loO s (evO C s y)) s.h s.hv K = R → OpS C nt g0 w0 s a w o K R := by
      intro st hk hst h
      unfold appendK at h
      split at h
      · rename_i e hu
        have hut := und_some hu (by simp)
        dsimp only at h
        have fin : ∀ (cc : SC) (ex : Bool) (ow : Own) (u : Value) (K' : SC → Res), SR g w ow cc ex u →
            (if cc.elem = e ∧ cc.width = szT C.P e ∧ zeroOK C.P e = true ∧ szT C.P e ≠ 0 then
              srcK (stdAlg C.pure G) cc (evO C s y) (loO s (evO C s y)) st fun z => (stdAlg C.pure G).chk (decide (cc.len + z.len ≤ C.bound ∧ (cc.len + z.len) * byT C.P e ≤ C.bound)) (K' (cc.app z)) else (stdAlg C.pure G).stuck) = R →
            ∃ (z : SC) (news : List Value) (i : TypeInfo) (zv : Value), K' (cc.app z) = R ∧ C.P.info? e = some i ∧ i.zero = some zv ∧ zv.cells.size = i.size ∧ cc.elem = e ∧ cc.width = i.size ∧ cc.same z ∧ Src C.P i.size tx (a.eval y) z.len news w ∧ SCV g w z news ∧
              cc.len + z.len ≤ 140737488355328 ∧ (cc.len + z.len) * i.bytes ≤ 140737488355328 := by
          intro cc ex ow u K' hsr h
          split at h
          · rename_i hcc
            obtain ⟨b1, b2, b3, b4⟩ := hcc
            obtain ⟨z, news, h1, h2, h3, h4⟩ := srcK_inv r hR hk hst h
            obtain ⟨hb, h5⟩ := chk_inv' h1 hR
            have hb : cc.len + z.len ≤ C.bound ∧ (cc.len + z.len) * byT C.P e ≤ C.bound := by simpa using hb
            obtain ⟨i, zv, hi, hz, hl, hl2, _⟩ := zeroOK_inv (g := g) (w := w) b3
            have hsz : szT C.P e = i.size := szT_of hi
            have hby : byT C.P e = i.bytes := byT_of hi
            have := hC.bound
            rw [hby] at hb
            rw [hsz] at b2
            rw [b2] at h3
            exact ⟨z, news, i, zv, h5, hi, hz, by omega, b1, b2, h2, h3, h4, by omega, by omega⟩
          · exact absurd h.symm hR
        have newS : ∀ (k ver : Nat) (cc : SC) (ex : Bool) (u : Value), (s.loc k).ver < ver → a.eval x = u → SR g w (.arr k) cc ex u → ∀ (z : SC) (news : List Value) (i : TypeInfo) (zv : Value), K { dst := some (.ls k ver), locs := [(k, ⟨ver, .arr (cc.app z) ex⟩)] } = R →
            C.P.info? e = some i → i.zero = some zv → zv.cells.size = i.size → cc.elem = e → cc.width = i.size → cc.same z → Src C.P i.size tx (a.eval y) z.len news w → SCV g w z news →
              cc.len + z.len ≤ 140737488355328 → (cc.len + z.len) * i.bytes ≤ 140737488355328 → OpS C nt g0 w0 s a w o K R := by
          intro k ver cc ex u hver hx hsr z news i zv hk' hi hz hzs he hw hsm hsrc hnews hb1 hb2
          obtain ⟨u', g1, w1, k1, k2, k3, k4, k5, k6, k7⟩ := SR.append (ty := o.type) hsr r.core.wf hut hi hz hzs he hw hsm hsrc hnews hb1 hb2
          obtain ⟨d1, d2, d3⟩ := r.core.newSlice k ver hver k2 k4 k6 k3
          exact .to r hd hk' (hrun _ _ (by rw [hx]; exact k1)) rfl d1 d2 d3
        have hx := r.ev x
        split at h
        · rename_i e1
          rw [e1] at hx
          have hx' : a.eval x = .slice none 0 0 := hx
          have hsr : szT C.P e ≠ 0 → SR g w (.arr (o.dst.getD 0)) (emptySC C.P e) true (.slice none 0 0) := fun hz => by
            have := emptySC_ok (P := C.P) (e := e) (by simp; exact .inr (by simpa using Nat.pos_of_ne_zero hz))
            exact SR_empty _ _ this.1 this.2
          have hz : szT C.P e ≠ 0 := by
            intro h0
            rw [if_neg (by simp [h0])] at h
            exact hR h.symm
          obtain ⟨z, news, i, zv, q0, q1, q2, q3, q4, q5, q6, q7, q8, q9, q10⟩ := fin _ true (.arr (o.dst.getD 0)) _ (fun c' => K { dst := some (.ls (o.dst.getD 0) ((s.loc (o.dst.getD 0)).ver + 1)), locs := [(o.dst.getD 0, ⟨(s.loc (o.dst.getD 0)).ver + 1, .arr c' true⟩)] }) (hsr hz) h
          exact newS _ _ _ _ _ (Nat.lt_succ_self _) hx' (hsr hz) z news i zv q0 q1 q2 q3 q4 q5 q6 q7 q8 q9 q10
        · rename_i k ver e1
          split at h
          · rename_i ver' cc ex e2
            split at h
            · rename_i hver
              subst hver
              rw [e1] at hx e2
              simp only [loO, EV.site] at e2
              have hu := hx.2 (by rw [e2]) cc ex (by rw [e2])
              have hlr := r.core.loc k
              unfold LR at hlr
              rw [e2] at hlr
              obtain ⟨z, news, i, zv, q0, q1, q2, q3, q4, q5, q6, q7, q8, q9, q10⟩ := fin _ _ _ _ (fun c' => K { dst := some (.ls k (ver + 1)), locs := [(k, ⟨ver + 1, .arr c' ex⟩)] }) hlr h
              exact newS _ _ _ _ _ (by rw [e2]; exact Nat.lt_succ_self _) hu hlr z news i zv q0 q1 q2 q3 q4 q5 q6 q7 q8 q9 q10
            · exact absurd h.symm hR
          · exact absurd h.symm hR
        · rename_i k ver md off cc e1
          split at h
          · rename_i ver' md' cs e2
            split at h
            · rename_i hver
              obtain ⟨rfl, rfl, hkd⟩ := hver
              rw [e1] at hx e2
              simp only [loO, EV.site] at e2
              obtain ⟨_, _, hx2⟩ := hx
              obtain ⟨_, hx3⟩ := hx2 (by rw [e2]) md cs (by rw [e2])
              obtain ⟨hcs, hcell⟩ := hx3 rfl
              have hlr := r.core.loc k
              unfold LR at hlr
              rw [e2] at hlr
              have hsr : SR g w (.bcell k off) cc false (a.eval x) := by
                obtain ⟨arr, tt, b1, b2, b3⟩ := hlr.row
                obtain ⟨uu, b4, b5⟩ := b3 off _ hcs
                have : uu = a.eval x := by
                  simp only [World.cell?, b1] at hcell
                  simp only [Option.isSome_none, Bool.false_eq_true, if_false] at hcell
                  rw [b4] at hcell
                  exact Option.some.inj hcell
                rw [← this]
                exact b5
              obtain ⟨z, news, i, zv, q0, q1, q2, q3, q4, q5, q6, q7, q8, q9, q10⟩ := fin _ _ _ _ (fun c' => K { dst := some (.ls (o.dst.getD 0) ((s.loc (o.dst.getD 0)).ver + 1)), locs := [(o.dst.getD 0, ⟨(s.loc (o.dst.getD 0)).ver + 1, .arr c' false⟩), (k, ⟨ver, .box (md + 1) (cs.set off (.a .U))⟩)] }) hsr h
              obtain ⟨u', g1, w1, k1, k2, k3, k4, k5⟩ := SR.appendTo (ow' := .arr (o.dst.getD 0)) (ty := o.type) hsr r.core.wf hut q1 q2 q3 q4 q5 q6 q7 q8 q9 q10
              obtain ⟨d1, d2, d3⟩ := r.core.boxToArr (d := o.dst.getD 0) (Nat.lt_succ_self _) hkd e2 k2 k4 k5 k3
              exact .to r hd q0 (hrun _ _ k1) rfl d1 d2 d3
            · exact absurd h.symm hR
          · exact absurd h.symm hR
        · rename_i id off hv' xh e1
          split at h
          · rename_i hver
            subst hver
            rw [e1] at hx
            obtain ⟨_, _, hx2⟩ := hx
            obtain ⟨cs, hcs, hcx, hcell⟩ := hx2 rfl
            have go : ∀ cc : SC, xh = .g cc → (if cc.elem = e ∧ cc.width = szT C.P e ∧ zeroOK C.P e = true ∧ szT C.P e ≠ 0 then
                srcK (stdAlg C.pure G) cc (evO C s y) (loO s (evO C s y)) st fun z => (stdAlg C.pure G).chk (decide (cc.len + z.len ≤ C.bound ∧ (cc.len + z.len) * byT C.P e ≤ C.bound))
                  ((fun c' => (stdAlg C.pure G).mO s.h id fun cs => K { dst := some (.ls (o.dst.getD 0) ((s.loc (o.dst.getD 0)).ver + 1)), locs := [(o.dst.getD 0, ⟨(s.loc (o.dst.getD 0)).ver + 1, .arr c' false⟩)], dl := [(id, .cells (cs.set off (.a .U)))] }) (cc.app z)) else (stdAlg C.pure G).stuck) = R → OpS C nt g0 w0 s a w o K R := by
              intro cc hxc h9
              subst hxc
              have hb := r.core.heap.obj id cs hcs
              have hsr : SR g w (.cell id off) cc false (a.eval x) := by
                obtain ⟨arr, tt, b1, b2, b3⟩ := hb.row
                obtain ⟨uu, b4, b5⟩ := b3 off _ hcx
                have : uu = a.eval x := by
                  simp only [World.cell?, b1] at hcell
                  simp only [Option.isSome_none, Bool.false_eq_true, if_false] at hcell
                  rw [b4] at hcell
                  exact Option.some.inj hcell
                rw [← this]
                exact b5
              obtain ⟨z, news, i, zv, q0, q1, q2, q3, q4, q5, q6, q7, q8, q9, q10⟩ := fin _ _ _ _ (fun c' => (stdAlg C.pure G).mO s.h id fun cs => K { dst := some (.ls (o.dst.getD 0) ((s.loc (o.dst.getD 0)).ver + 1)), locs := [(o.dst.getD 0, ⟨(s.loc (o.dst.getD 0)).ver + 1, .arr c' false⟩)], dl := [(id, .cells (cs.set off (.a .U)))] }) hsr h9
              obtain ⟨cs2, hcs2, q0⟩ := mO_inv q0 hR
              rw [hcs] at hcs2
              cases hcs2
              obtain ⟨u', g1, w1, k1, k2, k3, k4, k5⟩ := SR.appendTo (ow' := .arr (o.dst.getD 0)) (ty := o.type) hsr r.core.wf hut q1 q2 q3 q4 q5 q6 q7 q8 q9 q10
              obtain ⟨d1, d2, d3⟩ := r.core.objToArr (d := o.dst.getD 0) (Nat.lt_succ_self _) hcs k2 k4 k5 k3 (on_dl _ _ _ _)
              exact .to r hd q0 (hrun _ _ k1) rfl d1 d2 d3
            split at h
            · obtain ⟨sb, hx', h1⟩ := mGy_inv h hR
              exact go _ hx' h1
            · obtain ⟨xs, hx', h1⟩ := mGe_inv h hR
              exact go _ hx' h1
          · exact absurd h.symm hR
        · exact absurd h.symm hR
      · exact absurd h.symm hR
    split at h
    · rename_i hu
      exact body true (.inr (und_some hu (by simp))) (fun _ => und_some hu (by simp)) h
    · rename_i e hu
      exact body false (.inl ⟨e, und_some hu (by simp)⟩) (fun h => by cases h) h
    · exact absurd h.symm hR
  · exact absurd h.symm hR
end
end Go.Vm
namespace Go.Vm
open Go
section
variable {C : Cx} {N : Ann} {nt : NT} {g0 g : Gh} {w0 w : World} {f : Fr} {s : St} {a : Act} {o : Oper}
variable {K : Upd → Res} {R : Res} {G : FuncId → List AV → List HO → Res}
theorem OpS.convert (hC : OkC C) (r : Rel C nt g0 w0 g w f s a) (hd : ∀ x, o.dst = some x → nt.ok x) (hR : R ≠ .stuck) {t d : TypeId} {x : Operand} (ho : o.op = .convert t d x)
    (h : opH C N G o s K R) : OpS C nt g0 w0 s a w o K R := by
  simp only [opH, opF, ho, Op.operands, List.map_cons, List.map_nil, List.getD_cons_zero, List.getD_cons_succ] at h
  split at h
  · rename_i k1 k2 hu1 hu2
    obtain ⟨k, n, hx, _, _, h1⟩ := num_inv (r.ev x) h hR
    refine .val r hd h1 (u := .int k2 (k2.wrap n)) ?_ (V_I g w (wrap_within _ _))
    simp [execOp, ho, Go.convert, run_underlying (und_some hu1 (by simp)), run_underlying (und_some hu2 (by simp)), hx, Conv.intToInt]
  · rename_i hu1 hu2
    split at h
    · rename_i av e1
      obtain ⟨m, rfl, h2⟩ := mS_inv h hR
      have hx := r.evv e1
      have hx' := (V_S' hx).1
      refine .val r hd h2 (u := a.eval x) ?_ hx
      simp [execOp, ho, Go.convert, run_underlying (und_some hu1 (by simp)), run_underlying (und_some hu2 (by simp)), hx']
    · exact absurd h.symm hR
  · rename_i e hu1 hu2
    split at h
    · rename_i hb
      have hue := und_some (byteT_und hb) (by simp)
      have fin : ∀ (ad : Option Addr) (len cap : Nat) (m : List UInt8), a.eval x = .slice ad len cap → (Conv.bytesToString (.slice ad len cap)).run C.P w = .ok (.string ⟨m.toArray⟩) w → m.length ≤ 140737488355328 → K { dst := some (.v (.S m)) } = R → OpS C nt g0 w0 s a w o K R := by
        intro ad len cap m hx hrun hle hk
        refine .val r hd hk (u := .string ⟨m.toArray⟩) ?_ (V_S g w hle)
        simp [execOp, ho, Go.convert, run_underlying (und_some hu1 (by simp)), run_underlying (und_some hu2 (by simp)), run_underlying hue, hx, hrun]
      have finV : ∀ av : AV, V g w av (a.eval x) → ((stdAlg C.pure G).mY av fun s => (stdAlg C.pure G).chk (decide (s.length ≤ C.bound)) (K { dst := some (.v (.S s)) })) = R → OpS C nt g0 w0 s a w o K R := by
        intro av hv h
        obtain ⟨m, rfl, h2⟩ := mY_inv h hR
        obtain ⟨h3, h4⟩ := chk_inv' h2 hR
        have hl : m.length ≤ C.bound := by simpa using h3
        obtain ⟨ad, len, cap, hx, _⟩ := V_Y' hv
        have hr := run_bytes_str (C := C) hv
        rw [hx] at hr
        have := hC.bound
        exact fin ad len cap m hx hr (by omega) h4
      split at h
      · rename_i k ver ver' c ex e1 e2
        split at h
        · rename_i hver
          subst hver
          obtain ⟨m, hm, h2⟩ := mY_inv h hR
          obtain ⟨h3, h4⟩ := chk_inv' h2 hR
          have hl : m.length ≤ C.bound := by simpa using h3
          have hve := r.ev x
          rw [e1] at hve e2
          simp only [loO, EV.site] at e2
          have hx := hve.2 (by rw [e2]) c ex (by rw [e2])
          have hlr := r.core.loc k
          unfold LR at hlr
          rw [e2] at hlr
          cases c with
          | e t n xs => simp [SC.toAV] at hm
          | y t sb =>
            simp only [SC.toAV, AV.Y.injEq] at hm
            subst hm
            obtain ⟨hrow, _⟩ := hlr
            rw [← hx] at hrow
            have := hC.bound
            rcases hrow.2 with ⟨e3, h0⟩ | ⟨b, cap, cur, e3, _, hblk, hle, _⟩
            · refine fin none 0 0 sb e3 ?_ (by omega) h4
              rw [List.eq_nil_of_length_eq_zero h0]
              rfl
            · refine fin _ _ cap sb e3 ?_ (by omega) h4
              have hl2 := run_loadCells_list (P := C.P) w ⟨b, 0, none⟩ ((sb.map fun x => (x.toNat : Int)).map (Value.int .u8)) (fun j v hv => by
                have := hrow.cells (g := b) (by rw [e3]; rfl) j v (by simpa using hv)
                exact this)
              rw [List.length_map, List.length_map] at hl2
              rw [run_bytesToString w ⟨b, 0, none⟩ sb.length cap _ hl2, bytes_push]
              simp
        · exact absurd h.symm hR
      · rename_i e1
        have hve := r.ev x
        rw [e1] at hve
        exact fin none 0 0 [] hve rfl (by simp) h
      · rename_i av e1
        exact finV _ (r.evv e1) h
      · rename_i k ver m off z e1
        have hve := r.ev x
        rw [e1] at hve
        exact finV _ hve.1 h
      · rename_i id off hv z e1
        have hve := r.ev x
        rw [e1] at hve
        exact finV _ hve.1 h
      · exact absurd h.symm hR
    · exact absurd h.symm hR
  · rename_i e hu1 hu2
    split at h
    · rename_i hb
      have hue := und_some (byteT_und hb) (by simp)
      split at h
      · rename_i av e1
        obtain ⟨m, rfl, h2⟩ := mS_inv h hR
        obtain ⟨hx, hm⟩ := V_S' (r.evv e1)
        have hrun := run_bytes_of_string (P := C.P) w t d e ⟨m.toArray⟩ (und_some hu1 (by simp)) (und_some hu2 (by simp)) hue
        have hch := fresh_chg (g := g) (w := w) r.core.wf (.cells (bytesRow ⟨m.toArray⟩ (grownCap w m.length 0 e)) e ((bytesRow ⟨m.toArray⟩ (grownCap w m.length 0 e)).size, (bytesRow ⟨m.toArray⟩ (grownCap w m.length 0 e)).size + 1)) m.length (.arr 0) false
        have hsz : (⟨m.toArray⟩ : ByteArray).size = m.length := rfl
        have hge := grownCap_ge w m.length 0 e
        refine .to (u := { dst := some (.v (.Y m)) }) r hd h2 (v := .slice (some ⟨w.heap.size, 0, none⟩) m.length (grownCap w m.length 0 e)) ?_ rfl
          (f' := f) ⟨r.core.heap.chg hch rfl fun _ h => h.elim, fun k => (r.core.loc k).chg hch fun _ h => h.elim, fun b i hx => ?_⟩ ⟨hch.mono fun _ _ h => h.elim, fun k => ?_, fun id => .keep rfl rfl fun cs hid j => ?_⟩ ?_
        · rw [hsz] at hrun
          simp [execOp, ho, hx, hrun]
        · rcases hx with hx | hx
          · have := r.core.wf _ _ hx
            simp
            omega
          · simp
            omega
        · refine SiteStp.same rfl rfl rfl fun mm cs hb j => ?_
          have hl := r.core.loc k
          unfold LR at hl
          rw [hb] at hl
          have := hch.blk _ hl.lt id
          simp only [World.cell?, this]
        · have := hch.blk _ (r.core.heap.obj id cs hid).lt (fun h => h)
          simp only [World.cell?, this]
        · show V _ _ (.Y m) _
          simp only [V]
          refine ⟨_, _, _, rfl, rfl, ⟨hge, by omega⟩, .inr ⟨w.heap.size, 0, rfl, VY_of m 0 fun j x hj => ⟨?_, ?_⟩⟩⟩
          · have hn := heap_alloc_new w.drew (.cells (bytesRow ⟨m.toArray⟩ (grownCap w m.length 0 e)) e ((bytesRow ⟨m.toArray⟩ (grownCap w m.length 0 e)).size, (bytesRow ⟨m.toArray⟩ (grownCap w m.length 0 e)).size + 1))
            have hn' : (w.drew.alloc (.cells (bytesRow ⟨m.toArray⟩ (grownCap w m.length 0 e)) e ((bytesRow ⟨m.toArray⟩ (grownCap w m.length 0 e)).size, (bytesRow ⟨m.toArray⟩ (grownCap w m.length 0 e)).size + 1))).heap[w.heap.size]? = _ := hn
            simp only [World.cell?, hn', Option.isSome_none, Bool.false_eq_true, if_false, Nat.zero_add]
            have hlt := (List.getElem?_eq_some_iff.1 hj).1
            unfold bytesRow
            rw [Array.getElem?_append_left (by simpa using hlt)]
            simp [hj]
          · exact .inr ⟨rfl, rfl, by have := (List.getElem?_eq_some_iff.1 hj).1; omega⟩
      · exact absurd h.symm hR
    · exact absurd h.symm hR
  · exact absurd h.symm hR
end
end Go.Vm
namespace Go.Vm
open Go
section
variable {C : Cx} {N : Ann} {nt : NT} {g0 g : Gh} {w0 w : World} {f : Fr} {s : St} {a : Act} {o : Oper}
variable {K : Upd → Res} {R : Res} {G : FuncId → List AV → List HO → Res}
def Own.isHeap : Own → Bool
  | .obj _ | .cell _ _ => true
  | _ => false
theorem Own.isHeap_iff {o : Own} : o.isHeap = true ↔ o.heap := by cases o <;> simp [Own.isHeap, Own.heap]
def GlobR (C : Cx) (g : Gh) (w : World) : Prop := ∀ gi cs, C.glob gi = some cs → VC g w gi 0 cs
def Wf (g : Gh) (w : World) : Prop := ∀ b i, g.st b i → b < w.heap.size
def Post (g0 : Gh) (w0 : World) (R : Res) : Ending → World → Prop
  | .returned u, w' => ∃ v h' g', R = .ret v h' ∧ Chg (fun b => g0.ow b ≠ none) g0 w0 g' w' ∧ HeapR g' w' h' ∧ V g' w' v u ∧ Wf g' w'
  | .panicked chain, w' => ∃ v h' u g', R = .pan v h' ∧ chain = [{ v := u, recovered := false }] ∧ Chg (fun b => g0.ow b ≠ none) g0 w0 g' w' ∧ HeapR g' w' h' ∧ V g' w' v u ∧ Wf g' w'
  | .outgrown, _ => False
def FreshR (e : TypeId) (w0 : World) (g' : Gh) (w' : World) (v : AV) (u : Value) : Prop :=
  ∃ c ow, v = c.toAV ∧ c.elem = e ∧ SR g' w' ow c true u ∧ ∀ b, u.ownBlock = some b → w0.heap.size ≤ b
def PostP (fr : Option TypeId) (g0 : Gh) (w0 : World) (R : Res) : Ending → World → Prop
  | .returned u, w' => ∃ v h' g', R = .ret v h' ∧ Chg (fun _ => False) g0 w0 g' w' ∧ Wf g' w' ∧ match fr with
    | some e => FreshR e w0 g' w' v u
    | none => V g' w' v u
  | .panicked chain, w' => ∃ v h' u g', R = .pan v h' ∧ chain = [{ v := u, recovered := false }] ∧ Chg (fun _ => False) g0 w0 g' w' ∧ V g' w' v u ∧ Wf g' w'
  | .outgrown, _ => False
def SoundF (C : Cx) (f : FuncId) (S : List AV → List HO → Res) : Prop :=
  ∀ (g : Gh) (w : World) (as : List AV) (vals : List Value) (h : List HO) (R : Res), S as h = R → R ≠ .stuck → HeapR g w h → VT g w as vals → Wf g w → GlobR C g w → (∀ b o, g.ow b = some o → o.heap) →
    Callable C.P f ∧ Calls C.P f vals.toArray w (Post g w R)
def SoundP (C : Cx) (f : FuncId) (S : List AV → List HO → Res) : Prop :=
  ∀ (g : Gh) (w : World) (as : List AV) (vals : List Value) (R : Res), S as [] = R → R ≠ .stuck → noPs as = true → g.n = 0 → VT g w as vals → Wf g w → GlobR C g w → (∀ b, g.ow b = none) →
    Callable C.P f ∧ Calls C.P f vals.toArray w (PostP (C.fresh f) g w R)
def PostE (e : TypeId) (g : Gh) (w : World) (v : AV) : Ending → World → Prop
  | .returned u, w' => ∃ g', Chg (fun b => g.ow b ≠ none) g w g' w' ∧ Wf g' w' ∧ ∃ c' ow', v = c'.toAV ∧ c'.elem = e ∧ SR g' w' ow' c' false u ∧ ∀ b, u.ownBlock = some b → w.heap.size ≤ b ∨ g.ow b ≠ none
  | _, _ => False
def SoundE (C : Cx) (f : FuncId) (S : List AV → List HO → Res) : Prop :=
  ∀ e, C.eats f = some e → ∃ k : Nat, ∀ (g : Gh) (w : World) (c : SC) (as : List AV) (u0 : Value) (vals : List Value) (v : AV) (h : List HO), S (c.toAV :: as) [.no] = .ret v h → noPs (c.toAV :: as) = true → g.n = 0 →
    c.elem = e → c.width = szT C.P e → c.isY = byteT C.P e → SR g w (.arr k) c false u0 → VT g w as vals → Wf g w → GlobR C g w → (∀ b o, g.ow b = some o → u0.ownBlock = some b) →
    Callable C.P f ∧ Calls C.P f (u0 :: vals).toArray w (PostE e g w v)
def Sound (C : Cx) (f : FuncId) (S : List AV → List HO → Res) : Prop := if C.pure f then SoundP C f S ∧ SoundE C f S else SoundF C f S
def Gh.mask (g : Gh) : Gh := { g with ow := fun b => match g.ow b with
  | some o => if o.isHeap then some o else none
  | none => none }
def Gh.bare (g : Gh) : Gh := { g with n := 0, ow := fun _ => none }
theorem Later.sameV {g g' : Gh} (w : World) (h1 : g'.n = g.n) (h2 : g'.io = g.io) (h3 : g'.st = g.st) : Later g w g' w :=
  ⟨by rw [h1]; exact Nat.le_refl _, fun _ _ => by rw [h2], fun b o h => by rw [h3]; exact h, fun _ _ _ => rfl⟩
theorem mask_heap {b : Nat} {o : Own} : g.mask.ow b = some o ↔ g.ow b = some o ∧ o.heap := by
  simp only [Gh.mask]
  cases h : g.ow b with
  | none => simp
  | some o' =>
    simp only
    split
    · rename_i hh
      constructor
      · intro e; cases e; exact ⟨rfl, Own.isHeap_iff.1 hh⟩
      · intro e; exact e.1
    · rename_i hh
      constructor
      · intro e; cases e
      · rintro ⟨e, e2⟩
        cases e
        exact absurd (Own.isHeap_iff.2 e2) hh
theorem OwnB.reown {g g' : Gh} {o : Own} {ex : Bool} {len : Nat} {u : Value} (h : OwnB g o ex len u) (hst : g'.st = g.st) (how : ∀ b, g.ow b = some o → g'.ow b = some o) : OwnB g' o ex len u := by
  intro b hb
  obtain ⟨h1, h2⟩ := h b hb
  exact ⟨how b h1, fun i => by rw [hst]; exact h2 i⟩
theorem SR.reown {g g' : Gh} {o : Own} {c : SC} {ex : Bool} {u : Value} (h : SR g w o c ex u) (h1 : g'.n = g.n) (h2 : g'.io = g.io) (hst : g'.st = g.st) (how : ∀ b, g.ow b = some o → g'.ow b = some o) : SR g' w o c ex u := by
  obtain ⟨vals, q1, q2, q3, q4⟩ := SR_iff.1 h
  exact SR_iff.2 ⟨vals, q1, q2, q3.later (Later.sameV w h1 h2 hst), q4.reown hst how⟩
theorem HVR.reown {g g' : Gh} {o : Own} {x : HV} {u : Value} (h : HVR g w o x u) (h1 : g'.n = g.n) (h2 : g'.io = g.io) (hst : g'.st = g.st) (how : ∀ b, g.ow b = some o → g'.ow b = some o) : HVR g' w o x u := by
  cases x with
  | a v => exact ⟨V.later (Later.sameV w h1 h2 hst) _ _ h.1, h.2⟩
  | g c => exact SR.reown h h1 h2 hst how
theorem BoxR.reown {g g' : Gh} {o : Own} {co : Nat → Own} {b : Nat} {cs : List HV} (h : BoxR g w o co b cs) (h1 : g'.n = g.n) (h2 : g'.io = g.io) (hst : g'.st = g.st) (how : ∀ b, g.ow b = some o → g'.ow b = some o) (hco : ∀ i b, g.ow b = some (co i) → g'.ow b = some (co i)) : BoxR g' w o co b cs := by
  obtain ⟨arr, t, p1, p2, p3⟩ := h.row
  refine ⟨how b h.ow, fun i => by rw [hst]; exact h.st i, arr, t, p1, p2, fun i x hx => ?_⟩
  obtain ⟨u, hu, hr⟩ := p3 i x hx
  exact ⟨u, hu, hr.reown h1 h2 hst (hco i)⟩
theorem MapR.reown {g g' : Gh} {o : Own} {b : Nat} {es : List (AV × AV)} (h : MapR g w o b es) (h1 : g'.n = g.n) (h2 : g'.io = g.io) (hst : g'.st = g.st) (how : ∀ b, g.ow b = some o → g'.ow b = some o) : MapR g' w o b es := by
  obtain ⟨mes, t, p1, p2, p3⟩ := h.row
  exact ⟨how b h.ow, fun i => by rw [hst]; exact h.st i, mes, t, p1, p2.later (Later.sameV w h1 h2 hst), p3⟩
theorem HeapR.reown {g g' : Gh} {hp : List HO} (h : HeapR g w hp) (h1 : g'.n = g.n) (h2 : g'.io = g.io) (hst : g'.st = g.st) (how : ∀ b (o : Own), o.heap → g.ow b = some o → g'.ow b = some o) : HeapR g' w hp := by
  refine ⟨h.len.trans h1.symm, fun id hid => by rw [h2]; exact h.lt id (by omega), fun id cs hc => ?_, fun id es hc => ?_⟩
  · rw [h2]
    exact (h.obj id cs hc).reown h1 h2 hst (fun b => how b _ trivial) (fun i b => how b _ trivial)
  · rw [h2]
    exact (h.map id es hc).reown h1 h2 hst (fun b => how b _ trivial)
def Resolves (a : Act) (o : Oper) (P : Program) (f : FuncId) (vals : List Value) : Prop := ∀ w, (execOp a.eval o).run P w = (callFunc f vals.toArray).run P w
theorem run_call {f : FuncId} {vals : List Value} (hf : Callable C.P f) (hr : Resolves a o C.P f vals) : (execOp a.eval o).run C.P w = .ok (.enter f vals.toArray) w := by
  obtain ⟨fn, h1, h2, h3⟩ := hf
  have h4 : fn.body ≠ none := by cases e : fn.body <;> simp_all
  rw [hr]
  simp [callFunc, h1, h3, h4]
theorem wp_enter {P : Program} {next : Act → World → Prop} {Q : Exit → Act → World → Prop} {f : FuncId} {args : Array Value} {w' : World}
    (h : (execOp a.eval o).run P w = .ok (.enter f args) w') (hn : Calls P f args w' fun
      | .returned v, w'' => next (a.put o.dst v) w''
      | .panicked chain, w'' => Q (.panic chain) a w''
      | .outgrown, _ => LetsOut Q) : o.wp P a w next Q := by
  unfold Oper.wp
  rw [h]
  exact hn
theorem noP_SC : ∀ (c : SC), noP c.toAV = true → ∀ g w vals, SCV g w c vals → ∀ g' w', Cells g w g' w' → SCV g' w' c vals := by
  intro c hp g w vals h g' w' hc
  cases c with
  | e t n xs =>
    refine ⟨h.1, VS.noP hc _ _ ?_ h.2⟩
    simp only [SC.toAV, noP] at hp
    have : ∀ l : List (List AV), noPss l = true → noPs l.flatten = true := by
      intro l
      induction l with
      | nil => intro _; rfl
      | cons x l ih =>
        intro hl
        simp only [noPss, Bool.and_eq_true] at hl
        have app : ∀ (p q : List AV), noPs p = true → noPs q = true → noPs (p ++ q) = true := by
          intro p
          induction p with
          | nil => intro q _ hq; exact hq
          | cons y p ih => intro q h1 h2; simp only [noPs, Bool.and_eq_true, List.cons_append] at h1 ⊢; exact ⟨h1.1, ih q h1.2 h2⟩
        exact app _ _ hl.1 (ih hl.2)
    exact this xs hp
  | y t sb => exact h
def Gh.back (g1 g' : Gh) (sz : Nat) (extra : Nat → Option Own) : Gh := { g1 with st := g'.st, ow := fun b => if b < sz then g1.ow b else extra b }
theorem back_chg {g1 g' : Gh} {w' : World} (hch : Chg (fun _ => False) g1.bare w g' w') (extra : Nat → Option Own) : Chg (fun _ => False) g1 w (g1.back g' w.heap.size extra) w' where
  later := ⟨Nat.le_refl _, fun _ _ => rfl, hch.later.st, hch.later.cell⟩
  size := hch.size
  blk := hch.blk
  ow b hb _ := by simp only [Gh.back]; rw [if_pos hb]
  st b i hb hn h := hch.st b i hb hn h
  frz := hch.frz
  os := hch.os
  tape := hch.tape
  out := hch.out
  shape := hch.shape
theorem Core.quiet {g2 : Gh} {w' : World} (hc : Core g w f s) (hch : Chg (fun _ => False) g w g2 w') (hn : g2.n = g.n) (hwf : Wf g2 w') : Core g2 w' f s ∧ Stp g w f s g2 w' f s := by
  refine ⟨⟨hc.heap.chg hch hn fun _ h => h.elim, fun k => (hc.loc k).chg hch fun _ h => h.elim, hwf⟩, ⟨hch.mono fun _ _ h => h.elim, fun k => SiteStp.same rfl rfl rfl fun mm cs hb j => ?_, fun id => .keep rfl rfl fun cs hid j => ?_⟩⟩
  · have hl := hc.loc k
    unfold LR at hl
    rw [hb] at hl
    have := hch.blk _ hl.lt id
    simp only [World.cell?, this]
  · have := hch.blk _ (hc.heap.obj id cs hid).lt (fun h => h)
    simp only [World.cell?, this]
theorem Rel.upd (r : Rel C nt g0 w0 g w f s a) (hd : ∀ x, o.dst = some x → nt.ok x) {u : Upd} {v : Value} {g' : Gh} {w' : World} {f' : Fr} {e : EV} (he : u.dst = some e)
    (hc : Core g' w' f' (Upd.on { u with dst := none } none s)) (hst : Stp g w f s g' w' f' (Upd.on { u with dst := none } none s)) (hv : VE g' w' f' (Upd.on { u with dst := none } none s) e v) : Rel C nt g0 w0 g' w' f' (u.on o.dst s) (a.put o.dst v) := by
  have := r.to hst hc rfl hd hv
  simp only [Upd.on, he, Option.getD_some, St.put] at this ⊢
  cases h : o.dst <;> simp only [h] at this ⊢ <;> exact this
theorem PostP.val {fr : Option TypeId} {e : Ending} {w' : World} (h : PostP fr g w R e w') (hn : ∀ b, g.ow b = none) : PostP none g w R e w' := by
  cases fr with
  | none => exact h
  | some t =>
    cases e with
    | outgrown => exact h
    | panicked chain => exact h
    | returned u =>
      obtain ⟨v, h', g', e1, hch, hwf, cc, ow, rfl, hel, hsr, hnew⟩ := h
      obtain ⟨g2, k1, k2, k3, k4, k5, k6⟩ := SR.give (o' := ow) hsr
      refine ⟨_, h', g2, e1, hch.trans k1 fun b hb hB => ?_, fun b i hx => (k5 b i hx).elim (hwf b i) id, SR.toV k2⟩
      have := hch.ow b hb id
      rw [hB, hn b] at this
      cases this
theorem OpS.pcallV (hC : OkC C) (r : Rel C nt g0 w0 g w f s a) (hd : ∀ x, o.dst = some x → nt.ok x) (hR : R ≠ .stuck) {fid : FuncId} (hG : Sound C fid (G fid)) (hp : C.pure fid = true)
    {as : List AV} {vals : List Value} {us : List (Nat × LOv)} {g1 : Gh} (hf : FrzL s.loc us) (hc : Core g1 w f (s.withLocs us)) (hst : Stp g w f s g1 w f (s.withLocs us)) (hv : VT g1 w as vals)
    (hr : Resolves a o C.P fid vals)
    (h' : pcall (G fid) as s.h (fun v => K { dst := some (.v v), locs := us }) = R) : OpS C nt g0 w0 s a w o K R := by
  intro next Q hn hpan
  have hlen := r.core.heap.len
  unfold pcall at h'
  split at h'
  case h_2 => exact absurd h'.symm hR
  rename_i hnp
  have hcl : Cells g1 w g1.bare w := ⟨fun _ _ h => h, fun _ _ _ => rfl⟩
  have hvb : VT g1.bare w as vals := VT.noP hcl as vals hnp hv
  have hgl : GlobR C g1.bare w := fun gi cs hg =>
    VC.noP hcl gi cs 0 (hC.glob gi cs hg) (VC.later hst.chg.later gi cs 0 (r.glob gi cs hg))
  have hS : SoundP C fid (G fid) := by
    unfold Sound at hG
    rw [if_pos hp] at hG
    exact hG.1
  cases hres : G fid as [] with
  | stuck => rw [hres] at h'; exact absurd h'.symm hR
  | upd u => rw [hres] at h'; exact absurd h'.symm hR
  | ret v hh =>
    rw [hres] at h'
    simp only at h'
    split at h'
    case h_2 => exact absurd h'.symm hR
    rename_i hnv
    obtain ⟨hcb, hcalls⟩ := hS g1.bare w as vals _ hres (by simp) hnp rfl hvb hc.wf hgl (fun _ => rfl)
    refine wp_enter (run_call hcb hr) (hcalls.mono fun e w' hpost => ?_)
    have hpost := hpost.val fun _ => rfl
    cases e with
    | outgrown => exact hpost.elim
    | panicked chain => obtain ⟨_, _, _, _, e1, _⟩ := hpost; cases e1
    | returned u =>
      obtain ⟨v', h1, g', e1, hch, hwf, hval⟩ := hpost
      cases e1
      have hch2 := back_chg hch (fun _ => none)
      obtain ⟨d1, d2⟩ := hc.quiet hch2 rfl hwf
      have hval2 : V (g1.back g' w.heap.size fun _ => none) w' v u :=
        have hcl2 : Cells g' w' (g1.back g' w.heap.size fun _ => none) w' := ⟨fun _ _ h => h, fun _ _ _ => rfl⟩
        V.noP hcl2 v u hnv hval
      exact hn _ _ _ f _ h' (r.upd (u := { dst := some (.v v), locs := us }) hd rfl d1 (hst.trans hlen d2) hval2)
  | pan v hh =>
    rw [hres] at h'
    simp only at h'
    split at h'
    case h_2 => exact absurd h'.symm hR
    rename_i hnv
    obtain ⟨hcb, hcalls⟩ := hS g1.bare w as vals _ hres (by simp) hnp rfl hvb hc.wf hgl (fun _ => rfl)
    refine wp_enter (run_call hcb hr) (hcalls.mono fun e w' hpost => ?_)
    cases e with
    | outgrown => exact hpost.elim
    | returned u => obtain ⟨_, _, _, e1, _⟩ := hpost; cases e1
    | panicked chain =>
      obtain ⟨v', h1, u, g', e1, e2, hch, hval, hwf⟩ := hpost
      cases e1
      subst e2
      have hch2 := back_chg hch (fun _ => none)
      obtain ⟨d1, d2⟩ := hc.quiet hch2 rfl hwf
      have hval2 : V (g1.back g' w.heap.size fun _ => none) w' v u :=
        have hcl2 : Cells g' w' (g1.back g' w.heap.size fun _ => none) w' := ⟨fun _ _ h => h, fun _ _ _ => rfl⟩
        V.noP hcl2 v u hnv hval
      have hs2 := hst.trans hlen d2
      exact hpan v s.h u _ w' h'.symm (r.ext.trans hs2.chg fun b hb hB hn => hB ((r.ext.ow b hb (fun x => x hn)).trans hn)) d1.heap hval2 d1.wf
theorem OpS.callF (r : Rel C nt g0 w0 g w f s a) (hd : ∀ x, o.dst = some x → nt.ok x) (hR : R ≠ .stuck) {fid : FuncId} (hG : Sound C fid (G fid)) (hp : C.pure fid = false)
    {as : List AV} {vals : List Value} {us : List (Nat × LOv)} {g1 : Gh} (hf : FrzL s.loc us) (hc : Core g1 w f (s.withLocs us)) (hst : Stp g w f s g1 w f (s.withLocs us)) (hv : VT g1 w as vals)
    (hr : Resolves a o C.P fid vals)
    (h' : bRes (G fid as s.h) (fun v h' => K { dst := some (.v v), locs := us, heap := some h' }) = R) : OpS C nt g0 w0 s a w o K R := by
  intro next Q hn hpan
  have hlen := r.core.heap.len
  have hlm : Later g1 w g1.mask w := Later.sameV w rfl rfl rfl
  have hvm : VT g1.mask w as vals := VT.later hlm _ _ hv
  have hgl : GlobR C g1.mask w := fun gi cs hg => VC.later hlm gi cs 0 (VC.later hst.chg.later gi cs 0 (r.glob gi cs hg))
  have hhm : HeapR g1.mask w s.h := hc.heap.reown rfl rfl rfl fun b ow how hb => mask_heap.2 ⟨hb, how⟩
  have hS : SoundF C fid (G fid) := by
    unfold Sound at hG
    rw [if_neg (by simp [hp])] at hG
    exact hG
  have hne : G fid as s.h ≠ .stuck := by
    intro e
    rw [e] at h'
    exact hR h'.symm
  obtain ⟨hcb, hcalls⟩ := hS g1.mask w as vals s.h _ rfl hne hhm hvm hc.wf hgl (fun b ow hb => (mask_heap.1 hb).2)
  have back : ∀ (g' : Gh) (w' : World) (h2 : List HO), Chg (fun b => g1.mask.ow b ≠ none) g1.mask w g' w' → HeapR g' w' h2 → Wf g' w' →
      ∃ g2, g2.n = g'.n ∧ g2.io = g'.io ∧ g2.st = g'.st ∧ Core g2 w' f { (s.withLocs us) with h := h2, hv := fun i => s.hv i + 1 } ∧ Stp g1 w f (s.withLocs us) g2 w' f { (s.withLocs us) with h := h2, hv := fun i => s.hv i + 1 } := by
    intro g' w' h2 hch hheap hwf
    have hnB : ∀ b, g1.mask.ow b ≠ none ↔ ∃ ow, g1.ow b = some ow ∧ ow.heap := by
      intro b
      constructor
      · intro h
        cases e : g1.mask.ow b with
        | none => exact absurd e h
        | some ow => exact ⟨ow, mask_heap.1 e⟩
      · rintro ⟨ow, h⟩ h2
        rw [mask_heap.2 h] at h2
        cases h2
    let g2 : Gh := { g' with ow := fun b => match g1.ow b with
      | some ow => if ow.isHeap then g'.ow b else (if b < w.heap.size then some ow else g'.ow b)
      | none => g'.ow b }
    have how2 : ∀ b (ow : Own), ow.heap → g'.ow b = some ow → g2.ow b = some ow := by
      intro b ow hh hb
      show (match g1.ow b with
        | some ow => if ow.isHeap then g'.ow b else (if b < w.heap.size then some ow else g'.ow b)
        | none => g'.ow b) = some ow
      split
      · rename_i ow1 e1
        split
        · exact hb
        · rename_i hnh
          split
          · rename_i hlt
            have : g1.mask.ow b = none := by
              cases e : g1.mask.ow b with
              | none => rfl
              | some ow3 =>
                obtain ⟨e3, e4⟩ := mask_heap.1 e
                rw [e1] at e3
                cases e3
                exact absurd (Own.isHeap_iff.2 e4) hnh
            have h3 := hch.ow b hlt (fun x => x this)
            rw [this, hb] at h3
            cases h3
          · exact hb
      · exact hb
    have hch2 : Chg (fun b => ∃ ow, g1.ow b = some ow ∧ ow.heap) g1 w g2 w' := by
      refine ⟨⟨hch.later.n, hch.later.io, hch.later.st, hch.later.cell⟩, hch.size, fun b hb hn => hch.blk b hb (fun x => hn ((hnB b).1 x)), fun b hb hn => ?_, fun b i hb hn h => hch.st b i hb (fun x => hn ((hnB b).1 x)) h, hch.frz, hch.os, hch.tape, hch.out, hch.shape⟩
      show (match g1.ow b with
        | some ow => if ow.isHeap then g'.ow b else (if b < w.heap.size then some ow else g'.ow b)
        | none => g'.ow b) = g1.ow b
      split
      · rename_i ow1 e1
        rw [if_neg (fun hh => hn ⟨ow1, e1, Own.isHeap_iff.1 hh⟩), if_pos hb, e1]
      · rename_i e1
        have : g1.mask.ow b = none := by simp [Gh.mask, e1]
        have h3 := hch.ow b hb (fun x => x this)
        rw [h3, this, e1]
    refine ⟨g2, rfl, rfl, rfl, ⟨hheap.reown rfl rfl rfl how2, fun k => ?_, hwf⟩, ⟨hch2.mono fun b _ e => by obtain ⟨ow, e, _⟩ := e; rw [e]; simp, fun k => ?_, fun _ => .inl (Nat.lt_succ_self _)⟩⟩
    · refine (hc.loc k).chg hch2 ?_
      rintro b ⟨ow, e, hh⟩ ow2 ho2 e2
      rw [e] at e2
      cases e2
      cases ow <;> simp [Own.heap, Own.site] at hh ho2
    · refine SiteStp.same rfl rfl rfl fun mm cs hb j => ?_
      have hl := hc.loc k
      unfold LR at hl
      rw [hb] at hl
      have := hch2.blk _ hl.lt (by rintro ⟨ow, e, hh⟩; rw [hl.ow] at e; cases e; exact hh)
      simp only [World.cell?, this]
  refine wp_enter (run_call hcb hr) (hcalls.mono fun e w' hpost => ?_)
  cases e with
  | outgrown => exact hpost.elim
  | returned u =>
    obtain ⟨v, h2, g', e1, hch, hheap, hval, hwf⟩ := hpost
    rw [e1] at h'
    obtain ⟨g2, b1, b2, b3, d1, d2⟩ := back g' w' h2 hch hheap hwf
    have hval2 : V g2 w' v u := V.later (Later.sameV w' b1 b2 b3) v u hval
    exact hn _ _ _ f _ h' (r.upd (u := { dst := some (.v v), locs := us, heap := some h2 }) hd rfl d1 (hst.trans hlen d2) hval2)
  | panicked chain =>
    obtain ⟨v, h2, u, g', e1, e2, hch, hheap, hval, hwf⟩ := hpost
    rw [e1] at h'
    subst e2
    obtain ⟨g2, b1, b2, b3, d1, d2⟩ := back g' w' h2 hch hheap hwf
    have hval2 : V g2 w' v u := V.later (Later.sameV w' b1 b2 b3) v u hval
    have hs2 := hst.trans hlen d2
    exact hpan v h2 u _ w' h'.symm (r.ext.trans hs2.chg fun b hb hB hn => hB ((r.ext.ow b hb (fun x => x hn)).trans hn)) d1.heap hval2 d1.wf
def Own.id : Own → Nat
  | .obj i | .cell i _ => i
  | _ => 0
def Own.seen (l : List Nat) (o : Own) : Prop := o.heap ∧ o.id ∈ l
instance (l : List Nat) (o : Own) : Decidable (o.seen l) := by unfold Own.seen; cases o <;> simp only [Own.heap] <;> infer_instance
def Gh.maskV (g : Gh) (l : List Nat) : Gh := { g with ow := fun b => match g.ow b with
  | some o => if o.seen l then some o else none
  | none => none }
theorem maskV_ow {l : List Nat} {b : Nat} {o : Own} : (g.maskV l).ow b = some o ↔ g.ow b = some o ∧ o.seen l := by
  simp only [Gh.maskV]
  cases h : g.ow b with
  | none => simp
  | some o' =>
    simp only
    split
    · rename_i hh
      constructor
      · intro e; cases e; exact ⟨rfl, hh⟩
      · intro e; exact e.1
    · rename_i hh
      constructor
      · intro e; cases e
      · rintro ⟨e, e2⟩
        cases e
        exact absurd e2 hh
theorem any_beq {l : List Nat} {i : Nat} : l.any (Nat.beq i) = true ↔ i ∈ l := by
  simp only [List.any_eq_true]
  constructor
  · rintro ⟨x, hx, e⟩
    rw [Nat.eq_of_beq_eq_true e]; exact hx
  · intro h
    exact ⟨i, h, by simp⟩
theorem maskH_length (l : List Nat) : ∀ (h : List HO) (k : Nat), (maskH l k h).length = h.length
  | [], _ => rfl
  | _ :: h, k => by simp [maskH, maskH_length l h]
theorem maskH_get (l : List Nat) : ∀ (h : List HO) (k i : Nat), (maskH l k h)[i]? = (h[i]?).map fun x => bif l.any (Nat.beq (k + i)) then x else .no
  | [], _, _ => by simp [maskH]
  | x :: h, k, 0 => by simp [maskH]
  | x :: h, k, i + 1 => by
    simp only [maskH, List.getElem?_cons_succ, maskH_get l h]
    rw [show k + 1 + i = k + (i + 1) by omega]
theorem maskH_some {l : List Nat} {h : List HO} {i : Nat} {x : HO} (hx : (maskH l 0 h)[i]? = some x) (hn : x ≠ .no) : h[i]? = some x ∧ i ∈ l := by
  rw [maskH_get] at hx
  simp only [Nat.zero_add] at hx
  cases e : h[i]? with
  | none => rw [e] at hx; cases hx
  | some y =>
    rw [e] at hx
    simp only [Option.map_some, Option.some.injEq] at hx
    cases e2 : l.any (Nat.beq i) with
    | false => rw [e2] at hx; exact absurd hx.symm hn
    | true => rw [e2] at hx; exact ⟨by rw [← hx]; rfl, any_beq.1 e2⟩
theorem maskH_agree {l : List Nat} {h h' : List HO} (e1 : h'.length = h.length) (e2 : ∀ i ∈ l, h'[i]? = h[i]?) : maskH l 0 h' = maskH l 0 h := by
  apply List.ext_getElem?
  intro i
  rw [maskH_get, maskH_get, Nat.zero_add]
  by_cases hi : i ∈ l
  · rw [e2 i hi]
  · have : l.any (Nat.beq i) = false := by
      rw [Bool.eq_false_iff]
      exact fun e => hi (any_beq.1 e)
    rw [this]
    rcases Nat.lt_or_ge i h.length with hl | hl
    · rw [List.getElem?_eq_getElem hl, List.getElem?_eq_getElem (by omega)]; rfl
    · rw [List.getElem?_eq_none hl, List.getElem?_eq_none (by omega)]
theorem setH_length : ∀ (dl : List (Nat × HO)) (h : List HO), (setH h dl).length = h.length
  | [], _ => rfl
  | (i, x) :: dl, h => by simp [setH, setH_length dl]
theorem setH_get (f : Nat → HO) : ∀ (l : List Nat) (h : List HO) (i : Nat), i < h.length → (setH h (l.map fun i => (i, f i)))[i]? = if i ∈ l then some (f i) else h[i]?
  | [], _, _, _ => by simp [setH]
  | j :: l, h, i, hi => by
    simp only [List.map_cons, setH]
    rw [setH_get f l _ i (by simpa using hi)]
    by_cases h1 : i ∈ l
    · simp [h1]
    · by_cases h2 : i = j
      · subst h2
        simp [h1, hi]
      · have : ¬ j = i := fun e => h2 e.symm
        simp [h1, h2, this]
theorem hasId_iff {i : Nat} : ∀ (dl : List (Nat × HO)), hasId i dl = true ↔ i ∈ dl.map (·.1)
  | [] => by simp [hasId]
  | (j, x) :: dl => by
    simp only [hasId, List.map_cons, List.mem_cons]
    cases e : Nat.beq j i with
    | true => simp [(Nat.eq_of_beq_eq_true e).symm]
    | false =>
      have : ¬ i = j := fun h => by subst h; simp at e
      simp only [cond_false, this, false_or]
      exact hasId_iff dl
theorem hvOf_eq {u : Upd} (hu : u.heap = none) (hv : Nat → Nat) (i : Nat) : u.hvOf hv i = if i ∈ u.dl.map (·.1) then hv i + 1 else hv i := by
  unfold Upd.hvOf
  rw [hu]
  cases e : u.dl with
  | nil => simp
  | cons p r =>
    simp only
    cases e2 : hasId i (p :: r) with
    | true => rw [if_pos ((hasId_iff _).1 e2)]; rfl
    | false => rw [if_neg (fun h => by rw [(hasId_iff _).2 h] at e2; cases e2)]; rfl
theorem OpS.callM (r : Rel C nt g0 w0 g w f s a) (hd : ∀ x, o.dst = some x → nt.ok x) (hR : R ≠ .stuck) {fid : FuncId} (hG : Sound C fid (G fid)) (hp : C.pure fid = false)
    {as : List AV} {vals : List Value} {us : List (Nat × LOv)} {g1 : Gh} (hf : FrzL s.loc us) (hc : Core g1 w f (s.withLocs us)) (hst : Stp g w f s g1 w f (s.withLocs us)) (hv : VT g1 w as vals)
    (hr : Resolves a o C.P fid vals) {l : List Nat}
    (h' : bRes (G fid as (maskH l 0 s.h)) (fun v h' => chk (Nat.beq h'.length s.h.length) (K { dst := some (.v v), locs := us, dl := l.map fun i => (i, h'.getD i .no) })) = R) : OpS C nt g0 w0 s a w o K R := by
  intro next Q hn hpan
  have hlen := r.core.heap.len
  have hlm : Later g1 w (g1.maskV l) w := Later.sameV w rfl rfl rfl
  have hvm : VT (g1.maskV l) w as vals := VT.later hlm _ _ hv
  have hgl : GlobR C (g1.maskV l) w := fun gi cs hg => VC.later hlm gi cs 0 (VC.later hst.chg.later gi cs 0 (r.glob gi cs hg))
  have hhm : HeapR (g1.maskV l) w (maskH l 0 s.h) := by
    have hh := hc.heap
    refine ⟨by rw [maskH_length]; exact hh.len, hh.lt, fun id cs hx => ?_, fun id es hx => ?_⟩
    · obtain ⟨h1, h2⟩ := maskH_some hx (by simp)
      exact (hh.obj id cs h1).reown rfl rfl rfl (fun b hb => maskV_ow.2 ⟨hb, trivial, h2⟩) (fun i b hb => maskV_ow.2 ⟨hb, trivial, h2⟩)
    · obtain ⟨h1, h2⟩ := maskH_some hx (by simp)
      exact (hh.map id es h1).reown rfl rfl rfl (fun b hb => maskV_ow.2 ⟨hb, trivial, h2⟩)
  have hS : SoundF C fid (G fid) := by
    unfold Sound at hG
    rw [if_neg (by simp [hp])] at hG
    exact hG
  have hne : G fid as (maskH l 0 s.h) ≠ .stuck := by
    intro e
    rw [e] at h'
    exact hR h'.symm
  obtain ⟨hcb, hcalls⟩ := hS (g1.maskV l) w as vals (maskH l 0 s.h) _ rfl hne hhm hvm hc.wf hgl (fun b ow hb => (maskV_ow.1 hb).2.1)
  have back0 : ∀ (g' : Gh) (w' : World), Chg (fun b => (g1.maskV l).ow b ≠ none) (g1.maskV l) w g' w' →
      ∃ g2 : Gh, g2.n = g'.n ∧ g2.io = g'.io ∧ g2.st = g'.st ∧ (∀ b (ow : Own), ow.heap → g'.ow b = some ow → g2.ow b = some ow) ∧ Chg (fun b => ∃ ow, g1.ow b = some ow ∧ ow.seen l) g1 w g2 w' := by
    intro g' w' hch
    have hnB : ∀ b, (g1.maskV l).ow b ≠ none ↔ ∃ ow, g1.ow b = some ow ∧ ow.seen l := by
      intro b
      constructor
      · intro h
        cases e : (g1.maskV l).ow b with
        | none => exact absurd e h
        | some ow => exact ⟨ow, maskV_ow.1 e⟩
      · rintro ⟨ow, h⟩ h2
        rw [maskV_ow.2 h] at h2
        cases h2
    let g2 : Gh := { g' with ow := fun b => match g1.ow b with
      | some ow => if ow.seen l then g'.ow b else (if b < w.heap.size then some ow else g'.ow b)
      | none => g'.ow b }
    have how2 : ∀ b (ow : Own), ow.heap → g'.ow b = some ow → g2.ow b = some ow := by
      intro b ow hh hb
      show (match g1.ow b with
        | some ow => if ow.seen l then g'.ow b else (if b < w.heap.size then some ow else g'.ow b)
        | none => g'.ow b) = some ow
      split
      · rename_i ow1 e1
        split
        · exact hb
        · rename_i hnh
          split
          · rename_i hlt
            have : (g1.maskV l).ow b = none := by
              cases e : (g1.maskV l).ow b with
              | none => rfl
              | some ow3 =>
                obtain ⟨e3, e4⟩ := maskV_ow.1 e
                rw [e1] at e3
                cases e3
                exact absurd e4 hnh
            have h3 := hch.ow b hlt (fun x => x this)
            rw [this, hb] at h3
            cases h3
          · exact hb
      · exact hb
    have hch2 : Chg (fun b => ∃ ow, g1.ow b = some ow ∧ ow.seen l) g1 w g2 w' := by
      refine ⟨⟨hch.later.n, hch.later.io, hch.later.st, hch.later.cell⟩, hch.size, fun b hb hn => hch.blk b hb (fun x => hn ((hnB b).1 x)), fun b hb hn => ?_, fun b i hb hn h => hch.st b i hb (fun x => hn ((hnB b).1 x)) h, hch.frz, hch.os, hch.tape, hch.out, hch.shape⟩
      show (match g1.ow b with
        | some ow => if ow.seen l then g'.ow b else (if b < w.heap.size then some ow else g'.ow b)
        | none => g'.ow b) = g1.ow b
      split
      · rename_i ow1 e1
        rw [if_neg (fun hh => hn ⟨ow1, e1, hh⟩), if_pos hb, e1]
      · rename_i e1
        have : (g1.maskV l).ow b = none := by simp [Gh.maskV, e1]
        have h3 := hch.ow b hb (fun x => x this)
        rw [h3, this, e1]
    exact ⟨g2, rfl, rfl, rfl, how2, hch2⟩
  have back : ∀ (g' : Gh) (w' : World) (h2 : List HO), Chg (fun b => (g1.maskV l).ow b ≠ none) (g1.maskV l) w g' w' → HeapR g' w' h2 → Wf g' w' → h2.length = s.h.length → ∀ s2 : St, s2 = Upd.on { dst := none, locs := us, dl := l.map fun i => (i, h2.getD i .no) } none s →
      ∃ g2, g2.n = g'.n ∧ g2.io = g'.io ∧ g2.st = g'.st ∧ Core g2 w' f s2 ∧ Stp g1 w f (s.withLocs us) g2 w' f s2 := by
    intro g' w' h2 hch hheap hwf hl2 s2 hs2
    obtain ⟨g2, z1, z2, z3, how2, hch2⟩ := back0 g' w' hch
    have hn2 : g2.n = g1.n := by
      rw [z1, ← hheap.len, hl2, hc.heap.len.symm]
      rfl
    have hloc : s2.loc = (s.withLocs us).loc := by rw [hs2]; rfl
    have hh2 : s2.h = setH s.h (l.map fun i => (i, h2.getD i .no)) := by rw [hs2]; rfl
    have hget : ∀ i, i < s.h.length → s2.h[i]? = if i ∈ l then some (h2.getD i .no) else s.h[i]? := fun i hi => by rw [hh2]; exact setH_get _ l s.h i hi
    have hlen2 : s2.h.length = s.h.length := by rw [hh2, setH_length]
    have hgd : ∀ i x, i < s.h.length → h2.getD i .no = x → h2[i]? = some x := by
      intro i x hi e
      rw [List.getD_eq_getElem?_getD, List.getElem?_eq_getElem (by omega)] at e
      rw [List.getElem?_eq_getElem (by omega)]
      exact congrArg some e
    have hgn : s.h.length = g1.n := hc.heap.len
    refine ⟨g2, z1, z2, z3, ⟨⟨by rw [hlen2, hn2, hgn], fun id hid => by rw [z2]; exact hheap.lt id (by omega), fun id cs hx => ?_, fun id es hx => ?_⟩, fun k => ?_, fun b i hx => hwf b i (by rw [← z3]; exact hx)⟩, ⟨hch2.mono fun b _ e => by obtain ⟨ow, e, _⟩ := e; rw [e]; simp, fun k => ?_, fun id => ?_⟩⟩
    · have hid : id < s.h.length := by rw [← hlen2]; exact (List.getElem?_eq_some_iff.1 hx).1
      rw [hget id hid] at hx
      split at hx
      · simp only [Option.some.injEq] at hx
        exact z2 ▸ (hheap.obj id cs (hgd id _ hid hx)).reown (g' := g2) z1 z2 z3 (fun b => how2 b _ trivial) (fun i b => how2 b _ trivial)
      · rename_i hni
        have := (hc.heap.obj id cs hx).chgO hch2 (by rintro b ⟨ow, e, hh⟩ e2; rw [e] at e2; cases e2; exact hni hh.2) (by rintro i b ⟨ow, e, hh⟩ e2; rw [e] at e2; cases e2; exact hni hh.2)
        rw [show g2.io id = g1.io id from hch2.later.io id (by omega)]
        exact this
    · have hid : id < s.h.length := by rw [← hlen2]; exact (List.getElem?_eq_some_iff.1 hx).1
      rw [hget id hid] at hx
      split at hx
      · simp only [Option.some.injEq] at hx
        exact z2 ▸ (hheap.map id es (hgd id _ hid hx)).reown (g' := g2) z1 z2 z3 (fun b => how2 b _ trivial)
      · rename_i hni
        have := (hc.heap.map id es hx).chgO hch2 (by rintro b ⟨ow, e, hh⟩ e2; rw [e] at e2; cases e2; exact hni hh.2)
        rw [show g2.io id = g1.io id from hch2.later.io id (by omega)]
        exact this
    · rw [hloc]
      refine (hc.loc k).chg hch2 ?_
      rintro b ⟨ow, e, hh⟩ ow2 ho2 e2
      rw [e] at e2
      cases e2
      have := hh.1
      cases ow <;> simp [Own.heap, Own.site] at this ho2
    · refine SiteStp.same (by rw [hloc]) rfl rfl fun mm cs hb j => ?_
      have hl := hc.loc k
      unfold LR at hl
      rw [hb] at hl
      have := hch2.blk _ hl.lt (by rintro ⟨ow, e, hh⟩; rw [hl.ow] at e; cases e; exact hh.1)
      simp only [World.cell?, this]
    · have hhv : s2.hv id = if id ∈ l then s.hv id + 1 else s.hv id := by
        rw [hs2]
        have e : ∀ u : Upd, (Upd.on u none s).hv = u.hvOf s.hv := fun _ => rfl
        rw [e, hvOf_eq rfl]
        simp
      by_cases hi : id ∈ l
      · rw [if_pos hi] at hhv
        exact .inl (by rw [hhv]; exact Nat.lt_succ_self _)
      · rw [if_neg hi] at hhv
        refine .inr ⟨hhv, fun cs hid => ?_⟩
        have hid' : s.h[id]? = some (.cells cs) := hid
        have hlt := (List.getElem?_eq_some_iff.1 hid').1
        refine ⟨by rw [hget id hlt, if_neg hi]; exact hid', fun i => ?_⟩
        have hb := hc.heap.obj id cs hid
        have := hch2.blk _ hb.lt (by rintro ⟨ow, e, hh⟩; rw [hb.ow] at e; cases e; exact hi hh.2)
        simp only [World.cell?, this]
  refine wp_enter (run_call hcb hr) (hcalls.mono fun e w' hpost => ?_)
  cases e with
  | outgrown => exact hpost.elim
  | returned u =>
    obtain ⟨v, h2, g', e1, hch, hheap, hval, hwf⟩ := hpost
    rw [e1] at h'
    have h'' : chk (Nat.beq h2.length s.h.length) (K { dst := some (.v v), locs := us, dl := l.map fun i => (i, h2.getD i .no) }) = R := h'
    obtain ⟨hb, hk⟩ := chk_inv h'' hR
    obtain ⟨g2, b1, b2, b3, d1, d2⟩ := back g' w' h2 hch hheap hwf (Nat.eq_of_beq_eq_true hb) _ rfl
    have hval2 : V g2 w' v u := V.later (Later.sameV w' b1 b2 b3) v u hval
    exact hn _ _ _ f _ hk (r.upd (u := { dst := some (.v v), locs := us, dl := l.map fun i => (i, h2.getD i .no) }) hd rfl d1 (hst.trans hlen d2) hval2)
  | panicked chain =>
    obtain ⟨v, h2, u, g', e1, e2, hch, hheap, hval, hwf⟩ := hpost
    rw [e1] at h'
    subst e2
    obtain ⟨g2, z1, z2, z3, how2, hch2⟩ := back0 g' w' hch
    have hval2 : V g2 w' v u := V.later (Later.sameV w' z1 z2 z3) v u hval
    have hwf2 : Wf g2 w' := fun b i hx => hwf b i (by rw [← z3]; exact hx)
    have hch3 := hst.chg.trans (hch2.mono (B' := fun b => g1.ow b ≠ none) fun b _ e => by obtain ⟨ow, e, _⟩ := e; rw [e]; simp) fun b hb hB hn => hB ((hst.chg.ow b hb (fun x => x hn)).trans hn)
    exact hpan v h2 u _ w' h'.symm (r.ext.trans hch3 fun b hb hB hn => hB ((r.ext.ow b hb (fun x => x hn)).trans hn)) (hheap.reown z1 z2 z3 how2) hval2 hwf2
theorem OpS.callP (hC : OkC C) (r : Rel C nt g0 w0 g w f s a) (hd : ∀ x, o.dst = some x → nt.ok x) (hR : R ≠ .stuck) {fid : FuncId} (hG : Sound C fid (G fid)) (hp : C.pure fid = true)
    {as : List AV} {vals : List Value} {us : List (Nat × LOv)} {g1 : Gh} (hf : FrzL s.loc us) (hc : Core g1 w f (s.withLocs us)) (hst : Stp g w f s g1 w f (s.withLocs us)) (hv : VT g1 w as vals)
    (hr : Resolves a o C.P fid vals)
    {vis : Option (List Nat)} (h : callK (stdAlg C.pure G) C o.dst (s.loc (o.dst.getD 0)) o.type fid as us vis s.h K = R) : OpS C nt g0 w0 s a w o K R := by
  intro next Q hn hpan
  have hlen := r.core.heap.len
  unfold callK at h
  rw [if_pos hp] at h
  have h' : pcall (G fid) as s.h (fun v => match C.fresh fid with
      | some e => (match o.dst with
        | some d => if byteT C.P e then mY v fun sb => K { dst := some (.ls d ((s.loc (o.dst.getD 0)).ver + 1)), locs := (d, ⟨(s.loc (o.dst.getD 0)).ver + 1, .arr (.y e sb) true⟩) :: us }
            else mL (szT C.P e) v fun xs => K { dst := some (.ls d ((s.loc (o.dst.getD 0)).ver + 1)), locs := (d, ⟨(s.loc (o.dst.getD 0)).ver + 1, .arr (.e e (szT C.P e) xs) true⟩) :: us }
        | none => .stuck)
      | none => K { dst := some (.v v), locs := us }) = R := h
  unfold pcall at h'
  split at h'
  case h_2 => exact absurd h'.symm hR
  rename_i hnp
  have hcl : Cells g1 w g1.bare w := ⟨fun _ _ h => h, fun _ _ _ => rfl⟩
  have hvb : VT g1.bare w as vals := VT.noP hcl as vals hnp hv
  have hgl : GlobR C g1.bare w := fun gi cs hg =>
    VC.noP hcl gi cs 0 (hC.glob gi cs hg) (VC.later hst.chg.later gi cs 0 (r.glob gi cs hg))
  have hS : SoundP C fid (G fid) := by
    unfold Sound at hG
    rw [if_pos hp] at hG
    exact hG.1
  cases hres : G fid as [] with
  | stuck => rw [hres] at h'; exact absurd h'.symm hR
  | upd u => rw [hres] at h'; exact absurd h'.symm hR
  | ret v hh =>
    rw [hres] at h'
    simp only at h'
    split at h'
    case h_2 => exact absurd h'.symm hR
    rename_i hnv
    obtain ⟨hcb, hcalls⟩ := hS g1.bare w as vals _ hres (by simp) hnp rfl hvb hc.wf hgl (fun _ => rfl)
    refine wp_enter (run_call hcb hr) (hcalls.mono fun e w' hpost => ?_)
    cases e with
    | outgrown => exact hpost.elim
    | panicked chain => obtain ⟨_, _, _, _, e1, _⟩ := hpost; cases e1
    | returned u =>
      obtain ⟨v', h1, g', e1, hch, hwf, hval⟩ := hpost
      cases e1
      cases hfr : C.fresh fid with
      | some e =>
        rw [hfr] at h' hval
        obtain ⟨cc, ow, hvc, hel, hsr, hnew⟩ := hval
        cases hdst : o.dst with
        | none => rw [hdst] at h'; exact absurd h'.symm hR
        | some d =>
          rw [hdst] at h'
          simp only [Option.getD_some] at h'
          obtain ⟨g2, hch2, hwf2, hsr2, hn2⟩ : ∃ g2, Chg (fun _ => False) g1 w g2 w' ∧ Wf g2 w' ∧ SR g2 w' (.arr d) cc true u ∧ g2.n = g1.n := by
            refine ⟨g1.back g' w.heap.size (fun b => if u.ownBlock = some b then some (.arr d) else none), back_chg hch _, hwf, ?_, rfl⟩
            obtain ⟨vals', q1, q2, q3, q4⟩ := SR_iff.1 hsr
            refine SR_iff.2 ⟨vals', q1, q2, noP_SC cc (by rw [← hvc]; exact hnv) _ _ _ q3 _ _ ⟨fun _ _ h => h, fun _ _ _ => rfl⟩, fun b hb => ?_⟩
            refine ⟨?_, fun i => (q4 b hb).2 i⟩
            have := hnew b hb
            simp only [Gh.back]
            rw [if_neg (by omega), if_pos hb]
          have hver := withLocs_ver hf d
          obtain ⟨d1, d2, d3⟩ := hc.newSlice d ((s.loc d).ver + 1) (by rw [hver]; exact Nat.lt_succ_self _) (hch2.mono (B' := fun b => g1.ow b = some (.arr d)) fun _ _ h => h.elim) hn2 hwf2 hsr2
          have fin : K { dst := some (.ls d ((s.loc d).ver + 1)), locs := (d, ⟨(s.loc d).ver + 1, .arr cc true⟩) :: us } = R → next (a.put (some d) u) w' := by
            intro hk
            rw [← withLocs_cons] at d1 d2 d3
            have hrel := r.to (hst.trans hlen d2) d1 rfl hd d3
            rw [hdst] at hrel
            refine hn _ g2 w' (f.setHd d u) _ hk ?_
            rw [hdst]
            simp only [Upd.on, Option.getD_some, St.put] at hrel ⊢
            exact hrel
          split at h'
          · obtain ⟨sb, hsb, hk⟩ := mY_inv h' hR
            rw [hsb] at hvc
            cases cc with
            | e t n xs => simp [SC.toAV] at hvc
            | y t sb' =>
              simp only [SC.toAV, AV.Y.injEq] at hvc
              simp only [SC.elem] at hel
              subst hvc
              subst hel
              exact fin hk
          · obtain ⟨xs, hsb, hk⟩ := mL_inv h' hR
            rw [hsb] at hvc
            cases cc with
            | y t sb' => simp [SC.toAV] at hvc
            | e t n xs' =>
              simp only [SC.toAV, AV.L.injEq] at hvc
              simp only [SC.elem] at hel
              obtain ⟨e1, e2⟩ := hvc
              subst hel
              rw [e1, e2] at hk
              exact fin hk
      | none =>
        rw [hfr] at h' hval
        have hch2 := back_chg hch (fun _ => none)
        obtain ⟨d1, d2⟩ := hc.quiet hch2 rfl hwf
        have hval2 : V (g1.back g' w.heap.size fun _ => none) w' v u :=
          have hcl2 : Cells g' w' (g1.back g' w.heap.size fun _ => none) w' := ⟨fun _ _ h => h, fun _ _ _ => rfl⟩
          V.noP hcl2 v u hnv hval
        exact hn _ _ _ f _ h' (r.upd (u := { dst := some (.v v), locs := us }) hd rfl d1 (hst.trans hlen d2) hval2)
  | pan v hh =>
    rw [hres] at h'
    simp only at h'
    split at h'
    case h_2 => exact absurd h'.symm hR
    rename_i hnv
    obtain ⟨hcb, hcalls⟩ := hS g1.bare w as vals _ hres (by simp) hnp rfl hvb hc.wf hgl (fun _ => rfl)
    refine wp_enter (run_call hcb hr) (hcalls.mono fun e w' hpost => ?_)
    cases e with
    | outgrown => exact hpost.elim
    | returned u => obtain ⟨_, _, _, e1, _⟩ := hpost; cases e1
    | panicked chain =>
      obtain ⟨v', h1, u, g', e1, e2, hch, hval, hwf⟩ := hpost
      cases e1
      subst e2
      have hch2 := back_chg hch (fun _ => none)
      obtain ⟨d1, d2⟩ := hc.quiet hch2 rfl hwf
      have hval2 : V (g1.back g' w.heap.size fun _ => none) w' v u :=
          have hcl2 : Cells g' w' (g1.back g' w.heap.size fun _ => none) w' := ⟨fun _ _ h => h, fun _ _ _ => rfl⟩
          V.noP hcl2 v u hnv hval
      have hs2 := hst.trans hlen d2
      exact hpan v s.h u _ w' h'.symm (r.ext.trans hs2.chg fun b hb hB hn => hB ((r.ext.ow b hb (fun x => x hn)).trans hn)) d1.heap hval2 d1.wf
end
end Go.Vm
namespace Go.Vm
open Go
section
variable {C : Cx} {N : Ann} {nt : NT} {g0 g : Gh} {w0 w : World} {f : Fr} {s : St} {a : Act} {o : Oper}
variable {K : Upd → Res} {R : Res} {G : FuncId → List AV → List HO → Res}
def Gh.alone (g : Gh) (k : Nat) (u : Value) : Gh := { g with n := 0, ow := fun b => if u.ownBlock = some b then some (.arr k) else none }
def Gh.backE (g g' : Gh) (sz k : Nat) (u : Value) : Gh := { g with st := g'.st, ow := fun b => if b < sz then g.ow b else if u.ownBlock = some b then some (.arr k) else none }
theorem withLocs_twice (s : St) (k : Nat) (x y : LOv) : (s.withLocs [(k, x)]).withLocs [(k, y)] = s.withLocs [(k, y)] := by
  have : setLocs (setLocs s.loc [(k, x)]) [(k, y)] = setLocs s.loc [(k, y)] := by
    funext i
    rw [setLocs_one, setLocs_one, setLocs_one]
    split <;> rfl
  simp only [St.withLocs, this]
theorem OpS.callE (hC : OkC C) (r : Rel C nt g0 w0 g w f s a) (hd : ∀ x, o.dst = some x → nt.ok x) (hR : R ≠ .stuck) {fid : FuncId} {e : TypeId} (hG : Sound C fid (G fid)) (he : C.eats fid = some e)
    {x : Operand} {vals : List Value} {as : List AV} {us : List (Nat × LOv)} {g1 : Gh} (hf : FrzL s.loc us) (hc : Core g1 w f (s.withLocs us)) (hst : Stp g w f s g1 w f (s.withLocs us)) (hv : VT g1 w as vals)
    (hr : Resolves a o C.P fid (a.eval x :: vals))
    (h : eatK (stdAlg C.pure G) C o.dst (s.loc (o.dst.getD 0)) fid e (evO C s x) (loO s (evO C s x)) as us K = R) : OpS C nt g0 w0 s a w o K R := by
  have hlen := r.core.heap.len
  have key : ∀ (k ver : Nat) (c : SC) (us2 : List (Nat × LOv)) (g2 : Gh), Core g2 w f (s.withLocs us2) → Stp g w f s g2 w f (s.withLocs us2) → VT g2 w as vals → SR g2 w (.arr k) c false (a.eval x) → ((s.withLocs us2).loc k).ver < ver →
      (∀ y, (s.withLocs us2).withLocs [(k, y)] = (s.withLocs us).withLocs [(k, y)]) →
      (if (us.any fun p => p.1 == k) then (stdAlg C.pure G).stuck else
        if C.pure fid = true ∧ c.elem = e ∧ c.width = szT C.P e ∧ szT C.P e ≠ 0 ∧ c.isY = byteT C.P e then (stdAlg C.pure G).ecall fid (c.toAV :: as) fun v => match c with
          | .y t _ => (stdAlg C.pure G).mY v fun sb => K { dst := some (.ls k ver), locs := (k, ⟨ver, .arr (.y t sb) false⟩) :: us }
          | .e t n _ => (stdAlg C.pure G).mL n v fun xs => K { dst := some (.ls k ver), locs := (k, ⟨ver, .arr (.e t n xs) false⟩) :: us }
        else (stdAlg C.pure G).stuck) = R → OpS C nt g0 w0 s a w o K R := by
    intro k ver c us2 g2 hc2 hst2 hv2 hsr hver heq h next Q hn hpan
    split at h
    · exact absurd h.symm hR
    split at h
    case isFalse => exact absurd h.symm hR
    rename_i hcond
    obtain ⟨hp, hel, hw, hz, hbt⟩ := hcond
    have h' : ecall (G fid) (c.toAV :: as) _ = R := h
    unfold ecall at h'
    split at h'
    case h_2 => exact absurd h'.symm hR
    rename_i hnp
    cases hres : G fid (c.toAV :: as) [.no] with
    | stuck => rw [hres] at h'; exact absurd h'.symm hR
    | upd u => rw [hres] at h'; exact absurd h'.symm hR
    | pan v hh => rw [hres] at h'; exact absurd h'.symm hR
    | ret v hh =>
      rw [hres] at h'
      simp only at h'
      split at h'
      case h_2 => exact absurd h'.symm hR
      rename_i hnv
      have hS : SoundE C fid (G fid) := by
        unfold Sound at hG
        rw [if_pos hp] at hG
        exact hG.2
      obtain ⟨k0, hS⟩ := hS e he
      have hnp' := hnp
      simp only [noPs, Bool.and_eq_true] at hnp'
      have hcl : Cells g2 w (g2.alone k0 (a.eval x)) w := ⟨fun _ _ h => h, fun _ _ _ => rfl⟩
      have hsrA : SR (g2.alone k0 (a.eval x)) w (.arr k0) c false (a.eval x) := by
        obtain ⟨vals', q1, q2, q3, q4⟩ := SR_iff.1 hsr
        refine SR_iff.2 ⟨vals', q1, q2, noP_SC c hnp'.1 _ _ _ q3 _ _ hcl, fun b hb => ⟨by simp only [Gh.alone]; rw [if_pos hb], (q4 b hb).2⟩⟩
      obtain ⟨hcb, hcalls⟩ := hS (g2.alone k0 (a.eval x)) w c as (a.eval x) vals v hh hres hnp rfl hel hw hbt hsrA (VT.noP hcl as vals hnp'.2 hv2) hc2.wf
        (fun gi cs hg => VC.noP hcl gi cs 0 (hC.glob gi cs hg) (VC.later hst2.chg.later gi cs 0 (r.glob gi cs hg)))
        (fun b ow hb => by
          simp only [Gh.alone] at hb
          split at hb
          · rename_i hb'; exact hb'
          · cases hb)
      refine wp_enter (run_call hcb hr) (hcalls.mono fun en w' hpost => ?_)
      cases en with
      | outgrown => exact hpost.elim
      | panicked chain => exact hpost.elim
      | returned u =>
        obtain ⟨g', hch, hwf, cc, ow, hvc, hcel, hsr', hnew⟩ := hpost
        have halone : ∀ b, (g2.alone k0 (a.eval x)).ow b ≠ none → g2.ow b = some (.arr k) := by
          intro b hb
          simp only [Gh.alone] at hb
          split at hb
          · rename_i hb'; exact (SR.owner hsr hb').1
          · exact absurd rfl hb
        have hch3 : Chg (fun b => g2.ow b = some (.arr k)) g2 w (g2.backE g' w.heap.size k u) w' := by
          refine ⟨⟨Nat.le_refl _, fun _ _ => rfl, hch.later.st, hch.later.cell⟩, hch.size, fun b hb hn => hch.blk b hb fun hx => hn (halone b hx), fun b hb hn => ?_, fun b i hb hn hx => hch.st b i hb (fun hx => hn (halone b hx)) hx, hch.frz, hch.os, hch.tape, hch.out, hch.shape⟩
          simp only [Gh.backE]; rw [if_pos hb]
        have hsr3 : SR (g2.backE g' w.heap.size k u) w' (.arr k) cc false u := by
          obtain ⟨vals', q1, q2, q3, q4⟩ := SR_iff.1 hsr'
          refine SR_iff.2 ⟨vals', q1, q2, noP_SC cc (by rw [← hvc]; exact hnv) _ _ _ q3 _ _ ⟨fun _ _ h => h, fun _ _ _ => rfl⟩, fun b hb => ⟨?_, (q4 b hb).2⟩⟩
          simp only [Gh.backE]
          split
          · rename_i hlt
            rcases hnew b hb with h1 | h1
            · omega
            · exact halone b h1
          · simp [hb]
        obtain ⟨d1, d2, d3⟩ := hc2.newSlice k ver hver hch3 rfl hwf hsr3
        have fin : K { dst := some (.ls k ver), locs := (k, ⟨ver, .arr cc false⟩) :: us } = R → next (a.put o.dst u) w' := by
          intro hk
          rw [heq] at d1 d2 d3
          rw [← withLocs_cons] at d1 d2 d3
          have hrel := r.to (hst2.trans hlen d2) d1 rfl hd d3
          refine hn _ (g2.backE g' w.heap.size k u) w' (f.setHd k u) _ hk ?_
          cases hdst : o.dst <;> simp only [hdst, Upd.on, Option.getD_some, St.put] at hrel ⊢ <;> exact hrel
        cases c with
        | y t sb0 =>
          simp only at h'
          obtain ⟨sb, hsb, hk⟩ := mY_inv h' hR
          rw [hsb] at hvc
          cases cc with
          | e t n xs => simp [SC.toAV] at hvc
          | y t' sb' =>
            simp only [SC.toAV, AV.Y.injEq] at hvc
            simp only [SC.elem] at hcel hel
            subst hvc
            rw [hcel, ← hel] at fin
            exact fin hk
        | e t n xs0 =>
          simp only at h'
          obtain ⟨xs, hsb, hk⟩ := mL_inv h' hR
          rw [hsb] at hvc
          cases cc with
          | y t' sb' => simp [SC.toAV] at hvc
          | e t' n' xs' =>
            simp only [SC.toAV, AV.L.injEq] at hvc
            simp only [SC.elem] at hcel hel
            obtain ⟨e1, e2⟩ := hvc
            subst e1
            subst e2
            rw [hcel, ← hel] at fin
            exact fin hk
  unfold eatK at h
  have hve := r.ev x
  split at h
  ·
    rename_i q1 ex
    cases hdst : o.dst with
    | none => rw [hdst] at h; exact absurd h.symm hR
    | some d =>
      rw [hdst] at h
      simp only [Option.getD_some] at h
      rw [ex] at hve
      have hu : a.eval x = .slice none 0 0 := hve
      have hz : szT C.P e ≠ 0 ∨ byteT C.P e = true := by
        left
        intro hz
        split at h
        · exact hR h.symm
        · split at h
          · rename_i hcond; exact hcond.2.2.2.1 hz
          · exact hR h.symm
      have hem := emptySC_ok (P := C.P) (e := e) (by
        rcases hz with hz | hz
        · simp; exact .inr (Nat.pos_of_ne_zero hz)
        · simp [hz])
      refine key d ((s.loc d).ver + 1) (emptySC C.P e) us g1 hc hst hv (by rw [hu]; exact SR_empty _ _ hem.1 hem.2) (by rw [withLocs_ver hf d]; exact Nat.lt_succ_self _) (fun _ => rfl) h
  ·
    rename_i k ver ex
    rw [ex] at h hve
    simp only [loO, EV.site] at h
    cases hl : s.loc k with
    | mk ver' lo =>
      rw [hl] at h
      cases lo with
      | no => exact absurd h.symm hR
      | box m cs => exact absurd h.symm hR
      | arr c exx =>
        simp only at h
        split at h
        case isFalse => exact absurd h.symm hR
        rename_i hvv
        subst hvv
        have hnk : k ∉ us.map (·.1) := by
          intro hm
          split at h
          · exact hR h.symm
          · rename_i hany
            apply hany
            obtain ⟨p, hp, hpk⟩ := List.mem_map.1 hm
            exact List.any_eq_true.2 ⟨p, hp, by simp [hpk]⟩
        have hu : a.eval x = f.hd k := hve.2 (by rw [hl]) c exx (by rw [hl])
        have hlk : (s.withLocs us).loc k = ⟨ver, .arr c exx⟩ := by
          show setLocs s.loc us k = _
          rw [setLocs_frz hf, if_neg hnk, hl]
        have hl0 := hc.loc k
        unfold LR at hl0
        rw [hlk] at hl0
        cases exx with
        | false => exact key k (ver + 1) c us g1 hc hst hv (by rw [hu]; exact hl0) (by rw [hlk]; exact Nat.lt_succ_self _) (fun _ => rfl) h
        | true =>
          obtain ⟨g2, z0, c2, s2, v2⟩ := hc.freeze hf hl
          have hlk2 : (s.withLocs ((k, ⟨ver, .arr c false⟩) :: us)).loc k = ⟨ver, .arr c false⟩ := by simp [St.withLocs, setLocs]
          have hl2 := c2.loc k
          unfold LR at hl2
          rw [hlk2] at hl2
          exact key k (ver + 1) c ((k, ⟨ver, .arr c false⟩) :: us) g2 c2 (hst.trans hlen s2) (VT.later s2.chg.later _ _ hv) (by rw [hu]; exact hl2) (by rw [hlk2]; exact Nat.lt_succ_self _) (fun y => by rw [withLocs_cons s k ⟨ver, .arr c false⟩ us, withLocs_twice]) h
  · exact absurd h.symm hR
end
end Go.Vm
namespace Go.Vm
open Go
section
variable {C : Cx} {N : Ann} {nt : NT} {g0 g : Gh} {w0 w : World} {f : Fr} {s : St} {a : Act} {o : Oper}
variable {K : Upd → Res} {R : Res} {G : FuncId → List AV → List HO → Res}
theorem OpS.makeMap (r : Rel C nt g0 w0 g w f s a) (hd : ∀ x, o.dst = some x → nt.ok x) (hR : R ≠ .stuck) {t : TypeId} {rs : Option Operand} (ho : o.op = .makeMap t rs)
    (h : opH C N G o s K R) : OpS C nt g0 w0 s a w o K R := by
  simp only [opH, opF, ho] at h
  split at h
  · obtain ⟨g', c1, s1, v1⟩ := r.core.newMap
    refine .to r hd h ?_ rfl c1 s1 v1
    simp [execOp, ho, Instr.makeMap, Go.newObj, Sem.run, World.push']
  · exact absurd h.symm hR
theorem findNow_of {k : IntKind} {n : Int} : ∀ (es : List (AV × AV)) (ms : List MapEntry) (i : Nat) (r : Option AV), ER g w es ms → findI k n es = some r →
    (r = none ∧ Instr.findNow (.int k) (.int k n) ms i = some none) ∨
    ∃ v j e, r = some v ∧ Instr.findNow (.int k) (.int k n) ms i = some (some (i + j, e.val)) ∧ ms[j]? = some e ∧ e.key = .int k n ∧ V g w v e.val
  | [], _, i, r, h, hf => by
    rw [show _ = [] from h]
    simp only [findI, Option.some.injEq] at hf
    exact .inl ⟨hf.symm, rfl⟩
  | (a, v) :: es, _, i, r, ⟨e, ms, rfl, h1, h2, h3⟩, hf => by
    cases a with
    | I k' m =>
      have hk : e.key = .int k' m := (V_I' h1).1
      simp only [findI] at hf
      split at hf
      · rename_i hkk
        subst hkk
        split at hf
        · rename_i hmn
          subst hmn
          simp only [Option.some.injEq] at hf
          refine .inr ⟨v, 0, e, hf.symm, ?_, by simp, hk, h2⟩
          simp [Instr.findNow, Instr.sameNow, hk]
        · rename_i hmn
          have hb : (n == m) = false := by
            rw [beq_eq_false_iff_ne]; exact fun x => hmn x.symm
          rcases findNow_of es ms (i + 1) r h3 hf with ⟨q1, q2⟩ | ⟨v', j, e', q1, q2, q3, q4, q5⟩
          · refine .inl ⟨q1, ?_⟩
            simp only [Instr.findNow, Instr.sameNow, hk, if_true, hb]
            exact q2
          · refine .inr ⟨v', j + 1, e', q1, ?_, by simpa using q3, q4, q5⟩
            simp only [Instr.findNow, Instr.sameNow, hk, if_true, hb]
            rw [q2, show i + 1 + j = i + (j + 1) by omega]
      · cases hf
    | _ => simp [findI] at hf
theorem zeroK_inv {t : TypeId} {K : AV → Res} (h : zeroK (stdAlg C.pure G) C t K = R) (hR : R ≠ .stuck) : ∃ z v, (∀ w, (zeroValue t).run C.P w = .ok z w) ∧ K v = R ∧ V g w v z := by
  unfold zeroK at h
  split at h
  · rename_i hz
    obtain ⟨i, z, hi, hzz, h1, h2, h3⟩ := zeroOK_inv (g := g) (w := w) hz
    refine ⟨z, ?_⟩
    split at h
    · rename_i hag
      refine ⟨_, fun w => run_zero hi hzz w, h, ?_⟩
      have : ∃ cs, z = .agg cs := by
        unfold zAgg at hag
        rw [hi] at hag
        simp only [hzz] at hag
        split at hag
        · rename_i e; cases e; exact ⟨_, rfl⟩
        · cases hag
      obtain ⟨cs, rfl⟩ := this
      simp only [V]
      refine ⟨cs.toList, by simp, ?_⟩
      exact zero_VS _ _ (by simpa [Value.cells] using h1) fun j x hx => by
        obtain ⟨u, hu, h0⟩ := h3 j x hx
        exact ⟨u, by simpa [Value.cells] using hu, h0⟩
    · rename_i av hag hzv
      refine ⟨_, fun w => run_zero hi hzz w, h, ?_⟩
      have hcs : z.cells = #[z] := by
        cases z with
        | agg cs =>
          unfold zAgg at hag
          rw [hi] at hag
          simp only [hzz] at hag
          cases hag
        | _ => rfl
      have hl : (zHV C.P 20 t).map HV.toAV = [av] := hzv
      match hx : zHV C.P 20 t, hl with
      | [x], hl =>
        simp only [List.map_cons, List.map_nil, List.cons.injEq, and_true] at hl
        obtain ⟨u, hu, h0⟩ := h3 0 x (by rw [hx]; rfl)
        rw [hcs] at hu
        simp only [List.getElem?_toArray, List.getElem?_cons_zero, Option.some.injEq] at hu
        subst hu
        rw [← hl]
        have := zero_VS (g := g) (w := w) [x] [z] rfl fun j y hy => by
          cases j with
          | zero => simp only [List.getElem?_cons_zero, Option.some.injEq] at hy; subst hy; exact ⟨z, rfl, h0⟩
          | succ j => simp at hy
        simp only [List.map_cons, List.map_nil, VS, List.cons.injEq] at this
        obtain ⟨u', r', ⟨e1, _⟩, hv, _⟩ := this
        rw [e1]; exact hv
    · exact absurd h.symm hR
  · exact absurd h.symm hR
theorem lookup_run {P : Program} {w : World} {t kt et : TypeId} {k : IntKind} {n : Int} {x z : Value} {b ok : Bool} {mes : Array MapEntry} {q : Option (Nat × Value)} (hu : P.underlying t = some (.map kt et)) (hk : P.underlying kt = some (.int k))
    (hx : (x = .map none ∧ mes = #[]) ∨ ∃ r c, x = .map (some r) ∧ w.heap[r]? = some (.map mes c)) (hf : Instr.findNow (.int k) (.int k n) mes.toList 0 = some q)
    (hz : (q = none ∧ b = false ∧ (zeroValue et).run P w = .ok z w) ∨ (∃ j, q = some (j, z) ∧ b = true)) :
    (Instr.lookup t x (.int k n) ok).run P w = .ok (if ok then .tuple #[z, .bool b] else z) w := by
  have hck : (Instr.checkKey mes.isEmpty 10000 kt (.int k n)).run P w = .ok () w := MapKept.run_checkKey hk (by simp [MapKept.IsKey]) _ 9999
  have hfk := MapKept.run_findKey (w := w) hk hf
  rcases hx with ⟨rfl, rfl⟩ | ⟨r, c, rfl, hr⟩
  · have hck' : (Instr.checkKey true 10000 kt (.int k n)).run P w = .ok () w := hck
    have hfk' : (Instr.findKey kt (.int k n) []).run P w = .ok q w := hfk
    rcases hz with ⟨rfl, rfl, hz⟩ | ⟨j, rfl, rfl⟩
    · simp [Instr.lookup, run_underlying hu, hck', hfk', hz]
    · simp [Instr.lookup, run_underlying hu, hck', hfk']
  · rcases hz with ⟨rfl, rfl, hz⟩ | ⟨j, rfl, rfl⟩
    · simp [Instr.lookup, run_underlying hu, getMap_run hr, hck, hfk, hz]
    · simp [Instr.lookup, run_underlying hu, getMap_run hr, hck, hfk]
theorem OpS.lookup (r : Rel C nt g0 w0 g w f s a) (hd : ∀ x, o.dst = some x → nt.ok x) (hR : R ≠ .stuck) {t : TypeId} {x y : Operand} {ok : Bool} (ho : o.op = .lookup t x y ok)
    (h : opH C N G o s K R) : OpS C nt g0 w0 s a w o K R := by
  simp only [opH, opF, ho, Op.operands, List.map_cons, List.map_nil, List.getD_cons_zero, List.getD_cons_succ] at h
  split at h
  · rename_i kt et m i hu e1 e2
    have hu' := und_some hu (by simp)
    split at h
    · rename_i k hk
      have hk' := und_some hk (by simp)
      obtain ⟨n, rfl, h5⟩ := mI_inv h hR
      have hy := (V_I' (r.evv e2)).1
      have fin : ∀ (es : List (AV × AV)) (mes : Array MapEntry), ER g w es mes.toList → ((a.eval x = .map none ∧ mes = #[]) ∨ ∃ r c, a.eval x = .map (some r) ∧ w.heap[r]? = some (.map mes c)) →
          ((stdAlg C.pure G).fnd k n es fun r => match r with
            | some v => K { dst := some (.v (if ok then .T [v, .B true] else v)) }
            | none => zeroK (stdAlg C.pure G) C et fun v => K { dst := some (.v (if ok then .T [v, .B false] else v)) }) = R → OpS C nt g0 w0 s a w o K R := by
        intro es mes her hx h
        obtain ⟨r', hf, h6⟩ := fnd_inv' h hR
        have done : ∀ (v : AV) (z : Value) (b : Bool), (Instr.lookup t (a.eval x) (.int k n) ok).run C.P w = .ok (if ok then .tuple #[z, .bool b] else z) w → V g w v z → K { dst := some (.v (if ok then .T [v, .B b] else v)) } = R → OpS C nt g0 w0 s a w o K R := by
          intro v z b hz hv hk9
          refine .val r hd hk9 (u := if ok then .tuple #[z, .bool b] else z) ?_ ?_
          · simp only [execOp, ho, hy, Sem.run_bind, hz, Result.andThen_ok, Sem.run_pure, Sem.run_map]
          · cases ok with
            | true =>
              simp only [if_true, V]
              exact ⟨[z, .bool b], rfl, z, _, rfl, hv, .bool b, [], rfl, V_B g w b, rfl⟩
            | false => exact hv
        rcases findNow_of es mes.toList 0 r' her hf with ⟨rfl, q2⟩ | ⟨v, j, e, rfl, q2, q3, q4, q5⟩
        · obtain ⟨z, v, hz, hk9, hv⟩ := zeroK_inv (g := g) (w := w) h6 hR
          exact done v z false (lookup_run hu' hk' hx q2 (.inl ⟨rfl, rfl, hz w⟩)) hv hk9
        · exact done v e.val true (lookup_run hu' hk' hx q2 (.inr ⟨_, rfl, rfl⟩)) q5 h6
      rcases mMl_inv' h5 hR with ⟨rfl, h7⟩ | ⟨id, es, rfl, hid, h7⟩
      · have hx : a.eval x = .map none := by simpa [V] using r.evv e1
        exact fin [] #[] rfl (.inl ⟨hx, rfl⟩) h7
      · have hx : id < g.n ∧ a.eval x = .map (some (g.io id)) := by simpa [V] using r.evv e1
        obtain ⟨mes, clock, q1, q2, _⟩ := (r.core.heap.map id es hid).row
        exact fin es mes q2 (.inr ⟨_, _, hx.2, q1⟩) h7
    · exact absurd h.symm hR
  · exact absurd h.symm hR
def World.setObj (w : World) (b : Nat) (o : Obj) : World := { w with heap := w.heap.setIfInBounds b o }
theorem setObj_get (w : World) (b : Nat) (o : Obj) (hb : b < w.heap.size) : (World.setObj w b o).heap[b]? = some o := by
  simp [World.setObj, hb]
theorem setObj_other (w : World) (b : Nat) (o : Obj) (i : Nat) (h : i ≠ b) : (World.setObj w b o).heap[i]? = w.heap[i]? := by
  simp [World.setObj, Array.getElem?_setIfInBounds_ne (fun e => h e.symm)]
theorem Core.putMap (hc : Core g w f s) {id : Nat} {es es' : List (AV × AV)} (hl : s.h[id]? = some (.map es)) {mes' : Array MapEntry} {clock' : Nat}
    (her : ER g w es' mes'.toList) (hb1 : mes'.toList.Pairwise (fun x y => x.born < y.born)) (hb2 : ∀ e ∈ mes'.toList, e.born < clock') :
    Core g (World.setObj w (g.io id) (.map mes' clock')) f (s.setO id (.map es')) ∧ Stp g w f s g (World.setObj w (g.io id) (.map mes' clock')) f (s.setO id (.map es')) := by
  have hb := hc.heap.map id es hl
  have hid : id < s.h.length := (List.getElem?_eq_some_iff.1 hl).1
  obtain ⟨mes, clock, h1, _⟩ := hb.row
  have hnst : ∀ i, ¬ g.st (g.io id) i := hb.st
  have hsz : (World.setObj w (g.io id) (.map mes' clock')).heap.size = w.heap.size := by simp [World.setObj]
  have hcell : ∀ b i, b ≠ g.io id → (World.setObj w (g.io id) (.map mes' clock')).cell? ⟨b, i, none⟩ = w.cell? ⟨b, i, none⟩ := by
    intro b i hne
    simp only [World.cell?, setObj_other w _ _ _ hne]
  have hch : Chg (· = g.io id) g w g (World.setObj w (g.io id) (.map mes' clock')) := by
    refine ⟨⟨Nat.le_refl _, fun _ _ => rfl, fun _ _ h => h, fun b i h => hcell b i fun e => hnst i (e ▸ h)⟩, by rw [hsz]; exact Nat.le_refl _, fun b _ hn => setObj_other w _ _ _ hn, fun _ _ _ => rfl, fun _ _ _ _ h => h, fun ad had => ?_, rfl, rfl, rfl, fun b c t fr h => ?_⟩
    · by_cases e : ad.block = g.io id
      · have e1 := setObj_get w (g.io id) (.map mes' clock') hb.lt
        simp only [World.frozen?, e, e1, h1]
      · simp only [World.frozen?, setObj_other w _ _ _ e]
    · by_cases e : b = g.io id
      · subst e
        rw [h1] at h
        cases h
      · exact ⟨c, by rw [setObj_other w _ _ _ e]; exact h, rfl⟩
  have hother : ∀ b, b = g.io id → ∀ ow : Own, ow ≠ .obj id → g.ow b ≠ some ow := by
    intro b e ow hne he
    rw [e, hb.ow] at he
    exact hne (Option.some.inj he).symm
  refine ⟨⟨⟨by simp [St.setO, hc.heap.len], fun j hj => Nat.lt_of_lt_of_le (hc.heap.lt j hj) hch.size, fun j cs' hj => ?_, fun j es'' hj => ?_⟩, fun i => (hc.loc i).chg hch fun b hb' ow ho => hother b hb' ow fun e' => (by rw [e'] at ho; cases ho), fun b i hx => Nat.lt_of_lt_of_le (hc.wf b i hx) hch.size⟩,
    ⟨hch.mono fun b _ e => by rw [e, hb.ow]; simp, fun i => ?_, fun j => ?_⟩⟩
  · rw [setO_h, List.getElem?_set] at hj
    by_cases e : id = j
    · subst e
      rw [if_pos rfl, if_pos hid] at hj
      cases hj
    · rw [if_neg e] at hj
      exact (hc.heap.obj j cs' hj).chgO hch (fun b hb' => hother b hb' _ (by simp; exact fun e' => e e'.symm)) (fun i b hb' => hother b hb' _ (by simp))
  · rw [setO_h, List.getElem?_set] at hj
    by_cases e : id = j
    · subst e
      rw [if_pos rfl, if_pos hid] at hj
      cases hj
      exact ⟨hb.ow, hb.st, mes', clock', setObj_get w _ _ hb.lt, her.later hch.later, hb1, hb2⟩
    · rw [if_neg e] at hj
      exact (hc.heap.map j es'' hj).chgO hch (fun b hb' => hother b hb' _ (by simp; exact fun e' => e e'.symm))
  · refine SiteStp.same rfl rfl rfl fun m cs' hb' j => ?_
    have hli := hc.loc i
    unfold LR at hli
    rw [hb'] at hli
    refine hcell _ _ ?_
    intro e2
    have := hli.ow
    rw [e2, hb.ow] at this
    simp at this
  · by_cases e : id = j
    · subst e
      exact .inl (by rw [setO_hv_eq]; exact Nat.lt_succ_self _)
    · refine .inr ⟨setO_hv_ne e, fun cs' hj => ⟨by rw [setO_h, List.getElem?_set, if_neg e]; exact hj, fun i => ?_⟩⟩
      refine hcell _ _ ?_
      intro e2
      have := (hc.heap.obj j cs' hj).ow
      rw [e2, hb.ow] at this
      simp only [Option.some.injEq, Own.obj.injEq] at this
      exact e this
theorem putNow_of {k : IntKind} {n : Int} {v : AV} {u : Value} (hk : k.min ≤ n ∧ n ≤ k.max) (hv : V g w v u) : ∀ (es : List (AV × AV)) (ms : List MapEntry) (i : Nat) (r : Option AV), ER g w es ms → findI k n es = some r →
    (Instr.findNow (.int k) (.int k n) ms i = some none ∧ ∀ b, ER g w (putM k n v es) (ms ++ [{ key := .int k n, val := u, born := b }])) ∨
    ∃ j e, Instr.findNow (.int k) (.int k n) ms i = some (some (i + j, e.val)) ∧ ms[j]? = some e ∧ e.key = .int k n ∧ ER g w (putM k n v es) (ms.modify j fun x => { x with key := .int k n, val := u })
  | [], _, i, r, h, hf => by
    rw [show _ = [] from h]
    exact .inl ⟨rfl, fun b => ⟨_, [], rfl, V_I g w hk, hv, rfl⟩⟩
  | (a, x) :: es, _, i, r, ⟨e, ms, rfl, h1, h2, h3⟩, hf => by
    cases a with
    | I k' m =>
      have hkey : e.key = .int k' m := (V_I' h1).1
      simp only [findI] at hf
      split at hf
      · rename_i hkk
        subst hkk
        split at hf
        · rename_i hmn
          subst hmn
          refine .inr ⟨0, e, ?_, by simp, hkey, ?_⟩
          · simp [Instr.findNow, Instr.sameNow, hkey]
          · simp only [putM, if_true, List.modify_zero_cons]
            exact ⟨_, ms, rfl, V_I g w hk, hv, h3⟩
        · rename_i hmn
          have hb : (n == m) = false := by
            rw [beq_eq_false_iff_ne]; exact fun x => hmn x.symm
          simp only [putM, if_neg hmn]
          rcases putNow_of hk hv es ms (i + 1) r h3 hf with ⟨q1, q2⟩ | ⟨j, e', q1, q2, q3, q4⟩
          · refine .inl ⟨?_, fun b => ⟨e, _, rfl, h1, h2, q2 b⟩⟩
            simp only [Instr.findNow, Instr.sameNow, hkey, if_true, hb]
            exact q1
          · refine .inr ⟨j + 1, e', ?_, by simpa using q2, q3, ?_⟩
            · simp only [Instr.findNow, Instr.sameNow, hkey, if_true, hb]
              rw [q1, show i + 1 + j = i + (j + 1) by omega]
            · simp only [List.modify_succ_cons]
              exact ⟨e, _, rfl, h1, h2, q4⟩
      · cases hf
    | _ => simp [findI] at hf
theorem modify_born {l : List MapEntry} {j : Nat} {F : MapEntry → MapEntry} (hF : ∀ x, (F x).born = x.born) : (l.modify j F).map (·.born) = l.map (·.born) := by
  induction l generalizing j with
  | nil => simp
  | cons x l ih =>
    cases j with
    | zero => simp [hF]
    | succ j => simp [ih]
theorem OpS.mapUpdate (r : Rel C nt g0 w0 g w f s a) (hd : ∀ x, o.dst = some x → nt.ok x) (hR : R ≠ .stuck) {t : TypeId} {x y z : Operand} (ho : o.op = .mapUpdate t x y z)
    (h : opH C N G o s K R) : OpS C nt g0 w0 s a w o K R := by
  simp only [opH, opF, ho, Op.operands, List.map_cons, List.map_nil, List.getD_cons_zero, List.getD_cons_succ] at h
  split at h
  · rename_i kt et m i hu e1 e2
    have hu' := und_some hu (by simp)
    split at h
    · rename_i k hk
      have hk' := und_some hk (by simp)
      obtain ⟨n, rfl, h5⟩ := mI_inv h hR
      obtain ⟨hy, hrange⟩ := V_I' (r.evv e2)
      obtain ⟨v, us, g1, h6, hf, hc, hst, hv⟩ := r.useF h5 hR
      obtain ⟨id, es, rfl, hid, h7⟩ := mM_inv' h6 hR
      obtain ⟨rr, hfi, h8⟩ := fnd_inv' h7 hR
      have hx : id < g.n ∧ a.eval x = .map (some (g.io id)) := by simpa [V] using r.evv e1
      have hio : g1.io id = g.io id := hst.chg.later.io id hx.1
      obtain ⟨mes, clock, q1, q2, q3, q4⟩ := (hc.heap.map id es hid).row
      rw [hio] at q1
      have hck : (Instr.checkKey false 10000 kt (.int k n)).run C.P w = .ok () w := MapKept.run_checkKey hk' (by simp [MapKept.IsKey]) _ 9999
      rcases putNow_of hrange hv es mes.toList 0 rr q2 hfi with ⟨p1, p2⟩ | ⟨j, e, p1, p2, p3, p4⟩
      · obtain ⟨c1, s1⟩ := hc.putMap (mes' := mes.push { key := .int k n, val := a.eval z, born := clock }) (clock' := clock + 1) hid (by rw [Array.toList_push]; exact p2 clock)
          (by rw [Array.toList_push]; exact List.pairwise_append.2 ⟨q3, by simp, fun x hx y hy => by simp at hy; subst hy; exact q4 x hx⟩)
          (by rw [Array.toList_push]; intro e he; simp at he; rcases he with he | rfl; exact Nat.lt_succ_of_lt (q4 e (by simpa using he)); exact Nat.lt_succ_self _)
        rw [hio] at c1 s1
        refine .toSkip r hd h8 ?_ rfl (by rw [on_dl]; exact c1) (by rw [on_dl]; exact hst.trans r.core.heap.len s1)
        simp [execOp, ho, hx.2, hy, Instr.mapUpdate, run_underlying hu', getMap_run q1, hck, MapKept.run_findKey hk' p1, MapKept.run_setObj_map _ q1, World.setObj]
      · obtain ⟨c1, s1⟩ := hc.putMap (mes' := mes.modify j fun x => { x with key := .int k n, val := a.eval z }) (clock' := clock) hid (by rw [Array.toList_modify]; exact p4)
          (by
            rw [Array.toList_modify]
            have := List.pairwise_map.2 q3
            rw [← modify_born (j := j) (F := fun x => { x with key := .int k n, val := a.eval z }) fun _ => rfl] at this
            exact List.pairwise_map.1 this)
          (by
            rw [Array.toList_modify]
            intro e he
            have h1 : e.born ∈ (mes.toList.modify j fun x => { x with key := .int k n, val := a.eval z }).map (·.born) := List.mem_map.2 ⟨e, he, rfl⟩
            rw [modify_born (F := fun x => { x with key := .int k n, val := a.eval z }) fun _ => rfl] at h1
            obtain ⟨e', he', hb'⟩ := List.mem_map.1 h1
            rw [← hb']; exact q4 e' he')
        rw [hio] at c1 s1
        have p5 : mes[j]? = some e := by rw [← Array.getElem?_toList]; exact p2
        have p6 : (Instr.keyThatStays (.int k n) (.int k n)).run C.P w = .ok (.int k n) w := MapKept.run_keyThatStays (d := .int k) (by simp [MapKept.IsKey])
        rw [Nat.zero_add] at p1
        refine .toSkip r hd h8 ?_ rfl (by rw [on_dl]; exact c1) (by rw [on_dl]; exact hst.trans r.core.heap.len s1)
        simp [execOp, ho, hx.2, hy, Instr.mapUpdate, run_underlying hu', getMap_run q1, hck, MapKept.run_findKey hk' p1, p5, p3, p6, MapKept.run_setObj_map _ q1, World.setObj]
    · exact absurd h.symm hR
  · exact absurd h.symm hR
end
end Go.Vm
namespace Go.Vm
open Go
section
variable {C : Cx} {N : Ann} {nt : NT} {g0 g : Gh} {w0 w : World} {f : Fr} {s : St} {a : Act} {o : Oper}
variable {K : Upd → Res} {R : Res} {G : FuncId → List AV → List HO → Res}
theorem SC.over_facts {c z : SC} {off : Nat} (h : c.same z) (hl : off + z.len ≤ c.len) : (c.over off z).len = c.len ∧ (c.over off z).width = c.width ∧ (c.over off z).elem = c.elem := by
  cases c <;> cases z <;> simp_all [SC.same, SC.over, SC.len, SC.width, SC.elem] <;> omega
theorem SC.over_nil {c z : SC} {off : Nat} (h : c.same z) (h0 : z.len = 0) : c.over off z = c := by
  cases c <;> cases z <;> simp_all [SC.same, SC.over, SC.len]
theorem flat_take {n : Nat} : ∀ (k : Nat) (xs : List (List AV)), (∀ x ∈ xs, x.length = n) → (xs.take k).flatten = xs.flatten.take (k * n) ∧ (xs.drop k).flatten = xs.flatten.drop (k * n)
  | 0, xs, _ => by simp
  | k + 1, [], _ => by simp
  | k + 1, x :: xs, h => by
    obtain ⟨h1, h2⟩ := flat_take k xs fun y hy => h y (by simp [hy])
    have hx := h x (by simp)
    simp only [List.take_succ_cons, List.drop_succ_cons, List.flatten_cons, h1, h2]
    rw [List.take_append, List.drop_append]
    have e1 : x.take ((k + 1) * n) = x := List.take_of_length_le (by rw [hx, Nat.succ_mul]; omega)
    have e2 : x.drop ((k + 1) * n) = [] := List.drop_of_length_le (by rw [hx, Nat.succ_mul]; omega)
    rw [e1, e2, hx, show (k + 1) * n - n = k * n by rw [Nat.succ_mul]; omega]
    simp
theorem SCV.over {c z : SC} {v1 v2 : List Value} {off : Nat} (h : c.same z) (hl : off + z.len ≤ c.len) (h1 : SCV g w c v1) (h2 : SCV g w z v2) :
    SCV g w (c.over off z) (v1.take (off * c.width) ++ v2 ++ v1.drop (off * c.width + z.len * c.width)) := by
  cases c with
  | e t n xs =>
    cases z with
    | e t' m ys =>
      simp only [SC.same] at h
      subst h
      obtain ⟨a1, a2⟩ := h1
      obtain ⟨b1, b2⟩ := h2
      obtain ⟨e1, _⟩ := flat_take (n := n) off xs a1
      obtain ⟨_, e2⟩ := flat_take (n := n) (off + ys.length) xs a1
      refine ⟨fun x hx => ?_, ?_⟩
      · simp only [List.mem_append] at hx
        rcases hx with (hx | hx) | hx
        · exact a1 x (List.mem_of_mem_take hx)
        · exact b1 x hx
        · exact a1 x (List.mem_of_mem_drop hx)
      · simp only [List.flatten_append, SC.width, SC.len]
        rw [e1, e2, Nat.add_mul]
        exact VS_app _ _ _ _ (VS_app _ _ _ _ (VS_take _ _ _ a2) b2) (VS_drop _ _ _ a2)
    | y t' ys => cases h
  | y t xs =>
    cases z with
    | e t' m ys => cases h
    | y t' ys =>
      simp only [SCV] at h1 h2 ⊢
      subst h1
      subst h2
      simp [SC.over, SCV, SC.width, SC.len, List.map_take, List.map_drop]
theorem OpS.copy (hC : OkC C) (r : Rel C nt g0 w0 g w f s a) (hd : ∀ x, o.dst = some x → nt.ok x) (hR : R ≠ .stuck) {c : Call} (ho : o.op = .call c) (hc : c.callee = .builtin .copy)
    (h : opH C N G o s K R) : OpS C nt g0 w0 s a w o K R := by
  simp only [opH, opF, ho, hc, Op.operands, Call.operands, Array.empty_append] at h
  split at h
  case h_2 => exact absurd h.symm hR
  rename_i x y t tx hargs htys
  simp only [hargs, List.map_cons, List.map_nil, List.getD_cons_zero, List.getD_cons_succ] at h
  split at h
  case h_2 => exact absurd h.symm hR
  rename_i e e' hu hux
  have hut := und_some hu (by simp)
  have hutx := und_some hux (by simp)
  have hrun : ∀ u' w', (Builtin.copy_ #[t, tx] o.type #[a.eval x, a.eval y]).run C.P w = .ok u' w' → (execOp a.eval o).run C.P w = .ok (.value u') w' := by
    intro u' w' hr
    have e1 : c.argTypes = #[t, tx] := by apply Array.toList_inj.1; rw [htys]
    have e2 : c.args.map a.eval = #[a.eval x, a.eval y] := by apply Array.toList_inj.1; rw [Array.toList_map, hargs]; rfl
    rw [run_builtin ho hc, e1, e2]
    simp only [Go.builtin, Sem.run_bind, hr, Result.andThen_ok, Sem.run_pure]
  have body : ∀ (k ver off : Nat) (lx : LOv), lx = s.loc k → ver ≤ (s.loc k).ver →
      (∀ cc ex, ver = (s.loc k).ver → (s.loc k).lo = .arr cc ex → off ≤ cc.len ∧ ∃ ad len cap, f.hd k = .slice ad len cap ∧ a.eval x = .slice (if cap = off then ad else ad.map (·.add (off * cc.width))) (len - off) (cap - off)) →
      (match lx with
      | ⟨ver', .arr c true⟩ => if ver = ver' ∧ c.elem = e ∧ c.width = szT C.P e ∧ szT C.P e ≠ 0 then
        srcK (stdAlg C.pure G) c (evO C s y) (loO s (evO C s y)) false fun z => (stdAlg C.pure G).chk (decide (off + z.len ≤ c.len)) (K { dst := some (.v (.I .i64 z.len)), locs := [(k, ⟨ver, .arr (c.over off z) true⟩)] })
      else (stdAlg C.pure G).stuck
      | _ => (stdAlg C.pure G).stuck) = R → OpS C nt g0 w0 s a w o K R := by
    intro k ver off lx hlx hve hvx h
    split at h
    case h_2 => exact absurd h.symm hR
    rename_i ver' cc
    split at h
    case isFalse => exact absurd h.symm hR
    rename_i hcc
    obtain ⟨rfl, b1, b2, b3⟩ := hcc
    obtain ⟨z, news, h1, h2, h3, h4⟩ := srcK_inv r hR (.inl ⟨_, hutx⟩) (fun e => by cases e) h
    obtain ⟨hb, h5⟩ := chk_inv' h1 hR
    have hb : off + z.len ≤ cc.len := by simpa using hb
    obtain ⟨hoff, ad, len, cap, hhd, hx⟩ := hvx cc true (by rw [← hlx]) (by rw [← hlx])
    have hlr := r.core.loc k
    unfold LR at hlr
    rw [← hlx] at hlr
    obtain ⟨vals, o1, o2, o3, o4⟩ := SR_iff.1 hlr
    obtain ⟨ad', cap', q1, q2⟩ := ownsRow_len o1
    rw [hhd] at q1
    simp only [Value.slice.injEq] at q1
    obtain ⟨_, hlen, hcap⟩ := q1
    obtain ⟨f1, f2, f3⟩ := SC.over_facts h2 hb
    have hsz : (sizeOf e).run C.P w = .ok cc.width w := by rw [run_sz (.inr b3), b2]
    have hmin : Nat.min z.len (len - off) = z.len := Nat.min_eq_left (by omega)
    have hrng : IntKind.i64.min ≤ (z.len : Int) ∧ (z.len : Int) ≤ IntKind.i64.max := by
      have : z.len ≤ 9223372036854775807 := by omega
      constructor
      · have : IntKind.i64.min ≤ 0 := by decide
        omega
      · have : IntKind.i64.max = 9223372036854775807 := by decide
        omega
    by_cases h0 : z.len = 0
    · have hn0 : news = [] := List.eq_nil_of_length_eq_zero (by rw [h3.newsLen, h0, Nat.zero_mul])
      have hsame : s.withLocs [(k, ⟨ver, .arr (cc.over off z) true⟩)] = s := by
        rw [SC.over_nil h2 h0, hlx]
        show { s with loc := _ } = s
        have : setLocs s.loc [(k, s.loc k)] = s.loc := by
          funext i
          simp only [setLocs]
          cases hi : Nat.beq i k with
          | true => rw [Nat.eq_of_beq_eq_true hi]; rfl
          | false => rfl
        rw [this]
      refine .to r hd h5 (v := .int .i64 z.len) (hrun _ w ?_) rfl (f' := f) (g' := g) ?_ ?_ ?_
      · rw [hx]
        have hc := h3.cells
        rw [hn0, h0] at hc
        generalize (if cap = off then ad else ad.map (·.add (off * cc.width))) = bb
        have hl := h3.len w
        rw [h0] at hl hmin
        cases bb with
        | none => simp [Builtin.copy_, run_underlying hut, hl, hsz, hmin, hc, goInt, h0]
        | some ad => simp [Builtin.copy_, run_underlying hut, hl, hsz, hmin, hc, storeCells, goInt, h0]
      · show Core g w f (s.withLocs _)
        rw [hsame]; exact r.core
      · show Stp g w f s g w f (s.withLocs _)
        rw [hsame]; exact Stp.refl g w f s
      · exact V_I g w hrng
    · rcases o1.2 with ⟨_, hz⟩ | ⟨b, cap2, cur, he, _, hrow, hc1, hc2, hsz2, htk⟩
      · omega
      · rw [hhd] at he
        simp only [Value.slice.injEq] at he
        obtain ⟨rfl, _, rfl⟩ := he
        have hcapn : cap ≠ off := by omega
        have hown : (f.hd k).ownBlock = some b := by rw [hhd]; rfl
        have hnl : news.length = z.len * cc.width := h3.newsLen
        have hmul : off * cc.width + z.len * cc.width ≤ cc.len * cc.width := by
          rw [← Nat.add_mul]; exact Nat.mul_le_mul_right _ hb
        have hmul2 : cc.len * cc.width ≤ cap * cc.width := Nat.mul_le_mul_right _ hc1
        have hst := run_storeCells_at C.P b (off * cc.width) cc.elem news 0 cur w hrow (by rw [hnl, hsz2]; omega) h3.one
        have hcl : cur.toList.length = cap * cc.width := by simp [hsz2]
        have key := r.core.putArr (k := k) (ver := ver) (c := cc) hlx.symm hown (c' := cc.over off z) (cur := (cur.toList.take (off * cc.width + 0) ++ news ++ cur.toList.drop (off * cc.width + 0 + news.length)).toArray) hrow
          (by simp only [List.size_toArray, List.length_append, List.length_take, List.length_drop, hnl, hcl, hsz2]; omega) f1 f2 (fun hch => by
            refine SR_iff.2 ⟨vals.take (off * cc.width) ++ news ++ vals.drop (off * cc.width + z.len * cc.width), ⟨?_, .inr ⟨b, cap, _, ?_, Nat.zero_le _, setRow_heap w b _ _ _ _ (by rw [f3]; exact hrow), ?_, hc2, ?_, ?_⟩⟩, by rw [f2]; exact o2, ?_, ?_⟩
            · rw [f1, f2]
              have := o1.1
              simp only [List.length_append, List.length_take, List.length_drop, hnl]
              omega
            · rw [f1, hhd, hlen]
            · rw [f1]; exact hc1
            · rw [f2]
              simp only [List.size_toArray, List.length_append, List.length_take, List.length_drop, hnl, hcl]
              omega
            · rw [f1, f2, ← htk]
              simp only [Nat.add_zero, hnl]
              rw [List.take_append, List.take_append, List.take_take, List.take_take]
              simp only [List.length_append, List.length_take, hnl, hcl]
              rw [show Min.min (off * cc.width) (cap * cc.width) = off * cc.width from Nat.min_eq_left (by omega), show Min.min (cc.len * cc.width) (off * cc.width) = off * cc.width from Nat.min_eq_right (by omega), show Min.min (off * cc.width) (cc.len * cc.width) = off * cc.width by omega,
                List.take_of_length_le (l := news) (by rw [hnl]; omega), List.drop_take]
            · exact SCV.later hch.later (SCV.over h2 hb o3 h4)
            · rw [f1, f2]; exact o4)
        obtain ⟨p3, p4⟩ := key
        refine .to r hd h5 (v := .int .i64 z.len) (hrun _ _ ?_) rfl p3 p4 (by simp only [VE]; exact V_I _ _ hrng)
        rw [hx, if_neg hcapn]
        have hadd : (⟨b, 0, none⟩ : Addr).add (off * cc.width) = ⟨b, off * cc.width, none⟩ := by rw [add_off, Nat.zero_add]
        have hst' : (storeCells ⟨b, off * cc.width, none⟩ news 0).run C.P w = _ := hst
        simp [Builtin.copy_, run_underlying hut, h3.len, hsz, hmin, h3.cells, hadd, hst', goInt]
  unfold copyK at h
  dsimp only at h
  have hev := r.ev x
  split at h
  · rename_i k ver ex
    rw [ex] at hev h
    refine body k ver 0 _ rfl hev.1 (fun cc ex' hv hlo => ?_) h
    have hxx := hev.2 hv cc ex' hlo
    have hlr := r.core.loc k
    unfold LR at hlr
    rw [hlo] at hlr
    obtain ⟨vals, o1, _⟩ := SR_iff.1 hlr
    obtain ⟨ad', cap', q1, q2⟩ := ownsRow_len o1
    refine ⟨Nat.zero_le _, ad', cc.len, cap', q1, ?_⟩
    rw [hxx, q1]
    simp only [Nat.zero_mul, Nat.sub_zero]
    split
    · rfl
    · cases ad' with
      | none => rfl
      | some ad => rw [Option.map_some]; congr 2
  · rename_i k ver off ex
    rw [ex] at hev h
    exact body k ver off _ rfl hev.1 (fun cc ex' hv hlo => hev.2 hv cc ex' hlo) h
  · exact absurd h.symm hR
theorem VC_of {b : Nat} : ∀ (l : List HV) (o : Nat), (∀ j x, l[j]? = some x → g.st b (o + j) ∧ ∃ u, w.cell? ⟨b, o + j, none⟩ = some u ∧ V g w x.toAV u ∧ u.oneCell' = true) → VC g w b o (l.map HV.toAV)
  | [], _, _ => by simp [VC]
  | x :: l, o, h => by
    simp only [List.map_cons, VC]
    have h0 := h 0 x rfl
    simp only [Nat.add_zero] at h0
    refine ⟨h0.1, h0.2, VC_of l (o + 1) fun j y hy => ?_⟩
    have := h (j + 1) y hy
    rw [show o + (j + 1) = o + 1 + j by omega] at this
    exact this
theorem Core.capt (hc : Core g w f s) {k ver m : Nat} {cs : List HV} (hl : s.loc k = ⟨ver, .box m cs⟩) :
    ∃ g', Core g' w f (s.withLocs [(k, ⟨ver + 1, .no⟩)]) ∧ Stp g w f s g' w f (s.withLocs [(k, ⟨ver + 1, .no⟩)]) ∧ V g' w (.Q (cs.map HV.toAV)) (.pointer (some ⟨f.be k, 0, none⟩)) := by
  have hb := hc.loc k
  unfold LR at hb
  rw [hl] at hb
  obtain ⟨arr, t, h1, h2, h3⟩ := hb.row
  have hch := Gh.stay_chg g w (f.be k) cs.length
  have hother : ∀ b, b = f.be k → ∀ ow : Own, ow ≠ .box k → g.ow b ≠ some ow := by
    intro b e ow hne he
    rw [e, hb.ow] at he
    exact hne (Option.some.inj he).symm
  refine ⟨g.stay (f.be k) cs.length, ⟨hc.heap.chg hch rfl fun b hb ow ho => hother b hb ow (fun e => by rw [e] at ho; exact ho), fun i => ?_, fun b i hx => ?_⟩, ⟨hch.mono fun b _ e => by rw [e, hb.ow]; simp, fun i => ?_, fun id => .keep rfl rfl fun _ _ _ => rfl⟩, ?_⟩
  · rw [withLocs_loc]
    by_cases e : i = k
    · subst e
      rw [if_pos rfl]
      trivial
    · rw [if_neg e]
      refine (hc.loc i).chg hch fun b hb' ow ho => hother b hb' ow fun e' => ?_
      rw [e'] at ho
      simp only [Own.site, Option.some.injEq] at ho
      exact e ho.symm
  · rcases hx with hx | hx
    · exact hc.wf b i hx
    · rw [hx.1]; exact hb.lt
  · by_cases e : i = k
    · subst e
      left
      rw [withLocs_loc, if_pos rfl, hl]
      exact Nat.lt_succ_self _
    · exact SiteStp.same (by rw [withLocs_loc, if_neg e]) rfl rfl fun _ _ _ _ => rfl
  · simp only [V]
    refine ⟨_, _, rfl, VC_of cs 0 fun j x hx => ?_⟩
    obtain ⟨u, hu, hr⟩ := h3 j x hx
    have hv := hr.toV
    have hj : j < cs.length := (List.getElem?_eq_some_iff.1 hx).1
    refine ⟨.inr ⟨rfl, by omega⟩, u, ?_, V.later hch.later _ _ hv.1, hv.2⟩
    rw [Nat.zero_add]
    simp [World.cell?, h1, hu]
theorem captAll_inv (r : Rel C nt g0 w0 g w f s a) (hR : R ≠ .stuck) : ∀ (xs : List Operand) {K : List AV → List (Nat × LOv) → Res}, captAll (stdAlg C.pure G) (xs.map (evO C s)) ((xs.map (evO C s)).map (loO s)) K = R →
    ∃ avs us g', K avs us = R ∧ Core g' w f (s.withLocs us) ∧ Stp g w f s g' w f (s.withLocs us) ∧ VT g' w avs (xs.map a.eval)
  | [], K, h => by
    simp only [List.map_nil, captAll] at h
    exact ⟨[], [], g, h, r.core, Stp.refl _ _ _ _, by simp [VT]⟩
  | x :: xs, K, h => by
    simp only [List.map_cons, captAll] at h
    split at h
    case h_2 => exact absurd h.symm hR
    rename_i k ver ver' m cs ls hx hcons
    simp only [List.cons.injEq] at hcons
    obtain ⟨hlo, rfl⟩ := hcons
    rw [hx] at hlo
    simp only [loO, EV.site] at hlo
    split at h
    case isFalse => exact absurd h.symm hR
    rename_i hver
    subst hver
    obtain ⟨avs, us, g1, h1, h2, h3, h4⟩ := captAll_inv r hR xs h
    split at h1
    · exact absurd h1.symm hR
    rename_i hany
    have hany : (us.any fun p => p.1 == k) = false := (Bool.not_eq_true _).mp hany
    have hlk : (s.withLocs us).loc k = ⟨ver, .box m cs⟩ := by
      show setLocs s.loc us k = _
      rw [setLocs_not us s.loc k hany, hlo]
    obtain ⟨g2, k1, k2, k3⟩ := h2.capt hlk
    have hve := r.ev x
    rw [hx] at hve
    have hxe := hve.2 (by rw [hlo]) m cs (by rw [hlo])
    rw [← withLocs_cons] at k1 k2
    refine ⟨_, _, g2, h1, k1, h3.trans r.core.heap.len k2, ?_⟩
    simp only [List.map_cons, VT]
    exact ⟨_, _, rfl, by rw [hxe]; exact k3, VT.later k2.chg.later _ _ h4⟩
theorem OpS.makeFunc (hC : OkC C) (r : Rel C nt g0 w0 g w f s a) (hd : ∀ x, o.dst = some x → nt.ok x) (hR : R ≠ .stuck) {fn : Fn} {fs cs : Array Operand} (ho : o.op = .makeFunc fn fs cs)
    (h : opH C N G o s K R) : OpS C nt g0 w0 s a w o K R := by
  simp only [opH, opF, ho, Op.operands] at h
  split at h
  · obtain ⟨avs, us, g', h1, h3, h4, h5⟩ := captAll_inv r hR _ h
    split at h1
    case isFalse => exact absurd h1.symm hR
    rename_i hfs
    have hfs' : fs = #[] := Array.eq_empty_of_size_eq_zero hfs
    subst hfs'
    refine .valU r hd h1 (u := .func fn #[] (cs.map a.eval)) ?_ h3 h4 ?_
    · simp [execOp, ho, Instr.makeFunc]
    · show V g' w (.F fn [] avs) _
      simp only [V]
      refine ⟨[], cs.toList.map a.eval, ?_, by simp [VT], by simpa using h5⟩
      rw [← Array.toList_map, Array.toArray_toList]
  obtain ⟨avs, us, g', h1, h2, h3, h4, h5⟩ := r.useAll h hR
  refine .valU r hd h1 (u := .func fn (fs.map a.eval) (cs.map a.eval)) ?_ h3 h4 ?_
  · simp [execOp, ho, Instr.makeFunc]
  · have e : (fs ++ cs).toList.map a.eval = (fs.toList.map a.eval) ++ (cs.toList.map a.eval) := by simp
    rw [e] at h5
    show V g' w (.F fn (avs.take fs.size) ((avs.drop fs.size).take cs.size)) _
    simp only [V]
    have l1 : (fs.toList.map a.eval).length = fs.size := by simp
    have l2 : (cs.toList.map a.eval).length = cs.size := by simp
    have t1 : ((fs.toList.map a.eval) ++ (cs.toList.map a.eval)).take fs.size = fs.toList.map a.eval := by
      rw [← l1, List.take_left']
      rfl
    have t2 : (((fs.toList.map a.eval) ++ (cs.toList.map a.eval)).drop fs.size).take cs.size = cs.toList.map a.eval := by
      rw [← l1, List.drop_left', ← l2, List.take_length]
      rfl
    refine ⟨fs.toList.map a.eval, cs.toList.map a.eval, ?_, ?_, ?_⟩
    · rw [← Array.toList_map, ← Array.toList_map, Array.toArray_toList, Array.toArray_toList]
    · have := VT_take fs.size _ _ h5
      rwa [t1] at this
    · have := VT_take cs.size _ _ (VT_drop fs.size _ _ h5)
      rwa [t2] at this
end
end Go.Vm
namespace Go.Vm
open Go
section
variable {C : Cx} {N : Ann} {nt : NT} {g0 g : Gh} {w0 w : World} {f : Fr} {s : St} {a : Act} {o : Oper}
variable {K : Upd → Res} {R : Res} {G : FuncId → List AV → List HO → Res}
theorem methodFid_run {P : Program} {t : TypeId} {m : String} {fid : FuncId} (h : methodFid P t m = some fid) (n : Nat) (v : Value) (w : World) : (method (n + 1) t v m).run P w = .ok (fid, v) w := by
  unfold methodFid at h
  split at h
  · rename_i row hrow
    cases hi : P.info? t with
    | none => rw [hi] at hrow; cases hrow
    | some i =>
      rw [hi] at hrow
      simp only [Option.bind_some] at hrow
      have hti : (typeInfo t).run P w = .ok i w := by simp [typeInfo, hi]
      split at h
      · rename_i hp
        obtain ⟨hp, hok⟩ := hp
        obtain ⟨d, hu⟩ := okT_inv hok
        have hp' : row.path.toList = [] := by
          have := Array.isEmpty_iff.1 hp
          simp [this]
        split at h
        · rename_i f' hf
          split at h
          · cases h
          · rename_i hnp
            cases h
            unfold method
            simp only [Sem.run_bind, hti, Result.andThen_ok, hrow, hp', follow, Sem.run_pure, hf]
            have hr : (receiverAt t (.val v) false (if row.path.isEmpty then some ((m.splitOn ".").getLastD m) else none)).run P w = .ok v w := by
              unfold receiverAt
              have hund : und P t = d := by simp [und, hu]
              simp only [Sem.run_bind, run_underlying hu, Result.andThen_ok]
              cases d with
              | pointer e => exact absurd hund (by simpa using hnp e)
              | _ => rfl
            rw [hr]
            rfl
        · rename_i f' hf
          split at h
          · rename_i e hu
            cases h
            unfold method
            simp only [Sem.run_bind, hti, Result.andThen_ok, hrow, hp', follow, Sem.run_pure, hf]
            have hr : (receiverAt t (.val v) true (if row.path.isEmpty then some ((m.splitOn ".").getLastD m) else none)).run P w = .ok v w := by
              unfold receiverAt
              simp only [Sem.run_bind, run_underlying (und_some hu (by simp)), Result.andThen_ok]
              rfl
            rw [hr]
            rfl
          · cases h
        · cases h
      · cases h
  · cases h
theorem args_eval (l : Array Operand) : (l.map a.eval) = (l.toList.map a.eval).toArray := by
  apply Array.toList_inj.1
  simp
theorem OpS.call (hC : OkC C) (r : Rel C nt g0 w0 g w f s a) (hd : ∀ x, o.dst = some x → nt.ok x) (hR : R ≠ .stuck) (hG : ∀ j, Sound C j (G j)) {c : Call} (ho : o.op = .call c)
    (h : opH C N G o s K R) : OpS C nt g0 w0 s a w o K R := by
  have h0 := h
  have viaK : ∀ {fid : FuncId} {as : List AV} {vals : List Value} {us : List (Nat × LOv)} {g1 : Gh}, FrzL s.loc us → Core g1 w f (s.withLocs us) → Stp g w f s g1 w f (s.withLocs us) → VT g1 w as vals →
      Resolves a o C.P fid vals → ∀ {vis : Option (List Nat)}, callK (stdAlg C.pure G) C o.dst (s.loc (o.dst.getD 0)) o.type fid as us vis s.h K = R → OpS C nt g0 w0 s a w o K R := by
    intro fid as vals us g1 hf hc hst hv hr vis h
    cases hp : C.pure fid with
    | true => exact OpS.callP hC r hd hR (hG fid) hp hf hc hst hv hr h
    | false =>
      unfold callK at h
      rw [if_neg (by simp [hp])] at h
      cases vis with
      | none => exact OpS.callF r hd hR (hG fid) hp hf hc hst hv hr h
      | some l => exact OpS.callM r hd hR (hG fid) hp hf hc hst hv hr h
  simp only [opH, opF, ho, Op.operands, Call.operands] at h
  split at h
  ·
    rename_i b hb
    split at h
    · exact OpS.len hC r hd hR ho hb h0
    · exact OpS.append hC r hd hR ho hb h0
    · exact OpS.copy hC r hd hR ho hb h0
    · exact OpS.max r hd hR ho hb h0
    · exact OpS.min r hd hR ho hb h0
    · exact absurd h.symm hR
  ·
    rename_i rv m hcal
    rw [hcal] at h
    simp only [Array.toList_append, List.map_append, List.map_cons, List.map_nil, List.cons_append, List.nil_append, List.getD_cons_zero, List.drop_succ_cons, List.drop_zero] at h
    split at h
    · rename_i av e1
      obtain ⟨as, us, g1, h1, hf, hc, hst, hv⟩ := r.useAllF h hR
      obtain ⟨t, rx, rfl, h2⟩ := mX_inv' h1 hR
      split at h2
      · rename_i fid hfid
        have hx := V.later hst.chg.later _ _ (r.evv e1)
        obtain ⟨u, hu, hvu⟩ := V_X' hx
        refine viaK (vals := u :: c.args.toList.map a.eval) hf hc hst (by simp only [VT]; exact ⟨u, _, rfl, hvu, hv⟩) (fun w' => ?_) h2
        have hm := methodFid_run hfid (C.P.types.size + Made.depth - 1) u w'
        have hdp : C.P.types.size + Made.depth - 1 + 1 = C.P.types.size + Made.depth := by
          have : 0 < Made.depth := by decide
          omega
        rw [hdp] at hm
        simp [execOp, ho, resolve, hcal, invoke, hu, callMethod, hm, args_eval]
        rw [List.take_of_length_le (by simp)]
      · exact absurd h2.symm hR
    · exact absurd h.symm hR
  ·
    rename_i fid hcal
    rw [hcal] at h
    simp only [Array.toList_append, List.map_append, List.map_cons, List.map_nil, List.cons_append, List.nil_append, List.drop_succ_cons, List.drop_zero] at h
    have hres : Resolves a o C.P fid (c.args.toList.map a.eval) := fun w' => by
      simp [execOp, ho, resolve, hcal, Act.eval, Deferred.ofValue, invoke, args_eval]
    split at h
    · rename_i e he
      split at h
      · rename_i t0 ts hts
        cases hargs : c.args.toList with
        | nil =>
          rw [hargs] at h
          simp only [List.map_nil, List.drop_nil] at h
          cases ts <;> exact absurd h.symm hR
        | cons x xs =>
          rw [hargs] at h hres
          simp only [List.map_cons, List.drop_succ_cons, List.drop_zero, List.getD_cons_succ, List.getD_cons_zero] at h
          obtain ⟨as, us, g1, h1, hf, hc, hst, hv⟩ := r.useAllF h hR
          exact OpS.callE hC r hd hR (hG fid) he hf hc hst hv hres h1
      · exact absurd h.symm hR
    · obtain ⟨as, us, g1, h1, hf, hc, hst, hv⟩ := r.useAllF h hR
      exact viaK (vals := c.args.toList.map a.eval) hf hc hst hv hres h1
  ·
    rename_i x hnf hcal
    rw [hcal] at h
    simp only [Array.toList_append, List.map_append, List.map_cons, List.map_nil, List.cons_append, List.nil_append, List.getD_cons_zero, List.drop_succ_cons, List.drop_zero] at h
    split at h
    · rename_i av e1
      obtain ⟨as, us, g1, h1, hf, hc, hst, hv⟩ := r.useAllF h hR
      have h1' : mF av _ = R := h1
      obtain ⟨fn, fs, cs, rfl, h2⟩ := mF_inv h1' hR
      have hx := V.later hst.chg.later _ _ (r.evv e1)
      obtain ⟨vf, vc, hu, hvf, hvc⟩ := V_F' hx
      have hall : VT g1 w (fs ++ as ++ cs) (vf ++ c.args.toList.map a.eval ++ vc) := VT_app _ _ _ _ (VT_app _ _ _ _ hvf hv) hvc
      split at h2
      · have h3 : dynP C.pure G fn (fs ++ as ++ cs) s.h _ = R := h2
        unfold dynP at h3
        split at h3
        · rename_i fid
          split at h3
          · rename_i hp
            refine OpS.pcallV hC r hd hR (hG fid) hp hf hc hst hall (fun w' => ?_) h3
            simp [execOp, ho, resolve, hcal, hu, Deferred.ofValue, invoke, args_eval]
          · exact absurd h3.symm hR
        · exact absurd h3.symm hR
      · have h3 : dynH C.pure G fn (fs ++ as ++ cs) s.h _ = R := h2
        unfold dynH at h3
        split at h3
        · rename_i fid
          split at h3
          · exact absurd h3.symm hR
          · rename_i hp
            refine OpS.callF r hd hR (hG fid) hp hf hc hst hall (fun w' => ?_) h3
            simp [execOp, ho, resolve, hcal, hu, Deferred.ofValue, invoke, args_eval]
        · exact absurd h3.symm hR
    · exact absurd h.symm hR
theorem OpS.all (hC : OkC C) (r : Rel C nt g0 w0 g w f s a) (hd : ∀ x, o.dst = some x → nt.ok x) (hR : R ≠ .stuck) (hG : ∀ j, Sound C j (G j)) (h : opH C N G o s K R) : OpS C nt g0 w0 s a w o K R := by
  cases ho : o.op with
  | move x => exact .move r hd hR ho h
  | assign x => exact .assign r hd hR ho h
  | pick x y z => exact .pick r hd hR ho h
  | alloc t => exact .alloc r hd hR ho h
  | box t x => exact .box r hd hR ho h
  | build t ps => exact .build r hd hR ho h
  | buildSlice t n ps => exact .buildSlice r hd hR ho h
  | load t x => exact .load hC r hd hR ho h
  | store t x y => exact .store r hd hR ho h
  | nilCheck x => exact .nilCheck r hd hR ho h
  | binOp op t x y tt => exact .binOp hC r hd hR ho h
  | unOp op t x => exact .unOp hC r hd hR ho h
  | convert t d x => exact .convert hC r hd hR ho h
  | makeInterface t x => exact .makeInterface hC r hd hR ho h
  | makeFunc fn fs cs => exact .makeFunc hC r hd hR ho h
  | makeSlice t x y => exact .makeSlice hC r hd hR ho h
  | slice t x lo hi mx => exact .slice hC r hd hR ho h
  | fieldAddr t x i => exact .fieldAddr r hd hR ho h
  | field t x i => exact .field r hd hR ho h
  | indexAddr t x y => exact .indexAddr hC r hd hR ho h
  | index t x y => exact .index hC r hd hR ho h
  | extract x i => exact .extract r hd hR ho h
  | call c => exact .call hC r hd hR hG ho h
  | panic x => exact .panic hC r hd hR ho h
  | makeMap t rs => exact .makeMap r hd hR ho h
  | lookup t x y ok => exact .lookup r hd hR ho h
  | mapUpdate t x y z => exact .mapUpdate r hd hR ho h
  | _ =>
    simp only [opH, opF, ho] at h
    exact absurd h.symm hR
end
end Go.Vm
namespace Go.Vm
open Go
section
variable {C : Cx} {N : Ann} {nt : NT} {g0 g : Gh} {w0 w : World} {f : Fr} {s : St} {a : Act} {o : Oper}
variable {K : Upd → Res} {R : Res} {G : FuncId → List AV → List HO → Res}
theorem VE.env_irrel {s s' : St} (h1 : s'.loc = s.loc) (h2 : s'.h = s.h) (h3 : s'.hv = s.hv) {e : EV} {u : Value} (h : VE g w f s e u) : VE g w f s' e u := by
  cases e <;> simp only [VE] at h ⊢ <;> first | exact h | (rw [h1]; exact h) | (rw [h2, h3]; exact h)
theorem Rel.putSame (r : Rel C nt g0 w0 g w f s a) {t : Nat} {e : EV} (h : s.env t = e) : Rel C nt g0 w0 g w f (s.put (some t) e) a := by
  refine ⟨r.ext, ⟨r.core.heap, r.core.loc, r.core.wf⟩, fun j => ?_, r.glob, r.dfr, r.sz, r.fixed⟩
  have hj := r.env j
  have : (s.put (some t) e).env j = s.env j := by
    simp only [St.put]
    by_cases hjt : j = t
    · subst hjt; simp [h]
    · have : Nat.beq j t = false := by
        rw [Bool.eq_false_iff]
        exact fun e' => hjt (Nat.eq_of_beq_eq_true e')
      simp [this]
  rw [this]
  exact hj.env_irrel rfl rfl rfl
theorem Rel.putEV (r : Rel C nt g0 w0 g w f s a) {t : Nat} {e : EV} (h : VE g w f s e (a.tmps.getD t undef)) : Rel C nt g0 w0 g w f (s.put (some t) e) a := by
  refine ⟨r.ext, ⟨r.core.heap, r.core.loc, r.core.wf⟩, fun j => ?_, r.glob, r.dfr, r.sz, r.fixed⟩
  simp only [St.put]
  by_cases hjt : j = t
  · subst hjt
    simp only [Nat.beq_refl, cond_true]
    exact h.env_irrel rfl rfl rfl
  · have : Nat.beq j t = false := by
      rw [Bool.eq_false_iff]
      exact fun e' => hjt (Nat.eq_of_beq_eq_true e')
    simp only [this, cond_false]
    exact (r.env j).env_irrel rfl rfl rfl
theorem Rel.putUn (r : Rel C nt g0 w0 g w f s a) (d : Option Nat) (hd : ∀ x, d = some x → nt.ok x) : Rel C nt g0 w0 g w f (s.put d .un) (a.put d undef) :=
  r.val hd rfl
theorem Rel.putU (r : Rel C nt g0 w0 g w f s a) (d : Option Nat) (hd : ∀ x, d = some x → nt.ok x) : Rel C nt g0 w0 g w f (s.put d (.v .U)) (a.put d undef) :=
  r.val hd trivial
theorem Core.freezeAll (L : List Nat) : ∀ {g : Gh} {us : List (Nat × LOv)}, FrzL s.loc us → Core g w f (s.withLocs us) →
    ∃ us' g', FrzL s.loc us' ∧ Core g' w f (s.withLocs us') ∧ Stp g w f (s.withLocs us) g' w f (s.withLocs us') ∧ (∀ i ∈ us.map (·.1), i ∈ us'.map (·.1)) ∧ (∀ i ∈ us'.map (·.1), i ∈ us.map (·.1) ∨ i ∈ L) ∧ ∀ k ∈ L, ∀ ver c ex, (s.withLocs us').loc k = ⟨ver, .arr c ex⟩ → ex = false := by
  induction L with
  | nil => intro g us hf hc; exact ⟨us, g, hf, hc, Stp.refl _ _ _ _, fun _ h => h, fun _ h => .inl h, fun k hk => by cases hk⟩
  | cons k L ih =>
    intro g us hf hc
    have step : ∃ us' g', FrzL s.loc us' ∧ Core g' w f (s.withLocs us') ∧ Stp g w f (s.withLocs us) g' w f (s.withLocs us') ∧ (∀ i ∈ us.map (·.1), i ∈ us'.map (·.1)) ∧ (∀ i ∈ us'.map (·.1), i ∈ us.map (·.1) ∨ i = k) ∧ (∀ ver c, s.loc k = ⟨ver, .arr c true⟩ → k ∈ us'.map (·.1)) := by
      cases hl : s.loc k with
      | mk ver lo =>
        cases lo with
        | no => exact ⟨us, g, hf, hc, Stp.refl _ _ _ _, fun _ h => h, fun _ h => .inl h, fun _ _ e => by cases e⟩
        | box m cs => exact ⟨us, g, hf, hc, Stp.refl _ _ _ _, fun _ h => h, fun _ h => .inl h, fun _ _ e => by cases e⟩
        | arr c ex =>
          cases ex with
          | false => exact ⟨us, g, hf, hc, Stp.refl _ _ _ _, fun _ h => h, fun _ h => .inl h, fun _ _ e => by cases e⟩
          | true =>
            obtain ⟨g', h0, h1, h2, h3⟩ := hc.freeze hf hl
            refine ⟨_, g', ?_, h1, h2, fun i hi => by simp only [List.map_cons, List.mem_cons]; exact .inr hi, fun i hi => by simp only [List.map_cons, List.mem_cons] at hi; exact hi.symm, fun _ _ _ => by simp⟩
            intro p hp
            rcases List.mem_cons.1 hp with rfl | hp
            · exact ⟨ver, c, hl, rfl⟩
            · exact hf p hp
    obtain ⟨us1, g1, f1, c1, s1, m1, n1, q1⟩ := step
    obtain ⟨us2, g2, f2, c2, s2, m2, n2, q2⟩ := ih f1 c1
    refine ⟨us2, g2, f2, c2, s1.trans hc.heap.len s2, fun i hi => m2 i (m1 i hi), fun i hi => (n2 i hi).elim (fun h => (n1 i h).elim .inl fun e => .inr (by rw [e]; simp)) fun h => .inr (List.mem_cons_of_mem _ h), fun j hj ver c ex e => ?_⟩
    rcases List.mem_cons.1 hj with rfl | hj
    · have e' : setLocs s.loc us2 j = ⟨ver, .arr c ex⟩ := e
      rw [setLocs_frz f2] at e'
      by_cases hm : j ∈ us2.map (·.1)
      · rw [if_pos hm] at e'
        unfold freezeLo at e'
        split at e'
        · cases e'; rfl
        · rename_i hne
          exact absurd e' (hne ver c ex)
      · rw [if_neg hm] at e'
        cases ex with
        | false => rfl
        | true => exact absurd (m2 j (q1 ver c e')) hm
    · exact q2 j hj ver c ex e
theorem lk_map (l : List Nat) (F : Nat → EV) (t : Nat) : lk t (l.map fun t => (t, F t)) = if t ∈ l then F t else .v .U := by
  induction l with
  | nil => rfl
  | cons x l ih =>
    simp only [List.map_cons, lk, List.mem_cons]
    by_cases e : t = x
    · subst e; simp
    · have : Nat.beq x t = false := by
        rw [Bool.eq_false_iff]
        exact fun e' => e (Nat.eq_of_beq_eq_true e').symm
      simp only [this, cond_false, ih, e, false_or]
theorem lkL_map (l : List Nat) (F : Nat → LOv) (t : Nat) : lkL t (l.map fun t => (t, F t)) = if t ∈ l then F t else ⟨0, .no⟩ := by
  induction l with
  | nil => rfl
  | cons x l ih =>
    simp only [List.map_cons, lkL, List.mem_cons]
    by_cases e : t = x
    · subst e; simp
    · have : Nat.beq x t = false := by
        rw [Bool.eq_false_iff]
        exact fun e' => e (Nat.eq_of_beq_eq_true e').symm
      simp only [this, cond_false, ih, e, false_or]
theorem fixLO_box {k : Nat} {l : LOv} {m : Nat} {cs : List HV} (e : (fixLO N k l).lo = .box m cs) : ∃ m' cs', l.lo = .box m' cs' := by
  obtain ⟨v, lo⟩ := l
  cases lo with
  | no => cases e
  | box m cs => exact ⟨_, _, rfl⟩
  | arr c ex => cases e
theorem fixLO_arr {k : Nat} {l : LOv} {c : SC} {ex : Bool} (e : (fixLO N k l).lo = .arr c ex) : ∃ ex', l.lo = .arr c ex' := by
  obtain ⟨v, lo⟩ := l
  cases lo with
  | no => cases e
  | box m cs => cases e
  | arr c' ex' =>
    simp only [fixLO, LO.arr.injEq] at e
    rw [e.1]
    exact ⟨_, rfl⟩
theorem Rel.nrm (r : Rel C nt g0 w0 g w f s a) (i : Option Nat) : ∃ g', Rel C nt g0 w0 g' w f (nrm N i s) a := by
  unfold Vm.nrm
  cases hi : i.bind N.live with
  | none => exact ⟨g, r⟩
  | some ls =>
    obtain ⟨live, sites⟩ := ls
    simp only
    let L : List Nat := (sites ++ live.filterMap fun t => (s.env t).site).filter fun k => !N.excl k
    obtain ⟨us, g1, hf, hc, hst, _, honly, hfrz⟩ := Core.freezeAll (s := s) (us := []) L (fun _ hp => (by cases hp)) r.core
    have hlen := r.core.heap.len
    have henv : ∀ t, VE g1 w f (s.withLocs us) (s.env t) (a.tmps.getD t undef) := fun t => (r.env t).stp hlen hst
    have hver : ∀ k, ((s.withLocs us).loc k).ver = (s.loc k).ver := withLocs_ver hf
    have hlo : ∀ k, (s.withLocs us).loc k = if k ∈ us.map (·.1) then freezeLo (s.loc k) else s.loc k := fun k => setLocs_frz hf k
    have frozenL : ∀ k ∈ L, ∀ ver c ex, s.loc k = ⟨ver, .arr c ex⟩ → SR g1 w (.arr k) c false (f.hd k) := by
      intro k hk ver c ex e
      have h0 := hc.loc k
      have h1 : ∃ ex', (s.withLocs us).loc k = ⟨ver, .arr c ex'⟩ := by
        rw [hlo]
        split
        · rw [e]; exact ⟨false, rfl⟩
        · exact ⟨ex, e⟩
      obtain ⟨ex', h1⟩ := h1
      have := hfrz k hk ver c ex' h1
      subst this
      unfold LR at h0
      rw [h1] at h0
      exact h0
    have fix : ∀ (s2 : St), (∀ k, sites.contains k = true → s2.loc k = fixLO N k (s.loc k)) → ∀ (e : EV) (u : Value), VE g1 w f (s.withLocs us) e u → VE g1 w f s2 (fixEV s sites e) u := by
      intro s2 site e u h
      cases e with
      | v x => exact h
      | nil => exact h
      | ep n cs off => exact h
      | ag cs => exact h
      | hb k ver m off x => exact h.1
      | hh id off hv x => exact h.1
      | un => trivial
      | ub => trivial
      | lw k ver off => trivial
      | lp k ver off =>
        simp only [fixEV]
        split
        · rename_i hk
          obtain ⟨h1, h2⟩ := h
          rw [hver] at h1 h2
          refine ⟨Nat.zero_le _, fun _ m cs e => ?_⟩
          rw [site k hk.1] at e
          have := fixLO_box e
          obtain ⟨m', cs', e1⟩ := this
          exact h2 hk.2.symm m' cs' (by
            rw [hlo]
            split
            · unfold freezeLo; split
              · rename_i e2; rw [e2] at e1; cases e1
              · exact e1
            · exact e1)
        · trivial
      | ls k ver =>
        simp only [fixEV]
        split
        · rename_i hk
          obtain ⟨h1, h2⟩ := h
          rw [hver] at h1 h2
          refine ⟨Nat.zero_le _, fun _ c ex e => ?_⟩
          rw [site k hk.1] at e
          have : ∃ c' ex', (s.loc k).lo = .arr c' ex' := ⟨c, fixLO_arr e⟩
          obtain ⟨c', ex', e1⟩ := this
          have : ∃ ex2, ((s.withLocs us).loc k).lo = .arr c' ex2 := by
            rw [hlo]
            split
            · unfold freezeLo; split
              · rename_i e2; rw [e2] at e1; cases e1; exact ⟨_, rfl⟩
              · exact ⟨_, e1⟩
            · exact ⟨_, e1⟩
          obtain ⟨ex2, e3⟩ := this
          exact h2 hk.2.symm c' ex2 e3
        · trivial
      | le k ver j off =>
        simp only [fixEV]
        split
        · rename_i hk
          obtain ⟨h1, h2⟩ := h
          rw [hver] at h1 h2
          refine ⟨Nat.zero_le _, fun _ c ex e => ?_⟩
          rw [site k hk.1] at e
          have := fixLO_arr e
          obtain ⟨ex', e1⟩ := this
          have : ∃ ex2, ((s.withLocs us).loc k).lo = .arr c ex2 := by
            rw [hlo]
            split
            · unfold freezeLo; split
              · rename_i e2; rw [e2] at e1; cases e1; exact ⟨_, rfl⟩
              · exact ⟨_, e1⟩
            · exact ⟨_, e1⟩
          obtain ⟨ex2, e3⟩ := this
          exact h2 hk.2.symm c ex2 e3
        · trivial
    have hsite : ∀ k, sites.contains k = true → (mkSt (live.map fun t => (t, if N.asV t then fixEV s sites (toV N s (s.env t)) else fixEV s sites (s.env t))) (sites.map fun k => (k, fixLO N k (s.loc k))) s.h).loc k = fixLO N k (s.loc k) := by
      intro k hk
      show lkL k _ = _
      rw [lkL_map, if_pos (by simpa using hk)]
    refine ⟨g1, r.ext.trans hst.chg fun b hb hB hn => hB ((r.ext.ow b hb (fun x => x hn)).trans hn), ⟨hc.heap, fun k => ?_, hc.wf⟩, fun t => ?_, fun gi cs hg => VC.later hst.chg.later gi cs 0 (r.glob gi cs hg), r.dfr.chg hst.chg (fun _ h => h), r.sz, r.fixed⟩
    · show LR g1 w f.be f.hd k (lkL k _)
      rw [lkL_map]
      split
      · rename_i hk
        have h0 := hc.loc k
        cases hl : s.loc k with
        | mk ver lo =>
          cases lo with
          | no => trivial
          | box m cs =>
            rw [hlo] at h0
            have : (if k ∈ us.map (·.1) then freezeLo (s.loc k) else s.loc k) = ⟨ver, .box m cs⟩ := by
              rw [hl]; split <;> rfl
            rw [this] at h0
            exact h0
          | arr c ex =>
            simp only [fixLO]
            cases hex : N.excl k with
            | false =>
              refine frozenL k ?_ ver c ex hl
              simp only [L, List.mem_filter, List.mem_append]
              exact ⟨.inl hk, by simp [hex]⟩
            | true =>
              simp only [if_true]
              cases ex with
              | true =>
                rw [hlo] at h0
                have hno : k ∉ us.map (·.1) := fun hm => by
                  rcases honly k hm with h | h
                  · cases h
                  · simp only [L, List.mem_filter] at h
                    simp [hex] at h
                rw [if_neg hno, hl] at h0
                exact h0
              | false =>
                rw [hlo] at h0
                have : (if k ∈ us.map (·.1) then freezeLo (s.loc k) else s.loc k) = ⟨ver, .arr c false⟩ := by
                  rw [hl]; split <;> rfl
                rw [this] at h0
                exact h0
      · trivial
    · show VE _ _ _ _ (lk t _) _
      rw [lk_map]
      split
      · rename_i ht
        by_cases hv : N.asV t = true
        · rw [if_pos hv]
          refine fix _ hsite _ _ ?_
          unfold toV
          split
          · rename_i k ver e
            split
            · rename_i ver' c ex el
              split
              · rename_i hk
                obtain ⟨rfl, hex⟩ := hk
                have hsr := frozenL k (by
                  simp only [L, List.mem_filter, List.mem_append, List.mem_filterMap]
                  exact ⟨.inr ⟨t, ht, by rw [e]; rfl⟩, by simp [hex]⟩) ver c ex el
                have hve := r.env t
                rw [e] at hve
                have := hve.2 (by rw [el]) c ex (by rw [el])
                rw [this]
                exact SR.toV hsr
              · trivial
            · trivial
          · exact henv t
        · rw [if_neg hv]
          exact fix _ hsite _ _ (henv t)
      · trivial
end
end Go.Vm
namespace Go.Vm
open Go
section
variable {C : Cx} {N : Ann} {nt : NT} {g0 g : Gh} {w0 w : World} {f : Fr} {s : St} {a : Act} {o : Oper}
variable {K : Upd → Res} {R : Res} {G : FuncId → List AV → List HO → Res}
theorem Rel.yields (r : Rel C nt g0 w0 g w f s a) {all : Array Oper} {j gt : Nat} {b : Bool} (hj : (all[j]?).bind (·.dst) = some gt) (he : s.env gt = .v (.B b)) : yielded all a.tmps j = some b := by
  have h := r.env gt
  rw [he] at h
  have h' : a.tmps.getD gt undef = .bool b := V_B' (g := g) (w := w) h
  unfold yielded
  rw [hj]
  simp only [Option.bind_some]
  rw [Array.getD_eq_getD_getElem?] at h'
  cases e : a.tmps[gt]? with
  | none => rw [e] at h'; cases h'
  | some v => rw [e] at h'; simp only [Option.getD_some] at h'; rw [h']
theorem Rel.yields_un (r : Rel C nt g0 w0 g w f s a) {all : Array Oper} {j gt : Nat} (hj : (all[j]?).bind (·.dst) = some gt) (he : s.env gt = .un) : yielded all a.tmps j = none := by
  have h := r.env gt
  rw [he] at h
  have h' : a.tmps.getD gt undef = undef := h
  unfold yielded
  rw [hj]
  simp only [Option.bind_some]
  rw [Array.getD_eq_getD_getElem?] at h'
  cases e : a.tmps[gt]? with
  | none => rfl
  | some v => rw [e] at h'; simp only [Option.getD_some] at h'; rw [h']; rfl
def FR (ro : Option Nat) : Fence := { Fence.wide with round := ro }
theorem uponIn_of {P : Program} {ro : Option Nat} {n : Nat} {next : Act → World → Prop} {Q : Exit → Act → World → Prop} {r : Result Next} (h : o.upon P a next Q r) : o.uponIn (FR ro) n P a next Q r := by
  cases r with
  | ok x w' =>
    cases x <;> simp only [Oper.upon] at h <;> simp only [Oper.uponIn] <;> first | exact h | (exact h.elim) | skip
    · exact ⟨fun h => by simp [FR, Fence.wide] at h, callsIn_wide.2 h⟩
    · refine ⟨fun h => by simp [FR, Fence.wide] at h, fun c cs _ => ?_⟩
      obtain ⟨v, w'', h1, h2⟩ := h c cs
      exact ⟨v, w'', h1, stepsIn_wide.2 h2⟩
  | halt x w' => cases x <;> simp only [Oper.upon] at h <;> simp only [Oper.uponIn] <;> first | exact h | exact h.elim
theorem opIn {P : Program} {ro : Option Nat} {n : Nat} {next : Act → World → Prop} {Q : Exit → Act → World → Prop} (hnd : ∀ c, o.op ≠ .defer c) (h : o.wp P a w next Q) : o.wpIn (FR ro) n P a w next Q :=
  ⟨fun _ _ => trivial, by rw [Oper.semAt_eq _ _ _ hnd]; exact uponIn_of h⟩
theorem opH_nodefer (hR : R ≠ .stuck) (h : opH C N G o s K R) : ∀ c, o.op ≠ .defer c := by
  intro c ho
  simp only [opH, opF, ho] at h
  exact absurd h.symm hR
def PanAll (nt : NT) (g0 : Gh) (w0 : World) (Q : Exit → Act → World → Prop) (R : Res) : Prop := bif nt.mks then (∀ v h, R ≠ .pan v h) else ∀ a : Act, a.defers = g0.df → PanQ g0 w0 a Q R
theorem PanAll.get {Q : Exit → Act → World → Prop} (h : PanAll nt g0 w0 Q R) (r : Rel C nt g0 w0 g w f s a) : PanQ g0 w0 a Q R := by
  unfold PanAll at h
  have hd := r.dfr
  cases hm : nt.mks with
  | false =>
    rw [hm] at h hd
    exact h a hd
  | true =>
    rw [hm] at h
    intro v h' u g' w' e
    exact absurd e (h v h')
def dstOK (nt : NT) (all : Array Oper) : Bool := all.toList.all fun o => match o.dst with
  | some d => Nat.blt d nt.n && !nt.fix.any (Nat.beq d)
  | none => true
theorem dstOK_get {all : Array Oper} (h : dstOK nt all = true) {i : Nat} (hi : all[i]? = some o) : ∀ x, o.dst = some x → nt.ok x := by
  intro x hx
  have hm : o ∈ all.toList := by
    rw [← Array.getElem?_toList] at hi
    exact List.mem_of_getElem? hi
  have := List.all_eq_true.1 h o hm
  rw [hx] at this
  simp only [Bool.and_eq_true, Bool.not_eq_true'] at this
  exact ⟨by simpa using this.1, this.2⟩
theorem aOps_pre {ro : Option Nat} {n : Nat} (hC : OkC C) (hR : R ≠ .stuck) (hG : ∀ j, Sound C j (G j)) {all : Array Oper} (hdst : dstOK nt all = true) {kn : St → Res} {Q : Exit → Act → World → Prop} (hpan : PanAll nt g0 w0 Q R) (post : List Oper) :
    ∀ (l : List Oper) (i : Nat), all.toList.drop i = l ++ post → (∀ g w f s a, Rel C nt g0 w0 g w f s a → kn s = R → wpOpsIn (FR ro) n C.P all Q ((List.range all.size).drop (i + l.length)) a w) →
    ∀ (g : Gh) (w : World) (f : Fr) (s : St) (a : Act), Rel C nt g0 w0 g w f s a → aOps (stdAlg C.pure G) C N all l s kn = R →
      wpOpsIn (FR ro) n C.P all Q ((List.range all.size).drop i) a w := by
  intro l
  induction l with
  | nil =>
    intro i hl hQ g w f s a r h
    exact hQ g w f s a r h
  | cons o l ih =>
    intro i hl hQ g w f s a r h
    rw [List.cons_append] at hl
    have hQ' : ∀ g w f s a, Rel C nt g0 w0 g w f s a → kn s = R → wpOpsIn (FR ro) n C.P all Q ((List.range all.size).drop (i + 1 + l.length)) a w := fun g w f s a r h => by
      have := hQ g w f s a r h
      rw [List.length_cons, show i + (l.length + 1) = i + 1 + l.length by omega] at this
      exact this
    have hi : i < all.size := by
      rw [← Array.length_toList]
      rcases Nat.lt_or_ge i all.toList.length with h | h
      · exact h
      · rw [List.drop_eq_nil_iff.2 h] at hl; cases hl
    have ho : all[i]? = some o := by
      rw [List.drop_eq_getElem_cons (by simpa using hi)] at hl
      simp only [List.cons.injEq] at hl
      rw [Array.getElem?_eq_getElem hi]
      simpa using hl.1
    have hl' : all.toList.drop (i + 1) = l ++ post := by
      rw [List.drop_eq_getElem_cons (by simpa using hi)] at hl
      simp only [List.cons.injEq] at hl
      exact hl.2
    have hr : (List.range all.size).drop i = i :: (List.range all.size).drop (i + 1) := by
      rw [List.drop_eq_getElem_cons (by simpa using hi)]
      simp
    rw [hr]
    have hd := dstOK_get hdst ho
    have run : ∀ (s : St), Rel C nt g0 w0 g w f s a → op1 (stdAlg C.pure G) C N o s (fun s' => aOps (stdAlg C.pure G) C N all l s' kn) = R →
        o.wpIn (FR ro) n C.P a w (wpOpsIn (FR ro) n C.P all Q ((List.range all.size).drop (i + 1))) Q := by
      intro s r h
      have := OpS.all (N := N) hC r hd hR hG (o := o) (K := fun u => aOps (stdAlg C.pure G) C N all l (u.on o.dst s) kn) h
      exact opIn (opH_nodefer (N := N) (K := fun u => aOps (stdAlg C.pure G) C N all l (u.on o.dst s) kn) hR h) (this _ Q (fun u g' w' f' a' hk hrel => ih (i + 1) hl' hQ' g' w' f' _ a' hrel hk) (hpan.get r))
    simp only [wpOpsIn, ho]
    simp only [aOps] at h
    split at h
    · rename_i hg
      rw [if_pos (by simp [Region.wanted, hg])]
      exact run s r h
    · rename_i j want hg
      split at h
      · exact absurd h.symm hR
      · rename_i gt hj
        split at h
        · rename_i av he
          obtain ⟨b, rfl, h1⟩ := mB_inv h hR
          have hy := r.yields hj he
          have hw : Region.wanted o (yielded all a.tmps) = (b == want) := by
            simp only [Region.wanted, hg, hy]
            cases b <;> cases want <;> rfl
          have body : ∀ b', b' = b → (if b' = want then op1 (stdAlg C.pure G) C N o (s.put (some gt) (.v (.B b'))) (fun s' => aOps (stdAlg C.pure G) C N all l s' kn) else aOps (stdAlg C.pure G) C N all l ((s.put (some gt) (.v (.B b'))).put o.dst .un) kn) = R →
              if Region.wanted o (yielded all a.tmps) = true then o.wpIn (FR ro) n C.P a w (wpOpsIn (FR ro) n C.P all Q ((List.range all.size).drop (i + 1))) Q else (∀ f, o.about C.P w a.eval = some f → (FR ro).fn f) ∧ wpOpsIn (FR ro) n C.P all Q ((List.range all.size).drop (i + 1)) (a.put o.dst undef) w := by
            intro b' hb h9
            subst hb
            have r' := r.putSame he
            rw [hw]
            by_cases hbw : b' = want
            · rw [if_pos hbw] at h9
              rw [if_pos (by simp [hbw])]
              exact run _ r' h9
            · rw [if_neg hbw] at h9
              rw [if_neg (by simpa using hbw)]
              exact ⟨fun _ _ => trivial, ih (i + 1) hl' hQ' g w f _ _ (r'.putUn o.dst hd) h9⟩
          rcases bIte_inv h1 with ⟨hb, h2⟩ | ⟨hb, h2⟩
          · exact body true hb.symm h2
          · exact body false hb.symm h2
        · rename_i he
          have hy : yielded all a.tmps j = none := r.yields_un hj he
          have hw : Region.wanted o (yielded all a.tmps) = false := by
            simp only [Region.wanted, hg, hy]
            rfl
          rw [hw]
          exact ⟨fun _ _ => trivial, ih (i + 1) hl' hQ' g w f _ _ (r.putUn o.dst hd) h⟩
        · exact absurd h.symm hR
theorem aOps_sound {ro : Option Nat} {n : Nat} (hC : OkC C) (hR : R ≠ .stuck) (hG : ∀ j, Sound C j (G j)) {all : Array Oper} (hdst : dstOK nt all = true) {kn : St → Res} {Q : Exit → Act → World → Prop} (hpan : PanAll nt g0 w0 Q R)
    (hQ : ∀ g w f s a, Rel C nt g0 w0 g w f s a → kn s = R → Q .normal a w) (l : List Oper) (i : Nat) (g : Gh) (w : World) (f : Fr) (s : St) (a : Act) (hl : all.toList.drop i = l) (r : Rel C nt g0 w0 g w f s a) (h : aOps (stdAlg C.pure G) C N all l s kn = R) :
      wpOpsIn (FR ro) n C.P all Q ((List.range all.size).drop i) a w := by
  refine aOps_pre (ro := ro) (n := n) hC hR hG hdst hpan [] l i (by simpa using hl) (fun g w f s a r h => ?_) g w f s a r h
  have hi : all.size ≤ i + l.length := by
    have := congrArg List.length hl
    simp only [List.length_drop, Array.length_toList] at this
    omega
  rw [List.drop_eq_nil_iff.2 (by simpa using hi)]
  exact hQ g w f s a r h
end
end Go.Vm
