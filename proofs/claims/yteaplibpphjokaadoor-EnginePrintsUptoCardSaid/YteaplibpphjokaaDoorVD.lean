/- Part of a proof: VmC, Vm29, Vm30, Vm31, Vm32, Vm33, Vm34, VmR, Vm35. -/
import Derived.Test.YteaplibpphjokaaDoorVC
import Derived.Laws.CopyRow
import Derived.OrdersIn
import Derived.Test.YteaplibpphjokaaDoorVA
import Derived.LoopNIn
import Derived.Scope
import Derived.RangeFuncIn
set_option linter.unusedSimpArgs false
set_option linter.unusedVariables false
set_option linter.unusedSectionVars false
namespace Go.Vm
open Go
section
variable {C : Cx} {N : Ann} {nt : NT} {g0 g : Gh} {w0 w : World} {f : Fr} {s : St} {a : Act} {o : Oper}
variable {K : Upd → Res} {R : Res} {G : FuncId → List AV → List HO → Res}
theorem SC.over_facts {c z : SC} {off : Nat} (h : c.same z) (hl : off + z.len ≤ c.len) : (c.over off z).len = c.len ∧ (c.over off z).width = c.width ∧ (c.over off z).elem = c.elem := by
  cases c <;> cases z <;> simp_all [SC.same, SC.over, SC.len, SC.width, SC.elem] <;> omega
theorem SC.over_nil {c z : SC} {off : Nat} (h : c.same z) (h0 : z.len = 0) : c.over off z = c := by
  cases c <;> cases z <;> simp_all [SC.same, SC.over, SC.len]
theorem flat_take {n : Nat} : ∀ (k : Nat) (xs : List (List AV)), (∀ x ∈ xs, x.length = n) → (xs.take k).flatten = xs.flatten.take (k * n) ∧ (xs.drop k).flatten = xs.flatten.drop (k * n)
  | 0, xs, _ => by simp
  | k + 1, [], _ => by simp
  | k + 1, x :: xs, h => by
    obtain ⟨h1, h2⟩ := flat_take k xs fun y hy => h y (by simp [hy])
    have hx := h x (by simp)
    simp only [List.take_succ_cons, List.drop_succ_cons, List.flatten_cons, h1, h2]
    rw [List.take_append, List.drop_append]
    have e1 : x.take ((k + 1) * n) = x := List.take_of_length_le (by rw [hx, Nat.succ_mul]; omega)
    have e2 : x.drop ((k + 1) * n) = [] := List.drop_of_length_le (by rw [hx, Nat.succ_mul]; omega)
    rw [e1, e2, hx, show (k + 1) * n - n = k * n by rw [Nat.succ_mul]; omega]
    simp
theorem SCV.over {c z : SC} {v1 v2 : List Value} {off : Nat} (h : c.same z) (hl : off + z.len ≤ c.len) (h1 : SCV g w c v1) (h2 : SCV g w z v2) :
    SCV g w (c.over off z) (v1.take (off * c.width) ++ v2 ++ v1.drop (off * c.width + z.len * c.width)) := by
  cases c with
  | e t n xs =>
    cases z with
    | e t' m ys =>
      simp only [SC.same] at h
      subst h
      obtain ⟨a1, a2⟩ := h1
      obtain ⟨b1, b2⟩ := h2
      obtain ⟨e1, _⟩ := flat_take (n := n) off xs a1
      obtain ⟨_, e2⟩ := flat_take (n := n) (off + ys.length) xs a1
      refine ⟨fun x hx => ?_, ?_⟩
      · simp only [List.mem_append] at hx
        rcases hx with (hx | hx) | hx
        · exact a1 x (List.mem_of_mem_take hx)
        · exact b1 x hx
        · exact a1 x (List.mem_of_mem_drop hx)
      · simp only [List.flatten_append, SC.width, SC.len]
        rw [e1, e2, Nat.add_mul]
        exact VS_app _ _ _ _ (VS_app _ _ _ _ (VS_take _ _ _ a2) b2) (VS_drop _ _ _ a2)
    | y t' ys => cases h
  | y t xs =>
    cases z with
    | e t' m ys => cases h
    | y t' ys =>
      simp only [SCV] at h1 h2 ⊢
      subst h1
      subst h2
      simp [SC.over, SCV, SC.width, SC.len, List.map_take, List.map_drop]
theorem OpS.copy (hC : OkC C) (r : Rel C nt g0 w0 g w f s a) (hd : ∀ x, o.dst = some x → nt.ok x) (hR : R ≠ .stuck) {c : Call} (ho : o.op = .call c) (hc : c.callee = .builtin .copy)
    (h : opH C N G o s K R) : OpS C nt g0 w0 s a w o K R := by
  simp only [opH, opF, ho, hc, Op.operands, Call.operands, Array.empty_append] at h
  split at h
  case h_2 => exact absurd h.symm hR
  rename_i x y t tx hargs htys
  simp only [hargs, List.map_cons, List.map_nil, List.getD_cons_zero, List.getD_cons_succ] at h
  split at h
  case h_2 => exact absurd h.symm hR
  rename_i e e' hu hux
  have hut := und_some hu (by simp)
  have hutx := und_some hux (by simp)
  have hrun : ∀ u' w', (Builtin.copy_ #[t, tx] o.type #[a.eval x, a.eval y]).run C.P w = .ok u' w' → (execOp a.eval o).run C.P w = .ok (.value u') w' := by
    intro u' w' hr
    have e1 : c.argTypes = #[t, tx] := by apply Array.toList_inj.1; rw [htys]
    have e2 : c.args.map a.eval = #[a.eval x, a.eval y] := by apply Array.toList_inj.1; rw [Array.toList_map, hargs]; rfl
    rw [run_builtin ho hc, e1, e2]
    simp only [Go.builtin, Sem.run_bind, hr, Result.andThen_ok, Sem.run_pure]
  have body : ∀ (k ver off : Nat) (lx : LOv), lx = s.loc k → ver ≤ (s.loc k).ver →
      (∀ cc ex, ver = (s.loc k).ver → (s.loc k).lo = .arr cc ex → off ≤ cc.len ∧ ∃ ad len cap, f.hd k = .slice ad len cap ∧ a.eval x = .slice (if cap = off then ad else ad.map (·.add (off * cc.width))) (len - off) (cap - off)) →
      (match lx with
      | ⟨ver', .arr c true⟩ => if ver = ver' ∧ c.elem = e ∧ c.width = szT C.P e ∧ szT C.P e ≠ 0 then
        srcK (stdAlg C.pure G) c (evO C s y) (loO s (evO C s y)) false fun z => (stdAlg C.pure G).chk (decide (off + z.len ≤ c.len)) (K { dst := some (.v (.I .i64 z.len)), locs := [(k, ⟨ver, .arr (c.over off z) true⟩)] })
      else (stdAlg C.pure G).stuck
      | _ => (stdAlg C.pure G).stuck) = R → OpS C nt g0 w0 s a w o K R := by
    intro k ver off lx hlx hve hvx h
    split at h
    case h_2 => exact absurd h.symm hR
    rename_i ver' cc
    split at h
    case isFalse => exact absurd h.symm hR
    rename_i hcc
    obtain ⟨rfl, b1, b2, b3⟩ := hcc
    obtain ⟨z, news, h1, h2, h3, h4⟩ := srcK_inv r hR (.inl ⟨_, hutx⟩) (fun e => by cases e) h
    obtain ⟨hb, h5⟩ := chk_inv' h1 hR
    have hb : off + z.len ≤ cc.len := by simpa using hb
    obtain ⟨hoff, ad, len, cap, hhd, hx⟩ := hvx cc true (by rw [← hlx]) (by rw [← hlx])
    have hlr := r.core.loc k
    unfold LR at hlr
    rw [← hlx] at hlr
    obtain ⟨vals, o1, o2, o3, o4⟩ := SR_iff.1 hlr
    obtain ⟨ad', cap', q1, q2⟩ := ownsRow_len o1
    rw [hhd] at q1
    simp only [Value.slice.injEq] at q1
    obtain ⟨_, hlen, hcap⟩ := q1
    obtain ⟨f1, f2, f3⟩ := SC.over_facts h2 hb
    have hsz : (sizeOf e).run C.P w = .ok cc.width w := by rw [run_sz (.inr b3), b2]
    have hmin : Nat.min z.len (len - off) = z.len := Nat.min_eq_left (by omega)
    have hrng : IntKind.i64.min ≤ (z.len : Int) ∧ (z.len : Int) ≤ IntKind.i64.max := by
      have : z.len ≤ 9223372036854775807 := by omega
      constructor
      · have : IntKind.i64.min ≤ 0 := by decide
        omega
      · have : IntKind.i64.max = 9223372036854775807 := by decide
        omega
    by_cases h0 : z.len = 0
    · have hn0 : news = [] := List.eq_nil_of_length_eq_zero (by rw [h3.newsLen, h0, Nat.zero_mul])
      have hsame : s.withLocs [(k, ⟨ver, .arr (cc.over off z) true⟩)] = s := by
        rw [SC.over_nil h2 h0, hlx]
        show { s with loc := _ } = s
        have : setLocs s.loc [(k, s.loc k)] = s.loc := by
          funext i
          simp only [setLocs]
          cases hi : Nat.beq i k with
          | true => rw [Nat.eq_of_beq_eq_true hi]; rfl
          | false => rfl
        rw [this]
      refine .to r hd h5 (v := .int .i64 z.len) (hrun _ w ?_) rfl (f' := f) (g' := g) ?_ ?_ ?_
      · rw [hx]
        have hc := h3.cells
        rw [hn0, h0] at hc
        generalize (if cap = off then ad else ad.map (·.add (off * cc.width))) = bb
        have hl := h3.len w
        rw [h0] at hl hmin
        cases bb with
        | none => simp [Builtin.copy_, run_underlying hut, hl, hsz, hmin, hc, goInt, h0]
        | some ad => simp [Builtin.copy_, run_underlying hut, hl, hsz, hmin, hc, storeCells, goInt, h0]
      · show Core g w f (s.withLocs _)
        rw [hsame]; exact r.core
      · show Stp g w f s g w f (s.withLocs _)
        rw [hsame]; exact Stp.refl g w f s
      · exact V_I g w hrng
    · rcases o1.2 with ⟨_, hz⟩ | ⟨b, cap2, cur, he, _, hrow, hc1, hc2, hsz2, htk⟩
      · omega
      · rw [hhd] at he
        simp only [Value.slice.injEq] at he
        obtain ⟨rfl, _, rfl⟩ := he
        have hcapn : cap ≠ off := by omega
        have hown : (f.hd k).ownBlock = some b := by rw [hhd]; rfl
        have hnl : news.length = z.len * cc.width := h3.newsLen
        have hmul : off * cc.width + z.len * cc.width ≤ cc.len * cc.width := by
          rw [← Nat.add_mul]; exact Nat.mul_le_mul_right _ hb
        have hmul2 : cc.len * cc.width ≤ cap * cc.width := Nat.mul_le_mul_right _ hc1
        have hst := run_storeCells_at C.P b (off * cc.width) cc.elem news 0 cur w hrow (by rw [hnl, hsz2]; omega) h3.one
        have hcl : cur.toList.length = cap * cc.width := by simp [hsz2]
        have key := r.core.putArr (k := k) (ver := ver) (c := cc) hlx.symm hown (c' := cc.over off z) (cur := (cur.toList.take (off * cc.width + 0) ++ news ++ cur.toList.drop (off * cc.width + 0 + news.length)).toArray) hrow
          (by simp only [List.size_toArray, List.length_append, List.length_take, List.length_drop, hnl, hcl, hsz2]; omega) f1 f2 (fun hch => by
            refine SR_iff.2 ⟨vals.take (off * cc.width) ++ news ++ vals.drop (off * cc.width + z.len * cc.width), ⟨?_, .inr ⟨b, cap, _, ?_, Nat.zero_le _, setRow_heap w b _ _ _ _ (by rw [f3]; exact hrow), ?_, hc2, ?_, ?_⟩⟩, by rw [f2]; exact o2, ?_, ?_⟩
            · rw [f1, f2]
              have := o1.1
              simp only [List.length_append, List.length_take, List.length_drop, hnl]
              omega
            · rw [f1, hhd, hlen]
            · rw [f1]; exact hc1
            · rw [f2]
              simp only [List.size_toArray, List.length_append, List.length_take, List.length_drop, hnl, hcl]
              omega
            · rw [f1, f2, ← htk]
              simp only [Nat.add_zero, hnl]
              rw [List.take_append, List.take_append, List.take_take, List.take_take]
              simp only [List.length_append, List.length_take, hnl, hcl]
              rw [show Min.min (off * cc.width) (cap * cc.width) = off * cc.width from Nat.min_eq_left (by omega), show Min.min (cc.len * cc.width) (off * cc.width) = off * cc.width from Nat.min_eq_right (by omega), show Min.min (off * cc.width) (cc.len * cc.width) = off * cc.width by omega,
                List.take_of_length_le (l := news) (by rw [hnl]; omega), List.drop_take]
            · exact SCV.later hch.later (SCV.over h2 hb o3 h4)
            · rw [f1, f2]; exact o4)
        obtain ⟨p3, p4⟩ := key
        refine .to r hd h5 (v := .int .i64 z.len) (hrun _ _ ?_) rfl p3 p4 (by simp only [VE]; exact V_I _ _ hrng)
        rw [hx, if_neg hcapn]
        have hadd : (⟨b, 0, none⟩ : Addr).add (off * cc.width) = ⟨b, off * cc.width, none⟩ := by rw [add_off, Nat.zero_add]
        have hst' : (storeCells ⟨b, off * cc.width, none⟩ news 0).run C.P w = _ := hst
        simp [Builtin.copy_, run_underlying hut, h3.len, hsz, hmin, h3.cells, hadd, hst', goInt]
  unfold copyK at h
  dsimp only at h
  have hev := r.ev x
  split at h
  · rename_i k ver ex
    rw [ex] at hev h
    refine body k ver 0 _ rfl hev.1 (fun cc ex' hv hlo => ?_) h
    have hxx := hev.2 hv cc ex' hlo
    have hlr := r.core.loc k
    unfold LR at hlr
    rw [hlo] at hlr
    obtain ⟨vals, o1, _⟩ := SR_iff.1 hlr
    obtain ⟨ad', cap', q1, q2⟩ := ownsRow_len o1
    refine ⟨Nat.zero_le _, ad', cc.len, cap', q1, ?_⟩
    rw [hxx, q1]
    simp only [Nat.zero_mul, Nat.sub_zero]
    split
    · rfl
    · cases ad' with
      | none => rfl
      | some ad => rw [Option.map_some]; congr 2
  · rename_i k ver off ex
    rw [ex] at hev h
    exact body k ver off _ rfl hev.1 (fun cc ex' hv hlo => hev.2 hv cc ex' hlo) h
  · exact absurd h.symm hR
theorem VC_of {b : Nat} : ∀ (l : List HV) (o : Nat), (∀ j x, l[j]? = some x → g.st b (o + j) ∧ ∃ u, w.cell? ⟨b, o + j, none⟩ = some u ∧ V g w x.toAV u ∧ u.oneCell' = true) → VC g w b o (l.map HV.toAV)
  | [], _, _ => by simp [VC]
  | x :: l, o, h => by
    simp only [List.map_cons, VC]
    have h0 := h 0 x rfl
    simp only [Nat.add_zero] at h0
    refine ⟨h0.1, h0.2, VC_of l (o + 1) fun j y hy => ?_⟩
    have := h (j + 1) y hy
    rw [show o + (j + 1) = o + 1 + j by omega] at this
    exact this
theorem Core.capt (hc : Core g w f s) {k ver m : Nat} {cs : List HV} (hl : s.loc k = ⟨ver, .box m cs⟩) :
    ∃ g', Core g' w f (s.withLocs [(k, ⟨ver + 1, .no⟩)]) ∧ Stp g w f s g' w f (s.withLocs [(k, ⟨ver + 1, .no⟩)]) ∧ V g' w (.Q (cs.map HV.toAV)) (.pointer (some ⟨f.be k, 0, none⟩)) := by
  have hb := hc.loc k
  unfold LR at hb
  rw [hl] at hb
  obtain ⟨arr, t, h1, h2, h3⟩ := hb.row
  have hch := Gh.stay_chg g w (f.be k) cs.length
  have hother : ∀ b, b = f.be k → ∀ ow : Own, ow ≠ .box k → g.ow b ≠ some ow := by
    intro b e ow hne he
    rw [e, hb.ow] at he
    exact hne (Option.some.inj he).symm
  refine ⟨g.stay (f.be k) cs.length, ⟨hc.heap.chg hch rfl fun b hb ow ho => hother b hb ow (fun e => by rw [e] at ho; exact ho), fun i => ?_, fun b i hx => ?_⟩, ⟨hch.mono fun b _ e => by rw [e, hb.ow]; simp, fun i => ?_, fun id => .keep rfl rfl fun _ _ _ => rfl⟩, ?_⟩
  · rw [withLocs_loc]
    by_cases e : i = k
    · subst e
      rw [if_pos rfl]
      trivial
    · rw [if_neg e]
      refine (hc.loc i).chg hch fun b hb' ow ho => hother b hb' ow fun e' => ?_
      rw [e'] at ho
      simp only [Own.site, Option.some.injEq] at ho
      exact e ho.symm
  · rcases hx with hx | hx
    · exact hc.wf b i hx
    · rw [hx.1]; exact hb.lt
  · by_cases e : i = k
    · subst e
      left
      rw [withLocs_loc, if_pos rfl, hl]
      exact Nat.lt_succ_self _
    · exact SiteStp.same (by rw [withLocs_loc, if_neg e]) rfl rfl fun _ _ _ _ => rfl
  · simp only [V]
    refine ⟨_, _, rfl, VC_of cs 0 fun j x hx => ?_⟩
    obtain ⟨u, hu, hr⟩ := h3 j x hx
    have hv := hr.toV
    have hj : j < cs.length := (List.getElem?_eq_some_iff.1 hx).1
    refine ⟨.inr ⟨rfl, by omega⟩, u, ?_, V.later hch.later _ _ hv.1, hv.2⟩
    rw [Nat.zero_add]
    simp [World.cell?, h1, hu]
theorem captAll_inv (r : Rel C nt g0 w0 g w f s a) (hR : R ≠ .stuck) : ∀ (xs : List Operand) {K : List AV → List (Nat × LOv) → Res}, captAll (stdAlg C.pure G) (xs.map (evO C s)) ((xs.map (evO C s)).map (loO s)) K = R →
    ∃ avs us g', K avs us = R ∧ Core g' w f (s.withLocs us) ∧ Stp g w f s g' w f (s.withLocs us) ∧ VT g' w avs (xs.map a.eval)
  | [], K, h => by
    simp only [List.map_nil, captAll] at h
    exact ⟨[], [], g, h, r.core, Stp.refl _ _ _ _, by simp [VT]⟩
  | x :: xs, K, h => by
    simp only [List.map_cons, captAll] at h
    split at h
    case h_2 => exact absurd h.symm hR
    rename_i k ver ver' m cs ls hx hcons
    simp only [List.cons.injEq] at hcons
    obtain ⟨hlo, rfl⟩ := hcons
    rw [hx] at hlo
    simp only [loO, EV.site] at hlo
    split at h
    case isFalse => exact absurd h.symm hR
    rename_i hver
    subst hver
    obtain ⟨avs, us, g1, h1, h2, h3, h4⟩ := captAll_inv r hR xs h
    split at h1
    · exact absurd h1.symm hR
    rename_i hany
    have hany : (us.any fun p => p.1 == k) = false := (Bool.not_eq_true _).mp hany
    have hlk : (s.withLocs us).loc k = ⟨ver, .box m cs⟩ := by
      show setLocs s.loc us k = _
      rw [setLocs_not us s.loc k hany, hlo]
    obtain ⟨g2, k1, k2, k3⟩ := h2.capt hlk
    have hve := r.ev x
    rw [hx] at hve
    have hxe := hve.2 (by rw [hlo]) m cs (by rw [hlo])
    rw [← withLocs_cons] at k1 k2
    refine ⟨_, _, g2, h1, k1, h3.trans r.core.heap.len k2, ?_⟩
    simp only [List.map_cons, VT]
    exact ⟨_, _, rfl, by rw [hxe]; exact k3, VT.later k2.chg.later _ _ h4⟩
theorem OpS.makeFunc (hC : OkC C) (r : Rel C nt g0 w0 g w f s a) (hd : ∀ x, o.dst = some x → nt.ok x) (hR : R ≠ .stuck) {fn : Fn} {fs cs : Array Operand} (ho : o.op = .makeFunc fn fs cs)
    (h : opH C N G o s K R) : OpS C nt g0 w0 s a w o K R := by
  simp only [opH, opF, ho, Op.operands] at h
  split at h
  · obtain ⟨avs, us, g', h1, h3, h4, h5⟩ := captAll_inv r hR _ h
    split at h1
    case isFalse => exact absurd h1.symm hR
    rename_i hfs
    have hfs' : fs = #[] := Array.eq_empty_of_size_eq_zero hfs
    subst hfs'
    refine .valU r hd h1 (u := .func fn #[] (cs.map a.eval)) ?_ h3 h4 ?_
    · simp [execOp, ho, Instr.makeFunc]
    · show V g' w (.F fn [] avs) _
      simp only [V]
      refine ⟨[], cs.toList.map a.eval, ?_, by simp [VT], by simpa using h5⟩
      rw [← Array.toList_map, Array.toArray_toList]
  obtain ⟨avs, us, g', h1, h2, h3, h4, h5⟩ := r.useAll h hR
  refine .valU r hd h1 (u := .func fn (fs.map a.eval) (cs.map a.eval)) ?_ h3 h4 ?_
  · simp [execOp, ho, Instr.makeFunc]
  · have e : (fs ++ cs).toList.map a.eval = (fs.toList.map a.eval) ++ (cs.toList.map a.eval) := by simp
    rw [e] at h5
    show V g' w (.F fn (avs.take fs.size) ((avs.drop fs.size).take cs.size)) _
    simp only [V]
    have l1 : (fs.toList.map a.eval).length = fs.size := by simp
    have l2 : (cs.toList.map a.eval).length = cs.size := by simp
    have t1 : ((fs.toList.map a.eval) ++ (cs.toList.map a.eval)).take fs.size = fs.toList.map a.eval := by
      rw [← l1, List.take_left']
      rfl
    have t2 : (((fs.toList.map a.eval) ++ (cs.toList.map a.eval)).drop fs.size).take cs.size = cs.toList.map a.eval := by
      rw [← l1, List.drop_left', ← l2, List.take_length]
      rfl
    refine ⟨fs.toList.map a.eval, cs.toList.map a.eval, ?_, ?_, ?_⟩
    · rw [← Array.toList_map, ← Array.toList_map, Array.toArray_toList, Array.toArray_toList]
    · have := VT_take fs.size _ _ h5
      rwa [t1] at this
    · have := VT_take cs.size _ _ (VT_drop fs.size _ _ h5)
      rwa [t2] at this
end
end Go.Vm
namespace Go.Vm
open Go
section
variable {C : Cx} {N : Ann} {nt : NT} {g0 g : Gh} {w0 w : World} {f : Fr} {s : St} {a : Act} {o : Oper}
variable {K : Upd → Res} {R : Res} {G : FuncId → List AV → List HO → Res}
theorem methodFid_run {P : Program} {t : TypeId} {m : String} {fid : FuncId} (h : methodFid P t m = some fid) (n : Nat) (v : Value) (w : World) : (method (n + 1) t v m).run P w = .ok (fid, v) w := by
  unfold methodFid at h
  split at h
  · rename_i row hrow
    cases hi : P.info? t with
    | none => rw [hi] at hrow; cases hrow
    | some i =>
      rw [hi] at hrow
      simp only [Option.bind_some] at hrow
      have hti : (typeInfo t).run P w = .ok i w := by simp [typeInfo, hi]
      split at h
      · rename_i hp
        obtain ⟨hp, hok⟩ := hp
        obtain ⟨d, hu⟩ := okT_inv hok
        have hp' : row.path.toList = [] := by
          have := Array.isEmpty_iff.1 hp
          simp [this]
        split at h
        · rename_i f' hf
          split at h
          · cases h
          · rename_i hnp
            cases h
            unfold method
            simp only [Sem.run_bind, hti, Result.andThen_ok, hrow, hp', follow, Sem.run_pure, hf]
            have hr : (receiverAt t (.val v) false (if row.path.isEmpty then some ((m.splitOn ".").getLastD m) else none)).run P w = .ok v w := by
              unfold receiverAt
              have hund : und P t = d := by simp [und, hu]
              simp only [Sem.run_bind, run_underlying hu, Result.andThen_ok]
              cases d with
              | pointer e => exact absurd hund (by simpa using hnp e)
              | _ => rfl
            rw [hr]
            rfl
        · rename_i f' hf
          split at h
          · rename_i e hu
            cases h
            unfold method
            simp only [Sem.run_bind, hti, Result.andThen_ok, hrow, hp', follow, Sem.run_pure, hf]
            have hr : (receiverAt t (.val v) true (if row.path.isEmpty then some ((m.splitOn ".").getLastD m) else none)).run P w = .ok v w := by
              unfold receiverAt
              simp only [Sem.run_bind, run_underlying (und_some hu (by simp)), Result.andThen_ok]
              rfl
            rw [hr]
            rfl
          · cases h
        · cases h
      · cases h
  · cases h
theorem args_eval (l : Array Operand) : (l.map a.eval) = (l.toList.map a.eval).toArray := by
  apply Array.toList_inj.1
  simp
theorem OpS.call (hC : OkC C) (r : Rel C nt g0 w0 g w f s a) (hd : ∀ x, o.dst = some x → nt.ok x) (hR : R ≠ .stuck) (hG : ∀ j, Sound C j (G j)) {c : Call} (ho : o.op = .call c)
    (h : opH C N G o s K R) : OpS C nt g0 w0 s a w o K R := by
  have h0 := h
  have viaK : ∀ {fid : FuncId} {as : List AV} {vals : List Value} {us : List (Nat × LOv)} {g1 : Gh}, FrzL s.loc us → Core g1 w f (s.withLocs us) → Stp g w f s g1 w f (s.withLocs us) → VT g1 w as vals →
      Resolves a o C.P fid vals → ∀ {vis : Option (List Nat)}, callK (stdAlg C.pure G) C o.dst (s.loc (o.dst.getD 0)) o.type fid as us vis s.h K = R → OpS C nt g0 w0 s a w o K R := by
    intro fid as vals us g1 hf hc hst hv hr vis h
    cases hp : C.pure fid with
    | true => exact OpS.callP hC r hd hR (hG fid) hp hf hc hst hv hr h
    | false =>
      unfold callK at h
      rw [if_neg (by simp [hp])] at h
      cases vis with
      | none => exact OpS.callF r hd hR (hG fid) hp hf hc hst hv hr h
      | some l => exact OpS.callM r hd hR (hG fid) hp hf hc hst hv hr h
  simp only [opH, opF, ho, Op.operands, Call.operands] at h
  split at h
  ·
    rename_i b hb
    split at h
    · exact OpS.len hC r hd hR ho hb h0
    · exact OpS.append hC r hd hR ho hb h0
    · exact OpS.copy hC r hd hR ho hb h0
    · exact OpS.max r hd hR ho hb h0
    · exact OpS.min r hd hR ho hb h0
    · exact absurd h.symm hR
  ·
    rename_i rv m hcal
    rw [hcal] at h
    simp only [Array.toList_append, List.map_append, List.map_cons, List.map_nil, List.cons_append, List.nil_append, List.getD_cons_zero, List.drop_succ_cons, List.drop_zero] at h
    split at h
    · rename_i av e1
      obtain ⟨as, us, g1, h1, hf, hc, hst, hv⟩ := r.useAllF h hR
      obtain ⟨t, rx, rfl, h2⟩ := mX_inv' h1 hR
      split at h2
      · rename_i fid hfid
        have hx := V.later hst.chg.later _ _ (r.evv e1)
        obtain ⟨u, hu, hvu⟩ := V_X' hx
        refine viaK (vals := u :: c.args.toList.map a.eval) hf hc hst (by simp only [VT]; exact ⟨u, _, rfl, hvu, hv⟩) (fun w' => ?_) h2
        have hm := methodFid_run hfid (C.P.types.size + Made.depth - 1) u w'
        have hdp : C.P.types.size + Made.depth - 1 + 1 = C.P.types.size + Made.depth := by
          have : 0 < Made.depth := by decide
          omega
        rw [hdp] at hm
        simp [execOp, ho, resolve, hcal, invoke, hu, callMethod, hm, args_eval]
        rw [List.take_of_length_le (by simp)]
      · exact absurd h2.symm hR
    · exact absurd h.symm hR
  ·
    rename_i fid hcal
    rw [hcal] at h
    simp only [Array.toList_append, List.map_append, List.map_cons, List.map_nil, List.cons_append, List.nil_append, List.drop_succ_cons, List.drop_zero] at h
    have hres : Resolves a o C.P fid (c.args.toList.map a.eval) := fun w' => by
      simp [execOp, ho, resolve, hcal, Act.eval, Deferred.ofValue, invoke, args_eval]
    split at h
    · rename_i e he
      split at h
      · rename_i t0 ts hts
        cases hargs : c.args.toList with
        | nil =>
          rw [hargs] at h
          simp only [List.map_nil, List.drop_nil] at h
          cases ts <;> exact absurd h.symm hR
        | cons x xs =>
          rw [hargs] at h hres
          simp only [List.map_cons, List.drop_succ_cons, List.drop_zero, List.getD_cons_succ, List.getD_cons_zero] at h
          obtain ⟨as, us, g1, h1, hf, hc, hst, hv⟩ := r.useAllF h hR
          exact OpS.callE hC r hd hR (hG fid) he hf hc hst hv hres h1
      · exact absurd h.symm hR
    · obtain ⟨as, us, g1, h1, hf, hc, hst, hv⟩ := r.useAllF h hR
      exact viaK (vals := c.args.toList.map a.eval) hf hc hst hv hres h1
  ·
    rename_i x hnf hcal
    rw [hcal] at h
    simp only [Array.toList_append, List.map_append, List.map_cons, List.map_nil, List.cons_append, List.nil_append, List.getD_cons_zero, List.drop_succ_cons, List.drop_zero] at h
    split at h
    · rename_i av e1
      obtain ⟨as, us, g1, h1, hf, hc, hst, hv⟩ := r.useAllF h hR
      have h1' : mF av _ = R := h1
      obtain ⟨fn, fs, cs, rfl, h2⟩ := mF_inv h1' hR
      have hx := V.later hst.chg.later _ _ (r.evv e1)
      obtain ⟨vf, vc, hu, hvf, hvc⟩ := V_F' hx
      have hall : VT g1 w (fs ++ as ++ cs) (vf ++ c.args.toList.map a.eval ++ vc) := VT_app _ _ _ _ (VT_app _ _ _ _ hvf hv) hvc
      split at h2
      · have h3 : dynP C.pure G fn (fs ++ as ++ cs) s.h _ = R := h2
        unfold dynP at h3
        split at h3
        · rename_i fid
          split at h3
          · rename_i hp
            refine OpS.pcallV hC r hd hR (hG fid) hp hf hc hst hall (fun w' => ?_) h3
            simp [execOp, ho, resolve, hcal, hu, Deferred.ofValue, invoke, args_eval]
          · exact absurd h3.symm hR
        · exact absurd h3.symm hR
      · have h3 : dynH C.pure G fn (fs ++ as ++ cs) s.h _ = R := h2
        unfold dynH at h3
        split at h3
        · rename_i fid
          split at h3
          · exact absurd h3.symm hR
          · rename_i hp
            refine OpS.callF r hd hR (hG fid) hp hf hc hst hall (fun w' => ?_) h3
            simp [execOp, ho, resolve, hcal, hu, Deferred.ofValue, invoke, args_eval]
        · exact absurd h3.symm hR
    · exact absurd h.symm hR
theorem OpS.all (hC : OkC C) (r : Rel C nt g0 w0 g w f s a) (hd : ∀ x, o.dst = some x → nt.ok x) (hR : R ≠ .stuck) (hG : ∀ j, Sound C j (G j)) (h : opH C N G o s K R) : OpS C nt g0 w0 s a w o K R := by
  cases ho : o.op with
  | move x => exact .move r hd hR ho h
  | assign x => exact .assign r hd hR ho h
  | pick x y z => exact .pick r hd hR ho h
  | alloc t => exact .alloc r hd hR ho h
  | box t x => exact .box r hd hR ho h
  | build t ps => exact .build r hd hR ho h
  | buildSlice t n ps => exact .buildSlice r hd hR ho h
  | load t x => exact .load hC r hd hR ho h
  | store t x y => exact .store r hd hR ho h
  | nilCheck x => exact .nilCheck r hd hR ho h
  | binOp op t x y tt => exact .binOp hC r hd hR ho h
  | unOp op t x => exact .unOp hC r hd hR ho h
  | convert t d x => exact .convert hC r hd hR ho h
  | makeInterface t x => exact .makeInterface hC r hd hR ho h
  | makeFunc fn fs cs => exact .makeFunc hC r hd hR ho h
  | makeSlice t x y => exact .makeSlice hC r hd hR ho h
  | slice t x lo hi mx => exact .slice hC r hd hR ho h
  | fieldAddr t x i => exact .fieldAddr r hd hR ho h
  | field t x i => exact .field r hd hR ho h
  | indexAddr t x y => exact .indexAddr hC r hd hR ho h
  | index t x y => exact .index hC r hd hR ho h
  | extract x i => exact .extract r hd hR ho h
  | call c => exact .call hC r hd hR hG ho h
  | panic x => exact .panic hC r hd hR ho h
  | makeMap t rs => exact .makeMap r hd hR ho h
  | lookup t x y ok => exact .lookup r hd hR ho h
  | mapUpdate t x y z => exact .mapUpdate r hd hR ho h
  | mapEntry t x y => exact .mapEntry hC r hd hR ho h
  | entryStore t x y z => exact .entryStore r hd hR ho h
  | _ =>
    simp only [opH, opF, ho] at h
    exact absurd h.symm hR
end
end Go.Vm
namespace Go.Vm
open Go
section
variable {C : Cx} {N : Ann} {nt : NT} {g0 g : Gh} {w0 w : World} {f : Fr} {s : St} {a : Act} {o : Oper}
variable {K : Upd → Res} {R : Res} {G : FuncId → List AV → List HO → Res}
theorem VE.env_irrel {s s' : St} (h1 : s'.loc = s.loc) (h2 : s'.h = s.h) (h3 : s'.hv = s.hv) {e : EV} {u : Value} (h : VE g w f s e u) : VE g w f s' e u := by
  cases e <;> simp only [VE] at h ⊢ <;> first | exact h | (rw [h1]; exact h) | (rw [h2, h3]; exact h)
theorem Rel.putSame (r : Rel C nt g0 w0 g w f s a) {t : Nat} {e : EV} (h : s.env t = e) : Rel C nt g0 w0 g w f (s.put (some t) e) a := by
  refine ⟨r.ext, ⟨r.core.heap, r.core.loc, r.core.wf⟩, fun j => ?_, r.glob, r.dfr, r.sz, r.fixed⟩
  have hj := r.env j
  have : (s.put (some t) e).env j = s.env j := by
    simp only [St.put]
    by_cases hjt : j = t
    · subst hjt; simp [h]
    · have : Nat.beq j t = false := by
        rw [Bool.eq_false_iff]
        exact fun e' => hjt (Nat.eq_of_beq_eq_true e')
      simp [this]
  rw [this]
  exact hj.env_irrel rfl rfl rfl
theorem Rel.putEV (r : Rel C nt g0 w0 g w f s a) {t : Nat} {e : EV} (h : VE g w f s e (a.tmps.getD t undef)) : Rel C nt g0 w0 g w f (s.put (some t) e) a := by
  refine ⟨r.ext, ⟨r.core.heap, r.core.loc, r.core.wf⟩, fun j => ?_, r.glob, r.dfr, r.sz, r.fixed⟩
  simp only [St.put]
  by_cases hjt : j = t
  · subst hjt
    simp only [Nat.beq_refl, cond_true]
    exact h.env_irrel rfl rfl rfl
  · have : Nat.beq j t = false := by
      rw [Bool.eq_false_iff]
      exact fun e' => hjt (Nat.eq_of_beq_eq_true e')
    simp only [this, cond_false]
    exact (r.env j).env_irrel rfl rfl rfl
theorem Rel.putUn (r : Rel C nt g0 w0 g w f s a) (d : Option Nat) (hd : ∀ x, d = some x → nt.ok x) : Rel C nt g0 w0 g w f (s.put d .un) (a.put d undef) :=
  r.val hd rfl
theorem Rel.putU (r : Rel C nt g0 w0 g w f s a) (d : Option Nat) (hd : ∀ x, d = some x → nt.ok x) : Rel C nt g0 w0 g w f (s.put d (.v .U)) (a.put d undef) :=
  r.val hd trivial
theorem Core.freezeAll (L : List Nat) : ∀ {g : Gh} {us : List (Nat × LOv)}, FrzL s.loc us → Core g w f (s.withLocs us) →
    ∃ us' g', FrzL s.loc us' ∧ Core g' w f (s.withLocs us') ∧ Stp g w f (s.withLocs us) g' w f (s.withLocs us') ∧ (∀ i ∈ us.map (·.1), i ∈ us'.map (·.1)) ∧ (∀ i ∈ us'.map (·.1), i ∈ us.map (·.1) ∨ i ∈ L) ∧ ∀ k ∈ L, ∀ ver c ex, (s.withLocs us').loc k = ⟨ver, .arr c ex⟩ → ex = false := by
  induction L with
  | nil => intro g us hf hc; exact ⟨us, g, hf, hc, Stp.refl _ _ _ _, fun _ h => h, fun _ h => .inl h, fun k hk => by cases hk⟩
  | cons k L ih =>
    intro g us hf hc
    have step : ∃ us' g', FrzL s.loc us' ∧ Core g' w f (s.withLocs us') ∧ Stp g w f (s.withLocs us) g' w f (s.withLocs us') ∧ (∀ i ∈ us.map (·.1), i ∈ us'.map (·.1)) ∧ (∀ i ∈ us'.map (·.1), i ∈ us.map (·.1) ∨ i = k) ∧ (∀ ver c, s.loc k = ⟨ver, .arr c true⟩ → k ∈ us'.map (·.1)) := by
      cases hl : s.loc k with
      | mk ver lo =>
        cases lo with
        | no => exact ⟨us, g, hf, hc, Stp.refl _ _ _ _, fun _ h => h, fun _ h => .inl h, fun _ _ e => by cases e⟩
        | box m cs => exact ⟨us, g, hf, hc, Stp.refl _ _ _ _, fun _ h => h, fun _ h => .inl h, fun _ _ e => by cases e⟩
        | arr c ex =>
          cases ex with
          | false => exact ⟨us, g, hf, hc, Stp.refl _ _ _ _, fun _ h => h, fun _ h => .inl h, fun _ _ e => by cases e⟩
          | true =>
            obtain ⟨g', h0, h1, h2, h3⟩ := hc.freeze hf hl
            refine ⟨_, g', ?_, h1, h2, fun i hi => by simp only [List.map_cons, List.mem_cons]; exact .inr hi, fun i hi => by simp only [List.map_cons, List.mem_cons] at hi; exact hi.symm, fun _ _ _ => by simp⟩
            intro p hp
            rcases List.mem_cons.1 hp with rfl | hp
            · exact ⟨ver, c, hl, rfl⟩
            · exact hf p hp
    obtain ⟨us1, g1, f1, c1, s1, m1, n1, q1⟩ := step
    obtain ⟨us2, g2, f2, c2, s2, m2, n2, q2⟩ := ih f1 c1
    refine ⟨us2, g2, f2, c2, s1.trans hc.heap.len s2, fun i hi => m2 i (m1 i hi), fun i hi => (n2 i hi).elim (fun h => (n1 i h).elim .inl fun e => .inr (by rw [e]; simp)) fun h => .inr (List.mem_cons_of_mem _ h), fun j hj ver c ex e => ?_⟩
    rcases List.mem_cons.1 hj with rfl | hj
    · have e' : setLocs s.loc us2 j = ⟨ver, .arr c ex⟩ := e
      rw [setLocs_frz f2] at e'
      by_cases hm : j ∈ us2.map (·.1)
      · rw [if_pos hm] at e'
        unfold freezeLo at e'
        split at e'
        · cases e'; rfl
        · rename_i hne
          exact absurd e' (hne ver c ex)
      · rw [if_neg hm] at e'
        cases ex with
        | false => rfl
        | true => exact absurd (m2 j (q1 ver c e')) hm
    · exact q2 j hj ver c ex e
theorem lk_map (l : List Nat) (F : Nat → EV) (t : Nat) : lk t (l.map fun t => (t, F t)) = if t ∈ l then F t else .v .U := by
  induction l with
  | nil => rfl
  | cons x l ih =>
    simp only [List.map_cons, lk, List.mem_cons]
    by_cases e : t = x
    · subst e; simp
    · have : Nat.beq x t = false := by
        rw [Bool.eq_false_iff]
        exact fun e' => e (Nat.eq_of_beq_eq_true e').symm
      simp only [this, cond_false, ih, e, false_or]
theorem lkL_map (l : List Nat) (F : Nat → LOv) (t : Nat) : lkL t (l.map fun t => (t, F t)) = if t ∈ l then F t else ⟨0, .no⟩ := by
  induction l with
  | nil => rfl
  | cons x l ih =>
    simp only [List.map_cons, lkL, List.mem_cons]
    by_cases e : t = x
    · subst e; simp
    · have : Nat.beq x t = false := by
        rw [Bool.eq_false_iff]
        exact fun e' => e (Nat.eq_of_beq_eq_true e').symm
      simp only [this, cond_false, ih, e, false_or]
theorem fixLO_box {k : Nat} {l : LOv} {m : Nat} {cs : List HV} (e : (fixLO N k l).lo = .box m cs) : ∃ m' cs', l.lo = .box m' cs' := by
  obtain ⟨v, lo⟩ := l
  cases lo with
  | no => cases e
  | box m cs => exact ⟨_, _, rfl⟩
  | arr c ex => cases e
theorem fixLO_arr {k : Nat} {l : LOv} {c : SC} {ex : Bool} (e : (fixLO N k l).lo = .arr c ex) : ∃ ex', l.lo = .arr c ex' := by
  obtain ⟨v, lo⟩ := l
  cases lo with
  | no => cases e
  | box m cs => cases e
  | arr c' ex' =>
    simp only [fixLO, LO.arr.injEq] at e
    rw [e.1]
    exact ⟨_, rfl⟩
theorem Rel.nrm (r : Rel C nt g0 w0 g w f s a) (i : Option Nat) : ∃ g', Rel C nt g0 w0 g' w f (nrm N i s) a := by
  unfold Vm.nrm
  cases hi : i.bind N.live with
  | none => exact ⟨g, r⟩
  | some ls =>
    obtain ⟨live, sites⟩ := ls
    simp only
    let L : List Nat := (sites ++ live.filterMap fun t => (s.env t).site).filter fun k => !N.excl k
    obtain ⟨us, g1, hf, hc, hst, _, honly, hfrz⟩ := Core.freezeAll (s := s) (us := []) L (fun _ hp => (by cases hp)) r.core
    have hlen := r.core.heap.len
    have henv : ∀ t, VE g1 w f (s.withLocs us) (s.env t) (a.tmps.getD t undef) := fun t => (r.env t).stp hlen hst
    have hver : ∀ k, ((s.withLocs us).loc k).ver = (s.loc k).ver := withLocs_ver hf
    have hlo : ∀ k, (s.withLocs us).loc k = if k ∈ us.map (·.1) then freezeLo (s.loc k) else s.loc k := fun k => setLocs_frz hf k
    have frozenL : ∀ k ∈ L, ∀ ver c ex, s.loc k = ⟨ver, .arr c ex⟩ → SR g1 w (.arr k) c false (f.hd k) := by
      intro k hk ver c ex e
      have h0 := hc.loc k
      have h1 : ∃ ex', (s.withLocs us).loc k = ⟨ver, .arr c ex'⟩ := by
        rw [hlo]
        split
        · rw [e]; exact ⟨false, rfl⟩
        · exact ⟨ex, e⟩
      obtain ⟨ex', h1⟩ := h1
      have := hfrz k hk ver c ex' h1
      subst this
      unfold LR at h0
      rw [h1] at h0
      exact h0
    have fix : ∀ (s2 : St), (∀ k, sites.contains k = true → s2.loc k = fixLO N k (s.loc k)) → ∀ (e : EV) (u : Value), VE g1 w f (s.withLocs us) e u → VE g1 w f s2 (fixEV s sites e) u := by
      intro s2 site e u h
      cases e with
      | v x => exact h
      | nil => exact h
      | ep n cs off => exact h
      | ag cs => exact h
      | hb k ver m off x => exact h.1
      | hh id off hv x => exact h.1
      | un => trivial
      | ub => trivial
      | lw k ver off => trivial
      | lp k ver off =>
        simp only [fixEV]
        split
        · rename_i hk
          obtain ⟨h1, h2⟩ := h
          rw [hver] at h1 h2
          refine ⟨Nat.zero_le _, fun _ m cs e => ?_⟩
          rw [site k hk.1] at e
          have := fixLO_box e
          obtain ⟨m', cs', e1⟩ := this
          exact h2 hk.2.symm m' cs' (by
            rw [hlo]
            split
            · unfold freezeLo; split
              · rename_i e2; rw [e2] at e1; cases e1
              · exact e1
            · exact e1)
        · trivial
      | ls k ver =>
        simp only [fixEV]
        split
        · rename_i hk
          obtain ⟨h1, h2⟩ := h
          rw [hver] at h1 h2
          refine ⟨Nat.zero_le _, fun _ c ex e => ?_⟩
          rw [site k hk.1] at e
          have : ∃ c' ex', (s.loc k).lo = .arr c' ex' := ⟨c, fixLO_arr e⟩
          obtain ⟨c', ex', e1⟩ := this
          have : ∃ ex2, ((s.withLocs us).loc k).lo = .arr c' ex2 := by
            rw [hlo]
            split
            · unfold freezeLo; split
              · rename_i e2; rw [e2] at e1; cases e1; exact ⟨_, rfl⟩
              · exact ⟨_, e1⟩
            · exact ⟨_, e1⟩
          obtain ⟨ex2, e3⟩ := this
          exact h2 hk.2.symm c' ex2 e3
        · trivial
      | le k ver j off =>
        simp only [fixEV]
        split
        · rename_i hk
          obtain ⟨h1, h2⟩ := h
          rw [hver] at h1 h2
          refine ⟨Nat.zero_le _, fun _ c ex e => ?_⟩
          rw [site k hk.1] at e
          have := fixLO_arr e
          obtain ⟨ex', e1⟩ := this
          have : ∃ ex2, ((s.withLocs us).loc k).lo = .arr c ex2 := by
            rw [hlo]
            split
            · unfold freezeLo; split
              · rename_i e2; rw [e2] at e1; cases e1; exact ⟨_, rfl⟩
              · exact ⟨_, e1⟩
            · exact ⟨_, e1⟩
          obtain ⟨ex2, e3⟩ := this
          exact h2 hk.2.symm c ex2 e3
        · trivial
    have hsite : ∀ k, sites.contains k = true → (mkSt (live.map fun t => (t, if N.asV t then fixEV s sites (toV N s (s.env t)) else fixEV s sites (s.env t))) (sites.map fun k => (k, fixLO N k (s.loc k))) s.h).loc k = fixLO N k (s.loc k) := by
      intro k hk
      show lkL k _ = _
      rw [lkL_map, if_pos (by simpa using hk)]
    refine ⟨g1, r.ext.trans hst.chg fun b hb hB hn => hB ((r.ext.ow b hb (fun x => x hn)).trans hn), ⟨hc.heap, fun k => ?_, hc.wf⟩, fun t => ?_, fun gi cs hg => GV.later hst.chg.later gi cs (r.glob gi cs hg), r.dfr.chg hst.chg (fun _ h => h), r.sz, r.fixed⟩
    · show LR g1 w f.be f.hd k (lkL k _)
      rw [lkL_map]
      split
      · rename_i hk
        have h0 := hc.loc k
        cases hl : s.loc k with
        | mk ver lo =>
          cases lo with
          | no => trivial
          | box m cs =>
            rw [hlo] at h0
            have : (if k ∈ us.map (·.1) then freezeLo (s.loc k) else s.loc k) = ⟨ver, .box m cs⟩ := by
              rw [hl]; split <;> rfl
            rw [this] at h0
            exact h0
          | arr c ex =>
            simp only [fixLO]
            cases hex : N.excl k with
            | false =>
              refine frozenL k ?_ ver c ex hl
              simp only [L, List.mem_filter, List.mem_append]
              exact ⟨.inl hk, by simp [hex]⟩
            | true =>
              simp only [if_true]
              cases ex with
              | true =>
                rw [hlo] at h0
                have hno : k ∉ us.map (·.1) := fun hm => by
                  rcases honly k hm with h | h
                  · cases h
                  · simp only [L, List.mem_filter] at h
                    simp [hex] at h
                rw [if_neg hno, hl] at h0
                exact h0
              | false =>
                rw [hlo] at h0
                have : (if k ∈ us.map (·.1) then freezeLo (s.loc k) else s.loc k) = ⟨ver, .arr c false⟩ := by
                  rw [hl]; split <;> rfl
                rw [this] at h0
                exact h0
      · trivial
    · show VE _ _ _ _ (lk t _) _
      rw [lk_map]
      split
      · rename_i ht
        by_cases hv : N.asV t = true
        · rw [if_pos hv]
          refine fix _ hsite _ _ ?_
          unfold toV
          split
          · rename_i k ver e
            split
            · rename_i ver' c ex el
              split
              · rename_i hk
                obtain ⟨rfl, hex⟩ := hk
                have hsr := frozenL k (by
                  simp only [L, List.mem_filter, List.mem_append, List.mem_filterMap]
                  exact ⟨.inr ⟨t, ht, by rw [e]; rfl⟩, by simp [hex]⟩) ver c ex el
                have hve := r.env t
                rw [e] at hve
                have := hve.2 (by rw [el]) c ex (by rw [el])
                rw [this]
                exact SR.toV hsr
              · trivial
            · trivial
          · exact henv t
        · rw [if_neg hv]
          exact fix _ hsite _ _ (henv t)
      · trivial
end
end Go.Vm
namespace Go.Vm
open Go
section
variable {C : Cx} {N : Ann} {nt : NT} {g0 g : Gh} {w0 w : World} {f : Fr} {s : St} {a : Act} {o : Oper}
variable {K : Upd → Res} {R : Res} {G : FuncId → List AV → List HO → Res}
theorem Rel.yields (r : Rel C nt g0 w0 g w f s a) {all : Array Oper} {j gt : Nat} {b : Bool} (hj : (all[j]?).bind (·.dst) = some gt) (he : s.env gt = .v (.B b)) : yielded all a.tmps j = some b := by
  have h := r.env gt
  rw [he] at h
  have h' : a.tmps.getD gt undef = .bool b := V_B' (g := g) (w := w) h
  unfold yielded
  rw [hj]
  simp only [Option.bind_some]
  rw [Array.getD_eq_getD_getElem?] at h'
  cases e : a.tmps[gt]? with
  | none => rw [e] at h'; cases h'
  | some v => rw [e] at h'; simp only [Option.getD_some] at h'; rw [h']
theorem Rel.yields_un (r : Rel C nt g0 w0 g w f s a) {all : Array Oper} {j gt : Nat} (hj : (all[j]?).bind (·.dst) = some gt) (he : s.env gt = .un) : yielded all a.tmps j = none := by
  have h := r.env gt
  rw [he] at h
  have h' : a.tmps.getD gt undef = undef := h
  unfold yielded
  rw [hj]
  simp only [Option.bind_some]
  rw [Array.getD_eq_getD_getElem?] at h'
  cases e : a.tmps[gt]? with
  | none => rfl
  | some v => rw [e] at h'; simp only [Option.getD_some] at h'; rw [h']; rfl
def FR (ro : Option Nat) : Fence := { Fence.wide with round := ro }
theorem uponIn_of {P : Program} {ro : Option Nat} {n : Nat} {next : Act → World → Prop} {Q : Exit → Act → World → Prop} {r : Result Next} (h : o.upon P a next Q r) : o.uponIn (FR ro) n P a next Q r := by
  cases r with
  | ok x w' =>
    cases x <;> simp only [Oper.upon] at h <;> simp only [Oper.uponIn] <;> first | exact h | (exact h.elim) | skip
    · exact ⟨fun h => by simp [FR, Fence.wide] at h, callsIn_wide.2 h⟩
    · refine ⟨fun h => by simp [FR, Fence.wide] at h, fun c cs _ => ?_⟩
      obtain ⟨v, w'', h1, h2⟩ := h c cs
      exact ⟨v, w'', h1, stepsIn_wide.2 h2⟩
  | halt x w' => cases x <;> simp only [Oper.upon] at h <;> simp only [Oper.uponIn] <;> first | exact h | exact h.elim
theorem opIn {P : Program} {ro : Option Nat} {n : Nat} {next : Act → World → Prop} {Q : Exit → Act → World → Prop} (hnd : ∀ c, o.op ≠ .defer c) (h : o.wp P a w next Q) : o.wpIn (FR ro) n P a w next Q :=
  ⟨fun _ _ => trivial, by rw [Oper.semAt_eq _ _ _ hnd]; exact uponIn_of h⟩
theorem opH_nodefer (hR : R ≠ .stuck) (h : opH C N G o s K R) : ∀ c, o.op ≠ .defer c := by
  intro c ho
  simp only [opH, opF, ho] at h
  exact absurd h.symm hR
def PanAll (nt : NT) (g0 : Gh) (w0 : World) (Q : Exit → Act → World → Prop) (R : Res) : Prop := bif nt.mks then (∀ v h, R ≠ .pan v h) else ∀ a : Act, a.defers = g0.df → PanQ g0 w0 a Q R
theorem PanAll.get {Q : Exit → Act → World → Prop} (h : PanAll nt g0 w0 Q R) (r : Rel C nt g0 w0 g w f s a) : PanQ g0 w0 a Q R := by
  unfold PanAll at h
  have hd := r.dfr
  cases hm : nt.mks with
  | false =>
    rw [hm] at h hd
    exact h a hd
  | true =>
    rw [hm] at h
    intro v h' u g' w' e
    exact absurd e (h v h')
def dstOK (nt : NT) (all : Array Oper) : Bool := all.toList.all fun o => match o.dst with
  | some d => Nat.blt d nt.n && !nt.fix.any (Nat.beq d)
  | none => true
theorem dstOK_get {all : Array Oper} (h : dstOK nt all = true) {i : Nat} (hi : all[i]? = some o) : ∀ x, o.dst = some x → nt.ok x := by
  intro x hx
  have hm : o ∈ all.toList := by
    rw [← Array.getElem?_toList] at hi
    exact List.mem_of_getElem? hi
  have := List.all_eq_true.1 h o hm
  rw [hx] at this
  simp only [Bool.and_eq_true, Bool.not_eq_true'] at this
  exact ⟨by simpa using this.1, this.2⟩
theorem aOps_pre {ro : Option Nat} {n : Nat} (hC : OkC C) (hR : R ≠ .stuck) (hG : ∀ j, Sound C j (G j)) {all : Array Oper} (hdst : dstOK nt all = true) {kn : St → Res} {Q : Exit → Act → World → Prop} (hpan : PanAll nt g0 w0 Q R) (post : List Oper) :
    ∀ (l : List Oper) (i : Nat), all.toList.drop i = l ++ post → (∀ g w f s a, Rel C nt g0 w0 g w f s a → kn s = R → wpOpsIn (FR ro) n C.P all Q ((List.range all.size).drop (i + l.length)) a w) →
    ∀ (g : Gh) (w : World) (f : Fr) (s : St) (a : Act), Rel C nt g0 w0 g w f s a → aOps (stdAlg C.pure G) C N all l s kn = R →
      wpOpsIn (FR ro) n C.P all Q ((List.range all.size).drop i) a w := by
  intro l
  induction l with
  | nil =>
    intro i hl hQ g w f s a r h
    exact hQ g w f s a r h
  | cons o l ih =>
    intro i hl hQ g w f s a r h
    rw [List.cons_append] at hl
    have hQ' : ∀ g w f s a, Rel C nt g0 w0 g w f s a → kn s = R → wpOpsIn (FR ro) n C.P all Q ((List.range all.size).drop (i + 1 + l.length)) a w := fun g w f s a r h => by
      have := hQ g w f s a r h
      rw [List.length_cons, show i + (l.length + 1) = i + 1 + l.length by omega] at this
      exact this
    have hi : i < all.size := by
      rw [← Array.length_toList]
      rcases Nat.lt_or_ge i all.toList.length with h | h
      · exact h
      · rw [List.drop_eq_nil_iff.2 h] at hl; cases hl
    have ho : all[i]? = some o := by
      rw [List.drop_eq_getElem_cons (by simpa using hi)] at hl
      simp only [List.cons.injEq] at hl
      rw [Array.getElem?_eq_getElem hi]
      simpa using hl.1
    have hl' : all.toList.drop (i + 1) = l ++ post := by
      rw [List.drop_eq_getElem_cons (by simpa using hi)] at hl
      simp only [List.cons.injEq] at hl
      exact hl.2
    have hr : (List.range all.size).drop i = i :: (List.range all.size).drop (i + 1) := by
      rw [List.drop_eq_getElem_cons (by simpa using hi)]
      simp
    rw [hr]
    have hd := dstOK_get hdst ho
    have run : ∀ (s : St), Rel C nt g0 w0 g w f s a → op1 (stdAlg C.pure G) C N o s (fun s' => aOps (stdAlg C.pure G) C N all l s' kn) = R →
        o.wpIn (FR ro) n C.P a w (wpOpsIn (FR ro) n C.P all Q ((List.range all.size).drop (i + 1))) Q := by
      intro s r h
      have := OpS.all (N := N) hC r hd hR hG (o := o) (K := fun u => aOps (stdAlg C.pure G) C N all l (u.on o.dst s) kn) h
      exact opIn (opH_nodefer (N := N) (K := fun u => aOps (stdAlg C.pure G) C N all l (u.on o.dst s) kn) hR h) (this _ Q (fun u g' w' f' a' hk hrel => ih (i + 1) hl' hQ' g' w' f' _ a' hrel hk) (hpan.get r))
    simp only [wpOpsIn, ho]
    simp only [aOps] at h
    split at h
    · rename_i hg
      rw [if_pos (by simp [Region.wanted, hg])]
      exact run s r h
    · rename_i j want hg
      split at h
      · exact absurd h.symm hR
      · rename_i gt hj
        split at h
        · rename_i av he
          obtain ⟨b, rfl, h1⟩ := mB_inv h hR
          have hy := r.yields hj he
          have hw : Region.wanted o (yielded all a.tmps) = (b == want) := by
            simp only [Region.wanted, hg, hy]
            cases b <;> cases want <;> rfl
          have body : ∀ b', b' = b → (if b' = want then op1 (stdAlg C.pure G) C N o (s.put (some gt) (.v (.B b'))) (fun s' => aOps (stdAlg C.pure G) C N all l s' kn) else aOps (stdAlg C.pure G) C N all l ((s.put (some gt) (.v (.B b'))).put o.dst .un) kn) = R →
              if Region.wanted o (yielded all a.tmps) = true then o.wpIn (FR ro) n C.P a w (wpOpsIn (FR ro) n C.P all Q ((List.range all.size).drop (i + 1))) Q else (∀ f, o.about C.P w a.eval = some f → (FR ro).fn f) ∧ wpOpsIn (FR ro) n C.P all Q ((List.range all.size).drop (i + 1)) (a.put o.dst undef) w := by
            intro b' hb h9
            subst hb
            have r' := r.putSame he
            rw [hw]
            by_cases hbw : b' = want
            · rw [if_pos hbw] at h9
              rw [if_pos (by simp [hbw])]
              exact run _ r' h9
            · rw [if_neg hbw] at h9
              rw [if_neg (by simpa using hbw)]
              exact ⟨fun _ _ => trivial, ih (i + 1) hl' hQ' g w f _ _ (r'.putUn o.dst hd) h9⟩
          rcases bIte_inv h1 with ⟨hb, h2⟩ | ⟨hb, h2⟩
          · exact body true hb.symm h2
          · exact body false hb.symm h2
        · rename_i he
          have hy : yielded all a.tmps j = none := r.yields_un hj he
          have hw : Region.wanted o (yielded all a.tmps) = false := by
            simp only [Region.wanted, hg, hy]
            rfl
          rw [hw]
          exact ⟨fun _ _ => trivial, ih (i + 1) hl' hQ' g w f _ _ (r.putUn o.dst hd) h⟩
        · exact absurd h.symm hR
theorem aOps_sound {ro : Option Nat} {n : Nat} (hC : OkC C) (hR : R ≠ .stuck) (hG : ∀ j, Sound C j (G j)) {all : Array Oper} (hdst : dstOK nt all = true) {kn : St → Res} {Q : Exit → Act → World → Prop} (hpan : PanAll nt g0 w0 Q R)
    (hQ : ∀ g w f s a, Rel C nt g0 w0 g w f s a → kn s = R → Q .normal a w) (l : List Oper) (i : Nat) (g : Gh) (w : World) (f : Fr) (s : St) (a : Act) (hl : all.toList.drop i = l) (r : Rel C nt g0 w0 g w f s a) (h : aOps (stdAlg C.pure G) C N all l s kn = R) :
      wpOpsIn (FR ro) n C.P all Q ((List.range all.size).drop i) a w := by
  refine aOps_pre (ro := ro) (n := n) hC hR hG hdst hpan [] l i (by simpa using hl) (fun g w f s a r h => ?_) g w f s a r h
  have hi : all.size ≤ i + l.length := by
    have := congrArg List.length hl
    simp only [List.length_drop, Array.length_toList] at this
    omega
  rw [List.drop_eq_nil_iff.2 (by simpa using hi)]
  exact hQ g w f s a r h
end
end Go.Vm
namespace Go.Vm
open Go
section
variable {C : Cx} {N : Ann} {G : FuncId → List AV → List HO → Res} {T : Res → Res → Prop}
section words
variable (hs : T .stuck .stuck)
include hs
theorem T_chk {b : Bool} {r1 r2 : Res} (h : T r1 r2) : T (chk b r1) (chk b r2) := by cases b; exact hs; exact h
omit hs in
theorem T_bIte {b : Bool} {r1 r2 q1 q2 : Res} (h : T r1 r2) (h' : T q1 q2) : T (bIte b r1 q1) (bIte b r2 q2) := by cases b; exact h'; exact h
theorem T_mI {k : IntKind} {a : AV} {F1 F2 : Int → Res} (h : ∀ n, T (F1 n) (F2 n)) : T (mI k a F1) (mI k a F2) := by
  unfold mI; split
  · split
    · exact h _
    · exact hs
  · exact hs
theorem T_mN {a : AV} {F1 F2 : Int → Res} (h : ∀ n, T (F1 n) (F2 n)) : T (mN a F1) (mN a F2) := by
  unfold mN; split
  · exact h _
  · exact hs
theorem T_mB {a : AV} {F1 F2 : Bool → Res} (h : ∀ n, T (F1 n) (F2 n)) : T (mB a F1) (mB a F2) := by
  unfold mB; split
  · exact h _
  · exact hs
theorem T_mS {a : AV} {F1 F2 : List UInt8 → Res} (h : ∀ n, T (F1 n) (F2 n)) : T (mS a F1) (mS a F2) := by
  unfold mS; split
  · exact h _
  · exact hs
theorem T_mY {a : AV} {F1 F2 : List UInt8 → Res} (h : ∀ n, T (F1 n) (F2 n)) : T (mY a F1) (mY a F2) := by
  unfold mY; split
  · exact h _
  · exact hs
theorem T_mL {n : Nat} {a : AV} {F1 F2 : List (List AV) → Res} (h : ∀ n, T (F1 n) (F2 n)) : T (mL n a F1) (mL n a F2) := by
  unfold mL; split
  · split
    · exact h _
    · exact hs
  · exact hs
theorem T_mLen {a : AV} {F1 F2 : Nat → Res} (h : ∀ n, T (F1 n) (F2 n)) : T (mLen a F1) (mLen a F2) := by
  unfold mLen; split
  · exact h _
  · exact h _
  · exact hs
theorem T_mA {n : Nat} {a : AV} {F1 F2 : List AV → Res} (h : ∀ n, T (F1 n) (F2 n)) : T (mA n a F1) (mA n a F2) := by
  unfold mA; split
  · split
    · exact h _
    · exact hs
  · exact hs
theorem T_mT {n : Nat} {a : AV} {F1 F2 : List AV → Res} (h : ∀ n, T (F1 n) (F2 n)) : T (mT n a F1) (mT n a F2) := by
  unfold mT; split
  · split
    · exact h _
    · exact hs
  · exact hs
omit hs in
theorem T_mW {a : AV} {F1 F2 : Nat → Res} {e1 e2 : Res} (h : ∀ n, T (F1 n) (F2 n)) (he : T e1 e2) : T (mW a F1 e1) (mW a F2 e2) := by
  cases a with
  | W id => exact h id
  | _ => exact he
theorem T_mP {a : AV} {F1 F2 : Nat → Nat → Res} (h : ∀ n m, T (F1 n m) (F2 n m)) : T (mP a F1) (mP a F2) := by
  unfold mP; split
  · exact h _ _
  · exact hs
theorem T_mF {a : AV} {F1 F2 : Fn → List AV → List AV → Res} (h : ∀ n m k, T (F1 n m k) (F2 n m k)) : T (mF a F1) (mF a F2) := by
  unfold mF; split
  · exact h _ _ _
  · exact hs
theorem T_mX {a : AV} {F1 F2 : TypeId → AV → Res} (h : ∀ n m, T (F1 n m) (F2 n m)) : T (mX a F1) (mX a F2) := by
  unfold mX; split
  · exact h _ _
  · exact hs
theorem T_mGe {t : TypeId} {n : Nat} {x : HV} {F1 F2 : List (List AV) → Res} (h : ∀ n, T (F1 n) (F2 n)) : T (mGe t n x F1) (mGe t n x F2) := by
  unfold mGe; split
  · split
    · exact h _
    · exact hs
  · exact hs
theorem T_mGy {t : TypeId} {x : HV} {F1 F2 : List UInt8 → Res} (h : ∀ n, T (F1 n) (F2 n)) : T (mGy t x F1) (mGy t x F2) := by
  unfold mGy; split
  · split
    · exact h _
    · exact hs
  · exact hs
theorem T_mC {hp : List HO} {id off : Nat} {F1 F2 : HV → Res} (h : ∀ n, T (F1 n) (F2 n)) : T (mC hp id off F1) (mC hp id off F2) := by
  unfold mC; split
  · split
    · exact h _
    · exact hs
  · exact hs
theorem T_mO {hp : List HO} {id : Nat} {F1 F2 : List HV → Res} (h : ∀ n, T (F1 n) (F2 n)) : T (mO hp id F1) (mO hp id F2) := by
  unfold mO; split
  · exact h _
  · exact hs
theorem T_ix {n : Int} {len : Nat} {F1 F2 : Nat → Res} (h : ∀ n, T (F1 n) (F2 n)) : T (ix n len F1) (ix n len F2) := by
  unfold ix; split
  · exact h _
  · exact hs
theorem T_eqs {ks : List FK} {as bs : List AV} {F1 F2 : Bool → Res} (h : ∀ n, T (F1 n) (F2 n)) : T (eqs ks as bs F1) (eqs ks as bs F2) := by
  unfold eqs; split
  · exact h _
  · exact hs
theorem T_isN {a : AV} {F1 F2 : Bool → Res} (h : ∀ n, T (F1 n) (F2 n)) : T (isN a F1) (isN a F2) := by
  unfold isN; split
  · exact h _
  · exact h _
  · exact hs
theorem T_isF {a : AV} {F1 F2 : Bool → Res} (h : ∀ n, T (F1 n) (F2 n)) : T (isF a F1) (isF a F2) := by
  unfold isF; split
  · exact h _
  · exact h _
  · exact hs
theorem T_isX {a : AV} {F1 F2 : Bool → Res} (h : ∀ n, T (F1 n) (F2 n)) : T (isX a F1) (isX a F2) := by
  unfold isX; split
  · exact h _
  · exact h _
  · exact hs
theorem T_isM {a : AV} {F1 F2 : Bool → Res} (h : ∀ n, T (F1 n) (F2 n)) : T (isM a F1) (isM a F2) := by
  unfold isM; split
  · exact h _
  · exact h _
  · exact hs
theorem T_mM {a : AV} {hp hp' : List HO} (hh : ∀ id, a = .M id → hp'[id]? = hp[id]?) {F1 F2 : Nat → List (AV × AV) → Res} (h : ∀ n es, T (F1 n es) (F2 n es)) : T (mM a hp F1) (mM a hp' F2) := by
  unfold mM; split
  · rw [hh _ rfl]
    split
    · exact h _ _
    · exact hs
  · exact hs
theorem T_mMl {a : AV} {hp hp' : List HO} (hh : ∀ id, a = .M id → hp'[id]? = hp[id]?) {F1 F2 : List (AV × AV) → Res} (h : ∀ es, T (F1 es) (F2 es)) : T (mMl a hp F1) (mMl a hp' F2) := by
  unfold mMl; split
  · exact h _
  · rw [hh _ rfl]
    split
    · exact h _
    · exact hs
  · exact hs
theorem T_fnd {k : IntKind} {n : Int} {es : List (AV × AV)} {F1 F2 : Option AV → Res} (h : ∀ r, T (F1 r) (F2 r)) : T (fnd k n es F1) (fnd k n es F2) := by
  unfold fnd; split
  · exact h _
  · exact hs
theorem T_ecall {fid : FuncId} {as : List AV} {F1 F2 : AV → Res} (hF : ∀ v, T (F1 v) (F2 v)) : T (ecall (noPan G fid) as F1) (ecall (noPan G fid) as F2) := by
  unfold ecall
  split
  · unfold noPan noPan1
    cases G fid as [.no] with
    | ret v hh =>
      simp only
      split
      · exact hF _
      · exact hs
    | _ => exact hs
  · exact hs
theorem T_m1 {a : AV} {r1 r2 : Res} (h : T r1 r2) : T (m1 a r1) (m1 a r2) := by
  unfold m1; split <;> first | exact hs | exact h
theorem T_bRes {fid : FuncId} {as : List AV} {h : List HO} {F1 F2 : AV → List HO → Res} (hF : ∀ v h, T (F1 v h) (F2 v h)) : T (bRes (noPan G fid as h) F1) (bRes (noPan G fid as h) F2) := by
  unfold noPan noPan1
  cases G fid as h <;> first | exact hs | exact hF _ _
theorem T_pcall {fid : FuncId} {as : List AV} {h h' : List HO} {F1 F2 : AV → Res} (hF : ∀ v, T (F1 v) (F2 v)) : T (pcall (noPan G fid) as h F1) (pcall (noPan G fid) as h' F2) := by
  unfold pcall
  split
  · unfold noPan noPan1
    cases G fid as [] with
    | ret v hh =>
      simp only
      split
      · exact hF _
      · exact hs
    | _ => exact hs
  · exact hs
theorem T_dynP {pu : FuncId → Bool} {fn : Fn} {as : List AV} {h h' : List HO} {F1 F2 : AV → Res} (hF : ∀ v, T (F1 v) (F2 v)) : T (dynP pu (noPan G) fn as h F1) (dynP pu (noPan G) fn as h' F2) := by
  unfold dynP
  split
  · split
    · exact T_pcall hs hF
    · exact hs
  · exact hs
theorem T_dynH {pu : FuncId → Bool} {fn : Fn} {as : List AV} {h : List HO} {F1 F2 : AV → List HO → Res} (hF : ∀ v h, T (F1 v h) (F2 v h)) : T (dynH pu (noPan G) fn as h F1) (dynH pu (noPan G) fn as h F2) := by
  unfold dynH
  split
  · split
    · exact hs
    · exact T_bRes hs hF
  · exact hs
theorem T_ix' {pu : FuncId → Bool} {G' : FuncId → List AV → List HO → Res} {n : Int} {len : Nat} {F1 F2 : Nat → Res} (h : ∀ n, T (F1 n) (F2 n)) : T ((stdAlg pu G').ix n len F1) ((stdAlg pu G').ix n len F2) := T_ix hs h
theorem T_mLen' {pu : FuncId → Bool} {G' : FuncId → List AV → List HO → Res} {a : AV} {F1 F2 : Nat → Res} (h : ∀ n, T (F1 n) (F2 n)) : T ((stdAlg pu G').mLen a F1) ((stdAlg pu G').mLen a F2) := T_mLen hs h
theorem T_isN' {pu : FuncId → Bool} {G' : FuncId → List AV → List HO → Res} {a : AV} {F1 F2 : Bool → Res} (h : ∀ n, T (F1 n) (F2 n)) : T ((stdAlg pu G').isN a F1) ((stdAlg pu G').isN a F2) := T_isN hs h
theorem T_isF' {pu : FuncId → Bool} {G' : FuncId → List AV → List HO → Res} {a : AV} {F1 F2 : Bool → Res} (h : ∀ n, T (F1 n) (F2 n)) : T ((stdAlg pu G').isF a F1) ((stdAlg pu G').isF a F2) := T_isF hs h
theorem T_isX' {pu : FuncId → Bool} {G' : FuncId → List AV → List HO → Res} {a : AV} {F1 F2 : Bool → Res} (h : ∀ n, T (F1 n) (F2 n)) : T ((stdAlg pu G').isX a F1) ((stdAlg pu G').isX a F2) := T_isX hs h
theorem T_isM' {pu : FuncId → Bool} {G' : FuncId → List AV → List HO → Res} {a : AV} {F1 F2 : Bool → Res} (h : ∀ n, T (F1 n) (F2 n)) : T ((stdAlg pu G').isM a F1) ((stdAlg pu G').isM a F2) := T_isM hs h
theorem T_mM' {pu : FuncId → Bool} {G' : FuncId → List AV → List HO → Res} {a : AV} {hp hp' : List HO} (hh : ∀ id, a = .M id → hp'[id]? = hp[id]?) {F1 F2 : Nat → List (AV × AV) → Res} (h : ∀ n es, T (F1 n es) (F2 n es)) : T ((stdAlg pu G').mM a hp F1) ((stdAlg pu G').mM a hp' F2) := T_mM hs hh h
theorem T_mMl' {pu : FuncId → Bool} {G' : FuncId → List AV → List HO → Res} {a : AV} {hp hp' : List HO} (hh : ∀ id, a = .M id → hp'[id]? = hp[id]?) {F1 F2 : List (AV × AV) → Res} (h : ∀ es, T (F1 es) (F2 es)) : T ((stdAlg pu G').mMl a hp F1) ((stdAlg pu G').mMl a hp' F2) := T_mMl hs hh h
theorem T_fndS {pu : FuncId → Bool} {G' : FuncId → List AV → List HO → Res} {ks : List FK} {cs : List AV} {es : List (AV × AV)} {F1 F2 : Option AV → Res} (h : ∀ r, T (F1 r) (F2 r)) : T ((stdAlg pu G').fndS ks cs es F1) ((stdAlg pu G').fndS ks cs es F2) := by
  show T (fndS ks cs es F1) (fndS ks cs es F2)
  unfold fndS
  split
  · exact h _
  · exact hs
theorem T_fnd' {pu : FuncId → Bool} {G' : FuncId → List AV → List HO → Res} {k : IntKind} {n : Int} {es : List (AV × AV)} {F1 F2 : Option AV → Res} (h : ∀ r, T (F1 r) (F2 r)) : T ((stdAlg pu G').fnd k n es F1) ((stdAlg pu G').fnd k n es F2) := T_fnd hs h
theorem T_chk' {pu : FuncId → Bool} {G' : FuncId → List AV → List HO → Res} {b : Bool} {r1 r2 : Res} (h : T r1 r2) : T ((stdAlg pu G').chk b r1) ((stdAlg pu G').chk b r2) := T_chk hs h
end words
section parts
variable (hs : T .stuck .stuck)
include hs
theorem T_use {ty : TypeId} {e : EV} {lo : LOv} {F1 F2 : AV → List (Nat × LOv) → Res} (h : ∀ a u, T (F1 a u) (F2 a u)) : T (use (stdAlg C.pure (noPan G)) C ty e lo F1) (use (stdAlg C.pure (noPan G)) C ty e lo F2) := by
  unfold use
  split
  · exact h _ _
  · exact h _ _
  · split
    · split
      · exact h _ _
      · exact hs
    · exact hs
  · exact h _ _
  · exact h _ _
  · exact h _ _
  · exact hs
theorem T_useAll : ∀ (es : List EV) (tys : List TypeId) (los : List LOv) {F1 F2 : List AV → List (Nat × LOv) → Res}, (∀ a u, T (F1 a u) (F2 a u)) → T (useAll (stdAlg C.pure (noPan G)) C tys es los F1) (useAll (stdAlg C.pure (noPan G)) C tys es los F2) := by
  intro es
  induction es with
  | nil => intro tys los F1 F2 h; cases tys <;> cases los <;> exact h _ _
  | cons e es ih =>
    intro tys los F1 F2 h
    cases los with
    | nil => cases tys <;> exact h _ _
    | cons l los =>
      cases tys with
      | nil => exact T_use hs fun a u => ih _ _ fun as us => h _ _
      | cons t tys => exact T_use hs fun a u => ih _ _ fun as us => h _ _
theorem T_captAll : ∀ (es : List EV) (los : List LOv) {F1 F2 : List AV → List (Nat × LOv) → Res}, (∀ a u, T (F1 a u) (F2 a u)) → T (captAll (stdAlg C.pure (noPan G)) es los F1) (captAll (stdAlg C.pure (noPan G)) es los F2) := by
  intro es
  induction es with
  | nil => intro los F1 F2 h; exact h _ _
  | cons e es ih =>
    intro los F1 F2 h
    simp only [captAll]
    split
    · split
      · refine ih _ fun as u => ?_
        split
        · exact hs
        · exact h _ _
      · exact hs
    · exact hs
theorem T_num {e : EV} {F1 F2 : Int → Res} (h : ∀ n, T (F1 n) (F2 n)) : T (num (stdAlg C.pure (noPan G)) e F1) (num (stdAlg C.pure (noPan G)) e F2) := by
  unfold num
  split
  · exact T_mN hs h
  · exact hs
theorem T_binI {op : BinOp} {k : IntKind} {m n : Int} {F1 F2 : AV → Res} (h : ∀ a, T (F1 a) (F2 a)) : T (binI (stdAlg C.pure (noPan G)) op k m n F1) (binI (stdAlg C.pure (noPan G)) op k m n F2) := by
  unfold binI
  split <;> first | exact h _ | exact T_chk hs (h _) | exact hs
theorem T_binS {op : BinOp} {a b : List UInt8} {F1 F2 : AV → Res} (h : ∀ a, T (F1 a) (F2 a)) : T (binS (stdAlg C.pure (noPan G)) C op a b F1) (binS (stdAlg C.pure (noPan G)) C op a b F2) := by
  unfold binS
  split <;> first | exact h _ | exact T_chk hs (h _) | exact hs
theorem T_bin {op : BinOp} {t : TypeId} {a b : AV} {F1 F2 : AV → Res} (h : ∀ a, T (F1 a) (F2 a)) : T (bin (stdAlg C.pure (noPan G)) C op t a b F1) (bin (stdAlg C.pure (noPan G)) C op t a b F2) := by
  unfold bin
  split
  · split
    · exact T_mI hs fun m => T_mN hs fun n => T_chk hs (h _)
    · exact hs
  · split
    · exact T_mI hs fun m => T_mN hs fun n => T_chk hs (h _)
    · exact hs
  · split
    · exact T_mI hs fun m => T_mI hs fun n => T_binI hs h
    · exact T_mS hs fun m => T_mS hs fun n => T_binS hs h
    · refine T_mB hs fun m => T_mB hs fun n => ?_
      split <;> first | exact h _ | exact hs
    · split
      · refine T_mA hs fun xs => T_mA hs fun ys => T_eqs hs fun r => ?_
        split <;> first | exact h _ | exact hs
      · exact hs
    · split
      · refine T_mA hs fun xs => T_mA hs fun ys => T_eqs hs fun r => ?_
        split <;> first | exact h _ | exact hs
      · exact hs
    · exact hs
theorem T_cmpNil {op : BinOp} {r : Bool} {F1 F2 : AV → Res} (h : ∀ a, T (F1 a) (F2 a)) : T (cmpNil (stdAlg C.pure (noPan G)) op r F1) (cmpNil (stdAlg C.pure (noPan G)) op r F2) := by
  unfold cmpNil
  split <;> first | exact h _ | exact hs
theorem T_partK {t : TypeId} {a : AV} {F1 F2 : List AV → Res} (h : ∀ l, T (F1 l) (F2 l)) : T (partK (stdAlg C.pure (noPan G)) C t a F1) (partK (stdAlg C.pure (noPan G)) C t a F2) := by
  unfold partK
  split
  · exact T_mA hs fun l => h _
  · split
    · exact T_m1 hs (h _)
    · exact hs
theorem T_partHK {t : TypeId} {e : EV} {lo : LOv} {F1 F2 : List HV → List (Nat × LOv) → Res} (h : ∀ l u, T (F1 l u) (F2 l u)) : T (partHK (stdAlg C.pure (noPan G)) C t e lo F1) (partHK (stdAlg C.pure (noPan G)) C t e lo F2) := by
  unfold partHK
  dsimp only
  split
  · split
    · exact h _ _
    · exact hs
  · split
    · exact h _ _
    · exact T_use hs fun a u => T_partK hs fun l => h _ _
  · exact T_use hs fun a u => T_partK hs fun l => h _ _
theorem T_buildK {place : Nat → Option (Nat × TypeId)} : ∀ (ids : List Nat) (es : List EV) (los : List LOv) (cs : List HV) (us : List (Nat × LOv)) {F1 F2 : List HV → List (Nat × LOv) → Res}, (∀ l u, T (F1 l u) (F2 l u)) →
    T (buildK (stdAlg C.pure (noPan G)) C place ids es los cs us F1) (buildK (stdAlg C.pure (noPan G)) C place ids es los cs us F2) := by
  intro ids
  induction ids with
  | nil => intro es los cs us F1 F2 h; unfold buildK; exact h _ _
  | cons i ids ih =>
    intro es los cs us F1 F2 h
    cases es with
    | nil => unfold buildK; exact h _ _
    | cons e es =>
      cases los with
      | nil => unfold buildK; exact h _ _
      | cons l los =>
        unfold buildK
        split
        · split
          · exact T_partHK hs fun p u => ih _ _ _ _ h
          · exact hs
        · exact hs
theorem T_elemsK {e : TypeId} : ∀ (ids : List Nat) (as : List AV) (xs : List (List AV)) {F1 F2 : List (List AV) → Res}, (∀ l, T (F1 l) (F2 l)) → T (elemsK (stdAlg C.pure (noPan G)) C e ids as xs F1) (elemsK (stdAlg C.pure (noPan G)) C e ids as xs F2) := by
  intro ids
  induction ids with
  | nil => intro as xs F1 F2 h; unfold elemsK; exact h _
  | cons i ids ih =>
    intro as xs F1 F2 h
    cases as with
    | nil => unfold elemsK; exact h _
    | cons a as =>
      unfold elemsK
      split
      · exact T_partK hs fun l => ih _ _ h
      · exact hs
theorem T_bytesK : ∀ (ids : List Nat) (as : List AV) (xs : List UInt8) {F1 F2 : List UInt8 → Res}, (∀ l, T (F1 l) (F2 l)) → T (bytesK (stdAlg C.pure (noPan G)) ids as xs F1) (bytesK (stdAlg C.pure (noPan G)) ids as xs F2) := by
  intro ids
  induction ids with
  | nil => intro as xs F1 F2 h; unfold bytesK; exact h _
  | cons i ids ih =>
    intro as xs F1 F2 h
    cases as with
    | nil => unfold bytesK; exact h _
    | cons a as =>
      unfold bytesK
      split
      · exact T_mI hs fun l => ih _ _ h
      · exact hs
theorem T_putK {t : TypeId} {y : EV} {ly : LOv} {F1 F2 : List HV → List (Nat × LOv) → Res} (h : ∀ l u, T (F1 l u) (F2 l u)) : T (putK (stdAlg C.pure (noPan G)) C t y ly F1) (putK (stdAlg C.pure (noPan G)) C t y ly F2) := by
  unfold putK
  split
  · split
    · split
      · exact h _ _
      · exact hs
    · exact T_use hs fun a u => T_mA hs fun l => h _ _
  · split
    · split
      · exact h _ _
      · exact hs
    · split
      · split
        · exact h _ _
        · exact hs
      · exact hs
    · exact T_use hs fun a u => T_m1 hs (h _ _)
theorem T_loadK {t : TypeId} {x : EV} {lo : LOv} {h h' : List HO} {hv hv' : Nat → Nat} (hh : ∀ id off, x = .v (.P id off) → h'[id]? = h[id]? ∧ hv' id = hv id) {F1 F2 : EV → Res} (hF : ∀ e, T (F1 e) (F2 e)) : T (loadK (stdAlg C.pure (noPan G)) C t x lo h hv F1) (loadK (stdAlg C.pure (noPan G)) C t x lo h' hv' F2) := by
  unfold loadK
  dsimp only
  split
  · exact hs
  split
  · split
    · split
      · split
        · exact T_chk hs (hF _)
        · refine T_chk hs ?_
          split
          · exact T_mW (fun _ => hF _) (hF _)
          · exact hF _
      · exact hs
    · exact hs
  · split
    · split
      · split
        · split
          · exact hF _
          · exact hs
        · split
          · exact hF _
          · exact hs
      · exact hs
    · split
      · exact hF _
      · exact hs
    · exact hs
  · split
    · exact T_chk hs (hF _)
    · exact T_chk hs (hF _)
  · rename_i av
    cases av with
    | P id off =>
      obtain ⟨e1, e2⟩ := hh id off rfl
      have k1 : mO h' id = mO h id := by funext K; simp only [mO, e1]
      have k2 : mC h' id off = mC h id off := by funext K; simp only [mC, e1]
      have k3 : arrAt h' id = arrAt h id := by simp only [arrAt, e1]
      dsimp only [stdAlg, mP]
      rw [k3]
      split
      · split
        · split
          · split
            · exact hF _
            · exact hs
          · exact hF _
        · exact hs
      rw [k1, k2, e2]
      split
      · exact T_mO hs fun cs => T_chk hs (hF _)
      · refine T_mC hs fun x => ?_
        split
        · exact T_mW (fun _ => hF _) (hF _)
        · exact hF _
    | _ => exact hs
  · exact hs
theorem T_storeK {t : TypeId} {x y : EV} {lx ly : LOv} {h h' : List HO} (hh : ∀ id off, x = .v (.P id off) → h'[id]? = h[id]?) {F1 F2 : Upd → Res} (hF : ∀ e, T (F1 e) (F2 e)) : T (storeK (stdAlg C.pure (noPan G)) C t x y lx ly h F1) (storeK (stdAlg C.pure (noPan G)) C t x y lx ly h' F2) := by
  unfold storeK
  dsimp only
  split
  · exact hs
  split
  · split
    · split
      · refine T_chk hs (T_putK hs fun l u => ?_)
        split
        · exact hs
        · exact hF _
      · exact hs
    · exact hs
  · split
    · split
      · refine T_putK hs fun l u => ?_
        split
        · exact hs
        · exact hF _
      · exact hs
    · split
      · refine T_putK hs fun l u => ?_
        split
        · split
          · exact hs
          · exact T_mI hs fun n => hF _
        · exact hs
      · exact hs
    · exact hs
  · rename_i av
    cases av with
    | P id off =>
      have k1 : mO h' id = mO h id := by funext K; simp only [mO, hh id off rfl]
      have k3 : arrAt h' id = arrAt h id := by simp only [arrAt, hh id off rfl]
      dsimp only [stdAlg, mP]
      rw [k3]
      refine T_putK (C := C) (G := G) hs fun l u => ?_
      split
      · split
        · exact hF _
        · exact hs
      rw [k1]
      exact T_mO hs fun cs => T_chk hs (hF _)
    | _ => exact hs
  · exact hs
theorem T_srcK {c : SC} {y : EV} {ly : LOv} {st : Bool} {F1 F2 : SC → Res} (hF : ∀ e, T (F1 e) (F2 e)) : T (srcK (stdAlg C.pure (noPan G)) c y ly st F1) (srcK (stdAlg C.pure (noPan G)) c y ly st F2) := by
  have fromAV : ∀ a, T (fromK c st F1 a) (fromK c st F2 a) := by
    intro a
    unfold fromK
    cases c with
    | e t n xs => exact T_mL hs fun _ => hF _
    | y t xs =>
      simp only
      split
      · exact T_mS hs fun _ => hF _
      · exact T_mY hs fun _ => hF _
  unfold srcK
  dsimp only
  split
  · exact hF _
  · split
    · split
      · exact fromAV _
      · exact hs
    · exact hs
  · exact fromAV _
  · exact fromAV _
  · exact fromAV _
  · exact hs
theorem T_boundsLo {lo : Option EV} {n : Nat} {F1 F2 : Nat → Nat → Res} (hF : ∀ a b, T (F1 a b) (F2 a b)) : T (boundsLo (stdAlg C.pure (noPan G)) lo n F1) (boundsLo (stdAlg C.pure (noPan G)) lo n F2) := by
  unfold boundsLo
  split
  · exact T_num hs fun _ => T_chk hs (hF _ _)
  · exact hF _ _
theorem T_boundsK {lo hi : Option EV} {n : Nat} {F1 F2 : Nat → Nat → Res} (hF : ∀ a b, T (F1 a b) (F2 a b)) : T (boundsK (stdAlg C.pure (noPan G)) lo hi n F1) (boundsK (stdAlg C.pure (noPan G)) lo hi n F2) := by
  unfold boundsK
  split
  · exact T_num hs fun _ => T_chk hs (T_boundsLo hs hF)
  · exact T_boundsLo hs hF
theorem T_bounds3 {lo : Option EV} {hi mx : EV} {n : Nat} {F1 F2 : Nat → Nat → Res} (hF : ∀ a b, T (F1 a b) (F2 a b)) : T (bounds3 (stdAlg C.pure (noPan G)) lo hi mx n F1) (bounds3 (stdAlg C.pure (noPan G)) lo hi mx n F2) := by
  unfold bounds3
  exact T_num hs fun _ => T_chk hs (T_num hs fun _ => T_chk hs (T_boundsLo hs hF))
theorem T_idxK {t : TypeId} {x i : EV} {lx : LOv} {h h' : List HO} (hh : ∀ id, x = .v (.W id) → h'[id]? = h[id]?) {F1 F2 : EV → Res} (hF : ∀ a, T (F1 a) (F2 a)) : T (idxK (stdAlg C.pure (noPan G)) C t x i lx h F1) (idxK (stdAlg C.pure (noPan G)) C t x i lx h' F2) := by
  unfold idxK
  refine T_num hs fun n => ?_
  split
  · split
    · exact hs
    · split
      · exact T_mP hs fun _ _ => T_ix hs fun _ => hF _
      · split
        · exact T_ix hs fun _ => hF _
        · exact hs
  · split
    · exact hs
    · dsimp only
      have ofAV : ∀ (e : TypeId) (a : AV), T (if byteT C.P e then (stdAlg C.pure (noPan G)).mY a fun s => (stdAlg C.pure (noPan G)).ix n s.length fun j => F1 (.ep 1 [byteAt s j] 0) else (stdAlg C.pure (noPan G)).mL (szT C.P e) a fun xs => (stdAlg C.pure (noPan G)).ix n xs.length fun j => F1 (.ep (szT C.P e) (xs.getD j []) 0))
          (if byteT C.P e then (stdAlg C.pure (noPan G)).mY a fun s => (stdAlg C.pure (noPan G)).ix n s.length fun j => F2 (.ep 1 [byteAt s j] 0) else (stdAlg C.pure (noPan G)).mL (szT C.P e) a fun xs => (stdAlg C.pure (noPan G)).ix n xs.length fun j => F2 (.ep (szT C.P e) (xs.getD j []) 0)) := by
        intro e a
        split
        · exact T_mY hs fun _ => T_ix hs fun _ => hF _
        · exact T_mL hs fun _ => T_ix hs fun _ => hF _
      split
      · split
        · split
          · exact T_ix hs fun _ => hF _
          · exact hs
        · exact hs
      · rename_i av
        cases av with
        | W id =>
          have k3 : arrAt h' id = arrAt h id := by simp only [arrAt, hh id rfl]
          dsimp only [stdAlg, mW]
          rw [k3]
          split
          · split
            · exact T_ix hs fun _ => hF _
            · exact hs
          · exact hs
        | _ => exact ofAV _ _
      · exact ofAV _ _
      · exact ofAV _ _
      · exact hs
  · exact hs
theorem T_appendK {d : Nat} {own : LOv} {ty : TypeId} {st mu : Bool} {x y : EV} {lx ly : LOv} {h h' : List HO} {hv hv' : Nat → Nat} (hh : ∀ id off v z, x = .hh id off v z → h'[id]? = h[id]? ∧ hv' id = hv id) (hw : ∀ id, x = .v (.W id) → h'[id]? = h[id]?) {F1 F2 : Upd → Res} (hF : ∀ e, T (F1 e) (F2 e)) :
    T (appendK (stdAlg C.pure (noPan G)) C d own ty st mu x y lx ly h hv F1) (appendK (stdAlg C.pure (noPan G)) C d own ty st mu x y lx ly h' hv' F2) := by
  unfold appendK
  split
  · dsimp only
    split
    · split
      · exact T_srcK hs fun z => T_chk hs (hF _)
      · exact hs
    · split
      · split
        · split
          · exact T_srcK hs fun z => T_chk hs (hF _)
          · exact hs
        · exact hs
      · exact hs
    · split
      · split
        · split
          · exact T_srcK hs fun z => T_chk hs (hF _)
          · exact hs
        · exact hs
      · exact hs
    · rename_i id off hvx zx
      obtain ⟨e1, e2⟩ := hh id off hvx zx rfl
      rw [e2]
      have tO : ∀ {F1 F2 : List HV → Res}, (∀ n, T (F1 n) (F2 n)) → T (mO h id F1) (mO h' id F2) := fun {F1 F2} hF => by
        have k1 : mO h' id F2 = mO h id F2 := by simp only [mO, e1]
        rw [k1]
        exact T_mO hs hF
      split
      · split
        · refine T_mGy hs fun s => ?_
          split
          · exact T_srcK hs fun z => T_chk hs (tO fun cs => hF _)
          · exact hs
        · refine T_mGe hs fun s => ?_
          split
          · exact T_srcK hs fun z => T_chk hs (tO fun cs => hF _)
          · exact hs
      · exact hs
    · rename_i av
      cases av with
      | W id =>
        have k3 : arrAt h' id = arrAt h id := by simp only [arrAt, hw id rfl]
        dsimp only [stdAlg, mW]
        rw [k3]
        split
        · split
          · exact T_srcK hs fun z => T_chk hs (hF _)
          · exact hs
        · exact hs
      | _ => exact hs
    · exact hs
  · exact hs
theorem T_copyK {e : TypeId} {x y : EV} {lx ly : LOv} {F1 F2 : Upd → Res} (hF : ∀ e, T (F1 e) (F2 e)) :
    T (copyK (stdAlg C.pure (noPan G)) C e x y lx ly F1) (copyK (stdAlg C.pure (noPan G)) C e x y lx ly F2) := by
  unfold copyK
  dsimp only
  split
  · split
    · split
      · exact T_srcK hs fun z => T_chk hs (hF _)
      · exact hs
    · exact hs
  · split
    · split
      · exact T_srcK hs fun z => T_chk hs (hF _)
      · exact hs
    · exact hs
  · exact hs
theorem T_callK {d : Option Nat} {own : LOv} {rt : TypeId} {fid : FuncId} {as : List AV} {u : List (Nat × LOv)} {vis : Option (List Nat)} {h h' : List HO} (hh : C.pure fid = true ∨ (vis = none → h' = h) ∧ (∀ l, vis = some l → h'.length = h.length ∧ ∀ i ∈ l, h'[i]? = h[i]?)) {F1 F2 : Upd → Res} (hF : ∀ e, T (F1 e) (F2 e)) :
    T (callK (stdAlg C.pure (noPan G)) C d own rt fid as u vis h F1) (callK (stdAlg C.pure (noPan G)) C d own rt fid as u vis h' F2) := by
  unfold callK
  split
  · refine T_pcall hs fun v => ?_
    split
    · split
      · split
        · exact T_mY hs fun _ => hF _
        · exact T_mL hs fun _ => hF _
      · exact hs
    · exact hF _
  · rename_i hp
    rcases hh with hh | ⟨h1, h2⟩
    · exact absurd hh hp
    · cases vis with
      | none =>
        obtain rfl := h1 rfl
        exact T_bRes hs fun v h => hF _
      | some l =>
        obtain ⟨e1, e2⟩ := h2 l rfl
        have e3 : maskH l 0 h' = maskH l 0 h := maskH_agree e1 e2
        show T (bRes (noPan G fid as (maskH l 0 h)) _) (bRes (noPan G fid as (maskH l 0 h')) _)
        rw [e3, e1]
        exact T_bRes hs fun v h => T_chk hs (hF _)
theorem T_zeroK {t : TypeId} {F1 F2 : AV → Res} (hF : ∀ v, T (F1 v) (F2 v)) : T (zeroK (stdAlg C.pure (noPan G)) C t F1) (zeroK (stdAlg C.pure (noPan G)) C t F2) := by
  unfold zeroK
  split
  · split
    · exact hF _
    · exact hF _
    · exact hs
  · exact hs
theorem T_eatK {d : Option Nat} {own : LOv} {fid : FuncId} {e : TypeId} {x : EV} {lx : LOv} {as : List AV} {u : List (Nat × LOv)} {F1 F2 : Upd → Res} (hF : ∀ e, T (F1 e) (F2 e)) :
    T (eatK (stdAlg C.pure (noPan G)) C d own fid e x lx as u F1) (eatK (stdAlg C.pure (noPan G)) C d own fid e x lx as u F2) := by
  have go : ∀ (k ver : Nat) (c : SC), T (if (u.any fun p => p.1 == k) then (stdAlg C.pure (noPan G)).stuck else
        if C.pure fid = true ∧ c.elem = e ∧ c.width = szT C.P e ∧ szT C.P e ≠ 0 ∧ c.isY = byteT C.P e then (stdAlg C.pure (noPan G)).ecall fid (c.toAV :: as) fun v => match c with
          | .y t _ => (stdAlg C.pure (noPan G)).mY v fun sb => F1 { dst := some (.ls k ver), locs := (k, ⟨ver, .arr (.y t sb) false⟩) :: u }
          | .e t n _ => (stdAlg C.pure (noPan G)).mL n v fun xs => F1 { dst := some (.ls k ver), locs := (k, ⟨ver, .arr (.e t n xs) false⟩) :: u }
        else (stdAlg C.pure (noPan G)).stuck)
      (if (u.any fun p => p.1 == k) then (stdAlg C.pure (noPan G)).stuck else
        if C.pure fid = true ∧ c.elem = e ∧ c.width = szT C.P e ∧ szT C.P e ≠ 0 ∧ c.isY = byteT C.P e then (stdAlg C.pure (noPan G)).ecall fid (c.toAV :: as) fun v => match c with
          | .y t _ => (stdAlg C.pure (noPan G)).mY v fun sb => F2 { dst := some (.ls k ver), locs := (k, ⟨ver, .arr (.y t sb) false⟩) :: u }
          | .e t n _ => (stdAlg C.pure (noPan G)).mL n v fun xs => F2 { dst := some (.ls k ver), locs := (k, ⟨ver, .arr (.e t n xs) false⟩) :: u }
        else (stdAlg C.pure (noPan G)).stuck) := by
    intro k ver c
    split
    · exact hs
    split
    · refine T_ecall hs fun v => ?_
      cases c with
      | y t sb => exact T_mY hs fun _ => hF _
      | e t n xs => exact T_mL hs fun _ => hF _
    · exact hs
  unfold eatK
  split
  · split
    · exact go _ _ _
    · exact hs
  · split
    · split
      · exact go _ _ _
      · exact hs
    · exact hs
  · exact hs
def Agree : HS → List HO → List HO → (Nat → Nat) → (Nat → Nat) → Prop
  | .no, _, _, _, _ => True
  | .all, h, h', hv, hv' => h' = h ∧ hv' = hv
  | .ids l, h, h', hv, hv' => h'.length = h.length ∧ ∀ i ∈ l, h'[i]? = h[i]? ∧ hv' i = hv i
omit hs in
theorem Agree.refl {F : HS} {h : List HO} {hv : Nat → Nat} : Agree F h h hv hv := by
  cases F with
  | no => trivial
  | all => exact ⟨rfl, rfl⟩
  | ids l => exact ⟨rfl, fun _ _ => ⟨rfl, rfl⟩⟩
omit hs in
theorem Agree.obj {x : EV} {id : Nat} {h h' : List HO} {hv hv' : Nat → Nat} (hx : (∃ off, x = .v (.P id off)) ∨ x = .v (.M id) ∨ ∃ off v z, x = .hh id off v z) (ha : Agree (objOf x) h h' hv hv') : h'[id]? = h[id]? ∧ hv' id = hv id := by
  rcases hx with ⟨off, rfl⟩ | rfl | ⟨off, v, z, rfl⟩ <;> exact ha.2 id (by simp)
omit hs in
theorem Agree.site {b : Bool} {h h' : List HO} {hv hv' : Nat → Nat} (ha : Agree (if b = true then .all else .no) h h' hv hv') : b = false ∨ (h' = h ∧ hv' = hv) := by
  cases b with
  | false => exact .inl rfl
  | true => exact .inr ha
omit hs in
theorem Agree.calls {b : Bool} {l : List Nat} {h h' : List HO} {hv hv' : Nat → Nat} (ha : Agree (if b = true then .ids l else .all) h h' hv hv') :
    ((if b = true then some l else none) = none → h' = h) ∧ ∀ l', (if b = true then some l else none) = some l' → h'.length = h.length ∧ ∀ i ∈ l', h'[i]? = h[i]? := by
  cases b with
  | false => exact ⟨fun _ => ha.1, fun l' e => (by cases e)⟩
  | true => exact ⟨fun e => (by cases e), fun l' e => (by cases e; exact ⟨ha.1, fun i hi => (ha.2 i hi).1⟩)⟩
theorem opF_T {o : Oper} {ins : List EV} {los : List LOv} {own : LOv} {h h' : List HO} {hv hv' : Nat → Nat} (hp : ∀ x, o.op ≠ .panic x) (hh : Agree (looks C N o ins los) h h' hv hv') {F1 F2 : Upd → Res} (hF : ∀ u, T (F1 u) (F2 u)) :
    T (opF (stdAlg C.pure (noPan G)) C N o ins los own h hv F1) (opF (stdAlg C.pure (noPan G)) C N o ins los own h' hv' F2) := by
  unfold opF
  cases ho : o.op with
  | move x => exact hF _
  | assign x =>
    dsimp only
    split
    · split
      · exact hF _
      · exact hs
    · exact hF _
  | pick x y z =>
    dsimp only
    split
    · exact T_mB hs fun _ => T_bIte (hF _) (hF _)
    · exact hs
  | alloc t =>
    dsimp only
    split
    · have hh' : N.heapSite (o.dst.getD 0) = false ∨ (h' = h ∧ hv' = hv) := by
        simp only [looks, ho] at hh
        exact Agree.site hh
      rcases hh' with hn | ⟨rfl, rfl⟩
      · rw [if_neg (by simp [hn]), if_neg (by simp [hn])]; exact hF _
      · split <;> exact hF _
    · exact hs
  | box t x =>
    dsimp only
    have hh' : N.heapSite (o.dst.getD 0) = false ∨ (h' = h ∧ hv' = hv) := by
        simp only [looks, ho] at hh
        exact Agree.site hh
    have go : ∀ cs u, T (if N.heapSite (o.dst.getD 0) then F1 { dst := some (.v (.P h.length 0)), locs := u, heap := some (h ++ [.cells (tagZ t cs)]) } else F1 { dst := some (.lp (o.dst.getD 0) (own.ver + 1) 0), locs := (o.dst.getD 0, ⟨own.ver + 1, .box 0 cs⟩) :: u })
        (if N.heapSite (o.dst.getD 0) then F2 { dst := some (.v (.P h'.length 0)), locs := u, heap := some (h' ++ [.cells (tagZ t cs)]) } else F2 { dst := some (.lp (o.dst.getD 0) (own.ver + 1) 0), locs := (o.dst.getD 0, ⟨own.ver + 1, .box 0 cs⟩) :: u }) := by
      intro cs u
      rcases hh' with hn | ⟨rfl, rfl⟩
      · rw [if_neg (by simp [hn]), if_neg (by simp [hn])]; exact hF _
      · split <;> exact hF _
    split
    · split
      · exact go _ _
      · exact hs
    · refine T_use hs fun a u => ?_
      split
      · exact T_mA hs fun l => go _ _
      · exact T_m1 hs (go _ _)
  | build t ps =>
    dsimp only
    split
    · split
      · split
        · exact hs
        · exact T_buildK hs _ _ _ _ _ fun _ _ => hF _
      · split
        · exact hs
        · exact T_buildK hs _ _ _ _ _ fun _ _ => hF _
      · exact hs
    · exact hs
  | buildSlice t n ps =>
    dsimp only
    split
    · split
      · refine T_useAll hs _ _ _ fun as u => ?_
        split
        · exact T_bytesK hs _ _ _ fun _ => hF _
        · exact T_elemsK hs _ _ _ fun _ => hF _
      · exact hs
    · exact hs
  | load t x =>
    refine T_loadK hs (fun id off e => ?_) fun _ => hF _
    simp only [looks, ho] at hh
    rw [e] at hh
    exact hh.2 id (by simp)
  | store t x y =>
    dsimp only
    simp only [looks, ho] at hh
    split
    · rename_i hm
      rw [if_pos hm] at hh
      obtain ⟨rfl, rfl⟩ := hh
      split
      · split
        · refine T_storeK hs (fun id off e => rfl) fun u => ?_
          split
          · exact hF _
          · exact hs
        · exact hs
      · exact T_storeK hs (fun id off e => rfl) hF
    · rename_i hm
      rw [if_neg hm] at hh
      refine T_storeK hs (fun id off e => ?_) hF
      rw [e] at hh
      exact (hh.2 id (by simp)).1
  | nilCheck x =>
    dsimp only
    split
    · exact T_mP hs fun _ _ => hF _
    · split
      · exact hF _
      · exact hs
  | binOp op t x y tt =>
    dsimp only
    split
    · split
      · exact T_mLen' hs fun n => T_bIte (T_chk' hs (hF _)) (T_cmpNil hs fun _ => hF _)
      · exact hs
    · split
      · split
        · exact T_isN' hs fun _ => T_cmpNil hs fun _ => hF _
        · exact hs
      · split
        · exact T_isF' hs fun _ => T_cmpNil hs fun _ => hF _
        · exact hs
      · split
        · exact T_isX' hs fun _ => T_cmpNil hs fun _ => hF _
        · exact hs
      · split
        · exact T_isM' hs fun _ => T_cmpNil hs fun _ => hF _
        · exact hs
      · exact T_bin hs fun _ => hF _
    · exact hs
  | unOp op t x =>
    dsimp only
    split
    · split
      · exact T_mB hs fun _ => hF _
      · exact T_mI hs fun _ => hF _
      · exact T_mI hs fun _ => T_binI hs fun _ => hF _
      · exact hs
    · exact hs
  | convert t d x =>
    dsimp only
    split
    · exact T_num hs fun _ => hF _
    · split
      · exact T_mS hs fun _ => hF _
      · exact hs
    · split
      · have fin : ∀ a, T ((stdAlg C.pure (noPan G)).mY a fun s => (stdAlg C.pure (noPan G)).chk (decide (s.length ≤ C.bound)) (F1 { dst := some (.v (.S s)) })) ((stdAlg C.pure (noPan G)).mY a fun s => (stdAlg C.pure (noPan G)).chk (decide (s.length ≤ C.bound)) (F2 { dst := some (.v (.S s)) })) := fun a =>
          T_mY hs fun _ => T_chk hs (hF _)
        split
        · split
          · exact fin _
          · exact hs
        · exact hF _
        · exact fin _
        · exact fin _
        · exact fin _
        · exact hs
      · exact hs
    · split
      · split
        · exact T_mS hs fun _ => hF _
        · exact hs
      · exact hs
    · exact hs
  | makeInterface t x =>
    dsimp only
    split <;> first | exact hs | exact T_use hs fun _ _ => hF _
  | makeFunc fn fs cs =>
    dsimp only
    split
    · refine T_captAll hs _ _ fun _ _ => ?_
      split
      · exact hF _
      · exact hs
    · exact T_useAll hs _ _ _ fun _ _ => hF _
  | makeSlice t x y =>
    dsimp only
    split
    · refine T_num hs fun _ => T_num hs fun _ => T_chk hs ?_
      split
      · exact hF _
      · exact hs
    · exact hs
  | slice t x lo hi mx =>
    dsimp only
    split
    · split
      · exact hs
      · split
        · split
          · exact hs
          · refine T_use hs fun _ _ => ?_
            split
            · exact T_mY hs fun _ => T_bounds3 hs fun _ _ => hF _
            · exact T_mL hs fun _ => T_bounds3 hs fun _ _ => hF _
        · exact hs
    split
    · split
      · split
        · exact T_num hs fun _ => T_chk' hs (hF _)
        · exact hs
      · exact hs
    · split
      · split
        · exact T_mS hs fun _ => T_boundsK hs fun _ _ => hF _
        · exact hs
      · split
        · exact hs
        · refine T_use hs fun _ _ => ?_
          split
          · exact T_mY hs fun _ => T_boundsK hs fun _ _ => hF _
          · exact T_mL hs fun _ => T_boundsK hs fun _ _ => hF _
      · exact hs
  | fieldAddr t x i =>
    dsimp only
    split
    · split
      · exact hs
      · split
        · exact T_mP hs fun _ _ => hF _
        · split
          · exact hF _
          · exact hs
    · exact hs
  | field t x i =>
    dsimp only
    split
    · split
      · refine T_mA hs fun _ => ?_
        split
        · split
          · exact hF _
          · split
            · exact hF _
            · exact hs
        · exact hs
      · exact hs
    · exact hs
  | indexAddr t x y =>
    refine T_idxK hs (fun id e => ?_) fun _ => hF _
    simp only [looks, ho] at hh
    rw [e] at hh
    exact (hh.2 id (by simp)).1
  | index t x y =>
    dsimp only
    split
    · refine T_num hs fun _ => ?_
      split
      · exact T_mS hs fun _ => T_ix' hs fun _ => hF _
      · split
        · exact hs
        · refine T_mA hs fun _ => T_ix' hs fun _ => ?_
          split <;> exact hF _
      · exact hs
    · exact hs
  | extract x i =>
    dsimp only
    split
    · exact T_mT hs fun _ => hF _
    · exact hs
  | panic x => exact absurd ho (hp x)
  | call c =>
    dsimp only
    split
    · split
      · rename_i hc
        split
        · exact hs
        · split
          · split
            · exact T_mS hs fun _ => hF _
            · exact hs
          · split
            · rename_i av e
              refine T_mMl' hs (fun id ea => ?_) fun es => T_chk' hs (hF _)
              simp only [looks, ho, hc] at hh
              rw [e, ea] at hh
              exact (hh.2 id (by simp)).1
            · exact hs
          · split
            · split
              · exact hF _
              · exact hs
            · exact T_mLen' hs fun _ => hF _
            · exact T_mLen' hs fun _ => hF _
            · rename_i av e
              have hM : T (mLen av fun n => F1 { dst := some (.v (.I .i64 n)) }) (mLen av fun n => F2 { dst := some (.v (.I .i64 n)) }) := T_mLen hs fun _ => hF _
              cases av with
              | W id =>
                have k3 : arrAt h' id = arrAt h id := by
                  simp only [looks, ho, hc] at hh
                  rw [e] at hh
                  simp only [arrAt, (hh.2 id (by simp)).1]
                dsimp only [stdAlg, mW]
                rw [k3]
                split
                · exact hF _
                · exact hs
              | _ => exact hM
            · exact hs
          · exact hs
      · rename_i hc
        have hh' : ∀ id off v z, ins.getD 0 (.v .U) = .hh id off v z → h'[id]? = h[id]? ∧ hv' id = hv id := by
          intro id off v z e
          simp only [looks, ho, hc] at hh
          rw [e] at hh
          exact hh.2 id (by simp)
        have hw : ∀ id, ins.getD 0 (.v .U) = .v (.W id) → h'[id]? = h[id]? := by
          intro id e
          simp only [looks, ho, hc] at hh
          rw [e] at hh
          exact (hh.2 id (by simp)).1
        split
        · split
          · exact T_appendK hs hh' hw hF
          · exact T_appendK hs hh' hw hF
          · exact hs
        · exact hs
      · split
        · split
          · exact T_copyK hs hF
          · exact hs
        · exact hs
      · split
        · split
          · exact T_mI hs fun _ => T_mI hs fun _ => hF _
          · exact hs
        · exact hs
      · split
        · split
          · exact T_mI hs fun _ => T_mI hs fun _ => hF _
          · exact hs
        · exact hs
      · exact hs
    · rename_i hc
      have hh' : ((if N.narrow (o.dst.getD 0) = true then some (ptsIns ins los) else none) = none → h' = h) ∧ (∀ l, (if N.narrow (o.dst.getD 0) = true then some (ptsIns ins los) else none) = some l → h'.length = h.length ∧ ∀ i ∈ l, h'[i]? = h[i]?) := by
        simp only [looks, ho, hc] at hh
        exact Agree.calls hh
      split
      · refine T_useAll hs _ _ _ fun _ _ => T_mX hs fun _ _ => ?_
        split
        · exact T_callK hs (.inr hh') hF
        · exact hs
      · exact hs
    · rename_i fid hc
      split
      · split
        · exact T_useAll hs _ _ _ fun _ _ => T_eatK hs hF
        · exact hs
      · have hh' : C.pure fid = true ∨ ((if N.narrow (o.dst.getD 0) = true then some (ptsIns ins los) else none) = none → h' = h) ∧ (∀ l, (if N.narrow (o.dst.getD 0) = true then some (ptsIns ins los) else none) = some l → h'.length = h.length ∧ ∀ i ∈ l, h'[i]? = h[i]?) := by
          simp only [looks, ho, hc] at hh
          cases hp : C.pure fid with
          | true => exact .inl rfl
          | false =>
            rw [hp] at hh
            exact .inr (Agree.calls hh)
        exact T_useAll hs _ _ _ fun _ _ => T_callK hs hh' hF
    · rename_i x hnf hc
      have hh' : h' = h ∧ hv' = hv := by
        cases x with
        | func fid => exact absurd rfl (hnf fid)
        | _ => simp only [looks, ho, hc] at hh; exact hh
      obtain ⟨rfl, rfl⟩ := hh'
      split
      · refine T_useAll hs _ _ _ fun _ _ => T_mF hs fun _ _ _ => ?_
        split
        · exact T_dynP hs fun _ => hF _
        · exact T_dynH hs fun _ _ => hF _
      · exact hs
  | makeMap t rs =>
    dsimp only
    have hh' : h' = h ∧ hv' = hv := by
      simp only [looks, ho] at hh
      exact hh
    obtain ⟨rfl, rfl⟩ := hh'
    split
    · exact hF _
    · exact hs
  | lookup t x y ok =>
    dsimp only
    split
    · rename_i kt et m i _q1 e1 _q2
      split
      · split
        · refine T_mA hs fun cs => T_mMl' hs (fun id ea => ?_) fun es => T_fndS hs fun r => ?_
          · simp only [looks, ho] at hh
            rw [e1, ea] at hh
            exact (hh.2 id (by simp)).1
          · split
            · exact hF _
            · exact T_zeroK hs fun v => hF _
        · exact hs
      · refine T_mI hs fun n => T_mMl' hs (fun id ea => ?_) fun es => T_fnd' hs fun r => ?_
        · simp only [looks, ho] at hh
          rw [e1, ea] at hh
          exact (hh.2 id (by simp)).1
        · split
          · exact hF _
          · exact T_zeroK hs fun v => hF _
      · exact hs
    · exact hs
  | mapEntry t x y =>
    dsimp only
    split
    · rename_i kt et m i _q1 e1 _q2
      split
      · refine T_mA hs fun cs => T_mM' hs (fun id ea => ?_) fun id es => T_chk' hs (T_fndS hs fun r => ?_)
        · simp only [looks, ho] at hh
          rw [e1, ea] at hh
          exact (hh.2 id (by simp)).1
        · split
          · exact hF _
          · exact T_zeroK hs fun v => hF _
      · exact hs
    · exact hs
  | entryStore t x y z =>
    dsimp only
    split
    · rename_i kt et m i _q1 e1 _q2
      refine T_mI hs fun n => T_use hs fun v u => T_mM' hs (fun id ea => ?_) fun id es => T_ix' hs fun j => hF _
      simp only [looks, ho] at hh
      rw [e1, ea] at hh
      exact (hh.2 id (by simp)).1
    · exact hs
  | mapUpdate t x y z =>
    dsimp only
    split
    · rename_i kt et m i _q1 e1 _q2
      split
      · split
        · refine T_mA hs fun cs => T_use hs fun v u => T_mM' hs (fun id ea => ?_) fun id es => T_fndS hs fun r => hF _
          simp only [looks, ho] at hh
          rw [e1, ea] at hh
          exact (hh.2 id (by simp)).1
        · exact hs
      · refine T_mI hs fun n => T_use hs fun v u => T_mM' hs (fun id ea => ?_) fun id es => T_fnd' hs fun r => hF _
        simp only [looks, ho] at hh
        rw [e1, ea] at hh
        exact (hh.2 id (by simp)).1
      · exact hs
    · exact hs
  | _ => exact hs
end parts
end
end Go.Vm
namespace Go.Vm
open Go
section
variable {C : Cx} {N : Ann} {G : FuncId → List AV → List HO → Res}
theorem Agree.symm {F : HS} {h h' : List HO} {hv hv' : Nat → Nat} (ha : Agree F h h' hv hv') : Agree F h' h hv' hv := by
  cases F with
  | no => trivial
  | all => exact ⟨ha.1.symm, ha.2.symm⟩
  | ids l => exact ⟨ha.1.symm, fun i hi => ⟨(ha.2 i hi).1.symm, (ha.2 i hi).2.symm⟩⟩
def insO (C : Cx) (o : Oper) (s : St) : List EV := o.op.operands.toList.map (evO C s)
def exU (C : Cx) (N : Ann) (G : FuncId → List AV → List HO → Res) (o : Oper) (s : St) : Res :=
  opF (stdAlg C.pure (noPan G)) C N o (insO C o s) ((insO C o s).map (loO s)) (s.loc (o.dst.getD 0)) s.h s.hv Res.upd
theorem exU_cases {o : Oper} (hp : ∀ x, o.op ≠ .panic x) {s : St} {K : Upd → Res} {R : Res} (hR : R ≠ .stuck)
    (h : opF (stdAlg C.pure (noPan G)) C N o (insO C o s) ((insO C o s).map (loO s)) (s.loc (o.dst.getD 0)) s.h s.hv K = R) : ∃ u, exU C N G o s = .upd u ∧ K u = R := by
  have := opF_T (C := C) (N := N) (G := G) (T := fun r1 r2 => (r1 = .stuck ∧ r2 = .stuck) ∨ ∃ u, r1 = .upd u ∧ r2 = K u) (.inl ⟨rfl, rfl⟩) (ins := insO C o s) (los := (insO C o s).map (loO s)) (own := s.loc (o.dst.getD 0)) (h := s.h) (h' := s.h) (hv := s.hv) (hv' := s.hv) hp .refl (F1 := Res.upd) (F2 := K) fun u => .inr ⟨u, rfl, rfl⟩
  rcases this with ⟨_, h2⟩ | ⟨u, h1, h2⟩
  · rw [h2] at h; exact absurd h.symm hR
  · exact ⟨u, h1, h2 ▸ h⟩
def exE (C : Cx) (N : Ann) (G : FuncId → List AV → List HO → Res) (all : Array Oper) (o : Oper) (s : St) : Option (Foot × Upd) :=
  let run : Option (Foot × Upd) := match o.op with
    | .panic _ => none
    | _ => match exU C N G o s with
      | .upd u => some (footOf C N o (insO C o s) ((insO C o s).map (loO s)) u, u)
      | _ => none
  match o.guard with
  | none => run
  | some (j, want) => match (all[j]?).bind (·.dst) with
    | none => none
    | some g => match s.env g with
      | .v (.B b) => if b = want then run else some (noFoot, { dst := some .un })
      | .un => some (noFoot, { dst := some .un })
      | _ => none
theorem on_skip (d : Option Nat) (s : St) : Upd.on { dst := some .un } d s = s.put d .un := by
  cases d <;> rfl
theorem put_self {s : St} {g : Nat} {e : EV} (h : s.env g = e) : s.put (some g) e = s := by
  have : (fun t => bif Nat.beq t g then e else s.env t) = s.env := by
    funext t
    by_cases ht : t = g
    · subst ht; simp [h]
    · have : Nat.beq t g = false := by
        rw [Bool.eq_false_iff]
        exact fun e' => ht (Nat.eq_of_beq_eq_true e')
      simp [this]
  simp only [St.put, this]
theorem looks_op {all : Array Oper} {o : Oper} {t : Nat} (h : Operand.tmp t ∈ o.op.operands.toList) : t ∈ o.looksAt all := by
  unfold Oper.looksAt
  refine List.mem_append_left _ (List.mem_filterMap.2 ⟨.tmp t, h, rfl⟩)
theorem looks_guard {all : Array Oper} {o : Oper} {j g : Nat} {want : Bool} (h : o.guard = some (j, want)) (hg : (all[j]?).bind (·.dst) = some g) : g ∈ o.looksAt all := by
  unfold Oper.looksAt
  refine List.mem_append_right _ ?_
  rw [h]
  simp only
  rw [hg]
  simp
theorem insO_same {all : Array Oper} {o : Oper} {s s1 : St} (h : ∀ t ∈ o.looksAt all, s1.env t = s.env t) : insO C o s1 = insO C o s := by
  unfold insO
  refine List.map_congr_left fun x hx => ?_
  cases x with
  | tmp t => exact h t (looks_op hx)
  | _ => rfl
theorem exE_frame {all : Array Oper} {o : Oper} {s s1 : St} {ft : Foot} {u : Upd} (h : exE C N G all o s1 = some (ft, u)) (henv : ∀ t ∈ o.looksAt all, s1.env t = s.env t) (hloc : ∀ k ∈ ft.rd, s1.loc k = s.loc k)
    (hheap : Agree ft.hr s1.h s.h s1.hv s.hv) : exE C N G all o s = some (ft, u) := by
  have hins : insO C o s1 = insO C o s := insO_same henv
  have run : (match o.op with
      | .panic _ => none
      | _ => match exU C N G o s1 with
        | .upd u => some (footOf C N o (insO C o s1) ((insO C o s1).map (loO s1)) u, u)
        | _ => none) = some (ft, u) → (match o.op with
      | .panic _ => none
      | _ => match exU C N G o s with
        | .upd u => some (footOf C N o (insO C o s) ((insO C o s).map (loO s)) u, u)
        | _ => none) = some (ft, u) := by
    intro h
    by_cases hp : ∃ x, o.op = .panic x
    · obtain ⟨x, hp⟩ := hp
      rw [hp] at h
      cases h
    · have hp' : ∀ x, o.op ≠ .panic x := fun x hx => hp ⟨x, hx⟩
      have e1 : ∀ (s : St), (match o.op with
          | .panic _ => none
          | _ => match exU C N G o s with
            | .upd u => some (footOf C N o (insO C o s) ((insO C o s).map (loO s)) u, u)
            | _ => none) = (match exU C N G o s with
            | .upd u => some (footOf C N o (insO C o s) ((insO C o s).map (loO s)) u, u)
            | _ => none) := by
        intro s
        split
        · rename_i x hx; exact absurd hx (hp' x)
        · rfl
      rw [e1] at h ⊢
      have hft : ft = footOf C N o (insO C o s1) ((insO C o s1).map (loO s1)) u := by
        split at h
        · cases h; rfl
        · cases h
      have hlos : (insO C o s).map (loO s) = (insO C o s1).map (loO s1) := by
        rw [hins]
        refine List.map_congr_left fun e he => ?_
        unfold loO
        cases hes : e.site with
        | none => rfl
        | some k =>
          refine (hloc k ?_).symm
          rw [hft]
          refine List.mem_cons_of_mem _ ?_
          rw [hins]
          exact List.mem_filterMap.2 ⟨e, he, hes⟩
      have key : exU C N G o s = exU C N G o s1 := by
        unfold exU
        have hown : s.loc (o.dst.getD 0) = s1.loc (o.dst.getD 0) := by
          refine (hloc _ ?_).symm
          rw [hft]
          exact List.mem_cons_self
        rw [hlos, hown, ← hins]
        refine opF_T (T := Eq) rfl hp' ?_ fun _ => rfl
        have := hheap.symm
        rw [hft] at this
        exact this
      rw [key, hlos, ← hins]
      exact h
  unfold exE at h ⊢
  dsimp only at h ⊢
  cases hg : o.guard with
  | none => rw [hg] at h; exact run h
  | some jw =>
    obtain ⟨j, want⟩ := jw
    rw [hg] at h
    simp only at h ⊢
    cases hj : (all[j]?).bind (·.dst) with
    | none => rw [hj] at h; cases h
    | some g =>
      rw [hj] at h
      simp only at h ⊢
      have he := henv g (looks_guard hg hj)
      rw [he] at h
      split at h
      · split at h
        · rename_i hb
          rw [if_pos hb]
          exact run h
        · rename_i hb
          rw [if_neg hb]
          exact h
      · exact h
      · cases h
theorem exE_foot {all : Array Oper} {o : Oper} {s : St} {ft : Foot} {u : Upd} (h : exE C N G all o s = some (ft, u)) : ft.wr = u.locs.map (·.1) ∧ ft.hw = u.hs := by
  have run : (match o.op with
      | .panic _ => none
      | _ => match exU C N G o s with
        | .upd u => some (footOf C N o (insO C o s) ((insO C o s).map (loO s)) u, u)
        | _ => none) = some (ft, u) → ft.wr = u.locs.map (·.1) ∧ ft.hw = u.hs := by
    intro h
    split at h
    · cases h
    · split at h
      · cases h; exact ⟨rfl, rfl⟩
      · cases h
  unfold exE at h
  dsimp only at h
  split at h
  · exact run h
  · split at h
    · cases h
    · split at h
      · split at h
        · exact run h
        · cases h; exact ⟨rfl, rfl⟩
      · cases h; exact ⟨rfl, rfl⟩
      · cases h
theorem setLocs_mem : ∀ (us : List (Nat × LOv)) (l1 l2 : Nat → LOv) (i : Nat), i ∈ us.map (·.1) → setLocs l1 us i = setLocs l2 us i
  | [], _, _, _, h => by cases h
  | (k, x) :: us, l1, l2, i, h => by
    simp only [setLocs]
    by_cases e : i = k
    · subst e; simp
    · have hb : Nat.beq i k = false := by
        rw [Bool.eq_false_iff]
        exact fun e' => e (Nat.eq_of_beq_eq_true e')
      simp only [hb, cond_false]
      simp only [List.map_cons, List.mem_cons] at h
      exact setLocs_mem us l1 l2 i (h.resolve_left e)
theorem setLocs_nmem : ∀ (us : List (Nat × LOv)) (l : Nat → LOv) (i : Nat), i ∉ us.map (·.1) → setLocs l us i = l i
  | [], _, _, _ => rfl
  | (k, x) :: us, l, i, h => by
    simp only [List.map_cons, List.mem_cons, not_or] at h
    have hb : Nat.beq i k = false := by
      rw [Bool.eq_false_iff]
      exact fun e' => h.1 (Nat.eq_of_beq_eq_true e')
    simp only [setLocs, hb, cond_false]
    exact setLocs_nmem us l i h.2
theorem setLocs_comm {us vs : List (Nat × LOv)} (l : Nat → LOv) (h : ∀ i ∈ us.map (·.1), i ∉ vs.map (·.1)) : setLocs (setLocs l us) vs = setLocs (setLocs l vs) us := by
  funext i
  by_cases hv : i ∈ vs.map (·.1)
  · have hu : i ∉ us.map (·.1) := fun hu => h i hu hv
    rw [setLocs_mem vs _ l i hv, setLocs_nmem us _ i hu]
  · rw [setLocs_nmem vs _ i hv]
    by_cases hu : i ∈ us.map (·.1)
    · exact setLocs_mem us _ _ i hu
    · rw [setLocs_nmem us _ i hu, setLocs_nmem us _ i hu, setLocs_nmem vs _ i hv]
theorem offL_spec {x y : List Nat} (h : offL x y = true) : ∀ i ∈ x, i ∉ y := by
  intro i hx hy
  have h1 := List.all_eq_true.1 h i hx
  have h2 := List.all_eq_true.1 h1 i hy
  simp at h2
theorem Foot.off_spec {x y : Foot} (h : x.off y = true) : (∀ i ∈ x.wr, i ∉ y.rd) ∧ (∀ i ∈ y.wr, i ∉ x.rd) ∧ (∀ i ∈ x.wr, i ∉ y.wr) ∧ x.hw.off y.hr = true ∧ x.hw.off y.hw = true ∧ y.hw.off x.hr = true := by
  simp only [Foot.off, Bool.and_eq_true] at h
  obtain ⟨⟨⟨⟨⟨h1, h2⟩, h3⟩, h4⟩, h5⟩, h6⟩ := h
  exact ⟨offL_spec h1, offL_spec h2, offL_spec h3, h4, h5, h6⟩
theorem on_env (u : Upd) (d : Option Nat) (s : St) (t : Nat) (h : ∀ x, d = some x → t ≠ x) : (u.on d s).env t = s.env t := by
  cases d with
  | none => rfl
  | some x =>
    have : Nat.beq t x = false := by
      rw [Bool.eq_false_iff]
      exact fun e' => h x rfl (Nat.eq_of_beq_eq_true e')
    simp [Upd.on, St.put, this]
theorem on_loc (u : Upd) (d : Option Nat) (s : St) : (u.on d s).loc = setLocs s.loc u.locs := by cases d <;> rfl
theorem on_h (u : Upd) (d : Option Nat) (s : St) : (u.on d s).h = setH (pushH (u.heap.getD s.h) u.push) u.dl := by cases d <;> rfl
theorem on_hv (u : Upd) (d : Option Nat) (s : St) : (u.on d s).hv = u.hvOf s.hv := by cases d <;> rfl
theorem setH_get_nmem : ∀ (dl : List (Nat × HO)) (h : List HO) (i : Nat), i ∉ dl.map (·.1) → (setH h dl)[i]? = h[i]?
  | [], _, _, _ => rfl
  | (j, x) :: dl, h, i, hn => by
    simp only [List.map_cons, List.mem_cons, not_or] at hn
    simp only [setH]
    rw [setH_get_nmem dl _ i hn.2, List.getElem?_set, if_neg (fun e => hn.1 e.symm)]
theorem setH_get_mem : ∀ (dl : List (Nat × HO)) (h h' : List HO) (i : Nat), i ∈ dl.map (·.1) → h'.length = h.length → (setH h' dl)[i]? = (setH h dl)[i]?
  | [], _, _, _, hm, _ => by cases hm
  | (j, x) :: dl, h, h', i, hm, hl => by
    simp only [setH]
    by_cases h1 : i ∈ dl.map (·.1)
    · exact setH_get_mem dl _ _ i h1 (by simpa using hl)
    · simp only [List.map_cons, List.mem_cons] at hm
      have hij := hm.resolve_right h1
      subst hij
      rw [setH_get_nmem dl _ i h1, setH_get_nmem dl _ i h1, List.getElem?_set, List.getElem?_set, if_pos rfl, if_pos rfl, hl]
theorem setH_comm {dx dy : List (Nat × HO)} (h : List HO) (hd : ∀ i ∈ dx.map (·.1), i ∉ dy.map (·.1)) : setH (setH h dx) dy = setH (setH h dy) dx := by
  apply List.ext_getElem?
  intro i
  by_cases hy : i ∈ dy.map (·.1)
  · have hx : i ∉ dx.map (·.1) := fun hx => hd i hx hy
    rw [setH_get_nmem dx _ i hx]
    exact setH_get_mem dy _ _ i hy (by rw [setH_length])
  · rw [setH_get_nmem dy _ i hy]
    by_cases hx : i ∈ dx.map (·.1)
    · exact (setH_get_mem dx _ _ i hx (by rw [setH_length])).symm
    · rw [setH_get_nmem dx _ i hx, setH_get_nmem dx _ i hx, setH_get_nmem dy _ i hy]
theorem hs_none {u : Upd} (h : u.hs = .no) : u.heap = none ∧ u.dl = [] ∧ u.push = [] := by
  unfold Upd.hs at h
  split at h
  · cases h
  · cases h
  · rename_i e e1
    split at h
    · rename_i e2; exact ⟨e, e2, e1⟩
    · cases h
theorem hs_ids {u : Upd} {l : List Nat} (h : u.hs = .ids l) : u.heap = none ∧ u.dl.map (·.1) = l ∧ u.push = [] := by
  unfold Upd.hs at h
  split at h
  · cases h
  · cases h
  · rename_i e e1
    split at h
    · cases h
    · cases h; exact ⟨e, rfl, e1⟩
theorem agree_on {u : Upd} {d : Option Nat} {s : St} {F : HS} (h : u.hs.off F = true) : Agree F s.h (u.on d s).h s.hv (u.on d s).hv := by
  cases F with
  | no => trivial
  | all =>
    cases hu : u.hs with
    | no =>
      obtain ⟨h1, h2, h2p⟩ := hs_none hu
      rw [on_h, on_hv]
      refine ⟨by rw [h1, h2, h2p]; rfl, ?_⟩
      unfold Upd.hvOf
      rw [h1, h2]
    | all => rw [hu] at h; cases h
    | ids l => rw [hu] at h; cases h
  | ids l =>
    cases hu : u.hs with
    | no =>
      obtain ⟨h1, h2, h2p⟩ := hs_none hu
      rw [on_h, on_hv]
      refine ⟨by rw [h1, h2, h2p]; rfl, fun i _ => ⟨by rw [h1, h2, h2p]; rfl, ?_⟩⟩
      unfold Upd.hvOf
      rw [h1, h2]
    | all => rw [hu] at h; cases h
    | ids l' =>
      rw [hu] at h
      obtain ⟨h1, h2, h2p⟩ := hs_ids hu
      have hoff := offL_spec h
      rw [on_h, on_hv, h1, h2p]
      refine ⟨by rw [setH_length]; rfl, fun i hi => ?_⟩
      have hni : i ∉ u.dl.map (·.1) := fun hm => hoff i (by rw [← h2]; exact hm) hi
      exact ⟨setH_get_nmem _ _ i hni, by rw [hvOf_eq h1, if_neg hni]⟩
theorem St.ext' {s t : St} (h1 : s.env = t.env) (h2 : s.loc = t.loc) (h3 : s.h = t.h) (h4 : s.hv = t.hv) : s = t := by
  cases s; cases t; simp only at h1 h2 h3 h4; subst h1; subst h2; subst h3; subst h4; rfl
theorem on_comm {ux uy : Upd} {dx dy : Option Nat} (s : St) (hd : ∀ d, dx = some d → dy ≠ some d) (hl : ∀ i ∈ ux.locs.map (·.1), i ∉ uy.locs.map (·.1)) (hh : ux.hs.off uy.hs = true) :
    uy.on dy (ux.on dx s) = ux.on dx (uy.on dy s) := by
  refine St.ext' ?_ ?_ ?_ ?_
  · funext t
    cases dx with
    | none =>
      cases dy with
      | none => rfl
      | some y => rfl
    | some x =>
      cases dy with
      | none => rfl
      | some y =>
        have hne : x ≠ y := fun e => hd x rfl (by rw [e])
        by_cases h1 : t = x
        · subst h1
          have : Nat.beq t y = false := by
            rw [Bool.eq_false_iff]
            exact fun e' => hne (Nat.eq_of_beq_eq_true e')
          simp [Upd.on, St.put, this]
        · have hb : Nat.beq t x = false := by
            rw [Bool.eq_false_iff]
            exact fun e' => h1 (Nat.eq_of_beq_eq_true e')
          simp [Upd.on, St.put, hb]
  · rw [on_loc, on_loc, on_loc, on_loc]
    exact setLocs_comm _ hl
  · rw [on_h, on_h, on_h, on_h]
    cases hx : ux.hs with
    | no =>
      obtain ⟨h1, h2, h2p⟩ := hs_none hx
      rw [h1, h2, h2p]; rfl
    | all =>
      cases hy : uy.hs with
      | no =>
        obtain ⟨h1, h2, h2p⟩ := hs_none hy
        rw [h1, h2, h2p]; rfl
      | _ => rw [hx, hy] at hh; cases hh
    | ids l =>
      cases hy : uy.hs with
      | no =>
        obtain ⟨h1, h2, h2p⟩ := hs_none hy
        rw [h1, h2, h2p]; rfl
      | all => rw [hx, hy] at hh; cases hh
      | ids l' =>
        rw [hx, hy] at hh
        obtain ⟨h1, h2, h2p⟩ := hs_ids hx
        obtain ⟨h3, h4, h4p⟩ := hs_ids hy
        rw [h1, h3, h2p, h4p]
        exact setH_comm _ fun i hi => by rw [h4]; exact offL_spec hh i (by rw [← h2]; exact hi)
  · rw [on_hv, on_hv, on_hv, on_hv]
    funext i
    cases hx : ux.hs with
    | no =>
      obtain ⟨h1, h2, _⟩ := hs_none hx
      have e : ∀ hv, ux.hvOf hv = hv := fun hv => by unfold Upd.hvOf; rw [h1, h2]
      rw [e, e]
    | all =>
      cases hy : uy.hs with
      | no =>
        obtain ⟨h1, h2, _⟩ := hs_none hy
        have e : ∀ hv, uy.hvOf hv = hv := fun hv => by unfold Upd.hvOf; rw [h1, h2]
        rw [e, e]
      | _ => rw [hx, hy] at hh; cases hh
    | ids l =>
      cases hy : uy.hs with
      | no =>
        obtain ⟨h1, h2, _⟩ := hs_none hy
        have e : ∀ hv, uy.hvOf hv = hv := fun hv => by unfold Upd.hvOf; rw [h1, h2]
        rw [e, e]
      | all => rw [hx, hy] at hh; cases hh
      | ids l' =>
        obtain ⟨h1, h2, _⟩ := hs_ids hx
        obtain ⟨h3, h4, _⟩ := hs_ids hy
        rw [hvOf_eq h3, hvOf_eq h1, hvOf_eq h1, hvOf_eq h3]
        by_cases q1 : i ∈ ux.dl.map (·.1) <;> by_cases q2 : i ∈ uy.dl.map (·.1) <;> simp only [q1, q2, if_true, if_false]
theorem exE_comm {all : Array Oper} {x y : Oper} {fx fy : Foot} {ux uy : Upd} {s : St} (hap : x.apart all y = true) (hoff : fx.off fy = true) (h1 : exE C N G all x s = some (fx, ux)) (h2 : exE C N G all y (ux.on x.dst s) = some (fy, uy)) :
    exE C N G all y s = some (fy, uy) ∧ exE C N G all x (uy.on y.dst s) = some (fx, ux) ∧ uy.on y.dst (ux.on x.dst s) = ux.on x.dst (uy.on y.dst s) := by
  obtain ⟨a1, a2, a3⟩ := Oper.apart_spec hap
  obtain ⟨o1, o2, o3, o4, o5, o6⟩ := Foot.off_spec hoff
  obtain ⟨w1, w2⟩ := exE_foot h1
  obtain ⟨w3, w4⟩ := exE_foot h2
  rw [w2] at o4 o5
  rw [w4] at o5 o6
  refine ⟨exE_frame h2 (fun t ht => on_env _ _ _ _ fun d hd e => a1 d hd (e ▸ ht)) (fun k hk => ?_) (agree_on o4).symm, exE_frame h1 (fun t ht => (on_env _ _ _ _ fun d hd e => a3 d hd (e ▸ ht)).symm) (fun k hk => ?_) (agree_on o6), on_comm s a2 ?_ o5⟩
  · rw [on_loc, setLocs_nmem]
    intro hm
    rw [← w1] at hm
    exact o1 k hm hk
  · rw [on_loc, setLocs_nmem]
    intro hm
    rw [← w3] at hm
    exact o2 k hm hk
  · intro i hi
    rw [← w1] at hi
    rw [← w3]
    exact o3 i hi
theorem zeroK_form (t : TypeId) : (∀ K : AV → Res, zeroK (stdAlg C.pure (noPan G)) C t K = .stuck) ∨ ∃ v, ∀ K : AV → Res, zeroK (stdAlg C.pure (noPan G)) C t K = K v := by
  unfold zeroK
  by_cases hz : zeroOK C.P t = true
  · simp only [if_pos hz]
    split
    · exact .inr ⟨_, fun K => rfl⟩
    · exact .inr ⟨_, fun K => rfl⟩
    · exact .inl fun K => rfl
  · simp only [if_neg hz]
    exact .inl fun K => rfl
theorem findS_put {ks : List FK} {cs : List AV} {v : AV} (hc : eqCells ks cs cs = some true) : ∀ (es : List (AV × AV)) (r : Option AV), findS ks cs es = some r → findS ks cs (putS ks cs v es) = some (some v)
  | [], _, _ => by simp only [putS, findS, hc]
  | (a, x) :: es, r, h => by
    cases a with
    | A cs' =>
      simp only [findS] at h
      split at h
      · rename_i he
        simp only [putS, he, findS]
      · rename_i he
        simp only [putS, he, findS]
        exact findS_put hc es r h
      · cases h
    | _ => simp [findS] at h
theorem lkMe_spec {x y : Oper} (h : lkMe x y = true) : ∃ t i j, x.op = .lookup t (.tmp i) (.tmp j) false ∧ y.op = .mapEntry t (.tmp i) (.tmp j) ∧ x.guard = none ∧ y.guard = none := by
  unfold lkMe at h
  split at h
  · rename_i t i j t' i' j' e1 e2
    simp only [Bool.and_eq_true] at h
    obtain ⟨⟨⟨⟨h1, h2⟩, h3⟩, h4⟩, h5⟩ := h
    cases Nat.eq_of_beq_eq_true h1
    cases Nat.eq_of_beq_eq_true h2
    cases Nat.eq_of_beq_eq_true h3
    exact ⟨t, i, j, e1, e2, by simpa using h4, by simpa using h5⟩
  · cases h
theorem exE_plain {all : Array Oper} {o : Oper} {s : St} (hg : o.guard = none) (hp : ∀ x, o.op ≠ .panic x) : exE C N G all o s = (match exU C N G o s with
    | .upd u => some (footOf C N o (insO C o s) ((insO C o s).map (loO s)) u, u)
    | _ => none) := by
  unfold exE
  dsimp only
  rw [hg]
  cases hq : o.op <;> first | rfl | exact absurd hq (hp _)
theorem exU_me {o : Oper} {t : TypeId} {i j : Nat} {s : St} {u : Upd} (ho : o.op = .mapEntry t (.tmp i) (.tmp j)) (h : exU C N G o s = .upd u) :
    ∃ kt et ks id cs es r v, und C.P t = .map kt et ∧ s.env i = .v (.M id) ∧ (s.env j).pl = .v (.A cs) ∧ simpleK C.P kt = true ∧ flatK C.P 20 kt = some ks ∧ cs.length = szT C.P kt ∧ s.h[id]? = some (.map es) ∧ eqCells ks cs cs = some true ∧ findS ks cs es = some r ∧
      (r = some v ∨ (r = none ∧ ∀ K : AV → Res, zeroK (stdAlg C.pure (noPan G)) C et K = K v)) ∧ u = { dst := some (.v (.T [v, .I .i64 (idxS ks cs es)])), dl := [(id, .map (putS ks cs v es))] } := by
  have hR : Res.upd u ≠ .stuck := by simp
  unfold exU insO at h
  simp only [opF, ho, Op.operands, List.map_cons, List.map_nil, List.getD_cons_zero, List.getD_cons_succ, evO] at h
  split at h
  · rename_i kt et m k hu he1 he2
    split at h
    · rename_i ks hs hks
      obtain ⟨cs, rfl, lcs, h5⟩ := mA_inv h hR
      obtain ⟨id, es, rfl, hid, h7⟩ := mM_inv' h5 hR
      obtain ⟨hbd, h7⟩ := chk_inv' h7 hR
      have hbd := of_decide_eq_true hbd
      have h7 : fndS ks cs es _ = _ := h7
      unfold fndS at h7
      split at h7
      · rename_i r hfi
        dsimp only at h7
        split at h7
        · rename_i v
          cases h7
          exact ⟨kt, et, ks, id, cs, es, _, v, hu, he1, he2, hs, hks, lcs, hid, hbd.2, hfi, .inl rfl, rfl⟩
        · rcases zeroK_form (C := C) (G := G) et with hz | ⟨v, hz⟩
          · rw [hz] at h7; cases h7
          · rw [hz] at h7
            cases h7
            exact ⟨kt, et, ks, id, cs, es, _, v, hu, he1, he2, hs, hks, lcs, hid, hbd.2, hfi, .inr ⟨rfl, hz⟩, rfl⟩
      · exact absurd h7.symm hR
    · exact absurd h.symm hR
  · exact absurd h.symm hR
theorem simpleK_struct {P : Program} {kt : TypeId} (h : simpleK P kt = true) : ∃ fs, und P kt = .struct fs := by
  unfold simpleK at h
  split at h
  · rename_i fs e; exact ⟨fs, e⟩
  · cases h
theorem exU_lk {o : Oper} {t kt et : TypeId} {i j id : Nat} {s : St} {ks : List FK} {cs : List AV} {es : List (AV × AV)} {r : Option AV} {v : AV} (ho : o.op = .lookup t (.tmp i) (.tmp j) false) (hu : und C.P t = .map kt et) (h1 : s.env i = .v (.M id)) (h2 : (s.env j).pl = .v (.A cs))
    (h3 : simpleK C.P kt = true) (h4 : flatK C.P 20 kt = some ks) (h5 : cs.length = szT C.P kt) (h6 : s.h[id]? = some (.map es)) (h7 : findS ks cs es = some r) (h8 : r = some v ∨ (r = none ∧ ∀ K : AV → Res, zeroK (stdAlg C.pure (noPan G)) C et K = K v)) :
    exU C N G o s = .upd { dst := some (.v v) } := by
  obtain ⟨fs, hst⟩ := simpleK_struct h3
  unfold exU insO
  simp only [opF, ho, Op.operands, List.map_cons, List.map_nil, List.getD_cons_zero, List.getD_cons_succ, evO, hu, h1, h2, hst, h3, h4]
  simp only [stdAlg, mA, h5, if_true, mMl, h6, fndS, h7]
  rcases h8 with rfl | ⟨rfl, hz⟩
  · rfl
  · have hz' := hz (fun v => Res.upd { dst := some (.v (if false = true then .T [v, .B false] else v)) })
    simp only [stdAlg] at hz'
    exact hz'
theorem exE_commL {all : Array Oper} {x y : Oper} {fx fy : Foot} {ux uy : Upd} {s : St} (hap : x.apart all y = true) (hlm : lkMe x y = true) (h1 : exE C N G all x s = some (fx, ux)) (h2 : exE C N G all y (ux.on x.dst s) = some (fy, uy)) :
    exE C N G all y s = some (fy, uy) ∧ exE C N G all x (uy.on y.dst s) = some (fx, ux) ∧ uy.on y.dst (ux.on x.dst s) = ux.on x.dst (uy.on y.dst s) := by
  obtain ⟨a1, a2, a3⟩ := Oper.apart_spec hap
  obtain ⟨t, i, j, hx, hy, gx, gy⟩ := lkMe_spec hlm
  have px : ∀ z, x.op ≠ .panic z := fun z e => by rw [hx] at e; cases e
  have py : ∀ z, y.op ≠ .panic z := fun z e => by rw [hy] at e; cases e
  have h2' := h2
  rw [exE_plain gy py] at h2'
  split at h2'
  case h_2 => cases h2'
  rename_i u2 hu2
  cases h2'
  obtain ⟨kt, et, ks, id, cs, es, r, v, k1, k2, k3, k4, k5, k6, k7, k8, k9, k10, k11⟩ := exU_me hy hu2
  have hii : Operand.tmp i ∈ y.op.operands.toList := by rw [hy]; simp [Op.operands]
  have hjj : Operand.tmp j ∈ y.op.operands.toList := by rw [hy]; simp [Op.operands]
  have hii' : Operand.tmp i ∈ x.op.operands.toList := by rw [hx]; simp [Op.operands]
  have hjj' : Operand.tmp j ∈ x.op.operands.toList := by rw [hx]; simp [Op.operands]
  have henv : ∀ q ∈ y.looksAt all, (ux.on x.dst s).env q = s.env q := fun q hq => on_env _ _ _ _ fun d hd e => a1 d hd (e ▸ hq)
  have k2' : s.env i = .v (.M id) := by rw [← henv i (looks_op hii)]; exact k2
  have k3' : (s.env j).pl = .v (.A cs) := by rw [← henv j (looks_op hjj)]; exact k3
  have h1' := h1
  rw [exE_plain gx px] at h1'
  split at h1'
  case h_2 => cases h1'
  rename_i u1 hu1
  cases h1'
  have hno : ∀ es0 r0 v0, s.h[id]? = some (.map es0) → findS ks cs es0 = some r0 → (r0 = some v0 ∨ (r0 = none ∧ ∀ K : AV → Res, zeroK (stdAlg C.pure (noPan G)) C et K = K v0)) → ux = { dst := some (.v v0) } := by
    intro es0 r0 v0 q1 q2 q3
    have := exU_lk (N := N) (G := G) hx k1 k2' k3' k4 k5 k6 q1 q2 q3
    rw [this] at hu1
    cases hu1
    rfl
  have hux : ux.locs = [] ∧ ux.heap = none ∧ ux.dl = [] ∧ ux.push = [] := by
    have hR : Res.upd ux ≠ .stuck := by simp
    unfold exU insO at hu1
    obtain ⟨fs, hst⟩ := simpleK_struct k4
    simp only [opF, hx, Op.operands, List.map_cons, List.map_nil, List.getD_cons_zero, List.getD_cons_succ, evO, k1, k2', k3', hst, k4, k5] at hu1
    have hu2 : mA (szT C.P kt) (.A cs) (fun cs => mMl (.M id) s.h fun es => fndS ks cs es fun r => match r with
      | some v => Res.upd { dst := some (EV.v (if false = true then AV.T [v, AV.B true] else v)) }
      | none => zeroK (stdAlg C.pure (noPan G)) C et fun v => Res.upd { dst := some (EV.v (if false = true then AV.T [v, AV.B false] else v)) }) = Res.upd ux := hu1
    obtain ⟨cs1, _, _, h5⟩ := mA_inv hu2 hR
    rcases mMl_inv h5 hR with ⟨e, _⟩ | ⟨id1, es1, _, _, h6⟩
    · cases e
    · unfold fndS at h6
      split at h6
      · dsimp only at h6
        split at h6
        · cases h6; exact ⟨rfl, rfl, rfl, rfl⟩
        · rcases zeroK_form (C := C) (G := G) et with hz | ⟨v, hz⟩
          · rw [hz] at h6; cases h6
          · rw [hz] at h6; cases h6; exact ⟨rfl, rfl, rfl, rfl⟩
      · exact absurd h6.symm hR
  have hs0 : (ux.on x.dst s).h = s.h := by rw [on_h, hux.2.1, hux.2.2.1, hux.2.2.2]; rfl
  have hv0 : (ux.on x.dst s).hv = s.hv := by rw [on_hv]; unfold Upd.hvOf; rw [hux.2.1, hux.2.2.1]
  have hl0 : (ux.on x.dst s).loc = s.loc := by rw [on_loc, hux.1]; rfl
  rw [hs0] at k7
  have hxe := hno es r v k7 k9 k10
  have hhs : ux.hs = .no := by unfold Upd.hs; rw [hux.2.1, hux.2.2.2, hux.2.2.1]
  refine ⟨exE_frame h2 henv (fun k _ => by rw [hl0]) (by rw [hs0, hv0]; exact .refl), ?_, on_comm s a2 (by rw [hux.1]; intro q hq; cases hq) (by rw [hhs]; rfl)⟩
  have henv' : ∀ q ∈ x.looksAt all, (uy.on y.dst s).env q = s.env q := fun q hq => on_env _ _ _ _ fun d hd e => a3 d hd (e ▸ hq)
  have hidlt := (List.getElem?_eq_some_iff.1 k7).1
  have hh2 : (uy.on y.dst s).h[id]? = some (.map (putS ks cs v es)) := by
    rw [on_h, k11]
    show (s.h.set id (.map (putS ks cs v es)))[id]? = _
    rw [List.getElem?_set_self hidlt]
  have hrun := exU_lk (N := N) (G := G) (s := uy.on y.dst s) hx k1 (by rw [henv' i (looks_op hii')]; exact k2') (by rw [henv' j (looks_op hjj')]; exact k3') k4 k5 k6 hh2 (findS_put k8 es r k9) (.inl rfl)
  have hins : insO C x (uy.on y.dst s) = insO C x s := insO_same henv'
  have hl2 : (uy.on y.dst s).loc = s.loc := by rw [on_loc, k11]; rfl
  have hlo : loO (uy.on y.dst s) = loO s := by funext e; unfold loO; rw [hl2]
  rw [exE_plain gx px, hrun, hins, hlo, hxe]
def Runs (C : Cx) (N : Ann) (G : FuncId → List AV → List HO → Res) (all : Array Oper) : List (Nat × Foot) → St → St → Prop
  | [], s, s' => s = s'
  | p :: L, s, s' => ∃ o u, all[p.1]? = some o ∧ exE C N G all o s = some (p.2, u) ∧ Runs C N G all L (u.on o.dst s) s'
def Free (all : Array Oper) (p q : Nat × Foot) : Prop := ∃ x y, all[p.1]? = some x ∧ all[q.1]? = some y ∧ x.apart all y = true ∧ (p.2.off q.2 = true ∨ lkMe x y = true)
def OkP (all : Array Oper) (befs : List Nat) (p q : Nat × Foot) : Prop := (befs.getD q.1 0).testBit p.1 = true ∨ Free all p q
theorem Runs.swap {all : Array Oper} {p q : Nat × Foot} {L : List (Nat × Foot)} {s s' : St} (hf : Free all p q) (h : Runs C N G all (p :: q :: L) s s') : Runs C N G all (q :: p :: L) s s' := by
  obtain ⟨x, ux, hx, hex, y, uy, hy, hey, hr⟩ := h
  obtain ⟨x', y', hx', hy', hap, hoff⟩ := hf
  rw [hx] at hx'; cases hx'
  rw [hy] at hy'; cases hy'
  obtain ⟨c1, c2, c3⟩ := hoff.elim (fun h => exE_comm hap h hex hey) (fun h => exE_commL hap h hex hey)
  exact ⟨y, uy, hy, c1, x, ux, hx, c2, by rw [← c3]; exact hr⟩
theorem Runs.bubble {all : Array Oper} {p : Nat × Foot} {ys : List (Nat × Foot)} : ∀ (xs : List (Nat × Foot)) {s s' : St}, (∀ x ∈ xs, Free all x p) → Runs C N G all (xs ++ p :: ys) s s' → Runs C N G all (p :: (xs ++ ys)) s s'
  | [], _, _, _, h => h
  | x :: xs, s, s', hf, h => by
    obtain ⟨o, u, ho, he, hr⟩ := h
    have := Runs.bubble xs (fun y hy => hf y (List.mem_cons_of_mem _ hy)) hr
    exact Runs.swap (hf x List.mem_cons_self) ⟨o, u, ho, he, this⟩
end
end Go.Vm
namespace Go.Vm
open Go
section
variable {C : Cx} {N : Ann} {G : FuncId → List AV → List HO → Res} {nt : NT} {g0 : Gh} {w0 : World} {R : Res}
theorem noPan_stuck {fid : FuncId} {as : List AV} {h : List HO} {R : Res} (hr : noPan G fid as h = R) (hR : R ≠ .stuck) : G fid as h = R := by
  unfold noPan noPan1 at hr
  split at hr
  · exact absurd hr.symm hR
  · exact hr
theorem Sound.noPan {fid : FuncId} (h : Sound C fid (G fid)) : Sound C fid (noPan G fid) := by
  unfold Sound at h ⊢
  split
  · rename_i hp
    rw [if_pos hp] at h
    refine ⟨fun g w as vals R hr hR => h.1 g w as vals R (noPan_stuck hr hR) hR, fun e he => ?_⟩
    obtain ⟨k, h2⟩ := h.2 e he
    exact ⟨k, fun g w c as u0 vals v hh hr => h2 g w c as u0 vals v hh (noPan_stuck hr (by simp))⟩
  · rename_i hp
    rw [if_neg hp] at h
    intro g w as vals hh R hr hR
    exact h g w as vals hh R (noPan_stuck hr hR) hR
theorem range_cons (i n : Nat) : List.range' i (n + 1) = i :: List.range' (i + 1) n := rfl
theorem aOpsD_inv (hR : R ≠ .stuck) {all : Array Oper} {befs : List Nat} {kn : St → Res} : ∀ (l : List Oper) (i : Nat) (done : List (Nat × Foot)) (s : St), all.toList.drop i = l →
    aOpsD (stdAlg C.pure (noPan G)) C N all befs i l done s kn = R →
    ∃ L s', Runs C N G all L s s' ∧ L.map (·.1) = List.range' i l.length ∧ kn s' = R ∧ (∀ p ∈ done, ∀ q ∈ L, OkP all befs p q) ∧ L.Pairwise (OkP all befs) ∧ (∀ j o, i ≤ j → all[j]? = some o → edgesOK j o = true)
  | [], i, done, s, hl, h => by
    refine ⟨[], s, rfl, rfl, h, fun _ _ _ hq => (by cases hq), .nil, fun j o hj ho => ?_⟩
    have hi : all.size ≤ i := by
      rw [← Array.length_toList]
      exact List.drop_eq_nil_iff.1 hl
    have := (Array.getElem?_eq_some_iff.1 ho).1
    omega
  | o :: l, i, done, s, hl, h => by
    have hi : i < all.size := by
      rw [← Array.length_toList]
      rcases Nat.lt_or_ge i all.toList.length with h | h
      · exact h
      · rw [List.drop_eq_nil_iff.2 h] at hl; cases hl
    have ho : all[i]? = some o := by
      rw [List.drop_eq_getElem_cons (by simpa using hi)] at hl
      simp only [List.cons.injEq] at hl
      rw [Array.getElem?_eq_getElem hi]
      simpa using hl.1
    have hl' : all.toList.drop (i + 1) = l := by
      rw [List.drop_eq_getElem_cons (by simpa using hi)] at hl
      simp only [List.cons.injEq] at hl
      exact hl.2
    have okp : ∀ ft, apartAll all (befs.getD i 0) o ft done = true → ∀ p ∈ done, OkP all befs p (i, ft) := by
      intro ft hap p hp
      have := List.all_eq_true.1 hap p hp
      rw [Bool.or_eq_true] at this
      rcases this with h | h
      · exact .inl h
      · split at h
        · rename_i x hx
          rw [Bool.and_eq_true, Bool.or_eq_true] at h
          exact .inr ⟨x, o, hx, ho, h.1, h.2⟩
        · cases h
    unfold aOpsD at h
    dsimp only at h
    split at h
    case isFalse => exact absurd h.symm hR
    rename_i hedge
    have rest : ∀ (ft : Foot) (u : Upd), exE C N G all o s = some (ft, u) → apartAll all (befs.getD i 0) o ft done = true → aOpsD (stdAlg C.pure (noPan G)) C N all befs (i + 1) l ((i, ft) :: done) (u.on o.dst s) kn = R →
        ∃ L s', Runs C N G all L s s' ∧ L.map (·.1) = List.range' i (l.length + 1) ∧ kn s' = R ∧ (∀ p ∈ done, ∀ q ∈ L, OkP all befs p q) ∧ L.Pairwise (OkP all befs) ∧ (∀ j o, i ≤ j → all[j]? = some o → edgesOK j o = true) := by
      intro ft u he hap h
      obtain ⟨L, s', h1, h2, h3, h4, h5, h6⟩ := aOpsD_inv hR l (i + 1) _ _ hl' h
      refine ⟨(i, ft) :: L, s', ⟨o, u, ho, he, h1⟩, by rw [List.map_cons, h2, range_cons], h3, fun p hp q hq => ?_, List.pairwise_cons.2 ⟨fun q hq => h4 (i, ft) List.mem_cons_self q hq, h5⟩, fun j o' hj ho' => ?_⟩
      · rcases List.mem_cons.1 hq with rfl | hq
        · exact okp ft hap p hp
        · exact h4 p (List.mem_cons_of_mem _ hp) q hq
      · rcases Nat.lt_or_ge i j with hlt | hge
        · exact h6 j o' hlt ho'
        · have : j = i := by omega
          subst this
          rw [ho] at ho'
          cases ho'
          exact hedge
    have run : (∀ u ft, exU C N G o s = .upd u → (∀ x, o.op ≠ .panic x) → ft = footOf C N o (insO C o s) ((insO C o s).map (loO s)) u → exE C N G all o s = some (ft, u)) →
        (match o.op with
          | .panic _ => (stdAlg C.pure (noPan G)).stuck
          | _ => opF (stdAlg C.pure (noPan G)) C N o (o.op.operands.toList.map (evO C s)) ((o.op.operands.toList.map (evO C s)).map (loO s)) (s.loc (o.dst.getD 0)) s.h s.hv fun u =>
              if apartAll all (befs.getD i 0) o (footOf C N o (o.op.operands.toList.map (evO C s)) ((o.op.operands.toList.map (evO C s)).map (loO s)) u) done then aOpsD (stdAlg C.pure (noPan G)) C N all befs (i + 1) l ((i, footOf C N o (o.op.operands.toList.map (evO C s)) ((o.op.operands.toList.map (evO C s)).map (loO s)) u) :: done) (u.on o.dst s) kn else (stdAlg C.pure (noPan G)).stuck) = R →
        ∃ L s', Runs C N G all L s s' ∧ L.map (·.1) = List.range' i (l.length + 1) ∧ kn s' = R ∧ (∀ p ∈ done, ∀ q ∈ L, OkP all befs p q) ∧ L.Pairwise (OkP all befs) ∧ (∀ j o, i ≤ j → all[j]? = some o → edgesOK j o = true) := by
      intro hex h
      split at h
      · exact absurd h.symm hR
      · rename_i hnp
        have hp : ∀ x, o.op ≠ .panic x := fun x hx => hnp x hx
        obtain ⟨u, hu, hk⟩ := exU_cases hp hR h
        split at hk
        · rename_i hap
          exact rest _ u (hex u _ hu hp rfl) hap hk
        · exact absurd hk.symm hR
    have exrun : ∀ {u : Upd} {ft : Foot}, exU C N G o s = .upd u → (∀ x, o.op ≠ .panic x) → ft = footOf C N o (insO C o s) ((insO C o s).map (loO s)) u → (match o.op with
        | .panic _ => none
        | _ => match exU C N G o s with
          | .upd u => some (footOf C N o (insO C o s) ((insO C o s).map (loO s)) u, u)
          | _ => none) = some (ft, u) := by
      intro u ft hu hp hft
      split
      · rename_i x hx; exact absurd hx (hp x)
      · rw [hu, hft]
    split at h
    · rename_i hg
      refine run (fun u ft hu hp hft => ?_) h
      unfold exE
      dsimp only
      rw [hg]
      exact exrun hu hp hft
    · rename_i j want hg
      split at h
      · exact absurd h.symm hR
      · rename_i gt hj
        split at h
        · rename_i av he
          obtain ⟨b, rfl, h1⟩ := mB_inv h hR
          have body : ∀ b', b' = b → (if b' = want then (match o.op with
              | .panic _ => (stdAlg C.pure (noPan G)).stuck
              | _ => opF (stdAlg C.pure (noPan G)) C N o (o.op.operands.toList.map (evO C (s.put (some gt) (.v (.B b'))))) ((o.op.operands.toList.map (evO C (s.put (some gt) (.v (.B b'))))).map (loO (s.put (some gt) (.v (.B b'))))) ((s.put (some gt) (.v (.B b'))).loc (o.dst.getD 0)) (s.put (some gt) (.v (.B b'))).h (s.put (some gt) (.v (.B b'))).hv fun u =>
                  if apartAll all (befs.getD i 0) o (footOf C N o (o.op.operands.toList.map (evO C (s.put (some gt) (.v (.B b'))))) ((o.op.operands.toList.map (evO C (s.put (some gt) (.v (.B b'))))).map (loO (s.put (some gt) (.v (.B b'))))) u) done then aOpsD (stdAlg C.pure (noPan G)) C N all befs (i + 1) l ((i, footOf C N o (o.op.operands.toList.map (evO C (s.put (some gt) (.v (.B b'))))) ((o.op.operands.toList.map (evO C (s.put (some gt) (.v (.B b'))))).map (loO (s.put (some gt) (.v (.B b'))))) u) :: done) (u.on o.dst (s.put (some gt) (.v (.B b')))) kn else (stdAlg C.pure (noPan G)).stuck)
              else if apartAll all (befs.getD i 0) o noFoot done then aOpsD (stdAlg C.pure (noPan G)) C N all befs (i + 1) l ((i, noFoot) :: done) ((s.put (some gt) (.v (.B b'))).put o.dst .un) kn else (stdAlg C.pure (noPan G)).stuck) = R →
              ∃ L s', Runs C N G all L s s' ∧ L.map (·.1) = List.range' i (l.length + 1) ∧ kn s' = R ∧ (∀ p ∈ done, ∀ q ∈ L, OkP all befs p q) ∧ L.Pairwise (OkP all befs) ∧ (∀ j o, i ≤ j → all[j]? = some o → edgesOK j o = true) := by
            intro b' hb h9
            subst hb
            rw [put_self he] at h9
            have hex0 : ∀ r, (if b' = want then r else some (noFoot, { dst := some .un })) = (match s.env gt with
                | .v (.B b) => if b = want then r else some (noFoot, ({ dst := some .un } : Upd))
                | .un => some (noFoot, ({ dst := some .un } : Upd))
                | _ => none) := by
              intro r
              rw [he]
            split at h9
            · rename_i hbw
              refine run (fun u ft hu hp hft => ?_) h9
              unfold exE
              dsimp only
              rw [hg]
              simp only
              rw [hj]
              simp only
              rw [he]
              simp only
              rw [if_pos hbw]
              first
                | exact exrun hu hp hft
                | rw [hu, hft]
            · rename_i hbw
              split at h9
              · rename_i hap
                refine rest noFoot { dst := some .un } ?_ hap (by rw [on_skip]; exact h9)
                unfold exE
                dsimp only
                rw [hg]
                simp only
                rw [hj]
                simp only
                rw [he]
                simp only
                rw [if_neg hbw]
              · exact absurd h9.symm hR
          rcases bIte_inv h1 with ⟨hb, h2⟩ | ⟨hb, h2⟩
          · exact body true hb.symm h2
          · exact body false hb.symm h2
        · rename_i he
          split at h
          · rename_i hap
            refine rest noFoot { dst := some .un } ?_ hap (by rw [on_skip]; exact h)
            unfold exE
            dsimp only
            rw [hg]
            simp only
            rw [hj]
            simp only
            rw [he]
          · exact absurd h.symm hR
        · exact absurd h.symm hR
def Listed (all : Array Oper) (D : Nat → Prop) : Prop := ∀ j o, all[j]? = some o → D j → ∀ e ∈ o.after, Region.binds .any e = true → D e.on
def BefInv (l : List Oper) (acc : List Nat) : Prop := ∀ q, q < acc.length → ∀ p, (acc.getD q 0).testBit p = true → ∃ o, l[q]? = some o ∧ ∃ e ∈ o.after, Region.binds .any e = true ∧ (e.on = p ∨ (e.on < q ∧ (acc.getD e.on 0).testBit p = true))
theorem fold_bits {acc : List Nat} {p : Nat} : ∀ (es : List Edge) (m0 : Nat), (es.foldl (fun m e => if Region.binds .any e then m ||| (1 <<< e.on) ||| acc.getD e.on 0 else m) m0).testBit p = true →
    m0.testBit p = true ∨ ∃ e ∈ es, Region.binds .any e = true ∧ (e.on = p ∨ (acc.getD e.on 0).testBit p = true)
  | [], m0, h => .inl h
  | e :: es, m0, h => by
    simp only [List.foldl_cons] at h
    rcases fold_bits es _ h with h1 | ⟨e', he', hb, hr⟩
    · split at h1
      · rename_i hb
        rw [Nat.testBit_or, Nat.testBit_or] at h1
        simp only [Bool.or_eq_true] at h1
        rcases h1 with (h1 | h1) | h1
        · exact .inl h1
        · refine .inr ⟨e, List.mem_cons_self, hb, .inl ?_⟩
          rw [Nat.one_shiftLeft, Nat.testBit_two_pow] at h1
          simpa using h1
        · exact .inr ⟨e, List.mem_cons_self, hb, .inr h1⟩
      · exact .inl h1
    · exact .inr ⟨e', List.mem_cons_of_mem _ he', hb, hr⟩
theorem befores_inv (l : List Oper) : ∀ (r : List Oper) (acc : List Nat), l.drop acc.length = r → acc.length ≤ l.length → BefInv l acc → BefInv l (befores r acc)
  | [], acc, _, _, h => h
  | o :: r, acc, hl, hle, h => by
    have hlt : acc.length < l.length := by
      rcases Nat.lt_or_ge acc.length l.length with h | h
      · exact h
      · rw [List.drop_eq_nil_iff.2 h] at hl; cases hl
    have ho : l[acc.length]? = some o := by
      rw [List.drop_eq_getElem_cons hlt] at hl
      simp only [List.cons.injEq] at hl
      rw [List.getElem?_eq_getElem hlt, hl.1]
    simp only [befores]
    have hdr : l.drop (acc.length + 1) = r := by
      rw [List.drop_eq_getElem_cons hlt] at hl
      simp only [List.cons.injEq] at hl
      exact hl.2
    refine befores_inv l r _ (by simpa using hdr) (by simp; omega) fun q hq p hp => ?_
    rcases Nat.lt_or_ge q acc.length with hq' | hq'
    · have e1 : (acc ++ [o.after.toList.foldl (fun m e => if Region.binds .any e then m ||| (1 <<< e.on) ||| acc.getD e.on 0 else m) 0]).getD q 0 = acc.getD q 0 := by
        simp [List.getD_eq_getElem?_getD, List.getElem?_append_left hq']
      rw [e1] at hp
      obtain ⟨o', ho', e, he, hb, hr⟩ := h q hq' p hp
      refine ⟨o', ho', e, he, hb, hr.imp id fun hr => ⟨hr.1, ?_⟩⟩
      rw [List.getD_eq_getElem?_getD, List.getElem?_append_left (by omega), ← List.getD_eq_getElem?_getD]
      exact hr.2
    · have hqe : q = acc.length := by simp at hq; omega
      subst hqe
      rw [List.getD_eq_getElem?_getD, List.getElem?_append_right (Nat.le_refl _)] at hp
      simp only [Nat.sub_self, List.getElem?_cons_zero, Option.getD_some] at hp
      rcases fold_bits _ _ hp with h0 | ⟨e, he, hb, hr⟩
      · simp at h0
      · refine ⟨o, ho, e, by simpa using he, hb, hr.imp id fun hr => ?_⟩
        have hlt2 : e.on < acc.length := by
          rcases Nat.lt_or_ge e.on acc.length with h | h
          · exact h
          · rw [List.getD_eq_getElem?_getD, List.getElem?_eq_none h] at hr
            simp at hr
        refine ⟨hlt2, ?_⟩
        rw [List.getD_eq_getElem?_getD, List.getElem?_append_left hlt2, ← List.getD_eq_getElem?_getD]
        exact hr
theorem before_listed {all : Array Oper} {D : Nat → Prop} (hD : Listed all D) : ∀ (q p : Nat), ((befores all.toList []).getD q 0).testBit p = true → (∀ o, all[q]? = some o → ∀ e ∈ o.after, Region.binds .any e = true → D e.on) → D p := by
  have hinv := befores_inv all.toList all.toList [] rfl (Nat.zero_le _) (fun q hq => by simp at hq)
  intro q
  induction q using Nat.strongRecOn with
  | _ q ih =>
    intro p hp hq
    have hlt : q < (befores all.toList []).length := by
      rcases Nat.lt_or_ge q (befores all.toList []).length with h | h
      · exact h
      · rw [List.getD_eq_getElem?_getD, List.getElem?_eq_none h] at hp
        simp at hp
    obtain ⟨o, ho, e, he, hb, hr⟩ := hinv q hlt p hp
    have ho' : all[q]? = some o := by rw [← Array.getElem?_toList]; exact ho
    have hDe := hq o ho' e he hb
    rcases hr with rfl | ⟨h1, h2⟩
    · exact hDe
    · exact ih e.on h1 p h2 fun o2 ho2 e2 he2 hb2 => hD e.on o2 ho2 hDe e2 he2 hb2
theorem Rel.drew {g : Gh} {w : World} {f : Fr} {s : St} {a : Act} (r : Rel C nt g0 w0 g w f s a) : Rel C nt g0 w0 g { w with drawn := w.drawn + 1 } f s a := by
  have hch : Chg (fun _ => False) g w g { w with drawn := w.drawn + 1 } :=
    ⟨⟨Nat.le_refl _, fun _ _ => rfl, fun _ _ h => h, fun _ _ _ => rfl⟩, Nat.le_refl _, fun _ _ _ => rfl, fun _ _ _ => rfl, fun _ _ _ _ h => h, rfl, rfl, rfl⟩
  obtain ⟨c1, s1⟩ := r.core.quiet hch rfl r.core.wf
  refine ⟨r.ext.trans s1.chg fun b hb hB hn => hB ((r.ext.ow b hb (fun x => x hn)).trans hn), c1, fun t => (r.env t).stp r.core.heap.len s1, fun gi cs hg => GV.later hch.later gi cs (r.glob gi cs hg), r.dfr.chg s1.chg (fun _ h => h), r.sz, r.fixed⟩
theorem exE_step {ro : Option Nat} {m : Nat} {all : Array Oper} (hC : OkC C) (hG : ∀ j, Sound C j (G j)) {o : Oper} {i : Nat} (ho : all[i]? = some o) (hd : ∀ x, o.dst = some x → nt.ok x) {Q : Exit → Act → World → Prop} {K : Act → World → Prop} {g : Gh} {w : World} {f : Fr} {s : St} {a : Act} {ft : Foot} {u : Upd}
    (r : Rel C nt g0 w0 g w f s a) (he : exE C N G all o s = some (ft, u)) (hK : ∀ g' w' f' a', Rel C nt g0 w0 g' w' f' (u.on o.dst s) a' → K a' w') : wpOpIn (FR ro) m C.P all Q i K a w := by
  have run : (match o.op with
      | .panic _ => none
      | _ => match exU C N G o s with
        | .upd u => some (footOf C N o (insO C o s) ((insO C o s).map (loO s)) u, u)
        | _ => none) = some (ft, u) → o.wpIn (FR ro) m C.P a w K Q := by
    intro h
    split at h
    · cases h
    · split at h
      · rename_i u' hu
        cases h
        have := OpS.all (N := N) hC r hd (R := .upd u) (by simp) (fun j => (hG j).noPan) (o := o) (K := Res.upd) hu
        exact opIn (opH_nodefer (N := N) (R := .upd u) (by simp) hu) (this K Q (fun u2 g' w' f' a' hk hrel => by cases hk; exact hK g' w' f' a' hrel) (fun v h' u g' w' e => by cases e))
      · cases h
  unfold wpOpIn
  rw [ho]
  simp only
  unfold exE at he
  dsimp only at he
  cases hg : o.guard with
  | none =>
    rw [hg] at he
    rw [if_pos (by simp [Region.wanted, hg])]
    exact run he
  | some jw =>
    obtain ⟨j, want⟩ := jw
    rw [hg] at he
    simp only at he
    cases hj : (all[j]?).bind (·.dst) with
    | none => rw [hj] at he; cases he
    | some gt =>
      rw [hj] at he
      simp only at he
      split at he
      · rename_i b hb
        have hy := r.yields hj hb
        have hw : Region.wanted o (yielded all a.tmps) = (b == want) := by
          simp only [Region.wanted, hg, hy]
          cases b <;> cases want <;> rfl
        rw [hw]
        split at he
        · rename_i hbw
          rw [if_pos (by simp [hbw])]
          exact run he
        · rename_i hbw
          cases he
          rw [if_neg (by simpa using hbw)]
          rw [on_skip] at hK
          exact ⟨fun _ _ => trivial, hK g w f _ (r.putUn o.dst hd)⟩
      · rename_i hb
        have hy := r.yields_un hj hb
        have hw : Region.wanted o (yielded all a.tmps) = false := by
          simp only [Region.wanted, hg, hy]
          rfl
        cases he
        rw [hw]
        rw [on_skip] at hK
        exact ⟨fun _ _ => trivial, hK g w f _ (r.putUn o.dst hd)⟩
      · cases he
theorem draws_sound {ro : Option Nat} {m : Nat} (hC : OkC C) (hG : ∀ j, Sound C j (G j)) {all : Array Oper} (hdst : dstOK nt all = true) (hedge : ∀ j o, all[j]? = some o → edgesOK j o = true) {Q : Exit → Act → World → Prop} {sn : St} (hQ : ∀ g w f a, Rel C nt g0 w0 g w f sn a → Q .normal a w) :
    ∀ (n : Nat) (L : List (Nat × Foot)) (listed : Array Bool) (g : Gh) (w : World) (f : Fr) (s : St) (a : Act), L.length = n → Rel C nt g0 w0 g w f s a → Runs C N G all L s sn → L.Pairwise (OkP all (befores all.toList [])) →
      (L.map (·.1)).Sublist (List.range all.size) → listed.size = all.size → (∀ i, i < all.size → (listed.getD i true = false ↔ i ∈ L.map (·.1))) → Listed all (fun i => listed.getD i false = true) →
      wpAnyIn (FR ro) m C.P .any all Q n listed a w := by
  intro n
  induction n with
  | zero =>
    intro L listed g w f s a hn r hr _ _ hsz hun _
    have : L = [] := List.eq_nil_of_length_eq_zero hn
    subst this
    simp only [Runs] at hr
    subst hr
    refine ⟨?_, hQ g w f a r⟩
    refine List.eq_nil_iff_forall_not_mem.2 fun i hi => ?_
    obtain ⟨h1, oi, hoi, _⟩ := mem_ready.1 hi
    have hlt := (Array.getElem?_eq_some_iff.1 hoi).1
    have := (hun i hlt).1 h1
    simp at this
  | succ n ih =>
    intro L listed g w f s a hn r hr hpw hsub hsz hun hcl
    have getD_same : ∀ i, i < all.size → listed.getD i true = listed.getD i false := by
      intro i hi
      simp [Array.getD_eq_getD_getElem?, Array.getElem?_eq_getElem (show i < listed.size by omega)]
    refine ⟨fun hnil => ?_, fun i hi => ?_⟩
    ·
      exfalso
      cases L with
      | nil => simp at hn
      | cons p L' =>
        obtain ⟨o, u, ho, he, hr'⟩ := hr
        have hlt := (Array.getElem?_eq_some_iff.1 ho).1
        have hmem : p.1 ∈ Region.ready .any all listed := by
          refine mem_ready.2 ⟨(hun p.1 hlt).2 (by simp), o, ho, fun e hee hb => ?_⟩
          have he1 := hedge p.1 o ho
          have he2 := List.all_eq_true.1 he1 e (by simpa using hee)
          rw [hb] at he2
          have hlt2 : e.on < p.1 := by simpa using he2
          cases hl : listed.getD e.on false with
          | true => rfl
          | false =>
            have hin := (hun e.on (by omega)).1 (by rw [getD_same e.on (by omega)]; exact hl)
            have hsorted : ((p :: L').map (·.1)).Pairwise (· < ·) := List.pairwise_lt_range.sublist hsub
            simp only [List.map_cons, List.mem_cons] at hin
            rcases hin with hin | hin
            · have hin' : e.on = p.1 := hin
              omega
            · have h5 : p.1 < e.on := (List.pairwise_cons.1 hsorted).1 e.on hin
              omega
        rw [hnil] at hmem
        cases hmem
    · obtain ⟨h1, oi, hoi, hall⟩ := mem_ready.1 hi
      have hlt := (Array.getElem?_eq_some_iff.1 hoi).1
      have hin := (hun i hlt).1 h1
      obtain ⟨p, hp, rfl⟩ := List.mem_map.1 hin
      obtain ⟨xs, ys, rfl⟩ := List.append_of_mem hp
      have hfree : ∀ x ∈ xs, Free all x p := by
        intro x hx
        have hok := (List.pairwise_append.1 hpw).2.2 x hx p List.mem_cons_self
        rcases hok with hb | hf
        · exfalso
          have hD := before_listed hcl p.1 x.1 hb fun o ho e he hbd => by
            rw [hoi] at ho
            cases ho
            exact hall e he hbd
          have hxin : x.1 ∈ (xs ++ p :: ys).map (·.1) := List.mem_map.2 ⟨x, by simp [hx], rfl⟩
          have hxlt : x.1 < all.size := by
            have := hsub.subset hxin
            simpa using this
          have := (hun x.1 hxlt).2 hxin
          rw [getD_same _ hxlt] at this
          rw [this] at hD
          cases hD
        · exact hf
      obtain ⟨o, u, ho, he, hr'⟩ := Runs.bubble xs hfree hr
      rw [hoi] at ho
      cases ho
      have hnodup : ((xs ++ p :: ys).map (·.1)).Nodup := List.nodup_range.sublist hsub
      refine exE_step hC hG hoi (dstOK_get hdst hoi) r he fun g' w' f' a' r' => ?_
      have hsubl : (xs ++ ys).Sublist (xs ++ p :: ys) := List.Sublist.append (List.Sublist.refl _) (List.sublist_cons_self _ _)
      refine ih (xs ++ ys) _ g' w' f' _ a' (by simp at hn ⊢; omega) r' hr' (hpw.sublist hsubl) ((hsubl.map _).trans hsub) (by simpa using hsz) (fun j hj => ?_) (fun j oj hoj hl e hee hb => ?_)
      · have hmem : j ∈ (xs ++ p :: ys).map (·.1) ↔ j = p.1 ∨ j ∈ (xs ++ ys).map (·.1) := by
          simp only [List.map_append, List.map_cons, List.mem_append, List.mem_cons]
          constructor
          · rintro (h | h | h)
            · exact .inr (.inl h)
            · exact .inl h
            · exact .inr (.inr h)
          · rintro (h | h | h)
            · exact .inr (.inl h)
            · exact .inl h
            · exact .inr (.inr h)
        have hnot : p.1 ∉ (xs ++ ys).map (·.1) := by
          simp only [List.map_append, List.map_cons] at hnodup ⊢
          have h3 := List.nodup_append.1 hnodup
          intro hm
          rcases List.mem_append.1 hm with hm | hm
          · exact h3.2.2 p.1 hm p.1 List.mem_cons_self rfl
          · exact (List.nodup_cons.1 h3.2.1).1 hm
        by_cases e : p.1 = j
        · subst e
          have : (listed.setIfInBounds p.1 true).getD p.1 true = true := by
            simp [Array.getD_eq_getD_getElem?, hsz, hj]
          rw [this]
          exact ⟨fun h => (by cases h), fun h => absurd h hnot⟩
        · have : (listed.setIfInBounds p.1 true).getD j true = listed.getD j true := by
            simp [Array.getD_eq_getD_getElem?, Array.getElem?_setIfInBounds_ne e]
          rw [this, hun j hj, hmem]
          exact ⟨fun h => h.resolve_left fun h => e h.symm, .inr⟩
      · have keep : ∀ k, listed.getD k false = true → (listed.setIfInBounds p.1 true).getD k false = true := by
          intro k hk
          by_cases e : p.1 = k
          · subst e
            simp [Array.getD_eq_getD_getElem?, hsz, hlt]
          · simpa [Array.getD_eq_getD_getElem?, Array.getElem?_setIfInBounds_ne e] using hk
        by_cases e2 : p.1 = j
        · subst e2
          rw [hoi] at hoj
          cases hoj
          exact keep _ (hall e hee hb)
        · refine keep _ (hcl j oj hoj ?_ e hee hb)
          simpa [Array.getD_eq_getD_getElem?, Array.getElem?_setIfInBounds_ne e2] using hl
end
end Go.Vm
namespace Go.Vm
open Go
section
variable {C : Cx} {N : Ann} {nt : NT} {g0 g : Gh} {w0 w : World} {f : Fr} {s : St} {a : Act}
theorem put_chg {L : Nat} {o o' : Obj} (h : w.heap[L]? = some o) (ho : ncell o = true) (ho' : ncell o' = true) : Chg (· = L) g w g (w.putObj L o') := by
  have hlt : L < w.heap.size := (Array.getElem?_eq_some_iff.1 h).1
  refine ⟨⟨Nat.le_refl _, fun _ _ => rfl, fun _ _ h => h, fun b i _ => put_later h ho ho' b i⟩, by simp, fun b _ hn => World.putObj_heap_other hn, fun _ _ _ => rfl, fun _ _ _ _ h => h, rfl, rfl, rfl⟩
def Gh.only (g : Gh) (n : Nat) : Gh := { g with ow := fun b => if b < n then g.ow b else none }
theorem alloc_chg (hwf : ∀ b i, g.st b i → b < w.heap.size) (o1 o2 : Obj) : Chg (fun _ => False) g w (g.only w.heap.size) ((w.alloc o1).alloc o2) := by
  have hh : ∀ b, b < w.heap.size → ((w.alloc o1).alloc o2).heap[b]? = w.heap[b]? := fun b hb => by
    show ((w.heap.push o1).push o2)[b]? = _
    rw [Array.getElem?_push_lt (by simp; omega), Array.getElem_push_lt (by omega)]
    simp [hb]
  refine ⟨⟨Nat.le_refl _, fun _ _ => rfl, fun _ _ h => h, fun b i hx => ?_⟩, by simp; omega, fun b hb _ => hh b hb, fun b hb _ => by simp [Gh.only, hb], fun _ _ _ _ h => h, rfl, rfl, rfl⟩
  · simp only [World.cell?, hh b (hwf b i hx)]
theorem grown_chg {g : Gh} {w w' : World} (hwf : ∀ b i, g.st b i → b < w.heap.size) (hs : w.heap.size ≤ w'.heap.size) (hh : ∀ b, b < w.heap.size → w'.heap[b]? = w.heap[b]?) (h1 : w'.os = w.os) (h2 : w'.tape = w.tape) (h3 : w'.output = w.output) : Chg (fun _ => False) g w (g.only w.heap.size) w' := by
  refine ⟨⟨Nat.le_refl _, fun _ _ => rfl, fun _ _ h => h, fun b i hx => ?_⟩, hs, fun b hb _ => hh b hb, fun b hb _ => by simp [Gh.only, hb], fun _ _ _ _ h => h, h1, h2, h3⟩
  · simp only [World.cell?, hh b (hwf b i hx)]
theorem Rel.quietB {B : Nat → Prop} {g2 : Gh} {w' : World} (r : Rel C nt g0 w0 g w f s a) (hmk : nt.mks = false) (hch : Chg B g w g2 w') (hn : g2.n = g.n) (hB : ∀ b, B b → g.ow b = none ∧ w0.heap.size ≤ b) (hwf : ∀ b i, g2.st b i → b < w'.heap.size) :
    Rel C nt g0 w0 g2 w' f s a := by
  have hcell : ∀ b, b < w.heap.size → g.ow b ≠ none → ∀ i, w'.cell? ⟨b, i, none⟩ = w.cell? ⟨b, i, none⟩ := fun b hb ho i => by
    have := hch.blk b hb fun hx => ho (hB b hx).1
    simp only [World.cell?, this]
  refine ⟨r.ext.trans hch fun b hb hx hn => ?_, ⟨r.core.heap.chg hch hn fun b hx o _ => by rw [(hB b hx).1]; simp, fun k => (r.core.loc k).chg hch fun b hx o _ => by rw [(hB b hx).1]; simp, hwf⟩,
    fun t => VE.stpL r.core.heap.len hch.later (fun k => SiteStp.same rfl rfl rfl fun mm cs hb j => ?_) (fun id => .keep rfl rfl fun cs hid j => ?_) (r.env t), fun gi cs hg => GV.later hch.later gi cs (r.glob gi cs hg), ?_, r.sz, r.fixed⟩
  · have := (hB b hx).2
    omega
  · have hl := r.core.loc k
    unfold LR at hl
    rw [hb] at hl
    exact hcell _ hl.lt (by rw [hl.ow]; simp) j
  · have hb := r.core.heap.obj id cs hid
    exact hcell _ hb.lt (by rw [hb.ow]; simp) j
  · have := r.dfr
    rw [hmk] at this ⊢
    exact this
theorem Rel.base (r : Rel C nt g0 w0 g w f s a) (hmk : nt.mks = false) : Rel C nt { g with df := g0.df } w g w f s a := by
  have h := Chg.refl (fun b => g.ow b ≠ none) g w
  refine ⟨⟨⟨h.later.n, h.later.ix, h.later.st, h.later.cell⟩, h.size, h.blk, h.ow, h.st, h.os, h.tape, h.out⟩, r.core, r.env, r.glob, ?_, r.sz, r.fixed⟩
  have := r.dfr
  rw [hmk] at this ⊢
  exact this
theorem Rel.since {g' : Gh} {w' : World} {f' : Fr} {s' : St} {a' : Act} (r : Rel C nt { g with df := g0.df } w g' w' f' s' a') : Chg (fun b => g.ow b ≠ none) g w g' w' :=
  have h := r.ext
  ⟨⟨h.later.n, h.later.ix, h.later.st, h.later.cell⟩, h.size, h.blk, h.ow, h.st, h.os, h.tape, h.out⟩
theorem Rel.unbase {g' : Gh} {w' : World} {f' : Fr} {s' : St} {a' : Act} (h0 : Chg (fun b => g0.ow b ≠ none) g0 w0 g w) (hmk : nt.mks = false) (r : Rel C nt { g with df := g0.df } w g' w' f' s' a') : Rel C nt g0 w0 g' w' f' s' a' := by
  refine ⟨h0.trans r.since fun b hb hB hn => hB ((h0.ow b hb (fun x => x hn)).trans hn), r.core, r.env, r.glob, ?_, r.sz, r.fixed⟩
  have := r.dfr
  rw [hmk] at this ⊢
  exact this
def NT.rnd (nt : NT) (fixl : List Nat) (a : Act) : NT := { n := nt.n, fix := fixl, val := fun t => a.tmps.getD t undef, mks := false }
theorem Rel.inner (r : Rel C nt g0 w0 g w f s a) (fixl : List Nat) : Rel C (nt.rnd fixl a) { g0 with df := [] } w0 g w f (s.keep fixl) { tmps := a.tmps, defers := [] } := by
  have h := r.ext
  refine ⟨⟨⟨h.later.n, h.later.ix, h.later.st, h.later.cell⟩, h.size, h.blk, h.ow, h.st, h.os, h.tape, h.out⟩, ⟨r.core.heap, r.core.loc, r.core.wf⟩, fun t => ?_, r.glob, rfl, r.sz, fun _ _ => rfl⟩
  show VE g w f (s.keep fixl) (bif fixl.any (Nat.beq t) then s.env t else .v .U) _
  cases fixl.any (Nat.beq t) with
  | true => exact (r.env t).env_irrel rfl rfl rfl
  | false => trivial
theorem Rel.roundEnd {fixl : List Nat} {a2 : Act} {g0 : Gh} (r : Rel C (nt.rnd fixl a) g0 w0 g w f s a2) (h0 : g0.df = []) (hsz : nt.n ≤ a.tmps.size) : Rel C (nt.rnd fixl a) g0 w0 g w f (s.keep fixl) { tmps := a.tmps, defers := [] } := by
  refine ⟨r.ext, ⟨r.core.heap, r.core.loc, r.core.wf⟩, fun t => ?_, r.glob, h0.symm, hsz, fun _ _ => rfl⟩
  show VE g w f (s.keep fixl) (bif fixl.any (Nat.beq t) then s.env t else .v .U) _
  cases h : fixl.any (Nat.beq t) with
  | true =>
    have := r.fixed t h
    have hv := r.env t
    rw [this] at hv
    exact hv.env_irrel rfl rfl rfl
  | false => trivial
def Act.puts : List (Nat × Value) → Act → Act
  | [], a => a
  | (p, v) :: r, a => Act.puts r (a.put (some p) v)
theorem puts_tmps : ∀ (l : List (Nat × Value)) (a : Act), (Act.puts l a) = { tmps := l.foldl (fun t (p, v) => t.setIfInBounds p v) a.tmps, defers := a.defers }
  | [], a => rfl
  | (p, v) :: l, a => by
    simp only [Act.puts, List.foldl_cons]
    rw [puts_tmps l]
    rfl
theorem Rel.puts : ∀ (ps : List Nat) (x : List AV) (xv : List Value) (s : St) (a : Act), (∀ p ∈ ps, nt.ok p) → VT g w x xv → Rel C nt g0 w0 g w f s a → Rel C nt g0 w0 g w f (St.puts (ps.zip x) s) (Act.puts (ps.zip xv) a)
  | [], _, _, s, a, _, _, r => r
  | p :: ps, [], xv, s, a, hp, hv, r => by
    simp only [VT] at hv
    subst hv
    exact r
  | p :: ps, x :: xs, xv, s, a, hp, hv, r => by
    simp only [VT] at hv
    obtain ⟨u, us, rfl, h1, h2⟩ := hv
    simp only [List.zip_cons_cons, St.puts, Act.puts]
    exact Rel.puts ps xs us _ _ (fun q hq => hp q (List.mem_cons_of_mem _ hq)) h2 (r.val (d := some p) (e := .v x) (fun q hq => by cases hq; exact hp p List.mem_cons_self) h1)
structure Bk (w0 : World) (g1 : Gh) (W1 : World) (L : Nat) (Ds : List Nat) (o : Obj) (g : Gh) (w : World) : Prop where
  here : w.heap[L]? = some o
  nc : ncell o = true
  ow : g.ow L = none
  st : ∀ i, ¬ g.st L i
  coll : ∀ D ∈ Ds, Coll w0 g w D
  later : Later g1 W1 g w
theorem Bk.chg {g1 g' : Gh} {W1 w' : World} {L : Nat} {Ds : List Nat} {o : Obj} (h : Bk w0 g1 W1 L Ds o g w) (hch : Chg (fun b => g.ow b ≠ none) g w g' w') : Bk w0 g1 W1 L Ds o g' w' := by
  have hlt : L < w.heap.size := (Array.getElem?_eq_some_iff.1 h.here).1
  have hn : ¬ g.ow L ≠ none := fun x => x h.ow
  exact ⟨(hch.blk L hlt hn).trans h.here, h.nc, (hch.ow L hlt hn).trans h.ow, fun i x => h.st i (hch.st L i hlt hn x), fun D hD => (h.coll D hD).chg hch fun _ x => x, h.later.trans hch.later⟩
theorem Bk.put {g1 : Gh} {W1 : World} {L : Nat} {Ds : List Nat} {o o' : Obj} (h : Bk w0 g1 W1 L Ds o g w) (hL : L ∉ Ds) (ho' : ncell o' = true) : Bk w0 g1 W1 L Ds o' g (w.putObj L o') := by
  have hlt : L < w.heap.size := (Array.getElem?_eq_some_iff.1 h.here).1
  have hch := put_chg (g := g) h.here h.nc ho'
  refine ⟨World.putObj_heap_same hlt, ho', h.ow, h.st, fun D hD => ?_, h.later.trans hch.later⟩
  obtain ⟨c1, c2, c3, c4⟩ := h.coll D hD
  exact ⟨c1, by rw [World.putObj_heap_other (fun e => hL (by rw [← e]; exact hD))]; exact c2, c3, c4⟩
theorem Rel.putRec {g1 : Gh} {W1 : World} {L : Nat} {Ds : List Nat} {o : Obj} (r : Rel C nt g0 w0 g w f s a) (hmk : nt.mks = false) (h : Bk w0 g1 W1 L Ds o g w) (hw : w0.heap.size ≤ L) {o' : Obj} (ho' : ncell o' = true) : Rel C nt g0 w0 g (w.putObj L o') f s a :=
  r.quietB hmk (put_chg h.here h.nc ho') rfl (fun b e => by cases e; exact ⟨h.ow, hw⟩) fun b i x => by simpa using r.core.wf b i x
theorem noPan_noPan (G : FuncId → List AV → List HO → Res) : noPan (noPan G) = noPan G := by
  funext j as h
  show noPan1 (noPan1 (G j)) as h = noPan1 (G j) as h
  unfold noPan1
  cases G j as h <;> rfl
end
end Go.Vm
namespace Go.Vm
open Go
theorem stepR_scope {P : Program} {b : Frame} {a : Act} {k : List Item} {cs : List Frame} {w : World} {c : Code} : step P (lone (b.atR a (.code (.scope c) :: k)) cs w) = .next (lone (b.atR a (.code c :: .inScope c :: k)) cs w) :=
  step_lone_go (by simp [stepG, stepG.exec, Frame.atR])
theorem stepR_inScope {P : Program} {b : Frame} {a : Act} {k : List Item} {cs : List Frame} {w : World} {c : Code} : step P (lone (b.atR a (.inScope c :: k)) cs w) = .next (lone (b.atR a k) cs w) :=
  step_lone_go (by simp [stepG, stepG.exec, Frame.atR])
theorem wpIn_scope_straight {F : Fence} {n : Nat} {P : Program} {Q : Exit → Act → World → Prop} {a : Act} {w : World} {c : Code} (h : c.wpIn F n P (Exit.noGoto Q) a w) : (Code.scope c).wpIn F n P Q a w := by
  intro b k cs hro hb hr
  have h0 : (lone (b.atR a (.code (.scope c) :: k)) cs w).fenced P F := fenced_calm hb hr rfl
  obtain ⟨e, a₁, w₁, hq, harr⟩ := h b (.inScope c :: k) cs hro hb hr
  cases e with
  | normal => exact ⟨.normal, a₁, w₁, hq, .head h0 stepR_scope (StepsIn.trans harr (.one (fenced_calm hb hr rfl) stepR_inScope))⟩
  | exit id =>
    have hx : exitTo id (.inScope c :: k) = exitTo id k := by simp [exitTo]
    exact ⟨.exit id, a₁, w₁, hq, fun k' hk => .head h0 stepR_scope (harr.1 k' (by rw [hx]; exact hk)),
      fun hr' hk => let ⟨k₁, h1, h2⟩ := harr.2 hr' (by rw [hx]; exact hk); ⟨k₁, h1, .head h0 stepR_scope h2⟩⟩
  | goto l => exact hq.elim
  | ret => exact ⟨_, a₁, w₁, hq, .of_steps (.one h0 stepR_scope) harr⟩
  | panic ch => exact ⟨_, a₁, w₁, hq, .of_steps (.one h0 stepR_scope) harr⟩
  | outgrown => exact ⟨_, a₁, w₁, hq, .of_steps (.one h0 stepR_scope) harr⟩
section
variable {C : Cx} {N : Ann} {G : FuncId → List AV → List HO → Res} {nt : NT} {g0 : Gh} {w0 : World} {R : Res}
theorem getD_replicate_falseV (m j : Nat) : (Array.replicate m false).getD j false = false := by
  rcases Nat.lt_or_ge j m with h | h <;> simp [Array.getD_eq_getD_getElem?, Array.getElem?_replicate, h]
def codeOK (nt : NT) : Code → Bool
  | .region _ ops _ => dstOK nt ops
  | .seq a b => codeOK nt a && codeOK nt b
  | .cond _ a b => codeOK nt a && codeOK nt b
  | .block _ b => codeOK nt b
  | .loop b => codeOK nt b
  | .scope b => codeOK nt b
  | .rangeFunc _ ps a b => nt.mks && (ps.toList.all fun p => Nat.blt p nt.n) && codeOK nt a && codeOK nt b
  | _ => true
def noRF : Code → Bool
  | .seq a b => noRF a && noRF b
  | .cond _ a b => noRF a && noRF b
  | .block _ b => noRF b
  | .loop b => noRF b
  | .scope b => noRF b
  | .rangeFunc .. => false
  | _ => true
theorem offOK_noRF {fixl : List Nat} : ∀ (c : Code), offOK fixl c = true → noRF c = true
  | .skip, _ | .region _ _ _, _ | .exit _, _ | .ret, _ | .label _, _ | .goto _, _ | .refuse _, _ => rfl
  | .seq a b, h => by simp only [offOK, noRF, Bool.and_eq_true] at h ⊢; exact ⟨offOK_noRF a h.1, offOK_noRF b h.2⟩
  | .cond c a b, h => by simp only [offOK, noRF, Bool.and_eq_true] at h ⊢; exact ⟨offOK_noRF a h.1, offOK_noRF b h.2⟩
  | .block _ b, h => by simp only [offOK, noRF] at h ⊢; exact offOK_noRF b h
  | .loop b, h => by simp only [offOK, noRF] at h ⊢; exact offOK_noRF b h
  | .scope b, h => by simp only [offOK, noRF] at h ⊢; exact offOK_noRF b h
  | .rangeFunc _ _ _ _, h => by simp [offOK] at h
theorem codeOK_rnd {fixl : List Nat} {a : Act} : ∀ (c : Code), codeOK nt c = true → offOK fixl c = true → codeOK (nt.rnd fixl a) c = true
  | .skip, _, _ | .exit _, _, _ | .ret, _, _ | .label _, _, _ | .goto _, _, _ | .refuse _, _, _ => rfl
  | .region _ ops _, h, h' => by
    simp only [codeOK, offOK, dstOK, List.all_eq_true] at h h' ⊢
    intro o ho
    have h1 := h o ho
    have h2 := h' o ho
    cases e : o.dst with
    | none => rfl
    | some d =>
      rw [e] at h1 h2
      simp only [Bool.and_eq_true] at h1 ⊢
      exact ⟨h1.1, h2⟩
  | .seq x y, h, h' => by simp only [codeOK, offOK, Bool.and_eq_true] at h h' ⊢; exact ⟨codeOK_rnd x h.1 h'.1, codeOK_rnd y h.2 h'.2⟩
  | .cond c x y, h, h' => by simp only [codeOK, offOK, Bool.and_eq_true] at h h' ⊢; exact ⟨codeOK_rnd x h.1 h'.1, codeOK_rnd y h.2 h'.2⟩
  | .block _ b, h, h' => by simp only [codeOK, offOK] at h h' ⊢; exact codeOK_rnd b h h'
  | .loop b, h, h' => by simp only [codeOK, offOK] at h h' ⊢; exact codeOK_rnd b h h'
  | .scope b, h, h' => by simp only [codeOK, offOK] at h h' ⊢; exact codeOK_rnd b h h'
  | .rangeFunc _ _ _ _, _, h' => by simp [offOK] at h'
theorem PanAll.then {Q : Exit → Act → World → Prop} {K : Act → World → Prop} (h : PanAll nt g0 w0 Q R) : PanAll nt g0 w0 (Exit.then K Q) R := h
theorem PanAll.inBlock {Q : Exit → Act → World → Prop} {id : Nat} (h : PanAll nt g0 w0 Q R) : PanAll nt g0 w0 (Exit.inBlock id Q) R := h
theorem PanAll.noGoto {Q : Exit → Act → World → Prop} (h : PanAll nt g0 w0 Q R) : PanAll nt g0 w0 (Exit.noGoto Q) R := h
def CodeS (C : Cx) (N : Ann) (ro : Option Nat) (c : Code) : Prop :=
  ∀ {G : FuncId → List AV → List HO → Res} {nt : NT} {g0 : Gh} {w0 : World} {R : Res}, OkC C → R ≠ .stuck → (∀ j, Sound C j (G j)) → codeOK nt c = true → (ro = none ∨ noRF c = true) → (nt.mks = false ∨ ∀ v h, R ≠ .pan v h) →
    ∀ {kn : St → Res} {kx : Nat → St → Res} {kr : St → Res} {Q : Exit → Act → World → Prop},
    (∀ g w f s a, Rel C nt g0 w0 g w f s a → kn s = R → Q .normal a w) → (∀ id g w f s a, Rel C nt g0 w0 g w f s a → kx id s = R → Q (.exit id) a w) → (∀ g w f s a, Rel C nt g0 w0 g w f s a → kr s = R → Q .ret a w) → PanAll nt g0 w0 Q R →
    ∀ g w f s a, Rel C nt g0 w0 g w f s a → aC C N (stdAlg C.pure (noPan G)) (stdAlg C.pure G) c kn kx kr s = R → c.wpIn (FR ro) 0 C.P Q a w
theorem range_sound {g0p : Operand} {ps : Array Nat} {asg bod : Code} (iha : ∀ ro, CodeS C N ro asg) (ihb : ∀ ro, CodeS C N ro bod) : CodeS C N none (.rangeFunc g0p ps asg bod) := by
  intro G nt g0 w0 R hC hR hG hok _ hpan kn kx kr Q hn hx hr hp g w f s a r h
  have hok : (nt.mks && (ps.toList.all fun p => Nat.blt p nt.n) && codeOK nt asg && codeOK nt bod) = true := hok
  simp only [Bool.and_eq_true] at hok
  obtain ⟨⟨⟨hmk, hps⟩, hoka⟩, hokb⟩ := hok
  have hnp : ∀ v h, R ≠ .pan v h := hpan.resolve_left (by rw [hmk]; simp)
  simp only [aC] at h
  split at h
  case h_2 => exact absurd h.symm hR
  rename_i v hev
  have h' : mF v _ = R := h
  obtain ⟨fnv, fs, caps, rfl, h1⟩ := mF_inv h' hR
  split at h1
  case h_2 => exact absurd h1.symm hR
  rename_i gf
  split at h1
  case h_2 => exact absurd h1.symm hR
  rename_i xs hit
  split at h1
  case isFalse => exact absurd h1.symm hR
  rename_i hrf
  obtain ⟨fixl, hfixl⟩ : ∃ fixl, fixl = N.rfix ((headId asg).getD 0) := ⟨_, rfl⟩
  rw [← hfixl] at h1 hrf
  simp only [rfOK, Bool.and_eq_true] at hrf
  obtain ⟨⟨hps2, hoffa⟩, hoffb⟩ := hrf
  obtain ⟨hcall, hiter⟩ := hC.iter _ _ _ hit
  have hv := r.ev g0p
  rw [hev] at hv
  obtain ⟨vf, vc, hg, hvf, hvc⟩ := V_F' hv
  simp only [VT] at hvf
  subst hvf
  have hdf := r.dfr
  rw [hmk] at hdf
  obtain ⟨Ds, hds1, hds2, hds3⟩ := hdf
  have hw0 : w0.heap.size ≤ w.heap.size := r.ext.size
  refine wpIn_rangeFunc ?_
  intro fn _
  obtain ⟨rec, hrec⟩ : ∃ rec : LoopState → Option Code → Loop, rec = fun st pe => { state := st, pending := pe, fn, tmps := a.tmps, params := ps, assign := asg, body := bod, defers := w.heap.size } := ⟨_, rfl⟩
  obtain ⟨W1, hW1⟩ : ∃ W1, (w.alloc (.deferred (some []))).alloc (.loop (rec .ready none)) = W1 := ⟨_, rfl⟩
  have hsz1 : W1.heap.size = w.heap.size + 2 := by rw [← hW1]; simp
  have hL1 : W1.heap[w.heap.size + 1]? = some (.loop (rec .ready none)) := by
    rw [← hW1]; have := World.alloc_heap_new (w.alloc (.deferred (some []))) (.loop (rec .ready none)); rwa [World.size_alloc] at this
  have hK1 : W1.heap[w.heap.size]? = some (.deferred (some [])) := by
    rw [← hW1]
    show ((w.heap.push _).push _)[w.heap.size]? = _
    rw [Array.getElem?_push_lt (by simp)]
    simp
  let g1 := g.only w.heap.size
  have hch1 : Chg (fun _ => False) g w g1 W1 := by rw [← hW1]; exact alloc_chg r.core.wf _ _
  let ntF := nt.rnd fixl a
  let gR : Gh := { g0 with df := [] }
  let aS : Act := { tmps := a.tmps, defers := [] }
  let L := w.heap.size + 1
  have hLw0 : w0.heap.size ≤ L := by show _ ≤ w.heap.size + 1; omega
  have hDlt : ∀ D ∈ Ds, D < w.heap.size := fun D hD => (Array.getElem?_eq_some_iff.1 (hds3 D hD).2.1).1
  have hLn : L ∉ w.heap.size :: Ds := by
    intro hm
    rcases List.mem_cons.1 hm with e | hm
    · have : w.heap.size + 1 = w.heap.size := e
      omega
    · have := hDlt _ hm
      have : w.heap.size + 1 < w.heap.size := this
      omega
  have hst1 : ∀ b, w.heap.size ≤ b → ∀ i, ¬ g1.st b i := fun b hb i x => by
    have := r.core.wf b i x
    omega
  have hbk1 : Bk w0 g1 W1 L (w.heap.size :: Ds) (.loop (rec .ready none)) g1 W1 := by
    refine ⟨hL1, rfl, by show (if w.heap.size + 1 < w.heap.size then _ else none) = none; rw [if_neg (by omega)], hst1 _ (by show _ ≤ w.heap.size + 1; omega), fun D hD => ?_, Later.refl _ _⟩
    rcases List.mem_cons.1 hD with rfl | hD
    · exact ⟨hw0, hK1, by simp [g1, Gh.only], hst1 _ (Nat.le_refl _)⟩
    · exact (hds3 D hD).chg hch1 fun _ x => x.elim
  have r1 : Rel C ntF gR w0 g1 W1 f (s.keep fixl) aS :=
    (r.inner fixl).quietB rfl hch1 rfl (fun _ x => x.elim) fun b i x => by
      have := r.core.wf b i x
      omega
  have eg := fun args w' => hcall.run args w'
  refine ⟨L, [{ target := .collected w.heap.size, args := #[] }], W1, { target := .fn (.func gf) vc.toArray, args := #[.func (.yield L) #[] #[]] }, W1, gf,
    #[.func (.yield L) #[] #[]] ++ vc.toArray, W1, ?_, ?_, ?_, ?_, fun h => by simp [FR, Fence.wide] at h, ?_⟩
  · rw [← hW1, hrec]; exact run_enterLoop_outer _ _ _ _ _
  · simp only [resolve, hg]
    simp [go_sem]
  · intro f' hf'; trivial
  · simp [invoke, go_sem, eg]
  · let asgF := fun (kn : St → Res) (kx : Nat → St → Res) (kr : St → Res) (s : St) => aC C N (stdAlg C.pure (noPan G)) (stdAlg C.pure (noPan G)) asg kn kx kr s
    let bodF := fun (kn : St → Res) (kx : Nat → St → Res) (kr : St → Res) (s : St) => aC C N (stdAlg C.pure (noPan G)) (stdAlg C.pure (noPan G)) bod kn kx kr s
    obtain ⟨rr, hrr0⟩ : ∃ rr : List (List AV) → St → Res, rr = roundsR (stdAlg C.pure G) N fixl ps.toList asgF bodF (headId asg) (headId bod) kn kx kr := ⟨_, rfl⟩
    have hcons : ∀ x l s', rr (x :: l) s' = R → x.length = ps.toList.length ∧ asgF (fun s1 => bodF (fun s2 => rr l (s2.keep fixl)) (fun i s2 => kx i (s2.keep fixl)) (fun s2 => kr (s2.keep fixl)) (nrm N (headId bod) s1)) (fun _ _ => Res.stuck) (fun _ => Res.stuck) (nrm N (headId asg) (St.puts (ps.toList.zip x) s')) = R := by
      intro x l s' hx
      rw [hrr0] at hx ⊢
      unfold roundsR at hx
      split at hx
      · rename_i hl
        exact ⟨hl, hx⟩
      · exact absurd hx.symm hR
    have hnil : ∀ s', rr [] s' = R → kn s' = R := fun s' hx => by rw [hrr0] at hx; exact hx
    let J := fun (i : Nat) (g' : Gh) (W : World) => ∃ f' s', Rel C ntF gR w0 g' W f' s' aS ∧ Bk w0 g1 W1 L (w.heap.size :: Ds) (.loop (rec .ready none)) g' W ∧ rr (xs.drop i) s' = R
    let Jx := fun (W : World) => ∃ c g' f' s', Rel C ntF gR w0 g' W f' s' aS ∧ Bk w0 g1 W1 L (w.heap.size :: Ds) (.loop (rec .done (some c))) g' W ∧ ((c = .ret ∧ kr s' = R) ∨ ∃ id, c = .exit id ∧ kx id s' = R)
    have hpanF : ∀ (g0 : Gh) (w0 : World) (Q : Exit → Act → World → Prop), PanAll ntF g0 w0 Q R := fun g0 w0 Q a _ v h' u g' w' e => absurd e (hnp v h')
    have outer : ∀ {o : Obj} {g' : Gh} {W : World} {f' : Fr} {s' : St}, Rel C ntF gR w0 g' W f' s' aS → Bk w0 g1 W1 L (w.heap.size :: Ds) o g' W → ∀ st pe, Rel C nt g0 w0 g' (W.putObj L (.loop (rec st pe))) f' s' { a with defers := { target := .collected w.heap.size, args := #[] } :: a.defers } := by
      intro o g' W f' s' r' hb st pe
      have r2 := r'.putRec rfl hb hLw0 (o' := .loop (rec st pe)) rfl
      have hb2 := hb.put (o' := .loop (rec st pe)) hLn rfl
      have e := r2.ext
      refine ⟨⟨⟨e.later.n, e.later.ix, e.later.st, e.later.cell⟩, e.size, e.blk, e.ow, e.st, e.os, e.tape, e.out⟩, r2.core, r2.env, r2.glob, ?_, r.sz, r.fixed⟩
      rw [hmk]
      refine ⟨w.heap.size :: Ds, by rw [hds1]; rfl, List.nodup_cons.2 ⟨fun hm => ?_, hds2⟩, hb2.coll⟩
      have := hDlt _ hm
      omega
    have hcs := hiter g1 W1 vc (VT.later hch1.later _ _ hvc) L J Jx (fun i g' W hJ => by
      obtain ⟨f', s', r', hb, hr'⟩ := hJ
      refine ⟨hb.later, r'.core.wf, fun g2 W2 hch hn2 hwf2 => ?_⟩
      obtain ⟨c2, st2⟩ := r'.core.quiet hch hn2 hwf2
      exact ⟨f', s', r'.to (d := none) (e := .v .U) (u := undef) st2 c2 rfl (fun _ e => by cases e) trivial, hb.chg (hch.mono fun _ _ h => h.elim), hr'⟩) ?_ g1 ⟨f, _, r1, hbk1, by rw [hrr0]; exact h1⟩
    · refine callsIn_wide.2 (hcs.mono ?_)
      rintro e W3 ⟨⟨v, rfl⟩, hJ | hJ⟩
      · obtain ⟨g', f', s', r', hb, hr'⟩ := hJ
        rw [List.drop_length] at hr'
        refine ⟨none, _, by have := run_endLoop (P := C.P) hb.here (by rw [hrec]; simp); rw [hrec] at this; exact this, ?_⟩
        have := outer r' hb .exhausted none
        rw [hrec] at this
        exact hn _ _ _ _ _ this (hnil _ hr')
      · obtain ⟨c, g', f', s', r', hb, hc⟩ := hJ
        refine ⟨some c, _, by have := run_endLoop (P := C.P) hb.here (by rw [hrec]; simp); rw [hrec] at this; exact this, ?_⟩
        have ro := outer r' hb .exhausted (some c)
        rw [hrec] at ro
        rcases hc with ⟨rfl, hk⟩ | ⟨id, rfl, hk⟩
        · exact wpIn_ret (hr _ _ _ _ _ ro hk)
        · exact wpIn_exit (hx _ _ _ _ _ _ ro hk)
    · intro i x xv g' W hxi ⟨f', s', r', hb, hr'⟩ hvx
      have hdrop : xs.drop i = x :: xs.drop (i + 1) := by
        rw [List.drop_eq_getElem_cons (List.getElem?_eq_some_iff.1 hxi).1, (List.getElem?_eq_some_iff.1 hxi).2]
      rw [hdrop] at hr'
      obtain ⟨hxl, hr2⟩ := hcons _ _ _ hr'
      have hxvl : xv.length = ps.toList.length := (VT.length _ _ hvx).trans hxl
      have hy := run_yield (P := C.P) (args := xv.toArray) hb.here (by rw [hrec]; simpa using hxvl)
      rw [hrec] at hy
      refine ⟨fn, _, asg, bod, hy, roundIn_of_wpIn trivial ?_⟩
      have hnps : ∀ p ∈ ps.toList, ntF.ok p := fun p hp => ⟨by show p < nt.n; simpa using List.all_eq_true.1 hps p hp, by show fixl.any (Nat.beq p) = false; simpa using List.all_eq_true.1 hps2 p hp⟩
      have rp := Rel.puts ps.toList x xv _ _ hnps hvx (r'.base rfl)
      have hact : Act.puts (ps.toList.zip xv) aS = { tmps := (ps.zip xv.toArray).foldl (fun t (p, v) => t.setIfInBounds p v) a.tmps, defers := [] } := by
        rw [puts_tmps]
        congr 1
        rw [← Array.foldl_toList, Array.toList_zip]
      obtain ⟨g2, r2⟩ := rp.nrm (N := N) (headId asg)
      rw [hact] at r2
      refine iha (some L) (G := noPan G) (nt := ntF) hC hR (fun j => (hG j).noPan) (codeOK_rnd _ hoka hoffa) (.inr (offOK_noRF _ hoffa)) (.inl rfl) ?_ (fun id g w f s a _ h => absurd h.symm hR) (fun g w f s a _ h => absurd h.symm hR) (hpanF _ _ _) g2 W f' _ _ r2 (by rw [noPan_noPan]; exact hr2)
      intro g3 W3 f3 s3 a3 r3 h3
      have hbk3 := hb.chg r3.since
      have r3u := Rel.unbase r'.ext rfl r3
      refine ⟨_, run_beginRound hbk3.here (by rw [hrec]), ?_⟩
      have r4 := r3u.putRec rfl hbk3 hLw0 (o' := .loop { rec .ready none with state := .busy }) rfl
      have hbk4 := hbk3.put (o' := .loop { rec .ready none with state := .busy }) hLn rfl
      obtain ⟨g5, r5⟩ := (r4.base rfl).nrm (N := N) (headId bod)
      have fin : ∀ (jump : Option Code) {g6 : Gh} {W6 : World} {f6 : Fr} {s6 : St} {a6 : Act}, Rel C ntF { g3 with df := gR.df } (W3.putObj L (.loop { rec .ready none with state := .busy })) g6 W6 f6 s6 a6 →
          (Instr.endRound L jump).run C.P W6 = .ok (.bool jump.isNone) (W6.putObj L (.loop (rec (if jump.isNone then .ready else .done) jump))) ∧
          Rel C ntF gR w0 g6 (W6.putObj L (.loop (rec (if jump.isNone then .ready else .done) jump))) f6 (s6.keep fixl) aS ∧
          Bk w0 g1 W1 L (w.heap.size :: Ds) (.loop (rec (if jump.isNone then .ready else .done) jump)) g6 (W6.putObj L (.loop (rec (if jump.isNone then .ready else .done) jump))) := by
        intro jump g6 W6 f6 s6 a6 r6
        have hbk6 := hbk4.chg r6.since
        have r6u := Rel.unbase r4.ext rfl r6
        refine ⟨?_, (r6u.putRec rfl hbk6 hLw0 rfl).roundEnd rfl r.sz, hbk6.put hLn rfl⟩
        have := run_endRound (P := C.P) jump hbk6.here
        rw [hrec] at this ⊢
        exact this
      refine ihb (some L) (G := noPan G) (nt := ntF) hC hR (fun j => (hG j).noPan) (codeOK_rnd _ hokb hoffb) (.inr (offOK_noRF _ hoffb)) (.inl rfl) (fun g6 W6 f6 s6 a6 r6 h6 => ?_) (fun id g6 W6 f6 s6 a6 r6 h6 => ?_) (fun g6 W6 f6 s6 a6 r6 h6 => ?_) (hpanF _ _ _) g5 _ f3 _ a3 r5 (by rw [noPan_noPan]; exact h3)
      · obtain ⟨e1, e2, e3⟩ := fin none r6
        exact ⟨_, _, e1, .inl ⟨rfl, g6, f6, _, e2, e3, h6⟩⟩
      · obtain ⟨e1, e2, e3⟩ := fin (some (.exit id)) r6
        exact ⟨_, _, e1, .inr ⟨rfl, .exit id, g6, f6, _, e2, e3, .inr ⟨id, rfl, h6⟩⟩⟩
      · obtain ⟨e1, e2, e3⟩ := fin (some .ret) r6
        exact ⟨_, _, e1, .inr ⟨rfl, .ret, g6, f6, _, e2, e3, .inl ⟨rfl, h6⟩⟩⟩
theorem code_sound : ∀ (c : Code) (ro : Option Nat), CodeS C N ro c := by
  intro c
  induction c with
  | skip => intro ro G nt g0 w0 R hC hR hG _ hro hmp kn kx kr Q hn hx hr hp g w f s a r h; exact wpIn_skip (hn g w f s a r h)
  | region id ops dr =>
    intro ro G nt g0 w0 R hC hR hG hok hro hmp kn kx kr Q hn hx hr hp g w f s a r h
    have hok : dstOK nt ops = true := hok
    cases dr with
    | true =>
      have h : aOpsD (stdAlg C.pure (noPan G)) C N ops (befores ops.toList []) 0 ops.toList [] s kn = R := h
      obtain ⟨L, s', h1, h2, h3, _, h5, h6⟩ := aOpsD_inv hR ops.toList 0 [] s rfl h
      have hlen : L.length = ops.size := by
        have := congrArg List.length h2
        simpa using this
      have hmem : ∀ i, i < ops.size → i ∈ L.map (·.1) := by
        intro i hi
        rw [h2]
        simp only [List.mem_range'_1, Array.length_toList]
        omega
      refine wpIn_region_any hC.mixed (draws_sound (ro := ro) (m := 0) hC hG hok (fun j o => h6 j o (Nat.zero_le _)) (fun g w f a r => hn g w f s' a r h3) ops.size L _ g _ f s a hlen r.drew h1 h5 ?_ (by simp) (fun i hi => ?_) (fun j o _ hl => ?_))
      · rw [h2, List.range_eq_range']
        simp
      · constructor
        · intro _; exact hmem i hi
        · intro _; simp [Array.getD_eq_getD_getElem?, hi]
      · have hl' : (Array.replicate ops.size false).getD j false = true := hl
        rw [getD_replicate_falseV] at hl'
        cases hl'
    | false =>
      have h : aOps (stdAlg C.pure G) C N ops ops.toList s kn = R := h
      have := aOps_sound (ro := ro) (n := 0) hC hR hG hok hp hn ops.toList 0 g w f s a rfl r h
      exact wpIn_region this
  | seq x y ihx ihy =>
    intro ro G nt g0 w0 R hC hR hG hok hro hmp kn kx kr Q hn hx hr hp g w f s a r h
    have hok : (codeOK nt x && codeOK nt y) = true := hok
    rw [Bool.and_eq_true] at hok
    have hro2 : (ro = none ∨ noRF x = true) ∧ (ro = none ∨ noRF y = true) := by
      rcases hro with h | h
      · exact ⟨.inl h, .inl h⟩
      · have h : (noRF x && noRF y) = true := h
        rw [Bool.and_eq_true] at h
        exact ⟨.inr h.1, .inr h.2⟩
    refine wpIn_seq (ihx ro hC hR hG hok.1 hro2.1 hmp (Q := Exit.then (y.wpIn (FR ro) 0 C.P Q) Q) (fun g w f s a r h => ?_) (fun id g w f s a r h => hx id g w f s a r h) (fun g w f s a r h => hr g w f s a r h) hp.then g w f s a r h)
    obtain ⟨g', r'⟩ := r.nrm (headId y)
    exact ihy ro hC hR hG hok.2 hro2.2 hmp hn hx hr hp g' w f _ a r' h
  | cond co x y ihx ihy =>
    intro ro G nt g0 w0 R hC hR hG hok hro hmp kn kx kr Q hn hx hr hp g w f s a r h
    have hok : (codeOK nt x && codeOK nt y) = true := hok
    rw [Bool.and_eq_true] at hok
    have hro2 : (ro = none ∨ noRF x = true) ∧ (ro = none ∨ noRF y = true) := by
      rcases hro with h | h
      · exact ⟨.inl h, .inl h⟩
      · have h : (noRF x && noRF y) = true := h
        rw [Bool.and_eq_true] at h
        exact ⟨.inr h.1, .inr h.2⟩
    have go : ∀ (b : Bool) (s : St), Rel C nt g0 w0 g w f s a → a.eval co = .bool b → (if b then aC C N (stdAlg C.pure (noPan G)) (stdAlg C.pure G) x kn kx kr (nrm N (headId x) s) else aC C N (stdAlg C.pure (noPan G)) (stdAlg C.pure G) y kn kx kr (nrm N (headId y) s)) = R →
        (Code.cond co x y).wpIn (FR ro) 0 C.P Q a w := by
      intro b s r he h
      refine wpIn_cond he ?_
      cases b with
      | true =>
        obtain ⟨g', r'⟩ := r.nrm (headId x)
        exact ihx ro hC hR hG hok.1 hro2.1 hmp hn hx hr hp g' w f _ a r' h
      | false =>
        obtain ⟨g', r'⟩ := r.nrm (headId y)
        exact ihy ro hC hR hG hok.2 hro2.2 hmp hn hx hr hp g' w f _ a r' h
    simp only [aC, condK] at h
    split at h
    · rename_i t
      split at h
      · rename_i av e
        obtain ⟨b, rfl, h1⟩ := mB_inv h hR
        have he : a.eval (.tmp t) = .bool b := by
          have := r.ev (.tmp t)
          have e' : evO C s (.tmp t) = .v (.B b) := e
          rw [e'] at this
          exact V_B' (g := g) (w := w) this
        rcases bIte_inv h1 with ⟨hb, h2⟩ | ⟨hb, h2⟩
        · subst hb
          exact go true _ (r.putSame e) he h2
        · subst hb
          exact go false _ (r.putSame e) he h2
      · rename_i e
        have h9 : both _ _ = R := h
        obtain ⟨h1, h2⟩ := both_inv h9 hR
        have hv := r.env t
        rw [e] at hv
        obtain ⟨b, hb⟩ := hv
        have he : a.eval (.tmp t) = .bool b := by
          rw [← hb]
          simp [Act.eval, Array.getD_eq_getD_getElem?]
        have r' : Rel C nt g0 w0 g w f (s.put (some t) (.v (.B b))) a := r.putEV (by rw [hb]; exact V_B g w b)
        cases b with
        | true => exact go true _ r' he h1
        | false => exact go false _ r' he h2
      · exact absurd h.symm hR
    · rename_i b
      exact go b s r rfl h
    · exact absurd h.symm hR
  | block id b ih =>
    intro ro G nt g0 w0 R hC hR hG hok hro hmp kn kx kr Q hn hx hr hp g w f s a r h
    refine wpIn_block (ih ro hC hR hG hok hro hmp (Q := Exit.inBlock id Q) (fun g w f s a r h => hn g w f s a r h) (fun i g w f s a r h => ?_) (fun g w f s a r h => hr g w f s a r h) hp.inBlock g w f s a r h)
    show (if i = id then Q .normal a w else Q (.exit i) a w)
    split
    · rename_i hi
      rw [if_pos hi] at h
      exact hn g w f s a r h
    · rename_i hi
      rw [if_neg hi] at h
      exact hx i g w f s a r h
  | loop b ih =>
    intro ro G nt g0 w0 R hC hR hG hok hro hmp kn kx kr Q hn hx hr hp g w f s a r h
    have key : ∀ (n : Nat) g w f s a, Rel C nt g0 w0 g w f s a → loopR (stdAlg C.pure G) (fun ih s => aC C N (stdAlg C.pure (noPan G)) (stdAlg C.pure G) b (fun s' => ih (nrm N (headId b) s')) kx kr s) n s = R → Code.roundsIn (FR ro) 0 C.P b Q n a w := by
      intro n
      induction n with
      | zero => intro g w f s a r h; exact absurd h.symm hR
      | succ n ihn =>
        intro g w f s a r h
        rw [roundsIn_succ]
        refine ih ro hC hR hG hok hro hmp (Q := Exit.then (Code.roundsIn (FR ro) 0 C.P b Q n) Q) (fun g w f s a r h => ?_) (fun id g w f s a r h => hx id g w f s a r h) (fun g w f s a r h => hr g w f s a r h) hp.then g w f s a r h
        obtain ⟨g', r'⟩ := r.nrm (headId b)
        exact ihn g' w f _ a r' h
    obtain ⟨g', r'⟩ := r.nrm (headId b)
    exact wpIn_loop_rounds N.fuel (key N.fuel g' w f _ a r' h)
  | exit id => intro ro G nt g0 w0 R hC hR hG _ hro hmp kn kx kr Q hn hx hr hp g w f s a r h; exact wpIn_exit (hx id g w f s a r h)
  | ret => intro ro G nt g0 w0 R hC hR hG _ hro hmp kn kx kr Q hn hx hr hp g w f s a r h; exact wpIn_ret (hr g w f s a r h)
  | scope b ih =>
    intro ro G nt g0 w0 R hC hR hG hok hro hmp kn kx kr Q hn hx hr hp g w f s a r h
    exact wpIn_scope_straight (ih ro hC hR hG hok hro hmp (Q := Exit.noGoto Q) hn hx hr hp.noGoto g w f s a r h)
  | label l => intro ro G nt g0 w0 R hC hR hG _ hro hmp kn kx kr Q hn hx hr hp g w f s a r h; exact wpIn_label (hn g w f s a r h)
  | goto l => intro ro G nt g0 w0 R hC hR hG _ hro hmp kn kx kr Q hn hx hr hp g w f s a r h; exact absurd h.symm hR
  | rangeFunc f0 ps x y iha ihb =>
    intro ro
    cases ro with
    | none => exact range_sound iha ihb
    | some l =>
      intro G nt g0 w0 R hC hR hG hok hro hmp
      have h : noRF (.rangeFunc f0 ps x y) = true := hro.resolve_left (by simp)
      simp [noRF] at h
  | refuse why => intro ro G nt g0 w0 R hC hR hG _ hro hmp kn kx kr Q hn hx hr hp g w f s a r h; exact absurd h.symm hR
theorem aC_sound (hC : OkC C) (hR : R ≠ .stuck) (hG : ∀ j, Sound C j (G j)) : ∀ (c : Code), codeOK nt c = true → (nt.mks = false ∨ ∀ v h, R ≠ .pan v h) → ∀ {kn : St → Res} {kx : Nat → St → Res} {kr : St → Res} {Q : Exit → Act → World → Prop},
    (∀ g w f s a, Rel C nt g0 w0 g w f s a → kn s = R → Q .normal a w) → (∀ id g w f s a, Rel C nt g0 w0 g w f s a → kx id s = R → Q (.exit id) a w) → (∀ g w f s a, Rel C nt g0 w0 g w f s a → kr s = R → Q .ret a w) → PanAll nt g0 w0 Q R →
    ∀ g w f s a, Rel C nt g0 w0 g w f s a → aC C N (stdAlg C.pure (noPan G)) (stdAlg C.pure G) c kn kx kr s = R → c.wp C.P Q a w :=
  fun c hok hm _ _ _ _ hn hx hr hp g w f s a r h => wpIn_wide.1 (code_sound c none hC hR hG hok (.inl rfl) hm hn hx hr hp g w f s a r h)
theorem Rel.step {g g' : Gh} {w : World} {f : Fr} {s s' : St} {a : Act} (r : Rel C nt g0 w0 g w f s a) (hc : Core g' w f s') (hst : Stp g w f s g' w f s') (he : s'.env = s.env) : Rel C nt g0 w0 g' w f s' a :=
  ⟨r.ext.trans hst.chg fun b hb hB hn => hB ((r.ext.ow b hb (fun x => x hn)).trans hn), hc, fun t => by rw [he]; exact (r.env t).stp r.core.heap.len hst, fun gi cs hg => GV.later hst.chg.later gi cs (r.glob gi cs hg), r.dfr.chg hst.chg (fun _ h => h), r.sz, r.fixed⟩
def resVal (tmps : Array Value) : ResultVar → Sem Value
  | .tmp t => pure (tmps.getD t undef)
  | .cell ad t => do loadVar t (← asAddr (tmps.getD ad undef))
theorem results_eq (fn : Func) (tmps : Array Value) : results fn tmps = (fn.results.mapM (resVal tmps)) >>= fun vs => pure (if h : vs.size = 1 then vs[0] else .tuple vs) := by
  unfold results
  have : (fun r : ResultVar => (match r with
      | .tmp t => pure (tmps.getD t undef)
      | .cell a t => do loadVar t (← asAddr (tmps.getD a undef)) : Sem Value)) = resVal tmps := by
    funext r
    cases r <;> rfl
  rw [← this]
  rfl
theorem resK_inv (hR : R ≠ .stuck) (hfr : N.fresh = none) : ∀ (l : List (ResultVar × TypeId)) (g : Gh) (w : World) (f : Fr) (s : St) (a : Act) (acc : List AV) (accv : List Value), Rel C nt g0 w0 g w f s a → VT g w acc.reverse accv →
    resK.go (stdAlg C.pure G) C N l s acc = R → ∃ as us g' s', (∀ (P' : Unit), ((l.map (·.1)).mapM (resVal a.tmps)).run C.P w = .ok us w) ∧ Rel C nt g0 w0 g' w f s' a ∧ s'.h = s.h ∧ VT g' w (acc.reverse ++ as) (accv ++ us) ∧ as.length = l.length ∧
      R = (match acc.reverse ++ as with
        | [a] => Res.ret a (if N.drop then [] else s.h)
        | as => Res.ret (.T as) (if N.drop then [] else s.h))
  | [], g, w, f, s, a, acc, accv, r, hv, h => by
    refine ⟨[], [], g, s, fun _ => by simp, r, rfl, by simpa using hv, rfl, ?_⟩
    rw [← h]
    simp only [List.append_nil]
    unfold resK.go
    match acc with
    | [] => rfl
    | [x] => rfl
    | x :: y :: z =>
      simp only
      have : ∀ (l : List AV), l.length = (x :: y :: z).length → (match l with
        | [a] => Res.ret a (if N.drop then [] else s.h)
        | as => Res.ret (.T as) (if N.drop then [] else s.h)) = Res.ret (.T l) (if N.drop then [] else s.h) := by
        intro l hl
        match l, hl with
        | [], _ => rfl
        | [_], hl => simp at hl
        | _ :: _ :: _, _ => rfl
      rw [this _ (by simp)]
      rfl
  | (.tmp t, ty) :: l, g, w, f, s, a, acc, accv, r, hv, h => by
    unfold resK.go at h
    rw [hfr] at h
    simp only at h
    have h' : Vm.use (stdAlg C.pure G) C ty (evO C s (.tmp t)) (loO s (evO C s (.tmp t))) (fun a u => resK.go (stdAlg C.pure G) C N l { s with loc := setLocs s.loc u } (a :: acc)) = R := h
    obtain ⟨av, us, g1, h1, hf, hc, hst, hva⟩ := r.useF h' hR
    have r1 : Rel C nt g0 w0 g1 w f (s.withLocs us) a := r.step hc hst rfl
    obtain ⟨as, us2, g2, s2, k1, k2, k3, k4, k5, k6⟩ := resK_inv hR hfr l g1 w f (s.withLocs us) a (av :: acc) (accv ++ [a.eval (.tmp t)]) r1 (by
      rw [List.reverse_cons]
      exact VT_app _ _ _ _ (VT.later hst.chg.later _ _ hv) (by simp only [VT]; exact ⟨_, _, rfl, hva, rfl⟩)) h1
    refine ⟨av :: as, a.eval (.tmp t) :: us2, g2, s2, fun _ => ?_, k2, k3, by simpa using k4, by simp [k5], by simpa [St.withLocs] using k6⟩
    have := k1 ()
    simp only [List.map_cons, List.mapM_cons, Sem.run_bind, resVal, Sem.run_pure, Result.andThen_ok, this]
    have e : a.eval (.tmp t) = a.tmps.getD t undef := by
      simp [Act.eval, Array.getD_eq_getD_getElem?]
    rw [e]
  | (.cell t ty, ty') :: l, g, w, f, s, a, acc, accv, r, hv, h => by
    unfold resK.go at h
    rw [hfr] at h
    simp only [Option.isSome_none, Bool.false_eq_true, if_false] at h
    have h' : loadK (stdAlg C.pure G) C ty (evO C s (.tmp t)) (loO s (evO C s (.tmp t))) s.h s.hv (fun e => Vm.use (stdAlg C.pure G) C ty e (loO s e) fun a u => resK.go (stdAlg C.pure G) C N l { s with loc := setLocs s.loc u } (a :: acc)) = R := h
    obtain ⟨e, b, off, v, h1, hx, hl, hve⟩ := loadK_run r hR h'
    obtain ⟨av, us, g1, h2, hf, _, hc, hst, hva⟩ := use_frz (s0 := s) (us0 := []) (fun _ hp => (by cases hp)) r.core hve h1 hR
    rw [List.append_nil] at hc hst
    have r1 : Rel C nt g0 w0 g1 w f (s.withLocs us) a := r.step hc hst rfl
    obtain ⟨as, us2, g2, s2, k1, k2, k3, k4, k5, k6⟩ := resK_inv hR hfr l g1 w f (s.withLocs us) a (av :: acc) (accv ++ [v]) r1 (by
      rw [List.reverse_cons]
      exact VT_app _ _ _ _ (VT.later hst.chg.later _ _ hv) (by simp only [VT]; exact ⟨_, _, rfl, hva, rfl⟩)) h2
    refine ⟨av :: as, v :: us2, g2, s2, fun _ => ?_, k2, k3, by simpa using k4, by simp [k5], by simpa [St.withLocs] using k6⟩
    have := k1 ()
    have e : a.eval (.tmp t) = a.tmps.getD t undef := by
      simp [Act.eval, Array.getD_eq_getD_getElem?]
    rw [e] at hx
    simp only [List.map_cons, List.mapM_cons, Sem.run_bind, resVal, Sem.run_pure, Result.andThen_ok, hx, asAddr, hl, this]
end
end Go.Vm
