/- EnginePrints, the second form (input of bulk at most 1048576): Print of any setup and events answers as the document's Print does, what was handed in stays, and the answer is true. Conditions: those of the given card: the listed tables hold what the program's text lays. -/
import Derived.Test.YteaplibpphjokaaDoorCards
import Derived.Test.YteaplibpphjokaaDoorTie
import Derived.Deep.DeepHandedRow
import Derived.Lib.LaidTab
import Derived.WalkKit
import Derived.Test.YteaplibpphjokaaDoorZzSndP
import Derived.Test.YteaplibpphjokaaDoorFactsP
import Derived.Test.YteaplibpphjokaaDoorVE
set_option linter.unusedSimpArgs false
set_option linter.unusedVariables false
set_option linter.unusedSectionVars false
namespace Go.Proofs.YteaplibpphjokaaDoor.rowPrints
open Go Go.Vm Go.RowKit
set_option maxRecDepth 100000
theorem own : ownKnob Tryd.prog.godebug = none := by kernel_rfl
theorem kids : Kids Tryd.prog (· < Tryd.prog.types.size) := kids_rows (by kernel_rfl) (by kernel_rfl)
theorem slices : slicesOK Tryd.prog = true := by kernel_rfl
theorem fun3 : Tryd.prog.funcs[3]? = some Tryd.f3 := by kernel_rfl
theorem par3 : Tryd.f3.params.toList = [26, 27] := by kernel_rfl
theorem ltP : ∀ t ∈ Tryd.f3.params.toList, t < Tryd.prog.types.size := by
  rw [par3]
  intro t ht
  rcases List.mem_cons.1 ht with rfl | ht
  · exact Nat.le_of_ble_eq_true (by kernel_rfl)
  · rw [List.mem_singleton.1 ht]
    exact Nat.le_of_ble_eq_true (by kernel_rfl)
theorem pow0 : globs 0 = some (avD (H := Unit) Tryd.prog 20 129 Rows.laid_internal_strconv_uint64pow10) := by kernel_rfl
theorem glob {W : World} (h : laidMetH Tryd.prog Rows.enginePrintsUptoRow.laid W) : GlobR cx (gin W) W := by
  have h' : laidMet Tryd.prog Rows.enginePrintsUptoRow.laid W := h
  obtain ⟨ps, hv, _⟩ := h'
  intro gi cs hg
  have hg' : globs gi = some cs := hg
  match gi, hg' with
  | 0, hg' =>
    rw [pow0] at hg'
    injection hg' with e
    rw [← e]
    exact laid_VC (n := "internal/strconv.uint64pow10") (d := Rows.laid_internal_strconv_uint64pow10) (gi := 0) (t := 129) (by kernel_rfl) (by kernel_rfl) (by kernel_rfl) (by kernel_rfl) _ _ hv (List.Mem.tail _ (List.Mem.tail _ (List.Mem.head _)))
  | n + 1, hg' => cases hg'
theorem one_le {H : Type} (d : DataW H) : 1 ≤ Rows.uptoBulk d := by
  cases d with
  | lit l => cases l <;> simp [Rows.uptoBulk]
  | nil => simp [Rows.uptoBulk]
  | ptr d => simp [Rows.uptoBulk]
  | slice elems spare => simp [Rows.uptoBulk]
  | agg parts => simp [Rows.uptoBulk]
  | iface t d => simp [Rows.uptoBulk]
  | map entries => simp [Rows.uptoBulk]
  | held h => simp [Rows.uptoBulk]
theorem length_le {H : Type} (l : List (DataW H)) : l.length ≤ Rows.uptoBulkAll l := by
  induction l with
  | nil => simp [Rows.uptoBulkAll]
  | cons x r ih => have := one_le x; simp only [Rows.uptoBulkAll, List.length_cons]; omega
mutual
theorem small_of {H : Type} {M : Nat} : ∀ (d : DataW H), Rows.uptoBulk d ≤ M → smallD M d = true
  | .lit (.string bs), h => by simp only [Rows.uptoBulk] at h; simp only [smallD, decide_eq_true_eq]; omega
  | .lit (.bool _), _ => rfl
  | .lit (.int _ _), _ => rfl
  | .lit (.float _ _), _ => rfl
  | .lit .nil, _ => rfl
  | .nil, _ => rfl
  | .ptr d, h => by simp only [Rows.uptoBulk] at h; simp only [smallD]; exact small_of d (by omega)
  | .slice e s, h => by
    simp only [Rows.uptoBulk] at h
    have := length_le e
    simp only [smallD, Bool.and_eq_true, decide_eq_true_eq]
    exact ⟨by omega, smalls_of e (by omega)⟩
  | .agg p, h => by simp only [Rows.uptoBulk] at h; simp only [smallD]; exact smalls_of p (by omega)
  | .iface _ d, h => by simp only [Rows.uptoBulk] at h; simp only [smallD]; exact small_of d (by omega)
  | .map _, _ => rfl
  | .held _, _ => rfl
theorem smalls_of {H : Type} {M : Nat} : ∀ (l : List (DataW H)), Rows.uptoBulkAll l ≤ M → smallDs M l = true
  | [], _ => rfl
  | d :: r, h => by
    simp only [Rows.uptoBulkAll] at h
    simp only [smallDs, Bool.and_eq_true]
    exact ⟨small_of d (by omega), smalls_of r (by omega)⟩
end
theorem i64_3 {l : List AV} {d : Nat} (h : Sh Tryd.prog 1048576 (d + 1) 3 l) : ∃ n, l = [.I .i64 n] ∧ i63 n = true := by
  obtain ⟨n, h1, h2, h3⟩ := h.int (k := .i64) (by kernel_rfl)
  exact ⟨n, h1, decide_eq_true ⟨h2, h3⟩⟩
theorem i64_35 {l : List AV} {d : Nat} (h : Sh Tryd.prog 1048576 (d + 1) 35 l) : ∃ n, l = [.I .i64 n] ∧ i63 n = true := by
  obtain ⟨n, h1, h2, h3⟩ := h.int (k := .i64) (by kernel_rfl)
  exact ⟨n, h1, decide_eq_true ⟨h2, h3⟩⟩
theorem u64_36 {l : List AV} {d : Nat} (h : Sh Tryd.prog 1048576 (d + 1) 36 l) : ∃ n, l = [.I .u64 n] ∧ Vm.u64 n = true := by
  obtain ⟨n, h1, h2, h3⟩ := h.int (k := .u64) (by kernel_rfl)
  exact ⟨n, h1, decide_eq_true ⟨h2, h3⟩⟩
theorem draw38 {l : List AV} {d : Nat} (h : Sh Tryd.prog 1048576 (d + 2) 38 l) : ∃ a b, l = [.I .u64 a, .I .u64 b] ∧ Vm.u64 a = true ∧ Vm.u64 b = true := by
  obtain ⟨a, r, rfl, h1, b, r2, rfl, h2, rfl⟩ := h.st (ts := [36, 36]) (by kernel_rfl)
  obtain ⟨a, rfl, ha⟩ := u64_36 h1
  obtain ⟨b, rfl, hb⟩ := u64_36 h2
  exact ⟨a, b, rfl, ha, hb⟩
theorem op40 {l : List AV} {d : Nat} (h : Sh Tryd.prog 1048576 (d + 2) 40 l) : ∃ a b s, l = [.I .i64 a, .I .i64 b, .S s] ∧ i63 a = true ∧ i63 b = true ∧ s.length ≤ 1048576 := by
  obtain ⟨a, r, rfl, h1, b, r2, rfl, h2, c, r3, rfl, h3, rfl⟩ := h.st (ts := [3, 3, 9]) (by kernel_rfl)
  obtain ⟨a, rfl, ha⟩ := i64_3 h1
  obtain ⟨b, rfl, hb⟩ := i64_3 h2
  obtain ⟨s, rfl, hs⟩ := h3.str (by kernel_rfl)
  exact ⟨a, b, s, rfl, ha, hb, hs⟩
theorem ev43 {l : List AV} {d : Nat} (h : Sh Tryd.prog 1048576 (d + 3) 43 l) : ∃ e : Ev, l = evA e ∧ rngE e = true ∧ e.ov.length ≤ 1048576 ∧ e.bs.length ≤ 1048576 := by
  obtain ⟨x0, r0, rfl, h0, x1, r1, rfl, h1, x2, r2, rfl, h2, x3, r3, rfl, h3, x4, r4, rfl, h4, x5, r5, rfl, h5, x6, r6, rfl, h6, x7, r7, rfl, h7, x8, r8, rfl, h8, x9, r9, rfl, h9, rfl⟩ := h.st (ts := [35, 3, 3, 3, 3, 3, 3, 38, 40, 41]) (by kernel_rfl)
  obtain ⟨k, rfl, _⟩ := i64_35 h0
  obtain ⟨nd, rfl, g1⟩ := i64_3 h1
  obtain ⟨cl, rfl, g2⟩ := i64_3 h2
  obtain ⟨ix, rfl, g3⟩ := i64_3 h3
  obtain ⟨t, rfl, g4⟩ := i64_3 h4
  obtain ⟨ct, rfl, g5⟩ := i64_3 h5
  obtain ⟨cu, rfl, g6⟩ := i64_3 h6
  obtain ⟨hi, lo, rfl, g7, g8⟩ := draw38 h7
  obtain ⟨ok, os, ov, rfl, _, g9, g10⟩ := op40 h8
  obtain ⟨bs, rfl, g11⟩ := h9.bytes (e := 5) (by kernel_rfl) (by kernel_rfl)
  refine ⟨⟨k, nd, cl, ix, t, ct, cu, hi, lo, ok, os, ov, bs⟩, rfl, ?_, g10, g11⟩
  simp only [rngE, g1, g2, g3, g4, g5, g6, g7, g8, g9]
  rfl
theorem evs27 {l : List AV} {d : Nat} (h : Sh Tryd.prog 1048576 (d + 4) 27 l) : ∃ es : List Ev, l = [.L 13 (es.map evA)] ∧ es.length ≤ 1048576 ∧ ∀ e ∈ es, rngE e = true ∧ e.ov.length ≤ 1048576 ∧ e.bs.length ≤ 1048576 := by
  obtain ⟨xs, rfl, hl, hx⟩ := h.list (e := 43) (n := 13) (by kernel_rfl) (by kernel_rfl) (by kernel_rfl)
  have : ∀ ys : List (List AV), (∀ x ∈ ys, Sh Tryd.prog 1048576 (d + 3) 43 x) → ∃ es : List Ev, ys = es.map evA ∧ ∀ e ∈ es, rngE e = true ∧ e.ov.length ≤ 1048576 ∧ e.bs.length ≤ 1048576 := by
    intro ys
    induction ys with
    | nil => exact fun _ => ⟨[], rfl, fun e he => by cases he⟩
    | cons y ys ih =>
      intro hy
      obtain ⟨es, rfl, h2⟩ := ih fun x hx => hy x (List.mem_cons_of_mem _ hx)
      obtain ⟨e, rfl, h3⟩ := ev43 (hy y List.mem_cons_self)
      exact ⟨e :: es, rfl, fun e' he => by
        rcases List.mem_cons.1 he with rfl | he
        · exact h3
        · exact h2 e' he⟩
  obtain ⟨es, rfl, h2⟩ := this xs hx
  exact ⟨es, rfl, by simpa using hl, h2⟩
theorem cfg23 {l : List AV} {d : Nat} (h : Sh Tryd.prog 1048576 (d + 2) 23 l) : ∃ f r p u, l = [.I .i64 f, .I .i64 r, .I .i64 p, .B u] ∧ i63 f = true ∧ i63 r = true ∧ i63 p = true := by
  obtain ⟨a, r, rfl, h1, b, r2, rfl, h2, c, r3, rfl, h3, e, r4, rfl, h4, rfl⟩ := h.st (ts := [3, 3, 3, 4]) (by kernel_rfl)
  obtain ⟨a, rfl, ha⟩ := i64_3 h1
  obtain ⟨b, rfl, hb⟩ := i64_3 h2
  obtain ⟨c, rfl, hc⟩ := i64_3 h3
  obtain ⟨u, rfl⟩ := h4.bool (by kernel_rfl)
  exact ⟨a, b, c, u, rfl, ha, hb, hc⟩
theorem cl24 {l : List AV} {d : Nat} (h : Sh Tryd.prog 1048576 (d + 3) 24 l) : ∃ ns : List Int, l = [.L 1 (ns.map mkI)] ∧ ns.length ≤ 1048576 ∧ ∀ n ∈ ns, i63 n = true := by
  obtain ⟨xs, rfl, hl, hx⟩ := h.list (e := 70) (n := 1) (by kernel_rfl) (by kernel_rfl) (by kernel_rfl)
  have : ∀ ys : List (List AV), (∀ x ∈ ys, Sh Tryd.prog 1048576 (d + 2) 70 x) → ∃ ns : List Int, ys = ns.map mkI ∧ ∀ n ∈ ns, i63 n = true := by
    intro ys
    induction ys with
    | nil => exact fun _ => ⟨[], rfl, fun e he => by cases he⟩
    | cons y ys ih =>
      intro hy
      obtain ⟨ns, rfl, h2⟩ := ih fun x hx => hy x (List.mem_cons_of_mem _ hx)
      obtain ⟨a, r, rfl, h1, rfl⟩ := (hy y List.mem_cons_self).st (ts := [3]) (by kernel_rfl)
      obtain ⟨n, rfl, h3⟩ := i64_3 h1
      exact ⟨n :: ns, rfl, fun e' he => by
        rcases List.mem_cons.1 he with rfl | he
        · exact h3
        · exact h2 e' he⟩
  obtain ⟨ns, rfl, h2⟩ := this xs hx
  exact ⟨ns, rfl, by simpa using hl, h2⟩
theorem setup26 {l : List AV} {d : Nat} (h : Sh Tryd.prog 1048576 (d + 4) 26 l) : ∃ f r p u ns, l = [.I .i64 f, .I .i64 r, .I .i64 p, .B u, .L 1 (List.map mkI ns)] ∧ i63 f = true ∧ i63 r = true ∧ i63 p = true ∧ ns.length ≤ 1048576 ∧ ∀ n ∈ ns, i63 n = true := by
  obtain ⟨a, r, rfl, h1, b, r2, rfl, h2, rfl⟩ := h.st (ts := [23, 24]) (by kernel_rfl)
  obtain ⟨f, r, p, u, rfl, g1, g2, g3⟩ := cfg23 h1
  obtain ⟨ns, rfl, g4, g5⟩ := cl24 h2
  exact ⟨f, r, p, u, ns, rfl, g1, g2, g3, g4, g5⟩
theorem decI_len {n : Int} (h : i63 n = true) : (decI n).length ≤ 20 := by
  have := i63_iff h
  unfold decI
  split
  · have := decB_len 18 n.natAbs (by omega)
    simp only [List.length_cons]; omega
  · have := decB_len 18 n.toNat (by omega)
    omega
theorem hexB_len (v : List UInt8) : (hexB v).length ≤ 2 * v.length + 1 := by
  unfold hexB
  cases v with
  | nil => simp
  | cons c r => simp [hexs_len]
theorem say1 {a : Int} (h : i63 a = true) : (sayB [a]).length ≤ 21 := by
  have := decI_len h
  simp [sayB]; omega
theorem say2 {a b : Int} (h : i63 a = true) (g : i63 b = true) : (sayB [a, b]).length ≤ 42 := by
  have := decI_len h
  have := decI_len g
  simp [sayB]; omega
theorem say3 {a b c : Int} (h : i63 a = true) (g : i63 b = true) (k : i63 c = true) : (sayB [a, b, c]).length ≤ 63 := by
  have := decI_len h
  have := decI_len g
  have := decI_len k
  simp [sayB]; omega
theorem cutB_len {a : Int} (h : i63 a = true) : (cutB a).length ≤ 24 := by
  rw [← cut_eq]; exact cutR_len h
theorem ite_len {c : Prop} [Decidable c] {a b : List UInt8} {N : Nat} (h1 : a.length ≤ N) (h2 : b.length ≤ N) : (if c then a else b).length ≤ N := by split <;> assumption
theorem line_len {e : Ev} (h : rngE e = true) : (lineB e).length ≤ 2 * e.ov.length + 2 * e.bs.length + 200 := by
  obtain ⟨k, nd, cl, ix, t, ct, cu, hi, lo, ok, os, ov, bs⟩ := e
  simp only [rngE, Bool.and_eq_true] at h
  obtain ⟨r1, r2, r3, r4, r5, r6, r7, r8, r9⟩ := h
  have a1 := say1 r1
  have a2 := say1 r2
  have a3 := say1 r3
  have a5 := say1 r5
  have b1 := say2 r4 r1
  have b2 := say2 r2 r1
  have c1 := say3 r3 r4 r5
  have d1 := cutB_len r6
  have d2 := drawB_len r8 r9
  have h1 := hexB_len ov
  have h2 := hexB_len bs
  have h3 := decI_len r7
  have ho : (opB ok os ov).length ≤ 2 * ov.length + 40 := by
    unfold opB
    repeat' split
    all_goals (try simp only [List.length_append, List.length_cons, List.length_nil])
    all_goals omega
  unfold lineB
  dsimp only
  repeat' (refine ite_len ?_ ?_)
  all_goals (try simp only [List.length_append, List.length_cons, List.length_nil])
  all_goals omega
theorem ref_len {e : Ev} (h : rngE e = true) : (refS e).length ≤ 2 * e.ov.length + 2 * e.bs.length + 200 := by
  obtain ⟨k, nd, cl, ix, t, ct, cu, hi, lo, ok, os, ov, bs⟩ := e
  simp only [rngE, Bool.and_eq_true] at h
  obtain ⟨r1, r2, r3, r4, r5, r6, r7, r8, r9⟩ := h
  have a1 := posB_len r1
  have a2 := posB_len r2
  have a3 := posB_len r3
  have a4 := posB_len r4
  have a5 := posB_len r5
  have a7 := posB_len r7
  have d1 := cutR_len r6
  have d2 := drawB_len r8 r9
  have h1 := hexB_len ov
  have h2 := hexB_len bs
  have ho : (opR ok os ov).length ≤ 2 * ov.length + 40 := by
    unfold opR
    repeat' split
    all_goals (try simp only [List.length_append, List.length_cons, List.length_nil])
    all_goals omega
  have hq : (if ok = 3 then ([32, 114, 101, 97, 100, 32] : List UInt8) ++ posB os else [32, 99, 111, 117, 110, 116]).length ≤ 30 := ite_len (by simp; omega) (by simp)
  unfold refS
  dsimp only
  repeat' (refine ite_len ?_ ?_)
  all_goals (try simp only [List.length_append, List.length_cons, List.length_nil])
  all_goals omega
theorem scr_len : ∀ {es : List Ev} {N : Nat}, (∀ e ∈ es, (lineB e).length ≤ N) → (scrB es).length ≤ es.length * (N + 1)
  | [], N, _ => by simp [scrB]
  | e :: r, N, h => by
    rw [scrB_cons]
    have h1 := h e List.mem_cons_self
    have h2 := scr_len fun x hx => h x (List.mem_cons_of_mem _ hx)
    simp only [List.length_append, List.length_cons, List.length_nil, Nat.add_mul]
    omega
theorem cli_len : ∀ {ns : List Int}, (∀ n ∈ ns, i63 n = true) → (cliB ns).length ≤ ns.length * 28
  | [], _ => by simp [cliB]
  | n :: r, h => by
    rw [cliB_cons]
    have h1 := say1 (h n List.mem_cons_self)
    have h2 := cli_len fun x hx => h x (List.mem_cons_of_mem _ hx)
    simp only [List.length_append, List.length_cons, List.length_nil]
    omega
theorem in_ok {f r p : Int} {u : Bool} {ns : List Int} {es : List Ev} (hf : i63 f = true) (hr : i63 r = true) (hp : i63 p = true) (hl : ns.length ≤ 1048576) (hns : ∀ n ∈ ns, i63 n = true)
    (el : es.length ≤ 1048576) (hes : ∀ e ∈ es, rngE e = true ∧ e.ov.length ≤ 1048576 ∧ e.bs.length ≤ 1048576) : InOK f r p u ns es := by
  have h1 : ∀ e ∈ es, (lineB e).length ≤ 4194504 := fun e he => by
    obtain ⟨a, b, c⟩ := hes e he
    have := line_len a
    omega
  have h2 := scr_len h1
  have h3 := cli_len hns
  have h4 := say3 hf hr hp
  have h5 : es.length * (4194504 + 1) ≤ 1048576 * 4194505 := Nat.mul_le_mul_right _ el
  have h6 : (headB f r p u).length ≤ 100 := by
    unfold headB
    cases u <;> simp only [List.length_append, List.length_cons, List.length_nil] <;> simp <;> omega
  refine ⟨hf, hr, hp, hns, fun e he => ?_, by omega⟩
  obtain ⟨a, b, c⟩ := hes e he
  have := line_len a
  have := ref_len a
  exact ⟨a, by omega⟩
theorem contract' (H : Type) (enc : TypeId × Value → H) (W : World) (base : Nat) (args : Array Value) (ds gs : List (DataW H)) (before : List MemPlace)
    (hval : ∀ (j : Nat) t v, Tryd.f3.params[j]? = some t → args[j]? = some v → Value.okWide Tryd.prog W .any base t v)
    (hW : DataW.Whole enc Tryd.prog Tryd.f3.params.toList Rows.enginePrintsSpec.vars false W args.toList ds gs before)
    (hwt : (DataW.weightsEach Tryd.prog (Tryd.f3.params.toList ++ (Rows.OpenSpec.upto Rows.enginePrintsSpec).bare.plain.varTypes Tryd.prog) (ds ++ gs)).all (· ≤ reachBytes) = true) (hcond : Rows.uptoSmall H (ds ++ gs) = true) (hL : laidMetH Tryd.prog Rows.enginePrintsUptoRow.laid W) :
    Calls Tryd.prog 3 args W fun e W' => ∃ v, e = .returned v ∧ Rows.enginePrintsSpec.post enc Tryd.prog Tryd.f3 false true false false W args v W' := by
  obtain ⟨p, q, hA, hV, _, _, _⟩ := id hW
  obtain ⟨rfl, rfl⟩ := Go.ChangeShapes.trodVars_none hV
  have hA' := hA
  rw [par3] at hA'
  have hd : dOKs ds = true := by
    refine args_ok _ _ _ _ hA (by rw [par3]; kernel_rfl) ?_
    have hv0 : (Rows.OpenSpec.upto Rows.enginePrintsSpec).bare.plain.varTypes Tryd.prog = [] := rfl
    rw [hv0, List.append_nil, List.append_nil] at hwt
    exact hwt
  obtain ⟨v0, vs0, d1, ds0, p0, q0, hargs, rfl, rfl, ⟨fuel, h1⟩, r0⟩ := Go.ChangeShapes.trodAll_cons hA'
  obtain ⟨v1, vs1, d2, ds1, p1, q1, hargs1, rfl, rfl, ⟨fuel1, h2⟩, r1⟩ := Go.ChangeShapes.trodAll_cons r0
  obtain ⟨rfl, rfl, rfl⟩ := Go.ChangeShapes.trodAll_nil r1
  have hb : Rows.uptoBulk d1 + (Rows.uptoBulk d2 + 0) ≤ 1048576 := by
    have hk := of_decide_eq_true hcond
    simp only [List.append_nil, Rows.uptoBulkAll] at hk
    exact hk
  have s1 := trod_sh 20 fuel 26 _ _ h1 (by kernel_rfl) (small_of d1 (M := 1048576) (by omega))
  have s2 := trod_sh 20 fuel1 27 _ _ h2 (by kernel_rfl) (small_of d2 (M := 1048576) (by omega))
  obtain ⟨f, r, p, u, ns, e1, g1, g2, g3, g4, g5⟩ := setup26 (d := 16) s1
  obtain ⟨es, e2, k1, k2⟩ := evs27 (d := 16) s2
  refine contract (C := cx) (fn := Tryd.f3) raw3 (by kernel_rfl) (by kernel_rfl) kids (fun a b => slicesOK_get slices a b) ltP (by rw [par3]; kernel_rfl) (tb := 4) (by kernel_rfl) (by kernel_rfl) rfl (base := base) hval hW rfl (glob hL) hd fun _ => ?_
  rw [par3]
  have a1 : argAV Tryd.prog 26 d1 = .A [.I .i64 f, .I .i64 r, .I .i64 p, .B u, .L 1 (List.map mkI ns)] := by
    have ha : aggT Tryd.prog 26 = true := by kernel_rfl
    rw [argAV, if_pos ha]
    exact congrArg AV.A e1
  have a2 : argAV Tryd.prog 27 d2 = .L 13 (es.map evA) := by
    have ha : aggT Tryd.prog 27 = false := by kernel_rfl
    rw [argAV, ha]
    have e2' : avD Tryd.prog 20 27 d2 = [.L 13 (es.map evA)] := e2
    rw [e2']
    rfl
  show f3_sem [argAV Tryd.prog 26 d1, argAV Tryd.prog 27 d2] [] = _
  rw [a1, a2]
  exact f3_law f r p u ns es (in_ok g1 g2 g3 g4 g5 k1 k2)
def layCells (vs : Array Value) : Obj → Obj
  | .cells _ t frozen => .cells vs t frozen
  | o => o
noncomputable def laidWorld (os : Os) : World :=
  { World.holding Tryd.prog os ⟨#[], #[], []⟩ with heap := (((World.holding Tryd.prog os ⟨#[], #[], []⟩).heap.modify 0 (layCells #[.int .u64 1, .int .u64 10, .int .u64 100, .int .u64 1000, .int .u64 10000, .int .u64 100000, .int .u64 1000000, .int .u64 10000000, .int .u64 100000000, .int .u64 1000000000, .int .u64 10000000000, .int .u64 100000000000, .int .u64 1000000000000, .int .u64 10000000000000, .int .u64 100000000000000, .int .u64 1000000000000000, .int .u64 10000000000000000, .int .u64 100000000000000000, .int .u64 1000000000000000000, .int .u64 10000000000000000000])).modify 1 (layCells #[.int .u8 0, .int .u8 1, .int .u8 28, .int .u8 2, .int .u8 29, .int .u8 14, .int .u8 24, .int .u8 3, .int .u8 30, .int .u8 22, .int .u8 20, .int .u8 15, .int .u8 25, .int .u8 17, .int .u8 4, .int .u8 8, .int .u8 31, .int .u8 27, .int .u8 13, .int .u8 23, .int .u8 21, .int .u8 19, .int .u8 16, .int .u8 7, .int .u8 26, .int .u8 12, .int .u8 18, .int .u8 6, .int .u8 11, .int .u8 5, .int .u8 10, .int .u8 9])).modify 2 (layCells #[.int .u8 0, .int .u8 1, .int .u8 56, .int .u8 2, .int .u8 57, .int .u8 49, .int .u8 28, .int .u8 3, .int .u8 61, .int .u8 58, .int .u8 42, .int .u8 50, .int .u8 38, .int .u8 29, .int .u8 17, .int .u8 4, .int .u8 62, .int .u8 47, .int .u8 59, .int .u8 36, .int .u8 45, .int .u8 43, .int .u8 51, .int .u8 22, .int .u8 53, .int .u8 39, .int .u8 33, .int .u8 30, .int .u8 24, .int .u8 18, .int .u8 12, .int .u8 5, .int .u8 63, .int .u8 55, .int .u8 48, .int .u8 27, .int .u8 60, .int .u8 41, .int .u8 37, .int .u8 16, .int .u8 46, .int .u8 35, .int .u8 44, .int .u8 21, .int .u8 52, .int .u8 32, .int .u8 23, .int .u8 11, .int .u8 54, .int .u8 26, .int .u8 40, .int .u8 15, .int .u8 34, .int .u8 20, .int .u8 31, .int .u8 10, .int .u8 25, .int .u8 14, .int .u8 19, .int .u8 9, .int .u8 13, .int .u8 8, .int .u8 7, .int .u8 6]) }
theorem laid_met (os : Os) : laidMet Tryd.prog Rows.enginePrintsUptoRow.laid ((laidWorld os).forCall (fun _ _ => 0) ⟨#[], #[.agg #[.int .i64 0, .int .i64 0, .int .i64 0, .bool false, .slice none 0 0], .slice none 0 0], []⟩).memory :=
  laidMet_of_run' 8 (by kernel_rfl) (by kernel_rfl)
theorem reads (os : Os) {H : Type} (enc : TypeId × Value → H) : ∃ places, DataW.whole enc Tryd.prog ((laidWorld os).forCall (fun _ _ => 0) ⟨#[], #[.agg #[.int .i64 0, .int .i64 0, .int .i64 0, .bool false, .slice none 0 0], .slice none 0 0], []⟩).memory Tryd.f3.params.toList Rows.enginePrintsSpec.vars false (#[.agg #[.int .i64 0, .int .i64 0, .int .i64 0, .bool false, .slice none 0 0], .slice none 0 0] : Array Value).toList 8 = some ([.agg [.agg [.lit (.int .i64 0), .lit (.int .i64 0), .lit (.int .i64 0), .lit (.bool false)], .nil], .nil], [], places) :=
  ⟨[], by kernel_rfl⟩
theorem lifted (os : Os) (started : os.Started) (H : Type) (enc : TypeId × Value → H) (F : Stop.Interp) :
    ReturnsInHanded {} Tryd.checked os 3 .any ((Rows.OpenSpec.upto Rows.enginePrintsSpec).preRow enc Tryd.prog Tryd.f3 Rows.enginePrintsUptoRow.domain false Rows.enginePrintsUptoRow.laid) (((Rows.OpenSpec.upto Rows.enginePrintsSpec).at F).post enc Tryd.prog Tryd.f3 false true false false) := by
  obtain ⟨places, hx⟩ := reads os enc
  refine returnsInHanded_of_row (C := Tryd.checked) (s := Rows.OpenSpec.upto Rows.enginePrintsSpec) own started (by kernel_rfl) fun3
    (witness_row_at (enc := enc) (C := Tryd.checked) false (laidWorld os) #[.agg #[.int .i64 0, .int .i64 0, .int .i64 0, .bool false, .slice none 0 0], .slice none 0 0] rfl (by kernel_rfl) (by kernel_rfl) (by kernel_rfl)
      (OpenSpec.preRow_of_cond 8 hx (by kernel_rfl) (fun k hk => by cases hk; kernel_rfl) (by kernel_rfl) (laid_met os))) ?_
  intro W base args ds gs before hval hW _ hcond hwt hL _ _
  exact contract' H enc W base args ds gs before hval hW hwt (hcond _ rfl) hL
theorem said : Rows.EnginePrintsUptoSaid :=
  OpenClaim.holds_of_cond 3 Tryd.f3 rfl rfl rfl rfl rfl rfl rfl ⟨rfl, rfl, rfl, rfl, rfl⟩ rfl rfl rfl rfl rfl (by kernel_rfl) fun3 closed
    (of_decide_eq_true (by kernel_rfl)) (by unfold Func.isWrapper; first | (rw [if_pos (by decide +kernel)]; kernel_rfl) | (rw [if_neg (by decide +kernel)]; exact ⟨rfl, rfl⟩))
    (fun os started H enc _ F => by rw [OpenClaim.pre_eq_preRow]; exact lifted os started H enc F)
theorem plain (f : FuncId) (fn : Func) (hf : Tryd.pinned.checked.prog.funcNamed "amnesia/amnesialaw17.EnginePrints" = some f) (hfn : Tryd.pinned.checked.prog.funcs[f]? = some fn) :
    false = Tryd.pinned.checked.prog.looks [] ∧ ∀ (j : Nat) t, fn.params[j]? = some t → Tryd.pinned.checked.prog.wantsStandIn t = false := by
  obtain rfl : f = 3 := Option.some.inj ((show Tryd.prog.funcNamed "amnesia/amnesialaw17.EnginePrints" = some 3 by kernel_rfl).symm.trans hf) |>.symm
  obtain rfl : fn = Tryd.f3 := (Option.some.inj (fun3.symm.trans hfn)).symm
  refine ⟨by kernel_rfl, fun j t ht => ?_⟩
  have ht' : t ∈ Tryd.f3.params.toList := by
    rw [← Array.getElem?_toList] at ht
    exact List.mem_of_getElem? ht
  rw [par3] at ht'
  rcases List.mem_cons.1 ht' with rfl | ht'
  · exact (show Tryd.prog.wantsStandIn 26 = false by kernel_rfl)
  · obtain rfl : t = 27 := List.mem_singleton.1 ht'
    exact (show Tryd.prog.wantsStandIn 27 = false by kernel_rfl)
theorem card : Rows.EnginePrintsUptoCardSaid :=
  Claim7.holds_tied_plain_at .later [] _ _ _ _ said (fun _ h => by cases h) (by kernel_rfl) (fun _ h => by cases h) enginePrintsUpto_row_tie rfl ⟨rfl, rfl⟩ (by kernel_rfl) rfl plain (by kernel_rfl)
end Go.Proofs.YteaplibpphjokaaDoor.rowPrints
