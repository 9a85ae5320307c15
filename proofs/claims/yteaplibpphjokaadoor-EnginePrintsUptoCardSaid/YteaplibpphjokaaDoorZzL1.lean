/- Part of a proof: ZzL1. -/
import Derived.Test.YteaplibpphjokaaDoorZzSp4
import Derived.Test.YteaplibpphjokaaDoorZzU13
set_option linter.unusedSimpArgs false
set_option linter.unusedVariables false
set_option linter.unusedSectionVars false
namespace Go.Vm
open Go (IntKind Fn)
theorem chkD {p : Prop} [Decidable p] (h : p) (r : Res) : chk (decide p) r = r := chk_t (decide_eq_true h) r
theorem iteT {p : Prop} [Decidable p] (h : p) (r q : Res) : bIte (decide p) r q = r := bIte_t (decide_eq_true h) r q
theorem iteF {p : Prop} [Decidable p] (h : ¬ p) (r q : Res) : bIte (decide p) r q = q := bIte_f (decide_eq_false h) r q
theorem beqT {a b : Int} (h : a = b) (r q : Res) : bIte (a == b) r q = r := bIte_t (by simpa using h) r q
theorem beqF {a b : Int} (h : ¬ a = b) (r q : Res) : bIte (a == b) r q = q := bIte_f (by simpa using h) r q
theorem bneT {a b : Int} (h : ¬ a = b) (r q : Res) : bIte (a != b) r q = r := bIte_t (by simpa using h) r q
theorem bneF {a b : Int} (h : a = b) (r q : Res) : bIte (a != b) r q = q := bIte_f (by simpa using h) r q
theorem pre14 {x : HV} {buf s : List UInt8} {bad : Bool} (hx : okZ 63 0 x = true) (h : buf.length + s.length ≤ 140737488355328) :
    Sp.pre sp14 [AV.P 0 0, AV.S s] [HO.cells [x, HV.g (SC.y 5 buf), HV.a (AV.B bad)]] = true := by
  show (okZ 63 0 x && (decide (buf.length + s.length ≤ 140737488355328) && Nat.beq 3 3)) = true
  rw [hx, decide_eq_true h]; rfl
def mkI (n : Int) : List AV := [AV.I .i64 n]
theorem ints_of : ∀ (xs : List (List AV)), xs.all isInt = true → xs = (xs.map intOf).map mkI
  | [], _ => rfl
  | x :: xs, h => by
    simp only [List.all_cons, Bool.and_eq_true] at h
    simp only [List.map_cons]
    rw [← ints_of xs h.2]
    congr 1
    have h1 := h.1
    unfold isInt at h1
    split at h1
    · rfl
    · cases h1
theorem getD_mapI (p r : List Int) (n : Int) : List.getD ((p ++ n :: r).map mkI) p.length [] = mkI n := by
  rw [List.getD_eq_getElem?_getD, List.getElem?_map, List.getElem?_append_right (Nat.le_refl _)]
  simp
theorem sayB_cons (n : Int) (r : List Int) : sayB (n :: r) = ([32] ++ decI n) ++ sayB r := rfl
theorem anyNeg_cons (n : Int) (r : List Int) : anyNeg (n :: r) = (decide (n < 0) || anyNeg r) := rfl
theorem pre26 (n : Int) : Sp.pre sp26 [AV.I .i64 n] [] = true := rfl
theorem f13_L1_law (k : Nat) : ∀ (r p : List Int) (buf : List UInt8) (bad : Bool), (p ++ r).length ≤ 140737488355328 → buf.length + (sayB r).length ≤ 140737488355328 →
    f13_L1 (k + r.length + 1) ((p ++ r).map mkI) ((p ++ r).length : Int) (p.length : Int) buf bad = .ret (.T []) (wr wr0 (buf ++ sayB r) (bad || anyNeg r)) := by
  intro r
  induction r with
  | nil =>
    intro p buf bad h1 h2
    show f13_L1 (k + 1) _ _ _ _ _ = _
    rw [f13_L1, iteF (by simp)]
    simp [sayB, anyNeg, wr, wr0]
  | cons n r ih =>
    intro p buf bad h1 h2
    rw [sayB_cons] at h2
    simp only [List.length_append, List.length_cons, List.length_nil] at h1 h2
    have step : ∀ b : Bool, f13_p2 (f13_L1 (k + r.length + 1)) (AV.I .i64 n) ((p ++ n :: r).map mkI) ((p ++ n :: r).length : Int) (p.length : Int) buf b = .ret (.T []) (wr wr0 (buf ++ sayB (n :: r)) (b || anyNeg r)) := by
      intro b
      have e1 : Sp.val sp26 [AV.I .i64 n] [] = .S (decI n) := rfl
      rw [f13_p2, chk_t (b := noPs [AV.I .i64 n]) rfl, chk_t (pre26 n), chk_t (b := noP (Sp.val sp26 [AV.I .i64 n] [])) rfl, e1]
      show chk _ _ = _
      rw [chkD (by omega), chk_t (pre14 rfl (by simp only [List.length_append, List.length_cons, List.length_nil]; omega)), f13_p5, wrap_i64 (by omega)]
      have e : p ++ n :: r = (p ++ [n]) ++ r := by simp
      have e2 : ((p.length : Int) + 1) = (((p ++ [n]).length : Nat) : Int) := by simp
      rw [e, e2, ih (p ++ [n]) _ _ (by simp only [List.length_append, List.length_cons, List.length_nil]; omega) (by simp only [List.length_append, List.length_cons, List.length_nil]; omega), sayB_cons]
      simp only [List.append_assoc]
    show f13_L1 (k + r.length + 1 + 1) _ _ _ _ _ = _
    rw [f13_L1, iteT (by simp; omega), ix_t (by simp)]
    simp only [getD_mapI]
    show bIte bad (f13_p2 _ (AV.I .i64 n) _ _ _ _ _) (f13_p2 _ (AV.I .i64 n) _ _ _ _ _) = _
    cases bad with
    | true =>
      rw [bIte_t rfl, step]
      rfl
    | false =>
      rw [bIte_f rfl, step, anyNeg_cons]
      simp
theorem f13_law (x : HV) (s buf : List UInt8) (bad : Bool) (ns : List Int) (hx : okZ 63 0 x = true) (h1 : ns.length ≤ 140737488355328) (h2 : buf.length + s.length + (sayB ns).length ≤ 140737488355328) :
    f13_e s (ns.map mkI) x buf bad = .ret (.T []) (wr wr0 (buf ++ s ++ sayB ns) (bad || anyNeg ns)) := by
  rw [f13_e, chk_t (pre14 hx (by omega)), f13_p0]
  obtain ⟨k, hk⟩ : ∃ k, FU = k + ns.length + 1 := ⟨FU - (ns.length + 1), by have := FU_ge; omega⟩
  show f13_L1 FU _ _ _ _ _ = _
  have := f13_L1_law k ns [] (buf ++ s) bad (by simpa using h1) (by simpa using h2)
  rw [hk]
  simpa using this
theorem sp13_ok (l : List AV) (h : List HO) (hp : sp13.pre l h = true) : f13_sem l h = .ret (sp13.val l h) (sp13.hp l h) := by
  unfold sp13 at hp
  dsimp only at hp
  split at hp
  case h_2 => cases hp
  rename_i s xs x buf bad
  simp only [Bool.and_eq_true, decide_eq_true_eq] at hp
  obtain ⟨h1, h2, h3, h4⟩ := hp
  rw [f13_eq]
  have e := ints_of xs h2
  have := f13_law x s buf bad (xs.map intOf) h1 (by simpa [big] using h4) h3
  rw [← e] at this
  rw [this]
  rfl
end Go.Vm
