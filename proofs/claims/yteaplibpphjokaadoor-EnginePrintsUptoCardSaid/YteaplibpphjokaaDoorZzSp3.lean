/- Part of a proof: ZzSp3. -/
import Derived.Test.YteaplibpphjokaaDoorZzSp2
set_option linter.unusedSimpArgs false
set_option linter.unusedVariables false
set_option linter.unusedSectionVars false
namespace Go.Vm
open Go (IntKind Fn)
structure Ev where
  k : Int
  nd : Int
  cl : Int
  ix : Int
  at_ : Int
  ct : Int
  cu : Int
  hi : Int
  lo : Int
  ok : Int
  os : Int
  ov : List UInt8
  bs : List UInt8
  deriving Inhabited
def evF : List AV → Ev
  | [.I .i64 k, .I .i64 nd, .I .i64 cl, .I .i64 ix, .I .i64 t, .I .i64 ct, .I .i64 cu, .I .u64 hi, .I .u64 lo, .I .i64 ok, .I .i64 os, .S ov, .Y bs] => ⟨k, nd, cl, ix, t, ct, cu, hi, lo, ok, os, ov, bs⟩
  | _ => ⟨0, 0, 0, 0, 0, 0, 0, 0, 0, 0, 0, [], []⟩
def isEv : List AV → Bool
  | [.I .i64 _, .I .i64 _, .I .i64 _, .I .i64 _, .I .i64 _, .I .i64 _, .I .i64 _, .I .u64 _, .I .u64 _, .I .i64 _, .I .i64 _, .S _, .Y _] => true
  | _ => false
def evA (e : Ev) : List AV := [.I .i64 e.k, .I .i64 e.nd, .I .i64 e.cl, .I .i64 e.ix, .I .i64 e.at_, .I .i64 e.ct, .I .i64 e.cu, .I .u64 e.hi, .I .u64 e.lo, .I .i64 e.ok, .I .i64 e.os, .S e.ov, .Y e.bs]
theorem isEv_ex {l : List AV} (h : isEv l = true) : ∃ e, l = evA e := by
  unfold isEv at h
  split at h
  · exact ⟨⟨_, _, _, _, _, _, _, _, _, _, _, _, _⟩, rfl⟩
  · cases h
def lineB (e : Ev) : List UInt8 :=
  if e.k = 1 then [115, 117, 98, 109, 105, 116] ++ sayB [e.cl] ++ opB e.ok e.os e.ov
  else if e.k = 2 then [114, 101, 116, 114, 121] ++ sayB [e.cl]
  else if e.k = 3 then [100, 101, 108, 105, 118, 101, 114] ++ sayB [e.ix] ++ cutB e.cu
  else if e.k = 4 then [100, 114, 111, 112] ++ sayB [e.ix]
  else if e.k = 5 then [99, 111, 112, 121] ++ sayB [e.ix]
  else if e.k = 6 then [115, 112, 111, 105, 108] ++ sayB [e.ix, e.at_, e.ct]
  else if e.k = 7 then [105, 110, 106, 101, 99, 116] ++ sayB [e.at_, e.nd] ++ ([32] ++ hexB e.bs)
  else if e.k = 8 then [116, 105, 99, 107] ++ sayB [e.nd] ++ cutB e.cu
  else if e.k = 9 then [99, 114, 97, 115, 104] ++ sayB [e.nd]
  else if e.k = 10 then [114, 101, 115, 116, 97, 114, 116] ++ sayB [e.nd] ++ ([32] ++ drawB e.hi e.lo) ++ cutB e.cu
  else if e.k = 11 then [114, 111, 117, 110, 100] ++ sayB [e.ct]
  else if e.k = 12 then [113, 117, 101, 114, 121] ++ sayB [e.cl, e.nd] ++ opB e.ok e.os e.ov
  else []
def badL (e : Ev) : Bool :=
  if e.k = 1 then anyNeg [e.cl] || decide (opErr e.ok e.os e.ov ≠ 0)
  else if e.k = 2 then anyNeg [e.cl]
  else if e.k = 3 then anyNeg [e.ix] || decide (e.cu < 0)
  else if e.k = 4 then anyNeg [e.ix]
  else if e.k = 5 then anyNeg [e.ix]
  else if e.k = 6 then anyNeg [e.ix, e.at_, e.ct]
  else if e.k = 7 then anyNeg [e.at_, e.nd] || decide ((e.bs.length : Int) > 32768)
  else if e.k = 8 then anyNeg [e.nd] || decide (e.cu < 0)
  else if e.k = 9 then anyNeg [e.nd]
  else if e.k = 10 then anyNeg [e.nd] || decide (e.cu < 0)
  else if e.k = 11 then anyNeg [e.ct]
  else if e.k = 12 then anyNeg [e.cl, e.nd] || (decide (e.ok ≠ 3) && decide (e.ok ≠ 4)) || decide (opErr e.ok e.os e.ov ≠ 0)
  else true
def isEvA : AV → Bool
  | .A l => isEv l
  | _ => false
def evAV : AV → Ev
  | .A l => evF l
  | _ => evF []
def sp15 : Sp := ⟨fun l h => match l, h with
  | [.P 0 0, a], [.cells [x, .g (.y 5 buf), .a (.B bad)]] => isWr0 x && (isEvA a && decide (buf.length + (lineB (evAV a)).length + 1 ≤ big))
  | _, _ => false, fun _ _ => .T [], fun l h => match l, h with
  | [_, a], [.cells [_, .g (.y 5 buf), .a (.B bad)]] => wr wr0 (buf ++ lineB (evAV a) ++ [10]) (bad || badL (evAV a))
  | _, _ => h⟩
def cutR (k : Int) : List UInt8 := if 0 < k then [32, 99, 117, 116, 32] ++ decB k.toNat else []
def sp35 : Sp := ⟨fun l _ => match l with
  | [.I .i64 k] => decide (k ≤ 9223372036854775807)
  | _ => false, fun l _ => match l with
  | [.I .i64 k] => .S (cutR k)
  | _ => .U, fun _ _ => []⟩
def sp36 : Sp := spDraw
def sp34 : Sp := ⟨fun l _ => match l with
  | [.A [.I .i64 _, .I .i64 _, .S _]] => true
  | _ => false, fun l _ => match l with
  | [.A [.I .i64 k, .I .i64 s, .S v]] => .I .i64 (opErr k s v)
  | _ => .U, fun _ _ => []⟩
def sp32 : Sp := spCfg fun f room pat => .I .i64 (cfgErr f room pat)
def setErr (f room pat : Int) (ns : List Int) : Int := if cfgOK f room pat = true then (if 16 < ns.length then 152 else if anyNeg ns = true then 152 else 0) else 1
def sp17 : Sp := ⟨fun l _ => match l with
  | [.A [.I .i64 _, .I .i64 _, .I .i64 _, .B _, .L 1 xs]] => xs.all isInt && decide (xs.length ≤ big)
  | _ => false, fun l _ => match l with
  | [.A [.I .i64 f, .I .i64 r, .I .i64 p, .B _, .L 1 xs]] => .I .i64 (setErr f r p (xs.map intOf))
  | _ => .U, fun _ _ => []⟩
def sp8 : Sp := ⟨fun l _ => match l with
  | [.I .i64 _] => true
  | _ => false, fun l _ => match l with
  | [a] => a
  | _ => .U, fun _ _ => []⟩
def sp20 : Sp := ⟨fun l _ => match l with
  | [.Y a, .Y b] => decide (a.length ≤ big) && decide (b.length ≤ big)
  | _ => false, fun l _ => match l with
  | [.Y a, .Y b] => .B (a == b)
  | _ => .U, fun _ _ => []⟩
def sp25 : Sp := ⟨fun l _ => match l with
  | [.Y a] => decide (a.length ≤ big)
  | _ => false, fun l _ => match l with
  | [.Y a] => .Y a
  | _ => .U, fun _ _ => []⟩
def sp6 : Sp := ⟨fun l _ => match l with
  | [.A [.I .i64 _, .I .i64 _, .I .i64 _, .B _, .L 1 xs]] => decide (xs.length * 8 ≤ big)
  | _ => false, fun l _ => match l with
  | [a] => a
  | _ => .U, fun _ _ => []⟩
def sp21 : Sp := spN
def sp22 : Sp := spN
def sp23 : Sp := spN
def sp24 : Sp := spN
def evK (e : Ev) : Int := e.k
end Go.Vm
