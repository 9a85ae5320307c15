/- Part of a proof: ZzSp4. -/
import Derived.Test.YteaplibpphjokaaDoorZzSp3
set_option linter.unusedSimpArgs false
set_option linter.unusedVariables false
set_option linter.unusedSectionVars false
namespace Go.Vm
open Go (IntKind Fn)
def posB (x : Int) : List UInt8 := decB (Int.toNat (if x > 0 then x else 0))
def opR (k s : Int) (v : List UInt8) : List UInt8 :=
  if k = 1 then [119, 114, 105, 116, 101, 32] ++ posB s ++ [32] ++ hexB v else if k = 2 then [97, 112, 112, 101, 110, 100, 32] ++ hexB v else if k = 3 then [114, 101, 97, 100, 32] ++ posB s else if k = 4 then [99, 111, 117, 110, 116] else []
def refS (e : Ev) : List UInt8 :=
  if e.k = 1 then [115, 117, 98, 109, 105, 116, 32] ++ posB e.cl ++ [32] ++ opR e.ok e.os e.ov
  else if e.k = 12 then [113, 117, 101, 114, 121, 32] ++ posB e.cl ++ [32] ++ posB e.nd ++ (if e.ok = 3 then [32, 114, 101, 97, 100, 32] ++ posB e.os else [32, 99, 111, 117, 110, 116])
  else if e.k = 2 then [114, 101, 116, 114, 121, 32] ++ posB e.cl
  else if e.k = 3 then [100, 101, 108, 105, 118, 101, 114, 32] ++ posB e.ix ++ cutR e.cu
  else if e.k = 4 then [100, 114, 111, 112, 32] ++ posB e.ix
  else if e.k = 5 then [99, 111, 112, 121, 32] ++ posB e.ix
  else if e.k = 6 then [115, 112, 111, 105, 108, 32] ++ posB e.ix ++ [32] ++ posB e.at_ ++ [32] ++ posB e.ct
  else if e.k = 7 then [105, 110, 106, 101, 99, 116, 32] ++ posB e.at_ ++ [32] ++ posB e.nd ++ [32] ++ hexB e.bs
  else if e.k = 8 then [116, 105, 99, 107, 32] ++ posB e.nd ++ cutR e.cu
  else if e.k = 9 then [99, 114, 97, 115, 104, 32] ++ posB e.nd
  else if e.k = 10 then [114, 101, 115, 116, 97, 114, 116, 32] ++ posB e.nd ++ [32] ++ drawB e.hi e.lo ++ cutR e.cu
  else if e.k = 11 then [114, 111, 117, 110, 100, 32] ++ posB e.ct
  else []
def i63 (n : Int) : Bool := decide (-9223372036854775808 ≤ n ∧ n ≤ 9223372036854775807)
def u64 (n : Int) : Bool := decide (0 ≤ n ∧ n ≤ 18446744073709551615)
def rngE (e : Ev) : Bool := i63 e.nd && (i63 e.cl && (i63 e.ix && (i63 e.at_ && (i63 e.ct && (i63 e.cu && (i63 e.os && (u64 e.hi && u64 e.lo)))))))
def sp19 : Sp := ⟨fun l _ => match l with
  | [a] => isEvA a && (rngE (evAV a) && decide ((refS (evAV a)).length ≤ big ∧ (evAV a).bs.length ≤ big))
  | _ => false, fun l _ => match l with
  | [a] => .T [.S (refS (evAV a)), .B (!badL (evAV a))]
  | _ => .U, fun _ _ => []⟩
def headB (f r p : Int) (u : Bool) : List UInt8 := [103, 114, 111, 117, 112] ++ sayB [f, r, p] ++ (if u = true then [32, 117, 110, 103, 117, 97, 114, 100, 101, 100] else []) ++ [10]
def cliB (ns : List Int) : List UInt8 := ns.flatMap fun n => [99, 108, 105, 101, 110, 116] ++ sayB [n] ++ [10]
def scrB (es : List Ev) : List UInt8 := es.flatMap fun e => lineB e ++ [10]
def prT (f r p : Int) (u : Bool) (ns : List Int) (es : List Ev) : List UInt8 := if setErr f r p ns = 0 then (if es.any badL = true then [] else headB f r p u ++ cliB ns ++ scrB es) else []
def prE (f r p : Int) (ns : List Int) (es : List Ev) : Int := if setErr f r p ns = 0 then (if es.any badL = true then 150 else 0) else setErr f r p ns
def evsOf (xs : List (List AV)) : List Ev := xs.map evF
def spPr : Sp := ⟨fun l _ => match l with
  | [.A [.I .i64 f, .I .i64 r, .I .i64 p, .B u, .L 1 xs], .L 13 es] => xs.all isInt && (es.all isEv && ((xs.map intOf).all i63 && ((evsOf es).all rngE && ((evsOf es).all (fun e => decide ((refS e).length + (lineB e).length + e.bs.length + 1 ≤ big)) &&
      (i63 f && (i63 r && (i63 p && decide ((headB f r p u).length + (cliB (xs.map intOf)).length + (scrB (evsOf es)).length + es.length + xs.length ≤ big))))))))
  | _ => false, fun l _ => match l with
  | [.A [.I .i64 f, .I .i64 r, .I .i64 p, .B u, .L 1 xs], .L 13 es] => .T [.S (prT f r p u (xs.map intOf) (evsOf es)), .I .i64 (prE f r p (xs.map intOf) (evsOf es))]
  | _ => .U, fun _ _ => []⟩
def sp5 : Sp := spPr
def sp7 : Sp := spPr
def isY1 : List AV → Bool
  | [.Y s] => decide (s.length ≤ big)
  | _ => false
def emp : HV → Bool
  | .g (.e _ _ []) => true
  | _ => false
def isGv : List HV → Bool
  | [.g (.e 82 1 _), .g (.e 82 1 _), .g (.e 80 1 _), .g (.e 80 1 _), .g (.e 90 1 _), .g (.e 90 1 _), .g (.e 88 12 _), .g (.e 88 12 _)] => true
  | _ => false
def sp11 : Sp := ⟨fun l h => match l, h with
  | [.P 0 0, .Y s], [.cells (.g (.e 41 1 xs) :: .g (.e 41 1 ys) :: r)] => decide (s.length + 1 ≤ big ∧ (xs.length + 1) * 24 ≤ big ∧ (ys.length + 1) * 24 ≤ big) && isGv r
  | _, _ => false, fun l _ => match l with
  | [_, .Y s] => .Y s
  | _ => .U, fun l h => match l, h with
  | [_, .Y s], [.cells (.g (.e _ _ xs) :: .g (.e _ _ ys) :: r)] => [.cells (.g (.e 41 1 (xs ++ [[.Y (s ++ [90])]])) :: .g (.e 41 1 (ys ++ [[.Y (s ++ [90])]])) :: r)]
  | _, _ => h⟩
def sp4 : Sp := ⟨fun l h => match l, h with
  | [.P 0 0, a], [.cells (.g (.e 41 1 xs) :: .g (.e 41 1 ys) :: r)] => isEvA a && (decide ((evAV a).bs.length + 1 ≤ big ∧ (xs.length + 1) * 24 ≤ big ∧ (ys.length + 1) * 24 ≤ big) && isGv r)
  | _, _ => false, fun l _ => match l with
  | [_, a] => .A (evA (evAV a))
  | _ => .U, fun l h => match l, h with
  | [_, a], [.cells (.g (.e _ _ xs) :: .g (.e _ _ ys) :: r)] => [.cells (.g (.e 41 1 (xs ++ [[.Y ((evAV a).bs ++ [90])]])) :: .g (.e 41 1 (ys ++ [[.Y ((evAV a).bs ++ [90])]])) :: r)]
  | _, _ => h⟩
def sp10 : Sp := ⟨fun l h => match l, h with
  | [.P 0 0], [.cells [.g (.e 41 1 xs), .g (.e 41 1 ys), .g (.e 82 1 []), .g (.e 82 1 []), .g (.e 80 1 []), .g (.e 80 1 []), .g (.e 90 1 []), .g (.e 90 1 []), .g (.e 88 12 []), .g (.e 88 12 [])]] => xs.all isY1 && (eqVss xs ys && decide (xs.length ≤ big))
  | _, _ => false, fun _ _ => .B true, fun _ h => h⟩
def sp9 : Sp := ⟨fun l _ => match l with
  | [.L 13 a, .L 13 b] => a.all isEv && (eqVss a b && (decide (a.length ≤ big) && (evsOf a).all fun e => decide (e.bs.length ≤ big)))
  | _ => false, fun _ _ => .B true, fun _ _ => []⟩
end Go.Vm
