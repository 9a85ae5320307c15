/- Part of a proof: ZzSp2. -/
import Derived.Test.YteaplibpphjokaaDoorZzU13
import Derived.Test.YteaplibpphjokaaDoorZzSp1
set_option linter.unusedSimpArgs false
set_option linter.unusedVariables false
set_option linter.unusedSectionVars false
namespace Go.Vm
open Go (IntKind Fn)
def wr (x : HV) (buf : List UInt8) (bad : Bool) : List HO := [.cells [x, .g (.y 5 buf), .a (.B bad)]]
def wr0 : HV := .a (.P 0 0)
def isWr0 : HV → Bool
  | .a (.P 0 0) => true
  | _ => false
def sayB (l : List Int) : List UInt8 := l.flatMap fun n => 32 :: decI n
def anyNeg (l : List Int) : Bool := l.any fun n => decide (n < 0)
def isInt : List AV → Bool
  | [.I .i64 _] => true
  | _ => false
def intOf : List AV → Int
  | [.I .i64 n] => n
  | _ => 0
def big : Nat := 140737488355328
def sp13 : Sp := ⟨fun l h => match l, h with
  | [.P 0 0, .S s, .L 1 xs], [.cells [x, .g (.y 5 buf), .a (.B bad)]] => okZ 63 0 x && (xs.all isInt && decide (buf.length + s.length + (sayB (xs.map intOf)).length ≤ big ∧ xs.length ≤ big))
  | _, _ => false, fun _ _ => .T [], fun l h => match l, h with
  | [_, .S s, .L _ xs], [.cells [_, .g (.y 5 buf), .a (.B bad)]] => wr wr0 (buf ++ s ++ sayB (xs.map intOf)) (bad || anyNeg (xs.map intOf))
  | _, _ => h⟩
def cutB (k : Int) : List UInt8 := if 0 < k then [32, 99, 117, 116, 32] ++ decI k else []
def sp29 : Sp := ⟨fun l h => match l, h with
  | [.P 0 0, .I .i64 k], [.cells [x, .g (.y 5 buf), .a (.B bad)]] => isWr0 x && decide (buf.length + (cutB k).length ≤ big)
  | _, _ => false, fun _ _ => .T [], fun l h => match l, h with
  | [_, .I .i64 k], [.cells [_, .g (.y 5 buf), .a (.B bad)]] => wr wr0 (buf ++ cutB k) (bad || decide (k < 0))
  | _, _ => h⟩
def opB (k s : Int) (v : List UInt8) : List UInt8 :=
  if k = 1 then [32, 119, 114, 105, 116, 101, 32] ++ decI s ++ [32] ++ hexB v else if k = 2 then [32, 97, 112, 112, 101, 110, 100, 32] ++ hexB v else if k = 3 then [32, 114, 101, 97, 100, 32] ++ decI s else if k = 4 then [32, 99, 111, 117, 110, 116] else []
def sp28 : Sp := ⟨fun l h => match l, h with
  | [.P 0 0, .A [.I .i64 k, .I .i64 s, .S v]], [.cells [x, .g (.y 5 buf), .a (.B bad)]] => isWr0 x && decide (buf.length + (opB k s v).length ≤ big)
  | _, _ => false, fun _ _ => .T [], fun l h => match l, h with
  | [_, .A [.I .i64 k, .I .i64 s, .S v]], [.cells [_, .g (.y 5 buf), .a (.B bad)]] => wr wr0 (buf ++ opB k s v) (bad || decide (opErr k s v ≠ 0))
  | _, _ => h⟩
def drawB (hi lo : Int) : List UInt8 := decB hi.toNat ++ [46] ++ decB lo.toNat
def spDraw : Sp := ⟨fun l _ => match l with
  | [.A [.I .u64 _, .I .u64 _]] => true
  | _ => false, fun l _ => match l with
  | [.A [.I .u64 a, .I .u64 b]] => .S (drawB a b)
  | _ => .U, fun _ _ => []⟩
def sp31 : Sp := spDraw
end Go.Vm
