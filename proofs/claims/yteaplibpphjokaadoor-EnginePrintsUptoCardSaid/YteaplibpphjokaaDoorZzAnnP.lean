/- Part of a proof: ZzAnnP. -/
import Derived.Test.YteaplibpphjokaaDoorProg
import Derived.Test.YteaplibpphjokaaDoorVE
set_option linter.unusedSimpArgs false
set_option linter.unusedVariables false
set_option linter.unusedSectionVars false
namespace Go.Vm
open Go Go.Proofs
def globs : Nat → Option (List AV) := fun g => match g with
  | 0 => some [.I .u64 1, .I .u64 10, .I .u64 100, .I .u64 1000, .I .u64 10000, .I .u64 100000, .I .u64 1000000, .I .u64 10000000, .I .u64 100000000, .I .u64 1000000000, .I .u64 10000000000, .I .u64 100000000000, .I .u64 1000000000000, .I .u64 10000000000000, .I .u64 100000000000000, .I .u64 1000000000000000, .I .u64 10000000000000000, .I .u64 100000000000000000, .I .u64 1000000000000000000, .I .u64 10000000000000000000]
  | _ => none
def eatsL : List (Nat × TypeId) := []
def freshL : List (Nat × TypeId) := [(25, 5)]
def freshO (l : List (Nat × TypeId)) (f : Nat) : Option TypeId := match l with
  | [] => none
  | (k, t) :: r => bif Nat.beq k f then some t else freshO r f
def pureL : List Nat := [2, 3, 5, 6, 7, 8, 9, 12, 17, 18, 19, 20, 21, 22, 23, 24, 25, 26, 30, 31, 32, 33, 34, 35, 36, 37, 38, 39, 40, 41, 43, 44, 45, 46, 47, 48, 49, 50, 51, 52, 53, 54, 55, 56, 57, 58, 59, 82]
noncomputable def cx : Cx := { P := Tryd.prog, glob := globs, pure := fun f => pureL.contains f, fresh := freshO freshL, eats := freshO eatsL, bound := 140737488355328, iter := fun _ _ => none }
def dynL : List (Nat × List Nat) := []
def ann2x (fu : Nat) : Ann := mkA true none none true fu [] [] [] [] [] [] [] [] []
def ann3x (fu : Nat) : Ann := mkA true none none true fu [] [] [5] [] [] [] [] [] [(4, [1, 2, 5, 6, 7], [2, 6]), (5, [1, 2, 5, 6, 7], [2, 6]), (7, [1, 2, 5, 6], [2, 6])]
def ann4x (fu : Nat) : Ann := mkA false none none true fu [] [] [] [] [] [] [] [] []
def ann5x (fu : Nat) : Ann := mkA true none none true fu [] [] [20] [] [] [] [] [] [(9, [1, 2, 7], [2]), (13, [1, 7, 47, 48, 49], []), (17, [1, 7, 47, 48, 49], []), (18, [1, 7], []), (21, [7, 67, 68, 69], []), (26, [7, 67, 68, 69], []), (27, [7], [])]
def ann6x (fu : Nat) : Ann := mkA true none none true fu [] [] [] [] [] [] [] [] []
def ann7x (fu : Nat) : Ann := mkA true none none true fu [] [] [] [] [] [] [] [] [(7, [1, 2, 7], [2]), (9, [1, 2, 7, 8], [2]), (10, [1, 2, 7, 8], [2]), (12, [1, 7], []), (13, [1, 7, 9], []), (14, [1, 7, 9], []), (19, [7], [])]
def ann8x (fu : Nat) : Ann := mkA true none none true fu [] [] [] [] [] [] [] [] []
def ann9x (fu : Nat) : Ann := mkA true none none true fu [] [] [] [] [] [] [] [] [(4, [0, 1, 5], []), (5, [0, 1, 5], []), (9, [], [])]
def ann10x (fu : Nat) : Ann := mkA false none none true fu [] [] [] [] [] [] [] [] [(2, [0, 3], []), (3, [0, 3], []), (6, [0], []), (7, [0, 4], []), (8, [0, 4], []), (11, [0], []), (12, [0, 5], []), (13, [0, 5], []), (16, [0], []), (17, [0, 6], []), (18, [0, 6], []), (21, [0], []), (22, [0, 7], []), (23, [0, 7], []), (26, [], [])]
def ann11x (fu : Nat) : Ann := mkA false none none true fu [] [4] [] [] [] [] [] [] []
def ann12x (fu : Nat) : Ann := mkA true none none true fu [] [] [] [] [] [] [] [] [(3, [], [])]
def ann13x (fu : Nat) : Ann := mkA false none none true fu [] [] [] [] [] [] [] [] [(2, [0, 13, 14, 15], []), (5, [0, 7, 13, 14, 15], []), (6, [0, 13, 14, 15], [])]
def ann14x (fu : Nat) : Ann := mkA false none none true fu [] [] [] [] [] [] [] [] []
def ann15x (fu : Nat) : Ann := mkA false none none true fu [] [] [] [] [] [] [] [] [(20, [0, 3], [3]), (35, [0, 3], [3]), (36, [0], [])]
def ann16x (fu : Nat) : Ann := mkA false none none true fu [] [] [] [] [] [] [] [] []
def ann17x (fu : Nat) : Ann := mkA true none none true fu [] [] [] [] [] [] [] [] [(6, [1, 3], [1]), (7, [1, 3], [1]), (10, [], [])]
def ann18x (fu : Nat) : Ann := mkA true none none true fu [] [] [] [] [] [] [] [] [(2, [0, 3], []), (5, [0, 3], [])]
def ann19x (fu : Nat) : Ann := mkA true none none true fu [] [] [] [] [] [] [] [] [(13, [1, 4], [1]), (19, [1, 5], [1]), (40, [], [])]
def ann20x (fu : Nat) : Ann := mkA true none none true fu [] [] [] [] [] [] [] [] []
def ann21x (fu : Nat) : Ann := mkA true none none true fu [] [] [] [] [] [] [] [] []
def ann22x (fu : Nat) : Ann := mkA true none none true fu [] [] [] [] [] [] [] [] [(4, [0, 1, 5], []), (5, [0, 1, 5], []), (8, [], [])]
def ann23x (fu : Nat) : Ann := mkA true none none true fu [] [] [] [] [] [] [] [] [(4, [0, 1, 5], []), (5, [0, 1, 5], []), (8, [], [])]
def ann24x (fu : Nat) : Ann := mkA true none none true fu [] [] [] [] [] [] [] [] [(4, [0, 1, 5], []), (5, [0, 1, 5], []), (8, [], [])]
def ann25x (fu : Nat) : Ann := mkA true (some 5) none true fu [] [2] [] [] [] [] [] [] []
def ann26x (fu : Nat) : Ann := mkA true none none true fu [] [] [] [] [] [] [] [] []
def ann27x (fu : Nat) : Ann := mkA false none none true fu [] [] [] [] [] [] [] [] []
def ann28x (fu : Nat) : Ann := mkA false none none true fu [] [] [] [] [] [] [] [] [(2, [0, 3], [3])]
def ann29x (fu : Nat) : Ann := mkA false none none true fu [] [] [] [] [] [] [] [] [(1, [0, 1], [])]
def ann30x (fu : Nat) : Ann := mkA true none none true fu [] [] [] [] [] [] [] [] [(5, [0, 3, 8, 9], [3]), (8, [0, 3, 8, 9], [3]), (9, [3], [3])]
def ann31x (fu : Nat) : Ann := mkA true none none true fu [] [] [] [] [] [] [] [] []
def ann32x (fu : Nat) : Ann := mkA true none none true fu [] [] [] [] [] [] [] [] []
def ann33x (fu : Nat) : Ann := mkA true none none true fu [] [] [] [] [] [] [] [] [(5, [0, 3, 4], [3]), (6, [0, 3, 4], [3]), (8, [3], [3])]
def ann34x (fu : Nat) : Ann := mkA true none none true fu [] [] [] [] [] [] [] [] [(7, [1, 3, 4, 5, 6], [1]), (9, [1, 3, 4, 5, 6], [1]), (11, [], [])]
def ann35x (fu : Nat) : Ann := mkA true none none true fu [] [] [] [] [] [] [] [] []
def ann36x (fu : Nat) : Ann := mkA true none none true fu [] [] [] [] [] [] [] [] []
def ann37x (fu : Nat) : Ann := mkA true none none true fu [] [] [] [] [] [] [] [] [(4, [0, 1, 5], []), (5, [0, 1, 5], []), (8, [], [])]
def ann38x (fu : Nat) : Ann := mkA true none none true fu [] [] [] [] [] [] [] [] [(4, [0, 1, 5], []), (5, [0, 1, 5], []), (8, [], [])]
def ann39x (fu : Nat) : Ann := mkA true none none true fu [] [] [] [] [] [] [] [] [(4, [0, 1, 5], []), (5, [0, 1, 5], []), (8, [], [])]
def ann40x (fu : Nat) : Ann := mkA true none none true fu [] [] [] [] [] [] [] [] [(4, [0, 1, 5], []), (5, [0, 1, 5], []), (8, [], [])]
def ann41x (fu : Nat) : Ann := mkA true none none true fu [] [] [] [] [] [] [] [] []
def ann43x (fu : Nat) : Ann := mkA true none none true fu [] [] [] [] [] [] [] [] [(5, [1], [1]), (7, [1, 5], [1]), (11, [1], [1]), (15, [1], [1]), (16, [1, 3], [1])]
def ann44x (fu : Nat) : Ann := mkA true none none true fu [] [] [] [] [] [] [] [] []
def ann45x (fu : Nat) : Ann := mkA true none none true fu [] [] [] [] [] [] [] [] []
def ann46x (fu : Nat) : Ann := mkA true none none true fu [] [] [] [] [] [] [] [] [(2, [0, 3], []), (5, [3], [])]
def ann47x (fu : Nat) : Ann := mkA true none none true fu [5] [] [5] [] [] [] [] [] [(4, [0], []), (8, [0, 5, 6], [])]
def ann48x (fu : Nat) : Ann := mkA true none none true fu [] [] [5] [] [] [] [] [] []
def ann49x (fu : Nat) : Ann := mkA true none none true fu [] [] [] [] [] [] [] [] []
def ann50x (fu : Nat) : Ann := mkA true none none true fu [] [] [] [] [] [] [] [] []
def ann51x (fu : Nat) : Ann := mkA true none none true fu [] [] [] [] [] [] [] [] [(1, [0, 1, 4], []), (12, [0, 1, 4], []), (20, [0, 4, 12], []), (25, [0, 4, 12], [])]
def ann52x (fu : Nat) : Ann := mkA true none none true fu [12] [10] [12] [] [] [] [] [] [(3, [0, 1, 2, 3, 4, 10, 11], []), (7, [0, 1, 2, 3, 4, 10, 11, 12, 13], []), (11, [0, 1, 3, 4, 10, 11, 12, 13, 14, 15, 16], []), (15, [0, 1, 3, 4, 10, 11, 12, 13], []), (18, [0, 1, 3, 4, 10, 11, 12, 13, 17], []), (23, [0, 1, 3, 4, 10, 11, 12, 13], []), (25, [0, 3, 4, 10, 11, 12, 13], []), (28, [0, 4, 10, 11, 12, 13], [])]
def ann53x (fu : Nat) : Ann := mkA true none none true fu [] [] [] [] [] [] [] [] []
def ann54x (fu : Nat) : Ann := mkA true none none true fu [] [] [] [] [] [] [] [] [(4, [0, 2], []), (7, [0, 2], []), (10, [0, 2], [])]
def ann55x (fu : Nat) : Ann := mkA true none none true fu [] [] [] [] [] [] [] [] []
def ann56x (fu : Nat) : Ann := mkA true none none true fu [] [] [] [] [] [] [] [] []
def ann57x (fu : Nat) : Ann := mkA true none none true fu [] [] [] [] [] [] [] [] []
def ann58x (fu : Nat) : Ann := mkA true none none true fu [] [] [] [] [] [] [] [] []
def ann59x (fu : Nat) : Ann := mkA true none none true fu [] [] [] [] [] [] [] [] []
def ann82x (fu : Nat) : Ann := mkA true none none true fu [] [] [] [] [] [] [] [] []
noncomputable def FU : Nat := Classical.choose (⟨9223372036854775808, Nat.le_refl _⟩ : ∃ n : Nat, 9223372036854775808 ≤ n)
theorem FU_ge : 9223372036854775808 ≤ FU := Classical.choose_spec (⟨9223372036854775808, Nat.le_refl _⟩ : ∃ n : Nat, 9223372036854775808 ≤ n)
end Go.Vm
