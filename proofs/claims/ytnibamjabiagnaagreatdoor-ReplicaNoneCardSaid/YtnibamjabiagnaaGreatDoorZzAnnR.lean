/- Part of a proof: ZzAnnR. -/
import Derived.Test.YtnibamjabiagnaaGreatDoorProg
import Derived.Test.YtnibamjabiagnaaGreatDoorVD
import Derived.Test.YtnibamjabiagnaaGreatDoorVE
set_option linter.unusedSimpArgs false
set_option linter.unusedVariables false
set_option linter.unusedSectionVars false
namespace Go.Vm
open Go Go.Proofs
def globs : Nat → Option (List AV) := fun g => match g with
  | 0 => some [.B false, .B false, .B false, .B false, .B false, .B false, .B false, .B false, .B false, .B false, .B false, .B false, .B false, .B false, .B false, .B false, .B true, .B false, .B false, .B false, .B true, .B true, .B false, .B true, .B false, .B false, .B true, .B true, .B false, .B false, .B true, .B true, .B false, .B true, .B true, .B false, .B true, .B false, .B false, .B true, .B true, .B true, .B false, .B true, .B false, .B false, .B false, .B false, .B false, .B true, .B true, .B true, .B false, .B false, .B true, .B false, .B false, .B false, .B false, .B true, .B true, .B true, .B false, .B false, .B false, .B false, .B false, .B false, .B false, .B true, .B true, .B true, .B true, .B false, .B true, .B false, .B false, .B false, .B true, .B true, .B true, .B true, .B false, .B false, .B true, .B false, .B false, .B false, .B true, .B true, .B true, .B false, .B false, .B false, .B false, .B true, .B false, .B false, .B false, .B true, .B true, .B true, .B false, .B false, .B true, .B true, .B false, .B false, .B true, .B true, .B true, .B true, .B false, .B false, .B false, .B false, .B false, .B false, .B false, .B true, .B true, .B true, .B false, .B false, .B true, .B false, .B false, .B false, .B true, .B true, .B false, .B false, .B false, .B true, .B false, .B false, .B true, .B false, .B false, .B false, .B true, .B true, .B false, .B false, .B true, .B false, .B true, .B true, .B false, .B false]
  | 1 => some [.I .u32 0, .I .u32 498536548, .I .u32 997073096, .I .u32 651767980, .I .u32 1994146192, .I .u32 1802195444, .I .u32 1303535960, .I .u32 1342533948, .I .u32 3988292384, .I .u32 4027552580, .I .u32 3604390888, .I .u32 3412177804, .I .u32 2607071920, .I .u32 2262029012, .I .u32 2685067896, .I .u32 3183342108]
  | _ => none
def eatsL : List (Nat × TypeId) := [(100, 5), (101, 5), (102, 5), (103, 5)]
def freshL : List (Nat × TypeId) := [(34, 5)]
def freshO (l : List (Nat × TypeId)) (f : Nat) : Option TypeId := match l with
  | [] => none
  | (k, t) :: r => bif Nat.beq k f then some t else freshO r f
def pureL : List Nat := [2, 3, 4, 5, 6, 7, 9, 10, 13, 14, 16, 18, 20, 22, 23, 24, 26, 27, 28, 29, 30, 34, 35, 36, 40, 42, 43, 44, 45, 46, 47, 48, 49, 50, 51, 52, 53, 54, 55, 56, 57, 58, 59, 60, 61, 62, 63, 64, 65, 66, 67, 68, 69, 70, 71, 72, 73, 76, 80, 83, 84, 85, 86, 87, 88, 89, 90, 91, 92, 93, 94, 95, 96, 97, 98, 99, 100, 101, 102, 103, 104, 105, 106, 107, 108, 112, 115, 117, 118, 119, 120, 121, 122, 123, 124, 125, 126, 127, 128, 129, 133, 134, 139, 140, 141, 142, 143, 144, 145, 146, 147, 148, 149, 150, 151, 152, 153, 154, 155, 165, 166, 167, 168, 169, 170, 173, 174, 175, 176, 177, 178, 179, 180, 181, 182, 183, 184, 185, 186, 187, 188, 193, 200, 201, 206, 207, 208, 212, 213, 214, 215, 216, 217, 218, 219, 221, 222, 226, 227, 233, 234, 236, 237, 238, 239, 240, 241, 242, 243, 245, 246, 247, 248, 249, 250, 251, 252, 253, 254, 255, 256, 257, 258, 259, 260, 261, 262, 263, 264, 265, 266, 267, 269, 270, 271, 273, 274, 275, 278, 279, 280, 299, 300, 301, 302, 303, 304, 305, 306, 307, 308, 309, 310, 311, 312, 313, 320]
noncomputable def cx : Cx := { P := Tryz.prog, glob := globs, pure := fun f => pureL.contains f, fresh := freshO freshL, eats := freshO eatsL, bound := 140737488355328, iter := fun f cs => bif Nat.beq f 170 then eachI 5 cs else none }
def dynL : List (Nat × List Nat) := [(33, [118, 119, 120, 121, 122, 123, 124, 125, 126, 127, 128, 129]), (140, [93]), (166, [194, 195, 196, 197, 198]), (167, [229, 230, 231]), (168, [202, 203, 204, 205]), (170, []), (175, [93]), (180, [93]), (181, [93]), (182, [93]), (206, [174]), (207, [93]), (236, [174]), (241, [174]), (242, [174]), (243, [174]), (244, [93]), (247, [251]), (248, [249]), (252, [256]), (253, [254]), (257, [261]), (258, [259]), (262, [266]), (263, [264]), (275, [174]), (281, [174])]
def ann2x (fu : Nat) : Ann := { drop := true, fresh := none, eat := none, dynPure := true, fuel := fu, excl := fun n => [].contains n, asV := fun n => [].contains n, heapSite := fun n => [].contains n, narrow := fun n => [].contains n, win := fun n => [].contains n, frz := fun n => [].contains n, rfix := fun n => lkR n [], live := fun r => lkA r [] }
noncomputable def ann2 : Ann := ann2x FUEL
def ann3x (fu : Nat) : Ann := { drop := true, fresh := none, eat := none, dynPure := true, fuel := fu, excl := fun n => [].contains n, asV := fun n => [].contains n, heapSite := fun n => [].contains n, narrow := fun n => [].contains n, win := fun n => [].contains n, frz := fun n => [].contains n, rfix := fun n => lkR n [], live := fun r => lkA r [(5, [4, 5, 9, 10], [4, 5]), (6, [2, 3, 4, 9], [4]), (7, [2, 3, 4, 9, 11], [4]), (8, [2, 3, 4, 9, 11], [4]), (12, [3, 4, 9], [4])] }
noncomputable def ann3 : Ann := ann3x FUEL
def ann4x (fu : Nat) : Ann := { drop := true, fresh := none, eat := none, dynPure := true, fuel := fu, excl := fun n => [].contains n, asV := fun n => [].contains n, heapSite := fun n => [4].contains n, narrow := fun n => [].contains n, win := fun n => [].contains n, frz := fun n => [].contains n, rfix := fun n => lkR n [], live := fun r => lkA r [] }
noncomputable def ann4 : Ann := ann4x FUEL
def ann5x (fu : Nat) : Ann := { drop := true, fresh := none, eat := none, dynPure := true, fuel := fu, excl := fun n => [].contains n, asV := fun n => [].contains n, heapSite := fun n => [].contains n, narrow := fun n => [].contains n, win := fun n => [].contains n, frz := fun n => [].contains n, rfix := fun n => lkR n [], live := fun r => lkA r [(6, [4, 5, 9, 10, 11, 12], [4, 5]), (7, [2, 3, 4, 5, 9, 11], [4, 5]), (8, [2, 3, 4, 5, 9, 11, 13], [4, 5]), (9, [2, 3, 4, 5, 9, 11, 13], [4, 5]), (15, [2, 3, 4, 5, 9, 11, 13], [4, 5]), (18, [2, 4, 5, 9, 11], [4, 5]), (21, [2, 4, 9, 11, 15], [4]), (22, [2, 4, 9, 11, 15], [4]), (26, [9, 11], [])] }
noncomputable def ann5 : Ann := ann5x FUEL
def ann6x (fu : Nat) : Ann := { drop := true, fresh := none, eat := none, dynPure := true, fuel := fu, excl := fun n => [].contains n, asV := fun n => [11, 79, 171].contains n, heapSite := fun n => [].contains n, narrow := fun n => [].contains n, win := fun n => [].contains n, frz := fun n => [].contains n, rfix := fun n => lkR n [], live := fun r => lkA r [(5, [3, 4, 7, 8], [3, 4]), (6, [2, 3, 4, 7], [3, 4]), (10, [2, 3, 4, 7, 9, 10], [3, 4, 9]), (11, [2, 3, 4, 7, 9, 10], [3, 4, 9]), (25, [2, 3, 4, 7, 9, 10, 11, 13], [3, 4, 9]), (28, [2, 3, 4, 7, 9, 10, 11, 13, 17, 18, 19], [3, 4, 9, 17, 116]), (30, [2, 3, 4, 7, 9, 10, 13, 17], [3, 4, 9, 17]), (31, [2, 3, 4, 7, 9, 10, 17], [3, 4, 9, 17]), (34, [2, 3, 4, 7, 9, 10, 17, 20], [3, 4, 9, 17]), (35, [2, 3, 4, 7, 9, 10, 17, 20], [3, 4, 9, 17]), (38, [2, 3, 4, 7, 9, 10, 17], [3, 4, 9, 17]), (39, [], [])] }
noncomputable def ann6 : Ann := ann6x FUEL
def ann7x (fu : Nat) : Ann := { drop := true, fresh := none, eat := none, dynPure := true, fuel := fu, excl := fun n => [].contains n, asV := fun n => [].contains n, heapSite := fun n => [].contains n, narrow := fun n => [].contains n, win := fun n => [].contains n, frz := fun n => [].contains n, rfix := fun n => lkR n [], live := fun r => lkA r [(4, [1], [])] }
noncomputable def ann7 : Ann := ann7x FUEL
def ann8x (fu : Nat) : Ann := { drop := false, fresh := none, eat := none, dynPure := true, fuel := fu, excl := fun n => [].contains n, asV := fun n => [].contains n, heapSite := fun n => [19].contains n, narrow := fun n => [].contains n, win := fun n => [].contains n, frz := fun n => [].contains n, rfix := fun n => lkR n [], live := fun r => lkA r [] }
noncomputable def ann8 : Ann := ann8x FUEL
def ann9x (fu : Nat) : Ann := { drop := true, fresh := none, eat := none, dynPure := true, fuel := fu, excl := fun n => [].contains n, asV := fun n => [].contains n, heapSite := fun n => [].contains n, narrow := fun n => [].contains n, win := fun n => [].contains n, frz := fun n => [].contains n, rfix := fun n => lkR n [], live := fun r => lkA r [] }
noncomputable def ann9 : Ann := ann9x FUEL
def ann10x (fu : Nat) : Ann := { drop := true, fresh := none, eat := none, dynPure := true, fuel := fu, excl := fun n => [].contains n, asV := fun n => [].contains n, heapSite := fun n => [].contains n, narrow := fun n => [].contains n, win := fun n => [].contains n, frz := fun n => [].contains n, rfix := fun n => lkR n [], live := fun r => lkA r [(4, [5], [7])] }
noncomputable def ann10 : Ann := ann10x FUEL
def ann11x (fu : Nat) : Ann := { drop := false, fresh := none, eat := none, dynPure := true, fuel := fu, excl := fun n => [].contains n, asV := fun n => [2].contains n, heapSite := fun n => [3].contains n, narrow := fun n => [].contains n, win := fun n => [].contains n, frz := fun n => [].contains n, rfix := fun n => lkR n [], live := fun r => lkA r [(3, [0, 3], [])] }
noncomputable def ann11 : Ann := ann11x FUEL
def ann12x (fu : Nat) : Ann := { drop := false, fresh := none, eat := none, dynPure := true, fuel := fu, excl := fun n => [].contains n, asV := fun n => [4].contains n, heapSite := fun n => [5].contains n, narrow := fun n => [].contains n, win := fun n => [].contains n, frz := fun n => [].contains n, rfix := fun n => lkR n [], live := fun r => lkA r [(3, [0, 1, 5], [])] }
noncomputable def ann12 : Ann := ann12x FUEL
def ann13x (fu : Nat) : Ann := { drop := true, fresh := none, eat := none, dynPure := true, fuel := fu, excl := fun n => [].contains n, asV := fun n => [4].contains n, heapSite := fun n => [].contains n, narrow := fun n => [].contains n, win := fun n => [].contains n, frz := fun n => [].contains n, rfix := fun n => lkR n [], live := fun r => lkA r [] }
noncomputable def ann13 : Ann := ann13x FUEL
def ann14x (fu : Nat) : Ann := { drop := true, fresh := none, eat := none, dynPure := true, fuel := fu, excl := fun n => [].contains n, asV := fun n => [].contains n, heapSite := fun n => [11].contains n, narrow := fun n => [].contains n, win := fun n => [].contains n, frz := fun n => [].contains n, rfix := fun n => lkR n [], live := fun r => lkA r [(11, [2, 4, 8, 9], [2, 4, 8, 29]), (18, [4, 7, 11], [4, 52, 57])] }
noncomputable def ann14 : Ann := ann14x FUEL
def ann15x (fu : Nat) : Ann := { drop := false, fresh := none, eat := none, dynPure := true, fuel := fu, excl := fun n => [].contains n, asV := fun n => [].contains n, heapSite := fun n => [].contains n, narrow := fun n => [].contains n, win := fun n => [].contains n, frz := fun n => [].contains n, rfix := fun n => lkR n [], live := fun r => lkA r [(3, [0, 2], [2])] }
noncomputable def ann15 : Ann := ann15x FUEL
def ann16x (fu : Nat) : Ann := { drop := true, fresh := none, eat := none, dynPure := true, fuel := fu, excl := fun n => [].contains n, asV := fun n => [].contains n, heapSite := fun n => [].contains n, narrow := fun n => [].contains n, win := fun n => [].contains n, frz := fun n => [].contains n, rfix := fun n => lkR n [], live := fun r => lkA r [] }
noncomputable def ann16 : Ann := ann16x FUEL
def ann17x (fu : Nat) : Ann := { drop := false, fresh := none, eat := none, dynPure := true, fuel := fu, excl := fun n => [].contains n, asV := fun n => [].contains n, heapSite := fun n => [].contains n, narrow := fun n => [].contains n, win := fun n => [].contains n, frz := fun n => [].contains n, rfix := fun n => lkR n [], live := fun r => lkA r [] }
noncomputable def ann17 : Ann := ann17x FUEL
def ann18x (fu : Nat) : Ann := { drop := true, fresh := none, eat := none, dynPure := true, fuel := fu, excl := fun n => [].contains n, asV := fun n => [].contains n, heapSite := fun n => [].contains n, narrow := fun n => [].contains n, win := fun n => [].contains n, frz := fun n => [].contains n, rfix := fun n => lkR n [], live := fun r => lkA r [(4, [0, 1, 5], []), (5, [0, 1, 5], []), (8, [], [])] }
noncomputable def ann18 : Ann := ann18x FUEL
def ann19x (fu : Nat) : Ann := { drop := false, fresh := none, eat := none, dynPure := true, fuel := fu, excl := fun n => [].contains n, asV := fun n => [2].contains n, heapSite := fun n => [].contains n, narrow := fun n => [].contains n, win := fun n => [].contains n, frz := fun n => [].contains n, rfix := fun n => lkR n [], live := fun r => lkA r [(3, [0], [])] }
noncomputable def ann19 : Ann := ann19x FUEL
def ann20x (fu : Nat) : Ann := { drop := true, fresh := none, eat := none, dynPure := true, fuel := fu, excl := fun n => [].contains n, asV := fun n => [].contains n, heapSite := fun n => [].contains n, narrow := fun n => [].contains n, win := fun n => [].contains n, frz := fun n => [].contains n, rfix := fun n => lkR n [], live := fun r => lkA r [(4, [0, 1, 5], []), (5, [0, 1, 5], []), (8, [], [])] }
noncomputable def ann20 : Ann := ann20x FUEL
def ann21x (fu : Nat) : Ann := { drop := false, fresh := none, eat := none, dynPure := true, fuel := fu, excl := fun n => [].contains n, asV := fun n => [2].contains n, heapSite := fun n => [].contains n, narrow := fun n => [].contains n, win := fun n => [].contains n, frz := fun n => [].contains n, rfix := fun n => lkR n [], live := fun r => lkA r [(3, [0], [])] }
noncomputable def ann21 : Ann := ann21x FUEL
def ann22x (fu : Nat) : Ann := { drop := true, fresh := none, eat := none, dynPure := true, fuel := fu, excl := fun n => [].contains n, asV := fun n => [].contains n, heapSite := fun n => [].contains n, narrow := fun n => [].contains n, win := fun n => [].contains n, frz := fun n => [].contains n, rfix := fun n => lkR n [], live := fun r => lkA r [(5, [0, 1, 5, 6, 14, 15], []), (12, [0, 1, 5, 6, 14, 15], []), (13, [5, 6], []), (19, [], [])] }
noncomputable def ann22 : Ann := ann22x FUEL
def ann23x (fu : Nat) : Ann := { drop := true, fresh := none, eat := none, dynPure := true, fuel := fu, excl := fun n => [].contains n, asV := fun n => [].contains n, heapSite := fun n => [].contains n, narrow := fun n => [].contains n, win := fun n => [].contains n, frz := fun n => [].contains n, rfix := fun n => lkR n [], live := fun r => lkA r [(7, [2, 3], [2, 3]), (15, [7], [85, 90, 95])] }
noncomputable def ann23 : Ann := ann23x FUEL
def ann24x (fu : Nat) : Ann := { drop := true, fresh := none, eat := none, dynPure := true, fuel := fu, excl := fun n => [].contains n, asV := fun n => [].contains n, heapSite := fun n => [].contains n, narrow := fun n => [].contains n, win := fun n => [].contains n, frz := fun n => [].contains n, rfix := fun n => lkR n [], live := fun r => lkA r [(2, [1, 2, 3, 4, 9], [4]), (3, [1, 2, 3, 4, 9], [4]), (7, [], [])] }
noncomputable def ann24 : Ann := ann24x FUEL
def ann25x (fu : Nat) : Ann := { drop := false, fresh := none, eat := none, dynPure := true, fuel := fu, excl := fun n => [].contains n, asV := fun n => [].contains n, heapSite := fun n => [21].contains n, narrow := fun n => [].contains n, win := fun n => [].contains n, frz := fun n => [].contains n, rfix := fun n => lkR n [], live := fun r => lkA r [] }
noncomputable def ann25 : Ann := ann25x FUEL
def ann26x (fu : Nat) : Ann := { drop := true, fresh := none, eat := none, dynPure := true, fuel := fu, excl := fun n => [].contains n, asV := fun n => [].contains n, heapSite := fun n => [].contains n, narrow := fun n => [].contains n, win := fun n => [].contains n, frz := fun n => [].contains n, rfix := fun n => lkR n [], live := fun r => lkA r [] }
noncomputable def ann26 : Ann := ann26x FUEL
def ann27x (fu : Nat) : Ann := { drop := true, fresh := none, eat := none, dynPure := true, fuel := fu, excl := fun n => [].contains n, asV := fun n => [4].contains n, heapSite := fun n => [].contains n, narrow := fun n => [].contains n, win := fun n => [].contains n, frz := fun n => [].contains n, rfix := fun n => lkR n [], live := fun r => lkA r [] }
noncomputable def ann27 : Ann := ann27x FUEL
def ann28x (fu : Nat) : Ann := { drop := true, fresh := none, eat := none, dynPure := true, fuel := fu, excl := fun n => [].contains n, asV := fun n => [].contains n, heapSite := fun n => [].contains n, narrow := fun n => [].contains n, win := fun n => [].contains n, frz := fun n => [].contains n, rfix := fun n => lkR n [], live := fun r => lkA r [] }
noncomputable def ann28 : Ann := ann28x FUEL
def ann29x (fu : Nat) : Ann := { drop := true, fresh := none, eat := none, dynPure := true, fuel := fu, excl := fun n => [].contains n, asV := fun n => [].contains n, heapSite := fun n => [].contains n, narrow := fun n => [].contains n, win := fun n => [].contains n, frz := fun n => [].contains n, rfix := fun n => lkR n [], live := fun r => lkA r [] }
noncomputable def ann29 : Ann := ann29x FUEL
def ann30x (fu : Nat) : Ann := { drop := true, fresh := none, eat := none, dynPure := true, fuel := fu, excl := fun n => [].contains n, asV := fun n => [].contains n, heapSite := fun n => [].contains n, narrow := fun n => [].contains n, win := fun n => [].contains n, frz := fun n => [].contains n, rfix := fun n => lkR n [], live := fun r => lkA r [(4, [2, 3, 5], [2, 3, 11]), (9, [3], [3]), (10, [3, 7], [3]), (11, [3, 7], [3]), (14, [], []), (18, [2, 3], [2, 3]), (19, [2, 3, 8], [2, 3]), (20, [2, 3, 8], [2, 3]), (24, [], []), (27, [], [])] }
noncomputable def ann30 : Ann := ann30x FUEL
def ann31x (fu : Nat) : Ann := { drop := false, fresh := none, eat := none, dynPure := true, fuel := fu, excl := fun n => [].contains n, asV := fun n => [].contains n, heapSite := fun n => [].contains n, narrow := fun n => [].contains n, win := fun n => [].contains n, frz := fun n => [].contains n, rfix := fun n => lkR n [], live := fun r => lkA r [] }
noncomputable def ann31 : Ann := ann31x FUEL
def ann32x (fu : Nat) : Ann := { drop := false, fresh := none, eat := none, dynPure := true, fuel := fu, excl := fun n => [].contains n, asV := fun n => [2, 4, 133].contains n, heapSite := fun n => [].contains n, narrow := fun n => [].contains n, win := fun n => [].contains n, frz := fun n => [].contains n, rfix := fun n => lkR n [], live := fun r => lkA r [(2, [0, 3], []), (15, [0, 4, 5], [])] }
noncomputable def ann32 : Ann := ann32x FUEL
def ann33x (fu : Nat) : Ann := { drop := false, fresh := none, eat := none, dynPure := true, fuel := fu, excl := fun n => [].contains n, asV := fun n => [4].contains n, heapSite := fun n => [].contains n, narrow := fun n => [].contains n, win := fun n => [].contains n, frz := fun n => [].contains n, rfix := fun n => lkR n [], live := fun r => lkA r [] }
noncomputable def ann33 : Ann := ann33x FUEL
def ann34x (fu : Nat) : Ann := { drop := true, fresh := some 5, eat := none, dynPure := true, fuel := fu, excl := fun n => [].contains n, asV := fun n => [2].contains n, heapSite := fun n => [].contains n, narrow := fun n => [].contains n, win := fun n => [].contains n, frz := fun n => [].contains n, rfix := fun n => lkR n [], live := fun r => lkA r [] }
noncomputable def ann34 : Ann := ann34x FUEL
def ann35x (fu : Nat) : Ann := { drop := true, fresh := none, eat := none, dynPure := true, fuel := fu, excl := fun n => [].contains n, asV := fun n => [].contains n, heapSite := fun n => [].contains n, narrow := fun n => [].contains n, win := fun n => [].contains n, frz := fun n => [].contains n, rfix := fun n => lkR n [], live := fun r => lkA r [] }
noncomputable def ann35 : Ann := ann35x FUEL
def ann36x (fu : Nat) : Ann := { drop := true, fresh := none, eat := none, dynPure := true, fuel := fu, excl := fun n => [].contains n, asV := fun n => [2].contains n, heapSite := fun n => [].contains n, narrow := fun n => [].contains n, win := fun n => [].contains n, frz := fun n => [].contains n, rfix := fun n => lkR n [], live := fun r => lkA r [(7, [0], []), (9, [0, 4, 23, 24, 25], []), (12, [0, 4, 23, 24, 25], []), (13, [0, 4], []), (17, [0], []), (19, [0, 7, 55], [54]), (23, [0, 7, 55], [54]), (24, [0], [])] }
noncomputable def ann36 : Ann := ann36x FUEL
def ann37x (fu : Nat) : Ann := { drop := false, fresh := none, eat := none, dynPure := true, fuel := fu, excl := fun n => [].contains n, asV := fun n => [].contains n, heapSite := fun n => [6].contains n, narrow := fun n => [].contains n, win := fun n => [].contains n, frz := fun n => [].contains n, rfix := fun n => lkR n [], live := fun r => lkA r [] }
noncomputable def ann37 : Ann := ann37x FUEL
def ann38x (fu : Nat) : Ann := { drop := false, fresh := none, eat := none, dynPure := true, fuel := fu, excl := fun n => [].contains n, asV := fun n => [].contains n, heapSite := fun n => [].contains n, narrow := fun n => [].contains n, win := fun n => [].contains n, frz := fun n => [].contains n, rfix := fun n => lkR n [], live := fun r => lkA r [] }
noncomputable def ann38 : Ann := ann38x FUEL
def ann39x (fu : Nat) : Ann := { drop := false, fresh := none, eat := none, dynPure := true, fuel := fu, excl := fun n => [].contains n, asV := fun n => [].contains n, heapSite := fun n => [].contains n, narrow := fun n => [].contains n, win := fun n => [].contains n, frz := fun n => [].contains n, rfix := fun n => lkR n [], live := fun r => lkA r [(3, [0], []), (7, [], [])] }
noncomputable def ann39 : Ann := ann39x FUEL
def ann40x (fu : Nat) : Ann := { drop := true, fresh := none, eat := none, dynPure := true, fuel := fu, excl := fun n => [].contains n, asV := fun n => [].contains n, heapSite := fun n => [].contains n, narrow := fun n => [].contains n, win := fun n => [].contains n, frz := fun n => [].contains n, rfix := fun n => lkR n [], live := fun r => lkA r [] }
noncomputable def ann40 : Ann := ann40x FUEL
def ann41x (fu : Nat) : Ann := { drop := false, fresh := none, eat := none, dynPure := true, fuel := fu, excl := fun n => [].contains n, asV := fun n => [].contains n, heapSite := fun n => [].contains n, narrow := fun n => [95, 114].contains n, win := fun n => [].contains n, frz := fun n => [].contains n, rfix := fun n => lkR n [], live := fun r => lkA r [(3, [1, 2, 4, 28, 29], [2, 4]), (7, [1, 2, 4, 28, 29], [2, 4]), (8, [1, 2, 4], [2, 4]), (10, [1, 2, 4], [2, 4]), (12, [1, 2, 4], [2, 4]), (16, [1, 2, 4], [2, 4]), (18, [1, 2, 4, 86, 87], [2, 4, 86]), (20, [1, 2, 4, 86, 87], [2, 4, 86]), (21, [1, 2, 4], [2, 4]), (23, [1, 2, 105, 106], [2, 105]), (25, [1, 2, 105, 106], [2, 105])] }
noncomputable def ann41 : Ann := ann41x FUEL
def ann42x (fu : Nat) : Ann := { drop := true, fresh := none, eat := none, dynPure := true, fuel := fu, excl := fun n => [].contains n, asV := fun n => [].contains n, heapSite := fun n => [].contains n, narrow := fun n => [].contains n, win := fun n => [].contains n, frz := fun n => [].contains n, rfix := fun n => lkR n [], live := fun r => lkA r [(8, [2, 3, 5], [2, 3, 5]), (10, [2, 3, 5], [2, 3, 5]), (14, [2, 3], [2, 3]), (16, [], [])] }
noncomputable def ann42 : Ann := ann42x FUEL
def ann43x (fu : Nat) : Ann := { drop := true, fresh := none, eat := none, dynPure := true, fuel := fu, excl := fun n => [].contains n, asV := fun n => [].contains n, heapSite := fun n => [].contains n, narrow := fun n => [].contains n, win := fun n => [].contains n, frz := fun n => [].contains n, rfix := fun n => lkR n [], live := fun r => lkA r [(4, [0, 1, 5], []), (5, [0, 1, 5], []), (8, [], [])] }
noncomputable def ann43 : Ann := ann43x FUEL
def ann44x (fu : Nat) : Ann := { drop := true, fresh := none, eat := none, dynPure := true, fuel := fu, excl := fun n => [].contains n, asV := fun n => [].contains n, heapSite := fun n => [].contains n, narrow := fun n => [].contains n, win := fun n => [].contains n, frz := fun n => [].contains n, rfix := fun n => lkR n [], live := fun r => lkA r [(4, [0, 1, 5], []), (5, [0, 1, 5], []), (8, [], [])] }
noncomputable def ann44 : Ann := ann44x FUEL
def ann45x (fu : Nat) : Ann := { drop := true, fresh := none, eat := none, dynPure := true, fuel := fu, excl := fun n => [].contains n, asV := fun n => [].contains n, heapSite := fun n => [].contains n, narrow := fun n => [].contains n, win := fun n => [].contains n, frz := fun n => [].contains n, rfix := fun n => lkR n [], live := fun r => lkA r [(4, [0, 1, 5], []), (5, [0, 1, 5], []), (8, [], [])] }
noncomputable def ann45 : Ann := ann45x FUEL
def ann46x (fu : Nat) : Ann := { drop := true, fresh := none, eat := none, dynPure := true, fuel := fu, excl := fun n => [].contains n, asV := fun n => [].contains n, heapSite := fun n => [].contains n, narrow := fun n => [].contains n, win := fun n => [].contains n, frz := fun n => [].contains n, rfix := fun n => lkR n [], live := fun r => lkA r [(4, [0, 1, 5], []), (5, [0, 1, 5], []), (8, [], [])] }
noncomputable def ann46 : Ann := ann46x FUEL
def ann47x (fu : Nat) : Ann := { drop := true, fresh := none, eat := none, dynPure := true, fuel := fu, excl := fun n => [].contains n, asV := fun n => [].contains n, heapSite := fun n => [].contains n, narrow := fun n => [].contains n, win := fun n => [].contains n, frz := fun n => [].contains n, rfix := fun n => lkR n [], live := fun r => lkA r [(4, [0, 1, 5], []), (5, [0, 1, 5], []), (8, [], [])] }
noncomputable def ann47 : Ann := ann47x FUEL
def ann48x (fu : Nat) : Ann := { drop := true, fresh := none, eat := none, dynPure := true, fuel := fu, excl := fun n => [].contains n, asV := fun n => [].contains n, heapSite := fun n => [].contains n, narrow := fun n => [].contains n, win := fun n => [].contains n, frz := fun n => [].contains n, rfix := fun n => lkR n [], live := fun r => lkA r [(4, [0, 1, 5], []), (5, [0, 1, 5], []), (8, [], [])] }
noncomputable def ann48 : Ann := ann48x FUEL
def ann49x (fu : Nat) : Ann := { drop := true, fresh := none, eat := none, dynPure := true, fuel := fu, excl := fun n => [].contains n, asV := fun n => [4, 5].contains n, heapSite := fun n => [].contains n, narrow := fun n => [].contains n, win := fun n => [].contains n, frz := fun n => [].contains n, rfix := fun n => lkR n [], live := fun r => lkA r [(3, [0, 1], []), (5, [7, 22, 23, 24], [7]), (8, [7, 22, 23, 24], [7]), (9, [7], [7])] }
noncomputable def ann49 : Ann := ann49x FUEL
def ann50x (fu : Nat) : Ann := { drop := true, fresh := none, eat := none, dynPure := true, fuel := fu, excl := fun n => [].contains n, asV := fun n => [4].contains n, heapSite := fun n => [].contains n, narrow := fun n => [].contains n, win := fun n => [].contains n, frz := fun n => [].contains n, rfix := fun n => lkR n [], live := fun r => lkA r [(6, [0, 1], []), (8, [0, 1, 7, 31, 32, 33], [31]), (11, [0, 1, 7, 31, 32, 33], [31]), (12, [0, 1, 7], []), (13, [1, 7, 44, 45, 46], []), (16, [1, 7, 44, 45, 46], []), (17, [7], []), (19, [12, 65], [12]), (22, [12], [12])] }
noncomputable def ann50 : Ann := ann50x FUEL
def ann51x (fu : Nat) : Ann := { drop := true, fresh := none, eat := none, dynPure := true, fuel := fu, excl := fun n => [].contains n, asV := fun n => [].contains n, heapSite := fun n => [].contains n, narrow := fun n => [].contains n, win := fun n => [].contains n, frz := fun n => [].contains n, rfix := fun n => lkR n [], live := fun r => lkA r [(6, [], [])] }
noncomputable def ann51 : Ann := ann51x FUEL
def ann52x (fu : Nat) : Ann := { drop := true, fresh := none, eat := none, dynPure := true, fuel := fu, excl := fun n => [].contains n, asV := fun n => [].contains n, heapSite := fun n => [].contains n, narrow := fun n => [].contains n, win := fun n => [].contains n, frz := fun n => [].contains n, rfix := fun n => lkR n [], live := fun r => lkA r [(3, [], [])] }
noncomputable def ann52 : Ann := ann52x FUEL
def ann53x (fu : Nat) : Ann := { drop := true, fresh := none, eat := none, dynPure := true, fuel := fu, excl := fun n => [].contains n, asV := fun n => [].contains n, heapSite := fun n => [].contains n, narrow := fun n => [].contains n, win := fun n => [].contains n, frz := fun n => [].contains n, rfix := fun n => lkR n [], live := fun r => lkA r [] }
noncomputable def ann53 : Ann := ann53x FUEL
def ann54x (fu : Nat) : Ann := { drop := true, fresh := none, eat := none, dynPure := true, fuel := fu, excl := fun n => [].contains n, asV := fun n => [].contains n, heapSite := fun n => [].contains n, narrow := fun n => [].contains n, win := fun n => [].contains n, frz := fun n => [].contains n, rfix := fun n => lkR n [], live := fun r => lkA r [] }
noncomputable def ann54 : Ann := ann54x FUEL
def ann55x (fu : Nat) : Ann := { drop := true, fresh := none, eat := none, dynPure := true, fuel := fu, excl := fun n => [].contains n, asV := fun n => [].contains n, heapSite := fun n => [].contains n, narrow := fun n => [].contains n, win := fun n => [].contains n, frz := fun n => [].contains n, rfix := fun n => lkR n [], live := fun r => lkA r [(3, [1, 3, 10, 11], [1, 10]), (7, [1, 3, 6, 10, 11, 14, 15, 16], [1, 10]), (11, [1, 3, 8, 10, 11, 14, 15, 16], [1, 8, 10]), (12, [1, 3, 6, 10, 11, 14, 15, 16], [1, 10]), (13, [1, 3, 10, 11], [1, 10]), (14, [3], [])] }
noncomputable def ann55 : Ann := ann55x FUEL
def ann56x (fu : Nat) : Ann := { drop := true, fresh := none, eat := none, dynPure := true, fuel := fu, excl := fun n => [].contains n, asV := fun n => [].contains n, heapSite := fun n => [].contains n, narrow := fun n => [].contains n, win := fun n => [].contains n, frz := fun n => [].contains n, rfix := fun n => lkR n [], live := fun r => lkA r [(3, [2, 3], [2, 3]), (6, [3, 39, 40, 41], [3]), (10, [3, 39, 40, 41], [3]), (11, [3], [3])] }
noncomputable def ann56 : Ann := ann56x FUEL
def ann57x (fu : Nat) : Ann := { drop := true, fresh := none, eat := none, dynPure := true, fuel := fu, excl := fun n => [].contains n, asV := fun n => [].contains n, heapSite := fun n => [].contains n, narrow := fun n => [].contains n, win := fun n => [].contains n, frz := fun n => [].contains n, rfix := fun n => lkR n [], live := fun r => lkA r [(3, [2, 3], [2, 3]), (4, [2, 3, 45, 46, 47], [2, 3]), (8, [2, 3, 45, 46, 47], [2, 3]), (9, [], [])] }
noncomputable def ann57 : Ann := ann57x FUEL
def ann58x (fu : Nat) : Ann := { drop := true, fresh := none, eat := none, dynPure := true, fuel := fu, excl := fun n => [].contains n, asV := fun n => [].contains n, heapSite := fun n => [].contains n, narrow := fun n => [].contains n, win := fun n => [].contains n, frz := fun n => [].contains n, rfix := fun n => lkR n [], live := fun r => lkA r [(3, [2, 3], [2, 3]), (4, [2, 60, 61, 62], [2]), (8, [2, 60, 61, 62], [2]), (9, [], [])] }
noncomputable def ann58 : Ann := ann58x FUEL
def ann59x (fu : Nat) : Ann := { drop := true, fresh := none, eat := none, dynPure := true, fuel := fu, excl := fun n => [].contains n, asV := fun n => [].contains n, heapSite := fun n => [].contains n, narrow := fun n => [].contains n, win := fun n => [].contains n, frz := fun n => [].contains n, rfix := fun n => lkR n [], live := fun r => lkA r [] }
noncomputable def ann59 : Ann := ann59x FUEL
def ann60x (fu : Nat) : Ann := { drop := true, fresh := none, eat := none, dynPure := true, fuel := fu, excl := fun n => [].contains n, asV := fun n => [4].contains n, heapSite := fun n => [].contains n, narrow := fun n => [].contains n, win := fun n => [].contains n, frz := fun n => [].contains n, rfix := fun n => lkR n [], live := fun r => lkA r [(9, [3, 7, 8, 9, 10, 11], [3, 23, 25, 36]), (10, [3, 7, 8, 9, 10, 11], [3, 23, 25, 36]), (13, [3, 7, 8, 9], [3, 23, 25]), (15, [3, 7, 8, 9], [3, 23, 25]), (17, [3, 8, 9], [3, 23, 25]), (19, [3, 8, 9], [3, 23, 25]), (22, [3, 8, 9, 12], [3, 23, 25]), (23, [3, 8, 9, 12], [3, 23, 25]), (25, [3, 8, 9], [3, 23, 25]), (28, [3, 9, 13], [3, 25]), (29, [3, 9, 13], [3, 25]), (31, [9], [25])] }
noncomputable def ann60 : Ann := ann60x FUEL
def ann61x (fu : Nat) : Ann := { drop := true, fresh := none, eat := none, dynPure := true, fuel := fu, excl := fun n => [].contains n, asV := fun n => [7].contains n, heapSite := fun n => [].contains n, narrow := fun n => [].contains n, win := fun n => [].contains n, frz := fun n => [].contains n, rfix := fun n => lkR n [], live := fun r => lkA r [(4, [2, 3, 4, 6, 9], [3, 4, 6, 19]), (12, [2, 4, 6, 10, 11], [4, 6, 10, 11]), (14, [4, 6, 10, 11, 63, 64, 65], [4, 6, 10, 11]), (18, [4, 6, 10, 11, 63, 64, 65], [4, 6, 10, 11]), (19, [6, 10, 11], [6, 10, 11])] }
noncomputable def ann61 : Ann := ann61x FUEL
def ann62x (fu : Nat) : Ann := { drop := true, fresh := none, eat := none, dynPure := true, fuel := fu, excl := fun n => [].contains n, asV := fun n => [].contains n, heapSite := fun n => [].contains n, narrow := fun n => [].contains n, win := fun n => [].contains n, frz := fun n => [].contains n, rfix := fun n => lkR n [], live := fun r => lkA r [] }
noncomputable def ann62 : Ann := ann62x FUEL
def ann63x (fu : Nat) : Ann := { drop := true, fresh := none, eat := none, dynPure := true, fuel := fu, excl := fun n => [].contains n, asV := fun n => [].contains n, heapSite := fun n => [].contains n, narrow := fun n => [].contains n, win := fun n => [].contains n, frz := fun n => [].contains n, rfix := fun n => lkR n [], live := fun r => lkA r [] }
noncomputable def ann63 : Ann := ann63x FUEL
def ann64x (fu : Nat) : Ann := { drop := true, fresh := none, eat := none, dynPure := true, fuel := fu, excl := fun n => [].contains n, asV := fun n => [].contains n, heapSite := fun n => [].contains n, narrow := fun n => [].contains n, win := fun n => [].contains n, frz := fun n => [].contains n, rfix := fun n => lkR n [], live := fun r => lkA r [] }
noncomputable def ann64 : Ann := ann64x FUEL
def ann65x (fu : Nat) : Ann := { drop := true, fresh := none, eat := none, dynPure := true, fuel := fu, excl := fun n => [].contains n, asV := fun n => [].contains n, heapSite := fun n => [].contains n, narrow := fun n => [].contains n, win := fun n => [].contains n, frz := fun n => [].contains n, rfix := fun n => lkR n [], live := fun r => lkA r [(4, [1, 2, 5, 6, 7, 8, 9, 10, 11, 12, 13], [2, 5, 6, 7, 8, 9, 10, 11, 12]), (5, [1, 2, 5, 6, 7, 8, 9, 10, 11, 12, 13], [2, 5, 6, 7, 8, 9, 10, 11, 12]), (8, [1, 2, 5, 6, 7, 8, 9, 10, 11, 12], [2, 5, 6, 7, 8, 9, 10, 11, 12]), (9, [1, 2, 5, 6, 7, 8, 9, 10, 11, 12, 14], [2, 5, 6, 7, 8, 9, 10, 11, 12]), (10, [1, 2, 5, 6, 7, 8, 9, 10, 11, 12, 14], [2, 5, 6, 7, 8, 9, 10, 11, 12]), (13, [1, 2, 5, 6, 7, 8, 9, 10, 11, 12], [2, 5, 6, 7, 8, 9, 10, 11, 12]), (14, [1, 2, 5, 6, 7, 8, 9, 10, 11, 12, 15], [2, 5, 6, 7, 8, 9, 10, 11, 12]), (15, [1, 2, 5, 6, 7, 8, 9, 10, 11, 12, 15], [2, 5, 6, 7, 8, 9, 10, 11, 12]), (18, [1, 2, 5, 6, 7, 8, 9, 10, 11, 12], [2, 5, 6, 7, 8, 9, 10, 11, 12]), (19, [1, 2, 5, 6, 7, 8, 9, 10, 11, 12, 16], [2, 5, 6, 7, 8, 9, 10, 11, 12]), (20, [1, 2, 5, 6, 7, 8, 9, 10, 11, 12, 16], [2, 5, 6, 7, 8, 9, 10, 11, 12]), (23, [1, 2, 5, 6, 7, 8, 9, 10, 11, 12], [2, 5, 6, 7, 8, 9, 10, 11, 12])] }
noncomputable def ann65 : Ann := ann65x FUEL
def ann66x (fu : Nat) : Ann := { drop := true, fresh := none, eat := none, dynPure := true, fuel := fu, excl := fun n => [].contains n, asV := fun n => [].contains n, heapSite := fun n => [].contains n, narrow := fun n => [].contains n, win := fun n => [].contains n, frz := fun n => [].contains n, rfix := fun n => lkR n [], live := fun r => lkA r [(3, [2, 3, 4], [3, 4]), (4, [2, 3, 4, 7], [3, 4]), (5, [2, 3, 4, 7], [3, 4]), (9, [], [])] }
noncomputable def ann66 : Ann := ann66x FUEL
def ann67x (fu : Nat) : Ann := { drop := true, fresh := none, eat := none, dynPure := true, fuel := fu, excl := fun n => [].contains n, asV := fun n => [].contains n, heapSite := fun n => [].contains n, narrow := fun n => [].contains n, win := fun n => [].contains n, frz := fun n => [].contains n, rfix := fun n => lkR n [], live := fun r => lkA r [(3, [1, 2], [2])] }
noncomputable def ann67 : Ann := ann67x FUEL
def ann68x (fu : Nat) : Ann := { drop := true, fresh := none, eat := none, dynPure := true, fuel := fu, excl := fun n => [12].contains n, asV := fun n => [5].contains n, heapSite := fun n => [27].contains n, narrow := fun n => [].contains n, win := fun n => [].contains n, frz := fun n => [].contains n, rfix := fun n => lkR n [], live := fun r => lkA r [(11, [2, 3, 4, 8, 9, 12, 48, 49, 50], [2, 3, 4, 9, 12]), (14, [2, 3, 4, 8, 9, 12, 48, 49, 50], [2, 3, 4, 9, 12]), (15, [2, 3, 4, 8, 9, 12], [2, 3, 4, 9, 12]), (16, [3, 4, 8, 9, 12, 61, 62], [3, 4, 9, 12, 61]), (19, [3, 4, 8, 9, 12, 15, 16, 61, 62], [3, 4, 9, 12, 61]), (20, [3, 4, 8, 9, 12, 15, 16, 61, 62], [3, 4, 9, 12, 61]), (21, [3, 4, 8, 9, 12, 15, 16, 61, 62], [3, 4, 9, 12, 61]), (22, [3, 4, 8, 9, 12, 61, 62], [3, 4, 9, 12, 61]), (23, [4, 8, 9], [4, 9])] }
noncomputable def ann68 : Ann := ann68x FUEL
def ann69x (fu : Nat) : Ann := { drop := true, fresh := none, eat := none, dynPure := true, fuel := fu, excl := fun n => [].contains n, asV := fun n => [5].contains n, heapSite := fun n => [].contains n, narrow := fun n => [].contains n, win := fun n => [].contains n, frz := fun n => [].contains n, rfix := fun n => lkR n [], live := fun r => lkA r [] }
noncomputable def ann69 : Ann := ann69x FUEL
def ann70x (fu : Nat) : Ann := { drop := true, fresh := none, eat := none, dynPure := true, fuel := fu, excl := fun n => [].contains n, asV := fun n => [].contains n, heapSite := fun n => [].contains n, narrow := fun n => [].contains n, win := fun n => [].contains n, frz := fun n => [].contains n, rfix := fun n => lkR n [], live := fun r => lkA r [(7, [2, 4, 8], [2, 4, 8])] }
noncomputable def ann70 : Ann := ann70x FUEL
def ann71x (fu : Nat) : Ann := { drop := true, fresh := none, eat := none, dynPure := true, fuel := fu, excl := fun n => [].contains n, asV := fun n => [].contains n, heapSite := fun n => [].contains n, narrow := fun n => [].contains n, win := fun n => [].contains n, frz := fun n => [].contains n, rfix := fun n => lkR n [], live := fun r => lkA r [] }
noncomputable def ann71 : Ann := ann71x FUEL
def ann72x (fu : Nat) : Ann := { drop := true, fresh := none, eat := none, dynPure := true, fuel := fu, excl := fun n => [].contains n, asV := fun n => [5].contains n, heapSite := fun n => [47].contains n, narrow := fun n => [].contains n, win := fun n => [].contains n, frz := fun n => [].contains n, rfix := fun n => lkR n [], live := fun r => lkA r [(6, [2, 3, 4], [2, 3, 4]), (10, [4, 11], [4])] }
noncomputable def ann72 : Ann := ann72x FUEL
def ann73x (fu : Nat) : Ann := { drop := true, fresh := none, eat := none, dynPure := true, fuel := fu, excl := fun n => [].contains n, asV := fun n => [4].contains n, heapSite := fun n => [20].contains n, narrow := fun n => [].contains n, win := fun n => [].contains n, frz := fun n => [].contains n, rfix := fun n => lkR n [], live := fun r => lkA r [(10, [7], [])] }
noncomputable def ann73 : Ann := ann73x FUEL
def ann74x (fu : Nat) : Ann := { drop := false, fresh := none, eat := none, dynPure := true, fuel := fu, excl := fun n => [].contains n, asV := fun n => [4].contains n, heapSite := fun n => [].contains n, narrow := fun n => [].contains n, win := fun n => [].contains n, frz := fun n => [].contains n, rfix := fun n => lkR n [], live := fun r => lkA r [(3, [0, 5, 10, 11, 12], [5]), (8, [0, 5, 10, 11, 12], [5]), (9, [5], [5])] }
noncomputable def ann74 : Ann := ann74x FUEL
def ann75x (fu : Nat) : Ann := { drop := false, fresh := none, eat := none, dynPure := true, fuel := fu, excl := fun n => [].contains n, asV := fun n => [].contains n, heapSite := fun n => [].contains n, narrow := fun n => [].contains n, win := fun n => [].contains n, frz := fun n => [].contains n, rfix := fun n => lkR n [], live := fun r => lkA r [] }
noncomputable def ann75 : Ann := ann75x FUEL
def ann76x (fu : Nat) : Ann := { drop := true, fresh := none, eat := none, dynPure := true, fuel := fu, excl := fun n => [].contains n, asV := fun n => [].contains n, heapSite := fun n => [].contains n, narrow := fun n => [].contains n, win := fun n => [].contains n, frz := fun n => [].contains n, rfix := fun n => lkR n [], live := fun r => lkA r [(3, [3, 6, 7, 8], []), (8, [3, 6, 7, 8], []), (9, [3], [])] }
noncomputable def ann76 : Ann := ann76x FUEL
def ann77x (fu : Nat) : Ann := { drop := false, fresh := none, eat := none, dynPure := true, fuel := fu, excl := fun n => [].contains n, asV := fun n => [].contains n, heapSite := fun n => [].contains n, narrow := fun n => [].contains n, win := fun n => [].contains n, frz := fun n => [].contains n, rfix := fun n => lkR n [], live := fun r => lkA r [(9, [0, 5, 6, 7], [])] }
noncomputable def ann77 : Ann := ann77x FUEL
def ann78x (fu : Nat) : Ann := { drop := false, fresh := none, eat := none, dynPure := true, fuel := fu, excl := fun n => [].contains n, asV := fun n => [].contains n, heapSite := fun n => [].contains n, narrow := fun n => [].contains n, win := fun n => [].contains n, frz := fun n => [].contains n, rfix := fun n => lkR n [], live := fun r => lkA r [] }
noncomputable def ann78 : Ann := ann78x FUEL
def ann79x (fu : Nat) : Ann := { drop := false, fresh := none, eat := none, dynPure := true, fuel := fu, excl := fun n => [].contains n, asV := fun n => [].contains n, heapSite := fun n => [].contains n, narrow := fun n => [].contains n, win := fun n => [].contains n, frz := fun n => [].contains n, rfix := fun n => lkR n [], live := fun r => lkA r [(7, [4, 5], [4, 5])] }
noncomputable def ann79 : Ann := ann79x FUEL
def ann80x (fu : Nat) : Ann := { drop := true, fresh := none, eat := none, dynPure := true, fuel := fu, excl := fun n => [].contains n, asV := fun n => [].contains n, heapSite := fun n => [].contains n, narrow := fun n => [].contains n, win := fun n => [].contains n, frz := fun n => [].contains n, rfix := fun n => lkR n [], live := fun r => lkA r [] }
noncomputable def ann80 : Ann := ann80x FUEL
def ann81x (fu : Nat) : Ann := { drop := false, fresh := none, eat := none, dynPure := true, fuel := fu, excl := fun n => [].contains n, asV := fun n => [].contains n, heapSite := fun n => [].contains n, narrow := fun n => [].contains n, win := fun n => [].contains n, frz := fun n => [].contains n, rfix := fun n => lkR n [], live := fun r => lkA r [] }
noncomputable def ann81 : Ann := ann81x FUEL
def ann82x (fu : Nat) : Ann := { drop := false, fresh := none, eat := none, dynPure := true, fuel := fu, excl := fun n => [].contains n, asV := fun n => [].contains n, heapSite := fun n => [].contains n, narrow := fun n => [].contains n, win := fun n => [].contains n, frz := fun n => [].contains n, rfix := fun n => lkR n [], live := fun r => lkA r [] }
noncomputable def ann82 : Ann := ann82x FUEL
def ann83x (fu : Nat) : Ann := { drop := true, fresh := none, eat := none, dynPure := true, fuel := fu, excl := fun n => [].contains n, asV := fun n => [].contains n, heapSite := fun n => [].contains n, narrow := fun n => [].contains n, win := fun n => [].contains n, frz := fun n => [].contains n, rfix := fun n => lkR n [], live := fun r => lkA r [(3, [1, 42, 43], [1]), (7, [1, 42, 43], [1]), (8, [], [])] }
noncomputable def ann83 : Ann := ann83x FUEL
def ann84x (fu : Nat) : Ann := { drop := true, fresh := none, eat := none, dynPure := true, fuel := fu, excl := fun n => [].contains n, asV := fun n => [].contains n, heapSite := fun n => [].contains n, narrow := fun n => [].contains n, win := fun n => [].contains n, frz := fun n => [].contains n, rfix := fun n => lkR n [], live := fun r => lkA r [(5, [2, 3, 5, 6], [2, 3, 5]), (12, [2, 3, 6], [2, 3]), (14, [2, 3, 6], [2, 3]), (15, [2, 3], [2, 3]), (16, [3, 5, 6], [3, 5]), (18, [3, 5], [3, 5]), (20, [3, 5], [3, 5])] }
noncomputable def ann84 : Ann := ann84x FUEL
def ann85x (fu : Nat) : Ann := { drop := true, fresh := none, eat := none, dynPure := true, fuel := fu, excl := fun n => [].contains n, asV := fun n => [].contains n, heapSite := fun n => [].contains n, narrow := fun n => [].contains n, win := fun n => [].contains n, frz := fun n => [].contains n, rfix := fun n => lkR n [], live := fun r => lkA r [(3, [0, 3], [3]), (7, [3], [3])] }
noncomputable def ann85 : Ann := ann85x FUEL
def ann86x (fu : Nat) : Ann := { drop := true, fresh := none, eat := none, dynPure := true, fuel := fu, excl := fun n => [].contains n, asV := fun n => [].contains n, heapSite := fun n => [].contains n, narrow := fun n => [].contains n, win := fun n => [].contains n, frz := fun n => [].contains n, rfix := fun n => lkR n [], live := fun r => lkA r [(2, [1, 3], [1]), (6, [1, 3], [1]), (7, [1, 3, 13], [1]), (13, [1], [1]), (14, [], [])] }
noncomputable def ann86 : Ann := ann86x FUEL
def ann87x (fu : Nat) : Ann := { drop := true, fresh := none, eat := none, dynPure := true, fuel := fu, excl := fun n => [].contains n, asV := fun n => [].contains n, heapSite := fun n => [].contains n, narrow := fun n => [].contains n, win := fun n => [].contains n, frz := fun n => [].contains n, rfix := fun n => lkR n [], live := fun r => lkA r [(6, [], [])] }
noncomputable def ann87 : Ann := ann87x FUEL
def ann88x (fu : Nat) : Ann := { drop := true, fresh := none, eat := none, dynPure := true, fuel := fu, excl := fun n => [].contains n, asV := fun n => [].contains n, heapSite := fun n => [].contains n, narrow := fun n => [].contains n, win := fun n => [].contains n, frz := fun n => [].contains n, rfix := fun n => lkR n [(7, [0, 1, 4, 5, 6])], live := fun r => lkA r [(3, [0, 1, 4, 5, 24, 25], [4, 5]), (7, [4, 5, 6, 24, 25], [4, 5, 6]), (9, [4, 5, 6, 7, 8, 24, 25], [4, 5, 6, 8]), (13, [4, 5], [4, 5])] }
noncomputable def ann88 : Ann := ann88x FUEL
def ann89x (fu : Nat) : Ann := { drop := true, fresh := none, eat := none, dynPure := true, fuel := fu, excl := fun n => [].contains n, asV := fun n => [2, 3].contains n, heapSite := fun n => [].contains n, narrow := fun n => [].contains n, win := fun n => [].contains n, frz := fun n => [].contains n, rfix := fun n => lkR n [], live := fun r => lkA r [(4, [4, 5, 9, 10, 11], [5, 8]), (7, [4, 5, 9, 10, 11], [5, 8]), (8, [4, 5], [5, 8])] }
noncomputable def ann89 : Ann := ann89x FUEL
def ann90x (fu : Nat) : Ann := { drop := true, fresh := none, eat := none, dynPure := true, fuel := fu, excl := fun n => [].contains n, asV := fun n => [].contains n, heapSite := fun n => [].contains n, narrow := fun n => [].contains n, win := fun n => [].contains n, frz := fun n => [].contains n, rfix := fun n => lkR n [], live := fun r => lkA r [(5, [3, 12, 13, 14], []), (16, [3, 12, 13, 14], []), (17, [], [])] }
noncomputable def ann90 : Ann := ann90x FUEL
def ann91x (fu : Nat) : Ann := { drop := true, fresh := none, eat := none, dynPure := true, fuel := fu, excl := fun n => [].contains n, asV := fun n => [4].contains n, heapSite := fun n => [].contains n, narrow := fun n => [].contains n, win := fun n => [].contains n, frz := fun n => [].contains n, rfix := fun n => lkR n [], live := fun r => lkA r [(4, [5, 6, 12, 13, 14], [5, 9]), (7, [5, 6, 12, 13, 14], [5, 9]), (8, [5], [5])] }
noncomputable def ann91 : Ann := ann91x FUEL
def ann92x (fu : Nat) : Ann := { drop := true, fresh := none, eat := none, dynPure := true, fuel := fu, excl := fun n => [].contains n, asV := fun n => [].contains n, heapSite := fun n => [].contains n, narrow := fun n => [].contains n, win := fun n => [].contains n, frz := fun n => [].contains n, rfix := fun n => lkR n [], live := fun r => lkA r [] }
noncomputable def ann92 : Ann := ann92x FUEL
def ann93x (fu : Nat) : Ann := { drop := true, fresh := none, eat := none, dynPure := true, fuel := fu, excl := fun n => [].contains n, asV := fun n => [].contains n, heapSite := fun n => [].contains n, narrow := fun n => [].contains n, win := fun n => [].contains n, frz := fun n => [].contains n, rfix := fun n => lkR n [], live := fun r => lkA r [] }
noncomputable def ann93 : Ann := ann93x FUEL
def ann94x (fu : Nat) : Ann := { drop := true, fresh := none, eat := none, dynPure := true, fuel := fu, excl := fun n => [3].contains n, asV := fun n => [].contains n, heapSite := fun n => [].contains n, narrow := fun n => [].contains n, win := fun n => [].contains n, frz := fun n => [].contains n, rfix := fun n => lkR n [], live := fun r => lkA r [(3, [1, 2, 3, 13, 14, 15], [1, 2, 3]), (6, [1, 2, 3, 13, 14, 15], [1, 2, 3]), (7, [1, 2, 3], [1, 2, 3]), (8, [1, 2, 3, 31, 32, 33], [1, 2, 3]), (11, [1, 2, 3, 31, 32, 33], [1, 2, 3]), (12, [1, 2, 3], [1, 2, 3]), (13, [1, 2, 3, 49, 50, 51], [1, 2, 3]), (16, [1, 2, 3, 49, 50, 51], [1, 2, 3]), (17, [1, 2, 3], [1, 2, 3]), (18, [2, 3, 67, 68, 69], [2, 3]), (21, [2, 3, 67, 68, 69], [2, 3]), (22, [2, 3], [2, 3])] }
noncomputable def ann94 : Ann := ann94x FUEL
def ann95x (fu : Nat) : Ann := { drop := true, fresh := none, eat := none, dynPure := true, fuel := fu, excl := fun n => [].contains n, asV := fun n => [].contains n, heapSite := fun n => [].contains n, narrow := fun n => [].contains n, win := fun n => [].contains n, frz := fun n => [].contains n, rfix := fun n => lkR n [], live := fun r => lkA r [] }
noncomputable def ann95 : Ann := ann95x FUEL
def ann96x (fu : Nat) : Ann := { drop := true, fresh := none, eat := none, dynPure := true, fuel := fu, excl := fun n => [].contains n, asV := fun n => [].contains n, heapSite := fun n => [].contains n, narrow := fun n => [].contains n, win := fun n => [].contains n, frz := fun n => [].contains n, rfix := fun n => lkR n [], live := fun r => lkA r [(6, [], [])] }
noncomputable def ann96 : Ann := ann96x FUEL
def ann97x (fu : Nat) : Ann := { drop := true, fresh := none, eat := none, dynPure := true, fuel := fu, excl := fun n => [].contains n, asV := fun n => [2].contains n, heapSite := fun n => [].contains n, narrow := fun n => [].contains n, win := fun n => [].contains n, frz := fun n => [].contains n, rfix := fun n => lkR n [], live := fun r => lkA r [(3, [0], [])] }
noncomputable def ann97 : Ann := ann97x FUEL
def ann98x (fu : Nat) : Ann := { drop := true, fresh := none, eat := none, dynPure := true, fuel := fu, excl := fun n => [].contains n, asV := fun n => [].contains n, heapSite := fun n => [].contains n, narrow := fun n => [].contains n, win := fun n => [].contains n, frz := fun n => [].contains n, rfix := fun n => lkR n [], live := fun r => lkA r [(9, [], [])] }
noncomputable def ann98 : Ann := ann98x FUEL
def ann99x (fu : Nat) : Ann := { drop := true, fresh := none, eat := none, dynPure := true, fuel := fu, excl := fun n => [].contains n, asV := fun n => [2].contains n, heapSite := fun n => [].contains n, narrow := fun n => [].contains n, win := fun n => [].contains n, frz := fun n => [].contains n, rfix := fun n => lkR n [], live := fun r => lkA r [(16, [3, 6], []), (21, [3, 6], []), (29, [3], []), (31, [3, 4, 5], [4]), (32, [3, 4, 5], [4]), (34, [4], [4])] }
noncomputable def ann99 : Ann := ann99x FUEL
def ann100x (fu : Nat) : Ann := { drop := true, fresh := some 5, eat := some (10, 5), dynPure := true, fuel := fu, excl := fun n => [].contains n, asV := fun n => [4].contains n, heapSite := fun n => [].contains n, narrow := fun n => [].contains n, win := fun n => [].contains n, frz := fun n => [].contains n, rfix := fun n => lkR n [], live := fun r => lkA r [] }
noncomputable def ann100 : Ann := ann100x FUEL
def ann101x (fu : Nat) : Ann := { drop := true, fresh := some 5, eat := some (15, 5), dynPure := true, fuel := fu, excl := fun n => [].contains n, asV := fun n => [4].contains n, heapSite := fun n => [].contains n, narrow := fun n => [].contains n, win := fun n => [].contains n, frz := fun n => [].contains n, rfix := fun n => lkR n [], live := fun r => lkA r [] }
noncomputable def ann101 : Ann := ann101x FUEL
def ann102x (fu : Nat) : Ann := { drop := true, fresh := some 5, eat := some (29, 5), dynPure := true, fuel := fu, excl := fun n => [].contains n, asV := fun n => [6].contains n, heapSite := fun n => [].contains n, narrow := fun n => [].contains n, win := fun n => [].contains n, frz := fun n => [].contains n, rfix := fun n => lkR n [], live := fun r => lkA r [(4, [0], [29])] }
noncomputable def ann102 : Ann := ann102x FUEL
def ann103x (fu : Nat) : Ann := { drop := true, fresh := some 5, eat := some (12, 5), dynPure := true, fuel := fu, excl := fun n => [].contains n, asV := fun n => [4].contains n, heapSite := fun n => [].contains n, narrow := fun n => [].contains n, win := fun n => [].contains n, frz := fun n => [].contains n, rfix := fun n => lkR n [], live := fun r => lkA r [] }
noncomputable def ann103 : Ann := ann103x FUEL
def ann104x (fu : Nat) : Ann := { drop := true, fresh := none, eat := none, dynPure := true, fuel := fu, excl := fun n => [].contains n, asV := fun n => [2].contains n, heapSite := fun n => [].contains n, narrow := fun n => [].contains n, win := fun n => [].contains n, frz := fun n => [].contains n, rfix := fun n => lkR n [], live := fun r => lkA r [] }
noncomputable def ann104 : Ann := ann104x FUEL
def ann105x (fu : Nat) : Ann := { drop := true, fresh := none, eat := none, dynPure := true, fuel := fu, excl := fun n => [].contains n, asV := fun n => [].contains n, heapSite := fun n => [].contains n, narrow := fun n => [].contains n, win := fun n => [].contains n, frz := fun n => [].contains n, rfix := fun n => lkR n [], live := fun r => lkA r [(7, [1, 2, 27, 28], [1, 2]), (10, [1, 2, 27, 28], [1, 2]), (11, [1, 2], [1, 2]), (13, [1, 2, 50, 51], [1, 2]), (16, [1, 2, 50, 51], [1, 2]), (17, [1, 2], [1, 2])] }
noncomputable def ann105 : Ann := ann105x FUEL
def ann106x (fu : Nat) : Ann := { drop := true, fresh := none, eat := none, dynPure := true, fuel := fu, excl := fun n => [].contains n, asV := fun n => [6].contains n, heapSite := fun n => [].contains n, narrow := fun n => [].contains n, win := fun n => [].contains n, frz := fun n => [].contains n, rfix := fun n => lkR n [], live := fun r => lkA r [(6, [0, 1, 2], [])] }
noncomputable def ann106 : Ann := ann106x FUEL
def ann107x (fu : Nat) : Ann := { drop := true, fresh := none, eat := none, dynPure := true, fuel := fu, excl := fun n => [].contains n, asV := fun n => [].contains n, heapSite := fun n => [].contains n, narrow := fun n => [].contains n, win := fun n => [].contains n, frz := fun n => [].contains n, rfix := fun n => lkR n [], live := fun r => lkA r [(4, [0, 5], []), (5, [0, 5], []), (10, [0, 5, 7], []), (11, [0, 5, 7], []), (14, [], [])] }
noncomputable def ann107 : Ann := ann107x FUEL
def ann108x (fu : Nat) : Ann := { drop := true, fresh := none, eat := none, dynPure := true, fuel := fu, excl := fun n => [].contains n, asV := fun n => [].contains n, heapSite := fun n => [].contains n, narrow := fun n => [].contains n, win := fun n => [].contains n, frz := fun n => [].contains n, rfix := fun n => lkR n [], live := fun r => lkA r [(2, [1, 2, 3, 4, 9], [4]), (3, [1, 2, 3, 4, 9], [4]), (6, [], [])] }
noncomputable def ann108 : Ann := ann108x FUEL
def ann109x (fu : Nat) : Ann := { drop := false, fresh := none, eat := none, dynPure := true, fuel := fu, excl := fun n => [].contains n, asV := fun n => [].contains n, heapSite := fun n => [].contains n, narrow := fun n => [].contains n, win := fun n => [].contains n, frz := fun n => [].contains n, rfix := fun n => lkR n [], live := fun r => lkA r [] }
noncomputable def ann109 : Ann := ann109x FUEL
def ann110x (fu : Nat) : Ann := { drop := false, fresh := none, eat := none, dynPure := true, fuel := fu, excl := fun n => [].contains n, asV := fun n => [].contains n, heapSite := fun n => [].contains n, narrow := fun n => [].contains n, win := fun n => [].contains n, frz := fun n => [].contains n, rfix := fun n => lkR n [], live := fun r => lkA r [] }
noncomputable def ann110 : Ann := ann110x FUEL
def ann111x (fu : Nat) : Ann := { drop := false, fresh := none, eat := none, dynPure := true, fuel := fu, excl := fun n => [].contains n, asV := fun n => [].contains n, heapSite := fun n => [].contains n, narrow := fun n => [].contains n, win := fun n => [].contains n, frz := fun n => [].contains n, rfix := fun n => lkR n [], live := fun r => lkA r [] }
noncomputable def ann111 : Ann := ann111x FUEL
def ann112x (fu : Nat) : Ann := { drop := true, fresh := none, eat := none, dynPure := true, fuel := fu, excl := fun n => [].contains n, asV := fun n => [4].contains n, heapSite := fun n => [].contains n, narrow := fun n => [].contains n, win := fun n => [].contains n, frz := fun n => [].contains n, rfix := fun n => lkR n [], live := fun r => lkA r [] }
noncomputable def ann112 : Ann := ann112x FUEL
def ann113x (fu : Nat) : Ann := { drop := false, fresh := none, eat := none, dynPure := true, fuel := fu, excl := fun n => [].contains n, asV := fun n => [].contains n, heapSite := fun n => [].contains n, narrow := fun n => [].contains n, win := fun n => [].contains n, frz := fun n => [].contains n, rfix := fun n => lkR n [], live := fun r => lkA r [] }
noncomputable def ann113 : Ann := ann113x FUEL
def ann114x (fu : Nat) : Ann := { drop := false, fresh := none, eat := none, dynPure := true, fuel := fu, excl := fun n => [].contains n, asV := fun n => [].contains n, heapSite := fun n => [].contains n, narrow := fun n => [].contains n, win := fun n => [].contains n, frz := fun n => [].contains n, rfix := fun n => lkR n [], live := fun r => lkA r [] }
noncomputable def ann114 : Ann := ann114x FUEL
def ann115x (fu : Nat) : Ann := { drop := true, fresh := none, eat := none, dynPure := true, fuel := fu, excl := fun n => [].contains n, asV := fun n => [].contains n, heapSite := fun n => [].contains n, narrow := fun n => [].contains n, win := fun n => [].contains n, frz := fun n => [].contains n, rfix := fun n => lkR n [], live := fun r => lkA r [] }
noncomputable def ann115 : Ann := ann115x FUEL
def ann116x (fu : Nat) : Ann := { drop := false, fresh := none, eat := none, dynPure := true, fuel := fu, excl := fun n => [].contains n, asV := fun n => [].contains n, heapSite := fun n => [].contains n, narrow := fun n => [].contains n, win := fun n => [].contains n, frz := fun n => [].contains n, rfix := fun n => lkR n [], live := fun r => lkA r [] }
noncomputable def ann116 : Ann := ann116x FUEL
def ann117x (fu : Nat) : Ann := { drop := true, fresh := none, eat := none, dynPure := true, fuel := fu, excl := fun n => [].contains n, asV := fun n => [4].contains n, heapSite := fun n => [7].contains n, narrow := fun n => [].contains n, win := fun n => [].contains n, frz := fun n => [].contains n, rfix := fun n => lkR n [], live := fun r => lkA r [(8, [3, 7, 8, 41, 42], [3, 8]), (12, [3, 7, 8, 41, 42], [3, 8]), (13, [3, 7, 8], [3, 8]), (15, [3, 7, 8], [3, 8]), (17, [3, 7, 8], [3, 8]), (21, [3, 7, 8], [3, 8]), (24, [3, 7, 8, 92, 93, 94], [3, 8]), (27, [3, 7, 8, 92, 93, 94], [3, 8]), (28, [3, 7, 8], [3, 8]), (31, [7, 109, 110, 111], []), (34, [7, 109, 110, 111], []), (35, [7], [])] }
noncomputable def ann117 : Ann := ann117x FUEL
def ann118x (fu : Nat) : Ann := { drop := true, fresh := none, eat := none, dynPure := true, fuel := fu, excl := fun n => [].contains n, asV := fun n => [7].contains n, heapSite := fun n => [].contains n, narrow := fun n => [].contains n, win := fun n => [].contains n, frz := fun n => [].contains n, rfix := fun n => lkR n [], live := fun r => lkA r [] }
noncomputable def ann118 : Ann := ann118x FUEL
def ann119x (fu : Nat) : Ann := { drop := true, fresh := none, eat := none, dynPure := true, fuel := fu, excl := fun n => [].contains n, asV := fun n => [7].contains n, heapSite := fun n => [].contains n, narrow := fun n => [].contains n, win := fun n => [].contains n, frz := fun n => [].contains n, rfix := fun n => lkR n [], live := fun r => lkA r [] }
noncomputable def ann119 : Ann := ann119x FUEL
def ann120x (fu : Nat) : Ann := { drop := true, fresh := none, eat := none, dynPure := true, fuel := fu, excl := fun n => [].contains n, asV := fun n => [7].contains n, heapSite := fun n => [].contains n, narrow := fun n => [].contains n, win := fun n => [].contains n, frz := fun n => [].contains n, rfix := fun n => lkR n [], live := fun r => lkA r [] }
noncomputable def ann120 : Ann := ann120x FUEL
def ann121x (fu : Nat) : Ann := { drop := true, fresh := none, eat := none, dynPure := true, fuel := fu, excl := fun n => [].contains n, asV := fun n => [7].contains n, heapSite := fun n => [].contains n, narrow := fun n => [].contains n, win := fun n => [].contains n, frz := fun n => [].contains n, rfix := fun n => lkR n [], live := fun r => lkA r [] }
noncomputable def ann121 : Ann := ann121x FUEL
def ann122x (fu : Nat) : Ann := { drop := true, fresh := none, eat := none, dynPure := true, fuel := fu, excl := fun n => [].contains n, asV := fun n => [7].contains n, heapSite := fun n => [].contains n, narrow := fun n => [].contains n, win := fun n => [].contains n, frz := fun n => [].contains n, rfix := fun n => lkR n [], live := fun r => lkA r [] }
noncomputable def ann122 : Ann := ann122x FUEL
def ann123x (fu : Nat) : Ann := { drop := true, fresh := none, eat := none, dynPure := true, fuel := fu, excl := fun n => [].contains n, asV := fun n => [7].contains n, heapSite := fun n => [].contains n, narrow := fun n => [].contains n, win := fun n => [].contains n, frz := fun n => [].contains n, rfix := fun n => lkR n [], live := fun r => lkA r [] }
noncomputable def ann123 : Ann := ann123x FUEL
def ann124x (fu : Nat) : Ann := { drop := true, fresh := none, eat := none, dynPure := true, fuel := fu, excl := fun n => [].contains n, asV := fun n => [7].contains n, heapSite := fun n => [].contains n, narrow := fun n => [].contains n, win := fun n => [].contains n, frz := fun n => [].contains n, rfix := fun n => lkR n [], live := fun r => lkA r [] }
noncomputable def ann124 : Ann := ann124x FUEL
def ann125x (fu : Nat) : Ann := { drop := true, fresh := none, eat := none, dynPure := true, fuel := fu, excl := fun n => [].contains n, asV := fun n => [7].contains n, heapSite := fun n => [].contains n, narrow := fun n => [].contains n, win := fun n => [].contains n, frz := fun n => [].contains n, rfix := fun n => lkR n [], live := fun r => lkA r [] }
noncomputable def ann125 : Ann := ann125x FUEL
def ann126x (fu : Nat) : Ann := { drop := true, fresh := none, eat := none, dynPure := true, fuel := fu, excl := fun n => [].contains n, asV := fun n => [7].contains n, heapSite := fun n => [].contains n, narrow := fun n => [].contains n, win := fun n => [].contains n, frz := fun n => [].contains n, rfix := fun n => lkR n [], live := fun r => lkA r [] }
noncomputable def ann126 : Ann := ann126x FUEL
def ann127x (fu : Nat) : Ann := { drop := true, fresh := none, eat := none, dynPure := true, fuel := fu, excl := fun n => [].contains n, asV := fun n => [7].contains n, heapSite := fun n => [].contains n, narrow := fun n => [].contains n, win := fun n => [].contains n, frz := fun n => [].contains n, rfix := fun n => lkR n [], live := fun r => lkA r [] }
noncomputable def ann127 : Ann := ann127x FUEL
def ann128x (fu : Nat) : Ann := { drop := true, fresh := none, eat := none, dynPure := true, fuel := fu, excl := fun n => [].contains n, asV := fun n => [7].contains n, heapSite := fun n => [].contains n, narrow := fun n => [].contains n, win := fun n => [].contains n, frz := fun n => [].contains n, rfix := fun n => lkR n [], live := fun r => lkA r [] }
noncomputable def ann128 : Ann := ann128x FUEL
def ann129x (fu : Nat) : Ann := { drop := true, fresh := none, eat := none, dynPure := true, fuel := fu, excl := fun n => [].contains n, asV := fun n => [7].contains n, heapSite := fun n => [].contains n, narrow := fun n => [].contains n, win := fun n => [].contains n, frz := fun n => [].contains n, rfix := fun n => lkR n [], live := fun r => lkA r [] }
noncomputable def ann129 : Ann := ann129x FUEL
def ann130x (fu : Nat) : Ann := { drop := false, fresh := none, eat := none, dynPure := true, fuel := fu, excl := fun n => [].contains n, asV := fun n => [].contains n, heapSite := fun n => [].contains n, narrow := fun n => [].contains n, win := fun n => [].contains n, frz := fun n => [].contains n, rfix := fun n => lkR n [], live := fun r => lkA r [] }
noncomputable def ann130 : Ann := ann130x FUEL
def ann131x (fu : Nat) : Ann := { drop := false, fresh := none, eat := none, dynPure := true, fuel := fu, excl := fun n => [].contains n, asV := fun n => [].contains n, heapSite := fun n => [].contains n, narrow := fun n => [].contains n, win := fun n => [].contains n, frz := fun n => [].contains n, rfix := fun n => lkR n [], live := fun r => lkA r [(11, [0, 5, 6], []), (13, [0, 5, 6, 7, 43, 44], []), (16, [0, 5, 6, 7, 43, 44], []), (17, [0, 6, 7], [])] }
noncomputable def ann131 : Ann := ann131x FUEL
def ann132x (fu : Nat) : Ann := { drop := false, fresh := none, eat := none, dynPure := true, fuel := fu, excl := fun n => [].contains n, asV := fun n => [].contains n, heapSite := fun n => [].contains n, narrow := fun n => [].contains n, win := fun n => [].contains n, frz := fun n => [].contains n, rfix := fun n => lkR n [], live := fun r => lkA r [] }
noncomputable def ann132 : Ann := ann132x FUEL
def ann133x (fu : Nat) : Ann := { drop := true, fresh := none, eat := none, dynPure := true, fuel := fu, excl := fun n => [].contains n, asV := fun n => [].contains n, heapSite := fun n => [].contains n, narrow := fun n => [].contains n, win := fun n => [].contains n, frz := fun n => [].contains n, rfix := fun n => lkR n [], live := fun r => lkA r [(5, [1], [1]), (7, [1, 5], [1]), (11, [1], [1]), (15, [1], [1]), (16, [1, 3], [1])] }
noncomputable def ann133 : Ann := ann133x FUEL
def ann134x (fu : Nat) : Ann := { drop := true, fresh := none, eat := none, dynPure := true, fuel := fu, excl := fun n => [].contains n, asV := fun n => [].contains n, heapSite := fun n => [].contains n, narrow := fun n => [].contains n, win := fun n => [].contains n, frz := fun n => [8].contains n, rfix := fun n => lkR n [], live := fun r => lkA r [] }
noncomputable def ann134 : Ann := ann134x FUEL
def ann135x (fu : Nat) : Ann := { drop := false, fresh := none, eat := none, dynPure := true, fuel := fu, excl := fun n => [].contains n, asV := fun n => [].contains n, heapSite := fun n => [].contains n, narrow := fun n => [].contains n, win := fun n => [].contains n, frz := fun n => [].contains n, rfix := fun n => lkR n [], live := fun r => lkA r [(3, [0, 3], [3]), (11, [], [])] }
noncomputable def ann135 : Ann := ann135x FUEL
def ann136x (fu : Nat) : Ann := { drop := false, fresh := none, eat := none, dynPure := true, fuel := fu, excl := fun n => [].contains n, asV := fun n => [].contains n, heapSite := fun n => [3].contains n, narrow := fun n => [].contains n, win := fun n => [].contains n, frz := fun n => [].contains n, rfix := fun n => lkR n [], live := fun r => lkA r [] }
noncomputable def ann136 : Ann := ann136x FUEL
def ann137x (fu : Nat) : Ann := { drop := false, fresh := none, eat := none, dynPure := true, fuel := fu, excl := fun n => [].contains n, asV := fun n => [].contains n, heapSite := fun n => [].contains n, narrow := fun n => [].contains n, win := fun n => [].contains n, frz := fun n => [].contains n, rfix := fun n => lkR n [], live := fun r => lkA r [(4, [4, 5], [4, 5])] }
noncomputable def ann137 : Ann := ann137x FUEL
def ann138x (fu : Nat) : Ann := { drop := false, fresh := none, eat := none, dynPure := true, fuel := fu, excl := fun n => [].contains n, asV := fun n => [2].contains n, heapSite := fun n => [].contains n, narrow := fun n => [].contains n, win := fun n => [].contains n, frz := fun n => [].contains n, rfix := fun n => lkR n [], live := fun r => lkA r [(5, [3, 12], [3]), (8, [3], [3])] }
noncomputable def ann138 : Ann := ann138x FUEL
def ann139x (fu : Nat) : Ann := { drop := true, fresh := none, eat := none, dynPure := true, fuel := fu, excl := fun n => [].contains n, asV := fun n => [].contains n, heapSite := fun n => [].contains n, narrow := fun n => [].contains n, win := fun n => [].contains n, frz := fun n => [].contains n, rfix := fun n => lkR n [], live := fun r => lkA r [(3, [1], [])] }
noncomputable def ann139 : Ann := ann139x FUEL
def ann140x (fu : Nat) : Ann := { drop := true, fresh := none, eat := none, dynPure := true, fuel := fu, excl := fun n => [].contains n, asV := fun n => [].contains n, heapSite := fun n => [].contains n, narrow := fun n => [].contains n, win := fun n => [].contains n, frz := fun n => [].contains n, rfix := fun n => lkR n [], live := fun r => lkA r [(2, [0, 1, 2, 3, 4, 10, 11], [103]), (10, [0, 1, 2, 3, 4, 10, 11, 12], [103]), (15, [0, 1, 2, 3, 4, 10, 11, 12, 13, 14], [103]), (17, [0, 1, 2, 3, 4, 10, 11, 12, 13], [103]), (18, [0, 1, 2, 3, 4, 10, 11, 13], [103]), (20, [0, 1, 2, 3, 4, 12, 13], [103])] }
noncomputable def ann140 : Ann := ann140x FUEL
def ann141x (fu : Nat) : Ann := { drop := true, fresh := none, eat := none, dynPure := true, fuel := fu, excl := fun n => [].contains n, asV := fun n => [].contains n, heapSite := fun n => [].contains n, narrow := fun n => [].contains n, win := fun n => [].contains n, frz := fun n => [].contains n, rfix := fun n => lkR n [], live := fun r => lkA r [] }
noncomputable def ann141 : Ann := ann141x FUEL
def ann142x (fu : Nat) : Ann := { drop := true, fresh := none, eat := none, dynPure := true, fuel := fu, excl := fun n => [].contains n, asV := fun n => [].contains n, heapSite := fun n => [].contains n, narrow := fun n => [].contains n, win := fun n => [].contains n, frz := fun n => [].contains n, rfix := fun n => lkR n [], live := fun r => lkA r [] }
noncomputable def ann142 : Ann := ann142x FUEL
def ann143x (fu : Nat) : Ann := { drop := true, fresh := none, eat := none, dynPure := true, fuel := fu, excl := fun n => [].contains n, asV := fun n => [].contains n, heapSite := fun n => [].contains n, narrow := fun n => [].contains n, win := fun n => [].contains n, frz := fun n => [].contains n, rfix := fun n => lkR n [], live := fun r => lkA r [(4, [2, 3, 4, 5, 9], [4, 5]), (6, [2, 3, 4, 5, 9], [4, 5]), (8, [2, 3, 4, 5, 9], [4, 5]), (10, [2, 3, 4, 5, 9], [4, 5]), (12, [2, 3, 4, 5, 9], [4, 5]), (14, [2, 3, 4, 5, 9], [4, 5]), (16, [2, 3, 5, 9], [5]), (18, [2, 3, 5, 9], [5]), (20, [2, 3, 5], [5]), (22, [2, 3, 5], [5]), (24, [2, 3, 5], [5])] }
noncomputable def ann143 : Ann := ann143x FUEL
def ann144x (fu : Nat) : Ann := { drop := true, fresh := none, eat := none, dynPure := true, fuel := fu, excl := fun n => [].contains n, asV := fun n => [2, 3, 10, 14, 18].contains n, heapSite := fun n => [].contains n, narrow := fun n => [].contains n, win := fun n => [].contains n, frz := fun n => [].contains n, rfix := fun n => lkR n [], live := fun r => lkA r [(2, [0, 3], []), (5, [3], [])] }
noncomputable def ann144 : Ann := ann144x FUEL
def ann145x (fu : Nat) : Ann := { drop := true, fresh := none, eat := none, dynPure := true, fuel := fu, excl := fun n => [].contains n, asV := fun n => [2].contains n, heapSite := fun n => [].contains n, narrow := fun n => [].contains n, win := fun n => [].contains n, frz := fun n => [].contains n, rfix := fun n => lkR n [], live := fun r => lkA r [] }
noncomputable def ann145 : Ann := ann145x FUEL
def ann146x (fu : Nat) : Ann := { drop := true, fresh := none, eat := none, dynPure := true, fuel := fu, excl := fun n => [].contains n, asV := fun n => [].contains n, heapSite := fun n => [].contains n, narrow := fun n => [].contains n, win := fun n => [].contains n, frz := fun n => [].contains n, rfix := fun n => lkR n [], live := fun r => lkA r [(3, [0, 3, 4], []), (4, [0, 3, 4], []), (7, [0, 3, 4, 5], []), (8, [0, 3, 4, 5], []), (13, [3], [])] }
noncomputable def ann146 : Ann := ann146x FUEL
def ann147x (fu : Nat) : Ann := { drop := true, fresh := none, eat := none, dynPure := true, fuel := fu, excl := fun n => [].contains n, asV := fun n => [2].contains n, heapSite := fun n => [].contains n, narrow := fun n => [].contains n, win := fun n => [].contains n, frz := fun n => [].contains n, rfix := fun n => lkR n [], live := fun r => lkA r [] }
noncomputable def ann147 : Ann := ann147x FUEL
def ann148x (fu : Nat) : Ann := { drop := true, fresh := none, eat := none, dynPure := true, fuel := fu, excl := fun n => [].contains n, asV := fun n => [2].contains n, heapSite := fun n => [].contains n, narrow := fun n => [].contains n, win := fun n => [].contains n, frz := fun n => [].contains n, rfix := fun n => lkR n [], live := fun r => lkA r [] }
noncomputable def ann148 : Ann := ann148x FUEL
def ann149x (fu : Nat) : Ann := { drop := true, fresh := none, eat := none, dynPure := true, fuel := fu, excl := fun n => [].contains n, asV := fun n => [2].contains n, heapSite := fun n => [].contains n, narrow := fun n => [].contains n, win := fun n => [].contains n, frz := fun n => [].contains n, rfix := fun n => lkR n [], live := fun r => lkA r [] }
noncomputable def ann149 : Ann := ann149x FUEL
def ann150x (fu : Nat) : Ann := { drop := true, fresh := none, eat := none, dynPure := true, fuel := fu, excl := fun n => [].contains n, asV := fun n => [2].contains n, heapSite := fun n => [].contains n, narrow := fun n => [].contains n, win := fun n => [].contains n, frz := fun n => [].contains n, rfix := fun n => lkR n [], live := fun r => lkA r [] }
noncomputable def ann150 : Ann := ann150x FUEL
def ann151x (fu : Nat) : Ann := { drop := true, fresh := none, eat := none, dynPure := true, fuel := fu, excl := fun n => [].contains n, asV := fun n => [2].contains n, heapSite := fun n => [].contains n, narrow := fun n => [].contains n, win := fun n => [].contains n, frz := fun n => [].contains n, rfix := fun n => lkR n [], live := fun r => lkA r [] }
noncomputable def ann151 : Ann := ann151x FUEL
def ann152x (fu : Nat) : Ann := { drop := true, fresh := none, eat := none, dynPure := true, fuel := fu, excl := fun n => [].contains n, asV := fun n => [2].contains n, heapSite := fun n => [].contains n, narrow := fun n => [].contains n, win := fun n => [].contains n, frz := fun n => [].contains n, rfix := fun n => lkR n [], live := fun r => lkA r [] }
noncomputable def ann152 : Ann := ann152x FUEL
def ann153x (fu : Nat) : Ann := { drop := true, fresh := none, eat := none, dynPure := true, fuel := fu, excl := fun n => [].contains n, asV := fun n => [].contains n, heapSite := fun n => [].contains n, narrow := fun n => [].contains n, win := fun n => [].contains n, frz := fun n => [].contains n, rfix := fun n => lkR n [], live := fun r => lkA r [(3, [1], [1])] }
noncomputable def ann153 : Ann := ann153x FUEL
def ann154x (fu : Nat) : Ann := { drop := true, fresh := none, eat := none, dynPure := true, fuel := fu, excl := fun n => [].contains n, asV := fun n => [6].contains n, heapSite := fun n => [].contains n, narrow := fun n => [].contains n, win := fun n => [].contains n, frz := fun n => [].contains n, rfix := fun n => lkR n [], live := fun r => lkA r [(6, [4, 5, 9, 18, 19], [4, 5, 9, 18]), (10, [4, 5, 9, 18, 19], [4, 5, 9, 18]), (11, [9], [9])] }
noncomputable def ann154 : Ann := ann154x FUEL
def ann155x (fu : Nat) : Ann := { drop := true, fresh := none, eat := none, dynPure := true, fuel := fu, excl := fun n => [].contains n, asV := fun n => [].contains n, heapSite := fun n => [].contains n, narrow := fun n => [].contains n, win := fun n => [].contains n, frz := fun n => [].contains n, rfix := fun n => lkR n [], live := fun r => lkA r [(5, [2, 5, 7, 8, 11], [5, 7, 8]), (7, [2, 5, 7, 8], [5, 7, 8])] }
noncomputable def ann155 : Ann := ann155x FUEL
def ann156x (fu : Nat) : Ann := { drop := false, fresh := none, eat := none, dynPure := true, fuel := fu, excl := fun n => [].contains n, asV := fun n => [].contains n, heapSite := fun n => [].contains n, narrow := fun n => [].contains n, win := fun n => [].contains n, frz := fun n => [].contains n, rfix := fun n => lkR n [], live := fun r => lkA r [] }
noncomputable def ann156 : Ann := ann156x FUEL
def ann157x (fu : Nat) : Ann := { drop := false, fresh := none, eat := none, dynPure := true, fuel := fu, excl := fun n => [].contains n, asV := fun n => [].contains n, heapSite := fun n => [].contains n, narrow := fun n => [].contains n, win := fun n => [].contains n, frz := fun n => [].contains n, rfix := fun n => lkR n [], live := fun r => lkA r [] }
noncomputable def ann157 : Ann := ann157x FUEL
def ann158x (fu : Nat) : Ann := { drop := false, fresh := none, eat := none, dynPure := true, fuel := fu, excl := fun n => [].contains n, asV := fun n => [].contains n, heapSite := fun n => [].contains n, narrow := fun n => [].contains n, win := fun n => [].contains n, frz := fun n => [].contains n, rfix := fun n => lkR n [], live := fun r => lkA r [] }
noncomputable def ann158 : Ann := ann158x FUEL
def ann159x (fu : Nat) : Ann := { drop := false, fresh := none, eat := none, dynPure := true, fuel := fu, excl := fun n => [].contains n, asV := fun n => [].contains n, heapSite := fun n => [].contains n, narrow := fun n => [].contains n, win := fun n => [].contains n, frz := fun n => [].contains n, rfix := fun n => lkR n [], live := fun r => lkA r [] }
noncomputable def ann159 : Ann := ann159x FUEL
def ann160x (fu : Nat) : Ann := { drop := false, fresh := none, eat := none, dynPure := true, fuel := fu, excl := fun n => [].contains n, asV := fun n => [].contains n, heapSite := fun n => [].contains n, narrow := fun n => [].contains n, win := fun n => [].contains n, frz := fun n => [].contains n, rfix := fun n => lkR n [], live := fun r => lkA r [] }
noncomputable def ann160 : Ann := ann160x FUEL
def ann161x (fu : Nat) : Ann := { drop := false, fresh := none, eat := none, dynPure := true, fuel := fu, excl := fun n => [].contains n, asV := fun n => [].contains n, heapSite := fun n => [].contains n, narrow := fun n => [].contains n, win := fun n => [].contains n, frz := fun n => [].contains n, rfix := fun n => lkR n [], live := fun r => lkA r [] }
noncomputable def ann161 : Ann := ann161x FUEL
def ann162x (fu : Nat) : Ann := { drop := false, fresh := none, eat := none, dynPure := true, fuel := fu, excl := fun n => [].contains n, asV := fun n => [].contains n, heapSite := fun n => [].contains n, narrow := fun n => [].contains n, win := fun n => [].contains n, frz := fun n => [].contains n, rfix := fun n => lkR n [], live := fun r => lkA r [] }
noncomputable def ann162 : Ann := ann162x FUEL
def ann163x (fu : Nat) : Ann := { drop := false, fresh := none, eat := none, dynPure := true, fuel := fu, excl := fun n => [].contains n, asV := fun n => [].contains n, heapSite := fun n => [].contains n, narrow := fun n => [].contains n, win := fun n => [].contains n, frz := fun n => [].contains n, rfix := fun n => lkR n [], live := fun r => lkA r [(4, [0, 1, 2], [])] }
noncomputable def ann163 : Ann := ann163x FUEL
def ann164x (fu : Nat) : Ann := { drop := false, fresh := none, eat := none, dynPure := true, fuel := fu, excl := fun n => [].contains n, asV := fun n => [2].contains n, heapSite := fun n => [].contains n, narrow := fun n => [].contains n, win := fun n => [].contains n, frz := fun n => [].contains n, rfix := fun n => lkR n [], live := fun r => lkA r [] }
noncomputable def ann164 : Ann := ann164x FUEL
def ann165x (fu : Nat) : Ann := { drop := true, fresh := none, eat := none, dynPure := true, fuel := fu, excl := fun n => [].contains n, asV := fun n => [2].contains n, heapSite := fun n => [].contains n, narrow := fun n => [].contains n, win := fun n => [].contains n, frz := fun n => [].contains n, rfix := fun n => lkR n [], live := fun r => lkA r [(6, [0, 4, 17], [14]), (9, [0, 4, 17], [14]), (10, [0, 4], [14]), (13, [4, 6, 36], [14, 35]), (16, [4, 6, 36], [14, 35]), (17, [4], [14])] }
noncomputable def ann165 : Ann := ann165x FUEL
def ann166x (fu : Nat) : Ann := { drop := true, fresh := none, eat := none, dynPure := false, fuel := fu, excl := fun n => [].contains n, asV := fun n => [9].contains n, heapSite := fun n => [64].contains n, narrow := fun n => [].contains n, win := fun n => [].contains n, frz := fun n => [].contains n, rfix := fun n => lkR n [], live := fun r => lkA r [(12, [0, 5, 7, 8, 13], [5, 7, 8, 13])] }
noncomputable def ann166 : Ann := ann166x FUEL
def ann167x (fu : Nat) : Ann := { drop := true, fresh := none, eat := none, dynPure := false, fuel := fu, excl := fun n => [].contains n, asV := fun n => [9].contains n, heapSite := fun n => [49].contains n, narrow := fun n => [].contains n, win := fun n => [].contains n, frz := fun n => [].contains n, rfix := fun n => lkR n [], live := fun r => lkA r [(4, [3, 4, 5, 6, 8, 11], [4, 5, 6, 8, 18, 31]), (6, [3, 4, 5, 6, 8, 11], [4, 5, 6, 8, 18, 31]), (12, [8, 15], [8])] }
noncomputable def ann167 : Ann := ann167x FUEL
def ann168x (fu : Nat) : Ann := { drop := true, fresh := none, eat := none, dynPure := false, fuel := fu, excl := fun n => [].contains n, asV := fun n => [].contains n, heapSite := fun n => [8, 9, 10, 47].contains n, narrow := fun n => [].contains n, win := fun n => [].contains n, frz := fun n => [].contains n, rfix := fun n => lkR n [], live := fun r => lkA r [(5, [0, 5, 6, 7, 8, 9, 10], [5, 6, 7])] }
noncomputable def ann168 : Ann := ann168x FUEL
def ann169x (fu : Nat) : Ann := { drop := true, fresh := none, eat := none, dynPure := true, fuel := fu, excl := fun n => [11].contains n, asV := fun n => [4].contains n, heapSite := fun n => [].contains n, narrow := fun n => [].contains n, win := fun n => [18].contains n, frz := fun n => [].contains n, rfix := fun n => lkR n [], live := fun r => lkA r [] }
noncomputable def ann169 : Ann := ann169x FUEL
def ann170x (fu : Nat) : Ann := { drop := true, fresh := none, eat := none, dynPure := true, fuel := fu, excl := fun n => [].contains n, asV := fun n => [].contains n, heapSite := fun n => [].contains n, narrow := fun n => [].contains n, win := fun n => [].contains n, frz := fun n => [].contains n, rfix := fun n => lkR n [], live := fun r => lkA r [(1, [0, 2, 4], []), (2, [0, 2, 4], [])] }
noncomputable def ann170 : Ann := ann170x FUEL
def ann171x (fu : Nat) : Ann := { drop := false, fresh := none, eat := none, dynPure := true, fuel := fu, excl := fun n => [].contains n, asV := fun n => [].contains n, heapSite := fun n => [].contains n, narrow := fun n => [].contains n, win := fun n => [].contains n, frz := fun n => [].contains n, rfix := fun n => lkR n [], live := fun r => lkA r [(3, [0, 3, 4], [3, 4]), (17, [0, 4], [4])] }
noncomputable def ann171 : Ann := ann171x FUEL
def ann172x (fu : Nat) : Ann := { drop := false, fresh := none, eat := none, dynPure := true, fuel := fu, excl := fun n => [].contains n, asV := fun n => [].contains n, heapSite := fun n => [].contains n, narrow := fun n => [].contains n, win := fun n => [].contains n, frz := fun n => [].contains n, rfix := fun n => lkR n [], live := fun r => lkA r [(2, [0, 1, 2], [])] }
noncomputable def ann172 : Ann := ann172x FUEL
def ann173x (fu : Nat) : Ann := { drop := true, fresh := none, eat := none, dynPure := true, fuel := fu, excl := fun n => [].contains n, asV := fun n => [].contains n, heapSite := fun n => [].contains n, narrow := fun n => [].contains n, win := fun n => [].contains n, frz := fun n => [].contains n, rfix := fun n => lkR n [], live := fun r => lkA r [] }
noncomputable def ann173 : Ann := ann173x FUEL
def ann174x (fu : Nat) : Ann := { drop := true, fresh := none, eat := none, dynPure := true, fuel := fu, excl := fun n => [].contains n, asV := fun n => [].contains n, heapSite := fun n => [].contains n, narrow := fun n => [].contains n, win := fun n => [].contains n, frz := fun n => [].contains n, rfix := fun n => lkR n [], live := fun r => lkA r [] }
noncomputable def ann174 : Ann := ann174x FUEL
def ann175x (fu : Nat) : Ann := { drop := true, fresh := none, eat := none, dynPure := true, fuel := fu, excl := fun n => [].contains n, asV := fun n => [].contains n, heapSite := fun n => [].contains n, narrow := fun n => [].contains n, win := fun n => [].contains n, frz := fun n => [].contains n, rfix := fun n => lkR n [], live := fun r => lkA r [(1, [0, 1, 2, 3, 8], []), (2, [0, 1, 2, 3, 8], []), (4, [0, 1, 2, 3, 8, 9], []), (5, [0, 1, 2, 3, 8, 9], []), (6, [0, 1, 2, 3, 8, 9], [])] }
noncomputable def ann175 : Ann := ann175x FUEL
def ann176x (fu : Nat) : Ann := { drop := true, fresh := none, eat := none, dynPure := true, fuel := fu, excl := fun n => [].contains n, asV := fun n => [].contains n, heapSite := fun n => [].contains n, narrow := fun n => [].contains n, win := fun n => [].contains n, frz := fun n => [].contains n, rfix := fun n => lkR n [], live := fun r => lkA r [(4, [0, 3, 8, 9, 10, 11], []), (5, [0, 3, 8, 9, 10, 11], []), (7, [0, 3, 8, 9, 10], []), (8, [0, 3, 8, 9, 12], []), (9, [0, 3, 8, 9, 12], [])] }
noncomputable def ann176 : Ann := ann176x FUEL
def ann177x (fu : Nat) : Ann := { drop := true, fresh := none, eat := none, dynPure := true, fuel := fu, excl := fun n => [].contains n, asV := fun n => [].contains n, heapSite := fun n => [9].contains n, narrow := fun n => [].contains n, win := fun n => [].contains n, frz := fun n => [].contains n, rfix := fun n => lkR n [], live := fun r => lkA r [(5, [0, 1, 8, 9, 10, 11], [21]), (6, [0, 1, 8, 9, 10, 11], [21]), (10, [0, 1, 8, 9, 10, 11, 12], [21])] }
noncomputable def ann177 : Ann := ann177x FUEL
def ann178x (fu : Nat) : Ann := { drop := true, fresh := none, eat := none, dynPure := true, fuel := fu, excl := fun n => [].contains n, asV := fun n => [].contains n, heapSite := fun n => [11].contains n, narrow := fun n => [].contains n, win := fun n => [].contains n, frz := fun n => [].contains n, rfix := fun n => lkR n [], live := fun r => lkA r [(11, [0, 3, 11, 12, 13, 14], [40, 44, 48, 54]), (12, [11, 13], [44, 54])] }
noncomputable def ann178 : Ann := ann178x FUEL
def ann179x (fu : Nat) : Ann := { drop := true, fresh := none, eat := none, dynPure := true, fuel := fu, excl := fun n => [].contains n, asV := fun n => [].contains n, heapSite := fun n => [].contains n, narrow := fun n => [].contains n, win := fun n => [].contains n, frz := fun n => [].contains n, rfix := fun n => lkR n [], live := fun r => lkA r [(2, [0, 8, 9], [])] }
noncomputable def ann179 : Ann := ann179x FUEL
def ann180x (fu : Nat) : Ann := { drop := true, fresh := none, eat := none, dynPure := true, fuel := fu, excl := fun n => [].contains n, asV := fun n => [].contains n, heapSite := fun n => [].contains n, narrow := fun n => [].contains n, win := fun n => [].contains n, frz := fun n => [].contains n, rfix := fun n => lkR n [], live := fun r => lkA r [(3, [0, 1, 2, 3, 9, 10], []), (4, [0, 1, 2, 3, 9, 10], []), (5, [0, 1, 2, 3, 9, 10], []), (6, [0, 1, 2, 3, 9, 10], []), (7, [0, 1, 2, 3, 9, 10], []), (14, [0, 1, 2, 3, 9, 10, 11], []), (15, [0, 1, 2, 3, 9, 10, 11], []), (18, [0, 1, 2, 3, 9, 10], []), (20, [0, 1, 2, 3, 9, 10, 12], []), (21, [0, 1, 2, 3, 9, 10, 12], []), (24, [], [])] }
noncomputable def ann180 : Ann := ann180x FUEL
def ann181x (fu : Nat) : Ann := { drop := true, fresh := none, eat := none, dynPure := true, fuel := fu, excl := fun n => [].contains n, asV := fun n => [].contains n, heapSite := fun n => [].contains n, narrow := fun n => [].contains n, win := fun n => [].contains n, frz := fun n => [].contains n, rfix := fun n => lkR n [], live := fun r => lkA r [(3, [0, 1, 4, 11, 12], []), (4, [0, 1, 4, 11, 12], []), (5, [0, 1, 4, 11, 12], []), (6, [0, 1, 4, 11, 12], []), (7, [0, 1, 4, 11, 12], []), (11, [11], [])] }
noncomputable def ann181 : Ann := ann181x FUEL
def ann182x (fu : Nat) : Ann := { drop := true, fresh := none, eat := none, dynPure := true, fuel := fu, excl := fun n => [].contains n, asV := fun n => [].contains n, heapSite := fun n => [].contains n, narrow := fun n => [].contains n, win := fun n => [].contains n, frz := fun n => [].contains n, rfix := fun n => lkR n [], live := fun r => lkA r [(3, [0, 1, 4, 12, 13], []), (4, [0, 1, 4, 12, 13], []), (5, [0, 1, 4, 12, 13], []), (6, [0, 1, 4, 12, 13], []), (7, [0, 1, 4, 12, 13], []), (13, [0, 1, 4, 12, 13], []), (14, [0, 1, 4, 12, 13], []), (15, [0, 1, 4, 12, 13], []), (16, [0, 1, 4, 12, 13], []), (17, [0, 1, 4, 12, 13], []), (21, [0, 1, 13], [])] }
noncomputable def ann182 : Ann := ann182x FUEL
def ann183x (fu : Nat) : Ann := { drop := true, fresh := none, eat := none, dynPure := true, fuel := fu, excl := fun n => [].contains n, asV := fun n => [].contains n, heapSite := fun n => [].contains n, narrow := fun n => [].contains n, win := fun n => [].contains n, frz := fun n => [].contains n, rfix := fun n => lkR n [], live := fun r => lkA r [(4, [0, 2], []), (7, [0, 2], [])] }
noncomputable def ann183 : Ann := ann183x FUEL
def ann184x (fu : Nat) : Ann := { drop := true, fresh := none, eat := none, dynPure := true, fuel := fu, excl := fun n => [].contains n, asV := fun n => [].contains n, heapSite := fun n => [].contains n, narrow := fun n => [].contains n, win := fun n => [].contains n, frz := fun n => [].contains n, rfix := fun n => lkR n [], live := fun r => lkA r [(4, [0, 2], []), (7, [0, 2], []), (10, [0, 2], [])] }
noncomputable def ann184 : Ann := ann184x FUEL
def ann185x (fu : Nat) : Ann := { drop := true, fresh := none, eat := none, dynPure := true, fuel := fu, excl := fun n => [].contains n, asV := fun n => [].contains n, heapSite := fun n => [].contains n, narrow := fun n => [].contains n, win := fun n => [].contains n, frz := fun n => [].contains n, rfix := fun n => lkR n [], live := fun r => lkA r [(2, [3], [3]), (3, [0, 3], [3])] }
noncomputable def ann185 : Ann := ann185x FUEL
def ann186x (fu : Nat) : Ann := { drop := true, fresh := none, eat := none, dynPure := true, fuel := fu, excl := fun n => [].contains n, asV := fun n => [].contains n, heapSite := fun n => [].contains n, narrow := fun n => [].contains n, win := fun n => [].contains n, frz := fun n => [].contains n, rfix := fun n => lkR n [], live := fun r => lkA r [(2, [1, 3], [1]), (6, [1, 3], [1]), (7, [1, 3, 13], [1]), (13, [1], [1]), (14, [], [])] }
noncomputable def ann186 : Ann := ann186x FUEL
def ann187x (fu : Nat) : Ann := { drop := true, fresh := none, eat := none, dynPure := true, fuel := fu, excl := fun n => [].contains n, asV := fun n => [].contains n, heapSite := fun n => [].contains n, narrow := fun n => [].contains n, win := fun n => [].contains n, frz := fun n => [].contains n, rfix := fun n => lkR n [], live := fun r => lkA r [(7, [1, 3, 4, 5, 6], [1]), (9, [1, 3, 4, 5, 6], [1]), (11, [], [])] }
noncomputable def ann187 : Ann := ann187x FUEL
def ann188x (fu : Nat) : Ann := { drop := true, fresh := none, eat := none, dynPure := true, fuel := fu, excl := fun n => [].contains n, asV := fun n => [].contains n, heapSite := fun n => [].contains n, narrow := fun n => [].contains n, win := fun n => [].contains n, frz := fun n => [].contains n, rfix := fun n => lkR n [], live := fun r => lkA r [(5, [1, 5, 6], [5, 6])] }
noncomputable def ann188 : Ann := ann188x FUEL
def ann189x (fu : Nat) : Ann := { drop := false, fresh := none, eat := none, dynPure := true, fuel := fu, excl := fun n => [].contains n, asV := fun n => [].contains n, heapSite := fun n => [].contains n, narrow := fun n => [].contains n, win := fun n => [].contains n, frz := fun n => [].contains n, rfix := fun n => lkR n [], live := fun r => lkA r [] }
noncomputable def ann189 : Ann := ann189x FUEL
def ann190x (fu : Nat) : Ann := { drop := false, fresh := none, eat := none, dynPure := true, fuel := fu, excl := fun n => [].contains n, asV := fun n => [].contains n, heapSite := fun n => [].contains n, narrow := fun n => [].contains n, win := fun n => [].contains n, frz := fun n => [].contains n, rfix := fun n => lkR n [], live := fun r => lkA r [] }
noncomputable def ann190 : Ann := ann190x FUEL
def ann191x (fu : Nat) : Ann := { drop := false, fresh := none, eat := none, dynPure := true, fuel := fu, excl := fun n => [].contains n, asV := fun n => [].contains n, heapSite := fun n => [].contains n, narrow := fun n => [].contains n, win := fun n => [].contains n, frz := fun n => [].contains n, rfix := fun n => lkR n [], live := fun r => lkA r [(1, [0, 1, 4], []), (2, [0, 1, 4], []), (3, [0, 1, 4], []), (5, [0, 1, 4, 28, 29], []), (8, [0, 1, 4, 28, 29], [])] }
noncomputable def ann191 : Ann := ann191x FUEL
def ann192x (fu : Nat) : Ann := { drop := false, fresh := none, eat := none, dynPure := true, fuel := fu, excl := fun n => [].contains n, asV := fun n => [].contains n, heapSite := fun n => [].contains n, narrow := fun n => [].contains n, win := fun n => [].contains n, frz := fun n => [].contains n, rfix := fun n => lkR n [], live := fun r => lkA r [] }
noncomputable def ann192 : Ann := ann192x FUEL
def ann193x (fu : Nat) : Ann := { drop := true, fresh := none, eat := none, dynPure := true, fuel := fu, excl := fun n => [].contains n, asV := fun n => [].contains n, heapSite := fun n => [].contains n, narrow := fun n => [].contains n, win := fun n => [].contains n, frz := fun n => [].contains n, rfix := fun n => lkR n [], live := fun r => lkA r [(4, [3, 4, 5, 6, 9], [3, 4, 5, 6, 13, 18]), (15, [4, 5, 6, 10], [4, 5, 6, 10])] }
noncomputable def ann193 : Ann := ann193x FUEL
def ann194x (fu : Nat) : Ann := { drop := false, fresh := none, eat := none, dynPure := true, fuel := fu, excl := fun n => [].contains n, asV := fun n => [].contains n, heapSite := fun n => [].contains n, narrow := fun n => [].contains n, win := fun n => [].contains n, frz := fun n => [].contains n, rfix := fun n => lkR n [], live := fun r => lkA r [(9, [0, 2, 3], [3])] }
noncomputable def ann194 : Ann := ann194x FUEL
def ann195x (fu : Nat) : Ann := { drop := false, fresh := none, eat := none, dynPure := true, fuel := fu, excl := fun n => [].contains n, asV := fun n => [].contains n, heapSite := fun n => [].contains n, narrow := fun n => [].contains n, win := fun n => [].contains n, frz := fun n => [].contains n, rfix := fun n => lkR n [], live := fun r => lkA r [(6, [0, 2], [])] }
noncomputable def ann195 : Ann := ann195x FUEL
def ann196x (fu : Nat) : Ann := { drop := false, fresh := none, eat := none, dynPure := true, fuel := fu, excl := fun n => [].contains n, asV := fun n => [].contains n, heapSite := fun n => [].contains n, narrow := fun n => [].contains n, win := fun n => [].contains n, frz := fun n => [].contains n, rfix := fun n => lkR n [], live := fun r => lkA r [(1, [0], [])] }
noncomputable def ann196 : Ann := ann196x FUEL
def ann197x (fu : Nat) : Ann := { drop := false, fresh := none, eat := none, dynPure := true, fuel := fu, excl := fun n => [].contains n, asV := fun n => [].contains n, heapSite := fun n => [].contains n, narrow := fun n => [].contains n, win := fun n => [].contains n, frz := fun n => [].contains n, rfix := fun n => lkR n [], live := fun r => lkA r [] }
noncomputable def ann197 : Ann := ann197x FUEL
def ann198x (fu : Nat) : Ann := { drop := false, fresh := none, eat := none, dynPure := true, fuel := fu, excl := fun n => [].contains n, asV := fun n => [].contains n, heapSite := fun n => [].contains n, narrow := fun n => [].contains n, win := fun n => [].contains n, frz := fun n => [].contains n, rfix := fun n => lkR n [], live := fun r => lkA r [(4, [0, 2, 6], [2])] }
noncomputable def ann198 : Ann := ann198x FUEL
def ann199x (fu : Nat) : Ann := { drop := false, fresh := none, eat := none, dynPure := true, fuel := fu, excl := fun n => [].contains n, asV := fun n => [].contains n, heapSite := fun n => [].contains n, narrow := fun n => [].contains n, win := fun n => [].contains n, frz := fun n => [].contains n, rfix := fun n => lkR n [], live := fun r => lkA r [] }
noncomputable def ann199 : Ann := ann199x FUEL
def ann200x (fu : Nat) : Ann := { drop := true, fresh := none, eat := none, dynPure := true, fuel := fu, excl := fun n => [].contains n, asV := fun n => [].contains n, heapSite := fun n => [].contains n, narrow := fun n => [].contains n, win := fun n => [].contains n, frz := fun n => [].contains n, rfix := fun n => lkR n [], live := fun r => lkA r [(5, [0, 1, 2, 4], [4])] }
noncomputable def ann200 : Ann := ann200x FUEL
def ann201x (fu : Nat) : Ann := { drop := true, fresh := none, eat := none, dynPure := true, fuel := fu, excl := fun n => [].contains n, asV := fun n => [].contains n, heapSite := fun n => [].contains n, narrow := fun n => [].contains n, win := fun n => [].contains n, frz := fun n => [].contains n, rfix := fun n => lkR n [], live := fun r => lkA r [] }
noncomputable def ann201 : Ann := ann201x FUEL
def ann202x (fu : Nat) : Ann := { drop := false, fresh := none, eat := none, dynPure := true, fuel := fu, excl := fun n => [].contains n, asV := fun n => [].contains n, heapSite := fun n => [].contains n, narrow := fun n => [].contains n, win := fun n => [].contains n, frz := fun n => [].contains n, rfix := fun n => lkR n [], live := fun r => lkA r [(4, [0, 2], [2])] }
noncomputable def ann202 : Ann := ann202x FUEL
def ann203x (fu : Nat) : Ann := { drop := false, fresh := none, eat := none, dynPure := true, fuel := fu, excl := fun n => [].contains n, asV := fun n => [].contains n, heapSite := fun n => [].contains n, narrow := fun n => [].contains n, win := fun n => [].contains n, frz := fun n => [].contains n, rfix := fun n => lkR n [], live := fun r => lkA r [(1, [0], [])] }
noncomputable def ann203 : Ann := ann203x FUEL
def ann204x (fu : Nat) : Ann := { drop := false, fresh := none, eat := none, dynPure := true, fuel := fu, excl := fun n => [].contains n, asV := fun n => [].contains n, heapSite := fun n => [].contains n, narrow := fun n => [].contains n, win := fun n => [].contains n, frz := fun n => [].contains n, rfix := fun n => lkR n [], live := fun r => lkA r [(1, [0], [])] }
noncomputable def ann204 : Ann := ann204x FUEL
def ann205x (fu : Nat) : Ann := { drop := false, fresh := none, eat := none, dynPure := true, fuel := fu, excl := fun n => [].contains n, asV := fun n => [].contains n, heapSite := fun n => [].contains n, narrow := fun n => [].contains n, win := fun n => [].contains n, frz := fun n => [].contains n, rfix := fun n => lkR n [], live := fun r => lkA r [(1, [0], []), (2, [0], [])] }
noncomputable def ann205 : Ann := ann205x FUEL
def ann206x (fu : Nat) : Ann := { drop := true, fresh := none, eat := none, dynPure := true, fuel := fu, excl := fun n => [].contains n, asV := fun n => [].contains n, heapSite := fun n => [].contains n, narrow := fun n => [].contains n, win := fun n => [].contains n, frz := fun n => [].contains n, rfix := fun n => lkR n [], live := fun r => lkA r [(2, [0, 1, 2, 3, 4, 10, 11], [103]), (10, [0, 1, 2, 3, 4, 10, 11, 12], [103]), (15, [0, 1, 2, 3, 4, 10, 11, 12, 13, 14], [103]), (17, [0, 1, 2, 3, 4, 10, 11, 12, 13], [103]), (18, [0, 1, 2, 3, 4, 10, 11, 13], [103]), (20, [0, 1, 2, 3, 4, 12, 13], [103])] }
noncomputable def ann206 : Ann := ann206x FUEL
def ann207x (fu : Nat) : Ann := { drop := true, fresh := none, eat := none, dynPure := true, fuel := fu, excl := fun n => [].contains n, asV := fun n => [].contains n, heapSite := fun n => [].contains n, narrow := fun n => [].contains n, win := fun n => [].contains n, frz := fun n => [].contains n, rfix := fun n => lkR n [], live := fun r => lkA r [(1, [0, 2, 3, 4, 10], []), (5, [0, 2, 3, 4, 10, 11], [])] }
noncomputable def ann207 : Ann := ann207x FUEL
def ann208x (fu : Nat) : Ann := { drop := true, fresh := none, eat := none, dynPure := true, fuel := fu, excl := fun n => [].contains n, asV := fun n => [].contains n, heapSite := fun n => [].contains n, narrow := fun n => [].contains n, win := fun n => [].contains n, frz := fun n => [].contains n, rfix := fun n => lkR n [], live := fun r => lkA r [] }
noncomputable def ann208 : Ann := ann208x FUEL
def ann209x (fu : Nat) : Ann := { drop := false, fresh := none, eat := none, dynPure := true, fuel := fu, excl := fun n => [].contains n, asV := fun n => [].contains n, heapSite := fun n => [].contains n, narrow := fun n => [].contains n, win := fun n => [].contains n, frz := fun n => [].contains n, rfix := fun n => lkR n [], live := fun r => lkA r [] }
noncomputable def ann209 : Ann := ann209x FUEL
def ann210x (fu : Nat) : Ann := { drop := false, fresh := none, eat := none, dynPure := true, fuel := fu, excl := fun n => [].contains n, asV := fun n => [].contains n, heapSite := fun n => [].contains n, narrow := fun n => [].contains n, win := fun n => [].contains n, frz := fun n => [].contains n, rfix := fun n => lkR n [], live := fun r => lkA r [] }
noncomputable def ann210 : Ann := ann210x FUEL
def ann211x (fu : Nat) : Ann := { drop := false, fresh := none, eat := none, dynPure := true, fuel := fu, excl := fun n => [].contains n, asV := fun n => [].contains n, heapSite := fun n => [].contains n, narrow := fun n => [].contains n, win := fun n => [].contains n, frz := fun n => [].contains n, rfix := fun n => lkR n [], live := fun r => lkA r [] }
noncomputable def ann211 : Ann := ann211x FUEL
def ann212x (fu : Nat) : Ann := { drop := true, fresh := none, eat := none, dynPure := true, fuel := fu, excl := fun n => [].contains n, asV := fun n => [].contains n, heapSite := fun n => [].contains n, narrow := fun n => [].contains n, win := fun n => [].contains n, frz := fun n => [].contains n, rfix := fun n => lkR n [], live := fun r => lkA r [] }
noncomputable def ann212 : Ann := ann212x FUEL
def ann213x (fu : Nat) : Ann := { drop := true, fresh := none, eat := none, dynPure := true, fuel := fu, excl := fun n => [].contains n, asV := fun n => [].contains n, heapSite := fun n => [].contains n, narrow := fun n => [].contains n, win := fun n => [].contains n, frz := fun n => [].contains n, rfix := fun n => lkR n [], live := fun r => lkA r [] }
noncomputable def ann213 : Ann := ann213x FUEL
def ann214x (fu : Nat) : Ann := { drop := true, fresh := none, eat := none, dynPure := true, fuel := fu, excl := fun n => [37].contains n, asV := fun n => [2].contains n, heapSite := fun n => [].contains n, narrow := fun n => [].contains n, win := fun n => [].contains n, frz := fun n => [].contains n, rfix := fun n => lkR n [], live := fun r => lkA r [(4, [0, 14, 15, 16], []), (8, [0, 14, 15, 16], []), (9, [0], []), (11, [6, 38, 39, 40], [37]), (14, [6, 38, 39, 40, 44, 45, 46], [37]), (18, [6, 38, 39, 40, 44, 45, 46], [37]), (19, [6, 38, 39, 40], [37]), (20, [6], [37])] }
noncomputable def ann214 : Ann := ann214x FUEL
def ann215x (fu : Nat) : Ann := { drop := true, fresh := none, eat := none, dynPure := true, fuel := fu, excl := fun n => [].contains n, asV := fun n => [4].contains n, heapSite := fun n => [].contains n, narrow := fun n => [].contains n, win := fun n => [].contains n, frz := fun n => [].contains n, rfix := fun n => lkR n [], live := fun r => lkA r [] }
noncomputable def ann215 : Ann := ann215x FUEL
def ann216x (fu : Nat) : Ann := { drop := true, fresh := none, eat := none, dynPure := true, fuel := fu, excl := fun n => [].contains n, asV := fun n => [4].contains n, heapSite := fun n => [].contains n, narrow := fun n => [].contains n, win := fun n => [].contains n, frz := fun n => [].contains n, rfix := fun n => lkR n [], live := fun r => lkA r [] }
noncomputable def ann216 : Ann := ann216x FUEL
def ann217x (fu : Nat) : Ann := { drop := true, fresh := none, eat := none, dynPure := true, fuel := fu, excl := fun n => [].contains n, asV := fun n => [4].contains n, heapSite := fun n => [].contains n, narrow := fun n => [].contains n, win := fun n => [].contains n, frz := fun n => [].contains n, rfix := fun n => lkR n [], live := fun r => lkA r [] }
noncomputable def ann217 : Ann := ann217x FUEL
def ann218x (fu : Nat) : Ann := { drop := true, fresh := none, eat := none, dynPure := true, fuel := fu, excl := fun n => [].contains n, asV := fun n => [4].contains n, heapSite := fun n => [].contains n, narrow := fun n => [].contains n, win := fun n => [].contains n, frz := fun n => [].contains n, rfix := fun n => lkR n [], live := fun r => lkA r [] }
noncomputable def ann218 : Ann := ann218x FUEL
def ann219x (fu : Nat) : Ann := { drop := true, fresh := none, eat := none, dynPure := true, fuel := fu, excl := fun n => [].contains n, asV := fun n => [].contains n, heapSite := fun n => [].contains n, narrow := fun n => [].contains n, win := fun n => [].contains n, frz := fun n => [].contains n, rfix := fun n => lkR n [], live := fun r => lkA r [(4, [2, 3, 9, 11, 12], [9, 25]), (7, [2, 3, 9, 30, 31, 32], [9]), (11, [3, 9, 14], [9, 14]), (15, [2, 3, 9, 30, 31, 32], [9]), (16, [9], [9])] }
noncomputable def ann219 : Ann := ann219x FUEL
def ann220x (fu : Nat) : Ann := { drop := false, fresh := none, eat := none, dynPure := true, fuel := fu, excl := fun n => [].contains n, asV := fun n => [].contains n, heapSite := fun n => [].contains n, narrow := fun n => [].contains n, win := fun n => [].contains n, frz := fun n => [].contains n, rfix := fun n => lkR n [], live := fun r => lkA r [] }
noncomputable def ann220 : Ann := ann220x FUEL
def ann221x (fu : Nat) : Ann := { drop := true, fresh := none, eat := none, dynPure := true, fuel := fu, excl := fun n => [].contains n, asV := fun n => [].contains n, heapSite := fun n => [].contains n, narrow := fun n => [].contains n, win := fun n => [].contains n, frz := fun n => [].contains n, rfix := fun n => lkR n [(2, [0, 1, 2, 4, 5, 6])], live := fun r => lkA r [(2, [4, 5, 6, 11, 12], [4, 5, 6]), (4, [4, 5, 6, 7, 8, 11, 12], [4, 5, 6, 8]), (6, [6], [6])] }
noncomputable def ann221 : Ann := ann221x FUEL
def ann222x (fu : Nat) : Ann := { drop := true, fresh := none, eat := none, dynPure := true, fuel := fu, excl := fun n => [].contains n, asV := fun n => [6].contains n, heapSite := fun n => [].contains n, narrow := fun n => [].contains n, win := fun n => [].contains n, frz := fun n => [].contains n, rfix := fun n => lkR n [], live := fun r => lkA r [(8, [0, 5, 10, 28, 29, 30], [5]), (11, [0, 5, 10, 28, 29, 30], [5]), (12, [0, 5, 10], [5])] }
noncomputable def ann222 : Ann := ann222x FUEL
def ann223x (fu : Nat) : Ann := { drop := false, fresh := none, eat := none, dynPure := true, fuel := fu, excl := fun n => [].contains n, asV := fun n => [].contains n, heapSite := fun n => [].contains n, narrow := fun n => [].contains n, win := fun n => [].contains n, frz := fun n => [].contains n, rfix := fun n => lkR n [], live := fun r => lkA r [(4, [0], []), (6, [0], [])] }
noncomputable def ann223 : Ann := ann223x FUEL
def ann224x (fu : Nat) : Ann := { drop := false, fresh := none, eat := none, dynPure := true, fuel := fu, excl := fun n => [].contains n, asV := fun n => [].contains n, heapSite := fun n => [].contains n, narrow := fun n => [].contains n, win := fun n => [].contains n, frz := fun n => [].contains n, rfix := fun n => lkR n [], live := fun r => lkA r [] }
noncomputable def ann224 : Ann := ann224x FUEL
def ann225x (fu : Nat) : Ann := { drop := false, fresh := none, eat := none, dynPure := true, fuel := fu, excl := fun n => [].contains n, asV := fun n => [].contains n, heapSite := fun n => [].contains n, narrow := fun n => [].contains n, win := fun n => [].contains n, frz := fun n => [].contains n, rfix := fun n => lkR n [], live := fun r => lkA r [] }
noncomputable def ann225 : Ann := ann225x FUEL
def ann226x (fu : Nat) : Ann := { drop := true, fresh := none, eat := none, dynPure := true, fuel := fu, excl := fun n => [].contains n, asV := fun n => [4].contains n, heapSite := fun n => [].contains n, narrow := fun n => [].contains n, win := fun n => [].contains n, frz := fun n => [].contains n, rfix := fun n => lkR n [], live := fun r => lkA r [] }
noncomputable def ann226 : Ann := ann226x FUEL
def ann227x (fu : Nat) : Ann := { drop := true, fresh := none, eat := none, dynPure := true, fuel := fu, excl := fun n => [].contains n, asV := fun n => [].contains n, heapSite := fun n => [].contains n, narrow := fun n => [].contains n, win := fun n => [].contains n, frz := fun n => [].contains n, rfix := fun n => lkR n [], live := fun r => lkA r [(5, [0, 1, 2, 7, 18, 19, 20], []), (10, [0, 1, 2, 7, 10, 11, 18, 19, 20, 28, 29, 30], []), (14, [0, 1, 2, 7, 10, 11, 18, 19, 20, 28, 29, 30], []), (15, [0, 1, 2, 7, 10, 11, 18, 19, 20], []), (17, [0, 1, 2, 7, 18, 19, 20], []), (18, [7], [])] }
noncomputable def ann227 : Ann := ann227x FUEL
def ann228x (fu : Nat) : Ann := { drop := false, fresh := none, eat := none, dynPure := true, fuel := fu, excl := fun n => [].contains n, asV := fun n => [].contains n, heapSite := fun n => [].contains n, narrow := fun n => [].contains n, win := fun n => [].contains n, frz := fun n => [].contains n, rfix := fun n => lkR n [], live := fun r => lkA r [(3, [0, 4, 8, 9, 10], [7]), (7, [0, 4, 6, 8, 9, 10], [6, 7]), (8, [0, 4, 8, 9, 10], [7]), (9, [4], [7])] }
noncomputable def ann228 : Ann := ann228x FUEL
def ann229x (fu : Nat) : Ann := { drop := false, fresh := none, eat := none, dynPure := true, fuel := fu, excl := fun n => [].contains n, asV := fun n => [].contains n, heapSite := fun n => [].contains n, narrow := fun n => [].contains n, win := fun n => [].contains n, frz := fun n => [].contains n, rfix := fun n => lkR n [], live := fun r => lkA r [] }
noncomputable def ann229 : Ann := ann229x FUEL
def ann230x (fu : Nat) : Ann := { drop := false, fresh := none, eat := none, dynPure := true, fuel := fu, excl := fun n => [].contains n, asV := fun n => [].contains n, heapSite := fun n => [].contains n, narrow := fun n => [].contains n, win := fun n => [].contains n, frz := fun n => [].contains n, rfix := fun n => lkR n [], live := fun r => lkA r [(1, [0], [])] }
noncomputable def ann230 : Ann := ann230x FUEL
def ann231x (fu : Nat) : Ann := { drop := false, fresh := none, eat := none, dynPure := true, fuel := fu, excl := fun n => [].contains n, asV := fun n => [].contains n, heapSite := fun n => [].contains n, narrow := fun n => [].contains n, win := fun n => [].contains n, frz := fun n => [].contains n, rfix := fun n => lkR n [], live := fun r => lkA r [(1, [0], [])] }
noncomputable def ann231 : Ann := ann231x FUEL
def ann232x (fu : Nat) : Ann := { drop := false, fresh := none, eat := none, dynPure := true, fuel := fu, excl := fun n => [].contains n, asV := fun n => [].contains n, heapSite := fun n => [].contains n, narrow := fun n => [].contains n, win := fun n => [].contains n, frz := fun n => [].contains n, rfix := fun n => lkR n [], live := fun r => lkA r [(4, [0, 6], [6])] }
noncomputable def ann232 : Ann := ann232x FUEL
def ann233x (fu : Nat) : Ann := { drop := true, fresh := none, eat := none, dynPure := true, fuel := fu, excl := fun n => [].contains n, asV := fun n => [4].contains n, heapSite := fun n => [].contains n, narrow := fun n => [].contains n, win := fun n => [].contains n, frz := fun n => [].contains n, rfix := fun n => lkR n [], live := fun r => lkA r [] }
noncomputable def ann233 : Ann := ann233x FUEL
def ann234x (fu : Nat) : Ann := { drop := true, fresh := none, eat := none, dynPure := true, fuel := fu, excl := fun n => [].contains n, asV := fun n => [].contains n, heapSite := fun n => [].contains n, narrow := fun n => [].contains n, win := fun n => [].contains n, frz := fun n => [].contains n, rfix := fun n => lkR n [], live := fun r => lkA r [(3, [0, 1, 4], [4]), (5, [0, 1, 4, 6, 30, 31, 32], [4]), (8, [0, 1, 4, 6, 30, 31, 32], [4]), (9, [0, 1, 4, 6], [4]), (11, [4, 6, 9, 44, 45, 46], [4]), (15, [4, 6, 9, 44, 45, 46], [4]), (16, [4], [4])] }
noncomputable def ann234 : Ann := ann234x FUEL
def ann235x (fu : Nat) : Ann := { drop := false, fresh := none, eat := none, dynPure := true, fuel := fu, excl := fun n => [].contains n, asV := fun n => [].contains n, heapSite := fun n => [].contains n, narrow := fun n => [].contains n, win := fun n => [].contains n, frz := fun n => [].contains n, rfix := fun n => lkR n [], live := fun r => lkA r [] }
noncomputable def ann235 : Ann := ann235x FUEL
def ann236x (fu : Nat) : Ann := { drop := true, fresh := none, eat := none, dynPure := true, fuel := fu, excl := fun n => [].contains n, asV := fun n => [].contains n, heapSite := fun n => [].contains n, narrow := fun n => [].contains n, win := fun n => [].contains n, frz := fun n => [].contains n, rfix := fun n => lkR n [], live := fun r => lkA r [(1, [0, 1, 2, 3, 8], []), (2, [0, 1, 2, 3, 8], []), (4, [0, 1, 2, 3, 8, 9], []), (5, [0, 1, 2, 3, 8, 9], []), (6, [0, 1, 2, 3, 8, 9], [])] }
noncomputable def ann236 : Ann := ann236x FUEL
def ann237x (fu : Nat) : Ann := { drop := true, fresh := none, eat := none, dynPure := true, fuel := fu, excl := fun n => [].contains n, asV := fun n => [].contains n, heapSite := fun n => [].contains n, narrow := fun n => [].contains n, win := fun n => [].contains n, frz := fun n => [].contains n, rfix := fun n => lkR n [], live := fun r => lkA r [(4, [0, 3, 8, 9, 10, 11], []), (5, [0, 3, 8, 9, 10, 11], []), (7, [0, 3, 8, 9, 10], []), (8, [0, 3, 8, 9, 12], []), (9, [0, 3, 8, 9, 12], [])] }
noncomputable def ann237 : Ann := ann237x FUEL
def ann238x (fu : Nat) : Ann := { drop := true, fresh := none, eat := none, dynPure := true, fuel := fu, excl := fun n => [].contains n, asV := fun n => [].contains n, heapSite := fun n => [9].contains n, narrow := fun n => [].contains n, win := fun n => [].contains n, frz := fun n => [].contains n, rfix := fun n => lkR n [], live := fun r => lkA r [(5, [0, 1, 8, 9, 10, 11], [21]), (6, [0, 1, 8, 9, 10, 11], [21]), (10, [0, 1, 8, 9, 10, 11, 12], [21])] }
noncomputable def ann238 : Ann := ann238x FUEL
def ann239x (fu : Nat) : Ann := { drop := true, fresh := none, eat := none, dynPure := true, fuel := fu, excl := fun n => [].contains n, asV := fun n => [].contains n, heapSite := fun n => [11].contains n, narrow := fun n => [].contains n, win := fun n => [].contains n, frz := fun n => [].contains n, rfix := fun n => lkR n [], live := fun r => lkA r [(11, [0, 3, 11, 12, 13, 14], [40, 44, 48, 54]), (12, [11, 13], [44, 54])] }
noncomputable def ann239 : Ann := ann239x FUEL
def ann240x (fu : Nat) : Ann := { drop := true, fresh := none, eat := none, dynPure := true, fuel := fu, excl := fun n => [].contains n, asV := fun n => [].contains n, heapSite := fun n => [].contains n, narrow := fun n => [].contains n, win := fun n => [].contains n, frz := fun n => [].contains n, rfix := fun n => lkR n [], live := fun r => lkA r [(2, [0, 8, 9], [])] }
noncomputable def ann240 : Ann := ann240x FUEL
def ann241x (fu : Nat) : Ann := { drop := true, fresh := none, eat := none, dynPure := true, fuel := fu, excl := fun n => [].contains n, asV := fun n => [].contains n, heapSite := fun n => [].contains n, narrow := fun n => [].contains n, win := fun n => [].contains n, frz := fun n => [].contains n, rfix := fun n => lkR n [], live := fun r => lkA r [(3, [0, 1, 2, 3, 9, 10], []), (4, [0, 1, 2, 3, 9, 10], []), (5, [0, 1, 2, 3, 9, 10], []), (6, [0, 1, 2, 3, 9, 10], []), (7, [0, 1, 2, 3, 9, 10], []), (14, [0, 1, 2, 3, 9, 10, 11], []), (15, [0, 1, 2, 3, 9, 10, 11], []), (18, [0, 1, 2, 3, 9, 10], []), (20, [0, 1, 2, 3, 9, 10, 12], []), (21, [0, 1, 2, 3, 9, 10, 12], []), (24, [], [])] }
noncomputable def ann241 : Ann := ann241x FUEL
def ann242x (fu : Nat) : Ann := { drop := true, fresh := none, eat := none, dynPure := true, fuel := fu, excl := fun n => [].contains n, asV := fun n => [].contains n, heapSite := fun n => [].contains n, narrow := fun n => [].contains n, win := fun n => [].contains n, frz := fun n => [].contains n, rfix := fun n => lkR n [], live := fun r => lkA r [(3, [0, 1, 4, 11, 12], []), (4, [0, 1, 4, 11, 12], []), (5, [0, 1, 4, 11, 12], []), (6, [0, 1, 4, 11, 12], []), (7, [0, 1, 4, 11, 12], []), (11, [11], [])] }
noncomputable def ann242 : Ann := ann242x FUEL
def ann243x (fu : Nat) : Ann := { drop := true, fresh := none, eat := none, dynPure := true, fuel := fu, excl := fun n => [].contains n, asV := fun n => [].contains n, heapSite := fun n => [].contains n, narrow := fun n => [].contains n, win := fun n => [].contains n, frz := fun n => [].contains n, rfix := fun n => lkR n [], live := fun r => lkA r [(3, [0, 1, 4, 12, 13], []), (4, [0, 1, 4, 12, 13], []), (5, [0, 1, 4, 12, 13], []), (6, [0, 1, 4, 12, 13], []), (7, [0, 1, 4, 12, 13], []), (13, [0, 1, 4, 12, 13], []), (14, [0, 1, 4, 12, 13], []), (15, [0, 1, 4, 12, 13], []), (16, [0, 1, 4, 12, 13], []), (17, [0, 1, 4, 12, 13], []), (21, [0, 1, 13], [])] }
noncomputable def ann243 : Ann := ann243x FUEL
def ann244x (fu : Nat) : Ann := { drop := false, fresh := none, eat := none, dynPure := true, fuel := fu, excl := fun n => [].contains n, asV := fun n => [].contains n, heapSite := fun n => [].contains n, narrow := fun n => [].contains n, win := fun n => [].contains n, frz := fun n => [].contains n, rfix := fun n => lkR n [], live := fun r => lkA r [] }
noncomputable def ann244 : Ann := ann244x FUEL
def ann245x (fu : Nat) : Ann := { drop := true, fresh := none, eat := none, dynPure := true, fuel := fu, excl := fun n => [].contains n, asV := fun n => [].contains n, heapSite := fun n => [].contains n, narrow := fun n => [].contains n, win := fun n => [].contains n, frz := fun n => [].contains n, rfix := fun n => lkR n [], live := fun r => lkA r [] }
noncomputable def ann245 : Ann := ann245x FUEL
def ann246x (fu : Nat) : Ann := { drop := true, fresh := none, eat := none, dynPure := true, fuel := fu, excl := fun n => [].contains n, asV := fun n => [].contains n, heapSite := fun n => [].contains n, narrow := fun n => [].contains n, win := fun n => [].contains n, frz := fun n => [].contains n, rfix := fun n => lkR n [], live := fun r => lkA r [] }
noncomputable def ann246 : Ann := ann246x FUEL
def ann247x (fu : Nat) : Ann := { drop := true, fresh := none, eat := none, dynPure := true, fuel := fu, excl := fun n => [].contains n, asV := fun n => [4].contains n, heapSite := fun n => [].contains n, narrow := fun n => [].contains n, win := fun n => [].contains n, frz := fun n => [].contains n, rfix := fun n => lkR n [], live := fun r => lkA r [(3, [1, 5, 8, 9, 10], [5]), (6, [1, 5, 8, 9, 10], [5]), (7, [5], [5])] }
noncomputable def ann247 : Ann := ann247x FUEL
def ann248x (fu : Nat) : Ann := { drop := true, fresh := none, eat := none, dynPure := true, fuel := fu, excl := fun n => [].contains n, asV := fun n => [4].contains n, heapSite := fun n => [].contains n, narrow := fun n => [].contains n, win := fun n => [].contains n, frz := fun n => [].contains n, rfix := fun n => lkR n [], live := fun r => lkA r [(3, [1, 5, 8, 9, 10], [5]), (6, [1, 5, 8, 9, 10], [5]), (7, [5], [5])] }
noncomputable def ann248 : Ann := ann248x FUEL
def ann249x (fu : Nat) : Ann := { drop := true, fresh := none, eat := none, dynPure := true, fuel := fu, excl := fun n => [].contains n, asV := fun n => [].contains n, heapSite := fun n => [].contains n, narrow := fun n => [].contains n, win := fun n => [].contains n, frz := fun n => [].contains n, rfix := fun n => lkR n [], live := fun r => lkA r [] }
noncomputable def ann249 : Ann := ann249x FUEL
def ann250x (fu : Nat) : Ann := { drop := true, fresh := none, eat := none, dynPure := true, fuel := fu, excl := fun n => [].contains n, asV := fun n => [4].contains n, heapSite := fun n => [].contains n, narrow := fun n => [].contains n, win := fun n => [].contains n, frz := fun n => [].contains n, rfix := fun n => lkR n [], live := fun r => lkA r [(3, [1, 5, 10, 11, 12], [5]), (7, [1, 5, 7, 10, 11, 12], [5, 7]), (8, [1, 5, 10, 11, 12], [5]), (9, [5], [5])] }
noncomputable def ann250 : Ann := ann250x FUEL
def ann251x (fu : Nat) : Ann := { drop := true, fresh := none, eat := none, dynPure := true, fuel := fu, excl := fun n => [].contains n, asV := fun n => [].contains n, heapSite := fun n => [].contains n, narrow := fun n => [].contains n, win := fun n => [].contains n, frz := fun n => [].contains n, rfix := fun n => lkR n [], live := fun r => lkA r [] }
noncomputable def ann251 : Ann := ann251x FUEL
def ann252x (fu : Nat) : Ann := { drop := true, fresh := none, eat := none, dynPure := true, fuel := fu, excl := fun n => [].contains n, asV := fun n => [4].contains n, heapSite := fun n => [].contains n, narrow := fun n => [].contains n, win := fun n => [].contains n, frz := fun n => [].contains n, rfix := fun n => lkR n [], live := fun r => lkA r [(3, [1, 5, 8, 9, 10], [5]), (6, [1, 5, 8, 9, 10], [5]), (7, [5], [5])] }
noncomputable def ann252 : Ann := ann252x FUEL
def ann253x (fu : Nat) : Ann := { drop := true, fresh := none, eat := none, dynPure := true, fuel := fu, excl := fun n => [].contains n, asV := fun n => [4].contains n, heapSite := fun n => [].contains n, narrow := fun n => [].contains n, win := fun n => [].contains n, frz := fun n => [].contains n, rfix := fun n => lkR n [], live := fun r => lkA r [(3, [1, 5, 8, 9, 10], [5]), (6, [1, 5, 8, 9, 10], [5]), (7, [5], [5])] }
noncomputable def ann253 : Ann := ann253x FUEL
def ann254x (fu : Nat) : Ann := { drop := true, fresh := none, eat := none, dynPure := true, fuel := fu, excl := fun n => [].contains n, asV := fun n => [].contains n, heapSite := fun n => [].contains n, narrow := fun n => [].contains n, win := fun n => [].contains n, frz := fun n => [].contains n, rfix := fun n => lkR n [], live := fun r => lkA r [] }
noncomputable def ann254 : Ann := ann254x FUEL
def ann255x (fu : Nat) : Ann := { drop := true, fresh := none, eat := none, dynPure := true, fuel := fu, excl := fun n => [].contains n, asV := fun n => [4].contains n, heapSite := fun n => [].contains n, narrow := fun n => [].contains n, win := fun n => [].contains n, frz := fun n => [].contains n, rfix := fun n => lkR n [], live := fun r => lkA r [(3, [1, 5, 10, 11, 12], [5]), (7, [1, 5, 7, 10, 11, 12], [5, 7]), (8, [1, 5, 10, 11, 12], [5]), (9, [5], [5])] }
noncomputable def ann255 : Ann := ann255x FUEL
def ann256x (fu : Nat) : Ann := { drop := true, fresh := none, eat := none, dynPure := true, fuel := fu, excl := fun n => [].contains n, asV := fun n => [].contains n, heapSite := fun n => [].contains n, narrow := fun n => [].contains n, win := fun n => [].contains n, frz := fun n => [].contains n, rfix := fun n => lkR n [], live := fun r => lkA r [] }
noncomputable def ann256 : Ann := ann256x FUEL
def ann257x (fu : Nat) : Ann := { drop := true, fresh := none, eat := none, dynPure := true, fuel := fu, excl := fun n => [].contains n, asV := fun n => [4].contains n, heapSite := fun n => [].contains n, narrow := fun n => [].contains n, win := fun n => [].contains n, frz := fun n => [].contains n, rfix := fun n => lkR n [], live := fun r => lkA r [(3, [1, 5, 8, 9, 10], [5]), (6, [1, 5, 8, 9, 10], [5]), (7, [5], [5])] }
noncomputable def ann257 : Ann := ann257x FUEL
def ann258x (fu : Nat) : Ann := { drop := true, fresh := none, eat := none, dynPure := true, fuel := fu, excl := fun n => [].contains n, asV := fun n => [4].contains n, heapSite := fun n => [].contains n, narrow := fun n => [].contains n, win := fun n => [].contains n, frz := fun n => [].contains n, rfix := fun n => lkR n [], live := fun r => lkA r [(3, [1, 5, 8, 9, 10], [5]), (6, [1, 5, 8, 9, 10], [5]), (7, [5], [5])] }
noncomputable def ann258 : Ann := ann258x FUEL
def ann259x (fu : Nat) : Ann := { drop := true, fresh := none, eat := none, dynPure := true, fuel := fu, excl := fun n => [].contains n, asV := fun n => [].contains n, heapSite := fun n => [].contains n, narrow := fun n => [].contains n, win := fun n => [].contains n, frz := fun n => [].contains n, rfix := fun n => lkR n [], live := fun r => lkA r [] }
noncomputable def ann259 : Ann := ann259x FUEL
def ann260x (fu : Nat) : Ann := { drop := true, fresh := none, eat := none, dynPure := true, fuel := fu, excl := fun n => [].contains n, asV := fun n => [4].contains n, heapSite := fun n => [].contains n, narrow := fun n => [].contains n, win := fun n => [].contains n, frz := fun n => [].contains n, rfix := fun n => lkR n [], live := fun r => lkA r [(3, [1, 5, 10, 11, 12], [5]), (7, [1, 5, 7, 10, 11, 12], [5, 7]), (8, [1, 5, 10, 11, 12], [5]), (9, [5], [5])] }
noncomputable def ann260 : Ann := ann260x FUEL
def ann261x (fu : Nat) : Ann := { drop := true, fresh := none, eat := none, dynPure := true, fuel := fu, excl := fun n => [].contains n, asV := fun n => [].contains n, heapSite := fun n => [].contains n, narrow := fun n => [].contains n, win := fun n => [].contains n, frz := fun n => [].contains n, rfix := fun n => lkR n [], live := fun r => lkA r [] }
noncomputable def ann261 : Ann := ann261x FUEL
def ann262x (fu : Nat) : Ann := { drop := true, fresh := none, eat := none, dynPure := true, fuel := fu, excl := fun n => [].contains n, asV := fun n => [4].contains n, heapSite := fun n => [].contains n, narrow := fun n => [].contains n, win := fun n => [].contains n, frz := fun n => [].contains n, rfix := fun n => lkR n [], live := fun r => lkA r [(3, [1, 5, 8, 9, 10], [5]), (6, [1, 5, 8, 9, 10], [5]), (7, [5], [5])] }
noncomputable def ann262 : Ann := ann262x FUEL
def ann263x (fu : Nat) : Ann := { drop := true, fresh := none, eat := none, dynPure := true, fuel := fu, excl := fun n => [].contains n, asV := fun n => [4].contains n, heapSite := fun n => [].contains n, narrow := fun n => [].contains n, win := fun n => [].contains n, frz := fun n => [].contains n, rfix := fun n => lkR n [], live := fun r => lkA r [(3, [1, 5, 8, 9, 10], [5]), (6, [1, 5, 8, 9, 10], [5]), (7, [5], [5])] }
noncomputable def ann263 : Ann := ann263x FUEL
def ann264x (fu : Nat) : Ann := { drop := true, fresh := none, eat := none, dynPure := true, fuel := fu, excl := fun n => [].contains n, asV := fun n => [].contains n, heapSite := fun n => [].contains n, narrow := fun n => [].contains n, win := fun n => [].contains n, frz := fun n => [].contains n, rfix := fun n => lkR n [], live := fun r => lkA r [] }
noncomputable def ann264 : Ann := ann264x FUEL
def ann265x (fu : Nat) : Ann := { drop := true, fresh := none, eat := none, dynPure := true, fuel := fu, excl := fun n => [].contains n, asV := fun n => [4].contains n, heapSite := fun n => [].contains n, narrow := fun n => [].contains n, win := fun n => [].contains n, frz := fun n => [].contains n, rfix := fun n => lkR n [], live := fun r => lkA r [(3, [1, 5, 10, 11, 12], [5]), (7, [1, 5, 7, 10, 11, 12], [5, 7]), (8, [1, 5, 10, 11, 12], [5]), (9, [5], [5])] }
noncomputable def ann265 : Ann := ann265x FUEL
def ann266x (fu : Nat) : Ann := { drop := true, fresh := none, eat := none, dynPure := true, fuel := fu, excl := fun n => [].contains n, asV := fun n => [].contains n, heapSite := fun n => [].contains n, narrow := fun n => [].contains n, win := fun n => [].contains n, frz := fun n => [].contains n, rfix := fun n => lkR n [], live := fun r => lkA r [] }
noncomputable def ann266 : Ann := ann266x FUEL
def ann267x (fu : Nat) : Ann := { drop := true, fresh := none, eat := none, dynPure := true, fuel := fu, excl := fun n => [].contains n, asV := fun n => [4].contains n, heapSite := fun n => [].contains n, narrow := fun n => [].contains n, win := fun n => [].contains n, frz := fun n => [].contains n, rfix := fun n => lkR n [], live := fun r => lkA r [(3, [2, 3, 5, 6, 19, 20, 21], [2, 3]), (7, [2, 3, 5, 6, 19, 20, 21], [2, 3]), (8, [2, 3, 5, 6], [2, 3]), (10, [2, 3, 5, 6, 38, 39, 40], [2, 3]), (14, [2, 3, 5, 6, 38, 39, 40], [2, 3]), (15, [2, 3, 5, 6], [2, 3]), (17, [2, 3, 5, 6, 11, 55, 56, 57], [2, 3, 11]), (20, [2, 3, 5, 6, 11, 13, 55, 56, 57], [2, 3, 11, 13]), (23, [2, 3, 5, 6, 11, 12, 13, 55, 56, 57], [2, 3, 11, 13]), (25, [2, 3, 5, 6, 11, 13, 55, 56, 57], [2, 3, 11, 13]), (26, [2, 3, 5, 6, 11, 55, 56, 57], [2, 3, 11]), (27, [2, 3, 5, 11], [2, 3, 11]), (29, [11], [11])] }
noncomputable def ann267 : Ann := ann267x FUEL
def ann268x (fu : Nat) : Ann := { drop := false, fresh := none, eat := none, dynPure := true, fuel := fu, excl := fun n => [].contains n, asV := fun n => [].contains n, heapSite := fun n => [].contains n, narrow := fun n => [].contains n, win := fun n => [].contains n, frz := fun n => [].contains n, rfix := fun n => lkR n [], live := fun r => lkA r [(3, [0], []), (5, [], [])] }
noncomputable def ann268 : Ann := ann268x FUEL
def ann269x (fu : Nat) : Ann := { drop := true, fresh := none, eat := none, dynPure := true, fuel := fu, excl := fun n => [].contains n, asV := fun n => [4].contains n, heapSite := fun n => [].contains n, narrow := fun n => [].contains n, win := fun n => [].contains n, frz := fun n => [].contains n, rfix := fun n => lkR n [], live := fun r => lkA r [] }
noncomputable def ann269 : Ann := ann269x FUEL
def ann270x (fu : Nat) : Ann := { drop := true, fresh := none, eat := none, dynPure := true, fuel := fu, excl := fun n => [].contains n, asV := fun n => [4].contains n, heapSite := fun n => [].contains n, narrow := fun n => [].contains n, win := fun n => [].contains n, frz := fun n => [].contains n, rfix := fun n => lkR n [], live := fun r => lkA r [] }
noncomputable def ann270 : Ann := ann270x FUEL
def ann271x (fu : Nat) : Ann := { drop := true, fresh := none, eat := none, dynPure := true, fuel := fu, excl := fun n => [].contains n, asV := fun n => [].contains n, heapSite := fun n => [].contains n, narrow := fun n => [].contains n, win := fun n => [].contains n, frz := fun n => [].contains n, rfix := fun n => lkR n [], live := fun r => lkA r [(5, [6, 8, 9, 21, 22, 23], [6, 8]), (10, [6, 8, 9, 21, 22, 23], [6, 8]), (11, [6, 8, 9], [6, 8])] }
noncomputable def ann271 : Ann := ann271x FUEL
def ann272x (fu : Nat) : Ann := { drop := false, fresh := none, eat := none, dynPure := true, fuel := fu, excl := fun n => [].contains n, asV := fun n => [].contains n, heapSite := fun n => [].contains n, narrow := fun n => [].contains n, win := fun n => [].contains n, frz := fun n => [].contains n, rfix := fun n => lkR n [], live := fun r => lkA r [] }
noncomputable def ann272 : Ann := ann272x FUEL
def ann273x (fu : Nat) : Ann := { drop := true, fresh := none, eat := none, dynPure := true, fuel := fu, excl := fun n => [].contains n, asV := fun n => [4].contains n, heapSite := fun n => [].contains n, narrow := fun n => [].contains n, win := fun n => [].contains n, frz := fun n => [].contains n, rfix := fun n => lkR n [], live := fun r => lkA r [(3, [2, 3, 5, 6, 19, 20, 21], [2, 3]), (7, [2, 3, 5, 6, 19, 20, 21], [2, 3]), (8, [2, 3, 5, 6], [2, 3]), (10, [2, 3, 5, 6, 38, 39, 40], [2, 3]), (14, [2, 3, 5, 6, 38, 39, 40], [2, 3]), (15, [2, 3, 5, 6], [2, 3]), (17, [2, 3, 5, 6, 11, 55, 56, 57], [2, 3, 11]), (20, [2, 3, 5, 6, 11, 13, 55, 56, 57], [2, 3, 11, 13]), (23, [2, 3, 5, 6, 11, 12, 13, 55, 56, 57], [2, 3, 11, 13]), (25, [2, 3, 5, 6, 11, 13, 55, 56, 57], [2, 3, 11, 13]), (26, [2, 3, 5, 6, 11, 55, 56, 57], [2, 3, 11]), (27, [2, 3, 5, 11], [2, 3, 11]), (29, [11], [11])] }
noncomputable def ann273 : Ann := ann273x FUEL
def ann274x (fu : Nat) : Ann := { drop := true, fresh := none, eat := none, dynPure := true, fuel := fu, excl := fun n => [].contains n, asV := fun n => [].contains n, heapSite := fun n => [].contains n, narrow := fun n => [].contains n, win := fun n => [].contains n, frz := fun n => [].contains n, rfix := fun n => lkR n [], live := fun r => lkA r [] }
noncomputable def ann274 : Ann := ann274x FUEL
def ann275x (fu : Nat) : Ann := { drop := true, fresh := none, eat := none, dynPure := true, fuel := fu, excl := fun n => [].contains n, asV := fun n => [].contains n, heapSite := fun n => [].contains n, narrow := fun n => [].contains n, win := fun n => [].contains n, frz := fun n => [].contains n, rfix := fun n => lkR n [], live := fun r => lkA r [(1, [0, 2, 3, 4, 10], []), (5, [0, 2, 3, 4, 10, 11], [])] }
noncomputable def ann275 : Ann := ann275x FUEL
def ann276x (fu : Nat) : Ann := { drop := false, fresh := none, eat := none, dynPure := true, fuel := fu, excl := fun n => [].contains n, asV := fun n => [].contains n, heapSite := fun n => [].contains n, narrow := fun n => [].contains n, win := fun n => [].contains n, frz := fun n => [].contains n, rfix := fun n => lkR n [], live := fun r => lkA r [] }
noncomputable def ann276 : Ann := ann276x FUEL
def ann277x (fu : Nat) : Ann := { drop := false, fresh := none, eat := none, dynPure := true, fuel := fu, excl := fun n => [].contains n, asV := fun n => [].contains n, heapSite := fun n => [].contains n, narrow := fun n => [].contains n, win := fun n => [].contains n, frz := fun n => [].contains n, rfix := fun n => lkR n [], live := fun r => lkA r [] }
noncomputable def ann277 : Ann := ann277x FUEL
def ann278x (fu : Nat) : Ann := { drop := true, fresh := none, eat := none, dynPure := true, fuel := fu, excl := fun n => [].contains n, asV := fun n => [4].contains n, heapSite := fun n => [].contains n, narrow := fun n => [].contains n, win := fun n => [].contains n, frz := fun n => [].contains n, rfix := fun n => lkR n [], live := fun r => lkA r [(3, [2, 3, 5, 6, 19, 20, 21], [2, 3]), (7, [2, 3, 5, 6, 19, 20, 21], [2, 3]), (8, [2, 3, 5, 6], [2, 3]), (10, [2, 3, 5, 6, 38, 39, 40], [2, 3]), (14, [2, 3, 5, 6, 38, 39, 40], [2, 3]), (15, [2, 3, 5, 6], [2, 3]), (17, [2, 3, 5, 6, 11, 55, 56, 57], [2, 3, 11]), (20, [2, 3, 5, 6, 11, 13, 55, 56, 57], [2, 3, 11, 13]), (23, [2, 3, 5, 6, 11, 12, 13, 55, 56, 57], [2, 3, 11, 13]), (25, [2, 3, 5, 6, 11, 13, 55, 56, 57], [2, 3, 11, 13]), (26, [2, 3, 5, 6, 11, 55, 56, 57], [2, 3, 11]), (27, [2, 3, 5, 11], [2, 3, 11]), (29, [11], [11])] }
noncomputable def ann278 : Ann := ann278x FUEL
def ann279x (fu : Nat) : Ann := { drop := true, fresh := none, eat := none, dynPure := true, fuel := fu, excl := fun n => [].contains n, asV := fun n => [4].contains n, heapSite := fun n => [].contains n, narrow := fun n => [].contains n, win := fun n => [].contains n, frz := fun n => [].contains n, rfix := fun n => lkR n [], live := fun r => lkA r [(3, [2, 3, 5, 6, 19, 20, 21], [2, 3]), (7, [2, 3, 5, 6, 19, 20, 21], [2, 3]), (8, [2, 3, 5, 6], [2, 3]), (10, [2, 3, 5, 6, 38, 39, 40], [2, 3]), (14, [2, 3, 5, 6, 38, 39, 40], [2, 3]), (15, [2, 3, 5, 6], [2, 3]), (17, [2, 3, 5, 6, 11, 55, 56, 57], [2, 3, 11]), (20, [2, 3, 5, 6, 11, 13, 55, 56, 57], [2, 3, 11, 13]), (23, [2, 3, 5, 6, 11, 12, 13, 55, 56, 57], [2, 3, 11, 13]), (25, [2, 3, 5, 6, 11, 13, 55, 56, 57], [2, 3, 11, 13]), (26, [2, 3, 5, 6, 11, 55, 56, 57], [2, 3, 11]), (27, [2, 3, 5, 11], [2, 3, 11]), (29, [11], [11])] }
noncomputable def ann279 : Ann := ann279x FUEL
def ann280x (fu : Nat) : Ann := { drop := true, fresh := none, eat := none, dynPure := true, fuel := fu, excl := fun n => [].contains n, asV := fun n => [].contains n, heapSite := fun n => [].contains n, narrow := fun n => [].contains n, win := fun n => [].contains n, frz := fun n => [].contains n, rfix := fun n => lkR n [], live := fun r => lkA r [] }
noncomputable def ann280 : Ann := ann280x FUEL
def ann281x (fu : Nat) : Ann := { drop := false, fresh := none, eat := none, dynPure := true, fuel := fu, excl := fun n => [].contains n, asV := fun n => [].contains n, heapSite := fun n => [].contains n, narrow := fun n => [].contains n, win := fun n => [].contains n, frz := fun n => [].contains n, rfix := fun n => lkR n [], live := fun r => lkA r [] }
noncomputable def ann281 : Ann := ann281x FUEL
def ann299x (fu : Nat) : Ann := { drop := true, fresh := none, eat := none, dynPure := true, fuel := fu, excl := fun n => [].contains n, asV := fun n => [].contains n, heapSite := fun n => [].contains n, narrow := fun n => [].contains n, win := fun n => [].contains n, frz := fun n => [].contains n, rfix := fun n => lkR n [], live := fun r => lkA r [] }
noncomputable def ann299 : Ann := ann299x FUEL
def ann300x (fu : Nat) : Ann := { drop := true, fresh := none, eat := none, dynPure := true, fuel := fu, excl := fun n => [].contains n, asV := fun n => [].contains n, heapSite := fun n => [].contains n, narrow := fun n => [].contains n, win := fun n => [].contains n, frz := fun n => [].contains n, rfix := fun n => lkR n [], live := fun r => lkA r [] }
noncomputable def ann300 : Ann := ann300x FUEL
def ann301x (fu : Nat) : Ann := { drop := true, fresh := none, eat := none, dynPure := true, fuel := fu, excl := fun n => [].contains n, asV := fun n => [].contains n, heapSite := fun n => [].contains n, narrow := fun n => [].contains n, win := fun n => [].contains n, frz := fun n => [].contains n, rfix := fun n => lkR n [], live := fun r => lkA r [] }
noncomputable def ann301 : Ann := ann301x FUEL
def ann302x (fu : Nat) : Ann := { drop := true, fresh := none, eat := none, dynPure := true, fuel := fu, excl := fun n => [].contains n, asV := fun n => [].contains n, heapSite := fun n => [].contains n, narrow := fun n => [].contains n, win := fun n => [].contains n, frz := fun n => [].contains n, rfix := fun n => lkR n [], live := fun r => lkA r [] }
noncomputable def ann302 : Ann := ann302x FUEL
def ann303x (fu : Nat) : Ann := { drop := true, fresh := none, eat := none, dynPure := true, fuel := fu, excl := fun n => [].contains n, asV := fun n => [].contains n, heapSite := fun n => [].contains n, narrow := fun n => [].contains n, win := fun n => [].contains n, frz := fun n => [].contains n, rfix := fun n => lkR n [], live := fun r => lkA r [] }
noncomputable def ann303 : Ann := ann303x FUEL
def ann304x (fu : Nat) : Ann := { drop := true, fresh := none, eat := none, dynPure := true, fuel := fu, excl := fun n => [].contains n, asV := fun n => [].contains n, heapSite := fun n => [].contains n, narrow := fun n => [].contains n, win := fun n => [].contains n, frz := fun n => [].contains n, rfix := fun n => lkR n [], live := fun r => lkA r [] }
noncomputable def ann304 : Ann := ann304x FUEL
def ann305x (fu : Nat) : Ann := { drop := true, fresh := none, eat := none, dynPure := true, fuel := fu, excl := fun n => [].contains n, asV := fun n => [].contains n, heapSite := fun n => [].contains n, narrow := fun n => [].contains n, win := fun n => [].contains n, frz := fun n => [].contains n, rfix := fun n => lkR n [], live := fun r => lkA r [] }
noncomputable def ann305 : Ann := ann305x FUEL
def ann306x (fu : Nat) : Ann := { drop := true, fresh := none, eat := none, dynPure := true, fuel := fu, excl := fun n => [].contains n, asV := fun n => [].contains n, heapSite := fun n => [].contains n, narrow := fun n => [].contains n, win := fun n => [].contains n, frz := fun n => [].contains n, rfix := fun n => lkR n [], live := fun r => lkA r [] }
noncomputable def ann306 : Ann := ann306x FUEL
def ann307x (fu : Nat) : Ann := { drop := true, fresh := none, eat := none, dynPure := true, fuel := fu, excl := fun n => [].contains n, asV := fun n => [].contains n, heapSite := fun n => [].contains n, narrow := fun n => [].contains n, win := fun n => [].contains n, frz := fun n => [].contains n, rfix := fun n => lkR n [], live := fun r => lkA r [] }
noncomputable def ann307 : Ann := ann307x FUEL
def ann308x (fu : Nat) : Ann := { drop := true, fresh := none, eat := none, dynPure := true, fuel := fu, excl := fun n => [].contains n, asV := fun n => [].contains n, heapSite := fun n => [].contains n, narrow := fun n => [].contains n, win := fun n => [].contains n, frz := fun n => [].contains n, rfix := fun n => lkR n [], live := fun r => lkA r [] }
noncomputable def ann308 : Ann := ann308x FUEL
def ann309x (fu : Nat) : Ann := { drop := true, fresh := none, eat := none, dynPure := true, fuel := fu, excl := fun n => [].contains n, asV := fun n => [].contains n, heapSite := fun n => [].contains n, narrow := fun n => [].contains n, win := fun n => [].contains n, frz := fun n => [].contains n, rfix := fun n => lkR n [], live := fun r => lkA r [] }
noncomputable def ann309 : Ann := ann309x FUEL
def ann310x (fu : Nat) : Ann := { drop := true, fresh := none, eat := none, dynPure := true, fuel := fu, excl := fun n => [].contains n, asV := fun n => [].contains n, heapSite := fun n => [].contains n, narrow := fun n => [].contains n, win := fun n => [].contains n, frz := fun n => [].contains n, rfix := fun n => lkR n [], live := fun r => lkA r [] }
noncomputable def ann310 : Ann := ann310x FUEL
def ann311x (fu : Nat) : Ann := { drop := true, fresh := none, eat := none, dynPure := true, fuel := fu, excl := fun n => [].contains n, asV := fun n => [].contains n, heapSite := fun n => [].contains n, narrow := fun n => [].contains n, win := fun n => [].contains n, frz := fun n => [].contains n, rfix := fun n => lkR n [], live := fun r => lkA r [] }
noncomputable def ann311 : Ann := ann311x FUEL
def ann312x (fu : Nat) : Ann := { drop := true, fresh := none, eat := none, dynPure := true, fuel := fu, excl := fun n => [].contains n, asV := fun n => [].contains n, heapSite := fun n => [].contains n, narrow := fun n => [].contains n, win := fun n => [].contains n, frz := fun n => [].contains n, rfix := fun n => lkR n [], live := fun r => lkA r [] }
noncomputable def ann312 : Ann := ann312x FUEL
def ann313x (fu : Nat) : Ann := { drop := true, fresh := none, eat := none, dynPure := true, fuel := fu, excl := fun n => [].contains n, asV := fun n => [].contains n, heapSite := fun n => [].contains n, narrow := fun n => [].contains n, win := fun n => [].contains n, frz := fun n => [].contains n, rfix := fun n => lkR n [], live := fun r => lkA r [] }
noncomputable def ann313 : Ann := ann313x FUEL
def ann320x (fu : Nat) : Ann := { drop := true, fresh := none, eat := none, dynPure := true, fuel := fu, excl := fun n => [].contains n, asV := fun n => [].contains n, heapSite := fun n => [].contains n, narrow := fun n => [].contains n, win := fun n => [].contains n, frz := fun n => [].contains n, rfix := fun n => lkR n [], live := fun r => lkA r [] }
noncomputable def ann320 : Ann := ann320x FUEL
noncomputable def t2 : (FuncId → FF) → FF := semF cx (ann2x 4194304) Tryz.f2
noncomputable def t3 : (FuncId → FF) → FF := semF cx (ann3x 4194304) Tryz.f3
noncomputable def t4 : (FuncId → FF) → FF := semF cx (ann4x 4194304) Tryz.f4
noncomputable def t5 : (FuncId → FF) → FF := semF cx (ann5x 4194304) Tryz.f5
noncomputable def t6 : (FuncId → FF) → FF := semF cx (ann6x 4194304) Tryz.f6
noncomputable def t7 : (FuncId → FF) → FF := semF cx (ann7x 4194304) Tryz.f7
noncomputable def t8 : (FuncId → FF) → FF := semF cx (ann8x 4194304) Tryz.f8
noncomputable def t9 : (FuncId → FF) → FF := semF cx (ann9x 4194304) Tryz.f9
noncomputable def t10 : (FuncId → FF) → FF := semF cx (ann10x 4194304) Tryz.f10
noncomputable def t11 : (FuncId → FF) → FF := semF cx (ann11x 4194304) Tryz.f11
noncomputable def t12 : (FuncId → FF) → FF := semDf cx (ann12x 4194304) Tryz.f12 (sq1 (bodyOf Tryz.f12)) (sq1 (sq2 (bodyOf Tryz.f12))) (sq2 (sq2 (sq2 (bodyOf Tryz.f12)))) 3
noncomputable def t13 : (FuncId → FF) → FF := semF cx (ann13x 4194304) Tryz.f13
noncomputable def t14 : (FuncId → FF) → FF := semF cx (ann14x 4194304) Tryz.f14
noncomputable def t15 : (FuncId → FF) → FF := semF cx (ann15x 4194304) Tryz.f15
noncomputable def t16 : (FuncId → FF) → FF := semF cx (ann16x 4194304) Tryz.f16
noncomputable def t17 : (FuncId → FF) → FF := semF cx (ann17x 4194304) Tryz.f17
noncomputable def t18 : (FuncId → FF) → FF := semF cx (ann18x 4194304) Tryz.f18
noncomputable def t19 : (FuncId → FF) → FF := semF cx (ann19x 4194304) Tryz.f19
noncomputable def t20 : (FuncId → FF) → FF := semF cx (ann20x 4194304) Tryz.f20
noncomputable def t21 : (FuncId → FF) → FF := semF cx (ann21x 4194304) Tryz.f21
noncomputable def t22 : (FuncId → FF) → FF := semF cx (ann22x 4194304) Tryz.f22
noncomputable def t23 : (FuncId → FF) → FF := semF cx (ann23x 4194304) Tryz.f23
noncomputable def t24 : (FuncId → FF) → FF := semF cx (ann24x 4194304) Tryz.f24
noncomputable def t25 : (FuncId → FF) → FF := semF cx (ann25x 4194304) Tryz.f25
noncomputable def t26 : (FuncId → FF) → FF := semF cx (ann26x 4194304) Tryz.f26
noncomputable def t27 : (FuncId → FF) → FF := semF cx (ann27x 4194304) Tryz.f27
noncomputable def t28 : (FuncId → FF) → FF := semF cx (ann28x 4194304) Tryz.f28
noncomputable def t29 : (FuncId → FF) → FF := semF cx (ann29x 4194304) Tryz.f29
noncomputable def t30 : (FuncId → FF) → FF := semF cx (ann30x 4194304) Tryz.f30
noncomputable def t31 : (FuncId → FF) → FF := semF cx (ann31x 4194304) Tryz.f31
noncomputable def t32 : (FuncId → FF) → FF := semF cx (ann32x 4194304) Tryz.f32
noncomputable def t33 : (FuncId → FF) → FF := semF cx (ann33x 4194304) Tryz.f33
noncomputable def t34 : (FuncId → FF) → FF := semF cx (ann34x 4194304) Tryz.f34
noncomputable def t35 : (FuncId → FF) → FF := semF cx (ann35x 4194304) Tryz.f35
noncomputable def t36 : (FuncId → FF) → FF := semF cx (ann36x 4194304) Tryz.f36
noncomputable def t37 : (FuncId → FF) → FF := semF cx (ann37x 4194304) Tryz.f37
noncomputable def t38 : (FuncId → FF) → FF := semF cx (ann38x 4194304) Tryz.f38
noncomputable def t39 : (FuncId → FF) → FF := semF cx (ann39x 4194304) Tryz.f39
noncomputable def t40 : (FuncId → FF) → FF := semF cx (ann40x 4194304) Tryz.f40
noncomputable def t41 : (FuncId → FF) → FF := semF cx (ann41x 4194304) Tryz.f41
noncomputable def t42 : (FuncId → FF) → FF := semF cx (ann42x 4194304) Tryz.f42
noncomputable def t43 : (FuncId → FF) → FF := semF cx (ann43x 4194304) Tryz.f43
noncomputable def t44 : (FuncId → FF) → FF := semF cx (ann44x 4194304) Tryz.f44
noncomputable def t45 : (FuncId → FF) → FF := semF cx (ann45x 4194304) Tryz.f45
noncomputable def t46 : (FuncId → FF) → FF := semF cx (ann46x 4194304) Tryz.f46
noncomputable def t47 : (FuncId → FF) → FF := semF cx (ann47x 4194304) Tryz.f47
noncomputable def t48 : (FuncId → FF) → FF := semF cx (ann48x 4194304) Tryz.f48
noncomputable def t49 : (FuncId → FF) → FF := semF cx (ann49x 4194304) Tryz.f49
noncomputable def t50 : (FuncId → FF) → FF := semMr cx (ann50x 4194304) Tryz.f50 (preL 7 (bodyOf Tryz.f50)) (mkMap (sq1 (dropS 7 (bodyOf Tryz.f50)))) (sq2 (dropS 7 (bodyOf Tryz.f50)))
noncomputable def t51 : (FuncId → FF) → FF := semF cx (ann51x 4194304) Tryz.f51
noncomputable def t52 : (FuncId → FF) → FF := semF cx (ann52x 4194304) Tryz.f52
noncomputable def t53 : (FuncId → FF) → FF := semF cx (ann53x 4194304) Tryz.f53
noncomputable def t54 : (FuncId → FF) → FF := semF cx (ann54x 4194304) Tryz.f54
noncomputable def t55 : (FuncId → FF) → FF := semF cx (ann55x 4194304) Tryz.f55
noncomputable def t56 : (FuncId → FF) → FF := semF cx (ann56x 4194304) Tryz.f56
noncomputable def t57 : (FuncId → FF) → FF := semF cx (ann57x 4194304) Tryz.f57
noncomputable def t58 : (FuncId → FF) → FF := semF cx (ann58x 4194304) Tryz.f58
noncomputable def t59 : (FuncId → FF) → FF := semF cx (ann59x 4194304) Tryz.f59
noncomputable def t60 : (FuncId → FF) → FF := semF cx (ann60x 4194304) Tryz.f60
noncomputable def t61 : (FuncId → FF) → FF := semF cx (ann61x 4194304) Tryz.f61
noncomputable def t62 : (FuncId → FF) → FF := semF cx (ann62x 4194304) Tryz.f62
noncomputable def t63 : (FuncId → FF) → FF := semF cx (ann63x 4194304) Tryz.f63
noncomputable def t64 : (FuncId → FF) → FF := semF cx (ann64x 4194304) Tryz.f64
noncomputable def t65 : (FuncId → FF) → FF := semF cx (ann65x 4194304) Tryz.f65
noncomputable def t66 : (FuncId → FF) → FF := semF cx (ann66x 4194304) Tryz.f66
noncomputable def t67 : (FuncId → FF) → FF := semF cx (ann67x 4194304) Tryz.f67
noncomputable def t68 : (FuncId → FF) → FF := semF cx (ann68x 4194304) Tryz.f68
noncomputable def t69 : (FuncId → FF) → FF := semF cx (ann69x 4194304) Tryz.f69
noncomputable def t70 : (FuncId → FF) → FF := semF cx (ann70x 4194304) Tryz.f70
noncomputable def t71 : (FuncId → FF) → FF := semF cx (ann71x 4194304) Tryz.f71
noncomputable def t72 : (FuncId → FF) → FF := semF cx (ann72x 4194304) Tryz.f72
noncomputable def t73 : (FuncId → FF) → FF := semF cx (ann73x 4194304) Tryz.f73
noncomputable def t74 : (FuncId → FF) → FF := semF cx (ann74x 4194304) Tryz.f74
noncomputable def t75 : (FuncId → FF) → FF := semF cx (ann75x 4194304) Tryz.f75
noncomputable def t76 : (FuncId → FF) → FF := semF cx (ann76x 4194304) Tryz.f76
noncomputable def t77 : (FuncId → FF) → FF := semF cx (ann77x 4194304) Tryz.f77
noncomputable def t78 : (FuncId → FF) → FF := semF cx (ann78x 4194304) Tryz.f78
noncomputable def t79 : (FuncId → FF) → FF := semF cx (ann79x 4194304) Tryz.f79
noncomputable def t80 : (FuncId → FF) → FF := semF cx (ann80x 4194304) Tryz.f80
noncomputable def t81 : (FuncId → FF) → FF := semF cx (ann81x 4194304) Tryz.f81
noncomputable def t82 : (FuncId → FF) → FF := semF cx (ann82x 4194304) Tryz.f82
noncomputable def t83 : (FuncId → FF) → FF := semF cx (ann83x 4194304) Tryz.f83
noncomputable def t84 : (FuncId → FF) → FF := semF cx (ann84x 4194304) Tryz.f84
noncomputable def t85 : (FuncId → FF) → FF := semF cx (ann85x 4194304) Tryz.f85
noncomputable def t86 : (FuncId → FF) → FF := semF cx (ann86x 4194304) Tryz.f86
noncomputable def t87 : (FuncId → FF) → FF := semF cx (ann87x 4194304) Tryz.f87
noncomputable def t88 : (FuncId → FF) → FF := fun G => noPan1 (semF cx (ann88x 4194304) Tryz.f88 G)
noncomputable def t89 : (FuncId → FF) → FF := semF cx (ann89x 4194304) Tryz.f89
noncomputable def t90 : (FuncId → FF) → FF := semF cx (ann90x 4194304) Tryz.f90
noncomputable def t91 : (FuncId → FF) → FF := semF cx (ann91x 4194304) Tryz.f91
noncomputable def t92 : (FuncId → FF) → FF := semF cx (ann92x 4194304) Tryz.f92
noncomputable def t93 : (FuncId → FF) → FF := semF cx (ann93x 4194304) Tryz.f93
noncomputable def t94 : (FuncId → FF) → FF := semF cx (ann94x 4194304) Tryz.f94
noncomputable def t95 : (FuncId → FF) → FF := semF cx (ann95x 4194304) Tryz.f95
noncomputable def t96 : (FuncId → FF) → FF := semF cx (ann96x 4194304) Tryz.f96
noncomputable def t97 : (FuncId → FF) → FF := semF cx (ann97x 4194304) Tryz.f97
noncomputable def t98 : (FuncId → FF) → FF := semF cx (ann98x 4194304) Tryz.f98
noncomputable def t99 : (FuncId → FF) → FF := semF cx (ann99x 4194304) Tryz.f99
noncomputable def t100 : (FuncId → FF) → FF := semF cx (ann100x 4194304) Tryz.f100
noncomputable def t101 : (FuncId → FF) → FF := semF cx (ann101x 4194304) Tryz.f101
noncomputable def t102 : (FuncId → FF) → FF := semF cx (ann102x 4194304) Tryz.f102
noncomputable def t103 : (FuncId → FF) → FF := semF cx (ann103x 4194304) Tryz.f103
noncomputable def t104 : (FuncId → FF) → FF := semF cx (ann104x 4194304) Tryz.f104
noncomputable def t105 : (FuncId → FF) → FF := semF cx (ann105x 4194304) Tryz.f105
noncomputable def t106 : (FuncId → FF) → FF := semF cx (ann106x 4194304) Tryz.f106
noncomputable def t107 : (FuncId → FF) → FF := semF cx (ann107x 4194304) Tryz.f107
noncomputable def t108 : (FuncId → FF) → FF := semF cx (ann108x 4194304) Tryz.f108
noncomputable def t109 : (FuncId → FF) → FF := semF cx (ann109x 4194304) Tryz.f109
noncomputable def t110 : (FuncId → FF) → FF := semF cx (ann110x 4194304) Tryz.f110
noncomputable def t111 : (FuncId → FF) → FF := semF cx (ann111x 4194304) Tryz.f111
noncomputable def t112 : (FuncId → FF) → FF := semF cx (ann112x 4194304) Tryz.f112
noncomputable def t113 : (FuncId → FF) → FF := semF cx (ann113x 4194304) Tryz.f113
noncomputable def t114 : (FuncId → FF) → FF := semF cx (ann114x 4194304) Tryz.f114
noncomputable def t115 : (FuncId → FF) → FF := semF cx (ann115x 4194304) Tryz.f115
noncomputable def t116 : (FuncId → FF) → FF := semF cx (ann116x 4194304) Tryz.f116
noncomputable def t117 : (FuncId → FF) → FF := semF cx (ann117x 4194304) Tryz.f117
noncomputable def t118 : (FuncId → FF) → FF := semF cx (ann118x 4194304) Tryz.f118
noncomputable def t119 : (FuncId → FF) → FF := semF cx (ann119x 4194304) Tryz.f119
noncomputable def t120 : (FuncId → FF) → FF := semF cx (ann120x 4194304) Tryz.f120
noncomputable def t121 : (FuncId → FF) → FF := semF cx (ann121x 4194304) Tryz.f121
noncomputable def t122 : (FuncId → FF) → FF := semF cx (ann122x 4194304) Tryz.f122
noncomputable def t123 : (FuncId → FF) → FF := semF cx (ann123x 4194304) Tryz.f123
noncomputable def t124 : (FuncId → FF) → FF := semF cx (ann124x 4194304) Tryz.f124
noncomputable def t125 : (FuncId → FF) → FF := semF cx (ann125x 4194304) Tryz.f125
noncomputable def t126 : (FuncId → FF) → FF := semF cx (ann126x 4194304) Tryz.f126
noncomputable def t127 : (FuncId → FF) → FF := semF cx (ann127x 4194304) Tryz.f127
noncomputable def t128 : (FuncId → FF) → FF := semF cx (ann128x 4194304) Tryz.f128
noncomputable def t129 : (FuncId → FF) → FF := semF cx (ann129x 4194304) Tryz.f129
noncomputable def t130 : (FuncId → FF) → FF := semF cx (ann130x 4194304) Tryz.f130
noncomputable def t131 : (FuncId → FF) → FF := semF cx (ann131x 4194304) Tryz.f131
noncomputable def t132 : (FuncId → FF) → FF := semF cx (ann132x 4194304) Tryz.f132
noncomputable def t133 : (FuncId → FF) → FF := semF cx (ann133x 4194304) Tryz.f133
noncomputable def t134 : (FuncId → FF) → FF := semF cx (ann134x 4194304) Tryz.f134
noncomputable def t135 : (FuncId → FF) → FF := semF cx (ann135x 4194304) Tryz.f135
noncomputable def t136 : (FuncId → FF) → FF := semF cx (ann136x 4194304) Tryz.f136
noncomputable def t137 : (FuncId → FF) → FF := semF cx (ann137x 4194304) Tryz.f137
noncomputable def t138 : (FuncId → FF) → FF := semMr cx (ann138x 4194304) Tryz.f138 (preL 3 (bodyOf Tryz.f138)) (mkMap (sq1 (dropS 3 (bodyOf Tryz.f138)))) (sq2 (dropS 3 (bodyOf Tryz.f138)))
noncomputable def t139 : (FuncId → FF) → FF := semF cx (ann139x 4194304) Tryz.f139
noncomputable def t140 : (FuncId → FF) → FF := semF cx (ann140x 4194304) Tryz.f140
noncomputable def t141 : (FuncId → FF) → FF := semF cx (ann141x 4194304) Tryz.f141
noncomputable def t142 : (FuncId → FF) → FF := semF cx (ann142x 4194304) Tryz.f142
noncomputable def t143 : (FuncId → FF) → FF := semF cx (ann143x 4194304) Tryz.f143
noncomputable def t144 : (FuncId → FF) → FF := semF cx (ann144x 4194304) Tryz.f144
noncomputable def t145 : (FuncId → FF) → FF := semF cx (ann145x 4194304) Tryz.f145
noncomputable def t146 : (FuncId → FF) → FF := semF cx (ann146x 4194304) Tryz.f146
noncomputable def t147 : (FuncId → FF) → FF := semF cx (ann147x 4194304) Tryz.f147
noncomputable def t148 : (FuncId → FF) → FF := semF cx (ann148x 4194304) Tryz.f148
noncomputable def t149 : (FuncId → FF) → FF := semF cx (ann149x 4194304) Tryz.f149
noncomputable def t150 : (FuncId → FF) → FF := semF cx (ann150x 4194304) Tryz.f150
noncomputable def t151 : (FuncId → FF) → FF := semF cx (ann151x 4194304) Tryz.f151
noncomputable def t152 : (FuncId → FF) → FF := semF cx (ann152x 4194304) Tryz.f152
noncomputable def t153 : (FuncId → FF) → FF := semF cx (ann153x 4194304) Tryz.f153
noncomputable def t154 : (FuncId → FF) → FF := semF cx (ann154x 4194304) Tryz.f154
noncomputable def t155 : (FuncId → FF) → FF := semF cx (ann155x 4194304) Tryz.f155
noncomputable def t156 : (FuncId → FF) → FF := semF cx (ann156x 4194304) Tryz.f156
noncomputable def t157 : (FuncId → FF) → FF := semF cx (ann157x 4194304) Tryz.f157
noncomputable def t158 : (FuncId → FF) → FF := semF cx (ann158x 4194304) Tryz.f158
noncomputable def t159 : (FuncId → FF) → FF := semF cx (ann159x 4194304) Tryz.f159
noncomputable def t160 : (FuncId → FF) → FF := semF cx (ann160x 4194304) Tryz.f160
noncomputable def t161 : (FuncId → FF) → FF := semF cx (ann161x 4194304) Tryz.f161
noncomputable def t162 : (FuncId → FF) → FF := semF cx (ann162x 4194304) Tryz.f162
noncomputable def t163 : (FuncId → FF) → FF := semF cx (ann163x 4194304) Tryz.f163
noncomputable def t164 : (FuncId → FF) → FF := semF cx (ann164x 4194304) Tryz.f164
noncomputable def t165 : (FuncId → FF) → FF := semF cx (ann165x 4194304) Tryz.f165
noncomputable def t166 : (FuncId → FF) → FF := semF cx (ann166x 4194304) Tryz.f166
noncomputable def t167 : (FuncId → FF) → FF := semF cx (ann167x 4194304) Tryz.f167
noncomputable def t168 : (FuncId → FF) → FF := semF cx (ann168x 4194304) Tryz.f168
noncomputable def t169 : (FuncId → FF) → FF := semF cx (ann169x 4194304) Tryz.f169
noncomputable def t170 : (FuncId → FF) → FF := semF cx (ann170x 4194304) Tryz.f170
noncomputable def t171 : (FuncId → FF) → FF := semF cx (ann171x 4194304) Tryz.f171
noncomputable def t172 : (FuncId → FF) → FF := semF cx (ann172x 4194304) Tryz.f172
noncomputable def t173 : (FuncId → FF) → FF := semF cx (ann173x 4194304) Tryz.f173
noncomputable def t174 : (FuncId → FF) → FF := semF cx (ann174x 4194304) Tryz.f174
noncomputable def t175 : (FuncId → FF) → FF := semF cx (ann175x 4194304) Tryz.f175
noncomputable def t176 : (FuncId → FF) → FF := semF cx (ann176x 4194304) Tryz.f176
noncomputable def t177 : (FuncId → FF) → FF := semF cx (ann177x 4194304) Tryz.f177
noncomputable def t178 : (FuncId → FF) → FF := semF cx (ann178x 4194304) Tryz.f178
noncomputable def t179 : (FuncId → FF) → FF := semF cx (ann179x 4194304) Tryz.f179
noncomputable def t180 : (FuncId → FF) → FF := semF cx (ann180x 4194304) Tryz.f180
noncomputable def t181 : (FuncId → FF) → FF := semF cx (ann181x 4194304) Tryz.f181
noncomputable def t182 : (FuncId → FF) → FF := semF cx (ann182x 4194304) Tryz.f182
noncomputable def t183 : (FuncId → FF) → FF := semF cx (ann183x 4194304) Tryz.f183
noncomputable def t184 : (FuncId → FF) → FF := semF cx (ann184x 4194304) Tryz.f184
noncomputable def t185 : (FuncId → FF) → FF := semF cx (ann185x 4194304) Tryz.f185
noncomputable def t186 : (FuncId → FF) → FF := semF cx (ann186x 4194304) Tryz.f186
noncomputable def t187 : (FuncId → FF) → FF := semF cx (ann187x 4194304) Tryz.f187
noncomputable def t188 : (FuncId → FF) → FF := semF cx (ann188x 4194304) Tryz.f188
noncomputable def t189 : (FuncId → FF) → FF := semF cx (ann189x 4194304) Tryz.f189
noncomputable def t190 : (FuncId → FF) → FF := semF cx (ann190x 4194304) Tryz.f190
noncomputable def t191 : (FuncId → FF) → FF := semF cx (ann191x 4194304) Tryz.f191
noncomputable def t192 : (FuncId → FF) → FF := semF cx (ann192x 4194304) Tryz.f192
noncomputable def t193 : (FuncId → FF) → FF := semF cx (ann193x 4194304) Tryz.f193
noncomputable def t194 : (FuncId → FF) → FF := semF cx (ann194x 4194304) Tryz.f194
noncomputable def t195 : (FuncId → FF) → FF := semF cx (ann195x 4194304) Tryz.f195
noncomputable def t196 : (FuncId → FF) → FF := semF cx (ann196x 4194304) Tryz.f196
noncomputable def t197 : (FuncId → FF) → FF := semF cx (ann197x 4194304) Tryz.f197
noncomputable def t198 : (FuncId → FF) → FF := semF cx (ann198x 4194304) Tryz.f198
noncomputable def t199 : (FuncId → FF) → FF := semF cx (ann199x 4194304) Tryz.f199
noncomputable def t200 : (FuncId → FF) → FF := semF cx (ann200x 4194304) Tryz.f200
noncomputable def t201 : (FuncId → FF) → FF := semF cx (ann201x 4194304) Tryz.f201
noncomputable def t202 : (FuncId → FF) → FF := semF cx (ann202x 4194304) Tryz.f202
noncomputable def t203 : (FuncId → FF) → FF := semF cx (ann203x 4194304) Tryz.f203
noncomputable def t204 : (FuncId → FF) → FF := semF cx (ann204x 4194304) Tryz.f204
noncomputable def t205 : (FuncId → FF) → FF := semF cx (ann205x 4194304) Tryz.f205
noncomputable def t206 : (FuncId → FF) → FF := semF cx (ann206x 4194304) Tryz.f206
noncomputable def t207 : (FuncId → FF) → FF := semF cx (ann207x 4194304) Tryz.f207
noncomputable def t208 : (FuncId → FF) → FF := semF cx (ann208x 4194304) Tryz.f208
noncomputable def t209 : (FuncId → FF) → FF := semF cx (ann209x 4194304) Tryz.f209
noncomputable def t210 : (FuncId → FF) → FF := semF cx (ann210x 4194304) Tryz.f210
noncomputable def t211 : (FuncId → FF) → FF := semF cx (ann211x 4194304) Tryz.f211
noncomputable def t212 : (FuncId → FF) → FF := semF cx (ann212x 4194304) Tryz.f212
noncomputable def t213 : (FuncId → FF) → FF := semF cx (ann213x 4194304) Tryz.f213
noncomputable def t214 : (FuncId → FF) → FF := semF cx (ann214x 4194304) Tryz.f214
noncomputable def t215 : (FuncId → FF) → FF := semF cx (ann215x 4194304) Tryz.f215
noncomputable def t216 : (FuncId → FF) → FF := semF cx (ann216x 4194304) Tryz.f216
noncomputable def t217 : (FuncId → FF) → FF := semF cx (ann217x 4194304) Tryz.f217
noncomputable def t218 : (FuncId → FF) → FF := semF cx (ann218x 4194304) Tryz.f218
noncomputable def t219 : (FuncId → FF) → FF := semF cx (ann219x 4194304) Tryz.f219
noncomputable def t220 : (FuncId → FF) → FF := semF cx (ann220x 4194304) Tryz.f220
noncomputable def t221 : (FuncId → FF) → FF := fun G => noPan1 (semF cx (ann221x 4194304) Tryz.f221 G)
noncomputable def t222 : (FuncId → FF) → FF := semF cx (ann222x 4194304) Tryz.f222
noncomputable def t223 : (FuncId → FF) → FF := semF cx (ann223x 4194304) Tryz.f223
noncomputable def t224 : (FuncId → FF) → FF := semF cx (ann224x 4194304) Tryz.f224
noncomputable def t225 : (FuncId → FF) → FF := semF cx (ann225x 4194304) Tryz.f225
noncomputable def t226 : (FuncId → FF) → FF := semF cx (ann226x 4194304) Tryz.f226
noncomputable def t227 : (FuncId → FF) → FF := semF cx (ann227x 4194304) Tryz.f227
noncomputable def t228 : (FuncId → FF) → FF := semF cx (ann228x 4194304) Tryz.f228
noncomputable def t229 : (FuncId → FF) → FF := semF cx (ann229x 4194304) Tryz.f229
noncomputable def t230 : (FuncId → FF) → FF := semF cx (ann230x 4194304) Tryz.f230
noncomputable def t231 : (FuncId → FF) → FF := semF cx (ann231x 4194304) Tryz.f231
noncomputable def t232 : (FuncId → FF) → FF := semF cx (ann232x 4194304) Tryz.f232
noncomputable def t233 : (FuncId → FF) → FF := semF cx (ann233x 4194304) Tryz.f233
noncomputable def t234 : (FuncId → FF) → FF := semF cx (ann234x 4194304) Tryz.f234
noncomputable def t235 : (FuncId → FF) → FF := semF cx (ann235x 4194304) Tryz.f235
noncomputable def t236 : (FuncId → FF) → FF := semF cx (ann236x 4194304) Tryz.f236
noncomputable def t237 : (FuncId → FF) → FF := semF cx (ann237x 4194304) Tryz.f237
noncomputable def t238 : (FuncId → FF) → FF := semF cx (ann238x 4194304) Tryz.f238
noncomputable def t239 : (FuncId → FF) → FF := semF cx (ann239x 4194304) Tryz.f239
noncomputable def t240 : (FuncId → FF) → FF := semF cx (ann240x 4194304) Tryz.f240
noncomputable def t241 : (FuncId → FF) → FF := semF cx (ann241x 4194304) Tryz.f241
noncomputable def t242 : (FuncId → FF) → FF := semF cx (ann242x 4194304) Tryz.f242
noncomputable def t243 : (FuncId → FF) → FF := semF cx (ann243x 4194304) Tryz.f243
noncomputable def t244 : (FuncId → FF) → FF := semF cx (ann244x 4194304) Tryz.f244
noncomputable def t245 : (FuncId → FF) → FF := semF cx (ann245x 4194304) Tryz.f245
noncomputable def t246 : (FuncId → FF) → FF := semF cx (ann246x 4194304) Tryz.f246
noncomputable def t247 : (FuncId → FF) → FF := semF cx (ann247x 4194304) Tryz.f247
noncomputable def t248 : (FuncId → FF) → FF := semF cx (ann248x 4194304) Tryz.f248
noncomputable def t249 : (FuncId → FF) → FF := semF cx (ann249x 4194304) Tryz.f249
noncomputable def t250 : (FuncId → FF) → FF := semF cx (ann250x 4194304) Tryz.f250
noncomputable def t251 : (FuncId → FF) → FF := semF cx (ann251x 4194304) Tryz.f251
noncomputable def t252 : (FuncId → FF) → FF := semF cx (ann252x 4194304) Tryz.f252
noncomputable def t253 : (FuncId → FF) → FF := semF cx (ann253x 4194304) Tryz.f253
noncomputable def t254 : (FuncId → FF) → FF := semF cx (ann254x 4194304) Tryz.f254
noncomputable def t255 : (FuncId → FF) → FF := semF cx (ann255x 4194304) Tryz.f255
noncomputable def t256 : (FuncId → FF) → FF := semF cx (ann256x 4194304) Tryz.f256
noncomputable def t257 : (FuncId → FF) → FF := semF cx (ann257x 4194304) Tryz.f257
noncomputable def t258 : (FuncId → FF) → FF := semF cx (ann258x 4194304) Tryz.f258
noncomputable def t259 : (FuncId → FF) → FF := semF cx (ann259x 4194304) Tryz.f259
noncomputable def t260 : (FuncId → FF) → FF := semF cx (ann260x 4194304) Tryz.f260
noncomputable def t261 : (FuncId → FF) → FF := semF cx (ann261x 4194304) Tryz.f261
noncomputable def t262 : (FuncId → FF) → FF := semF cx (ann262x 4194304) Tryz.f262
noncomputable def t263 : (FuncId → FF) → FF := semF cx (ann263x 4194304) Tryz.f263
noncomputable def t264 : (FuncId → FF) → FF := semF cx (ann264x 4194304) Tryz.f264
noncomputable def t265 : (FuncId → FF) → FF := semF cx (ann265x 4194304) Tryz.f265
noncomputable def t266 : (FuncId → FF) → FF := semF cx (ann266x 4194304) Tryz.f266
noncomputable def t267 : (FuncId → FF) → FF := semF cx (ann267x 4194304) Tryz.f267
noncomputable def t268 : (FuncId → FF) → FF := semF cx (ann268x 4194304) Tryz.f268
noncomputable def t269 : (FuncId → FF) → FF := semF cx (ann269x 4194304) Tryz.f269
noncomputable def t270 : (FuncId → FF) → FF := semF cx (ann270x 4194304) Tryz.f270
noncomputable def t271 : (FuncId → FF) → FF := semF cx (ann271x 4194304) Tryz.f271
noncomputable def t272 : (FuncId → FF) → FF := semF cx (ann272x 4194304) Tryz.f272
noncomputable def t273 : (FuncId → FF) → FF := semF cx (ann273x 4194304) Tryz.f273
noncomputable def t274 : (FuncId → FF) → FF := semF cx (ann274x 4194304) Tryz.f274
noncomputable def t275 : (FuncId → FF) → FF := semF cx (ann275x 4194304) Tryz.f275
noncomputable def t276 : (FuncId → FF) → FF := semF cx (ann276x 4194304) Tryz.f276
noncomputable def t277 : (FuncId → FF) → FF := semF cx (ann277x 4194304) Tryz.f277
noncomputable def t278 : (FuncId → FF) → FF := semF cx (ann278x 4194304) Tryz.f278
noncomputable def t279 : (FuncId → FF) → FF := semF cx (ann279x 4194304) Tryz.f279
noncomputable def t280 : (FuncId → FF) → FF := semF cx (ann280x 4194304) Tryz.f280
noncomputable def t281 : (FuncId → FF) → FF := semF cx (ann281x 4194304) Tryz.f281
noncomputable def t299 : (FuncId → FF) → FF := semF cx (ann299x 4194304) Tryz.f299
noncomputable def t300 : (FuncId → FF) → FF := semF cx (ann300x 4194304) Tryz.f300
noncomputable def t301 : (FuncId → FF) → FF := semF cx (ann301x 4194304) Tryz.f301
noncomputable def t302 : (FuncId → FF) → FF := semF cx (ann302x 4194304) Tryz.f302
noncomputable def t303 : (FuncId → FF) → FF := semF cx (ann303x 4194304) Tryz.f303
noncomputable def t304 : (FuncId → FF) → FF := semF cx (ann304x 4194304) Tryz.f304
noncomputable def t305 : (FuncId → FF) → FF := semF cx (ann305x 4194304) Tryz.f305
noncomputable def t306 : (FuncId → FF) → FF := semF cx (ann306x 4194304) Tryz.f306
noncomputable def t307 : (FuncId → FF) → FF := semF cx (ann307x 4194304) Tryz.f307
noncomputable def t308 : (FuncId → FF) → FF := semF cx (ann308x 4194304) Tryz.f308
noncomputable def t309 : (FuncId → FF) → FF := semF cx (ann309x 4194304) Tryz.f309
noncomputable def t310 : (FuncId → FF) → FF := semF cx (ann310x 4194304) Tryz.f310
noncomputable def t311 : (FuncId → FF) → FF := semF cx (ann311x 4194304) Tryz.f311
noncomputable def t312 : (FuncId → FF) → FF := semF cx (ann312x 4194304) Tryz.f312
noncomputable def t313 : (FuncId → FF) → FF := semF cx (ann313x 4194304) Tryz.f313
noncomputable def t320 : (FuncId → FF) → FF := semF cx (ann320x 4194304) Tryz.f320
noncomputable def tab : List (Nat × ((FuncId → FF) → FF)) := [(2, t2), (3, t3), (4, t4), (5, t5), (6, t6), (7, t7), (8, t8), (9, t9), (10, t10), (11, t11), (12, t12), (13, t13), (14, t14), (15, t15), (16, t16), (17, t17), (18, t18), (19, t19), (20, t20), (21, t21), (22, t22), (23, t23), (24, t24), (25, t25), (26, t26), (27, t27), (28, t28), (29, t29), (30, t30), (31, t31), (32, t32), (33, t33), (34, t34), (35, t35), (36, t36), (37, t37), (38, t38), (39, t39), (40, t40), (41, t41), (42, t42), (43, t43), (44, t44), (45, t45), (46, t46), (47, t47), (48, t48), (49, t49), (50, t50), (51, t51), (52, t52), (53, t53), (54, t54), (55, t55), (56, t56), (57, t57), (58, t58), (59, t59), (60, t60), (61, t61), (62, t62), (63, t63), (64, t64), (65, t65), (66, t66), (67, t67), (68, t68), (69, t69), (70, t70), (71, t71), (72, t72), (73, t73), (74, t74), (75, t75), (76, t76), (77, t77), (78, t78), (79, t79), (80, t80), (81, t81), (82, t82), (83, t83), (84, t84), (85, t85), (86, t86), (87, t87), (88, t88), (89, t89), (90, t90), (91, t91), (92, t92), (93, t93), (94, t94), (95, t95), (96, t96), (97, t97), (98, t98), (99, t99), (100, t100), (101, t101), (102, t102), (103, t103), (104, t104), (105, t105), (106, t106), (107, t107), (108, t108), (109, t109), (110, t110), (111, t111), (112, t112), (113, t113), (114, t114), (115, t115), (116, t116), (117, t117), (118, t118), (119, t119), (120, t120), (121, t121), (122, t122), (123, t123), (124, t124), (125, t125), (126, t126), (127, t127), (128, t128), (129, t129), (130, t130), (131, t131), (132, t132), (133, t133), (134, t134), (135, t135), (136, t136), (137, t137), (138, t138), (139, t139), (140, t140), (141, t141), (142, t142), (143, t143), (144, t144), (145, t145), (146, t146), (147, t147), (148, t148), (149, t149), (150, t150), (151, t151), (152, t152), (153, t153), (154, t154), (155, t155), (156, t156), (157, t157), (158, t158), (159, t159), (160, t160), (161, t161), (162, t162), (163, t163), (164, t164), (165, t165), (166, t166), (167, t167), (168, t168), (169, t169), (170, t170), (171, t171), (172, t172), (173, t173), (174, t174), (175, t175), (176, t176), (177, t177), (178, t178), (179, t179), (180, t180), (181, t181), (182, t182), (183, t183), (184, t184), (185, t185), (186, t186), (187, t187), (188, t188), (189, t189), (190, t190), (191, t191), (192, t192), (193, t193), (194, t194), (195, t195), (196, t196), (197, t197), (198, t198), (199, t199), (200, t200), (201, t201), (202, t202), (203, t203), (204, t204), (205, t205), (206, t206), (207, t207), (208, t208), (209, t209), (210, t210), (211, t211), (212, t212), (213, t213), (214, t214), (215, t215), (216, t216), (217, t217), (218, t218), (219, t219), (220, t220), (221, t221), (222, t222), (223, t223), (224, t224), (225, t225), (226, t226), (227, t227), (228, t228), (229, t229), (230, t230), (231, t231), (232, t232), (233, t233), (234, t234), (235, t235), (236, t236), (237, t237), (238, t238), (239, t239), (240, t240), (241, t241), (242, t242), (243, t243), (244, t244), (245, t245), (246, t246), (247, t247), (248, t248), (249, t249), (250, t250), (251, t251), (252, t252), (253, t253), (254, t254), (255, t255), (256, t256), (257, t257), (258, t258), (259, t259), (260, t260), (261, t261), (262, t262), (263, t263), (264, t264), (265, t265), (266, t266), (267, t267), (268, t268), (269, t269), (270, t270), (271, t271), (272, t272), (273, t273), (274, t274), (275, t275), (276, t276), (277, t277), (278, t278), (279, t279), (280, t280), (281, t281), (299, t299), (300, t300), (301, t301), (302, t302), (303, t303), (304, t304), (305, t305), (306, t306), (307, t307), (308, t308), (309, t309), (310, t310), (311, t311), (312, t312), (313, t313), (320, t320)]
noncomputable def GG : Nat → FuncId → FF
  | 0, _ => fun _ _ => .stuck
  | n + 1, k => lkF k tab (GG n)
end Go.Vm
