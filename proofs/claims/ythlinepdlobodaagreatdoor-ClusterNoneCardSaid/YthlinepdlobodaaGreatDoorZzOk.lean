/- Part of a proof: ZzOk. -/
import Derived.Test.YthlinepdlobodaaGreatDoorZzG0
import Derived.Test.YthlinepdlobodaaGreatDoorZzG1
import Derived.Test.YthlinepdlobodaaGreatDoorZzG2
import Derived.Test.YthlinepdlobodaaGreatDoorZzG3
import Derived.Test.YthlinepdlobodaaGreatDoorZzG4
import Derived.Test.YthlinepdlobodaaGreatDoorZzG5
import Derived.Test.YthlinepdlobodaaGreatDoorZzG6
import Derived.Test.YthlinepdlobodaaGreatDoorZzG7
import Derived.Test.YthlinepdlobodaaGreatDoorZzG8
import Derived.Test.YthlinepdlobodaaGreatDoorZzG9
import Derived.Test.YthlinepdlobodaaGreatDoorZzG10
import Derived.Test.YthlinepdlobodaaGreatDoorZzG11
import Derived.Test.YthlinepdlobodaaGreatDoorZzG12
import Derived.Test.YthlinepdlobodaaGreatDoorZzG13
import Derived.Test.YthlinepdlobodaaGreatDoorZzG14
import Derived.Test.YthlinepdlobodaaGreatDoorZzG15
import Derived.Test.YthlinepdlobodaaGreatDoorZzG16
import Derived.Test.YthlinepdlobodaaGreatDoorZzG17
import Derived.Test.YthlinepdlobodaaGreatDoorZzG18
import Derived.Test.YthlinepdlobodaaGreatDoorZzG19
import Derived.Test.YthlinepdlobodaaGreatDoorZzG20
import Derived.Test.YthlinepdlobodaaGreatDoorZzG21
import Derived.Test.YthlinepdlobodaaGreatDoorZzG22
import Derived.Test.YthlinepdlobodaaGreatDoorZzG23
import Derived.KernelRfl
set_option linter.unusedSimpArgs false
set_option linter.unusedVariables false
set_option linter.unusedSectionVars false
namespace Go.Vm
open Go Go.Proofs
set_option maxRecDepth 100000
theorem w0 : Wit e0 := ⟨GGq tab [] 40 6, GGq_sound tab_sound (l := []) rfl okNil 40 6, g0.1⟩
theorem w1 : Wit e1 := ⟨GGq tab [] 40 9, GGq_sound tab_sound (l := []) rfl okNil 40 9, g0.2.1⟩
theorem w2 : Wit e2 := ⟨GGq tab [] 40 9, GGq_sound tab_sound (l := []) rfl okNil 40 9, g0.2.2⟩
theorem w3 : Wit e3 := ⟨GGq tab [] 40 51, GGq_sound tab_sound (l := []) rfl okNil 40 51, g1.1⟩
theorem w4 : Wit e4 := ⟨GGq tab [] 40 54, GGq_sound tab_sound (l := []) rfl okNil 40 54, g1.2.1⟩
theorem w5 : Wit e5 := ⟨GGq tab [] 40 54, GGq_sound tab_sound (l := []) rfl okNil 40 54, g1.2.2⟩
theorem w6 : Wit e6 := ⟨GGq tab [] 40 54, GGq_sound tab_sound (l := []) rfl okNil 40 54, g2.1⟩
theorem w7 : Wit e7 := ⟨GGq tab [] 40 54, GGq_sound tab_sound (l := []) rfl okNil 40 54, g2.2.1⟩
theorem w8 : Wit e8 := ⟨GGq tab [] 40 54, GGq_sound tab_sound (l := []) rfl okNil 40 54, g2.2.2⟩
theorem w9 : Wit e9 := ⟨GGq tab [] 40 54, GGq_sound tab_sound (l := []) rfl okNil 40 54, g3.1⟩
theorem w10 : Wit e10 := ⟨GGq tab [] 40 54, GGq_sound tab_sound (l := []) rfl okNil 40 54, g3.2.1⟩
theorem w11 : Wit e11 := ⟨GGq tab [] 40 61, GGq_sound tab_sound (l := []) rfl okNil 40 61, g3.2.2⟩
theorem w12 : Wit e12 := ⟨GGq tab [] 40 61, GGq_sound tab_sound (l := []) rfl okNil 40 61, g4.1⟩
theorem w13 : Wit e13 := ⟨GGq tab [] 40 61, GGq_sound tab_sound (l := []) rfl okNil 40 61, g4.2⟩
theorem w14 : Wit e14 := ⟨GGq tab ml14 40 65, GGq_sound tab_sound (l := ml14) (by kernel_rfl) (okCons w3 (okCons w4 (okCons w5 (okCons w6 (okCons w7 (okCons w8 (okCons w9 (okCons w10 (okCons w11 (okCons w12 (okCons w13 okNil))))))))))) 40 65, g5⟩
theorem w15 : Wit e15 := ⟨GGq tab [] 40 51, GGq_sound tab_sound (l := []) rfl okNil 40 51, g6.1⟩
theorem w16 : Wit e16 := ⟨GGq tab [] 40 54, GGq_sound tab_sound (l := []) rfl okNil 40 54, g6.2.1⟩
theorem w17 : Wit e17 := ⟨GGq tab [] 40 54, GGq_sound tab_sound (l := []) rfl okNil 40 54, g6.2.2⟩
theorem w18 : Wit e18 := ⟨GGq tab [] 40 54, GGq_sound tab_sound (l := []) rfl okNil 40 54, g7.1⟩
theorem w19 : Wit e19 := ⟨GGq tab [] 40 54, GGq_sound tab_sound (l := []) rfl okNil 40 54, g7.2.1⟩
theorem w20 : Wit e20 := ⟨GGq tab [] 40 54, GGq_sound tab_sound (l := []) rfl okNil 40 54, g7.2.2⟩
theorem w21 : Wit e21 := ⟨GGq tab [] 40 54, GGq_sound tab_sound (l := []) rfl okNil 40 54, g8.1⟩
theorem w22 : Wit e22 := ⟨GGq tab [] 40 54, GGq_sound tab_sound (l := []) rfl okNil 40 54, g8.2.1⟩
theorem w23 : Wit e23 := ⟨GGq tab [] 40 54, GGq_sound tab_sound (l := []) rfl okNil 40 54, g8.2.2⟩
theorem w24 : Wit e24 := ⟨GGq tab [] 40 54, GGq_sound tab_sound (l := []) rfl okNil 40 54, g9.1⟩
theorem w25 : Wit e25 := ⟨GGq tab [] 40 61, GGq_sound tab_sound (l := []) rfl okNil 40 61, g9.2.1⟩
theorem w26 : Wit e26 := ⟨GGq tab [] 40 61, GGq_sound tab_sound (l := []) rfl okNil 40 61, g9.2.2⟩
theorem w27 : Wit e27 := ⟨GGq tab [] 40 61, GGq_sound tab_sound (l := []) rfl okNil 40 61, g10⟩
theorem w28 : Wit e28 := ⟨GGq tab ml28 40 65, GGq_sound tab_sound (l := ml28) (by kernel_rfl) (okCons w15 (okCons w16 (okCons w17 (okCons w18 (okCons w19 (okCons w20 (okCons w21 (okCons w22 (okCons w23 (okCons w24 (okCons w25 (okCons w26 (okCons w27 okNil))))))))))))) 40 65, g11⟩
theorem w29 : Wit e29 := ⟨GGq tab [] 40 51, GGq_sound tab_sound (l := []) rfl okNil 40 51, g12.1⟩
theorem w30 : Wit e30 := ⟨GGq tab [] 40 54, GGq_sound tab_sound (l := []) rfl okNil 40 54, g12.2.1⟩
theorem w31 : Wit e31 := ⟨GGq tab [] 40 54, GGq_sound tab_sound (l := []) rfl okNil 40 54, g12.2.2⟩
theorem w32 : Wit e32 := ⟨GGq tab [] 40 54, GGq_sound tab_sound (l := []) rfl okNil 40 54, g13.1⟩
theorem w33 : Wit e33 := ⟨GGq tab [] 40 54, GGq_sound tab_sound (l := []) rfl okNil 40 54, g13.2.1⟩
theorem w34 : Wit e34 := ⟨GGq tab [] 40 54, GGq_sound tab_sound (l := []) rfl okNil 40 54, g13.2.2⟩
theorem w35 : Wit e35 := ⟨GGq tab [] 40 54, GGq_sound tab_sound (l := []) rfl okNil 40 54, g14.1⟩
theorem w36 : Wit e36 := ⟨GGq tab [] 40 54, GGq_sound tab_sound (l := []) rfl okNil 40 54, g14.2.1⟩
theorem w37 : Wit e37 := ⟨GGq tab [] 40 54, GGq_sound tab_sound (l := []) rfl okNil 40 54, g14.2.2⟩
theorem w38 : Wit e38 := ⟨GGq tab [] 40 54, GGq_sound tab_sound (l := []) rfl okNil 40 54, g15.1⟩
theorem w39 : Wit e39 := ⟨GGq tab [] 40 54, GGq_sound tab_sound (l := []) rfl okNil 40 54, g15.2.1⟩
theorem w40 : Wit e40 := ⟨GGq tab [] 40 54, GGq_sound tab_sound (l := []) rfl okNil 40 54, g15.2.2⟩
theorem w41 : Wit e41 := ⟨GGq tab [] 40 61, GGq_sound tab_sound (l := []) rfl okNil 40 61, g16.1⟩
theorem w42 : Wit e42 := ⟨GGq tab [] 40 61, GGq_sound tab_sound (l := []) rfl okNil 40 61, g16.2.1⟩
theorem w43 : Wit e43 := ⟨GGq tab [] 40 61, GGq_sound tab_sound (l := []) rfl okNil 40 61, g16.2.2⟩
theorem w44 : Wit e44 := ⟨GGq tab ml44 40 65, GGq_sound tab_sound (l := ml44) (by kernel_rfl) (okCons w29 (okCons w30 (okCons w31 (okCons w32 (okCons w33 (okCons w34 (okCons w35 (okCons w36 (okCons w37 (okCons w38 (okCons w39 (okCons w40 (okCons w41 (okCons w42 (okCons w43 okNil))))))))))))))) 40 65, g17⟩
theorem w45 : Wit e45 := ⟨GGq tab [] 40 54, GGq_sound tab_sound (l := []) rfl okNil 40 54, g18.1⟩
theorem w46 : Wit e46 := ⟨GGq tab [] 40 54, GGq_sound tab_sound (l := []) rfl okNil 40 54, g18.2.1⟩
theorem w47 : Wit e47 := ⟨GGq tab [] 40 54, GGq_sound tab_sound (l := []) rfl okNil 40 54, g18.2.2⟩
theorem w48 : Wit e48 := ⟨GGq tab [] 40 61, GGq_sound tab_sound (l := []) rfl okNil 40 61, g19.1⟩
theorem w49 : Wit e49 := ⟨GGq tab [] 40 61, GGq_sound tab_sound (l := []) rfl okNil 40 61, g19.2.1⟩
theorem w50 : Wit e50 := ⟨GGq tab [] 40 61, GGq_sound tab_sound (l := []) rfl okNil 40 61, g19.2.2⟩
theorem w51 : Wit e51 := ⟨GGq tab ml51 40 65, GGq_sound tab_sound (l := ml51) (by kernel_rfl) (okCons w45 (okCons w46 (okCons w47 (okCons w48 (okCons w49 (okCons w50 okNil)))))) 40 65, g20⟩
theorem w52 : Wit e52 := ⟨GGq tab ml52 40 41, GGq_sound tab_sound (l := ml52) (by kernel_rfl) (okCons w14 (okCons w28 (okCons w44 (okCons w51 okNil)))) 40 41, g21⟩
theorem w53 : Wit e53 := ⟨GGq tab ml53 40 9, GGq_sound tab_sound (l := ml53) (by kernel_rfl) (okCons w52 okNil) 40 9, g22⟩
theorem w54 : Wit e54 := ⟨GGq tab ml54 40 4, GGq_sound tab_sound (l := ml54) (by kernel_rfl) (okCons w0 (okCons w1 (okCons w2 (okCons w53 okNil)))) 40 4, g23⟩
end Go.Vm
