/- Part of a proof: ZzSndT. -/
import Derived.Test.YtmcocdbkonefjaaGreatDoorZzAnnT
import Derived.Test.YtmcocdbkonefjaaGreatDoorZzDelT
import Derived.Test.YtmcocdbkonefjaaGreatDoorZzErA
import Derived.Test.YtmcocdbkonefjaaGreatDoorZzErI
import Derived.Test.YtmcocdbkonefjaaGreatDoorZzNw
import Derived.KernelRfl
set_option linter.unusedSimpArgs false
set_option linter.unusedVariables false
set_option linter.unusedSectionVars false
namespace Go.Vm
open Go Go.Proofs
set_option maxRecDepth 100000
theorem each233:EachCode cx.P Tryz.f233 3 47 43 where
 hti:=by kernel_rfl
 ati:=by kernel_rfl
 hts:=by kernel_rfl
 ats:=by kernel_rfl
 uts:=by kernel_rfl
 hte:=by kernel_rfl
 ate:=by kernel_rfl
 zte:=Nat.ne_of_beq_eq_false (by kernel_rfl)
 nt:=Nat.le_of_ble_eq_true (by kernel_rfl)
 res:=by kernel_rfl
 np:=by decide
 body:=⟨0,1,2,3,0,1,opN (sq1 (bodyOf Tryz.f233)) 0,opN (sq1 (bodyOf Tryz.f233)) 1,opN (sq1 (bodyOf Tryz.f233)) 2,opN (sq1 (bodyOf Tryz.f233)) 3,opN (sq1 (sq1 (blk (blk (sq2 (bodyOf Tryz.f233)))))) 0,opN (sq1 (sq1 (blk (blk (sq2 (bodyOf Tryz.f233)))))) 1,opN (sq1 (sq1 (blk (blk (sq2 (bodyOf Tryz.f233)))))) 2,opN (sq1 (sq1 (blk (blk (sq2 (bodyOf Tryz.f233)))))) 3,opN (sq1 (blk (sq1 (sq2 (blk (blk (sq2 (bodyOf Tryz.f233)))))))) 0,opN (sq1 (blk (sq1 (sq2 (blk (blk (sq2 (bodyOf Tryz.f233)))))))) 1,opN (sq1 (blk (sq1 (sq2 (blk (blk (sq2 (bodyOf Tryz.f233)))))))) 2,opN (sq1 (blk (sq1 (sq2 (blk (blk (sq2 (bodyOf Tryz.f233)))))))) 3,opN (sq1 (blk (sq1 (sq2 (blk (blk (sq2 (bodyOf Tryz.f233)))))))) 4,opN (sq1 (blk (sq1 (sq2 (blk (blk (sq2 (bodyOf Tryz.f233)))))))) 5,opN (sq1 (blk (sq1 (sq2 (blk (blk (sq2 (bodyOf Tryz.f233)))))))) 6,opN (sq1 (blk (sq1 (sq2 (blk (blk (sq2 (bodyOf Tryz.f233)))))))) 7,opN (sq1 (blk (sq1 (sq2 (blk (blk (sq2 (bodyOf Tryz.f233)))))))) 8,opN (sq2 (sq2 (blk (blk (sq2 (bodyOf Tryz.f233)))))) 0,opN (sq2 (sq2 (blk (blk (sq2 (bodyOf Tryz.f233)))))) 1,opN (sq2 (sq2 (blk (blk (sq2 (bodyOf Tryz.f233)))))) 2,3,3,3,4,3,0,cdN (opN (sq1 (bodyOf Tryz.f233)) 1),cdN (opN (sq1 (sq1 (blk (blk (sq2 (bodyOf Tryz.f233)))))) 2),cdN (opN (sq1 (blk (sq1 (sq2 (blk (blk (sq2 (bodyOf Tryz.f233)))))))) 7),(by kernel_rfl),⟨(by kernel_rfl),(by kernel_rfl),(by kernel_rfl)⟩,⟨(by kernel_rfl),(by kernel_rfl),(by kernel_rfl)⟩,⟨(by kernel_rfl),(by kernel_rfl),(by kernel_rfl)⟩,⟨(by kernel_rfl),(by kernel_rfl),(by kernel_rfl)⟩,⟨(by kernel_rfl),(by kernel_rfl)⟩,⟨(by kernel_rfl),(by kernel_rfl),(by kernel_rfl)⟩,⟨(by kernel_rfl),(by kernel_rfl),(by kernel_rfl)⟩,⟨(by kernel_rfl),(by kernel_rfl),(by kernel_rfl)⟩,⟨(by kernel_rfl),(by kernel_rfl),(by kernel_rfl)⟩,⟨(by kernel_rfl),(by kernel_rfl),(by kernel_rfl)⟩,⟨(by kernel_rfl),(by kernel_rfl),(by kernel_rfl)⟩,⟨(by kernel_rfl),(by kernel_rfl),(by kernel_rfl)⟩,⟨(by kernel_rfl),(by kernel_rfl),(by kernel_rfl)⟩,⟨(by kernel_rfl),(by kernel_rfl),(by kernel_rfl)⟩,⟨(by kernel_rfl),(by kernel_rfl),(by kernel_rfl)⟩,⟨(by kernel_rfl),(by kernel_rfl),(by kernel_rfl)⟩,⟨(by kernel_rfl),(by kernel_rfl),(by kernel_rfl)⟩,⟨(by kernel_rfl),(by kernel_rfl),(by kernel_rfl)⟩,⟨(by kernel_rfl),(by kernel_rfl),(by kernel_rfl)⟩,⟨(by kernel_rfl),(by kernel_rfl)⟩,⟨(by kernel_rfl),(by kernel_rfl),(by kernel_rfl)⟩,⟨(by kernel_rfl),(by kernel_rfl),(by kernel_rfl)⟩,⟨(by kernel_rfl),(by kernel_rfl),(by kernel_rfl)⟩⟩
theorem net137:NetCode cx.P Tryz.f137 136 3 158 118 where
 hts:=by kernel_rfl
 ats:=by kernel_rfl
 uts:=by kernel_rfl
 hte:=by kernel_rfl
 ate:=by kernel_rfl
 zte:=by kernel_rfl
 zero:=by kernel_rfl
 nt:=Nat.le_of_ble_eq_true (by kernel_rfl)
 res:=by kernel_rfl
 np:=by decide
 body:=⟨0,1,2,3,4,0,1,opN (sq1 (bodyOf Tryz.f137)) 0,opN (sq1 (bodyOf Tryz.f137)) 1,opN (sq1 (bodyOf Tryz.f137)) 2,opN (sq1 (blk (blk (sq2 (bodyOf Tryz.f137))))) 0,opN (sq1 (blk (sq1 (sq2 (sq2 (blk (blk (sq2 (bodyOf Tryz.f137))))))))) 0,opN (sq1 (blk (sq1 (sq2 (sq2 (blk (blk (sq2 (bodyOf Tryz.f137))))))))) 1,opN (sq1 (blk (sq1 (sq2 (sq2 (blk (blk (sq2 (bodyOf Tryz.f137))))))))) 2,opN (sq1 (blk (sq1 (sq2 (sq2 (blk (blk (sq2 (bodyOf Tryz.f137))))))))) 3,opN (sq1 (blk (sq1 (sq2 (sq2 (blk (blk (sq2 (bodyOf Tryz.f137))))))))) 4,opN (sq1 (blk (sq1 (sq2 (sq2 (blk (blk (sq2 (bodyOf Tryz.f137))))))))) 5,opN (sq1 (sq2 (blk (sq1 (sq2 (sq2 (blk (blk (sq2 (bodyOf Tryz.f137)))))))))) 0,opN (sq1 (sq2 (blk (sq1 (sq2 (sq2 (blk (blk (sq2 (bodyOf Tryz.f137)))))))))) 1,opN (sq1 (sq2 (blk (sq1 (sq2 (sq2 (blk (blk (sq2 (bodyOf Tryz.f137)))))))))) 2,opN (sq1 (sq2 (blk (sq1 (sq2 (sq2 (blk (blk (sq2 (bodyOf Tryz.f137)))))))))) 3,opN (sq1 (sq2 (blk (sq1 (sq2 (sq2 (blk (blk (sq2 (bodyOf Tryz.f137)))))))))) 4,opN (sq1 (sq2 (blk (sq1 (sq2 (sq2 (blk (blk (sq2 (bodyOf Tryz.f137)))))))))) 5,opN (sq2 (sq2 (sq2 (blk (blk (sq2 (bodyOf Tryz.f137))))))) 0,opN (sq2 (sq2 (sq2 (blk (blk (sq2 (bodyOf Tryz.f137))))))) 1,3,4,3,cdN (opN (sq1 (bodyOf Tryz.f137)) 1),cdN (opN (sq1 (sq2 (blk (sq1 (sq2 (sq2 (blk (blk (sq2 (bodyOf Tryz.f137)))))))))) 3),cdN (opN (sq1 (sq2 (blk (sq1 (sq2 (sq2 (blk (blk (sq2 (bodyOf Tryz.f137)))))))))) 4),(by kernel_rfl),⟨(by kernel_rfl),(by kernel_rfl),(by kernel_rfl)⟩,⟨(by kernel_rfl),(by kernel_rfl),(by kernel_rfl)⟩,⟨(by kernel_rfl),(by kernel_rfl),(by kernel_rfl)⟩,⟨(by kernel_rfl),(by kernel_rfl),(by kernel_rfl)⟩,⟨(by kernel_rfl),(by kernel_rfl),(by kernel_rfl)⟩,⟨(by kernel_rfl),(by kernel_rfl),(by kernel_rfl)⟩,⟨(by kernel_rfl),(by kernel_rfl),(by kernel_rfl)⟩,⟨(by kernel_rfl),(by kernel_rfl),(by kernel_rfl)⟩,⟨(by kernel_rfl),(by kernel_rfl),(by kernel_rfl)⟩,⟨(by kernel_rfl),(by kernel_rfl),(by kernel_rfl)⟩,⟨118,(by kernel_rfl),(by kernel_rfl),(by kernel_rfl),rfl⟩,⟨(by kernel_rfl),(by kernel_rfl),(by kernel_rfl)⟩,⟨(by kernel_rfl),(by kernel_rfl),(by kernel_rfl)⟩,⟨(by kernel_rfl),(by kernel_rfl),(by kernel_rfl)⟩,⟨(by kernel_rfl),(by kernel_rfl),(by kernel_rfl)⟩,⟨(by kernel_rfl),(by kernel_rfl),(by kernel_rfl)⟩,⟨(by kernel_rfl),(by kernel_rfl),(by kernel_rfl)⟩,⟨(by kernel_rfl),(by kernel_rfl)⟩,⟨(by kernel_rfl),(by kernel_rfl)⟩,⟨(by kernel_rfl),(by kernel_rfl),(by kernel_rfl)⟩,⟨(by kernel_rfl),(by kernel_rfl),(by kernel_rfl)⟩⟩
theorem okC0:OkC cx0:=by
 refine ⟨Nat.le_refl _,fun gi cs h => ?_,by kernel_rfl,fun f cs xs h => ?_⟩
 ·cases h
 ·cases h
noncomputable def G0:FuncId→FF:=fun _ _ _ => .stuck
theorem cp136_sound:Sound cx0 136 (semF cx0 (ann136x 4194304) Tryz.f136 G0):=
 sound_fn okC0 (fun j=>sound_stuck j) (f:=136) (fn:=Tryz.f136) (c:=bodyOf Tryz.f136) (by kernel_rfl) (by kernel_rfl) (by decide) (by kernel_rfl) (by kernel_rfl) (by kernel_rfl) (by kernel_rfl) (by kernel_rfl) (by kernel_rfl) (.inl (by kernel_rfl))
theorem cp136_eval (x y:Int) (s:List UInt8) (hs:s.length≤140737488355328):semF cx0 (ann136x 4194304) Tryz.f136 G0 [.A [.I .i64 x, .I .i64 y, .Y s]] [] = .ret (.A [.I .i64 x, .I .i64 y, .Y s]) []:=by
 have hb:cx0.bound=140737488355328:=rfl
 have h1:byT cx0.P 5=1:=by kernel_rfl
 obtain ⟨l,hl⟩:∃l:List UInt8,l=List.take 0 (List.replicate ((s.length:Int)).toNat 0)++s++List.drop (0+s.length) (List.replicate ((s.length:Int)).toNat 0):=⟨_,rfl⟩
 have key:semF cx0 (ann136x 4194304) Tryz.f136 G0 [.A [.I .i64 x, .I .i64 y, .Y s]] [] =
  chk (decide (0≤(s.length:Int)∧(s.length:Int)≤(s.length:Int)∧((s.length:Int)).toNat≤cx0.bound∧((s.length:Int)).toNat*byT cx0.P 5≤cx0.bound))
   (
   chk (decide (0+s.length≤(List.replicate ((s.length:Int)).toNat (0:UInt8)).length))
   (
    chk (decide (0≤((List.take 0 (List.replicate ((s.length:Int)).toNat 0)++s++List.drop (0+s.length) (List.replicate ((s.length:Int)).toNat 0)).length:Int)∧((List.take 0 (List.replicate ((s.length:Int)).toNat 0)++s++List.drop (0+s.length) (List.replicate ((s.length:Int)).toNat 0)).length:Int)≤((List.take 0 (List.replicate ((s.length:Int)).toNat 0)++s++List.drop (0+s.length) (List.replicate ((s.length:Int)).toNat 0)).length:Int)))
    (
    chk (decide (0≤((List.take 0 (List.replicate ((s.length:Int)).toNat 0)++s++List.drop (0+s.length) (List.replicate ((s.length:Int)).toNat 0)).length:Int)∧((List.take 0 (List.replicate ((s.length:Int)).toNat 0)++s++List.drop (0+s.length) (List.replicate ((s.length:Int)).toNat 0)).length:Int)≤((List.take 0 (List.replicate ((s.length:Int)).toNat 0)++s++List.drop (0+s.length) (List.replicate ((s.length:Int)).toNat 0)).length:Int)))
    (.ret (.A [.I .i64 x, .I .i64 y, .Y (((List.take 0 (List.replicate ((s.length:Int)).toNat 0)++s++List.drop (0+s.length) (List.replicate ((s.length:Int)).toNat 0)).take ((List.take 0 (List.replicate ((s.length:Int)).toNat 0)++s++List.drop (0+s.length) (List.replicate ((s.length:Int)).toNat 0)).length:Int).toNat).drop 0)]) [])))):=by kernel_rfl
 rw [key,hb,h1]
 simp [chk,hs]
theorem cp136:CopyC cx.P 136:=by
 intro x hx g w v hn how hwf hv
 unfold pktOK at hx
 split at hx
 case h_2=>cases hx
 rename_i a b s
 have h:=cp136_sound
 unfold Sound at h
 rw [if_pos (show cx0.pure 136=true by kernel_rfl)] at h
 exact h.1 g w [.A [.I .i64 a, .I .i64 b, .Y s]] [v] _ (cp136_eval a b s (of_decide_eq_true hx)) (by simp) rfl hn (by simp only [VT];exact ⟨v,[],rfl,hv,rfl⟩) hwf (fun gi cs hg=>by cases hg) how
theorem led113:LedCode cx.P Tryz.f113 3 180 183 3 9 where
 hts:=by kernel_rfl
 ats:=by kernel_rfl
 uts:=by kernel_rfl
 hte:=by kernel_rfl
 ate:=by kernel_rfl
 zte:=by kernel_rfl
 zero:=by kernel_rfl
 fa:=by kernel_rfl
 fb:=by kernel_rfl
 za:=Nat.ne_of_beq_eq_false (by kernel_rfl)
 zb:=Nat.ne_of_beq_eq_false (by kernel_rfl)
 oa:=by kernel_rfl
 ob:=by kernel_rfl
 ga:=by kernel_rfl
 gb:=by kernel_rfl
 nt:=Nat.le_of_ble_eq_true (by kernel_rfl)
 res:=by kernel_rfl
 np:=by decide
 body:=⟨0,1,2,3,4,0,1,opN (sq1 (bodyOf Tryz.f113)) 0,opN (sq1 (bodyOf Tryz.f113)) 1,opN (sq1 (bodyOf Tryz.f113)) 2,opN (sq1 (blk (blk (sq2 (bodyOf Tryz.f113))))) 0,opN (sq1 (blk (sq1 (sq2 (sq2 (blk (blk (sq2 (bodyOf Tryz.f113))))))))) 0,opN (sq1 (blk (sq1 (sq2 (sq2 (blk (blk (sq2 (bodyOf Tryz.f113))))))))) 1,opN (sq1 (blk (sq1 (sq2 (sq2 (blk (blk (sq2 (bodyOf Tryz.f113))))))))) 2,opN (sq1 (blk (sq1 (sq2 (sq2 (blk (blk (sq2 (bodyOf Tryz.f113))))))))) 3,opN (sq1 (sq2 (blk (sq1 (sq2 (sq2 (blk (blk (sq2 (bodyOf Tryz.f113)))))))))) 0,opN (sq1 (sq2 (blk (sq1 (sq2 (sq2 (blk (blk (sq2 (bodyOf Tryz.f113)))))))))) 1,opN (sq1 (sq2 (blk (sq1 (sq2 (sq2 (blk (blk (sq2 (bodyOf Tryz.f113)))))))))) 2,opN (sq1 (sq2 (blk (sq1 (sq2 (sq2 (blk (blk (sq2 (bodyOf Tryz.f113)))))))))) 3,opN (sq1 (sq2 (blk (sq1 (sq2 (sq2 (blk (blk (sq2 (bodyOf Tryz.f113)))))))))) 4,opN (sq1 (sq2 (blk (sq1 (sq2 (sq2 (blk (blk (sq2 (bodyOf Tryz.f113)))))))))) 5,opN (sq1 (sq2 (blk (sq1 (sq2 (sq2 (blk (blk (sq2 (bodyOf Tryz.f113)))))))))) 6,opN (sq2 (sq2 (sq2 (blk (blk (sq2 (bodyOf Tryz.f113))))))) 0,opN (sq2 (sq2 (sq2 (blk (blk (sq2 (bodyOf Tryz.f113))))))) 1,3,4,3,cdN (opN (sq1 (bodyOf Tryz.f113)) 1),cdN (opN (sq1 (sq2 (blk (sq1 (sq2 (sq2 (blk (blk (sq2 (bodyOf Tryz.f113)))))))))) 5),(by kernel_rfl),⟨(by kernel_rfl),(by kernel_rfl),(by kernel_rfl)⟩,⟨(by kernel_rfl),(by kernel_rfl),(by kernel_rfl)⟩,⟨(by kernel_rfl),(by kernel_rfl),(by kernel_rfl)⟩,⟨(by kernel_rfl),(by kernel_rfl),(by kernel_rfl)⟩,⟨(by kernel_rfl),(by kernel_rfl),(by kernel_rfl)⟩,⟨(by kernel_rfl),(by kernel_rfl),(by kernel_rfl)⟩,⟨(by kernel_rfl),(by kernel_rfl),(by kernel_rfl)⟩,⟨(by kernel_rfl),(by kernel_rfl),(by kernel_rfl)⟩,⟨(by kernel_rfl),(by kernel_rfl),(by kernel_rfl)⟩,⟨(by kernel_rfl),(by kernel_rfl),(by kernel_rfl)⟩,⟨(by kernel_rfl),(by kernel_rfl),(by kernel_rfl)⟩,⟨(by kernel_rfl),(by kernel_rfl),(by kernel_rfl)⟩,⟨(by kernel_rfl),(by kernel_rfl),(by kernel_rfl)⟩,⟨(by kernel_rfl),(by kernel_rfl),(by kernel_rfl)⟩,⟨(by kernel_rfl),(by kernel_rfl),(by kernel_rfl)⟩,⟨(by kernel_rfl),(by kernel_rfl),(by kernel_rfl)⟩,⟨(by kernel_rfl),(by kernel_rfl)⟩,⟨(by kernel_rfl),(by kernel_rfl),(by kernel_rfl)⟩,⟨(by kernel_rfl),(by kernel_rfl),(by kernel_rfl)⟩⟩
theorem okC:OkC cx:=by
 refine ⟨Nat.le_refl _,fun gi cs h => ?_,by kernel_rfl,fun f cs xs h => ?_⟩
 ·have h:globs gi=some cs:=h
  unfold globs at h
  split at h
  all_goals first | (cases h;done) | (injection h with h;subst h;kernel_rfl) | (injection h with h;subst h;decide)
 ·have h:(bif Nat.beq f 233 then eachI 5 cs else bif Nat.beq f 137 then netI cs else bif Nat.beq f 113 then ledI cs else none)=some xs:=h
  cases e:Nat.beq f 233 with
  | false=>
   rw [e] at h
   cases e2:Nat.beq f 137 with
   | false=>
    rw [e2] at h
    cases e3:Nat.beq f 113 with
    | false=>rw [e3] at h;cases h
    | true=>
     rw [e3] at h
     rw [Nat.eq_of_beq_eq_true e3]
     exact ledI_ok (fn:=Tryz.f113) (by kernel_rfl) led113 cs xs h
   | true=>
    rw [e2] at h
    rw [Nat.eq_of_beq_eq_true e2]
    exact netI_ok (fn:=Tryz.f137) (by kernel_rfl) net137 cp136 cs xs h
  | true=>
   rw [e] at h
   rw [Nat.eq_of_beq_eq_true e]
   exact eachI_ok (fn:=Tryz.f233) (by kernel_rfl) each233 (by kernel_rfl) cs xs h
theorem s3 {G:FuncId→FF} (hG:∀j,Sound cx j (G j)):Sound cx 3 (t3 G):=sndFn okC hG (by kernel_rfl)
theorem s4 {G:FuncId→FF} (hG:∀j,Sound cx j (G j)):Sound cx 4 (t4 G):=sndFn okC hG (by kernel_rfl)
theorem s5 {G:FuncId→FF} (hG:∀j,Sound cx j (G j)):Sound cx 5 (t5 G):=sndFn okC hG (by kernel_rfl)
theorem s6 {G:FuncId→FF} (hG:∀j,Sound cx j (G j)):Sound cx 6 (t6 G):=sndFn okC hG (by kernel_rfl)
theorem s7 {G:FuncId→FF} (hG:∀j,Sound cx j (G j)):Sound cx 7 (t7 G):=sndFn okC hG (by kernel_rfl)
theorem s8 {G:FuncId→FF} (hG:∀j,Sound cx j (G j)):Sound cx 8 (t8 G):=sndFn okC hG (by kernel_rfl)
theorem s9 {G:FuncId→FF} (hG:∀j,Sound cx j (G j)):Sound cx 9 (t9 G):=sndFn okC hG (by kernel_rfl)
theorem s10 {G:FuncId→FF} (hG:∀j,Sound cx j (G j)):Sound cx 10 (t10 G):=sndFn okC hG (by kernel_rfl)
theorem s11 {G:FuncId→FF} (hG:∀j,Sound cx j (G j)):Sound cx 11 (t11 G):=sndFn okC hG (by kernel_rfl)
theorem s12 {G:FuncId→FF} (hG:∀j,Sound cx j (G j)):Sound cx 12 (t12 G):=sndFn okC hG (by kernel_rfl)
theorem s13 {G:FuncId→FF} (hG:∀j,Sound cx j (G j)):Sound cx 13 (t13 G):=sndFn okC hG (by kernel_rfl)
theorem s14 {G:FuncId→FF} (hG:∀j,Sound cx j (G j)):Sound cx 14 (t14 G):=sndFn okC hG (by kernel_rfl)
theorem s15 {G:FuncId→FF} (hG:∀j,Sound cx j (G j)):Sound cx 15 (t15 G):=sndFn okC hG (by kernel_rfl)
theorem s16 {G:FuncId→FF} (hG:∀j,Sound cx j (G j)):Sound cx 16 (t16 G):=sndFn okC hG (by kernel_rfl)
theorem s17 {G:FuncId→FF} (hG:∀j,Sound cx j (G j)):Sound cx 17 (t17 G):=sndFn okC hG (by kernel_rfl)
theorem s18 {G:FuncId→FF} (hG:∀j,Sound cx j (G j)):Sound cx 18 (t18 G):=sndFn okC hG (by kernel_rfl)
theorem s19 {G:FuncId→FF} (hG:∀j,Sound cx j (G j)):Sound cx 19 (t19 G):=sndFn okC hG (by kernel_rfl)
theorem s20 {G:FuncId→FF} (hG:∀j,Sound cx j (G j)):Sound cx 20 (t20 G):=sndFn okC hG (by kernel_rfl)
theorem s21 {G:FuncId→FF} (hG:∀j,Sound cx j (G j)):Sound cx 21 (t21 G):=sndFn okC hG (by kernel_rfl)
theorem s22 {G:FuncId→FF} (hG:∀j,Sound cx j (G j)):Sound cx 22 (t22 G):=sndFn okC hG (by kernel_rfl)
theorem s23 {G:FuncId→FF} (hG:∀j,Sound cx j (G j)):Sound cx 23 (t23 G):=sndFn okC hG (by kernel_rfl)
theorem s24 {G:FuncId→FF} (hG:∀j,Sound cx j (G j)):Sound cx 24 (t24 G):=sndFn okC hG (by kernel_rfl)
theorem s25 {G:FuncId→FF} (hG:∀j,Sound cx j (G j)):Sound cx 25 (t25 G):=sndFn okC hG (by kernel_rfl)
theorem s26 {G:FuncId→FF} (hG:∀j,Sound cx j (G j)):Sound cx 26 (t26 G):=sndFn okC hG (by kernel_rfl)
theorem s28 {G:FuncId→FF} (hG:∀j,Sound cx j (G j)):Sound cx 28 (t28 G):=sndFn okC hG (by kernel_rfl)
theorem s31 {G:FuncId→FF} (hG:∀j,Sound cx j (G j)):Sound cx 31 (t31 G):=sndFn okC hG (by kernel_rfl)
theorem s32 {G:FuncId→FF} (hG:∀j,Sound cx j (G j)):Sound cx 32 (t32 G):=sndFn okC hG (by kernel_rfl)
theorem s33 {G:FuncId→FF} (hG:∀j,Sound cx j (G j)):Sound cx 33 (t33 G):=sndFn okC hG (by kernel_rfl)
theorem s34 {G:FuncId→FF} (hG:∀j,Sound cx j (G j)):Sound cx 34 (t34 G):=sndFn okC hG (by kernel_rfl)
theorem s35 {G:FuncId→FF} (hG:∀j,Sound cx j (G j)):Sound cx 35 (t35 G):=sndFn okC hG (by kernel_rfl)
theorem s38 {G:FuncId→FF} (hG:∀j,Sound cx j (G j)):Sound cx 38 (t38 G):=sndFn okC hG (by kernel_rfl)
theorem s39 {G:FuncId→FF} (hG:∀j,Sound cx j (G j)):Sound cx 39 (t39 G):=sndFn okC hG (by kernel_rfl)
theorem s40 {G:FuncId→FF} (hG:∀j,Sound cx j (G j)):Sound cx 40 (t40 G):=sndFn okC hG (by kernel_rfl)
theorem s41 {G:FuncId→FF} (hG:∀j,Sound cx j (G j)):Sound cx 41 (t41 G):=sndFn okC hG (by kernel_rfl)
theorem s42 {G:FuncId→FF} (hG:∀j,Sound cx j (G j)):Sound cx 42 (t42 G):=sndFn okC hG (by kernel_rfl)
theorem s43 {G:FuncId→FF} (hG:∀j,Sound cx j (G j)):Sound cx 43 (t43 G):=sndRf okC hG (by kernel_rfl)
theorem s44 {G:FuncId→FF} (hG:∀j,Sound cx j (G j)):Sound cx 44 (t44 G):=sndFn okC hG (by kernel_rfl)
theorem s45 {G:FuncId→FF} (hG:∀j,Sound cx j (G j)):Sound cx 45 (t45 G):=sndFn okC hG (by kernel_rfl)
theorem s46 {G:FuncId→FF} (hG:∀j,Sound cx j (G j)):Sound cx 46 (t46 G):=sndFn okC hG (by kernel_rfl)
theorem s47 {G:FuncId→FF} (hG:∀j,Sound cx j (G j)):Sound cx 47 (t47 G):=sndFn okC hG (by kernel_rfl)
theorem s48 {G:FuncId→FF} (hG:∀j,Sound cx j (G j)):Sound cx 48 (t48 G):=sndFn okC hG (by kernel_rfl)
theorem s49 {G:FuncId→FF} (hG:∀j,Sound cx j (G j)):Sound cx 49 (t49 G):=sndFn okC hG (by kernel_rfl)
theorem s50 {G:FuncId→FF} (hG:∀j,Sound cx j (G j)):Sound cx 50 (t50 G):=sndFn okC hG (by kernel_rfl)
theorem s51 {G:FuncId→FF} (hG:∀j,Sound cx j (G j)):Sound cx 51 (t51 G):=sndFn okC hG (by kernel_rfl)
theorem s52 {G:FuncId→FF} (hG:∀j,Sound cx j (G j)):Sound cx 52 (t52 G):=sndFn okC hG (by kernel_rfl)
theorem s53 {G:FuncId→FF} (hG:∀j,Sound cx j (G j)):Sound cx 53 (t53 G):=sndFn okC hG (by kernel_rfl)
theorem s54 {G:FuncId→FF} (hG:∀j,Sound cx j (G j)):Sound cx 54 (t54 G):=sndFn okC hG (by kernel_rfl)
theorem s55 {G:FuncId→FF} (hG:∀j,Sound cx j (G j)):Sound cx 55 (t55 G):=sndFn okC hG (by kernel_rfl)
theorem s56 {G:FuncId→FF} (hG:∀j,Sound cx j (G j)):Sound cx 56 (t56 G):=sndFn okC hG (by kernel_rfl)
theorem s57 {G:FuncId→FF} (hG:∀j,Sound cx j (G j)):Sound cx 57 (t57 G):=sndRf okC hG (by kernel_rfl)
theorem s58 {G:FuncId→FF} (hG:∀j,Sound cx j (G j)):Sound cx 58 (t58 G):=sndFn okC hG (by kernel_rfl)
theorem s59 {G:FuncId→FF} (hG:∀j,Sound cx j (G j)):Sound cx 59 (t59 G):=sndFn okC hG (by kernel_rfl)
theorem s60 {G:FuncId→FF} (hG:∀j,Sound cx j (G j)):Sound cx 60 (t60 G):=
 sound_adQ okC hG (f:=60) (fn:=Tryz.f60) (by kernel_rfl) (by kernel_rfl) (by kernel_rfl)
theorem as61:AsC cx.P 294 14 166 169 171 1 61:=by
 refine ⟨⟨Tryz.f61,(by kernel_rfl),(by kernel_rfl),by decide⟩,fun e t old w h1 h2 h3=>(as_hit e t old w h1 h2 h3).mono ?_⟩
 rintro ev w' ⟨rfl,rfl⟩
 exact ⟨rfl,_,_,_,_,rfl⟩
theorem s61 {G:FuncId→FF} (hG:∀j,Sound cx j (G j)):Sound cx 61 (t61 G):=sound_as (eg:=1) (by kernel_rfl) as61 (by kernel_rfl)
theorem is62:IsC cx.P 169 569 62:=⟨⟨Tryz.f62,(by kernel_rfl),(by kernel_rfl),by decide⟩,fun pb po a b ca cb ta tb w h1 h2 h3 h4=>is_wrap_other pb po b a ca cb ta tb w h1 h2 h3 h4⟩
theorem s62 {G:FuncId→FF} (hG:∀j,Sound cx j (G j)):Sound cx 62 (t62 G):=sound_is (by kernel_rfl) is62
theorem s63 {G:FuncId→FF} (hG:∀j,Sound cx j (G j)):Sound cx 63 (t63 G):=sndFn okC hG (by kernel_rfl)
theorem s64 {G:FuncId→FF} (hG:∀j,Sound cx j (G j)):Sound cx 64 (t64 G):=sndFn okC hG (by kernel_rfl)
theorem s65 {G:FuncId→FF} (hG:∀j,Sound cx j (G j)):Sound cx 65 (t65 G):=sndFn okC hG (by kernel_rfl)
theorem s67 {G:FuncId→FF} (hG:∀j,Sound cx j (G j)):Sound cx 67 (t67 G):=sndFn okC hG (by kernel_rfl)
theorem okM68:(mkMap (sq1 (dropS 3 (bodyOf Tryz.f68)))).OK cx.P Tryz.f68.ntmps:=by
 refine ⟨(by kernel_rfl),⟨(by kernel_rfl),(by kernel_rfl),(by kernel_rfl)⟩,⟨(by kernel_rfl),(by kernel_rfl),(by kernel_rfl)⟩,⟨(by kernel_rfl),(by kernel_rfl),(by kernel_rfl)⟩,(by kernel_rfl),⟨(by kernel_rfl),(by kernel_rfl),(by kernel_rfl)⟩,⟨3,248,(by kernel_rfl)⟩,(by kernel_rfl),(by kernel_rfl),(by kernel_rfl),(by kernel_rfl),(by kernel_rfl),⟨Nat.le_of_ble_eq_true (by kernel_rfl),Nat.le_of_ble_eq_true (by kernel_rfl),Nat.le_of_ble_eq_true (by kernel_rfl),Nat.le_of_ble_eq_true (by kernel_rfl)⟩,⟨Nat.ne_of_beq_eq_false (by kernel_rfl),Nat.ne_of_beq_eq_false (by kernel_rfl),Nat.ne_of_beq_eq_false (by kernel_rfl),Nat.ne_of_beq_eq_false (by kernel_rfl)⟩⟩
theorem s68 {G:FuncId→FF} (hG:∀j,Sound cx j (G j)):Sound cx 68 (t68 G):=
 sound_mr okC hG (f:=68) (fn:=Tryz.f68) (by kernel_rfl) (by kernel_rfl) (by decide) okM68 (by kernel_rfl) (by kernel_rfl) (by kernel_rfl) (by kernel_rfl) (by kernel_rfl) (by kernel_rfl) (by kernel_rfl)
theorem s69 {G:FuncId→FF} (hG:∀j,Sound cx j (G j)):Sound cx 69 (t69 G):=sndFn okC hG (by kernel_rfl)
theorem s70 {G:FuncId→FF} (hG:∀j,Sound cx j (G j)):Sound cx 70 (t70 G):=sndFn okC hG (by kernel_rfl)
theorem s71 {G:FuncId→FF} (hG:∀j,Sound cx j (G j)):Sound cx 71 (t71 G):=sndFn okC hG (by kernel_rfl)
theorem s72 {G:FuncId→FF} (hG:∀j,Sound cx j (G j)):Sound cx 72 (t72 G):=sndFn okC hG (by kernel_rfl)
theorem s73 {G:FuncId→FF} (hG:∀j,Sound cx j (G j)):Sound cx 73 (t73 G):=sndFn okC hG (by kernel_rfl)
theorem s74 {G:FuncId→FF} (hG:∀j,Sound cx j (G j)):Sound cx 74 (t74 G):=sndFn okC hG (by kernel_rfl)
theorem s76 {G:FuncId→FF} (hG:∀j,Sound cx j (G j)):Sound cx 76 (t76 G):=sndFn okC hG (by kernel_rfl)
theorem s81 {G:FuncId→FF} (hG:∀j,Sound cx j (G j)):Sound cx 81 (t81 G):=sndFn okC hG (by kernel_rfl)
theorem s82 {G:FuncId→FF} (hG:∀j,Sound cx j (G j)):Sound cx 82 (t82 G):=sndFn okC hG (by kernel_rfl)
theorem s83 {G:FuncId→FF} (hG:∀j,Sound cx j (G j)):Sound cx 83 (t83 G):=sndFn okC hG (by kernel_rfl)
theorem s84 {G:FuncId→FF} (hG:∀j,Sound cx j (G j)):Sound cx 84 (t84 G):=sndFn okC hG (by kernel_rfl)
theorem s86 {G:FuncId→FF} (hG:∀j,Sound cx j (G j)):Sound cx 86 (t86 G):=sndFn okC hG (by kernel_rfl)
theorem s87 {G:FuncId→FF} (hG:∀j,Sound cx j (G j)):Sound cx 87 (t87 G):=sndFn okC hG (by kernel_rfl)
theorem s88 {G:FuncId→FF} (hG:∀j,Sound cx j (G j)):Sound cx 88 (t88 G):=sndFn okC hG (by kernel_rfl)
theorem s89 {G:FuncId→FF} (hG:∀j,Sound cx j (G j)):Sound cx 89 (t89 G):=sndFn okC hG (by kernel_rfl)
theorem s90 {G:FuncId→FF} (hG:∀j,Sound cx j (G j)):Sound cx 90 (t90 G):=sndFn okC hG (by kernel_rfl)
theorem s91 {G:FuncId→FF} (hG:∀j,Sound cx j (G j)):Sound cx 91 (t91 G):=sndFn okC hG (by kernel_rfl)
theorem s98 {G:FuncId→FF} (hG:∀j,Sound cx j (G j)):Sound cx 98 (t98 G):=sndFn okC hG (by kernel_rfl)
theorem s99 {G:FuncId→FF} (hG:∀j,Sound cx j (G j)):Sound cx 99 (t99 G):=sndFn okC hG (by kernel_rfl)
theorem s100 {G:FuncId→FF} (hG:∀j,Sound cx j (G j)):Sound cx 100 (t100 G):=sndFn okC hG (by kernel_rfl)
theorem s101 {G:FuncId→FF} (hG:∀j,Sound cx j (G j)):Sound cx 101 (t101 G):=sndFn okC hG (by kernel_rfl)
theorem s102 {G:FuncId→FF} (hG:∀j,Sound cx j (G j)):Sound cx 102 (t102 G):=sndFn okC hG (by kernel_rfl)
theorem s103 {G:FuncId→FF} (hG:∀j,Sound cx j (G j)):Sound cx 103 (t103 G):=sndFn okC hG (by kernel_rfl)
theorem s104 {G:FuncId→FF} (hG:∀j,Sound cx j (G j)):Sound cx 104 (t104 G):=sndFn okC hG (by kernel_rfl)
theorem s105 {G:FuncId→FF} (hG:∀j,Sound cx j (G j)):Sound cx 105 (t105 G):=sndFn okC hG (by kernel_rfl)
theorem s106 {G:FuncId→FF} (hG:∀j,Sound cx j (G j)):Sound cx 106 (t106 G):=sndFn okC hG (by kernel_rfl)
theorem s107 {G:FuncId→FF} (hG:∀j,Sound cx j (G j)):Sound cx 107 (t107 G):=sndFn okC hG (by kernel_rfl)
theorem s108 {G:FuncId→FF} (hG:∀j,Sound cx j (G j)):Sound cx 108 (t108 G):=sndFn okC hG (by kernel_rfl)
theorem s111 {G:FuncId→FF} (hG:∀j,Sound cx j (G j)):Sound cx 111 (t111 G):=sndFn okC hG (by kernel_rfl)
theorem s114 {G:FuncId→FF} (hG:∀j,Sound cx j (G j)):Sound cx 114 (t114 G):=sndFn okC hG (by kernel_rfl)
theorem s115 {G:FuncId→FF} (hG:∀j,Sound cx j (G j)):Sound cx 115 (t115 G):=sndFn okC hG (by kernel_rfl)
theorem s116 {G:FuncId→FF} (hG:∀j,Sound cx j (G j)):Sound cx 116 (t116 G):=sndFn okC hG (by kernel_rfl)
theorem s117 {G:FuncId→FF} (hG:∀j,Sound cx j (G j)):Sound cx 117 (t117 G):=sndFn okC hG (by kernel_rfl)
theorem s118 {G:FuncId→FF} (hG:∀j,Sound cx j (G j)):Sound cx 118 (t118 G):=sndFn okC hG (by kernel_rfl)
theorem s119 {G:FuncId→FF} (hG:∀j,Sound cx j (G j)):Sound cx 119 (t119 G):=sndFn okC hG (by kernel_rfl)
theorem s120 {G:FuncId→FF} (hG:∀j,Sound cx j (G j)):Sound cx 120 (t120 G):=sndFn okC hG (by kernel_rfl)
theorem s123 {G:FuncId→FF} (hG:∀j,Sound cx j (G j)):Sound cx 123 (t123 G):=sndFn okC hG (by kernel_rfl)
theorem s127 {G:FuncId→FF} (hG:∀j,Sound cx j (G j)):Sound cx 127 (t127 G):=sndFn okC hG (by kernel_rfl)
theorem s128 {G:FuncId→FF} (hG:∀j,Sound cx j (G j)):Sound cx 128 (t128 G):=sndFn okC hG (by kernel_rfl)
theorem s129 {G:FuncId→FF} (hG:∀j,Sound cx j (G j)):Sound cx 129 (t129 G):=sndFn okC hG (by kernel_rfl)
theorem s130 {G:FuncId→FF} (hG:∀j,Sound cx j (G j)):Sound cx 130 (t130 G):=by
 show Sound _ _ (fastDc _ _ _ _ _ _ _ _ _ _ _ _)
 rw [fastDc_eq]
 exact sound_deferC (f:=130) (fn:=Tryz.f130) (od:=opN (sq1 (sq2 (bodyOf Tryz.f130))) 1) (cd:=cdN (opN (sq1 (sq2 (bodyOf Tryz.f130))) 1)) okC hG (soundD_fnQ okC hG (f:=179) (fn:=Tryz.f179) (c:=bodyOf Tryz.f179) (by kernel_rfl) (by kernel_rfl) (by decide) (by kernel_rfl) (by kernel_rfl) (by kernel_rfl) (by kernel_rfl) (by kernel_rfl)) (by kernel_rfl) (by kernel_rfl) (by decide) (by kernel_rfl) (by kernel_rfl) (by kernel_rfl) (by kernel_rfl) (by kernel_rfl) (by kernel_rfl) (by kernel_rfl) (by kernel_rfl) (by kernel_rfl) (by kernel_rfl) (by kernel_rfl) (by kernel_rfl) (by kernel_rfl)
theorem s131 {G:FuncId→FF} (hG:∀j,Sound cx j (G j)):Sound cx 131 (t131 G):=sndRf okC hG (by kernel_rfl)
theorem s132 {G:FuncId→FF} (hG:∀j,Sound cx j (G j)):Sound cx 132 (t132 G):=sndFn okC hG (by kernel_rfl)
theorem s133 {G:FuncId→FF} (hG:∀j,Sound cx j (G j)):Sound cx 133 (t133 G):=sndFn okC hG (by kernel_rfl)
theorem s134 {G:FuncId→FF} (hG:∀j,Sound cx j (G j)):Sound cx 134 (t134 G):=sndFn okC hG (by kernel_rfl)
theorem s136 {G:FuncId→FF} (hG:∀j,Sound cx j (G j)):Sound cx 136 (t136 G):=sndFn okC hG (by kernel_rfl)
theorem s138 {G:FuncId→FF} (hG:∀j,Sound cx j (G j)):Sound cx 138 (t138 G):=sndFn okC hG (by kernel_rfl)
theorem s139 {G:FuncId→FF} (hG:∀j,Sound cx j (G j)):Sound cx 139 (t139 G):=sndFn okC hG (by kernel_rfl)
theorem s140 {G:FuncId→FF} (hG:∀j,Sound cx j (G j)):Sound cx 140 (t140 G):=sndFn okC hG (by kernel_rfl)
theorem s141 {G:FuncId→FF} (hG:∀j,Sound cx j (G j)):Sound cx 141 (t141 G):=sndFn okC hG (by kernel_rfl)
theorem s142 {G:FuncId→FF} (hG:∀j,Sound cx j (G j)):Sound cx 142 (t142 G):=sndFn okC hG (by kernel_rfl)
theorem s143 {G:FuncId→FF} (hG:∀j,Sound cx j (G j)):Sound cx 143 (t143 G):=sndFn okC hG (by kernel_rfl)
theorem s144 {G:FuncId→FF} (hG:∀j,Sound cx j (G j)):Sound cx 144 (t144 G):=sndFn okC hG (by kernel_rfl)
theorem s145 {G:FuncId→FF} (hG:∀j,Sound cx j (G j)):Sound cx 145 (t145 G):=sndFn okC hG (by kernel_rfl)
theorem s146 {G:FuncId→FF} (hG:∀j,Sound cx j (G j)):Sound cx 146 (t146 G):=sndFn okC hG (by kernel_rfl)
theorem s147 {G:FuncId→FF} (hG:∀j,Sound cx j (G j)):Sound cx 147 (t147 G):=sndFn okC hG (by kernel_rfl)
theorem s148 {G:FuncId→FF} (hG:∀j,Sound cx j (G j)):Sound cx 148 (t148 G):=sndFn okC hG (by kernel_rfl)
theorem s149 {G:FuncId→FF} (hG:∀j,Sound cx j (G j)):Sound cx 149 (t149 G):=sndFn okC hG (by kernel_rfl)
theorem s150 {G:FuncId→FF} (hG:∀j,Sound cx j (G j)):Sound cx 150 (t150 G):=sndFn okC hG (by kernel_rfl)
theorem s151 {G:FuncId→FF} (hG:∀j,Sound cx j (G j)):Sound cx 151 (t151 G):=sndFn okC hG (by kernel_rfl)
theorem s155 {G:FuncId→FF} (hG:∀j,Sound cx j (G j)):Sound cx 155 (t155 G):=sndFn okC hG (by kernel_rfl)
theorem s156 {G:FuncId→FF} (hG:∀j,Sound cx j (G j)):Sound cx 156 (t156 G):=sndFn okC hG (by kernel_rfl)
theorem s157 {G:FuncId→FF} (hG:∀j,Sound cx j (G j)):Sound cx 157 (t157 G):=sndFn okC hG (by kernel_rfl)
theorem s158 {G:FuncId→FF} (hG:∀j,Sound cx j (G j)):Sound cx 158 (t158 G):=sndFn okC hG (by kernel_rfl)
theorem s159 {G:FuncId→FF} (hG:∀j,Sound cx j (G j)):Sound cx 159 (t159 G):=sndFn okC hG (by kernel_rfl)
theorem s160 {G:FuncId→FF} (hG:∀j,Sound cx j (G j)):Sound cx 160 (t160 G):=sndFn okC hG (by kernel_rfl)
theorem s161 {G:FuncId→FF} (hG:∀j,Sound cx j (G j)):Sound cx 161 (t161 G):=sndFn okC hG (by kernel_rfl)
theorem s162 {G:FuncId→FF} (hG:∀j,Sound cx j (G j)):Sound cx 162 (t162 G):=sndRf okC hG (by kernel_rfl)
theorem s163 {G:FuncId→FF} (hG:∀j,Sound cx j (G j)):Sound cx 163 (t163 G):=sndFn okC hG (by kernel_rfl)
theorem s164 {G:FuncId→FF} (hG:∀j,Sound cx j (G j)):Sound cx 164 (t164 G):=sndFn okC hG (by kernel_rfl)
theorem s165 {G:FuncId→FF} (hG:∀j,Sound cx j (G j)):Sound cx 165 (t165 G):=sndFn okC hG (by kernel_rfl)
theorem s166 {G:FuncId→FF} (hG:∀j,Sound cx j (G j)):Sound cx 166 (t166 G):=sndFn okC hG (by kernel_rfl)
theorem s167 {G:FuncId→FF} (hG:∀j,Sound cx j (G j)):Sound cx 167 (t167 G):=sndFn okC hG (by kernel_rfl)
theorem s168 {G:FuncId→FF} (hG:∀j,Sound cx j (G j)):Sound cx 168 (t168 G):=sndFn okC hG (by kernel_rfl)
theorem s169 {G:FuncId→FF} (hG:∀j,Sound cx j (G j)):Sound cx 169 (t169 G):=sound_del (by kernel_rfl) del169
theorem s170 {G:FuncId→FF} (hG:∀j,Sound cx j (G j)):Sound cx 170 (t170 G):=sndFn okC hG (by kernel_rfl)
theorem idle177:Idle cx.P 177:=
 idle_caught (fn:=Tryz.f177) (r0:=0) (blk:=0) (r3:=3) (r4:=4) (o0:=opN (sq1 (bodyOf Tryz.f177)) 0) (o3:=opN (sq1 (blk (sq2 (bodyOf Tryz.f177)))) 0) (o4:=opN (cn1 (sq2 (blk (sq2 (bodyOf Tryz.f177))))) 0) (c0:=cdN (opN (sq1 (bodyOf Tryz.f177)) 0)) (Y:=cn2 (sq2 (blk (sq2 (bodyOf Tryz.f177)))))
  (t5:=5) (t7:=7) (t2:=2) (ty:=20) (tt:=20) (ms := #[]) (by kernel_rfl) (by kernel_rfl) (by kernel_rfl) (by kernel_rfl) (by kernel_rfl) (by kernel_rfl) (by kernel_rfl) (by kernel_rfl) (by kernel_rfl) (by kernel_rfl) (by kernel_rfl) (by kernel_rfl) (by kernel_rfl) (by kernel_rfl) (by decide) (by decide) (by decide)
theorem s171 {G:FuncId→FF} (hG:∀j,Sound cx j (G j)):Sound cx 171 (t171 G):=
 sound_dlQ okC hG (f:=171) (fn:=Tryz.f171) (cd:=cdN (opN (sq1 (sq2 (sq2 (bodyOf Tryz.f171)))) 0)) (by kernel_rfl) (by kernel_rfl) (by kernel_rfl) (by kernel_rfl) ⟨Tryz.f177,(by kernel_rfl),(by kernel_rfl),by decide⟩ idle177
theorem s172 {G:FuncId→FF} (hG:∀j,Sound cx j (G j)):Sound cx 172 (t172 G):=sndFn okC hG (by kernel_rfl)
theorem s173 {G:FuncId→FF} (hG:∀j,Sound cx j (G j)):Sound cx 173 (t173 G):=sndFn okC hG (by kernel_rfl)
theorem s174 {G:FuncId→FF} (hG:∀j,Sound cx j (G j)):Sound cx 174 (t174 G):=
 sound_dlQ okC hG (f:=174) (fn:=Tryz.f174) (cd:=cdN (opN (sq1 (sq2 (sq2 (bodyOf Tryz.f174)))) 0)) (by kernel_rfl) (by kernel_rfl) (by kernel_rfl) (by kernel_rfl) ⟨Tryz.f177,(by kernel_rfl),(by kernel_rfl),by decide⟩ idle177
theorem s175 {G:FuncId→FF} (hG:∀j,Sound cx j (G j)):Sound cx 175 (t175 G):=sndFn okC hG (by kernel_rfl)
theorem s176 {G:FuncId→FF} (hG:∀j,Sound cx j (G j)):Sound cx 176 (t176 G):=
 sound_dlQ okC hG (f:=176) (fn:=Tryz.f176) (cd:=cdN (opN (sq1 (bodyOf Tryz.f176)) 0)) (by kernel_rfl) (by kernel_rfl) (by kernel_rfl) (by kernel_rfl) ⟨Tryz.f177,(by kernel_rfl),(by kernel_rfl),by decide⟩ idle177
theorem s178 {G:FuncId→FF} (hG:∀j,Sound cx j (G j)):Sound cx 178 (t178 G):=sndFn okC hG (by kernel_rfl)
theorem s180 {G:FuncId→FF} (hG:∀j,Sound cx j (G j)):Sound cx 180 (t180 G):=sndFn okC hG (by kernel_rfl)
theorem s181 {G:FuncId→FF} (hG:∀j,Sound cx j (G j)):Sound cx 181 (t181 G):=sndFn okC hG (by kernel_rfl)
theorem s182 {G:FuncId→FF} (hG:∀j,Sound cx j (G j)):Sound cx 182 (t182 G):=sndFn okC hG (by kernel_rfl)
theorem s183 {G:FuncId→FF} (hG:∀j,Sound cx j (G j)):Sound cx 183 (t183 G):=sndFn okC hG (by kernel_rfl)
theorem s184 {G:FuncId→FF} (hG:∀j,Sound cx j (G j)):Sound cx 184 (t184 G):=sndFn okC hG (by kernel_rfl)
theorem s185 {G:FuncId→FF} (hG:∀j,Sound cx j (G j)):Sound cx 185 (t185 G):=sndFn okC hG (by kernel_rfl)
theorem s186 {G:FuncId→FF} (hG:∀j,Sound cx j (G j)):Sound cx 186 (t186 G):=sndFn okC hG (by kernel_rfl)
theorem x187:∀p∈([(187,stuckS)]:List (Nat×FF)),SoundF cx p.1 p.2:=by
 intro p hp
 simp only [List.mem_cons,List.not_mem_nil,or_false] at hp
 subst hp
 exact sound_stuckS
theorem s187 {G:FuncId→FF} (hG:∀j,Sound cx j (G j)):Sound cx 187 (t187 G):=
 imp_thaw (l:=([(187,stuckS)]:List (Nat×FF)).map (·.1)) (by kernel_rfl) (sndFn (okC.imp _) (impX_sound hG [(187,stuckS)] x187) (by kernel_rfl)) (by kernel_rfl) (by kernel_rfl) (by kernel_rfl)
theorem s188 {G:FuncId→FF} (hG:∀j,Sound cx j (G j)):Sound cx 188 (t188 G):=sndFn okC hG (by kernel_rfl)
theorem s190 {G:FuncId→FF} (hG:∀j,Sound cx j (G j)):Sound cx 190 (t190 G):=sndFn okC hG (by kernel_rfl)
theorem s191 {G:FuncId→FF} (hG:∀j,Sound cx j (G j)):Sound cx 191 (t191 G):=sndFn okC hG (by kernel_rfl)
theorem s192 {G:FuncId→FF} (hG:∀j,Sound cx j (G j)):Sound cx 192 (t192 G):=sndFn okC hG (by kernel_rfl)
theorem s193 {G:FuncId→FF} (hG:∀j,Sound cx j (G j)):Sound cx 193 (t193 G):=sndFn okC hG (by kernel_rfl)
theorem s194 {G:FuncId→FF} (hG:∀j,Sound cx j (G j)):Sound cx 194 (t194 G):=sndFn okC hG (by kernel_rfl)
theorem s195 {G:FuncId→FF} (hG:∀j,Sound cx j (G j)):Sound cx 195 (t195 G):=sndFn okC hG (by kernel_rfl)
theorem s196 {G:FuncId→FF} (hG:∀j,Sound cx j (G j)):Sound cx 196 (t196 G):=sndFn okC hG (by kernel_rfl)
theorem s197 {G:FuncId→FF} (hG:∀j,Sound cx j (G j)):Sound cx 197 (t197 G):=sndFn okC hG (by kernel_rfl)
theorem s198 {G:FuncId→FF} (hG:∀j,Sound cx j (G j)):Sound cx 198 (t198 G):=sndFn okC hG (by kernel_rfl)
theorem s199 {G:FuncId→FF} (hG:∀j,Sound cx j (G j)):Sound cx 199 (t199 G):=sndFn okC hG (by kernel_rfl)
theorem s200 {G:FuncId→FF} (hG:∀j,Sound cx j (G j)):Sound cx 200 (t200 G):=sndFn okC hG (by kernel_rfl)
theorem s201 {G:FuncId→FF} (hG:∀j,Sound cx j (G j)):Sound cx 201 (t201 G):=sndFn okC hG (by kernel_rfl)
theorem s203 {G:FuncId→FF} (hG:∀j,Sound cx j (G j)):Sound cx 203 (t203 G):=sndFn okC hG (by kernel_rfl)
theorem s204 {G:FuncId→FF} (hG:∀j,Sound cx j (G j)):Sound cx 204 (t204 G):=sndFn okC hG (by kernel_rfl)
theorem s205 {G:FuncId→FF} (hG:∀j,Sound cx j (G j)):Sound cx 205 (t205 G):=sndFn okC hG (by kernel_rfl)
theorem s214 {G:FuncId→FF} (hG:∀j,Sound cx j (G j)):Sound cx 214 (t214 G):=sndFn okC hG (by kernel_rfl)
theorem s215 {G:FuncId→FF} (hG:∀j,Sound cx j (G j)):Sound cx 215 (t215 G):=sndFn okC hG (by kernel_rfl)
theorem s216 {G:FuncId→FF} (hG:∀j,Sound cx j (G j)):Sound cx 216 (t216 G):=sndFn okC hG (by kernel_rfl)
theorem s217 {G:FuncId→FF} (hG:∀j,Sound cx j (G j)):Sound cx 217 (t217 G):=sndFn okC hG (by kernel_rfl)
theorem nw115:NwC cx.P 85 115:=⟨⟨Tryz.f115,(by kernel_rfl),(by kernel_rfl),by decide⟩,nw_walk⟩
theorem x218:∀p∈([(115,semNw 85),(218,stuckS)]:List (Nat×FF)),SoundF cx p.1 p.2:=by
 intro p hp
 simp only [List.mem_cons,List.not_mem_nil,or_false] at hp
 rcases hp with rfl | rfl
 ·exact sound_nw nw115
 ·exact sound_stuckS
theorem s218 {G:FuncId→FF} (hG:∀j,Sound cx j (G j)):Sound cx 218 (t218 G):=
 imp_thaw (l:=([(115,semNw 85),(218,stuckS)]:List (Nat×FF)).map (·.1)) (by kernel_rfl) (sndFn (okC.imp _) (impX_sound hG [(115,semNw 85),(218,stuckS)] x218) (by kernel_rfl)) (by kernel_rfl) (by kernel_rfl) (by kernel_rfl)
theorem s219 {G:FuncId→FF} (hG:∀j,Sound cx j (G j)):Sound cx 219 (t219 G):=sndFn okC hG (by kernel_rfl)
theorem s220 {G:FuncId→FF} (hG:∀j,Sound cx j (G j)):Sound cx 220 (t220 G):=sndFn okC hG (by kernel_rfl)
theorem s221 {G:FuncId→FF} (hG:∀j,Sound cx j (G j)):Sound cx 221 (t221 G):=sndFn okC hG (by kernel_rfl)
theorem s222 {G:FuncId→FF} (hG:∀j,Sound cx j (G j)):Sound cx 222 (t222 G):=sndFn okC hG (by kernel_rfl)
theorem s223 {G:FuncId→FF} (hG:∀j,Sound cx j (G j)):Sound cx 223 (t223 G):=sndFn okC hG (by kernel_rfl)
theorem s224 {G:FuncId→FF} (hG:∀j,Sound cx j (G j)):Sound cx 224 (t224 G):=sndFn okC hG (by kernel_rfl)
theorem s225 {G:FuncId→FF} (hG:∀j,Sound cx j (G j)):Sound cx 225 (t225 G):=sndFn okC hG (by kernel_rfl)
theorem s226 {G:FuncId→FF} (hG:∀j,Sound cx j (G j)):Sound cx 226 (t226 G):=sndFn okC hG (by kernel_rfl)
theorem s227 {G:FuncId→FF} (hG:∀j,Sound cx j (G j)):Sound cx 227 (t227 G):=sndFn okC hG (by kernel_rfl)
theorem s228 {G:FuncId→FF} (hG:∀j,Sound cx j (G j)):Sound cx 228 (t228 G):=sndFn okC hG (by kernel_rfl)
theorem s229 {G:FuncId→FF} (hG:∀j,Sound cx j (G j)):Sound cx 229 (t229 G):=sndFn okC hG (by kernel_rfl)
theorem s230 {G:FuncId→FF} (hG:∀j,Sound cx j (G j)):Sound cx 230 (t230 G):=sndFn okC hG (by kernel_rfl)
theorem s231 {G:FuncId→FF} (hG:∀j,Sound cx j (G j)):Sound cx 231 (t231 G):=sndFn okC hG (by kernel_rfl)
theorem s232 {G:FuncId→FF} (hG:∀j,Sound cx j (G j)):Sound cx 232 (t232 G):=sndFn okC hG (by kernel_rfl)
theorem s239 {G:FuncId→FF} (hG:∀j,Sound cx j (G j)):Sound cx 239 (t239 G):=sndFn okC hG (by kernel_rfl)
theorem s240 {G:FuncId→FF} (hG:∀j,Sound cx j (G j)):Sound cx 240 (t240 G):=sndFn okC hG (by kernel_rfl)
theorem s241 {G:FuncId→FF} (hG:∀j,Sound cx j (G j)):Sound cx 241 (t241 G):=sndFn okC hG (by kernel_rfl)
theorem s242 {G:FuncId→FF} (hG:∀j,Sound cx j (G j)):Sound cx 242 (t242 G):=sndFn okC hG (by kernel_rfl)
theorem s243 {G:FuncId→FF} (hG:∀j,Sound cx j (G j)):Sound cx 243 (t243 G):=sndFn okC hG (by kernel_rfl)
theorem s245 {G:FuncId→FF} (hG:∀j,Sound cx j (G j)):Sound cx 245 (t245 G):=sndFn okC hG (by kernel_rfl)
theorem s246 {G:FuncId→FF} (hG:∀j,Sound cx j (G j)):Sound cx 246 (t246 G):=sndFn okC hG (by kernel_rfl)
theorem s248 {G:FuncId→FF} (hG:∀j,Sound cx j (G j)):Sound cx 248 (t248 G):=sndFn okC hG (by kernel_rfl)
theorem s249 {G:FuncId→FF} (hG:∀j,Sound cx j (G j)):Sound cx 249 (t249 G):=sndFn okC hG (by kernel_rfl)
theorem s250 {G:FuncId→FF} (hG:∀j,Sound cx j (G j)):Sound cx 250 (t250 G):=sndFn okC hG (by kernel_rfl)
theorem s251 {G:FuncId→FF} (hG:∀j,Sound cx j (G j)):Sound cx 251 (t251 G):=sndFn okC hG (by kernel_rfl)
theorem s252 {G:FuncId→FF} (hG:∀j,Sound cx j (G j)):Sound cx 252 (t252 G):=sndFn okC hG (by kernel_rfl)
theorem s253 {G:FuncId→FF} (hG:∀j,Sound cx j (G j)):Sound cx 253 (t253 G):=sndFn okC hG (by kernel_rfl)
theorem s254 {G:FuncId→FF} (hG:∀j,Sound cx j (G j)):Sound cx 254 (t254 G):=sndFn okC hG (by kernel_rfl)
theorem s255 {G:FuncId→FF} (hG:∀j,Sound cx j (G j)):Sound cx 255 (t255 G):=sndFn okC hG (by kernel_rfl)
theorem s256 {G:FuncId→FF} (hG:∀j,Sound cx j (G j)):Sound cx 256 (t256 G):=sndFn okC hG (by kernel_rfl)
theorem s260 {G:FuncId→FF} (hG:∀j,Sound cx j (G j)):Sound cx 260 (t260 G):=sndFn okC hG (by kernel_rfl)
theorem s261 {G:FuncId→FF} (hG:∀j,Sound cx j (G j)):Sound cx 261 (t261 G):=sndFn okC hG (by kernel_rfl)
theorem s262 {G:FuncId→FF} (hG:∀j,Sound cx j (G j)):Sound cx 262 (t262 G):=sndFn okC hG (by kernel_rfl)
theorem s263 {G:FuncId→FF} (hG:∀j,Sound cx j (G j)):Sound cx 263 (t263 G):=sndFn okC hG (by kernel_rfl)
theorem s264 {G:FuncId→FF} (hG:∀j,Sound cx j (G j)):Sound cx 264 (t264 G):=sndFn okC hG (by kernel_rfl)
theorem s265 {G:FuncId→FF} (hG:∀j,Sound cx j (G j)):Sound cx 265 (t265 G):=sndFn okC hG (by kernel_rfl)
theorem s266 {G:FuncId→FF} (hG:∀j,Sound cx j (G j)):Sound cx 266 (t266 G):=sndFn okC hG (by kernel_rfl)
theorem s267 {G:FuncId→FF} (hG:∀j,Sound cx j (G j)):Sound cx 267 (t267 G):=sndFn okC hG (by kernel_rfl)
theorem s268 {G:FuncId→FF} (hG:∀j,Sound cx j (G j)):Sound cx 268 (t268 G):=sndFn okC hG (by kernel_rfl)
theorem s269 {G:FuncId→FF} (hG:∀j,Sound cx j (G j)):Sound cx 269 (t269 G):=sndFn okC hG (by kernel_rfl)
theorem idle283:Idle cx.P 283:=
 idle_neq (fn:=Tryz.f283) (r0:=0) (r1:=1) (o0:=opN (sq1 (bodyOf Tryz.f283)) 0) (o1:=opN (sq1 (bodyOf Tryz.f283)) 1) (o2:=opN (sq1 (sq2 (bodyOf Tryz.f283))) 0) (o3:=opN (sq1 (sq2 (bodyOf Tryz.f283))) 1) (c0:=cdN (opN (sq1 (bodyOf Tryz.f283)) 0)) (X:=cn1 (sq2 (sq2 (bodyOf Tryz.f283))))
  (t6:=6) (t3:=3) (t7:=7) (t8:=8) (ty:=20) (tt:=20) (ms := #[]) (by kernel_rfl) (by kernel_rfl) (by kernel_rfl) (by kernel_rfl) (by kernel_rfl) (by kernel_rfl) (by kernel_rfl) (by kernel_rfl) (by kernel_rfl) (by kernel_rfl) (by kernel_rfl) (by kernel_rfl) (by kernel_rfl) (by kernel_rfl) (by kernel_rfl) (by kernel_rfl) (by kernel_rfl) (by decide) (by decide) (by decide) (by decide)
theorem s270 {G:FuncId→FF} (hG:∀j,Sound cx j (G j)):Sound cx 270 (t270 G):=
 sound_dlQ okC hG (f:=270) (fn:=Tryz.f270) (cd:=cdN (opN (sq1 (sq2 (bodyOf Tryz.f270))) 1)) (by kernel_rfl) (by kernel_rfl) (by kernel_rfl) (by kernel_rfl) ⟨Tryz.f283,(by kernel_rfl),(by kernel_rfl),by decide⟩ idle283
theorem s271 {G:FuncId→FF} (hG:∀j,Sound cx j (G j)):Sound cx 271 (t271 G):=sndFn okC hG (by kernel_rfl)
theorem s272 {G:FuncId→FF} (hG:∀j,Sound cx j (G j)):Sound cx 272 (t272 G):=sndFn okC hG (by kernel_rfl)
theorem s273 {G:FuncId→FF} (hG:∀j,Sound cx j (G j)):Sound cx 273 (t273 G):=sndFn okC hG (by kernel_rfl)
theorem s274 {G:FuncId→FF} (hG:∀j,Sound cx j (G j)):Sound cx 274 (t274 G):=sndFn okC hG (by kernel_rfl)
theorem s275 {G:FuncId→FF} (hG:∀j,Sound cx j (G j)):Sound cx 275 (t275 G):=sndFn okC hG (by kernel_rfl)
theorem s276 {G:FuncId→FF} (hG:∀j,Sound cx j (G j)):Sound cx 276 (t276 G):=sndFn okC hG (by kernel_rfl)
theorem s277 {G:FuncId→FF} (hG:∀j,Sound cx j (G j)):Sound cx 277 (t277 G):=sndFn okC hG (by kernel_rfl)
theorem s278 {G:FuncId→FF} (hG:∀j,Sound cx j (G j)):Sound cx 278 (t278 G):=sndFn okC hG (by kernel_rfl)
theorem s279 {G:FuncId→FF} (hG:∀j,Sound cx j (G j)):Sound cx 279 (t279 G):=sndFn okC hG (by kernel_rfl)
theorem s280 {G:FuncId→FF} (hG:∀j,Sound cx j (G j)):Sound cx 280 (t280 G):=sndFn okC hG (by kernel_rfl)
theorem s282 {G:FuncId→FF} (hG:∀j,Sound cx j (G j)):Sound cx 282 (t282 G):=sndFn okC hG (by kernel_rfl)
theorem s284 {G:FuncId→FF} (hG:∀j,Sound cx j (G j)):Sound cx 284 (t284 G):=sndFn okC hG (by kernel_rfl)
theorem s285 {G:FuncId→FF} (hG:∀j,Sound cx j (G j)):Sound cx 285 (t285 G):=sndFn okC hG (by kernel_rfl)
theorem s286 {G:FuncId→FF} (hG:∀j,Sound cx j (G j)):Sound cx 286 (t286 G):=sndFn okC hG (by kernel_rfl)
theorem s289 {G:FuncId→FF} (hG:∀j,Sound cx j (G j)):Sound cx 289 (t289 G):=sndFn okC hG (by kernel_rfl)
theorem s290 {G:FuncId→FF} (hG:∀j,Sound cx j (G j)):Sound cx 290 (t290 G):=sndFn okC hG (by kernel_rfl)
theorem s291 {G:FuncId→FF} (hG:∀j,Sound cx j (G j)):Sound cx 291 (t291 G):=sndFn okC hG (by kernel_rfl)
theorem s292 {G:FuncId→FF} (hG:∀j,Sound cx j (G j)):Sound cx 292 (t292 G):=sndFn okC hG (by kernel_rfl)
theorem s293 {G:FuncId→FF} (hG:∀j,Sound cx j (G j)):Sound cx 293 (t293 G):=sndFn okC hG (by kernel_rfl)
theorem s294 {G:FuncId→FF} (hG:∀j,Sound cx j (G j)):Sound cx 294 (t294 G):=sndFn okC hG (by kernel_rfl)
theorem s295 {G:FuncId→FF} (hG:∀j,Sound cx j (G j)):Sound cx 295 (t295 G):=sndFn okC hG (by kernel_rfl)
theorem s296 {G:FuncId→FF} (hG:∀j,Sound cx j (G j)):Sound cx 296 (t296 G):=sndFn okC hG (by kernel_rfl)
theorem s297 {G:FuncId→FF} (hG:∀j,Sound cx j (G j)):Sound cx 297 (t297 G):=sndFn okC hG (by kernel_rfl)
theorem s298 {G:FuncId→FF} (hG:∀j,Sound cx j (G j)):Sound cx 298 (t298 G):=sndRf okC hG (by kernel_rfl)
theorem s299 {G:FuncId→FF} (hG:∀j,Sound cx j (G j)):Sound cx 299 (t299 G):=sndFn okC hG (by kernel_rfl)
theorem s300 {G:FuncId→FF} (hG:∀j,Sound cx j (G j)):Sound cx 300 (t300 G):=sndFn okC hG (by kernel_rfl)
theorem s301 {G:FuncId→FF} (hG:∀j,Sound cx j (G j)):Sound cx 301 (t301 G):=sndFn okC hG (by kernel_rfl)
theorem s303 {G:FuncId→FF} (hG:∀j,Sound cx j (G j)):Sound cx 303 (t303 G):=sndFn okC hG (by kernel_rfl)
theorem s304 {G:FuncId→FF} (hG:∀j,Sound cx j (G j)):Sound cx 304 (t304 G):=sndFn okC hG (by kernel_rfl)
theorem s307 {G:FuncId→FF} (hG:∀j,Sound cx j (G j)):Sound cx 307 (t307 G):=sndFn okC hG (by kernel_rfl)
theorem s308 {G:FuncId→FF} (hG:∀j,Sound cx j (G j)):Sound cx 308 (t308 G):=sndFn okC hG (by kernel_rfl)
theorem s309 {G:FuncId→FF} (hG:∀j,Sound cx j (G j)):Sound cx 309 (t309 G):=sndFn okC hG (by kernel_rfl)
theorem s310 {G:FuncId→FF} (hG:∀j,Sound cx j (G j)):Sound cx 310 (t310 G):=sndFn okC hG (by kernel_rfl)
theorem s311 {G:FuncId→FF} (hG:∀j,Sound cx j (G j)):Sound cx 311 (t311 G):=sndFn okC hG (by kernel_rfl)
theorem s312 {G:FuncId→FF} (hG:∀j,Sound cx j (G j)):Sound cx 312 (t312 G):=sndFn okC hG (by kernel_rfl)
theorem s313 {G:FuncId→FF} (hG:∀j,Sound cx j (G j)):Sound cx 313 (t313 G):=sndFn okC hG (by kernel_rfl)
theorem s314 {G:FuncId→FF} (hG:∀j,Sound cx j (G j)):Sound cx 314 (t314 G):=sndFn okC hG (by kernel_rfl)
theorem s315 {G:FuncId→FF} (hG:∀j,Sound cx j (G j)):Sound cx 315 (t315 G):=sndFn okC hG (by kernel_rfl)
theorem s316 {G:FuncId→FF} (hG:∀j,Sound cx j (G j)):Sound cx 316 (t316 G):=sndFn okC hG (by kernel_rfl)
theorem s317 {G:FuncId→FF} (hG:∀j,Sound cx j (G j)):Sound cx 317 (t317 G):=sndFn okC hG (by kernel_rfl)
theorem s318 {G:FuncId→FF} (hG:∀j,Sound cx j (G j)):Sound cx 318 (t318 G):=sndFn okC hG (by kernel_rfl)
theorem s319 {G:FuncId→FF} (hG:∀j,Sound cx j (G j)):Sound cx 319 (t319 G):=sndFn okC hG (by kernel_rfl)
theorem s320 {G:FuncId→FF} (hG:∀j,Sound cx j (G j)):Sound cx 320 (t320 G):=sndFn okC hG (by kernel_rfl)
theorem s321 {G:FuncId→FF} (hG:∀j,Sound cx j (G j)):Sound cx 321 (t321 G):=sndFn okC hG (by kernel_rfl)
theorem s322 {G:FuncId→FF} (hG:∀j,Sound cx j (G j)):Sound cx 322 (t322 G):=sndFn okC hG (by kernel_rfl)
theorem s324 {G:FuncId→FF} (hG:∀j,Sound cx j (G j)):Sound cx 324 (t324 G):=sndFn okC hG (by kernel_rfl)
theorem s325 {G:FuncId→FF} (hG:∀j,Sound cx j (G j)):Sound cx 325 (t325 G):=sndFn okC hG (by kernel_rfl)
theorem s326 {G:FuncId→FF} (hG:∀j,Sound cx j (G j)):Sound cx 326 (t326 G):=sndFn okC hG (by kernel_rfl)
theorem s327 {G:FuncId→FF} (hG:∀j,Sound cx j (G j)):Sound cx 327 (t327 G):=sndFn okC hG (by kernel_rfl)
theorem s329 {G:FuncId→FF} (hG:∀j,Sound cx j (G j)):Sound cx 329 (t329 G):=sndFn okC hG (by kernel_rfl)
theorem s330 {G:FuncId→FF} (hG:∀j,Sound cx j (G j)):Sound cx 330 (t330 G):=sndFn okC hG (by kernel_rfl)
theorem s331 {G:FuncId→FF} (hG:∀j,Sound cx j (G j)):Sound cx 331 (t331 G):=sndFn okC hG (by kernel_rfl)
theorem s332 {G:FuncId→FF} (hG:∀j,Sound cx j (G j)):Sound cx 332 (t332 G):=sndFn okC hG (by kernel_rfl)
theorem s333 {G:FuncId→FF} (hG:∀j,Sound cx j (G j)):Sound cx 333 (t333 G):=sndFn okC hG (by kernel_rfl)
theorem s334 {G:FuncId→FF} (hG:∀j,Sound cx j (G j)):Sound cx 334 (t334 G):=sndFn okC hG (by kernel_rfl)
theorem s335 {G:FuncId→FF} (hG:∀j,Sound cx j (G j)):Sound cx 335 (t335 G):=sndFn okC hG (by kernel_rfl)
theorem okM336:(mkMap (sq1 (dropS 7 (bodyOf Tryz.f336)))).OK cx.P Tryz.f336.ntmps:=by
 refine ⟨(by kernel_rfl),⟨(by kernel_rfl),(by kernel_rfl),(by kernel_rfl)⟩,⟨(by kernel_rfl),(by kernel_rfl),(by kernel_rfl)⟩,⟨(by kernel_rfl),(by kernel_rfl),(by kernel_rfl)⟩,(by kernel_rfl),⟨(by kernel_rfl),(by kernel_rfl),(by kernel_rfl)⟩,⟨3,359,(by kernel_rfl)⟩,(by kernel_rfl),(by kernel_rfl),(by kernel_rfl),(by kernel_rfl),(by kernel_rfl),⟨Nat.le_of_ble_eq_true (by kernel_rfl),Nat.le_of_ble_eq_true (by kernel_rfl),Nat.le_of_ble_eq_true (by kernel_rfl),Nat.le_of_ble_eq_true (by kernel_rfl)⟩,⟨Nat.ne_of_beq_eq_false (by kernel_rfl),Nat.ne_of_beq_eq_false (by kernel_rfl),Nat.ne_of_beq_eq_false (by kernel_rfl),Nat.ne_of_beq_eq_false (by kernel_rfl)⟩⟩
theorem s336 {G:FuncId→FF} (hG:∀j,Sound cx j (G j)):Sound cx 336 (t336 G):=
 sound_mr okC hG (f:=336) (fn:=Tryz.f336) (by kernel_rfl) (by kernel_rfl) (by decide) okM336 (by kernel_rfl) (by kernel_rfl) (by kernel_rfl) (by kernel_rfl) (by kernel_rfl) (by kernel_rfl) (by kernel_rfl)
theorem s337 {G:FuncId→FF} (hG:∀j,Sound cx j (G j)):Sound cx 337 (t337 G):=sndFn okC hG (by kernel_rfl)
theorem s339 {G:FuncId→FF} (hG:∀j,Sound cx j (G j)):Sound cx 339 (t339 G):=sndFn okC hG (by kernel_rfl)
theorem s340 {G:FuncId→FF} (hG:∀j,Sound cx j (G j)):Sound cx 340 (t340 G):=sndFn okC hG (by kernel_rfl)
theorem s341 {G:FuncId→FF} (hG:∀j,Sound cx j (G j)):Sound cx 341 (t341 G):=sndFn okC hG (by kernel_rfl)
theorem s342 {G:FuncId→FF} (hG:∀j,Sound cx j (G j)):Sound cx 342 (t342 G):=sndFn okC hG (by kernel_rfl)
theorem s343 {G:FuncId→FF} (hG:∀j,Sound cx j (G j)):Sound cx 343 (t343 G):=sndFn okC hG (by kernel_rfl)
theorem s344 {G:FuncId→FF} (hG:∀j,Sound cx j (G j)):Sound cx 344 (t344 G):=sndFn okC hG (by kernel_rfl)
theorem s345 {G:FuncId→FF} (hG:∀j,Sound cx j (G j)):Sound cx 345 (t345 G):=sndFn okC hG (by kernel_rfl)
theorem s346 {G:FuncId→FF} (hG:∀j,Sound cx j (G j)):Sound cx 346 (t346 G):=sndFn okC hG (by kernel_rfl)
theorem s348 {G:FuncId→FF} (hG:∀j,Sound cx j (G j)):Sound cx 348 (t348 G):=sndFn okC hG (by kernel_rfl)
theorem s349 {G:FuncId→FF} (hG:∀j,Sound cx j (G j)):Sound cx 349 (t349 G):=sndFn okC hG (by kernel_rfl)
theorem s350 {G:FuncId→FF} (hG:∀j,Sound cx j (G j)):Sound cx 350 (t350 G):=sndFn okC hG (by kernel_rfl)
theorem s351 {G:FuncId→FF} (hG:∀j,Sound cx j (G j)):Sound cx 351 (t351 G):=sndFn okC hG (by kernel_rfl)
theorem s352 {G:FuncId→FF} (hG:∀j,Sound cx j (G j)):Sound cx 352 (t352 G):=sndFn okC hG (by kernel_rfl)
theorem s402 {G:FuncId→FF} (hG:∀j,Sound cx j (G j)):Sound cx 402 (t402 G):=sndFn okC hG (by kernel_rfl)
theorem s403 {G:FuncId→FF} (hG:∀j,Sound cx j (G j)):Sound cx 403 (t403 G):=sndFn okC hG (by kernel_rfl)
theorem s404 {G:FuncId→FF} (hG:∀j,Sound cx j (G j)):Sound cx 404 (t404 G):=sndFn okC hG (by kernel_rfl)
theorem s405 {G:FuncId→FF} (hG:∀j,Sound cx j (G j)):Sound cx 405 (t405 G):=sndFn okC hG (by kernel_rfl)
theorem s408 {G:FuncId→FF} (hG:∀j,Sound cx j (G j)):Sound cx 408 (t408 G):=sndFn okC hG (by kernel_rfl)
theorem s415 {G:FuncId→FF} (hG:∀j,Sound cx j (G j)):Sound cx 415 (t415 G):=sndFn okC hG (by kernel_rfl)
theorem s416 {G:FuncId→FF} (hG:∀j,Sound cx j (G j)):Sound cx 416 (t416 G):=sndFn okC hG (by kernel_rfl)
theorem tab_sound {G:FuncId→FF} (hG:∀j,Sound cx j (G j)):∀k,Sound cx k (lkF k tab G):=
 sound_cons (s3 hG) (
 sound_cons (s4 hG) (
 sound_cons (s5 hG) (
 sound_cons (s6 hG) (
 sound_cons (s7 hG) (
 sound_cons (s8 hG) (
 sound_cons (s9 hG) (
 sound_cons (s10 hG) (
 sound_cons (s11 hG) (
 sound_cons (s12 hG) (
 sound_cons (s13 hG) (
 sound_cons (s14 hG) (
 sound_cons (s15 hG) (
 sound_cons (s16 hG) (
 sound_cons (s17 hG) (
 sound_cons (s18 hG) (
 sound_cons (s19 hG) (
 sound_cons (s20 hG) (
 sound_cons (s21 hG) (
 sound_cons (s22 hG) (
 sound_cons (s23 hG) (
 sound_cons (s24 hG) (
 sound_cons (s25 hG) (
 sound_cons (s26 hG) (
 sound_cons (s28 hG) (
 sound_cons (s31 hG) (
 sound_cons (s32 hG) (
 sound_cons (s33 hG) (
 sound_cons (s34 hG) (
 sound_cons (s35 hG) (
 sound_cons (s38 hG) (
 sound_cons (s39 hG) (
 sound_cons (s40 hG) (
 sound_cons (s41 hG) (
 sound_cons (s42 hG) (
 sound_cons (s43 hG) (
 sound_cons (s44 hG) (
 sound_cons (s45 hG) (
 sound_cons (s46 hG) (
 sound_cons (s47 hG) (
 sound_cons (s48 hG) (
 sound_cons (s49 hG) (
 sound_cons (s50 hG) (
 sound_cons (s51 hG) (
 sound_cons (s52 hG) (
 sound_cons (s53 hG) (
 sound_cons (s54 hG) (
 sound_cons (s55 hG) (
 sound_cons (s56 hG) (
 sound_cons (s57 hG) (
 sound_cons (s58 hG) (
 sound_cons (s59 hG) (
 sound_cons (s60 hG) (
 sound_cons (s61 hG) (
 sound_cons (s62 hG) (
 sound_cons (s63 hG) (
 sound_cons (s64 hG) (
 sound_cons (s65 hG) (
 sound_cons (s67 hG) (
 sound_cons (s68 hG) (
 sound_cons (s69 hG) (
 sound_cons (s70 hG) (
 sound_cons (s71 hG) (
 sound_cons (s72 hG) (
 sound_cons (s73 hG) (
 sound_cons (s74 hG) (
 sound_cons (s76 hG) (
 sound_cons (s81 hG) (
 sound_cons (s82 hG) (
 sound_cons (s83 hG) (
 sound_cons (s84 hG) (
 sound_cons (s86 hG) (
 sound_cons (s87 hG) (
 sound_cons (s88 hG) (
 sound_cons (s89 hG) (
 sound_cons (s90 hG) (
 sound_cons (s91 hG) (
 sound_cons (s98 hG) (
 sound_cons (s99 hG) (
 sound_cons (s100 hG) (
 sound_cons (s101 hG) (
 sound_cons (s102 hG) (
 sound_cons (s103 hG) (
 sound_cons (s104 hG) (
 sound_cons (s105 hG) (
 sound_cons (s106 hG) (
 sound_cons (s107 hG) (
 sound_cons (s108 hG) (
 sound_cons (s111 hG) (
 sound_cons (s114 hG) (
 sound_cons (s115 hG) (
 sound_cons (s116 hG) (
 sound_cons (s117 hG) (
 sound_cons (s118 hG) (
 sound_cons (s119 hG) (
 sound_cons (s120 hG) (
 sound_cons (s123 hG) (
 sound_cons (s127 hG) (
 sound_cons (s128 hG) (
 sound_cons (s129 hG) (
 sound_cons (s130 hG) (
 sound_cons (s131 hG) (
 sound_cons (s132 hG) (
 sound_cons (s133 hG) (
 sound_cons (s134 hG) (
 sound_cons (s136 hG) (
 sound_cons (s138 hG) (
 sound_cons (s139 hG) (
 sound_cons (s140 hG) (
 sound_cons (s141 hG) (
 sound_cons (s142 hG) (
 sound_cons (s143 hG) (
 sound_cons (s144 hG) (
 sound_cons (s145 hG) (
 sound_cons (s146 hG) (
 sound_cons (s147 hG) (
 sound_cons (s148 hG) (
 sound_cons (s149 hG) (
 sound_cons (s150 hG) (
 sound_cons (s151 hG) (
 sound_cons (s155 hG) (
 sound_cons (s156 hG) (
 sound_cons (s157 hG) (
 sound_cons (s158 hG) (
 sound_cons (s159 hG) (
 sound_cons (s160 hG) (
 sound_cons (s161 hG) (
 sound_cons (s162 hG) (
 sound_cons (s163 hG) (
 sound_cons (s164 hG) (
 sound_cons (s165 hG) (
 sound_cons (s166 hG) (
 sound_cons (s167 hG) (
 sound_cons (s168 hG) (
 sound_cons (s169 hG) (
 sound_cons (s170 hG) (
 sound_cons (s171 hG) (
 sound_cons (s172 hG) (
 sound_cons (s173 hG) (
 sound_cons (s174 hG) (
 sound_cons (s175 hG) (
 sound_cons (s176 hG) (
 sound_cons (s178 hG) (
 sound_cons (s180 hG) (
 sound_cons (s181 hG) (
 sound_cons (s182 hG) (
 sound_cons (s183 hG) (
 sound_cons (s184 hG) (
 sound_cons (s185 hG) (
 sound_cons (s186 hG) (
 sound_cons (s187 hG) (
 sound_cons (s188 hG) (
 sound_cons (s190 hG) (
 sound_cons (s191 hG) (
 sound_cons (s192 hG) (
 sound_cons (s193 hG) (
 sound_cons (s194 hG) (
 sound_cons (s195 hG) (
 sound_cons (s196 hG) (
 sound_cons (s197 hG) (
 sound_cons (s198 hG) (
 sound_cons (s199 hG) (
 sound_cons (s200 hG) (
 sound_cons (s201 hG) (
 sound_cons (s203 hG) (
 sound_cons (s204 hG) (
 sound_cons (s205 hG) (
 sound_cons (s214 hG) (
 sound_cons (s215 hG) (
 sound_cons (s216 hG) (
 sound_cons (s217 hG) (
 sound_cons (s218 hG) (
 sound_cons (s219 hG) (
 sound_cons (s220 hG) (
 sound_cons (s221 hG) (
 sound_cons (s222 hG) (
 sound_cons (s223 hG) (
 sound_cons (s224 hG) (
 sound_cons (s225 hG) (
 sound_cons (s226 hG) (
 sound_cons (s227 hG) (
 sound_cons (s228 hG) (
 sound_cons (s229 hG) (
 sound_cons (s230 hG) (
 sound_cons (s231 hG) (
 sound_cons (s232 hG) (
 sound_cons (s239 hG) (
 sound_cons (s240 hG) (
 sound_cons (s241 hG) (
 sound_cons (s242 hG) (
 sound_cons (s243 hG) (
 sound_cons (s245 hG) (
 sound_cons (s246 hG) (
 sound_cons (s248 hG) (
 sound_cons (s249 hG) (
 sound_cons (s250 hG) (
 sound_cons (s251 hG) (
 sound_cons (s252 hG) (
 sound_cons (s253 hG) (
 sound_cons (s254 hG) (
 sound_cons (s255 hG) (
 sound_cons (s256 hG) (
 sound_cons (s260 hG) (
 sound_cons (s261 hG) (
 sound_cons (s262 hG) (
 sound_cons (s263 hG) (
 sound_cons (s264 hG) (
 sound_cons (s265 hG) (
 sound_cons (s266 hG) (
 sound_cons (s267 hG) (
 sound_cons (s268 hG) (
 sound_cons (s269 hG) (
 sound_cons (s270 hG) (
 sound_cons (s271 hG) (
 sound_cons (s272 hG) (
 sound_cons (s273 hG) (
 sound_cons (s274 hG) (
 sound_cons (s275 hG) (
 sound_cons (s276 hG) (
 sound_cons (s277 hG) (
 sound_cons (s278 hG) (
 sound_cons (s279 hG) (
 sound_cons (s280 hG) (
 sound_cons (s282 hG) (
 sound_cons (s284 hG) (
 sound_cons (s285 hG) (
 sound_cons (s286 hG) (
 sound_cons (s289 hG) (
 sound_cons (s290 hG) (
 sound_cons (s291 hG) (
 sound_cons (s292 hG) (
 sound_cons (s293 hG) (
 sound_cons (s294 hG) (
 sound_cons (s295 hG) (
 sound_cons (s296 hG) (
 sound_cons (s297 hG) (
 sound_cons (s298 hG) (
 sound_cons (s299 hG) (
 sound_cons (s300 hG) (
 sound_cons (s301 hG) (
 sound_cons (s303 hG) (
 sound_cons (s304 hG) (
 sound_cons (s307 hG) (
 sound_cons (s308 hG) (
 sound_cons (s309 hG) (
 sound_cons (s310 hG) (
 sound_cons (s311 hG) (
 sound_cons (s312 hG) (
 sound_cons (s313 hG) (
 sound_cons (s314 hG) (
 sound_cons (s315 hG) (
 sound_cons (s316 hG) (
 sound_cons (s317 hG) (
 sound_cons (s318 hG) (
 sound_cons (s319 hG) (
 sound_cons (s320 hG) (
 sound_cons (s321 hG) (
 sound_cons (s322 hG) (
 sound_cons (s324 hG) (
 sound_cons (s325 hG) (
 sound_cons (s326 hG) (
 sound_cons (s327 hG) (
 sound_cons (s329 hG) (
 sound_cons (s330 hG) (
 sound_cons (s331 hG) (
 sound_cons (s332 hG) (
 sound_cons (s333 hG) (
 sound_cons (s334 hG) (
 sound_cons (s335 hG) (
 sound_cons (s336 hG) (
 sound_cons (s337 hG) (
 sound_cons (s339 hG) (
 sound_cons (s340 hG) (
 sound_cons (s341 hG) (
 sound_cons (s342 hG) (
 sound_cons (s343 hG) (
 sound_cons (s344 hG) (
 sound_cons (s345 hG) (
 sound_cons (s346 hG) (
 sound_cons (s348 hG) (
 sound_cons (s349 hG) (
 sound_cons (s350 hG) (
 sound_cons (s351 hG) (
 sound_cons (s352 hG) (
 sound_cons (s402 hG) (
 sound_cons (s403 hG) (
 sound_cons (s404 hG) (
 sound_cons (s405 hG) (
 sound_cons (s408 hG) (
 sound_cons (s415 hG) (
 sound_cons (s416 hG) (
 sound_nil)))))))))))))))))))))))))))))))))))))))))))))))))))))))))))))))))))))))))))))))))))))))))))))))))))))))))))))))))))))))))))))))))))))))))))))))))))))))))))))))))))))))))))))))))))))))))))))))))))))))))))))))))))))))))))))))))))))))))))))))))))))))))))))))))))))))))))))))))))))))))))))))))))
end Go.Vm
