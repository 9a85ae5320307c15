/- Part of a proof: Vm7, Vm8, Vm9, Vm10, Vm11, Vm12, Vm13, Vm14, Vm15, Vm16, Vm17, Vm18, Vm19, Vm20, Vm21. -/
import Derived.Test.YtmcocdbkonefjaaGreatDoorVA
import Derived.ChangeKeysEq
import Derived.Laws.BytesString
import Derived.Laws.CopyRow
set_option linter.unusedSimpArgs false
set_option linter.unusedVariables false
set_option linter.unusedSectionVars false
namespace Go.Vm
open Go
section
variable {C:Cx} {N:Ann} {nt:NT} {g0 g:Gh} {w0 w:World} {f:Fr} {s:St} {a:Act} {o:Oper}
variable {R:Res} {G:FuncId→List AV→List HO→Res}
theorem tmod_within {k:IntKind} {m n:Int} (hm:k.min≤m∧m≤k.max) (hn:n≠0):k.min≤m.tmod n∧m.tmod n≤k.max:=by
 have h0:k.min≤0∧0≤k.max:=by cases k<;>decide
 rcases Int.le_total 0 m with h | h
 ·have h1:0≤m.tmod n:=Int.tmod_nonneg n h
  have h2:m.tmod n≤m:=by
   obtain ⟨a,rfl⟩:=Int.eq_ofNat_of_zero_le h
   rcases Int.le_total 0 n with hn' | hn'
   ·obtain ⟨b,rfl⟩:=Int.eq_ofNat_of_zero_le hn'
    rw [←Int.ofNat_tmod]
    exact Int.ofNat_le.2 (Nat.mod_le a b)
   ·obtain ⟨b,hb⟩:=Int.eq_ofNat_of_zero_le (Int.neg_nonneg_of_nonpos hn')
    have:n = -(b:Int):=by omega
    rw [this,Int.tmod_neg,←Int.ofNat_tmod]
    exact Int.ofNat_le.2 (Nat.mod_le a b)
  omega
 ·obtain ⟨a,ha⟩:=Int.eq_ofNat_of_zero_le (Int.neg_nonneg_of_nonpos h)
  have hm':m = -(a:Int):=by omega
  have key:∀b:Int,0≤b→m.tmod b≤0∧m≤m.tmod b:=by
   intro b hb
   obtain ⟨b,rfl⟩:=Int.eq_ofNat_of_zero_le hb
   rw [hm',Int.neg_tmod,←Int.ofNat_tmod]
   have:=Int.ofNat_le.2 (Nat.mod_le a b)
   omega
  rcases Int.le_total 0 n with hn' | hn'
  ·have:=key n hn';omega
  ·have:=key (-n) (by omega)
   rw [Int.tmod_neg] at this
   omega
theorem fdiv_within {k:IntKind} {m:Int} (hm:k.min≤m∧m≤k.max) (j:Nat):k.min≤m.fdiv (2 ^ j)∧m.fdiv (2 ^ j)≤k.max:=by
 have h0:k.min≤0∧0≤k.max:=by cases k<;>decide
 have hp:(0:Int)<2 ^ j:=Int.pow_pos (by decide)
 have h1:(1:Int)≤2 ^ j:=hp
 rw [Int.fdiv_eq_ediv_of_nonneg _ (by omega)]
 rcases Int.le_total 0 m with h | h
 ·have a1:0≤m / 2 ^ j:=Int.ediv_nonneg h (by omega)
  have a2:m / 2 ^ j≤m:=Int.ediv_le_self _ h
  omega
 ·have a1:m / 2 ^ j≤0:=by
   have:=Int.ediv_le_ediv hp h
   simpa using this
  have a2:m≤m / 2 ^ j:=by
   rw [Int.le_ediv_iff_mul_le hp]
   calc m*2 ^ j≤m*1:=Int.mul_le_mul_of_nonpos_left h h1
    _=m:=by omega
  omega
theorem guard_int {op:BinOp} {t:TypeId} {x y:Operand} {k k':IntKind} {m n:Int} : (eqGuard op t x y (.int k m) (.int k' n)).run C.P w = .ok () w:=by
 unfold eqGuard
 cases op<;>rfl
theorem guard_str {op:BinOp} {t:TypeId} {x y:Operand} {k k':ByteArray} : (eqGuard op t x y (.string k) (.string k')).run C.P w = .ok () w:=by
 unfold eqGuard
 cases op<;>rfl
theorem guard_bool {op:BinOp} {t:TypeId} {x y:Operand} {k k':Bool} : (eqGuard op t x y (.bool k) (.bool k')).run C.P w = .ok () w:=by
 unfold eqGuard
 cases op<;>rfl
theorem guard_ptr {op:BinOp} {t:TypeId} {x y:Operand} {k k':Option Addr} : (eqGuard op t x y (.pointer k) (.pointer k')).run C.P w = .ok () w:=by
 unfold eqGuard
 cases op<;>rfl
theorem binI_run {op:BinOp} {k:IntKind} {m n:Int} {K:AV→Res} (t:TypeId) (hm:k.min≤m∧m≤k.max) (hn:k.min≤n∧n≤k.max)
  (h:binI (stdAlg C.pure G) op k m n K=R) (hR:R ≠ .stuck):∃c z,K c=R∧(binOp op t (.int k m) (.int k n)).run C.P w = .ok z w∧V g w c z:=by
 unfold binI at h
 split at h
 ·exact ⟨_,_,h,by simp [binOp,Op.intArith],V_I g w (wrap_within _ _)⟩
 ·exact ⟨_,_,h,by simp [binOp,Op.intArith],V_I g w (wrap_within _ _)⟩
 ·exact ⟨_,_,h,by simp [binOp,Op.intArith],V_I g w (wrap_within _ _)⟩
 ·obtain ⟨h0,h⟩:=chk_inv h hR
  have hz:n≠0:=by simpa using h0
  exact ⟨_,_,h,by simp [binOp,Op.intDiv,hz],V_I g w (wrap_within _ _)⟩
 ·obtain ⟨h0,h⟩:=chk_inv h hR
  have hz:n≠0:=by simpa using h0
  exact ⟨_,_,h,by simp [binOp,Op.intDiv,hz],V_I g w (tmod_within hm hz)⟩
 ·exact ⟨_,_,h,by simp [binOp,Op.intBits],V_I g w (wrap_within _ _)⟩
 ·exact ⟨_,_,h,by simp [binOp,Op.intBits],V_I g w (wrap_within _ _)⟩
 ·exact ⟨_,_,h,by simp [binOp,Op.intBits],V_I g w (wrap_within _ _)⟩
 ·exact ⟨_,_,h,by simp [binOp,Op.intBits],V_I g w (wrap_within _ _)⟩
 ·exact ⟨_,_,h,by simp [binOp,Op.intCmp],V_B g w _⟩
 ·exact ⟨_,_,h,by simp [binOp,Op.intCmp,bne],V_B g w _⟩
 ·exact ⟨_,_,h,by simp [binOp,Op.intCmp],V_B g w _⟩
 ·exact ⟨_,_,h,by simp [binOp,Op.intCmp],V_B g w _⟩
 ·exact ⟨_,_,h,by simp [binOp,Op.intCmp],V_B g w _⟩
 ·exact ⟨_,_,h,by simp [binOp,Op.intCmp],V_B g w _⟩
 ·exact absurd h.symm hR
theorem binS_run {op:BinOp} {m n:List UInt8} {K:AV→Res} (t:TypeId) (hb:C.bound≤140737488355328)
  (h:binS (stdAlg C.pure G) C op m n K=R) (hR:R ≠ .stuck):∃c z,K c=R∧(binOp op t (.string ⟨m.toArray⟩) (.string ⟨n.toArray⟩)).run C.P w = .ok z w∧V g w c z:=by
 unfold binS at h
 split at h
 ·obtain ⟨h0,h⟩:=chk_inv h hR
  have hl:m.length+n.length≤C.bound:=by simpa using h0
  refine ⟨_, .string ⟨(m++n).toArray⟩,h,?_,V_S g w (by simp;omega)⟩
  have e1:IntKind.i64.max=9223372036854775807:=by decide
  have e2:(⟨m.toArray⟩:ByteArray)++⟨n.toArray⟩=⟨(m++n).toArray⟩:=by
   apply ByteArray.ext
   simp [ByteArray.data_append]
  have e3:¬((((⟨m.toArray⟩:ByteArray).size+(⟨n.toArray⟩:ByteArray).size:Nat):Int)>IntKind.i64.max):=by
   rw [e1]
   simp only [ByteArray.size,List.size_toArray]
   omega
  simp only [binOp,Op.stringOp,e3,if_false,e2,Sem.run_pure]
 all_goals first
  | exact ⟨_,_,h,by simp [binOp,Op.stringOp,ByteArray.toList_eq],V_B g w _⟩
  | exact absurd h.symm hR
end
end Go.Vm
namespace Go.Vm
open Go
theorem eqCells_nil {as bs:List AV} {r:Bool} (h:eqCells [] as bs=some r):as=[]∧bs=[]∧r=true:=by
 cases as<;>cases bs<;>simp_all [eqCells]
theorem eqCells_app:∀(k1 k2:List FK) (as bs:List AV) (r:Bool),eqCells (k1++k2) as bs=some r →
  ∃r1 r2,eqCells k1 (as.take k1.length) (bs.take k1.length)=some r1∧eqCells k2 (as.drop k1.length) (bs.drop k1.length)=some r2∧r=(r1&&r2)
 | [],k2,as,bs,r,h=>⟨true,r,by simp [eqCells],by simpa using h,by simp⟩
 | x::k1,k2,as,bs,r,h=>by
  cases as with
  | nil=>cases x<;>simp [eqCells] at h
  | cons a as=>
   cases bs with
   | nil=>cases x<;>cases a<;>simp [eqCells] at h
   | cons b bs=>
    have key:∀p:Bool,((eqCells (k1++k2) as bs).map fun r=>p&&r)=some r →
      ∃r1 r2,((eqCells k1 (as.take k1.length) (bs.take k1.length)).map fun r=>p&&r)=some r1∧eqCells k2 (as.drop k1.length) (bs.drop k1.length)=some r2∧r=(r1&&r2):=by
     intro p hp
     obtain ⟨r0,h0,rfl⟩:=Option.map_eq_some_iff.1 hp
     obtain ⟨r1,r2,h1,h2,rfl⟩:=eqCells_app k1 k2 as bs r0 h0
     exact ⟨p&&r1,r2,by rw [h1];rfl,h2,by rw [Bool.and_assoc]⟩
    simp only [List.length_cons,List.take_succ_cons,List.drop_succ_cons]
    cases x<;>cases a<;>(try (simp [eqCells] at h;done))<;>cases b<;>(try (simp [eqCells] at h;done))
    ·simp only [List.cons_append,eqCells] at h ⊢
     split at h
     ·rename_i e
      rw [if_pos e]
      exact key _ h
     ·cases h
    ·simp only [List.cons_append,eqCells] at h ⊢
     exact key _ h
    ·simp only [List.cons_append,eqCells] at h ⊢
     exact key _ h
section
variable {P:Program} {g:Gh}
theorem eqCells_len:∀(ks:List FK) (as bs:List AV) (r:Bool),eqCells ks as bs=some r→as.length=ks.length∧bs.length=ks.length
 | [],as,bs,r,h=>by
  obtain ⟨rfl,rfl,_⟩:=eqCells_nil h
  exact ⟨rfl,rfl⟩
 | x::k1,as,bs,r,h=>by
  cases as with
  | nil=>cases x<;>simp [eqCells] at h
  | cons a as=>
   cases bs with
   | nil=>cases x<;>cases a<;>simp [eqCells] at h
   | cons b bs=>
    have key:∀p:Bool,((eqCells k1 as bs).map fun r=>p&&r)=some r→as.length=k1.length∧bs.length=k1.length:=by
     intro p hp
     obtain ⟨r0,h0,rfl⟩:=Option.map_eq_some_iff.1 hp
     exact eqCells_len k1 as bs r0 h0
    simp only [List.length_cons,Nat.add_right_cancel_iff]
    cases x<;>cases a<;>(try (simp [eqCells] at h;done))<;>cases b<;>(try (simp [eqCells] at h;done))
    ·simp only [eqCells] at h
     split at h
     ·exact key _ h
     ·cases h
    ·exact key _ h
    ·exact key _ h
def EqOK (P:Program) (g:Gh) (d:Nat) (t:TypeId) (ks:List FK):Prop:=
 okT P t=true∧ks.length=szT P t∧(aggT P t=false→szT P t=1)∧(∀D,d≤D→P.eqGuardType D t=false) ∧
 ∀(w:World) as bs us vs r,VS g w as us→VS g w bs vs→eqCells ks as bs=some r→∀D,d≤D →
  (aggT P t=true→(Op.equalIn D t (.agg us.toArray) (.agg vs.toArray)).run P w = .ok r w) ∧
  (aggT P t=false→∀u v,us=[u]→vs=[v]→(Op.equalIn D t u v).run P w = .ok r w)
theorem EqOK.part {d:Nat} {t:TypeId} {ks:List FK} (h:EqOK P g d t ks) {w:World} {as bs:List AV} {us vs:List Value} {r:Bool} {off:Nat}
  (ha:VS g w as us) (hb:VS g w bs vs) (he:eqCells ks ((as.drop off).take ks.length) ((bs.drop off).take ks.length)=some r) {D:Nat} (hD:d≤D) :
  ∃a b,(part t us.toArray off).run P w = .ok a w∧(part t vs.toArray off).run P w = .ok b w∧(Op.equalIn D t a b).run P w = .ok r w:=by
 obtain ⟨hok,hl,h1c,_,hall⟩:=h
 have h1:=VS_take ks.length _ _ (VS_drop off as us ha)
 have h2:=VS_take ks.length _ _ (VS_drop off bs vs hb)
 have h3:=hall w _ _ _ _ r h1 h2 he D hD
 cases hag:aggT P t with
 | true=>
  refine ⟨_,_,run_part_agg hok hag w us off,run_part_agg hok hag w vs off,?_⟩
  rw [←hl]
  exact h3.1 hag
 | false=>
  obtain ⟨e1,e2⟩:=eqCells_len _ _ _ _ he
  have l1:=VS.length _ _ h1
  have l2:=VS.length _ _ h2
  have hk:ks.length=1:=hl.trans (h1c hag)
  rw [hk] at e1 e2 l1 l2 h3
  obtain ⟨u,hu⟩:=List.length_eq_one_iff.1 (l1.trans e1)
  obtain ⟨v,hv⟩:=List.length_eq_one_iff.1 (l2.trans e2)
  have hu':us[off]? = some u:=by
   have:=congrArg (·[0]?) hu
   simpa using this
  have hv':vs[off]? = some v:=by
   have:=congrArg (·[0]?) hv
   simpa using this
  exact ⟨u,v,run_part_one hok hag w us off hu',run_part_one hok hag w vs off hv',h3.2 hag u v hu hv⟩
theorem fields_ok {d:Nat} (IH:∀t ks,flatK P d t=some ks→EqOK P g d t ks) (n:Nat) :
  ∀(fl:List Field) (off:Nat) (ks:List FK),tiles P off fl n=true→fl.all (fun f=>f.name != "_")=true →
   fl.foldr (fun f acc=>match flatK P d f.type,acc with
     | some x,some y=>some (x++y)
     | _,_=>none) (some [])=some ks →
   off+ks.length=n∧(∀D,d≤D→fl.all (fun f=>f.name != "_" && !P.eqGuardType D f.type)=true) ∧
   ∀(w:World) as bs us vs r,VS g w as us→VS g w bs vs→eqCells ks (as.drop off) (bs.drop off)=some r→∀D,d≤D→(Op.eqFields D us.toArray vs.toArray fl).run P w = .ok r w
 | [],off,ks,ht,hn,hk=>by
  simp only [List.foldr_nil,Option.some.injEq] at hk
  subst hk
  simp only [tiles] at ht
  refine ⟨by simpa using Nat.eq_of_beq_eq_true ht,fun _ _=>rfl,?_⟩
  intro w as bs us vs r _ _ he D _
  obtain ⟨_,_,rfl⟩:=eqCells_nil he
  simp [Op.eqFields]
 | f::fl,off,ks,ht,hn,hk=>by
  simp only [tiles,Bool.and_eq_true] at ht
  simp only [List.all_cons,Bool.and_eq_true] at hn
  simp only [List.foldr_cons] at hk
  split at hk
  ·rename_i x y hx hy
   cases hk
   have hoff:=Nat.eq_of_beq_eq_true ht.1
   have ok:=IH _ _ hx
   have hl:=ok.2.1
   obtain ⟨h1,h2,h3⟩:=fields_ok IH n fl _ _ ht.2 hn.2 hy
   refine ⟨by simp only [List.length_append];omega,fun D hD => ?_,?_⟩
   ·simp only [List.all_cons,Bool.and_eq_true]
    exact ⟨⟨hn.1,by rw [ok.2.2.2.1 D hD];rfl⟩,by simpa using h2 D hD⟩
   ·intro w as bs us vs r ha hb he D hD
    obtain ⟨r1,r2,e1,e2,rfl⟩:=eqCells_app _ _ _ _ _ he
    rw [List.drop_drop,List.drop_drop,hl] at e2
    obtain ⟨a,b,p1,p2,p3⟩:=ok.part ha hb e1 hD
    have hrest:=h3 w as bs us vs r2 ha hb e2 D hD
    have hne:f.name ≠ "_" := by simpa using hn.1
    simp only [Op.eqFields,if_pos hne,Sem.run_bind,hoff,p1,p2,p3,Result.andThen_ok]
    cases r1
    ·simp
    ·simp [hrest]
  ·cases hk
theorem items_ok {d:Nat} {e:TypeId} {x:List FK} (ok:EqOK P g d e x) (w:World) (as bs:List AV) (us vs:List Value) (ha:VS g w as us) (hb:VS g w bs vs) (D:Nat) (hD:d≤D) :
  ∀(n off:Nat) (r:Bool),eqCells (List.replicate n x).flatten (as.drop (off*x.length)) (bs.drop (off*x.length))=some r →
   (Op.eqItems D e x.length us.toArray vs.toArray (List.range' off n)).run P w = .ok r w
 | 0,off,r,he=>by
  obtain ⟨_,_,rfl⟩:=eqCells_nil he
  simp [Op.eqItems]
 | n+1,off,r,he=>by
  simp only [List.replicate_succ,List.flatten_cons] at he
  obtain ⟨r1,r2,e1,e2,rfl⟩:=eqCells_app _ _ _ _ _ he
  rw [List.drop_drop,List.drop_drop,show off*x.length+x.length=(off+1)*x.length by rw [Nat.add_mul];omega] at e2
  obtain ⟨a,b,p1,p2,p3⟩:=ok.part ha hb e1 hD
  have hrest:=items_ok ok w as bs us vs ha hb D hD n (off+1) r2 e2
  simp only [List.range'_succ,Op.eqItems,Sem.run_bind,p1,p2,p3,Result.andThen_ok]
  cases r1
  ·simp
  ·simp [hrest]
theorem flatK_ok:∀(d:Nat) (t:TypeId) (ks:List FK),flatK P d t=some ks→EqOK P g d t ks
 | 0,_,_,h=>by simp [flatK] at h
 | d+1,t,ks,h=>by
  unfold flatK at h
  have hG:∀{dd:TypeDesc},P.underlying t=some dd→okT P t=true:=fun e=>by simp [okT,e]
  have one:∀{dd:TypeDesc} {k:FK},und P t=dd→(dd = .bool∨(∃kk,dd = .int kk)∨dd = .string)→szT P t=1 →
    (∀(w:World) as bs us vs r,VS g w as us→VS g w bs vs→eqCells [k] as bs=some r→∀D,∀u v,us=[u]→vs=[v]→(Op.equalIn (D+1) t u v).run P w = .ok r w)→EqOK P g (d+1) t [k]:=by
   intro dd k hu hdd hz hrun
   have hu':P.underlying t=some dd:=und_some hu (by rcases hdd with e | ⟨_,e⟩ | e<;>rw [e]<;>simp)
   have hag:aggT P t=false:=by
    unfold aggT
    rw [hu]
    rcases hdd with e | ⟨_,e⟩ | e<;>rw [e]
   refine ⟨hG hu',hz.symm,fun _=>hz,fun D hD => ?_,fun w as bs us vs r ha hb he D hD=>⟨fun x=>(by rw [hag] at x;cases x),fun _ u v e1 e2 => ?_⟩⟩
   ·cases D with
    | zero=>omega
    | succ D=>
     simp only [Program.eqGuardType,hu']
     rcases hdd with e | ⟨_,e⟩ | e<;>rw [e]
   ·cases D with
    | zero=>omega
    | succ D=>exact hrun w as bs us vs r ha hb he D u v e1 e2
  split at h
  ·rename_i hu
   split at h
   ·rename_i hz
    cases h
    refine one hu (.inl rfl) hz ?_
    intro w as bs us vs r ha hb he D u v e1 e2
    obtain ⟨l1,l2⟩:=eqCells_len _ _ _ _ he
    subst e1;subst e2
    obtain ⟨a,rfl⟩:=List.length_eq_one_iff.1 l1
    obtain ⟨b,rfl⟩:=List.length_eq_one_iff.1 l2
    simp only [VS] at ha hb
    obtain ⟨u',_,e1,hua,_⟩:=ha
    obtain ⟨v',_,e2,hvb,_⟩:=hb
    cases e1
    cases e2
    cases a<;>cases b<;>simp [eqCells] at he
    subst he
    rw [V_B' hua,V_B' hvb]
    simp [Op.equalIn,run_underlying (und_some hu (by simp))]
   ·cases h
  ·rename_i kk hu
   split at h
   ·rename_i hz
    cases h
    refine one hu (.inr (.inl ⟨_,rfl⟩)) hz ?_
    intro w as bs us vs r ha hb he D u v e1 e2
    obtain ⟨l1,l2⟩:=eqCells_len _ _ _ _ he
    subst e1;subst e2
    obtain ⟨a,rfl⟩:=List.length_eq_one_iff.1 l1
    obtain ⟨b,rfl⟩:=List.length_eq_one_iff.1 l2
    simp only [VS] at ha hb
    obtain ⟨u',_,e1,hua,_⟩:=ha
    obtain ⟨v',_,e2,hvb,_⟩:=hb
    cases e1
    cases e2
    cases a<;>cases b<;>simp [eqCells] at he
    obtain ⟨rfl,rfl⟩:=he
    rw [(V_I' hua).1,(V_I' hvb).1]
    simp [Op.equalIn,run_underlying (und_some hu (by simp))]
   ·cases h
  ·rename_i hu
   split at h
   ·rename_i hz
    cases h
    refine one hu (.inr (.inr rfl)) hz ?_
    intro w as bs us vs r ha hb he D u v e1 e2
    obtain ⟨l1,l2⟩:=eqCells_len _ _ _ _ he
    subst e1;subst e2
    obtain ⟨a,rfl⟩:=List.length_eq_one_iff.1 l1
    obtain ⟨b,rfl⟩:=List.length_eq_one_iff.1 l2
    simp only [VS] at ha hb
    obtain ⟨u',_,e1,hua,_⟩:=ha
    obtain ⟨v',_,e2,hvb,_⟩:=hb
    cases e1
    cases e2
    cases a<;>cases b<;>simp [eqCells] at he
    subst he
    rw [(V_S' hua).1,(V_S' hvb).1]
    simp [Op.equalIn,run_underlying (und_some hu (by simp)),beq_toListBytes,ByteArray.toList_eq]
   ·cases h
  ·rename_i fs hu
   split at h
   ·rename_i hc
    simp only [Bool.and_eq_true,Bool.not_eq_true'] at hc
    obtain ⟨⟨hst,hti⟩,hnm⟩:=hc
    have hu':=und_some hu (by simp)
    have hag:aggT P t=true:=by unfold aggT;rw [hu]
    obtain ⟨h1,h2,h3⟩:=fields_ok (fun t ks h=>flatK_ok d t ks h) _ _ _ _ hti hnm h
    have hfo:P.fieldsOf t=fs:=by simp [Program.fieldsOf,hu']
    refine ⟨hG hu',by simpa using h1,fun x=>(by rw [hag] at x;cases x),fun D hD => ?_,fun w as bs us vs r ha hb he D hD=>⟨fun _ => ?_,fun x=>by rw [hag] at x;cases x⟩⟩
    ·cases D with
     | zero=>omega
     | succ D=>
      have:=h2 D (by omega)
      simp only [Program.eqGuardType,hu']
      rw [←Array.any_toList]
      rw [Bool.eq_false_iff]
      intro hany
      obtain ⟨f,hf,hb⟩:=List.any_eq_true.1 hany
      have:=List.all_eq_true.1 this f hf
      simp only [Bool.and_eq_true] at this hb
      rw [hb.2] at this
      simp at this
    ·cases D with
     | zero=>omega
     | succ D=>
      rw [run_equalIn_struct w D t _ _ (by rw [hfo];exact hu') hst,hfo]
      exact h3 w as bs us vs r ha hb (by simpa using he) D (by omega)
   ·cases h
  ·rename_i n e hu
   split at h
   ·rename_i hz
    split at h
    ·rename_i x hx
     cases h
     have hu':=und_some hu (by simp)
     have hag:aggT P t=true:=by unfold aggT;rw [hu]
     have ok:=flatK_ok d e x hx
     obtain ⟨i,hi,hi'⟩:=okT_info ok.1
     have hx':x.length=P.cellsOf e:=by
      rw [ok.2.1,hi']
      simp [Program.cellsOf,hi]
     refine ⟨hG hu',by simp [List.length_flatten,hz,ok.2.1],fun x=>(by rw [hag] at x;cases x),fun D hD => ?_,fun w as bs us vs r ha hb he D hD=>⟨fun _ => ?_,fun x=>by rw [hag] at x;cases x⟩⟩
     ·cases D with
      | zero=>omega
      | succ D=>
       simp only [Program.eqGuardType,hu']
       exact ok.2.2.2.1 D (by omega)
     ·cases D with
      | zero=>omega
      | succ D=>
       rw [run_equalIn_array w D _ _ hu' hi,List.range_eq_range',←hx']
       exact items_ok ok w as bs us vs ha hb D (by omega) n 0 r (by simpa using he)
    ·cases h
   ·cases h
  ·cases h
end
end Go.Vm
namespace Go.Vm
open Go
structure OkC (C:Cx):Prop where
 bound:C.bound≤140737488355328
 glob:∀gi cs,C.glob gi=some cs→noPs cs=true
 mixed:C.P.follows .mixedOrders=true
 iter:∀f cs xs,C.iter f cs=some xs→Callable C.P f∧IterC C.P f cs xs
section
variable {C:Cx} {N:Ann} {nt:NT} {g0 g:Gh} {w0 w:World} {f:Fr} {s:St} {a:Act} {o:Oper}
variable {K:Upd→Res} {R:Res} {G:FuncId→List AV→List HO→Res}
theorem depth_ge (P:Program):20≤P.depth:=by
 unfold Program.depth Made.depth
 omega
theorem bin_run (hC:OkC C) {op:BinOp} {t:TypeId} {x y:AV} {u v:Value} {X Y:Operand} {K:AV→Res} (hx:V g w x u) (hy:V g w y v)
  (h:bin (stdAlg C.pure G) C op t x y K=R) (hR:R ≠ .stuck) :
  ∃c z,K c=R∧(do eqGuard op t X Y u v;binOp op t u v).run C.P w = .ok z w∧V g w c z:=by
 unfold bin at h
 split at h
 ·split at h
  ·obtain ⟨m,rfl,h1⟩:=mI_inv h hR
   obtain ⟨k',n,rfl,h2⟩:=mN_inv h1 hR
   obtain ⟨h0,h⟩:=chk_inv h2 hR
   obtain ⟨rfl,hm⟩:=V_I' hx
   obtain ⟨rfl,hn⟩:=V_I' hy
   have h0':¬n<0:=by
                have:0≤n:=by simpa using h0
                omega
   refine ⟨_,_,h,?_,V_I g w (wrap_within _ _)⟩
   simp only [Sem.run_bind,guard_int,Result.andThen_ok]
   simp only [binOp,Op.shift,if_neg h0',Sem.run_pure]
  ·exact absurd h.symm hR
 ·split at h
  ·obtain ⟨m,rfl,h1⟩:=mI_inv h hR
   obtain ⟨k',n,rfl,h2⟩:=mN_inv h1 hR
   obtain ⟨h0,h⟩:=chk_inv h2 hR
   obtain ⟨rfl,hm⟩:=V_I' hx
   obtain ⟨rfl,hn⟩:=V_I' hy
   have h0':¬n<0:=by
                have:0≤n:=by simpa using h0
                omega
   refine ⟨_,_,h,?_,V_I g w (fdiv_within hm _)⟩
   simp only [Sem.run_bind,guard_int,Result.andThen_ok]
   simp only [binOp,Op.shift,if_neg h0',Sem.run_pure]
  ·exact absurd h.symm hR
 ·rename_i hne1 hne2
  split at h
  ·obtain ⟨m,rfl,h1⟩:=mI_inv h hR
   obtain ⟨n,rfl,h2⟩:=mI_inv h1 hR
   obtain ⟨rfl,hm⟩:=V_I' hx
   obtain ⟨rfl,hn⟩:=V_I' hy
   obtain ⟨c,z,h1,h2,h3⟩:=binI_run t hm hn h2 hR
   refine ⟨c,z,h1,?_,h3⟩
   simp only [Sem.run_bind,guard_int,Result.andThen_ok,h2]
  ·obtain ⟨m,rfl,h1⟩:=mS_inv h hR
   obtain ⟨n,rfl,h2⟩:=mS_inv h1 hR
   obtain ⟨rfl,hm⟩:=V_S' hx
   obtain ⟨rfl,hn⟩:=V_S' hy
   obtain ⟨c,z,h1,h2,h3⟩:=binS_run t hC.bound h2 hR
   refine ⟨c,z,h1,?_,h3⟩
   simp only [Sem.run_bind,guard_str,Result.andThen_ok,h2]
  ·rename_i hu
   obtain ⟨m,rfl,h1⟩:=mB_inv h hR
   obtain ⟨n,rfl,h2⟩:=mB_inv h1 hR
   have e1:=V_B' hx
   have e2:=V_B' hy
   subst e1;subst e2
   have hb0:∀D,(Op.equalIn (D+1) t (.bool m) (.bool n)).run C.P w = .ok (m == n) w:=fun D=>by
    simp [Op.equalIn,run_underlying (und_some hu (by simp))]
   have hb:(Op.equal t (.bool m) (.bool n)).run C.P w = .ok (m == n) w:=hb0 9999
   split at h2
   ·exact ⟨_,_,h2,by simp only [Sem.run_bind,guard_bool,Result.andThen_ok,binOp,hb,Sem.run_pure],V_B g w _⟩
   ·exact ⟨_,_,h2,by simp only [Sem.run_bind,guard_bool,Result.andThen_ok,binOp,hb,Sem.run_pure],V_B g w _⟩
   ·exact absurd h2.symm hR
  all_goals first
   | (
     split at h
     ·rename_i ks hk
      obtain ⟨xs,rfl,lx,h1⟩:=mA_inv h hR
      obtain ⟨ys,rfl,ly,h2⟩:=mA_inv h1 hR
      obtain ⟨r,he,h3⟩:=eqs_inv h2 hR
      obtain ⟨us,rfl,hus⟩:=V_A' hx
      obtain ⟨vs,rfl,hvs⟩:=V_A' hy
      have ok:=flatK_ok (g:=g) 20 t ks hk
      have hag:aggT C.P t=true:=by
       unfold aggT
       simp only [*]
      have hb:(Op.equal t (.agg us.toArray) (.agg vs.toArray)).run C.P w = .ok r w:=(ok.2.2.2.2 w _ _ _ _ r hus hvs he 10000 (by omega)).1 hag
      have hgd:∀op:BinOp,(eqGuard op t X Y (.agg us.toArray) (.agg vs.toArray)).run C.P w = .ok () w:=by
       intro op
       have:=ok.2.2.2.1 C.P.depth (depth_ge C.P)
       unfold eqGuard
       cases op<;>simp [this]
      split at h3
      ·exact ⟨_,_,h3,by simp only [Sem.run_bind,hgd,Result.andThen_ok,binOp,hb,Sem.run_pure],V_B g w _⟩
      ·exact ⟨_,_,h3,by simp only [Sem.run_bind,hgd,Result.andThen_ok,binOp,hb,Sem.run_pure],V_B g w _⟩
      ·exact absurd h3.symm hR
     ·exact absurd h.symm hR)
   | exact absurd h.symm hR
theorem OpS.binOp (hC:OkC C) (r:Rel C nt g0 w0 g w f s a) (hd:∀x,o.dst=some x→nt.ok x) (hR:R ≠ .stuck) {op:BinOp} {t:TypeId} {x y:Operand} {tt:TypeId} (ho:o.op = .binOp op t x y tt)
  (h:opH C N G o s K R):OpS C nt g0 w0 s a w o K R:=by
 simp only [opH,opF,ho,Op.operands,List.map_cons,List.map_nil,List.getD_cons_zero,List.getD_cons_succ] at h
 split at h
 ·rename_i av e1 e2
  have hx:=r.evq e1
  have e2':evO C s y = .nil:=by
   cases e:evO C s y<;>rw [e] at e2<;>first | rfl | cases e2
  have hy:a.eval y = .slice none 0 0:=by
   have:=r.ev y
   rw [e2'] at this
   exact this
  split at h
  ·rename_i et hu
   have hu':=und_some hu (by simp)
   have fin:∀(ad:Option Addr) (n cap:Nat) (X:Res),a.eval x = .slice ad n cap→(n≠0→ad≠none)→(X=R→(op = .eql∨op = .neq)∧K { dst:=some .ub } = R) →
     ((stdAlg C.pure G).ite (Nat.beq n 0) X (cmpNil (stdAlg C.pure G) op false fun c=>K { dst:=some (.v c) }))=R→OpS C nt g0 w0 s a w o K R:=by
    intro ad n cap X hxs hne hX h
    have hb00:∀D,(Op.equalIn (D+1) t (.slice ad n cap) (.slice none 0 0)).run C.P w = .ok ad.isNone w:=fun D=>by
     cases ad<;>simp [Op.equalIn,run_underlying hu']
    have hb0:(Op.equal t (.slice ad n cap) (.slice none 0 0)).run C.P w = .ok ad.isNone w:=hb00 9999
    have hgd:(eqGuard op t x y (.slice ad n cap) (.slice none 0 0)).run C.P w = .ok () w:=by rw [eqGuard_at_slice];rfl
    have hb2:∀op:BinOp,op = .eql∨op = .neq→(Go.binOp op t (.slice ad n cap) (.slice none 0 0)).run C.P w = .ok (.bool (if op = .eql then ad.isNone else !ad.isNone)) w:=by
     intro op hop
     rcases hop with rfl | rfl<;>simp [Go.binOp,hb0]
    have hex:op = .eql∨op = .neq→(execOp a.eval o).run C.P w = .ok (.value (.bool (if op = .eql then ad.isNone else !ad.isNone))) w:=by
     intro hop
     have:=hb2 op hop
     simp [execOp,ho,hxs,hy,hgd,this]
    rcases bIte_inv h with ⟨h0,h⟩ | ⟨h0,h⟩
    ·obtain ⟨hop,hk⟩:=hX h
     exact .val r hd hk (hex hop) ⟨_,rfl⟩
    ·have hn0:n≠0:=fun e=>by rw [e] at h0;cases h0
     have had:ad.isNone=false:=by
      cases ad with
      | none=>exact absurd rfl (hne hn0)
      | some _=>rfl
     rw [had] at hex
     unfold cmpNil at h
     split at h
     ·exact .val r hd h (u := .bool false) (by simpa using hex (.inl rfl)) (V_B g w _)
     ·exact .val r hd h (u := .bool (!false)) (by simpa using hex (.inr rfl)) (V_B g w _)
     ·exact absurd h.symm hR
   have hX:chk (eqOp op) (K { dst:=some .ub })=R→(op = .eql∨op = .neq)∧K { dst:=some .ub } = R:=by
    intro h9
    obtain ⟨h1,h2⟩:=chk_inv h9 hR
    exact ⟨by cases op<;>first | (exact .inl rfl) | (exact .inr rfl) | (cases h1),h2⟩
   rcases mLen_inv' h hR with ⟨m,xs,rfl,h1⟩ | ⟨sb,rfl,h1⟩
   ·obtain ⟨ad,ln,cap,hxs,q1,q2,q3⟩:=V_L' hx
    rw [←q1] at h1
    refine fin ad ln cap _ hxs (fun hne hn => ?_) hX h1
    rcases q3 with q3 | ⟨b,o,q3,_⟩
    ·exact hne (by rw [q1,q3];rfl)
    ·rw [hn] at q3;cases q3
   ·obtain ⟨ad,ln,cap,hxs,q1,q2,q3⟩:=V_Y' hx
    rw [←q1] at h1
    refine fin ad ln cap _ hxs (fun hne hn => ?_) hX h1
    rcases q3 with q3 | ⟨b,o,q3,_⟩
    ·exact hne (by rw [q1,q3];rfl)
    ·rw [hn] at q3;cases q3
  ·exact absurd h.symm hR
 ·rename_i av bv e1 e2
  have hx:=r.evq e1
  have hy:=r.evq e2
  have go:∀(b:Bool) (u z:Value),a.eval x=u→a.eval y=z→(eqGuard op t x y u z).run C.P w = .ok () w→(∀D,(Op.equalIn (D+1) t u z).run C.P w = .ok b w) →
    (∀op:BinOp,op = .eql∨op = .neq→(Op.equal t u z).run C.P w = .ok b w→(Go.binOp op t u z).run C.P w = .ok (.bool (if op = .eql then b else !b)) w) →
    cmpNil (stdAlg C.pure G) op b (fun c=>K { dst:=some (.v c) })=R→OpS C nt g0 w0 s a w o K R:=by
   intro b u z hxu hyz hgd hb0 hb2 h
   have hb1:(Op.equal t u z).run C.P w = .ok b w:=hb0 9999
   unfold cmpNil at h
   split at h
   ·refine .val r hd h (u := .bool b) ?_ (V_B g w _)
    have h2:=hb2 .eql (.inl rfl) hb1
    simp [execOp,ho,hxu,hyz,hgd,h2]
   ·refine .val r hd h (u := .bool (!b)) ?_ (V_B g w _)
    have h2:=hb2 .neq (.inr rfl) hb1
    simp [execOp,ho,hxu,hyz,hgd,h2]
   ·exact absurd h.symm hR
  split at h
  ·rename_i et hu
   split at h
   ·have hy':=V_N' hy
    have hu':=und_some hu (by simp)
    have go':∀(b:Bool) (u:Option Addr),a.eval x = .pointer u→b=u.isNone→cmpNil (stdAlg C.pure G) op b (fun c=>K { dst:=some (.v c) })=R→OpS C nt g0 w0 s a w o K R:=by
     intro b u hxu hb h
     refine go b _ _ hxu hy' guard_ptr (fun D => ?_) (fun op hop hb1 => ?_) h
     ·rw [hb]
      cases u<;>simp [Op.equalIn,run_underlying hu']
     ·rcases hop with rfl | rfl<;>cases u<;>simp [Go.binOp,hb1]
    have h':isN av (fun r=>cmpNil (stdAlg C.pure G) op r fun c=>K { dst:=some (.v c) })=R:=h
    rcases isN_inv h' hR with ⟨rfl,h1⟩ | ⟨id,off,rfl,h1⟩
    ·exact go' true none (V_N' hx) rfl h1
    ·exact go' false _ (V_P' hx).2 rfl h1
   ·exact absurd h.symm hR
  ·rename_i pr vr rs hu
   split at h
   ·have hy':a.eval y = .nilFunc:=by simpa [V] using hy
    have hu':=und_some hu (by simp)
    have h':isF av (fun r=>cmpNil (stdAlg C.pure G) op r fun c=>K { dst:=some (.v c) })=R:=h
    rcases isF_inv h' hR with ⟨rfl,h1⟩ | ⟨fn,fs,cs,rfl,h1⟩
    ·have hx':a.eval x = .nilFunc:=by simpa [V] using hx
     refine go true _ _ hx' hy' (by rw [eqGuard_at_nilFunc];rfl) (fun D=>by simp [Op.equalIn,run_underlying hu']) (fun op hop hb1 => ?_) h1
     rcases hop with rfl | rfl<;>simp [Go.binOp,hb1]
    ·obtain ⟨vf,vc,hx',_,_⟩:=V_F' hx
     refine go false _ _ hx' hy' (by rw [eqGuard_at_func];rfl) (fun D=>by simp [Op.equalIn,run_underlying hu']) (fun op hop hb1 => ?_) h1
     rcases hop with rfl | rfl<;>simp [Go.binOp,hb1]
   ·exact absurd h.symm hR
  ·rename_i ms hu
   split at h
   ·rename_i cv
    have hy':a.eval (.const cv) = .nilIface:=by simpa [V] using hy
    have hu':=und_some hu (by simp)
    have h':isX av (fun r=>cmpNil (stdAlg C.pure G) op r fun c=>K { dst:=some (.v c) })=R:=h
    rcases isX_inv h' hR with ⟨rfl,h1⟩ | ⟨tt,vv,rfl,h1⟩
    ·have hx':a.eval x = .nilIface:=by simpa [V] using hx
     refine go true _ _ hx' hy' (by rw [eqGuard_nil_constR];rfl) (fun D=>by simp [Op.equalIn,run_underlying hu']) (fun op hop hb1 => ?_) h1
     rcases hop with rfl | rfl<;>simp [Go.binOp,hb1]
    ·obtain ⟨uu,hx',_⟩:=V_X' hx
     refine go false _ _ hx' hy' (by rw [eqGuard_at_iface];rfl) (fun D=>by simp [Op.equalIn,run_underlying hu']) (fun op hop hb1 => ?_) h1
     rcases hop with rfl | rfl<;>simp [Go.binOp,hb1]
   ·exact absurd h.symm hR
  ·rename_i kt et hu
   split at h
   ·have hy':a.eval y = .map none:=by simpa [V] using hy
    have hu':=und_some hu (by simp)
    have h':isM av (fun r=>cmpNil (stdAlg C.pure G) op r fun c=>K { dst:=some (.v c) })=R:=h
    rcases isM_inv h' hR with ⟨rfl,h1⟩ | ⟨id,rfl,h1⟩
    ·have hx':a.eval x = .map none:=by simpa [V] using hx
     refine go true _ _ hx' hy' (by rw [eqGuard_at_map];rfl) (fun D=>by simp [Op.equalIn,run_underlying hu']) (fun op hop hb1 => ?_) h1
     rcases hop with rfl | rfl<;>simp [Go.binOp,hb1]
    ·have hx':id<g.n∧a.eval x = .map (some (g.io id)):=by simpa [V] using hx
     refine go false _ _ hx'.2 hy' (by rw [eqGuard_at_map];rfl) (fun D=>by simp [Op.equalIn,run_underlying hu']) (fun op hop hb1 => ?_) h1
     rcases hop with rfl | rfl<;>simp [Go.binOp,hb1]
   ·exact absurd h.symm hR
  ·obtain ⟨c,z,h1,h2,h3⟩:=bin_run (X:=x) (Y:=y) hC hx hy h hR
   refine .val r hd h1 (u:=z) ?_ h3
   simp only [execOp,ho,Sem.run_bind] at h2 ⊢
   rw [h2]
   rfl
 ·exact absurd h.symm hR
theorem OpS.unOp (hC:OkC C) (r:Rel C nt g0 w0 g w f s a) (hd:∀x,o.dst=some x→nt.ok x) (hR:R ≠ .stuck) {op:UnOp} {t:TypeId} {x:Operand} (ho:o.op = .unOp op t x)
  (h:opH C N G o s K R):OpS C nt g0 w0 s a w o K R:=by
 simp only [opH,opF,ho,Op.operands,List.map_cons,List.map_nil,List.getD_cons_zero,List.getD_cons_succ] at h
 split at h
 ·rename_i av e1
  have hx:=r.evv e1
  split at h
  ·obtain ⟨b,rfl,h1⟩:=mB_inv h hR
   exact .val r hd h1 (by simp [execOp,ho,V_B' hx,Op.unary]) (V_B g w _)
  ·obtain ⟨n,rfl,h1⟩:=mI_inv h hR
   exact .val r hd h1 (by simp [execOp,ho,(V_I' hx).1,Op.unary,Op.intArith]) (V_I g w (wrap_within _ _))
  ·obtain ⟨n,rfl,h1⟩:=mI_inv h hR
   unfold binI at h1
   exact .val r hd h1 (by simp [execOp,ho,(V_I' hx).1,Op.unary,Op.intBits]) (V_I g w (wrap_within _ _))
  ·exact absurd h.symm hR
 ·exact absurd h.symm hR
end
end Go.Vm
namespace Go.Vm
open Go
section
variable {C:Cx} {N:Ann} {nt:NT} {g0 g:Gh} {w0 w:World} {f:Fr} {s:St} {a:Act} {o:Oper}
variable {K:Upd→Res} {R:Res} {G:FuncId→List AV→List HO→Res}
theorem VR_drop {n b:Nat} : ∀(l:Nat) (xs:List (List AV)) (o:Nat),VR g w n b o xs→VR g w n b (o+l*n) (xs.drop l)
 | 0,xs,o,h=>by simpa using h
 | l+1,[],o,_=>by simp [VR]
 | l+1,x::xs,o,h=>by
  simp only [VR] at h
  have:=VR_drop l xs (o+n) h.2.2
  rw [show o+n+l*n=o+(l+1)*n by rw [Nat.add_mul];omega] at this
  simpa using this
theorem VR_take {n b:Nat} : ∀(l:Nat) (xs:List (List AV)) (o:Nat),VR g w n b o xs→VR g w n b o (xs.take l)
 | 0,xs,o,h=>by simp [VR]
 | l+1,[],o,_=>by simp [VR]
 | l+1,x::xs,o,h=>by
  simp only [VR] at h
  simp only [List.take_succ_cons,VR]
  exact ⟨h.1,h.2.1,VR_take l xs (o+n) h.2.2⟩
theorem VR_get {n b:Nat} (i:Nat) (xs:List (List AV)) (o:Nat) (h:VR g w n b o xs) (hi:i<xs.length):VC g w b (o+i*n) (xs.getD i [])∧(xs.getD i []).length=n:=by
 have:=VR_drop i xs o h
 rw [List.drop_eq_getElem_cons hi] at this
 simp only [VR] at this
 rw [List.getD_eq_getElem?_getD,List.getElem?_eq_getElem hi]
 exact ⟨this.2.1,this.1⟩
theorem VY_drop {b:Nat} : ∀(l:Nat) (xs:List UInt8) (o:Nat),VY g w b o xs→VY g w b (o+l) (xs.drop l)
 | 0,xs,o,h=>by simpa using h
 | l+1,[],o,_=>by simp [VY]
 | l+1,x::xs,o,h=>by
  have:=VY_drop l xs (o+1) h.2.2
  rw [show o+1+l=o+(l+1) by omega] at this
  simpa using this
theorem VY_take {b:Nat} : ∀(l:Nat) (xs:List UInt8) (o:Nat),VY g w b o xs→VY g w b o (xs.take l)
 | 0,xs,o,h=>by simp [VY]
 | l+1,[],o,_=>by simp [VY]
 | l+1,x::xs,o,h=>⟨h.1,h.2.1,VY_take l xs (o+1) h.2.2⟩
theorem byte_range (x:UInt8):IntKind.u8.min≤((x.toNat:Nat):Int)∧((x.toNat:Nat):Int)≤IntKind.u8.max:=by
 have:=x.toNat_lt
 have e1:IntKind.u8.min=0:=by decide
 have e2:IntKind.u8.max=255:=by decide
 rw [e1,e2]
 omega
theorem VY_get {b:Nat} (i:Nat) (xs:List UInt8) (o:Nat) (h:VY g w b o xs) (hi:i<xs.length):VC g w b (o+i) [byteAt xs i]:=by
 have:=VY_drop i xs o h
 rw [List.drop_eq_getElem_cons hi] at this
 simp only [VC,byteAt]
 rw [List.getD_eq_getElem?_getD,List.getElem?_eq_getElem hi]
 exact ⟨this.1,⟨_,this.2.1,V_I g w (byte_range _),rfl⟩,trivial⟩
theorem boundsLo_run {lo:Option EV} {vl vh:Option Value} {n hiN:Nat} {K:Nat→Nat→Res}
  (hl:(lo=none∧vl=none)∨∃e u,lo=some e∧vl=some u∧VE g w f s e u) (hle:hiN≤n)
  (h:boundsLo (stdAlg C.pure G) lo hiN K=R) (hR:R ≠ .stuck)
  (hrun:∀(sl:Bool) (cap:Nat),n≤cap→(match vh with | some v=>Instr.sliceBound v cap (if sl=true then BoundsCode.sliceAcap else .sliceAlen) | none=>pure n).run C.P w = .ok hiN w) :
  ∃l r,l≤r∧r≤n∧K l r=R∧∀sl cap,n≤cap→(Instr.sliceBounds sl n cap vl vh none).run C.P w = .ok (l,r,cap) w:=by
 unfold boundsLo at h
 rcases hl with ⟨rfl,rfl⟩ | ⟨e,u,rfl,rfl,hv⟩
 ·refine ⟨0,hiN,Nat.zero_le _,hle,h,fun sl cap hc => ?_⟩
  have:=hrun sl cap hc
  unfold Instr.sliceBounds
  cases vh<;>simp only [Sem.run_bind,Sem.run_pure,Result.andThen_ok] at this ⊢
  ·simp only [Result.ok.injEq] at this
   rw [this.1]
  ·rw [this];rfl
 ·cases e with
  | v av=>
   obtain ⟨k,m,rfl,h1⟩:=mN_inv h hR
   obtain ⟨h2,h3⟩:=chk_inv h1 hR
   have h4:0≤m∧m≤(hiN:Int):=by simpa using h2
   have h5:u = .int k m:=(V_I' (g:=g) (w:=w) hv).1
   refine ⟨m.toNat,hiN,by omega,hle,h3,fun sl cap hc => ?_⟩
   have:=hrun sl cap hc
   have hb:∀code,(Instr.sliceBound u hiN code).run C.P w = .ok m.toNat w:=by
    intro code
    simp [Instr.sliceBound,h5,asIntOf,h4]
   unfold Instr.sliceBounds
   cases vh<;>simp only [Sem.run_bind,Sem.run_pure,Result.andThen_ok] at this ⊢
   ·simp only [Result.ok.injEq] at this
    rw [this.1]
    simp [hb]
   ·rw [this]
    simp [hb]
  | _=>exact absurd h.symm hR
theorem bounds_run {lo hi:Option EV} {vl vh:Option Value} {n:Nat} {K:Nat→Nat→Res}
  (hl:(lo=none∧vl=none)∨∃e u,lo=some e∧vl=some u∧VE g w f s e u) (hh:(hi=none∧vh=none)∨∃e u,hi=some e∧vh=some u∧VE g w f s e u)
  (h:boundsK (stdAlg C.pure G) lo hi n K=R) (hR:R ≠ .stuck) :
  ∃l r,l≤r∧r≤n∧K l r=R∧∀sl cap,n≤cap→(Instr.sliceBounds sl n cap vl vh none).run C.P w = .ok (l,r,cap) w:=by
 unfold boundsK at h
 rcases hh with ⟨rfl,rfl⟩ | ⟨e,u,rfl,rfl,hv⟩
 ·exact boundsLo_run hl (Nat.le_refl n) h hR fun sl cap hc=>rfl
 ·cases e with
  | v av=>
   obtain ⟨k,m,rfl,h1⟩:=mN_inv h hR
   obtain ⟨h2,h3⟩:=chk_inv h1 hR
   have h4:0≤m∧m≤(n:Int):=by simpa using h2
   have h5:u = .int k m:=(V_I' (g:=g) (w:=w) hv).1
   refine boundsLo_run hl (hiN:=m.toNat) (by omega) h3 hR fun sl cap hc => ?_
   have h6:0≤m∧m≤(cap:Int):=by omega
   cases sl<;>simp [Instr.sliceBound,h5,asIntOf,h6]
  | _=>exact absurd h.symm hR
theorem bounds3_run {lo:Option EV} {he me:EV} {vl:Option Value} {vh vm:Value} {n:Nat} {K:Nat→Nat→Res}
  (hl:(lo=none∧vl=none)∨∃e u,lo=some e∧vl=some u∧VE g w f s e u) (hh:VE g w f s he vh) (hm:VE g w f s me vm)
  (h:bounds3 (stdAlg C.pure G) lo he me n K=R) (hR:R ≠ .stuck) :
  ∃l r m,l≤r∧r≤m∧m≤n∧K l r=R∧∀sl len cap,n≤cap→(Instr.sliceBounds sl len cap vl (some vh) (some vm)).run C.P w = .ok (l,r,m) w:=by
 unfold bounds3 at h
 cases me with
 | v am=>
  obtain ⟨km,m,rfl,h1⟩:=mN_inv h hR
  obtain ⟨h2,h3⟩:=chk_inv h1 hR
  have h4:0≤m∧m≤(n:Int):=by simpa using h2
  have h5:vm = .int km m:=(V_I' (g:=g) (w:=w) hm).1
  cases he with
  | v ah=>
   obtain ⟨kx,x,rfl,h6⟩:=mN_inv h3 hR
   obtain ⟨h7,h8⟩:=chk_inv h6 hR
   have h9:0≤x∧x≤m:=by simpa using h7
   have h10:vh = .int kx x:=(V_I' (g:=g) (w:=w) hh).1
   obtain ⟨m,rfl⟩:∃q:Nat,m=q:=⟨m.toNat,by omega⟩
   obtain ⟨x,rfl⟩:∃q:Nat,x=q:=⟨x.toNat,by omega⟩
   have hm1:∀(cap:Nat) code,n≤cap→(Instr.sliceBound vm cap code).run C.P w = .ok m w:=by
    intro cap code hc
    have h11:0≤(m:Int)∧(m:Int)≤(cap:Int):=by omega
    simp [Instr.sliceBound,h5,asIntOf,h11]
   have hx1:∀code,(Instr.sliceBound vh m code).run C.P w = .ok x w:=by
    intro code
    have h11:x≤m:=by omega
    simp [Instr.sliceBound,h10,asIntOf,h11]
   rw [Int.toNat_natCast] at h8
   unfold boundsLo at h8
   rcases hl with ⟨rfl,rfl⟩ | ⟨e,u,rfl,rfl,hv⟩
   ·refine ⟨0,x,m,Nat.zero_le _,by omega,by omega,h8,fun sl len cap hc => ?_⟩
    unfold Instr.sliceBounds
    simp [hm1 cap _ hc,hx1]
   ·cases e with
    | v av=>
     obtain ⟨kl,y,rfl,h13⟩:=mN_inv h8 hR
     obtain ⟨h14,h15⟩:=chk_inv h13 hR
     have h16:0≤y∧y≤(x:Int):=by simpa using h14
     have h17:u = .int kl y:=(V_I' (g:=g) (w:=w) hv).1
     obtain ⟨y,rfl⟩:∃q:Nat,y=q:=⟨y.toNat,by omega⟩
     have hy1:∀code,(Instr.sliceBound u x code).run C.P w = .ok y w:=by
      intro code
      have h11:y≤x:=by omega
      simp [Instr.sliceBound,h17,asIntOf,h11]
     refine ⟨y,x,m,by omega,by omega,by omega,by rw [Int.toNat_natCast] at h15;exact h15,fun sl len cap hc => ?_⟩
     unfold Instr.sliceBounds
     simp [hm1 cap _ hc,hx1,hy1]
    | _=>exact absurd h8.symm hR
  | _=>exact absurd h3.symm hR
 | _=>exact absurd h.symm hR
theorem byteT_und {P:Program} {e:TypeId} (h:byteT P e=true):und P e = .int .u8:=by
 unfold byteT at h
 split at h
 ·assumption
 ·cases h
theorem byteT_sz {P:Program} {e:TypeId} (h:byteT P e=true):szT P e=1:=by
 unfold byteT at h
 split at h
 ·exact Nat.eq_of_beq_eq_true h
 ·cases h
theorem byteT_ok {P:Program} {e:TypeId} (h:byteT P e=true):okT P e=true∧aggT P e=false:=by
 have hu:=byteT_und h
 refine ⟨by simp [okT,und_some hu (by simp)],?_⟩
 unfold aggT
 rw [hu]
theorem add_off (b o k:Nat):(⟨b,o,none⟩:Addr).add k=⟨b,o+k,none⟩:=by
 unfold Addr.add
 split
 ·rename_i e;simp [e]
 ·rfl
theorem Rel.use (r:Rel C nt g0 w0 g w f s a) {ty:TypeId} {x:Operand} {K:AV→List (Nat×LOv)→Res} (h:use (stdAlg C.pure G) C ty (evO C s x) (loO s (evO C s x)) K=R) (hR:R ≠ .stuck) :
  ∃av us g',K av us=R∧GSame g g'∧Core g' w f (s.withLocs us)∧Stp g w f s g' w f (s.withLocs us)∧V g' w av (a.eval x):=by
 obtain ⟨av,us,g',h1,_,h3,h4,h5,h6⟩:=use_frz (s0:=s) (us0:=[]) (fun _ hp=>by cases hp) r.core (r.ev x) h hR
 rw [List.append_nil] at h4 h5
 exact ⟨av,us,g',h1,h3,h4,h5,h6⟩
theorem V_slice {n l r:Nat} {xs:List (List AV)} {ad:Option Addr} {len cap:Nat} (h:V g w (.L n xs) (.slice ad len cap)) (hl:l≤r) (hr:r≤xs.length) :
  V g w (.L n ((xs.take r).drop l)) (.slice (if cap=l then ad else ad.map (·.add (l*n))) (r-l) (cap-l)):=by
 obtain ⟨a',len',cap',e,h1,h2,h3⟩:=V_L' h
 cases e
 simp only [V]
 refine ⟨_,_,_,rfl,by simp;omega,⟨by omega,by omega⟩,?_⟩
 by_cases hlr:l=r
 ·left
  subst hlr
  rw [List.drop_eq_nil_iff]
  simp only [List.length_take]
  omega
 ·right
  rcases h3 with rfl | ⟨b,o,rfl,h4⟩
  ·simp at hr;omega
  ·refine ⟨b,o+l*n,?_,VR_drop l _ _ (VR_take r _ _ h4)⟩
   rw [if_neg (by omega)]
   simp [add_off]
theorem V_sliceY {l r:Nat} {xs:List UInt8} {ad:Option Addr} {len cap:Nat} (h:V g w (.Y xs) (.slice ad len cap)) (hl:l≤r) (hr:r≤xs.length) :
  V g w (.Y ((xs.take r).drop l)) (.slice (if cap=l then ad else ad.map (·.add l)) (r-l) (cap-l)):=by
 obtain ⟨a',len',cap',e,h1,h2,h3⟩:=V_Y' h
 cases e
 simp only [V]
 refine ⟨_,_,_,rfl,by simp;omega,⟨by omega,by omega⟩,?_⟩
 by_cases hlr:l=r
 ·left
  subst hlr
  rw [List.drop_eq_nil_iff]
  simp only [List.length_take]
  omega
 ·right
  rcases h3 with rfl | ⟨b,o,rfl,h4⟩
  ·simp at hr;omega
  ·refine ⟨b,o+l,?_,VY_drop l _ _ (VY_take r _ _ h4)⟩
   rw [if_neg (by omega)]
   simp [add_off]
theorem OpS.sliceE (r:Rel C nt g0 w0 g w f s a) (hd:∀x,o.dst=some x→nt.ok x) (hR:R ≠ .stuck) {t:TypeId} {x:Operand} {lo hi:Option Operand} (ho:o.op = .slice t x lo hi none)
  {loE hiE:Option EV} (hl:(loE=none∧lo.map a.eval=none)∨∃e u,loE=some e∧lo.map a.eval=some u∧VE g w f s e u) (hh:(hiE=none∧hi.map a.eval=none)∨∃e u,hiE=some e∧hi.map a.eval=some u∧VE g w f s e u)
  (h:(match und C.P t with
   | .string=>match evO C s x with
    | .v a=>(stdAlg C.pure G).mS a fun s=>boundsK (stdAlg C.pure G) loE hiE s.length fun l r=>K { dst:=some (.v (.S ((s.take r).drop l))) }
    | _=>(stdAlg C.pure G).stuck
   | .slice e=>if okT C.P e=false then (stdAlg C.pure G).stuck else use (stdAlg C.pure G) C t (evO C s x) (loO s (evO C s x)) fun a u=>
     if byteT C.P e then (stdAlg C.pure G).mY a fun s=>boundsK (stdAlg C.pure G) loE hiE s.length fun l r=>K { dst:=some (.v (.Y ((s.take r).drop l))),locs:=u }
     else (stdAlg C.pure G).mL (szT C.P e) a fun xs=>boundsK (stdAlg C.pure G) loE hiE xs.length fun l r=>K { dst:=some (.v (.L (szT C.P e) ((xs.take r).drop l))),locs:=u }
   | _=>(stdAlg C.pure G).stuck)=R):OpS C nt g0 w0 s a w o K R:=by
 split at h
 ·rename_i hu
  have hu':=und_some hu (by simp)
  split at h
  ·rename_i av e1
   obtain ⟨m,rfl,h1⟩:=mS_inv h hR
   obtain ⟨hx,hm⟩:=V_S' (r.evv e1)
   obtain ⟨l,rr,b1,b2,h2,b3⟩:=bounds_run hl hh h1 hR
   refine .val r hd h2 (u := .string ⟨((m.take rr).drop l).toArray⟩) ?_ (V_S g w (by simp;omega))
   have:=b3 false m.length (Nat.le_refl _)
   have e2:(⟨m.toArray⟩:ByteArray).size=m.length:=by simp [ByteArray.size]
   simp only [execOp,ho,Instr.sliceAt,Sem.run_bind,run_underlying hu',Result.andThen_ok,Instr.slice,hx,Option.map_none,Option.isSome_none,Bool.false_eq_true,if_false,e2,this,Sem.run_pure]
   congr 3
   apply ByteArray.ext
   simp [ByteArray.data_extract,List.extract_toArray,List.extract_eq_take_drop,List.drop_take]
  ·exact absurd h.symm hR
 ·rename_i e hu
  have hu':=und_some hu (by simp)
  split at h
  ·exact absurd h.symm hR
  ·rename_i hok
   obtain ⟨av,us,g',h1,h2,h3,h4,h5⟩:=r.use h hR
   have hok':okT C.P e=true:=by simpa using hok
   split at h1
   ·rename_i hb
    obtain ⟨m,rfl,h6⟩:=mY_inv h1 hR
    obtain ⟨ad,len,cap,hx,e1,e2,e3⟩:=V_Y' h5
    obtain ⟨l,rr,b1,b2,h7,b3⟩:=bounds_run hl hh h6 hR
    have hs:szT C.P e=1:=byteT_sz hb
    refine .valU r hd h7 (u := .slice (if cap=l then ad else ad.map (·.add (l*1))) (rr-l) (cap-l)) ?_ h3 h4 ?_
    ·have:=b3 true cap (by omega)
     simp only [execOp,ho,Instr.sliceAt,Sem.run_bind,run_underlying hu',Result.andThen_ok,Instr.slice,hx,Option.map_none,e1,this,run_sz (.inl hok'),hs,Sem.run_pure]
    ·rw [hx] at h5
     have:=V_sliceY h5 b1 b2
     show V g' w (.Y ((m.take rr).drop l)) _
     rw [Nat.mul_one]
     exact this
   ·rename_i hb
    obtain ⟨m,rfl,h6⟩:=mL_inv h1 hR
    obtain ⟨ad,len,cap,hx,e1,e2,e3⟩:=V_L' h5
    obtain ⟨l,rr,b1,b2,h7,b3⟩:=bounds_run hl hh h6 hR
    refine .valU r hd h7 (u := .slice (if cap=l then ad else ad.map (·.add (l*szT C.P e))) (rr-l) (cap-l)) ?_ h3 h4 ?_
    ·have:=b3 true cap (by omega)
     simp only [execOp,ho,Instr.sliceAt,Sem.run_bind,run_underlying hu',Result.andThen_ok,Instr.slice,hx,Option.map_none,e1,this,run_sz (.inl hok'),Sem.run_pure]
    ·rw [hx] at h5
     exact V_slice h5 b1 b2
 ·exact absurd h.symm hR
theorem V_cap {n:Nat} {xs:List (List AV)} {ad:Option Addr} {len cap m:Nat} (h:V g w (.L n xs) (.slice ad len cap)) (hm:m≤xs.length):V g w (.L n (xs.take m)) (.slice ad m m):=by
 have h1:=V_slice h (Nat.zero_le m) hm
 obtain ⟨a',len',cap',e,q1,q2,q3⟩:=V_L' h1
 have ha:(if cap=0 then ad else ad.map (·.add (0*n)))=ad:=by
  split
  ·rfl
  ·cases ad with
   | none=>rfl
   | some x=>simp [Addr.add]
 rw [ha] at e
 cases e
 simp only [V]
 refine ⟨ad,m,m,rfl,by simp [Nat.min_eq_left hm],?_,?_⟩
 ·have:=(V_L' h)
  obtain ⟨a2,l2,c2,e2,r1,r2,r3⟩:=this
  cases e2
  omega
 ·simpa using q3
theorem V_capY {xs:List UInt8} {ad:Option Addr} {len cap m:Nat} (h:V g w (.Y xs) (.slice ad len cap)) (hm:m≤xs.length):V g w (.Y (xs.take m)) (.slice ad m m):=by
 have h1:=V_sliceY h (Nat.zero_le m) hm
 obtain ⟨a',len',cap',e,q1,q2,q3⟩:=V_Y' h1
 have ha:(if cap=0 then ad else ad.map (·.add 0))=ad:=by
  split
  ·rfl
  ·cases ad with
   | none=>rfl
   | some x=>simp [Addr.add]
 rw [ha] at e
 cases e
 simp only [V]
 refine ⟨ad,m,m,rfl,by simp [Nat.min_eq_left hm],?_,?_⟩
 ·have:=(V_Y' h)
  obtain ⟨a2,l2,c2,e2,r1,r2,r3⟩:=this
  cases e2
  omega
 ·simpa using q3
theorem OpS.slice3 (r:Rel C nt g0 w0 g w f s a) (hd:∀x,o.dst=some x→nt.ok x) (hR:R ≠ .stuck) {t:TypeId} {x:Operand} {lo:Option Operand} {hi mx:Operand} (ho:o.op = .slice t x lo (some hi) (some mx))
  {loE:Option EV} {hE mE:EV} (hl:(loE=none∧lo.map a.eval=none)∨∃e u,loE=some e∧lo.map a.eval=some u∧VE g w f s e u) (hh:VE g w f s hE (a.eval hi)) (hm:VE g w f s mE (a.eval mx))
  (h:(match und C.P t with
   | .slice e=>if okT C.P e=false then (stdAlg C.pure G).stuck else use (stdAlg C.pure G) C t (evO C s x) (loO s (evO C s x)) fun a u=>
     if byteT C.P e then (stdAlg C.pure G).mY a fun s=>bounds3 (stdAlg C.pure G) loE hE mE s.length fun l r=>K { dst:=some (.v (.Y ((s.take r).drop l))),locs:=u }
     else (stdAlg C.pure G).mL (szT C.P e) a fun xs=>bounds3 (stdAlg C.pure G) loE hE mE xs.length fun l r=>K { dst:=some (.v (.L (szT C.P e) ((xs.take r).drop l))),locs:=u }
   | _=>(stdAlg C.pure G).stuck)=R):OpS C nt g0 w0 s a w o K R:=by
 split at h
 ·rename_i e hu
  have hu':=und_some hu (by simp)
  split at h
  ·exact absurd h.symm hR
  ·rename_i hok
   obtain ⟨av,us,g',h1,h2,h3,h4,h5⟩:=r.use h hR
   have hok':okT C.P e=true:=by simpa using hok
   split at h1
   ·rename_i hb
    obtain ⟨m,rfl,h6⟩:=mY_inv h1 hR
    obtain ⟨ad,len,cap,hx,e1,e2,e3⟩:=V_Y' h5
    obtain ⟨l,rr,mm,b1,b2,b4,h7,b3⟩:=bounds3_run hl hh hm h6 hR
    have hs:szT C.P e=1:=byteT_sz hb
    refine .valU r hd h7 (u := .slice (if mm=l then ad else ad.map (·.add (l*1))) (rr-l) (mm-l)) ?_ h3 h4 ?_
    ·have:=b3 true len cap (by omega)
     simp only [execOp,ho,Instr.sliceAt,Sem.run_bind,run_underlying hu',Result.andThen_ok,Instr.slice,hx,Option.map_some,this,run_sz (.inl hok'),hs,Sem.run_pure]
    ·rw [hx] at h5
     have:=V_sliceY (V_capY h5 b4) b1 (by simp;omega)
     rw [List.take_take,Nat.min_eq_left b2] at this
     show V g' w (.Y ((m.take rr).drop l)) _
     rw [Nat.mul_one]
     exact this
   ·rename_i hb
    obtain ⟨m,rfl,h6⟩:=mL_inv h1 hR
    obtain ⟨ad,len,cap,hx,e1,e2,e3⟩:=V_L' h5
    obtain ⟨l,rr,mm,b1,b2,b4,h7,b3⟩:=bounds3_run hl hh hm h6 hR
    refine .valU r hd h7 (u := .slice (if mm=l then ad else ad.map (·.add (l*szT C.P e))) (rr-l) (mm-l)) ?_ h3 h4 ?_
    ·have:=b3 true len cap (by omega)
     simp only [execOp,ho,Instr.sliceAt,Sem.run_bind,run_underlying hu',Result.andThen_ok,Instr.slice,hx,Option.map_some,this,run_sz (.inl hok'),Sem.run_pure]
    ·rw [hx] at h5
     have:=V_slice (V_cap h5 b4) b1 (by simp;omega)
     rw [List.take_take,Nat.min_eq_left b2] at this
     exact this
 ·exact absurd h.symm hR
end
end Go.Vm
namespace Go.Vm
open Go
section
variable {C:Cx} {N:Ann} {nt:NT} {g0 g:Gh} {w0 w:World} {f:Fr} {s:St} {a:Act} {o:Oper}
variable {K:Upd→Res} {R:Res} {G:FuncId→List AV→List HO→Res}
theorem num_inv {e:EV} {u:Value} {K:Int→Res} (hv:VE g w f s e u) (h:num (stdAlg C.pure G) e K=R) (hR:R ≠ .stuck):∃k n,u = .int k n∧k.min≤n∧n≤k.max∧K n=R:=by
 cases e with
 | v av=>
  obtain ⟨k,n,rfl,h1⟩:=mN_inv h hR
  obtain ⟨e1,e2,e3⟩:=V_I' (g:=g) (w:=w) hv
  exact ⟨k,n,e1,e2,e3,h1⟩
 | _=>exact absurd h.symm hR
theorem OpS.window (hC:OkC C) (r:Rel C nt g0 w0 g w f s a) (hd:∀x,o.dst=some x→nt.ok x) (hR:R ≠ .stuck) {t:TypeId} {x lo:Operand} (ho:o.op = .slice t x (some lo) none none)
  (h:(match und C.P t,evO C s x,loO s (evO C s x),some lo,(none:Option Operand) with
   | .slice e, .ls k ver,⟨ver', .arr c _⟩,some _,none=>if ver=ver'∧c.width=szT C.P e∧okT C.P e=true∧byteT C.P e=c.isY then num (stdAlg C.pure G) (evO C s lo) fun n=>(stdAlg C.pure G).chk (decide (0≤n∧n≤(c.len:Int))) (K { dst:=some (.lw k ver n.toNat) }) else (stdAlg C.pure G).stuck
   | .slice e, .v av,_,none,some _=>if okT C.P e=true then (stdAlg C.pure G).mW av (fun id=>match arrAt s.h id with
    | some (t',n',xs)=>num (stdAlg C.pure G) ((List.map (evO C s) (Op.slice t x (some lo) none none).operands.toList).getD 1 (.v .U)) fun n=>(stdAlg C.pure G).chk (decide (0≤n∧n≤(xs.length:Int))) (K { dst:=some (.ls (o.dst.getD 0) ((s.loc (o.dst.getD 0)).ver+1)),locs:=[((o.dst.getD 0),⟨(s.loc (o.dst.getD 0)).ver+1, .arr (.e t' n' (xs.take n.toNat)) true⟩)],dl:=[(id, .no)] })
    | none=>(stdAlg C.pure G).stuck) (stdAlg C.pure G).stuck else (stdAlg C.pure G).stuck
   | _,_,_,_,_=>(stdAlg C.pure G).stuck)=R):OpS C nt g0 w0 s a w o K R:=by
 split at h
 case h_3=>exact absurd h.symm hR
 case h_2=>contradiction
 rename_i e k ver ver' c ex lo' hu e1 el q1 q2
 split at h
 case isFalse=>exact absurd h.symm hR
 rename_i hc
 obtain ⟨rfl,hw,hok,hy⟩:=hc
 have hu':=und_some hu (by simp)
 have hve:=r.ev x
 rw [e1] at hve el
 simp only [loO,EV.site] at el
 have hx:=hve.2 (by rw [el]) c ex (by rw [el])
 have hlr:=r.core.loc k
 unfold LR at hlr
 rw [el] at hlr
 have hlen:∃ad cap,f.hd k = .slice ad c.len cap∧c.len≤cap∧c.len≤9223372036854775807:=by
  cases c with
  | e t nn xs=>
   obtain ⟨vals,hrow,_⟩:=hlr
   obtain ⟨ad,cap,q1,q2⟩:=ownsRow_len hrow
   exact ⟨ad,cap,q1,q2.1,q2.2⟩
  | y t sb=>
   obtain ⟨hrow,_⟩:=hlr
   obtain ⟨ad,cap,q1,q2⟩:=ownsRow_len hrow
   exact ⟨ad,cap,q1,q2.1,q2.2⟩
 obtain ⟨ad,cap,hhd,hlc,hl63⟩:=hlen
 have h':boundsK (stdAlg C.pure G) (some (evO C s lo)) none c.len (fun l r=>if r=c.len then K { dst:=some (.lw k ver l) } else .stuck)=R:=by
  show num (stdAlg C.pure G) (evO C s lo) (fun n=>(stdAlg C.pure G).chk (decide (0≤n∧n≤(c.len:Int))) (if c.len=c.len then K { dst:=some (.lw k ver n.toNat) } else .stuck))=R
  simp only [if_true]
  exact h
 obtain ⟨l,rr,b1,b2,h7,b3⟩:=bounds_run (vl:=some (a.eval lo)) (vh:=none) (.inr ⟨_,_,rfl,rfl,r.ev lo⟩) (.inl ⟨rfl,rfl⟩) h' hR
 split at h7
 case isFalse=>exact absurd h7.symm hR
 rename_i hrr
 subst hrr
 have hb:=b3 true cap (by omega)
 refine .val r hd h7 (u := .slice (if cap=l then ad else ad.map (·.add (l*szT C.P e))) (c.len-l) (cap-l)) ?_ ?_
 ·simp only [execOp,ho,Instr.sliceAt,Sem.run_bind,run_underlying hu',Result.andThen_ok,Instr.slice,hx,hhd,Option.map_none,Option.map_some,hb,run_sz (.inl hok),Sem.run_pure]
 ·refine ⟨hve.1,fun e2 c' ex' e3 => ?_⟩
  rw [el] at e3
  cases e3
  exact ⟨b1,ad,c.len,cap,hhd,by rw [hw]⟩
theorem OpS.makeInterface (hC:OkC C) (r:Rel C nt g0 w0 g w f s a) (hd:∀x,o.dst=some x→nt.ok x) (hR:R ≠ .stuck) {t:TypeId} {x:Operand} (ho:o.op = .makeInterface t x)
  (h:opH C N G o s K R):OpS C nt g0 w0 s a w o K R:=by
 simp only [opH,opF,ho,Op.operands,List.map_cons,List.map_nil,List.getD_cons_zero,List.getD_cons_succ] at h
 have go:∀d,C.P.underlying t=some d→(∀ms,d ≠ .interface ms)→use (stdAlg C.pure G) C t (evO C s x) (loO s (evO C s x)) (fun a u=>K { dst:=some (.v (.X t a)),locs:=u })=R→OpS C nt g0 w0 s a w o K R:=by
  intro d hu hne h
  obtain ⟨av,us,g',h1,h2,h3,h4,h5⟩:=r.use h hR
  refine .valU r hd h1 (u := .iface t (a.eval x)) ?_ h3 h4 ?_
  ·simp only [execOp,ho,Instr.makeInterface,Sem.run_bind,run_underlying hu,Result.andThen_ok]
   cases d<;>first | rfl | exact absurd rfl (hne _)
  ·show V g' w (.X t av) _
   simp only [V]
   exact ⟨_,rfl,h5⟩
 split at h
 ·exact absurd h.symm hR
 ·exact absurd h.symm hR
 ·rename_i hn1 hn2
  refine go _ (und_some rfl (fun e=>hn2 e)) (fun ms e=>hn1 ms e) h
theorem bytes_push:∀(l:List UInt8) (r:ByteArray),(l.map fun x=>(x.toNat:Int)).foldl (fun r n=>r.push (UInt8.ofNat n.toNat)) r=⟨(r.data.toList++l).toArray⟩
 | [],r=>by apply ByteArray.ext;simp
 | x::l,r=>by
  simp only [List.map_cons,List.foldl_cons]
  rw [bytes_push l]
  apply ByteArray.ext
  simp
theorem run_bytes_str {m:List UInt8} {u:Value} (h:V g w (.Y m) u):(Conv.bytesToString u).run C.P w = .ok (.string ⟨m.toArray⟩) w:=by
 obtain ⟨ad,len,cap,rfl,e1,e2,e3⟩:=V_Y' h
 cases ad with
 | none=>
  rcases e3 with rfl | ⟨b,o,h1,_⟩
  ·rfl
  ·cases h1
 | some ad=>
  have hl:(loadCells ad len).run C.P w = .ok ((m.map fun x=>(x.toNat:Int)).map (Value.int .u8)).toArray w:=by
   rcases e3 with rfl | ⟨b,o,h1,h2⟩
   ·simp only [List.length_nil] at e1
    subst e1
    rfl
   ·cases h1
    have:=run_loadCells_list (P:=C.P) w ⟨b,o,none⟩ ((m.map fun x=>(x.toNat:Int)).map (Value.int .u8)) (fun j v hv=>by
     rw [add_off]
     simp only [List.getElem?_map,Option.map_eq_some_iff] at hv
     obtain ⟨_,⟨x,hx,rfl⟩,rfl⟩:=hv
     have hlt:j<m.length:=(List.getElem?_eq_some_iff.1 hx).1
     have hg:=VY_drop j m o h2
     rw [List.drop_eq_getElem_cons hlt] at hg
     rw [(List.getElem?_eq_some_iff.1 hx).2] at hg
     exact hg.2.1)
    rw [List.length_map,List.length_map,←e1] at this
    exact this
  rw [run_bytesToString w ad len cap _ hl,bytes_push]
  simp
theorem OpS.index (hC:OkC C) (r:Rel C nt g0 w0 g w f s a) (hd:∀x,o.dst=some x→nt.ok x) (hR:R ≠ .stuck) {t:TypeId} {x y:Operand} (ho:o.op = .index t x y)
  (h:opH C N G o s K R):OpS C nt g0 w0 s a w o K R:=by
 simp only [opH,opF,ho,Op.operands,List.map_cons,List.map_nil,List.getD_cons_zero,List.getD_cons_succ] at h
 split at h
 ·rename_i av e1
  obtain ⟨k,n,hy,_,_,h1⟩:=num_inv (r.ev y) h hR
  split at h1
  ·rename_i hu
   obtain ⟨m,rfl,h2⟩:=mS_inv h1 hR
   obtain ⟨i1,i2,h3⟩:=ix_inv' h2 hR
   obtain ⟨hx,hm⟩:=V_S' (r.evq e1)
   have hlt:n.toNat<m.length:=by omega
   refine .val r hd h3 (u := .int .u8 (m[n.toNat]'hlt).toNat) ?_ ?_
   ·have hb:(⟨m.toArray⟩:ByteArray)[n.toNat]? = some (m[n.toNat]'hlt):=by
     rw [getElem?_pos _ _ (by simpa [ByteArray.size] using hlt)]
     rfl
    simp [execOp,ho,Instr.index,hy,hx,asIntOf,run_underlying (und_some hu (by simp)),i1,hb]
   ·show V g w (.I .u8 _) _
    rw [List.getD_eq_getElem?_getD,List.getElem?_eq_getElem hlt]
    exact V_I g w (byte_range _)
  ·rename_i len e hu
   split at h1
   ·exact absurd h1.symm hR
   ·rename_i hok
    have hok':okT C.P e=true∧szT C.P e≠0:=⟨by simpa using fun x=>hok (.inl x),fun x=>hok (.inr x)⟩
    obtain ⟨cs,rfl,hl,h2⟩:=mA_inv h1 hR
    obtain ⟨i1,i2,h3⟩:=ix_inv' h2 hR
    obtain ⟨vs,hx,hvs⟩:=V_A' (r.evq e1)
    have hlt:n.toNat*szT C.P e+szT C.P e≤cs.length:=by
     rw [hl]
     have:(n.toNat+1)*szT C.P e≤len*szT C.P e:=Nat.mul_le_mul_right _ (by omega)
     rw [Nat.add_mul] at this
     omega
    split at h3
    ·rename_i ha
     refine .val r hd h3 (u := .agg ((vs.drop (n.toNat*szT C.P e)).take (szT C.P e)).toArray) ?_ ?_
     ·simp [execOp,ho,Instr.index,hy,hx,asIntOf,run_underlying (und_some hu (by simp)),i1,i2,run_sz (.inl hok'.1),run_part_agg hok'.1 ha]
     ·show V g w (.A ((cs.drop (n.toNat*szT C.P e)).take (szT C.P e))) _
      simp only [V]
      exact ⟨_,rfl,VS_take _ _ _ (VS_drop _ _ _ hvs)⟩
    ·rename_i ha
     obtain ⟨u,hu1,hvu,_⟩:=VS_get cs vs hvs (n.toNat*szT C.P e) (by omega)
     refine .val r hd h3 (u:=u) ?_ hvu
     simp [execOp,ho,Instr.index,hy,hx,asIntOf,run_underlying (und_some hu (by simp)),i1,i2,run_sz (.inl hok'.1),run_part_one hok'.1 (by simpa using ha) w vs _ hu1]
  ·exact absurd h1.symm hR
 ·exact absurd h.symm hR
theorem run_indexAt_slice {o':Oper} {t e:TypeId} {x y:Operand} {b o len cap:Nat} {k:IntKind} {n:Int} (ho:o'.op = .indexAddr t x y) (hu:und C.P t = .slice e) (hz:szT C.P e≠0)
  (hx:a.eval x = .slice (some ⟨b,o,none⟩) len cap) (hy:a.eval y = .int k n) (h1:0≤n) (h2:n<len) :
  (execOp a.eval o').run C.P w = .ok (.value (.pointer (some ⟨b,o+n.toNat*szT C.P e,none⟩))) w:=by
 have hu':=und_some hu (by simp)
 have h2':n<(len:Int):=h2
 simp [execOp,ho,Instr.indexAt,hy,hx,asIntOf,run_underlying hu',h1,h2',run_sz (P:=C.P) (.inr hz),add_off]
theorem run_indexAt_array {o':Oper} {t e:TypeId} {x y:Operand} {b o len:Nat} {k:IntKind} {n:Int} (ho:o'.op = .indexAddr t x y) (hu:und C.P t = .array len e) (hz:szT C.P e≠0)
  (hx:a.eval x = .pointer (some ⟨b,o,none⟩)) (hy:a.eval y = .int k n) (h1:0≤n) (h2:n<len) :
  (execOp a.eval o').run C.P w = .ok (.value (.pointer (some ⟨b,o+n.toNat*szT C.P e,none⟩))) w:=by
 have hu':=und_some hu (by simp)
 have h2':n<(len:Int):=h2
 simp [execOp,ho,Instr.indexAt,Instr.sureAddr,hy,hx,asIntOf,run_underlying hu',h1,h2',run_sz (P:=C.P) (.inr hz),add_off]
theorem OpS.indexAddr (hC:OkC C) (r:Rel C nt g0 w0 g w f s a) (hd:∀x,o.dst=some x→nt.ok x) (hR:R ≠ .stuck) {t:TypeId} {x y:Operand} (ho:o.op = .indexAddr t x y)
  (h:opH C N G o s K R):OpS C nt g0 w0 s a w o K R:=by
 simp only [opH,opF,idxK,ho,Op.operands,List.map_cons,List.map_nil,List.getD_cons_zero,List.getD_cons_succ] at h
 obtain ⟨k,n,hy,_,_,h1⟩:=num_inv (r.ev y) h hR
 split at h1
 ·rename_i len e hu
  split at h1
  ·exact absurd h1.symm hR
  ·rename_i hz
   split at h1
   ·rename_i av e1
    obtain ⟨id,off,rfl,h2⟩:=mP_inv h1 hR
    obtain ⟨i1,i2,h3⟩:=ix_inv' h2 hR
    obtain ⟨hlt,hx⟩:=V_P' (r.evv e1)
    refine .val r hd h3 (run_indexAt_array ho hu hz hx hy i1 i2) ?_
    show V g w (.P id _) _
    simp only [V]
    exact ⟨hlt,trivial⟩
   ·split at h1
    ·rename_i hc
     obtain ⟨i1,i2,h3⟩:=ix_inv' h1 hR
     obtain ⟨b,off,hx,hs⟩:=cur_ptr (r.ev x) hc
     exact .val r hd h3 (run_indexAt_array ho hu hz hx hy i1 i2) (hs _)
    ·exact absurd h1.symm hR
 ·rename_i e hu
  split at h1
  ·exact absurd h1.symm hR
  ·rename_i hz
   have ofAV:∀av:AV,V g w av (a.eval x)→(if byteT C.P e then (stdAlg C.pure G).mY av fun s=>(stdAlg C.pure G).ix n s.length fun j=>K { dst:=some (.ep 1 [byteAt s j] 0) }
    else (stdAlg C.pure G).mL (szT C.P e) av fun xs=>(stdAlg C.pure G).ix n xs.length fun j=>K { dst:=some (.ep (szT C.P e) (xs.getD j []) 0) })=R→OpS C nt g0 w0 s a w o K R:=by
    intro av hv h
    split at h
    ·rename_i hb
     obtain ⟨m,rfl,h2⟩:=mY_inv h hR
     obtain ⟨i1,i2,h3⟩:=ix_inv' h2 hR
     obtain ⟨ad,ln,cap,hx,q1,q2,q3⟩:=V_Y' hv
     rcases q3 with rfl | ⟨b,o',rfl,q4⟩
     ·simp at i2;omega
     ·refine .val r hd h3 (run_indexAt_slice ho hu hz hx hy i1 (by omega)) ?_
      refine ⟨b,o'+n.toNat,?_,rfl,VY_get _ _ _ q4 (by omega)⟩
      rw [byteT_sz hb,Nat.mul_one]
      rfl
    ·rename_i hb
     obtain ⟨m,rfl,h2⟩:=mL_inv h hR
     obtain ⟨i1,i2,h3⟩:=ix_inv' h2 hR
     obtain ⟨ad,ln,cap,hx,q1,q2,q3⟩:=V_L' hv
     rcases q3 with rfl | ⟨b,o',rfl,q4⟩
     ·simp at i2;omega
     ·refine .val r hd h3 (run_indexAt_slice ho hu hz hx hy i1 (by omega)) ?_
      obtain ⟨q5,q6⟩:=VR_get n.toNat _ _ q4 (by omega)
      exact ⟨b,o'+n.toNat*szT C.P e,rfl,q6,q5⟩
   split at h1
   ·rename_i k0 ver e1
    split at h1
    ·rename_i ver' c ex e2
     split at h1
     ·rename_i hver
      obtain ⟨hver,hwd⟩:=hver
      subst hver
      obtain ⟨i1,i2,h3⟩:=ix_inv' h1 hR
      have hve:=r.ev x
      rw [e1] at hve e2
      simp only [loO,EV.site] at e2
      have hx:=hve.2 (by rw [e2]) c ex (by rw [e2])
      have hlr:=r.core.loc k0
      unfold LR at hlr
      rw [e2] at hlr
      have hsl:∃b cap,f.hd k0 = .slice (some ⟨b,0,none⟩) c.len cap:=by
       have fin:∀{t:TypeId} {nn:Nat} {vals:List Value},w.ownsRow 0 t nn (f.hd k0) c.len vals→∃b cap,f.hd k0 = .slice (some ⟨b,0,none⟩) c.len cap:=by
        intro t nn vals hrow
        rcases hrow.2 with ⟨_,h0⟩ | ⟨b,cap,cur,e3,_⟩
        ·omega
        ·exact ⟨b,cap,e3⟩
       cases c with
       | e t nn xs=>obtain ⟨vals,hrow,_⟩:=hlr;exact fin hrow
       | y t sb=>obtain ⟨hrow,_⟩:=hlr;exact fin hrow
      obtain ⟨b,cap,hsl⟩:=hsl
      rw [hsl] at hx
      refine .val r hd h3 (run_indexAt_slice ho hu hz hx hy i1 i2) ?_
      refine ⟨by rw [e2];exact Nat.le_refl _,fun _ c' ex' e' => ?_⟩
      rw [e2] at e'
      cases e'
      exact ⟨by omega,b,by rw [hsl];rfl,by rw [hwd];simp⟩
     ·exact absurd h1.symm hR
    ·exact absurd h1.symm hR
   ·rename_i av e1
    rcases mW_inv h1 with ⟨id,rfl,h9⟩ | ⟨_,h9⟩
    ·split at h9
     ·rename_i t' n' xs e2
      split at h9
      ·rename_i hnw
       obtain ⟨i1,i2,h3⟩:=ix_inv' h9 hR
       have hv:=r.evv e1
       simp only [V] at hv
       have ho':=r.core.heap.arr id _ _ _ (arrAt_some e2)
       obtain ⟨b,cap,q1,q2⟩:=ho'.head (by omega)
       rw [←hv.2.1] at q1
       refine .val r hd h3 (run_indexAt_slice ho hu hz q1 hy i1 i2) ?_
       show V g w (.P id _) _
       simp only [V]
       refine ⟨hv.1,?_⟩
       rw [q2]
       simp
      ·exact absurd h9.symm hR
     ·exact absurd h9.symm hR
    ·exact ofAV _ (r.evv e1) h9
   ·rename_i k0 ver m off z e1
    have hve:=r.ev x
    rw [e1] at hve
    exact ofAV _ hve.1 h1
   ·rename_i id off hv z e1
    have hve:=r.ev x
    rw [e1] at hve
    exact ofAV _ hve.1 h1
   ·exact absurd h1.symm hR
 ·exact absurd h1.symm hR
theorem OpS.panic (hC:OkC C) (r:Rel C nt g0 w0 g w f s a) (hd:∀x,o.dst=some x→nt.ok x) (hR:R ≠ .stuck) {x:Operand} (ho:o.op = .panic x)
  (h:opH C N G o s K R):OpS C nt g0 w0 s a w o K R:=by
 simp only [opH,opF,ho,Op.operands,List.map_cons,List.map_nil,List.getD_cons_zero,List.getD_cons_succ] at h
 split at h
 ·rename_i av e1
  obtain ⟨t,v,rfl,h1⟩:=mX_inv' h hR
  obtain ⟨u,hx,hu⟩:=V_X' (r.evv e1)
  intro next Q hn hp
  have hrun:(execOp a.eval o).run C.P w = .halt (.panic (.iface t u)) w:=by
   simp [execOp,ho,Instr.panic,hx,goPanic,Sem.run]
  unfold Oper.wp
  rw [hrun]
  refine hp (.X t v) s.h (.iface t u) g w h1.symm r.ext r.core.heap ?_ r.core.wf
  simp only [V]
  exact ⟨u,rfl,hu⟩
 ·exact absurd h.symm hR
theorem VT_take:∀(k:Nat) (cs:List AV) (vs:List Value),VT g w cs vs→VT g w (cs.take k) (vs.take k)
 | 0,_,_,_=>by simp [VT]
 | k+1,[],vs,h=>by simp only [VT] at h;subst h;simp [VT]
 | k+1,c::cs,vs,h=>by
  simp only [VT] at h
  obtain ⟨u,us,rfl,h1,hs⟩:=h
  simp only [List.take_succ_cons,VT]
  exact ⟨u,_,rfl,h1,VT_take k cs us hs⟩
theorem VT_drop:∀(k:Nat) (cs:List AV) (vs:List Value),VT g w cs vs→VT g w (cs.drop k) (vs.drop k)
 | 0,_,_,h=>h
 | k+1,[],vs,h=>by simp only [VT] at h;subst h;simp [VT]
 | k+1,c::cs,vs,h=>by
  simp only [VT] at h
  obtain ⟨u,us,rfl,_,hs⟩:=h
  simpa using VT_drop k cs us hs
theorem VT_app:∀(as bs:List AV) (us vs:List Value),VT g w as us→VT g w bs vs→VT g w (as++bs) (us++vs)
 | [],_,us,_,h,h'=>by simp only [VT] at h;subst h;simpa using h'
 | a::as,bs,us,vs,h,h'=>by
  simp only [VT] at h
  obtain ⟨u,us',rfl,h1,hs⟩:=h
  simp only [List.cons_append,VT]
  exact ⟨u,_,rfl,h1,VT_app as bs us' vs hs h'⟩
theorem VT.length:∀(as:List AV) (vs:List Value),VT g w as vs→vs.length=as.length
 | [],_,h=>by simp only [VT] at h;simp [h]
 | _::as,_,h=>by
  simp only [VT] at h
  obtain ⟨u,us,rfl,_,hs⟩:=h
  simp [VT.length as us hs]
theorem Rel.useAll (r:Rel C nt g0 w0 g w f s a) {tys:List TypeId} {xs:List Operand} {K:List AV→List (Nat×LOv)→Res}
  (h:useAll (stdAlg C.pure G) C tys (xs.map (evO C s)) ((xs.map (evO C s)).map (loO s)) K=R) (hR:R ≠ .stuck) :
  ∃avs us g',K avs us=R∧GSame g g'∧Core g' w f (s.withLocs us)∧Stp g w f s g' w f (s.withLocs us)∧VT g' w avs (xs.map a.eval):=by
 obtain ⟨av,us,g',h1,_,h3,h4,h5,h6⟩:=useAll_frz hR _ _ tys g [] K (fun _ hp=>by cases hp) r.core (r.evs xs) h
 rw [List.append_nil] at h4 h5
 exact ⟨av,us,g',h1,h3,h4,h5,h6⟩
end
end Go.Vm
namespace Go.Vm
open Go
section
variable {C:Cx} {N:Ann} {nt:NT} {g0 g:Gh} {w0 w:World} {f:Fr} {s:St} {a:Act} {o:Oper}
variable {K:Upd→Res} {R:Res} {G:FuncId→List AV→List HO→Res}
theorem args0 {c:Call} {x0:Operand} {rest:List Operand} (h:c.args.toList=x0::rest):(c.args.map a.eval)[0]? = some (a.eval x0):=by
 rw [←Array.getElem?_toList,Array.toList_map,h]
 rfl
theorem run_builtin {c:Call} {b:Builtin} (ho:o.op = .call c) (hc:c.callee = .builtin b) :
  (execOp a.eval o).run C.P w=(Go.builtin b c.argTypes o.type (c.args.map fun | .const _=>true | _=>false) (c.args.map a.eval)).run C.P w:=by
 simp [execOp,ho,resolve,hc,invoke]
 rfl
theorem i64_range {n:Nat} (h:n≤9223372036854775807):IntKind.i64.min≤(n:Int)∧(n:Int)≤IntKind.i64.max:=by
 have e1:IntKind.i64.min = -9223372036854775808:=by decide
 have e2:IntKind.i64.max=9223372036854775807:=by decide
 rw [e1,e2]
 omega
theorem getMap_run {P:Program} {w:World} {b:Nat} {es:Array MapEntry} {clock:Nat} (hb:w.heap[b]? = some (.map es clock)):(getObj b).run P w = .ok (.map es clock) w:=by
 simp [getObj,Sem.run,hb]
theorem OpS.len (hC:OkC C) (r:Rel C nt g0 w0 g w f s a) (hd:∀x,o.dst=some x→nt.ok x) (hR:R ≠ .stuck) {c:Call} (ho:o.op = .call c) (hc:c.callee = .builtin .len)
  (h:opH C N G o s K R):OpS C nt g0 w0 s a w o K R:=by
 simp only [opH,opF,ho,hc,Op.operands,Call.operands,Array.empty_append] at h
 split at h
 ·exact absurd h.symm hR
 ·rename_i t ht
  have ht':c.argTypes[0]? = some t:=ht
  cases hargs:c.args.toList with
  | nil=>
   rw [hargs] at h
   simp only [List.map_nil,List.getD_nil] at h
   split at h
   ·exact absurd h.symm hR
   ·exact absurd h.symm hR
   ·exact absurd h.symm hR
   ·exact absurd h.symm hR
  | cons x0 rest=>
   rw [hargs] at h
   simp only [List.map_cons,List.getD_cons_zero] at h
   have h0:=args0 (a:=a) hargs
   split at h
   ·rename_i hu
    split at h
    ·rename_i av e1
     obtain ⟨m,rfl,h1⟩:=mS_inv h hR
     obtain ⟨hx,hm⟩:=V_S' (r.evv e1)
     refine .val r hd h1 (u := .int .i64 m.length) ?_ (V_I g w (i64_range (by omega)))
     have e2:(⟨m.toArray⟩:ByteArray).size=m.length:=by simp [ByteArray.size]
     rw [run_builtin ho hc]
     simp [Go.builtin,Builtin.len_,ht',h0,hx,run_underlying (und_some hu (by simp)),goInt,e2]
    ·exact absurd h.symm hR
   ·rename_i kt e hu
    split at h
    ·rename_i av e1
     have hve:=r.evv e1
     rcases mMl_inv' h hR with ⟨rfl,h1⟩ | ⟨id,es,rfl,hid,h1⟩
     ·have hx:a.eval x0 = .map none:=by simpa [V] using hve
      obtain ⟨hb,h1⟩:=chk_inv' h1 hR
      refine .val r hd h1 (u := .int .i64 0) ?_ (V_I g w (i64_range (n:=0) (by omega)))
      rw [run_builtin ho hc]
      simp [Go.builtin,Builtin.len_,ht',h0,hx,run_underlying (und_some hu (by simp)),goInt]
     ·have hx:id<g.n∧a.eval x0 = .map (some (g.io id)):=by simpa [V] using hve
      obtain ⟨hb,h1⟩:=chk_inv' h1 hR
      have hb':(lives es).length≤C.bound:=by simpa using hb
      have hC:=hC.bound
      obtain ⟨mes,clock,q1,q2,_⟩:=(r.core.heap.map id es hid).row
      have q2:=q2.length
      rw [Array.length_toList] at q2
      refine .val r hd h1 (u := .int .i64 (lives es).length) ?_ (V_I g w (i64_range (by omega)))
      rw [run_builtin ho hc]
      simp [Go.builtin,Builtin.len_,ht',h0,hx.2,run_underlying (und_some hu (by simp)),goInt,getMap_run q1,q2]
    ·exact absurd h.symm hR
   ·rename_i e hu
    have fin:∀ad len cap,a.eval x0 = .slice ad len cap→len≤9223372036854775807→K { dst:=some (.v (.I .i64 len)) } = R→OpS C nt g0 w0 s a w o K R:=by
     intro ad len cap hx hl hk
     refine .val r hd hk (u := .int .i64 len) ?_ (V_I g w (i64_range hl))
     rw [run_builtin ho hc]
     simp [Go.builtin,Builtin.len_,ht',h0,hx,run_underlying (und_some hu (by simp)),goInt]
    have finV:∀av:AV,V g w av (a.eval x0)→((stdAlg C.pure G).mLen av fun n=>K { dst:=some (.v (.I .i64 n)) })=R→OpS C nt g0 w0 s a w o K R:=by
     intro av hv h
     rcases mLen_inv' h hR with ⟨n,xs,rfl,h1⟩ | ⟨sb,rfl,h1⟩
     ·obtain ⟨ad,ln,cap,hx,q1,q2,q3⟩:=V_L' hv
      rw [←q1] at h1
      exact fin ad ln cap hx q2.2 h1
     ·obtain ⟨ad,ln,cap,hx,q1,q2,q3⟩:=V_Y' hv
      rw [←q1] at h1
      exact fin ad ln cap hx q2.2 h1
    split at h
    ·rename_i k ver ver' cc ex e1 e2
     split at h
     ·rename_i hver
      subst hver
      have hve:=r.ev x0
      rw [e1] at hve e2
      simp only [loO,EV.site] at e2
      have hx:=hve.2 (by rw [e2]) cc ex (by rw [e2])
      have hlr:=r.core.loc k
      unfold LR at hlr
      rw [e2] at hlr
      have:∃ad cap,f.hd k = .slice ad cc.len cap∧cc.len≤9223372036854775807:=by
       cases cc with
       | e t nn xs=>
        obtain ⟨vals,hrow,_⟩:=hlr
        obtain ⟨ad,cap,q1,q2⟩:=ownsRow_len hrow
        exact ⟨ad,cap,q1,q2.2⟩
       | y t sb=>
        obtain ⟨hrow,_⟩:=hlr
        obtain ⟨ad,cap,q1,q2⟩:=ownsRow_len hrow
        exact ⟨ad,cap,q1,q2.2⟩
      obtain ⟨ad,cap,q1,q2⟩:=this
      exact fin ad _ cap (hx.trans q1) q2 h
     ·exact absurd h.symm hR
    ·rename_i k ver m off z e1
     have hve:=r.ev x0
     rw [e1] at hve
     exact finV _ hve.1 h
    ·rename_i id off hv z e1
     have hve:=r.ev x0
     rw [e1] at hve
     exact finV _ hve.1 h
    ·rename_i av e1
     rcases mW_inv h with ⟨id,rfl,h9⟩ | ⟨_,h9⟩
     ·split at h9
      ·rename_i t' n' xs e2
       have hv:=r.evv e1
       simp only [V] at hv
       obtain ⟨vals,hrow,_⟩:=(r.core.heap.arr id _ _ _ (arrAt_some e2)).sr
       obtain ⟨ad,cap,q1,q2⟩:=ownsRow_len hrow
       exact fin ad _ cap (hv.2.1.trans q1) q2.2 h9
      ·exact absurd h9.symm hR
     ·exact finV _ (r.evv e1) h9
    ·exact absurd h.symm hR
   ·exact absurd h.symm hR
theorem OpS.max (r:Rel C nt g0 w0 g w f s a) (hd:∀x,o.dst=some x→nt.ok x) (hR:R ≠ .stuck) {c:Call} (ho:o.op = .call c) (hc:c.callee = .builtin .max)
  (h:opH C N G o s K R):OpS C nt g0 w0 s a w o K R:=by
 simp only [opH,opF,ho,hc,Op.operands,Call.operands,Array.empty_append] at h
 split at h
 ·rename_i x y e1
  split at h
  ·rename_i k hu
   obtain ⟨m,rfl,h1⟩:=mI_inv h hR
   obtain ⟨n,rfl,h2⟩:=mI_inv h1 hR
   obtain ⟨x0,x1,hargs,q1,q2⟩:∃x0 x1,c.args.toList=[x0,x1]∧evO C s x0 = .v (.I k m)∧evO C s x1 = .v (.I k n):=by
    cases hc':c.args.toList with
    | nil=>rw [hc'] at e1;cases e1
    | cons x0 l=>
     rw [hc'] at e1
     cases l with
     | nil=>simp at e1
     | cons x1 l=>
      cases l with
      | nil=>
       simp only [List.map_cons,List.map_nil,List.cons.injEq,and_true] at e1
       exact ⟨x0,x1,rfl,e1.1,e1.2⟩
      | cons _ _=>simp at e1
   obtain ⟨hx,hm⟩:=V_I' (r.evv q1)
   obtain ⟨hy,hn⟩:=V_I' (r.evv q2)
   have hl:(c.args.map a.eval).toList=[.int k m, .int k n]:=by
    rw [Array.toList_map,hargs]
    simp [hx,hy]
   refine .val r hd h2 (u := .int k (if n>m then n else m)) ?_ (V_I g w (by split<;>assumption))
   rw [run_builtin ho hc]
   simp [Go.builtin,Builtin.max_,hargs,hx,hy,Builtin.max2]
  ·exact absurd h.symm hR
 ·exact absurd h.symm hR
theorem OpS.min (r:Rel C nt g0 w0 g w f s a) (hd:∀x,o.dst=some x→nt.ok x) (hR:R ≠ .stuck) {c:Call} (ho:o.op = .call c) (hc:c.callee = .builtin .min)
  (h:opH C N G o s K R):OpS C nt g0 w0 s a w o K R:=by
 simp only [opH,opF,ho,hc,Op.operands,Call.operands,Array.empty_append] at h
 split at h
 ·rename_i x y e1
  split at h
  ·rename_i k hu
   obtain ⟨m,rfl,h1⟩:=mI_inv h hR
   obtain ⟨n,rfl,h2⟩:=mI_inv h1 hR
   obtain ⟨x0,x1,hargs,q1,q2⟩:∃x0 x1,c.args.toList=[x0,x1]∧evO C s x0 = .v (.I k m)∧evO C s x1 = .v (.I k n):=by
    cases hc':c.args.toList with
    | nil=>rw [hc'] at e1;cases e1
    | cons x0 l=>
     rw [hc'] at e1
     cases l with
     | nil=>simp at e1
     | cons x1 l=>
      cases l with
      | nil=>
       simp only [List.map_cons,List.map_nil,List.cons.injEq,and_true] at e1
       exact ⟨x0,x1,rfl,e1.1,e1.2⟩
      | cons _ _=>simp at e1
   obtain ⟨hx,hm⟩:=V_I' (r.evv q1)
   obtain ⟨hy,hn⟩:=V_I' (r.evv q2)
   have hl:(c.args.map a.eval).toList=[.int k m, .int k n]:=by
    rw [Array.toList_map,hargs]
    simp [hx,hy]
   refine .val r hd h2 (u := .int k (if n<m then n else m)) ?_ (V_I g w (by split<;>assumption))
   rw [run_builtin ho hc]
   simp [Go.builtin,Builtin.min_,hargs,hx,hy,Builtin.min2]
  ·exact absurd h.symm hR
 ·exact absurd h.symm hR
end
end Go.Vm
namespace Go.Vm
open Go
section
variable {C:Cx} {N:Ann} {nt:NT} {g0 g:Gh} {w0 w:World} {f:Fr} {s:St} {a:Act} {o:Oper}
variable {K:Upd→Res} {R:Res} {G:FuncId→List AV→List HO→Res}
theorem run_loadVar_agg {P:Program} {t:TypeId} (h:okT P t=true) (ha:aggT P t=true) {b off:Nat} {vs:List Value} (hl:vs.length=szT P t)
  (hc:∀j v,vs[j]? = some v→w.cell? ⟨b,off+j,none⟩=some v):(loadVar t ⟨b,off,none⟩).run P w = .ok (.agg vs.toArray) w:=by
 have:=run_loadCells_list (P:=P) w ⟨b,off,none⟩ vs (fun j v hv=>by rw [add_off];exact hc j v hv)
 rw [hl] at this
 simp only [loadVar,Sem.run_bind,run_agg h,Result.andThen_ok,ha,if_true,run_sz (.inl h),this,Sem.run_pure]
theorem run_loadVar_one {P:Program} {t:TypeId} (h:okT P t=true) (ha:aggT P t=false) {b off:Nat} {v:Value}
  (hc:w.cell? ⟨b,off,none⟩=some v):(loadVar t ⟨b,off,none⟩).run P w = .ok v w:=by
 simp only [loadVar,Sem.run_bind,run_agg h,Result.andThen_ok,ha,Bool.false_eq_true,if_false,Go.load,Sem.run,hc]
theorem run_load {t:TypeId} {x:Operand} {b off:Nat} {v:Value} (ho:o.op = .load t x) (hx:a.eval x = .pointer (some ⟨b,off,none⟩))
  (h:(loadVar t ⟨b,off,none⟩).run C.P w = .ok v w):(execOp a.eval o).run C.P w = .ok (.value v) w:=by
 simp [execOp,ho,Instr.loadAt,Instr.sureAddr,hx,h]
theorem BoxR.cellAt {own:Own} {co:Nat→Own} {b:Nat} {cs:List HV} (h:BoxR g w own co b cs) {i:Nat} (hi:i<cs.length) :
  ∃u,w.cell? ⟨b,i,none⟩=some u∧∃t,HVC g w (co i) t (cs.getD i (.a .U)) u:=by
 obtain ⟨arr,t,h1,h2,h3⟩:=h.row
 obtain ⟨u,hu,hr⟩:=h3 i (cs[i]'hi) (List.getElem?_eq_getElem hi)
 refine ⟨u,by simp [World.cell?,h1,hu],t,?_⟩
 rw [List.getD_eq_getElem?_getD,List.getElem?_eq_getElem hi]
 exact hr
theorem BoxR.cellsAt {own:Own} {co:Nat→Own} {b:Nat} {cs:List HV} (h:BoxR g w own co b cs):∀(m off:Nat),off+m≤cs.length →
  ∃vs:List Value,vs.length=m∧(∀j v,vs[j]? = some v→w.cell? ⟨b,off+j,none⟩=some v)∧VS g w (((cs.drop off).take m).map HV.toAV) vs
 | 0,off,_=>⟨[],rfl,fun j v hv=>by simp at hv,by simp [VS]⟩
 | m+1,off,hm=>by
  obtain ⟨vs,h1,h2,h3⟩:=BoxR.cellsAt h m (off+1) (by omega)
  obtain ⟨u,hu,hr⟩:=h.cellAt (i:=off) (by omega)
  have hd:cs.drop off=cs.getD off (.a .U)::cs.drop (off+1):=by
   rw [List.drop_eq_getElem_cons (show off<cs.length by omega)]
   congr 1
   rw [List.getD_eq_getElem?_getD,List.getElem?_eq_getElem (show off<cs.length by omega)]
   rfl
  refine ⟨u::vs,by simp [h1],fun j v hv => ?_,?_⟩
  ·cases j with
   | zero=>simp only [List.getElem?_cons_zero,Option.some.injEq] at hv;subst hv;exact hu
   | succ j=>
    rw [List.getElem?_cons_succ] at hv
    have:=h2 j v hv
    rw [show off+1+j=off+(j+1) by omega] at this
    exact this
  ·rw [hd]
   simp only [List.take_succ_cons,List.map_cons,VS]
   obtain ⟨v1,v2⟩:=hr.elim fun _ h=>h.toV
   exact ⟨u,vs,rfl,v1,v2,h3⟩
theorem VC_drop {b:Nat} : ∀(k:Nat) (cs:List AV) (o:Nat),VC g w b o cs→VC g w b (o+k) (cs.drop k)
 | 0,_,_,h=>h
 | k+1,[],_,_=>by simp [VC]
 | k+1,c::cs,o,h=>by
  simp only [VC] at h
  have:=VC_drop k cs (o+1) h.2.2
  rw [show o+1+k=o+(k+1) by omega] at this
  simpa using this
theorem VC_take {b:Nat} : ∀(k:Nat) (cs:List AV) (o:Nat),VC g w b o cs→VC g w b o (cs.take k)
 | 0,_,_,_=>by simp [VC]
 | k+1,[],_,_=>by simp [VC]
 | k+1,c::cs,o,h=>by
  simp only [VC] at h
  simp only [List.take_succ_cons,VC]
  exact ⟨h.1,h.2.1,VC_take k cs (o+1) h.2.2⟩
theorem VC_vals {b:Nat} : ∀(cs:List AV) (o:Nat),VC g w b o cs→∃vs:List Value,vs.length=cs.length∧(∀j v,vs[j]? = some v→w.cell? ⟨b,o+j,none⟩=some v)∧VS g w cs vs
 | [],o,_=>⟨[],rfl,fun j v hv=>by simp at hv,by simp [VS]⟩
 | c::cs,o,h=>by
  simp only [VC] at h
  obtain ⟨h1,⟨u,hu,hv,h1c⟩,hr⟩:=h
  obtain ⟨vs,q1,q2,q3⟩:=VC_vals cs (o+1) hr
  refine ⟨u::vs,by simp [q1],fun j v hj => ?_,?_⟩
  ·cases j with
   | zero=>simp only [List.getElem?_cons_zero,Option.some.injEq] at hj;subst hj;exact hu
   | succ j=>
    rw [List.getElem?_cons_succ] at hj
    have:=q2 j v hj
    rw [show o+1+j=o+(j+1) by omega] at this
    exact this
  ·simp only [VS]
   exact ⟨u,vs,rfl,hv,h1c,q3⟩
theorem VC_cut {b o:Nat} {cs:List AV} (h:VC g w b o cs) {n off m:Nat} (hn:cs.length=n):VC g w b (o+off) (cut cs n off m):=by
 unfold cut
 split
 ·rename_i e
  obtain ⟨rfl,rfl⟩:=e
  exact h
 ·exact VC_take _ _ _ (VC_drop _ _ _ h)
theorem cut_len {cs:List AV} {n off m:Nat} (hn:cs.length=n) (h:off+m≤n):(cut cs n off m).length=m:=by
 unfold cut
 split
 ·rename_i e
  obtain ⟨rfl,rfl⟩:=e
  exact hn
 ·simp;omega
theorem flat_drop {n:Nat} : ∀(i:Nat) (xs:List (List AV)),(∀x∈xs,x.length=n)→i<xs.length→∃rest,xs.flatten.drop (i*n)=xs.getD i []++rest
 | _,[],_,hi=>by simp at hi
 | 0,x::xs,h,_=>⟨xs.flatten,by simp⟩
 | i+1,x::xs,h,hi=>by
  obtain ⟨rest,hr⟩:=flat_drop i xs (fun y hy=>h y (by simp [hy])) (by simpa using hi)
  refine ⟨rest,?_⟩
  have hx:x.length=n:=h x (by simp)
  simp only [List.flatten_cons,List.getD_cons_succ]
  rw [←hr,show (i+1)*n=x.length+i*n by rw [Nat.add_mul,hx];omega,List.drop_append]
  simp
theorem getD_mem_len {n i:Nat} {xs:List (List AV)} (h:∀x∈xs,x.length=n) (hi:i<xs.length):(xs.getD i []).length=n:=by
 rw [List.getD_eq_getElem?_getD,List.getElem?_eq_getElem hi]
 exact h _ (List.getElem_mem hi)
theorem SR.elemAt {own:Own} {t:TypeId} {n:Nat} {xs:List (List AV)} {ex:Bool} {u:Value} {i b:Nat} (h:SR g w own (.e t n xs) ex u) (hi:i<xs.length) (hb:u.ownBlock=some b) :
  ∃vs:List Value,vs.length=n∧(∀j v,vs[j]? = some v→w.cell? ⟨b,i*n+j,none⟩=some v)∧VS g w (xs.getD i []) vs:=by
 obtain ⟨vals,hrow,hn,hlen,hv,_⟩:=h
 have hl:=getD_mem_len hlen hi
 refine ⟨(vals.drop (i*n)).take n,?_,fun j v hj => ?_,?_⟩
 ·have:(i+1)*n≤xs.length*n:=Nat.mul_le_mul_right _ (by omega)
  rw [Nat.add_mul] at this
  simp [hrow.1]
  omega
 ·have hjn:j<n:=by
   have:=(List.getElem?_eq_some_iff.1 hj).1
   simp at this;omega
  rw [List.getElem?_take_of_lt hjn,List.getElem?_drop] at hj
  have:=hrow.cells (g:=b) hb _ v hj
  rw [Addr.add_zero_off] at this
  exact this
 ·obtain ⟨rest,hr⟩:=flat_drop i xs hlen hi
  have h1:=VS_take n _ _ (VS_drop (i*n) _ _ hv)
  rw [hr,←hl,List.take_left'] at h1
  ·rw [hl] at h1;exact h1
  ·rfl
theorem loadK_run (r:Rel C nt g0 w0 g w f s a) (hR:R ≠ .stuck) {t:TypeId} {x:Operand} {K':EV→Res}
  (h:loadK (stdAlg C.pure G) C t (evO C s x) (loO s (evO C s x)) s.h s.hv K'=R):∃e b off v,K' e=R∧a.eval x = .pointer (some ⟨b,off,none⟩)∧(loadVar t ⟨b,off,none⟩).run C.P w = .ok v w∧VE g w f s e v:=by
 simp only [loadK] at h
 split at h
 ·exact absurd h.symm hR
 ·rename_i hok
  have hok:okT C.P t=true:=by simpa using hok
  split at h
  ·
   rename_i k ver off e1
   split at h
   ·rename_i ver' md cs e2
    split at h
    ·rename_i hver
     subst hver
     have hve:=r.ev x
     rw [e1] at hve e2
     simp only [loO,EV.site] at e2
     have hx:=hve.2 (by rw [e2]) md cs (by rw [e2])
     have hbx:=r.core.loc k
     unfold LR at hbx
     rw [e2] at hbx
     split at h
     ·rename_i hag
      obtain ⟨hc,h1⟩:=chk_inv' h hR
      have hle:off+szT C.P t≤cs.length:=by simpa using hc
      obtain ⟨vs,q1,q2,q3⟩:=BoxR.cellsAt hbx _ _ hle
      refine ⟨_,_,_,_,h1,hx,run_loadVar_agg hok hag q1 q2,?_⟩
      show V g w (.A (((cs.drop off).take (szT C.P t)).map HV.toAV)) _
      simp only [V]
      exact ⟨vs,rfl,q3⟩
     ·rename_i hag
      have hag:aggT C.P t=false:=by simpa using hag
      obtain ⟨hc,h1⟩:=chk_inv' h hR
      have hle:off<cs.length:=by simpa using hc
      obtain ⟨u,q1,q2⟩:=BoxR.cellAt hbx hle
      have q3:=(q2.elim fun _ h=>h.toV)
      split at h1
      ·rcases mW_inv h1 with ⟨iw,ew,h1⟩ | ⟨_,h1⟩
       ·exact ⟨_,_,_,_,h1,hx,run_loadVar_one hok hag q1,ew▸q3.1⟩
       refine ⟨_,_,_,_,h1,hx,run_loadVar_one hok hag q1,?_⟩
       refine ⟨q3.1,by rw [e2];exact Nat.le_refl _,fun _ m' cs' e3 => ?_⟩
       rw [e2] at e3
       cases e3
       refine ⟨Nat.le_refl _,fun _=>⟨?_,q1⟩⟩
       rw [List.getElem?_eq_getElem hle,List.getD_eq_getElem?_getD,List.getElem?_eq_getElem hle]
       rfl
      ·exact ⟨_,_,_,_,h1,hx,run_loadVar_one hok hag q1,q3.1⟩
    ·exact absurd h.symm hR
   ·exact absurd h.symm hR
  ·
   rename_i k ver i off e1
   split at h
   ·rename_i ver' t' n xs ex e2
    split at h
    ·rename_i hver
     subst hver
     have hve:=r.ev x
     rw [e1] at hve e2
     simp only [loO,EV.site] at e2
     obtain ⟨hi,b,hb,hx⟩:=hve.2 (by rw [e2]) _ ex (by rw [e2])
     have hlr:=r.core.loc k
     unfold LR at hlr
     rw [e2] at hlr
     obtain ⟨vs,q1,q2,q3⟩:=SR.elemAt hlr hi hb
     have hl:(xs.getD i []).length=n:=by have:=VS.length _ _ q3;omega
     simp only [SC.width] at hx
     split at h
     ·rename_i hag
      split at h
      ·rename_i hle
       refine ⟨_,_,_,_,h,hx,run_loadVar_agg (vs:=(vs.drop off).take (szT C.P t)) hok hag (by simp;omega) fun j v hj => ?_,?_⟩
       ·have hjn:j<szT C.P t:=by
         have:=(List.getElem?_eq_some_iff.1 hj).1
         simp at this;omega
        rw [List.getElem?_take_of_lt hjn,List.getElem?_drop] at hj
        have:=q2 _ v hj
        rw [←Nat.add_assoc] at this
        exact this
       ·show V g w (.A (cut (xs.getD i []) n off (szT C.P t))) _
        simp only [V]
        exact ⟨_,rfl,VS_cut q3 hl⟩
      ·exact absurd h.symm hR
     ·rename_i hag
      split at h
      ·rename_i hle
       obtain ⟨u,hu,hvu,_⟩:=VS_get _ _ q3 off (by omega)
       exact ⟨_,_,_,_,h,hx,run_loadVar_one hok (by simpa using hag) (q2 _ u hu),hvu⟩
      ·exact absurd h.symm hR
    ·exact absurd h.symm hR
   ·rename_i ver' t' sb ex e2
    split at h
    ·rename_i hver
     obtain ⟨hver,hoff,hag⟩:=hver
     subst hver
     subst hoff
     have hve:=r.ev x
     rw [e1] at hve e2
     simp only [loO,EV.site] at e2
     obtain ⟨hi,b,hb,hx⟩:=hve.2 (by rw [e2]) _ ex (by rw [e2])
     have hlr:=r.core.loc k
     unfold LR at hlr
     rw [e2] at hlr
     simp only [SC.len] at hi
     have hc:w.cell? ⟨b,i*1+0,none⟩=some (.int .u8 (sb[i]'hi).toNat):=by
      have:=hlr.1.cells (g:=b) hb i (.int .u8 (sb[i]'hi).toNat) (by simp [hi])
      rw [Addr.add_zero_off] at this
      simpa using this
     refine ⟨_,_,_,_,h,hx,run_loadVar_one hok hag hc,?_⟩
     show V g w (byteAt sb i) _
     unfold byteAt
     rw [List.getD_eq_getElem?_getD,List.getElem?_eq_getElem hi]
     exact V_I g w (byte_range _)
    ·exact absurd h.symm hR
   ·exact absurd h.symm hR
  ·
   rename_i n cs off e1
   have hve:=r.ev x
   rw [e1] at hve
   obtain ⟨b,o',hx,hn,hvc⟩:=hve
   split at h
   ·rename_i hag
    obtain ⟨hc,h1⟩:=chk_inv' h hR
    have hle:off+szT C.P t≤n:=by simpa using hc
    obtain ⟨vs,q1,q2,q3⟩:=VC_vals _ _ (VC_cut (n:=n) (off:=off) (m:=szT C.P t) hvc hn)
    rw [cut_len hn hle] at q1
    refine ⟨_,_,_,_,h1,hx,run_loadVar_agg hok hag q1 q2,?_⟩
    show V g w (.A (cut cs n off (szT C.P t))) _
    simp only [V]
    exact ⟨vs,rfl,q3⟩
   ·rename_i hag
    obtain ⟨hc,h1⟩:=chk_inv' h hR
    have hle:off<n:=by simpa using hc
    obtain ⟨vs,q1,q2,q3⟩:=VC_vals _ _ hvc
    obtain ⟨u,hu,hvu,_⟩:=VS_get _ _ q3 off (by omega)
    exact ⟨_,_,_,_,h1,hx,run_loadVar_one hok (by simpa using hag) (q2 _ u hu),hvu⟩
  ·
   rename_i av e1
   obtain ⟨id,off,rfl,h1⟩:=mP_inv h hR
   obtain ⟨hlt,hx⟩:=V_P' (r.evv e1)
   split at h1
   ·rename_i t' n xs e2
    split at h1
    ·rename_i hin
     obtain ⟨hi,hn⟩:=hin
     have har:=r.core.heap.arr id _ _ _ (arrAt_some e2)
     obtain ⟨b',cap,q0,q00⟩:=har.head (Nat.lt_of_le_of_lt (Nat.zero_le _) hi)
     obtain ⟨vs,q1,q2,q3⟩:=SR.elemAt har.sr hi (b:=b') (by rw [q0];rfl)
     have hl:(xs.getD (off / n) []).length=n:=by have:=VS.length _ _ q3;omega
     have hoff:off=off / n*n+off % n:=by rw [Nat.mul_comm];exact (Nat.div_add_mod off n).symm
     rw [hoff,q00] at hx
     split at h1
     ·rename_i hag
      split at h1
      ·rename_i hle
       refine ⟨_,_,_,_,h1,hx,run_loadVar_agg (vs:=(vs.drop (off % n)).take (szT C.P t)) hok hag (by simp;omega) fun j v hj => ?_,?_⟩
       ·have hjn:j<szT C.P t:=by
         have:=(List.getElem?_eq_some_iff.1 hj).1
         simp at this;omega
        rw [List.getElem?_take_of_lt hjn,List.getElem?_drop] at hj
        have:=q2 _ v hj
        rw [←Nat.add_assoc] at this
        exact this
       ·show V g w (.A (cut (xs.getD (off / n) []) n (off % n) (szT C.P t))) _
        simp only [V]
        exact ⟨_,rfl,VS_cut q3 hl⟩
      ·exact absurd h1.symm hR
     ·rename_i hag
      obtain ⟨u,hu,hvu,_⟩:=VS_get _ _ q3 (off % n) (by rw [hl];exact Nat.mod_lt _ hn)
      exact ⟨_,_,_,_,h1,hx,run_loadVar_one hok (by simpa using hag) (q2 _ u hu),hvu⟩
    ·exact absurd h1.symm hR
   split at h1
   ·rename_i hag
    obtain ⟨cs,hcs,h2⟩:=mO_inv h1 hR
    obtain ⟨hc,h3⟩:=chk_inv' h2 hR
    have hle:off+szT C.P t≤cs.length:=by simpa using hc
    obtain ⟨vs,q1,q2,q3⟩:=BoxR.cellsAt (r.core.heap.obj id cs hcs) _ _ hle
    refine ⟨_,_,_,_,h3,hx,run_loadVar_agg hok hag q1 q2,?_⟩
    show V g w (.A (((cs.drop off).take (szT C.P t)).map HV.toAV)) _
    simp only [V]
    exact ⟨vs,rfl,q3⟩
   ·rename_i hag
    have hag:aggT C.P t=false:=by simpa using hag
    obtain ⟨cs,z,hcs,hz,h2⟩:=mC_inv h1 hR
    have hle:off<cs.length:=(List.getElem?_eq_some_iff.1 hz).1
    obtain ⟨u,q1,q2⟩:=BoxR.cellAt (r.core.heap.obj id cs hcs) hle
    have hgd:cs.getD off (.a .U)=z:=by rw [List.getD_eq_getElem?_getD,hz];rfl
    rw [hgd] at q2
    have q3:=(q2.elim fun _ h=>h.toV)
    split at h2
    ·rcases mW_inv h2 with ⟨iw,ew,h2⟩ | ⟨_,h2⟩
     ·exact ⟨_,_,_,_,h2,hx,run_loadVar_one hok hag q1,ew▸q3.1⟩
     refine ⟨_,_,_,_,h2,hx,run_loadVar_one hok hag q1,?_⟩
     exact ⟨q3.1,Nat.le_refl _,fun _=>⟨cs,hcs,hz,q1⟩⟩
    ·exact ⟨_,_,_,_,h2,hx,run_loadVar_one hok hag q1,q3.1⟩
  ·exact absurd h.symm hR
end
end Go.Vm
namespace Go.Vm
open Go
def Gh.own (g:Gh) (b:Nat) (o:Own):Gh := { g with ow:=fun x=>if x=b then some o else g.ow x }
def Gh.new (g:Gh) (b:Nat) (u:Value):Gh := { g with n:=g.n+1,ix:=fun i=>if i=g.n then (b,u) else g.ix i }
theorem Gh.new_ix_old {g:Gh} {b:Nat} {u:Value} {i:Nat} (h:i<g.n):(g.new b u).ix i=g.ix i:=if_neg (Nat.ne_of_lt h)
theorem Gh.new_io_old {g:Gh} {b:Nat} {u:Value} {i:Nat} (h:i<g.n):(g.new b u).io i=g.io i:=congrArg Prod.fst (Gh.new_ix_old h)
theorem Gh.new_io {g:Gh} {b:Nat} {u:Value} : (g.new b u).io g.n=b:=congrArg Prod.fst (show (g.new b u).ix g.n=(b,u) from if_pos rfl)
theorem Gh.new_hdr {g:Gh} {b:Nat} {u:Value} : (g.new b u).hdr g.n=u:=congrArg Prod.snd (show (g.new b u).ix g.n=(b,u) from if_pos rfl)
def World.push' (w:World) (o:Obj):World := { w with heap:=w.heap.push o }
section
variable {C:Cx} {N:Ann} {nt:NT} {g0 g:Gh} {w0 w:World} {f:Fr} {s:St} {a:Act} {o:Oper}
variable {K:Upd→Res} {R:Res} {G:FuncId→List AV→List HO→Res}
theorem push_get (w:World) (o:Obj) (b:Nat) (hb:b<w.heap.size):(World.push' w o).heap[b]? = w.heap[b]? := by
 simp only [World.push']
 rw [Array.getElem?_push]
 rw [if_neg (by omega)]
theorem push_new (w:World) (o:Obj):(World.push' w o).heap[w.heap.size]? = some o:=by
 simp only [World.push',Array.getElem?_push,if_true]
theorem push_cell (w:World) (o:Obj) (b i:Nat) (hb:b<w.heap.size):(World.push' w o).cell? ⟨b,i,none⟩=w.cell? ⟨b,i,none⟩:=by
 simp only [World.cell?,push_get w o b hb]
theorem frozen_get (w w':World) (a:Addr) (h:w'.heap[a.block]? = w.heap[a.block]?):w'.frozen? a=w.frozen? a:=by
 simp only [World.frozen?,h]
theorem push_chg (hwf:∀b i,g.st b i→b<w.heap.size) (ob:Obj) (ow:Own):Chg (fun _=>False) g w (g.own w.heap.size ow) (World.push' w ob) where
 later:=⟨Nat.le_refl _,fun _ _=>rfl,fun _ _ h=>h,fun b i h=>push_cell w ob b i (hwf b i h),fun b i _ h _ ⟨c,t,e⟩=>⟨c,t,(push_get w ob b (hwf b i h)).trans e⟩⟩
 size:=by simp [World.push']
 blk b hb _:=push_get w ob b hb
 ow b hb _:=by
  simp only [Gh.own]
  rw [if_neg (by omega)]
 st b i _ _ h:=h
 os:=rfl
 tape:=rfl
 out:=rfl
theorem Core.push (hc:Core g w f s) (ob:Obj) (ow:Own):Core (g.own w.heap.size ow) (World.push' w ob) f s where
 heap:=by
  refine ⟨hc.heap.len,fun id hid => ?_,fun id cs h => ?_,fun id es h => ?_,fun id t n xs h=>(hc.heap.arr id t n xs h).chgO (push_chg hc.wf ob ow) (fun b hb=>hb.elim)⟩
  ·have:=hc.heap.lt id hid
   show g.io id<(w.heap.push ob).size
   rw [Array.size_push]
   omega
  ·exact (hc.heap.obj id cs h).chgO (push_chg hc.wf ob ow) (fun b hb=>hb.elim) (fun i b hb=>hb.elim)
  ·exact (hc.heap.map id es h).chgO (push_chg hc.wf ob ow) (fun b hb=>hb.elim)
 loc k:=(hc.loc k).chg (push_chg hc.wf ob ow) fun b hb=>hb.elim
 wf b i h:=by
  have:=hc.wf b i h
  simp [World.push']
  omega
def Fr.setBe (f:Fr) (k b:Nat):Fr := { f with be:=fun j=>if j=k then b else f.be j }
def Fr.setHd (f:Fr) (k:Nat) (u:Value):Fr := { f with hd:=fun j=>if j=k then u else f.hd j }
theorem withLocs_loc (s:St) (k:Nat) (x:LOv) (i:Nat):(s.withLocs [(k,x)]).loc i=if i=k then x else s.loc i:=setLocs_one s.loc k x i
theorem withLocs_cons (s:St) (k:Nat) (x:LOv) (us:List (Nat×LOv)):s.withLocs ((k,x)::us)=(s.withLocs us).withLocs [(k,x)]:=by
 have:setLocs s.loc ((k,x)::us)=setLocs (setLocs s.loc us) [(k,x)]:=by
  funext i
  simp only [setLocs]
 simp only [St.withLocs,this]
theorem Core.newBox (hc:Core g w f s) (k ver:Nat) (hv:(s.loc k).ver<ver) (arr:Array Value) (t:TypeId) (cs:List HV) (hs:arr.size=cs.length)
  (hcs:∀(i:Nat) (x:HV),cs[i]? = some x→∃u,arr[i]? = some u∧HV0 g w x u) :
  Core (g.own w.heap.size (.box k)) (World.push' w (.cells arr t (0,0))) (f.setBe k w.heap.size) (s.withLocs [(k,⟨ver, .box 0 cs⟩)]) ∧
  Stp g w f s (g.own w.heap.size (.box k)) (World.push' w (.cells arr t (0,0))) (f.setBe k w.heap.size) (s.withLocs [(k,⟨ver, .box 0 cs⟩)]):=by
 have hp:=hc.push (.cells arr t (0,0)) (.box k)
 have hch:=push_chg hc.wf (.cells arr t (0,0)) (.box k)
 refine ⟨⟨hp.heap,fun i => ?_,hp.wf⟩,⟨hch.mono fun _ _ h=>h.elim,fun i => ?_,fun id => .keep rfl rfl fun cs0 hid j => ?_⟩⟩
 ·rw [withLocs_loc]
  by_cases e:i=k
  ·subst e
   rw [if_pos rfl]
   show BoxR _ _ _ _ ((f.setBe i w.heap.size).be i) cs
   simp only [Fr.setBe,if_true]
   refine ⟨by simp [Gh.own],fun j h => ?_,arr,t,push_new _ _,hs,fun j x hx => ?_⟩
   ·exact absurd (hc.wf _ _ h) (by omega)
   ·obtain ⟨u,hu,h0⟩:=hcs j x hx
    exact ⟨u,hu, .inl ((h0.later hch.later).hvr _)⟩
  ·rw [if_neg e]
   exact (hp.loc i).fr (by simp [Fr.setBe,e]) rfl
 ·by_cases e:i=k
  ·subst e
   left
   rw [withLocs_loc,if_pos rfl]
   exact hv
  ·refine SiteStp.same (by rw [withLocs_loc,if_neg e]) (by simp [Fr.setBe,e]) rfl fun m cs' hb j => ?_
   have hl:=hc.loc i
   unfold LR at hl
   rw [hb] at hl
   exact push_cell w _ _ j hl.lt
 ·exact push_cell w _ _ j (hc.heap.lt id (by rw [←hc.heap.len];exact (List.getElem?_eq_some_iff.1 hid).1))
def NewC (g:Gh) (w:World) (c:SC) (l:List Value):Prop:=match c with
 | .e _ n xs=>0<n∧(∀x∈xs,x.length=n)∧VS g w xs.flatten (l.take (xs.length*n))
 | .y _ sb=>l.take sb.length=sb.map fun x=>Value.int .u8 x.toNat
theorem Core.newArr (hc:Core g w f s) (k ver:Nat) (hv:(s.loc k).ver<ver) (c:SC) (arr:Array Value) (cap:Nat) (h1:c.len≤cap) (h2:cap≤maxLen) (hs:arr.size=cap*c.width)
  (hcont:NewC g w c arr.toList) :
  Core (g.own w.heap.size (.arr k)) (World.push' w (.cells arr c.elem (0,0))) (f.setHd k (.slice (some ⟨w.heap.size,0,none⟩) c.len cap)) (s.withLocs [(k,⟨ver, .arr c true⟩)]) ∧
  Stp g w f s (g.own w.heap.size (.arr k)) (World.push' w (.cells arr c.elem (0,0))) (f.setHd k (.slice (some ⟨w.heap.size,0,none⟩) c.len cap)) (s.withLocs [(k,⟨ver, .arr c true⟩)]) ∧
  VE (g.own w.heap.size (.arr k)) (World.push' w (.cells arr c.elem (0,0))) (f.setHd k (.slice (some ⟨w.heap.size,0,none⟩) c.len cap)) (s.withLocs [(k,⟨ver, .arr c true⟩)]) (.ls k ver) (.slice (some ⟨w.heap.size,0,none⟩) c.len cap):=by
 have hp:=hc.push (.cells arr c.elem (0,0)) (.arr k)
 have hch:=push_chg hc.wf (.cells arr c.elem (0,0)) (.arr k)
 have hob:∀len,OwnB (g.own w.heap.size (.arr k)) (.arr k) true len (.slice (some ⟨w.heap.size,0,none⟩) c.len cap):=by
  intro len b hb
  simp only [Value.ownBlock,Option.some.injEq] at hb
  subst hb
  refine ⟨by simp [Gh.own],fun i=>⟨fun h=>absurd (hc.wf _ _ h) (by omega),fun h=>absurd h.1 (by simp)⟩⟩
 refine ⟨⟨hp.heap,fun i => ?_,hp.wf⟩,⟨hch.mono fun _ _ h=>h.elim,fun i => ?_,fun id => .keep rfl rfl fun cs0 hid j => ?_⟩,?_⟩
 ·rw [withLocs_loc]
  by_cases e:i=k
  ·subst e
   rw [if_pos rfl]
   show SR _ _ _ c true ((f.setHd i _).hd i)
   simp only [Fr.setHd,if_true]
   cases c with
   | e t n xs=>
    obtain ⟨q1,q2,q3⟩:=hcont
    simp only [SC.len,SC.width,SC.elem] at h1 hs ⊢
    have hlen:xs.length*n≤cap*n:=Nat.mul_le_mul_right _ h1
    refine ⟨arr.toList.take (xs.length*n),⟨by simp;omega, .inr ⟨_,cap,arr,rfl,Nat.zero_le _,push_new _ _,h1,h2,hs,rfl⟩⟩,q1,q2,VS.later hch.later _ _ q3,hob _⟩
   | y t sb=>
    simp only [SC.len,SC.width,SC.elem] at h1 hs ⊢
    refine ⟨⟨by simp, .inr ⟨_,cap,arr,rfl,Nat.zero_le _,push_new _ _,h1,h2,hs,?_⟩⟩,hob _⟩
    rw [Nat.mul_one]
    exact hcont
  ·rw [if_neg e]
   exact (hp.loc i).fr rfl (by simp [Fr.setHd,e])
 ·by_cases e:i=k
  ·subst e
   left
   rw [withLocs_loc,if_pos rfl]
   exact hv
  ·refine SiteStp.same (by rw [withLocs_loc,if_neg e]) rfl (by simp [Fr.setHd,e]) fun m cs' hb j => ?_
   have hl:=hc.loc i
   unfold LR at hl
   rw [hb] at hl
   exact push_cell w _ _ j hl.lt
 ·exact push_cell w _ _ j (hc.heap.lt id (by rw [←hc.heap.len];exact (List.getElem?_eq_some_iff.1 hid).1))
 ·refine ⟨?_,fun _ c' ex' e => ?_⟩
  ·rw [withLocs_loc,if_pos rfl]
   exact Nat.le_refl _
  ·simp [Fr.setHd]
theorem tagZ_len (t:TypeId) (l:List HV):(tagZ t l).length=l.length:=by
 unfold tagZ;split<;>rfl
theorem tagZ_hvc {g:Gh} {w:World} {o:Nat→Own} {t:TypeId} {arr:Array Value} {cs:List HV} (hcs:∀(i:Nat) (x:HV),cs[i]? = some x→∃u,arr[i]? = some u∧HV0 g w x u)
  {i:Nat} {x:HV} (h:(tagZ t cs)[i]? = some x):∃u,arr[i]? = some u∧(HV0 g w x u∨(x = .z t∧u = .pointer none)):=by
 unfold tagZ at h
 split at h
 ·cases i with
  | zero=>
   obtain ⟨u,h1,h2⟩:=hcs 0 _ rfl
   simp only [List.getElem?_cons_zero,Option.some.injEq] at h
   exact ⟨u,h1, .inr ⟨h.symm,h2.1⟩⟩
  | succ i=>
   obtain ⟨u,h1,h2⟩:=hcs (i+1) x h
   exact ⟨u,h1, .inl h2⟩
 ·obtain ⟨u,h1,h2⟩:=hcs i x h
  exact ⟨u,h1, .inl h2⟩
theorem Core.newObj (hc:Core g w f s) (arr:Array Value) (t:TypeId) (cs:List HV) (hs:arr.size=cs.length)
  (hcs:∀(i:Nat) (x:HV),cs[i]? = some x→∃u,arr[i]? = some u∧HV0 g w x u) :
  ∃g',Core g' (World.push' w (.cells arr t (0,0))) f { s with h:=s.h++[.cells (tagZ t cs)],hv:=fun i=>s.hv i+1 } ∧
  Stp g w f s g' (World.push' w (.cells arr t (0,0))) f { s with h:=s.h++[.cells (tagZ t cs)],hv:=fun i=>s.hv i+1 } ∧
  V g' (World.push' w (.cells arr t (0,0))) (.P s.h.length 0) (.pointer (some ⟨w.heap.size,0,none⟩)):=by
 have hlen:=hc.heap.len
 have hch:=push_chg hc.wf (.cells arr t (0,0)) (.obj s.h.length)
 have hch':Chg (fun _=>False) g w ((g.own w.heap.size (.obj s.h.length)).new w.heap.size undef) (World.push' w (.cells arr t (0,0))):=by
  refine ⟨⟨Nat.le_succ _,fun i hi => ?_,hch.later.st,hch.later.cell,hch.later.nf⟩,hch.size,hch.blk,hch.ow,hch.st,hch.os,hch.tape,hch.out⟩
  exact Gh.new_ix_old (g:=g.own w.heap.size (.obj s.h.length)) hi
 refine ⟨_,⟨⟨?_,fun id hid => ?_,fun id cs' h => ?_,fun id es' h => ?_,fun id t' n xs h => ?_⟩,fun k=>(hc.loc k).chg hch' fun b hb=>hb.elim,fun b i h => ?_⟩,⟨hch'.mono fun _ _ h=>h.elim,fun k=>SiteStp.same rfl rfl rfl fun m cs' hb j => ?_,fun _ => .inl (Nat.lt_succ_self _)⟩,?_⟩
 ·rw [List.length_append,hlen];rfl
 ·simp only [World.push',Array.size_push]
  by_cases e:id=g.n
  ·rw [e,show Gh.io _ g.n=w.heap.size from Gh.new_io (g:=g.own w.heap.size (.obj s.h.length))]
   omega
  ·have hid':id<g.n:=by have:id<g.n+1:=hid;omega
   have:=hc.heap.lt id hid'
   rw [show Gh.io _ id=g.io id from Gh.new_io_old (g:=g.own w.heap.size (.obj s.h.length)) hid']
   omega
 ·by_cases e:id<s.h.length
  ·rw [List.getElem?_append_left e] at h
   have:=(hc.heap.obj id cs' h).chgO hch' (fun b hb=>hb.elim) (fun i b hb=>hb.elim)
   rw [show Gh.io _ id=g.io id from Gh.new_io_old (g:=g.own w.heap.size (.obj s.h.length)) (show id<g.n by omega)]
   exact this
  ·have e2:id=s.h.length:=by
    have:=(List.getElem?_eq_some_iff.1 h).1
    simp at this
    omega
   subst e2
   simp at h
   subst h
   rw [show Gh.io _ s.h.length=w.heap.size from hlen▸Gh.new_io (g:=g.own w.heap.size (.obj s.h.length))]
   refine ⟨by simp [Gh.own,Gh.new],fun j h=>absurd (hc.wf _ _ h) (by omega),arr,t,push_new _ _,hs.trans (tagZ_len t cs).symm,fun j x hx => ?_⟩
   obtain ⟨u,hu,h0⟩:=tagZ_hvc (o:=fun _ => .obj 0) hcs hx
   exact ⟨u,hu,h0.imp (fun h0=>(h0.later hch'.later).hvr _) id⟩
 ·have e:id<s.h.length:=by
   rcases Nat.lt_or_ge id s.h.length with e | e
   ·exact e
   ·rw [List.getElem?_append_right e] at h
    cases e2:id-s.h.length with
    | zero=>rw [e2] at h;simp at h
    | succ n=>rw [e2] at h;simp at h
  rw [List.getElem?_append_left e] at h
  have:=(hc.heap.map id es' h).chgO hch' (fun b hb=>hb.elim)
  rw [show Gh.io _ id=g.io id from Gh.new_io_old (g:=g.own w.heap.size (.obj s.h.length)) (show id<g.n by omega)]
  exact this
 ·have e:id<s.h.length:=by
   rcases Nat.lt_or_ge id s.h.length with e | e
   ·exact e
   ·rw [List.getElem?_append_right e] at h
    cases e2:id-s.h.length with
    | zero=>rw [e2] at h;simp at h
    | succ n=>rw [e2] at h;simp at h
  rw [List.getElem?_append_left e] at h
  have:=(hc.heap.arr id t' n xs h).chgO hch' (fun b hb=>hb.elim)
  rw [show Gh.io _ id=g.io id from Gh.new_io_old (g:=g.own w.heap.size (.obj s.h.length)) (show id<g.n by omega),show Gh.hdr _ id=g.hdr id from congrArg Prod.snd (Gh.new_ix_old (g:=g.own w.heap.size (.obj s.h.length)) (show id<g.n by omega))]
  exact this
 ·have:=hc.wf b i h
  simp [World.push']
  omega
 ·have hl:=hc.loc k
  unfold LR at hl
  rw [hb] at hl
  exact push_cell w _ _ j hl.lt
 ·simp only [V]
  refine ⟨by rw [hlen];exact Nat.lt_succ_self _,?_⟩
  rw [hlen,show Gh.io _ g.n=w.heap.size from Gh.new_io (g:=g.own w.heap.size (.obj g.n))]
theorem Core.newMap (hc:Core g w f s) :
  ∃g',Core g' (World.push' w (.map #[] 0)) f { s with h:=s.h++[.map []],hv:=fun i=>s.hv i+1 } ∧
  Stp g w f s g' (World.push' w (.map #[] 0)) f { s with h:=s.h++[.map []],hv:=fun i=>s.hv i+1 } ∧
  V g' (World.push' w (.map #[] 0)) (.M s.h.length) (.map (some w.heap.size)):=by
 have hlen:=hc.heap.len
 have hch:=push_chg hc.wf (.map #[] 0) (.obj s.h.length)
 have hch':Chg (fun _=>False) g w ((g.own w.heap.size (.obj s.h.length)).new w.heap.size undef) (World.push' w (.map #[] 0)):=by
  refine ⟨⟨Nat.le_succ _,fun i hi => ?_,hch.later.st,hch.later.cell,hch.later.nf⟩,hch.size,hch.blk,hch.ow,hch.st,hch.os,hch.tape,hch.out⟩
  exact Gh.new_ix_old (g:=g.own w.heap.size (.obj s.h.length)) hi
 refine ⟨_,⟨⟨?_,fun id hid => ?_,fun id cs' h => ?_,fun id es' h => ?_,fun id t' n xs h => ?_⟩,fun k=>(hc.loc k).chg hch' fun b hb=>hb.elim,fun b i h => ?_⟩,⟨hch'.mono fun _ _ h=>h.elim,fun k=>SiteStp.same rfl rfl rfl fun m cs' hb j => ?_,fun _ => .inl (Nat.lt_succ_self _)⟩,?_⟩
 ·rw [List.length_append,hlen];rfl
 ·simp only [World.push',Array.size_push]
  by_cases e:id=g.n
  ·rw [e,show Gh.io _ g.n=w.heap.size from Gh.new_io (g:=g.own w.heap.size (.obj s.h.length))]
   omega
  ·have hid':id<g.n:=by have:id<g.n+1:=hid;omega
   have:=hc.heap.lt id hid'
   rw [show Gh.io _ id=g.io id from Gh.new_io_old (g:=g.own w.heap.size (.obj s.h.length)) hid']
   omega
 ·have e:id<s.h.length:=by
   rcases Nat.lt_or_ge id s.h.length with e | e
   ·exact e
   ·rw [List.getElem?_append_right e] at h
    cases e2:id-s.h.length with
    | zero=>rw [e2] at h;simp at h
    | succ n=>rw [e2] at h;simp at h
  rw [List.getElem?_append_left e] at h
  have:=(hc.heap.obj id cs' h).chgO hch' (fun b hb=>hb.elim) (fun i b hb=>hb.elim)
  rw [show Gh.io _ id=g.io id from Gh.new_io_old (g:=g.own w.heap.size (.obj s.h.length)) (show id<g.n by omega)]
  exact this
 ·by_cases e:id<s.h.length
  ·rw [List.getElem?_append_left e] at h
   have:=(hc.heap.map id es' h).chgO hch' (fun b hb=>hb.elim)
   rw [show Gh.io _ id=g.io id from Gh.new_io_old (g:=g.own w.heap.size (.obj s.h.length)) (show id<g.n by omega)]
   exact this
  ·have e2:id=s.h.length:=by
    have:=(List.getElem?_eq_some_iff.1 h).1
    simp at this
    omega
   subst e2
   simp at h
   subst h
   rw [show Gh.io _ s.h.length=w.heap.size from hlen▸Gh.new_io (g:=g.own w.heap.size (.obj s.h.length))]
   exact ⟨by simp [Gh.own,Gh.new],fun j h=>absurd (hc.wf _ _ h) (by omega),#[],0,push_new _ _,rfl,fun _=>⟨rfl,rfl⟩⟩
 ·have e:id<s.h.length:=by
   rcases Nat.lt_or_ge id s.h.length with e | e
   ·exact e
   ·rw [List.getElem?_append_right e] at h
    cases e2:id-s.h.length with
    | zero=>rw [e2] at h;simp at h
    | succ n=>rw [e2] at h;simp at h
  rw [List.getElem?_append_left e] at h
  have:=(hc.heap.arr id t' n xs h).chgO hch' (fun b hb=>hb.elim)
  rw [show Gh.io _ id=g.io id from Gh.new_io_old (g:=g.own w.heap.size (.obj s.h.length)) (show id<g.n by omega),show Gh.hdr _ id=g.hdr id from congrArg Prod.snd (Gh.new_ix_old (g:=g.own w.heap.size (.obj s.h.length)) (show id<g.n by omega))]
  exact this
 ·have:=hc.wf b i h
  simp [World.push']
  omega
 ·have hl:=hc.loc k
  unfold LR at hl
  rw [hb] at hl
  exact push_cell w _ _ j hl.lt
 ·simp only [V]
  refine ⟨by rw [hlen];exact Nat.lt_succ_self _,?_⟩
  rw [hlen,show Gh.io _ g.n=w.heap.size from Gh.new_io (g:=g.own w.heap.size (.obj g.n))]
end
end Go.Vm
namespace Go.Vm
open Go
section
variable {C:Cx} {N:Ann} {nt:NT} {g0 g:Gh} {w0 w:World} {f:Fr} {s:St} {a:Act} {o:Oper}
variable {K:Upd→Res} {R:Res} {G:FuncId→List AV→List HO→Res}
theorem zmatch_ok {x:HV} {u:Value} (h:zmatch x u=true):HV0 g w x u:=by
 unfold zmatch at h
 split at h<;>(try simp only [Bool.and_eq_true,beq_iff_eq] at h)
 ·exact ⟨rfl,rfl,by simpa [SC.width] using h⟩
 ·exact ⟨rfl,rfl,Nat.one_pos⟩
 ·rename_i a b
  subst h
  exact ⟨V_B g w _,rfl⟩
 ·rename_i k n k' n'
  obtain ⟨⟨rfl,rfl⟩,rfl⟩:=h
  refine ⟨V_I g w ?_,rfl⟩
  cases k<;>decide
 ·rename_i b
  have hb:b=⟨([]:List UInt8).toArray⟩:=by
   apply ByteArray.ext
   exact Array.eq_empty_of_size_eq_zero h
  rw [hb]
  exact ⟨V_S g w (by simp),rfl⟩
 ·exact ⟨by simp [V],rfl⟩
 ·exact ⟨by simp [V],rfl⟩
 ·exact ⟨by simp [V],rfl⟩
 ·exact ⟨by simp [V],rfl⟩
 ·cases h
theorem zmatchAll_ok:∀(xs:List HV) (us:List Value),zmatchAll xs us=true→us.length=xs.length∧∀(i:Nat) (x:HV),xs[i]? = some x→∃u,us[i]? = some u∧HV0 g w x u
 | [],[],_=>⟨rfl,fun i x h=>by simp at h⟩
 | [],_::_,h=>by simp [zmatchAll] at h
 | _::_,[],h=>by simp [zmatchAll] at h
 | x::xs,u::us,h=>by
  simp only [zmatchAll,Bool.and_eq_true] at h
  obtain ⟨h1,h2⟩:=zmatchAll_ok xs us h.2
  refine ⟨by simp [h1],fun i y hy => ?_⟩
  cases i with
  | zero=>simp only [List.getElem?_cons_zero,Option.some.injEq] at hy ⊢;subst hy;exact ⟨u,rfl,zmatch_ok h.1⟩
  | succ i=>rw [List.getElem?_cons_succ] at hy ⊢;exact h2 i y hy
theorem zeroOK_inv {P:Program} {t:TypeId} (h:zeroOK P t=true):∃i z,P.info? t=some i∧i.zero=some z∧z.cells.size=(zHV P 20 t).length∧(zHV P 20 t).length=i.size ∧
  ∀(j:Nat) (x:HV),(zHV P 20 t)[j]? = some x→∃u,z.cells[j]? = some u∧HV0 g w x u:=by
 unfold zeroOK at h
 split at h
 ·rename_i i hi
  split at h
  ·rename_i z hz
   simp only [Bool.and_eq_true,beq_iff_eq] at h
   obtain ⟨h1,h2⟩:=zmatchAll_ok (g:=g) (w:=w) _ _ h.1
   exact ⟨i,z,hi,hz,by simpa using h1,h.2,fun j x hx=>by simpa using h2 j x hx⟩
  ·cases h
 ·cases h
theorem run_zero {P:Program} {t:TypeId} {i:TypeInfo} {z:Value} (hi:P.info? t=some i) (hz:i.zero=some z) (w:World):(zeroValue t).run P w = .ok z w:=by
 simp [zeroValue,typeInfo,hi,hz]
theorem run_newRow (P:Program) (t:TypeId) (cs:Array Value) (w:World):(newRow t cs).run P w = .ok ⟨w.heap.size,0,none⟩ (World.push' w (.cells cs t (0,0))):=by
 simp [newRow,Go.newObj,Sem.run,World.push']
theorem OpS.to (r:Rel C nt g0 w0 g w f s a) (hd:∀x,o.dst=some x→nt.ok x) {u:Upd} {v:Value} {g':Gh} {w':World} {f':Fr} {e:EV} (hk:K u=R)
  (hx:(execOp a.eval o).run C.P w = .ok (.value v) w') (he:u.dst=some e)
  (hc:Core g' w' f' (Upd.on { u with dst:=none } none s)) (hst:Stp g w f s g' w' f' (Upd.on { u with dst:=none } none s)) (hv:VE g' w' f' (Upd.on { u with dst:=none } none s) e v):OpS C nt g0 w0 s a w o K R:=by
 intro next Q hn _
 refine wp_val hx (hn u g' w' f' _ hk ?_)
 have:=r.to hst hc rfl hd hv
 simp only [Upd.on,he,Option.getD_some,St.put] at this ⊢
 cases h:o.dst<;>simp only [h] at this ⊢ <;> exact this
theorem OpS.alloc (r:Rel C nt g0 w0 g w f s a) (hd:∀x,o.dst=some x→nt.ok x) (hR:R ≠ .stuck) {t:TypeId} (ho:o.op = .alloc t)
  (h:opH C N G o s K R):OpS C nt g0 w0 s a w o K R:=by
 simp only [opH,opF,ho,Op.operands] at h
 split at h
 ·rename_i hz
  obtain ⟨i,z,hi,hz',hl,hl2,hall⟩:=zeroOK_inv (g:=g) (w:=w) hz
  have hrun:(execOp a.eval o).run C.P w = .ok (.value (.pointer (some ⟨w.heap.size,0,none⟩))) (World.push' w (.cells z.cells t (0,0))):=by
   simp [execOp,ho,Instr.alloc,run_zero hi hz',newVar,run_newRow]
  split at h
  ·obtain ⟨g',c1,c2,c3⟩:=r.core.newObj z.cells t _ hl hall
   exact .to r hd h hrun rfl c1 c2 c3
  ·obtain ⟨c1,c2⟩:=r.core.newBox (o.dst.getD 0) ((s.loc (o.dst.getD 0)).ver+1) (Nat.lt_succ_self _) z.cells t _ hl hall
   refine .to r hd h hrun rfl c1 c2 ?_
   refine ⟨?_,fun _ m cs e => ?_⟩
   ·show _≤((s.withLocs [(o.dst.getD 0,_)]).loc (o.dst.getD 0)).ver
    rw [withLocs_loc,if_pos rfl]
    exact Nat.le_refl _
   ·simp [Fr.setBe]
 ·exact absurd h.symm hR
theorem exp_eq {m:Nat} {l:List AV} (h:l.length=m):exp m l=l:=by
 unfold exp
 apply List.ext_getElem?
 intro i
 subst h
 rw [List.getElem?_map]
 by_cases hi:i<l.length
 ·rw [List.getElem?_range hi]
  simp [List.getElem?_eq_getElem hi]
 ·rw [List.getElem?_eq_none (by simpa using hi),List.getElem?_eq_none (by omega)]
  rfl
theorem VS_HV0 {l:List AV} {vs:List Value} (h:VS g w l vs):vs.length=(l.map HV.a).length∧∀(i:Nat) (x:HV),(l.map HV.a)[i]? = some x→∃u,vs[i]? = some u∧HV0 g w x u:=by
 refine ⟨by rw [VS.length _ _ h,List.length_map],fun i x hx => ?_⟩
 rw [List.getElem?_map] at hx
 obtain ⟨v,hv,rfl⟩:=Option.map_eq_some_iff.1 hx
 have hi:=(List.getElem?_eq_some_iff.1 hv).1
 obtain ⟨u,hu,h1,h2⟩:=VS_get _ _ h i hi
 rw [List.getD_eq_getElem?_getD,hv] at h1
 exact ⟨u,hu,h1,h2⟩
theorem withLocs_ver {us:List (Nat×LOv)} (hf:FrzL s.loc us) (k:Nat):((s.withLocs us).loc k).ver=(s.loc k).ver:=by
 show (setLocs s.loc us k).ver=_
 rw [setLocs_frz hf]
 split
 ·unfold freezeLo
  split
  ·rename_i e;rw [e]
  ·rfl
 ·rfl
theorem Rel.useF (r:Rel C nt g0 w0 g w f s a) {ty:TypeId} {x:Operand} {K:AV→List (Nat×LOv)→Res} (h:Vm.use (stdAlg C.pure G) C ty (evO C s x) (loO s (evO C s x)) K=R) (hR:R ≠ .stuck) :
  ∃av us g',K av us=R∧FrzL s.loc us∧Core g' w f (s.withLocs us)∧Stp g w f s g' w f (s.withLocs us)∧V g' w av (a.eval x):=by
 obtain ⟨av,us,g',h1,h2,h3,h4,h5,h6⟩:=use_frz (s0:=s) (us0:=[]) (fun _ hp=>by cases hp) r.core (r.ev x) h hR
 rw [List.append_nil] at h4 h5
 exact ⟨av,us,g',h1,h2,h4,h5,h6⟩
theorem OpS.newCells (r:Rel C nt g0 w0 g w f s a) (hd:∀x,o.dst=some x→nt.ok x) {us:List (Nat×LOv)} {g1:Gh} (hf:FrzL s.loc us) (hc:Core g1 w f (s.withLocs us)) (hst:Stp g w f s g1 w f (s.withLocs us))
  {t:TypeId} {arr:Array Value} {cs:List HV} (hs:arr.size=cs.length) (hcs:∀(i:Nat) (x:HV),cs[i]? = some x→∃u,arr[i]? = some u∧HV0 g1 w x u)
  (hrun:(execOp a.eval o).run C.P w = .ok (.value (.pointer (some ⟨w.heap.size,0,none⟩))) (World.push' w (.cells arr t (0,0))))
  (hk:(if N.heapSite (o.dst.getD 0) then K { dst:=some (.v (.P s.h.length 0)),locs:=us,heap:=some (s.h++[.cells (tagZ t cs)]) }
    else K { dst:=some (.lp (o.dst.getD 0) ((s.loc (o.dst.getD 0)).ver+1) 0),locs:=(o.dst.getD 0,⟨(s.loc (o.dst.getD 0)).ver+1, .box 0 cs⟩)::us })=R):OpS C nt g0 w0 s a w o K R:=by
 have hlen:=r.core.heap.len
 split at hk
 ·obtain ⟨g',c1,c2,c3⟩:=hc.newObj arr t cs hs hcs
  exact .to r hd hk hrun rfl c1 (hst.trans hlen c2) c3
 ·have hv:=withLocs_ver hf (o.dst.getD 0)
  obtain ⟨c1,c2⟩:=hc.newBox (o.dst.getD 0) ((s.loc (o.dst.getD 0)).ver+1) (by rw [hv];exact Nat.lt_succ_self _) arr t cs hs hcs
  rw [←withLocs_cons] at c1 c2
  refine .to r hd hk hrun rfl c1 (hst.trans hlen c2) ?_
  refine ⟨?_,fun _ m cs e => ?_⟩
  ·show _≤((s.withLocs ((o.dst.getD 0,_)::us)).loc (o.dst.getD 0)).ver
   rw [withLocs_cons,withLocs_loc,if_pos rfl]
   exact Nat.le_refl _
  ·simp [Fr.setBe]
theorem OpS.box (r:Rel C nt g0 w0 g w f s a) (hd:∀x,o.dst=some x→nt.ok x) (hR:R ≠ .stuck) {t:TypeId} {x:Operand} (ho:o.op = .box t x)
  (h:opH C N G o s K R):OpS C nt g0 w0 s a w o K R:=by
 simp only [opH,opF,ho,Op.operands,List.map_cons,List.map_nil,List.getD_cons_zero] at h
 have hrun:∀arr,(a.eval x).cells=arr→(execOp a.eval o).run C.P w = .ok (.value (.pointer (some ⟨w.heap.size,0,none⟩))) (World.push' w (.cells arr t (0,0))):=by
  intro arr e
  simp [execOp,ho,Instr.box,newVar,run_newRow,e]
 split at h
 ·rename_i cs e1
  split at h
  ·rename_i hc
   have hx:=r.ev x
   rw [e1] at hx
   obtain ⟨us,q1,q2,q3⟩:=hx
   exact OpS.newCells (N:=N) r hd (us:=[]) (fun _ hp=>by cases hp) r.core (Stp.refl _ _ _ _) (arr:=us.toArray) (by simpa using q2) (fun i x hx=>by simpa using q3 i x hx) (hrun _ (by rw [q1];rfl)) h
  ·exact absurd h.symm hR
 rename_i hne
 obtain ⟨av,us,g1,h1,hf,hc,hst,hv⟩:=r.useF h hR
 split at h1
 ·obtain ⟨l,rfl,hl,h2⟩:=mA_inv h1 hR
  obtain ⟨vs,hx,hvs⟩:=V_A' hv
  rw [exp_eq hl] at h2
  obtain ⟨e1,e2⟩:=VS_HV0 hvs
  exact OpS.newCells (N:=N) r hd hf hc hst (arr:=vs.toArray) (by simpa using e1) (fun i x hx=>by simpa using e2 i x hx) (hrun _ (by rw [hx];rfl)) h2
 ·obtain ⟨h2,h3⟩:=m1_inv h1 hR
  have h1c:=h3 _ _ _ hv
  refine OpS.newCells (N:=N) r hd hf hc hst (arr := #[a.eval x]) (cs:=[.a av]) rfl (fun i x' hx => ?_) (hrun _ ?_) h2
  ·cases i with
   | zero=>simp only [List.getElem?_cons_zero,Option.some.injEq] at hx;subst hx;exact ⟨_,rfl,hv,h1c⟩
   | succ i=>simp at hx
  ·revert h1c
   cases a.eval x<;>simp [Value.oneCell',Value.cells]
end
end Go.Vm
namespace Go.Vm
open Go
section
variable {C:Cx} {N:Ann} {nt:NT} {g0 g:Gh} {w0 w:World} {f:Fr} {s:St} {a:Act} {o:Oper}
variable {K:Upd→Res} {R:Res} {G:FuncId→List AV→List HO→Res}
def setV (vs:List Value) (off:Nat):List Value→List Value
 | []=>vs
 | x::xs=>setV (vs.set off x) (off+1) xs
theorem setV_len:∀(us vs:List Value) (off:Nat),(setV vs off us).length=vs.length
 | [],_,_=>rfl
 | u::us,vs,off=>by simp [setV,setV_len us]
theorem VS_set {x:AV} {u:Value} (hu:V g w x u) (h1:u.oneCell'=true):∀(i:Nat) (cs:List AV) (vs:List Value),VS g w cs vs→VS g w (cs.set i x) (vs.set i u)
 | _,[],vs,h=>by simp only [VS] at h;subst h;simp [VS]
 | 0,c::cs,vs,h=>by
  simp only [VS] at h
  obtain ⟨v,r,rfl,_,_,hr⟩:=h
  simp only [List.set_cons_zero,VS]
  exact ⟨u,r,rfl,hu,h1,hr⟩
 | i+1,c::cs,vs,h=>by
  simp only [VS] at h
  obtain ⟨v,r,rfl,q1,q2,hr⟩:=h
  simp only [List.set_cons_succ,VS]
  exact ⟨v,_,rfl,q1,q2,VS_set hu h1 i cs r hr⟩
theorem VS_setR:∀(l:List AV) (us:List Value) (off:Nat) (cs:List AV) (vs:List Value),VS g w l us→VS g w cs vs→VS g w (setRA cs off l) (setV vs off us)
 | [],us,off,cs,vs,hl,h=>by simp only [VS] at hl;subst hl;exact h
 | x::l,us,off,cs,vs,hl,h=>by
  simp only [VS] at hl
  obtain ⟨u,r,rfl,q1,q2,hr⟩:=hl
  exact VS_setR l r (off+1) _ _ hr (VS_set q1 q2 off cs vs h)
theorem foldl_setV:∀(us:List Value) (off k:Nat) (vs:List Value),(us.zipIdx k).foldl (fun (cs:Array Value) (p:Value×Nat)=>cs.setIfInBounds (off+p.2) p.1) vs.toArray=(setV vs (off+k) us).toArray
 | [],_,_,_=>rfl
 | u::us,off,k,vs=>by
  simp only [List.zipIdx_cons,List.foldl_cons,setV]
  rw [List.setIfInBounds_toArray,foldl_setV us off (k+1)]
  rfl
theorem fill_step {place:Nat→Option (Nat×Nat)} {i off sz:Nat} {v:Value} {rest:List (Nat×Value)} {vs us:List Value} (hp:place i=some (off,sz)) (hc:v.cells=us.toArray) (hl:us.length=sz) (hle:off+sz≤vs.length) :
  Instr.fill place vs.toArray ((i,v)::rest)=Instr.fill place (setV vs off us).toArray rest:=by
 have h1:¬(us.length≠sz):=by omega
 have h2:¬(off+us.length>vs.length):=by omega
 simp only [Instr.fill,hp,hc,List.size_toArray]
 rw [if_neg (by simp;omega)]
 congr 1
 rw [←Array.foldl_toList]
 have:=foldl_setV us off 0 vs
 simp only [Nat.add_zero] at this
 rw [←this]
 simp
theorem partK_inv {t:TypeId} {x:AV} {u:Value} {K:List AV→Res} (hv:V g w x u) (h:partK (stdAlg C.pure G) C t x K=R) (hR:R ≠ .stuck) :
  ∃l us,K l=R∧u.cells=us.toArray∧us.length=szT C.P t∧VS g w l us:=by
 unfold partK at h
 split at h
 ·obtain ⟨l,rfl,hl,h2⟩:=mA_inv h hR
  obtain ⟨vs,rfl,hvs⟩:=V_A' hv
  rw [exp_eq hl] at h2
  exact ⟨l,vs,h2,rfl,(VS.length _ _ hvs).trans hl,hvs⟩
 ·split at h
  ·rename_i hz
   obtain ⟨h2,h3⟩:=m1_inv h hR
   have h1c:=h3 _ _ _ hv
   refine ⟨[x],[u],h2,?_,hz.symm,?_⟩
   ·revert h1c
    cases u<;>simp [Value.oneCell',Value.cells]
   ·simp only [VS]
    exact ⟨u,[],rfl,hv,h1c,rfl⟩
  ·exact absurd h.symm hR
theorem emptySC_ok {P:Program} {e:TypeId} (h:(byteT P e||Nat.blt 0 (szT P e))=true):(emptySC P e).len=0∧0<(emptySC P e).width:=by
 unfold emptySC
 split
 ·exact ⟨rfl,Nat.one_pos⟩
 ·rename_i hb
  refine ⟨rfl,?_⟩
  have hb':byteT P e=false:=by simpa using hb
  simpa [hb',SC.width] using h
theorem emptyOf_ok {P:Program} {t:TypeId} (h:isSlice P t=true):(emptyOf P t).len=0∧0<(emptyOf P t).width:=by
 unfold isSlice at h
 unfold emptyOf
 split at h
 ·exact emptySC_ok h
 ·cases h
theorem partHK_inv {f:Fr} {s0:St} {us0:List (Nat×LOv)} {t:TypeId} {ev:EV} {u:Value} {K:List HV→List (Nat×LOv)→Res} {g:Gh}
  (hf:FrzL s0.loc us0) (hc:Core g w f (s0.withLocs us0)) (hv:VE g w f (s0.withLocs us0) ev u) (h:partHK (stdAlg C.pure G) C t ev (loO s0 ev) K=R) (hR:R ≠ .stuck) :
  ∃l us g' vs,K l us=R∧FrzL s0.loc us∧Core g' w f (s0.withLocs (us++us0))∧Stp g w f (s0.withLocs us0) g' w f (s0.withLocs (us++us0))∧u.cells=vs.toArray∧vs.length=szT C.P t∧AgR g' w l vs:=by
 have gen:(Vm.use (stdAlg C.pure G) C t ev (loO s0 ev) fun a u=>partK (stdAlg C.pure G) C t a fun l=>K (l.map .a) u)=R →
   ∃l us g' vs,K l us=R∧FrzL s0.loc us∧Core g' w f (s0.withLocs (us++us0))∧Stp g w f (s0.withLocs us0) g' w f (s0.withLocs (us++us0))∧u.cells=vs.toArray∧vs.length=szT C.P t∧AgR g' w l vs:=by
  intro h
  obtain ⟨av,us,g',h1,h2,h3,h4,h5,h6⟩:=use_frz hf hc hv h hR
  obtain ⟨l,ul,k1,k2,k3,k4⟩:=partK_inv h6 h1 hR
  exact ⟨_,us,g',ul,k1,h2,h4,h5,k2,k3,VS_HV0 k4⟩
 unfold partHK at h
 split at h
 ·rename_i cs
  split at h
  ·rename_i hcs
   obtain ⟨us,q1,q2⟩:=hv
   exact ⟨cs,[],g,us,h,fun _ hp=>(by cases hp),hc,Stp.refl _ _ _ _,by rw [q1];rfl,q2.1.trans hcs.2,q2⟩
  ·exact absurd h.symm hR
 ·split at h
  ·rename_i hs
   obtain ⟨q1,q2⟩:=emptyOf_ok hs.2.2
   have hu:u = .slice none 0 0:=hv
   refine ⟨_,[],g,[u],h,fun _ hp=>(by cases hp),hc,Stp.refl _ _ _ _,by rw [hu];rfl,hs.2.1.symm,rfl,fun i x hx => ?_⟩
   cases i with
   | zero=>simp only [List.getElem?_cons_zero,Option.some.injEq] at hx;subst hx;exact ⟨_,rfl,hu,q1,q2⟩
   | succ i=>simp at hx
  ·exact gen h
 ·exact gen h
theorem AgR.set {g:Gh} {x:HV} {u:Value} (hu:HV0 g w x u) {cs:List HV} {vs:List Value} (h:AgR g w cs vs) (i:Nat):AgR g w (cs.set i x) (vs.set i u):=by
 refine ⟨by simpa using h.1,fun j y hy => ?_⟩
 rw [List.getElem?_set] at hy
 by_cases e:i=j
 ·subst e
  rw [if_pos rfl] at hy
  split at hy
  ·rename_i hi
   cases hy
   exact ⟨u,by rw [List.getElem?_set_self (by rw [h.1];exact hi)],hu⟩
  ·cases hy
 ·rw [if_neg e] at hy
  obtain ⟨v,h1,h2⟩:=h.2 j y hy
  exact ⟨v,by rw [List.getElem?_set_ne e];exact h1,h2⟩
theorem AgR.setR {g:Gh} : ∀(l:List HV) (us:List Value) (off:Nat) (cs:List HV) (vs:List Value),AgR g w l us→AgR g w cs vs→AgR g w (setR cs off l) (setV vs off us)
 | [],us,off,cs,vs,h,h'=>by
  have:us=[]:=List.eq_nil_of_length_eq_zero (by simpa using h.1)
  subst this
  exact h'
 | x::l,[],off,cs,vs,h,h'=>by have:=h.1;simp at this
 | x::l,u::us,off,cs,vs,h,h'=>by
  simp only [Vm.setR,setV]
  obtain ⟨v,h1,h2⟩:=h.2 0 x rfl
  simp at h1
  subst h1
  exact AgR.setR l us (off+1) _ _ ⟨by simpa using h.1,fun i y hy=>by simpa using h.2 (i+1) y (by simpa using hy)⟩ (h'.set h2 off)
theorem buildK_inv {f:Fr} {s0:St} {place:Nat→Option (Nat×TypeId)} {place':Nat→Option (Nat×Nat)} (hpl:∀i off t,place i=some (off,t)→place' i=some (off,szT C.P t)) (hR:R ≠ .stuck) :
  ∀(ids:List Nat) (evs:List EV) (us:List Value) (cs:List HV) (vs:List Value) (us0:List (Nat×LOv)) (g:Gh) (K:List HV→List (Nat×LOv)→Res),ids.length=evs.length →
   FrzL s0.loc us0→Core g w f (s0.withLocs us0)→VEs g w f (s0.withLocs us0) evs us→AgR g w cs vs →
   buildK (stdAlg C.pure G) C place ids evs (evs.map (loO s0)) cs us0 K=R →
   ∃cs' us' g' vs',K cs' us'=R∧FrzL s0.loc us'∧Core g' w f (s0.withLocs us')∧Stp g w f (s0.withLocs us0) g' w f (s0.withLocs us')∧Instr.fill place' vs.toArray (ids.zip us)=some vs'.toArray∧AgR g' w cs' vs'
 | [],evs,us,cs,vs,us0,g,K,_,hf,hc,_,ha,h=>by
  refine ⟨cs,us0,g,vs,?_,hf,hc,Stp.refl _ _ _ _,by simp [Instr.fill],ha⟩
  cases evs<;>simpa [buildK] using h
 | i::is,[],us,cs,vs,us0,g,K,hl,_,_,_,_,h=>by simp at hl
 | i::is,e::evs,us,cs,vs,us0,g,K,hl,hf,hc,hv,ha,h=>by
  obtain ⟨u,r,rfl,hu,hr⟩:=hv
  simp only [buildK,List.map_cons] at h
  split at h
  ·rename_i off t hp
   split at h
   ·rename_i hle
    obtain ⟨l,us1,g1,ul,h1,f1,c1,s1,q1,q2,q3⟩:=partHK_inv hf hc hu h hR
    have hlen:=hc.heap.len
    have ha1:=(ha.later s1.chg.later)
    have hf1:FrzL s0.loc (us1++us0):=fun p hp=>(List.mem_append.1 hp).elim (f1 p) (hf p)
    obtain ⟨cs',us',g',vs',h2,f2,c2,s2,h3,h4⟩:=buildK_inv hpl hR is evs r _ _ (us1++us0) g1 K (by simpa using hl) hf1 c1 (VEs.stp hlen s1 _ _ hr) (AgR.setR l ul off cs vs q3 ha1) h1
    refine ⟨cs',us',g',vs',h2,f2,c2,s1.trans hlen s2,?_,h4⟩
    rw [List.zip_cons_cons,fill_step (hpl _ _ _ hp) q1 q2 (by rw [ha.1];exact hle)]
    exact h3
   ·exact absurd h.symm hR
  ·exact absurd h.symm hR
theorem run_placesL {P:Program} (w:World):∀(fs:List Field),(fs.all fun f=>okT P f.type)=true →
  (fs.mapM (m:=Sem) fun f=>do pure (f.offset,←sizeOf f.type)).run P w = .ok (fs.map fun f=>(f.offset,szT P f.type)) w
 | [],_=>by simp
 | f::fs,h=>by
  simp only [List.all_cons,Bool.and_eq_true] at h
  have ih:=run_placesL w fs h.2
  simp only [List.mapM_cons,Sem.run_bind,run_sz (.inl h.1),Result.andThen_ok,Sem.run_pure,List.map_cons] at ih ⊢
  rw [ih]
  rfl
theorem run_places' {P:Program} (w:World) (fs:Array Field) (h:(fs.toList.all fun f=>okT P f.type)=true) :
  (fs.mapM (m:=Sem) fun f=>do pure (f.offset,←sizeOf f.type)).run P w = .ok (fs.map fun f=>(f.offset,szT P f.type)) w:=by
 rw [Array.mapM_eq_mapM_toList]
 have:=run_placesL w fs.toList h
 simp only [Sem.run_map,this,Result.andThen_ok]
 congr 1
 rw [←Array.toList_map,Array.toArray_toList]
theorem Rel.useAllF (r:Rel C nt g0 w0 g w f s a) {tys:List TypeId} {xs:List Operand} {K:List AV→List (Nat×LOv)→Res}
  (h:Vm.useAll (stdAlg C.pure G) C tys (xs.map (evO C s)) ((xs.map (evO C s)).map (loO s)) K=R) (hR:R ≠ .stuck) :
  ∃avs us g',K avs us=R∧FrzL s.loc us∧Core g' w f (s.withLocs us)∧Stp g w f s g' w f (s.withLocs us)∧VT g' w avs (xs.map a.eval):=by
 obtain ⟨av,us,g',h1,h2,h3,h4,h5,h6⟩:=useAll_frz hR _ _ tys g [] K (fun _ hp=>by cases hp) r.core (r.evs xs) h
 rw [List.append_nil] at h4 h5
 exact ⟨av,us,g',h1,h2,h4,h5,h6⟩
theorem zip_parts (parts:Array (Nat×Operand)):(parts.map fun p=>(p.1,a.eval p.2)).toList=(parts.toList.map (·.1)).zip ((parts.toList.map (·.2)).map a.eval):=by
 rw [Array.toList_map]
 induction parts.toList with
 | nil=>rfl
 | cons p l ih=>simp only [List.map_cons,List.zip_cons_cons,ih]
theorem OpS.build (r:Rel C nt g0 w0 g w f s a) (hd:∀x,o.dst=some x→nt.ok x) (hR:R ≠ .stuck) {t:TypeId} {parts:Array (Nat×Operand)} (ho:o.op = .build t parts)
  (h:opH C N G o s K R):OpS C nt g0 w0 s a w o K R:=by
 simp only [opH,opF,ho,Op.operands] at h
 split at h
 ·rename_i hz
  have fin:∀(place:Nat→Option (Nat×TypeId)) (place':Nat→Option (Nat×Nat)),(∀i off t,place i=some (off,t)→place' i=some (off,szT C.P t)) →
    (∀zc vs',Instr.fill place' zc ((parts.map fun p=>(p.1,a.eval p.2)).toList)=some vs'→(∃i z,C.P.info? t=some i∧i.zero=some z∧z.cells=zc)→(execOp a.eval o).run C.P w = .ok (.value (.agg vs')) w) →
    (buildK (stdAlg C.pure G) C place (parts.toList.map (·.1)) ((parts.toList.map (·.2)).map (evO C s)) (((parts.toList.map (·.2)).map (evO C s)).map (loO s)) (zHV C.P 20 t) [] fun cs u=>K { dst:=some (.ag cs),locs:=u })=R→OpS C nt g0 w0 s a w o K R:=by
   intro place place' hpl hrun h
   obtain ⟨i,z,hi,hz',hl,hl2,hall⟩:=zeroOK_inv (g:=g) (w:=w) hz
   have hzv:AgR g w (zHV C.P 20 t) z.cells.toList:=⟨by simpa using hl,fun i x hx=>by simpa using hall i x hx⟩
   obtain ⟨cs',us',g',vs',h2,f2,c2,s2,h3,h4⟩:=buildK_inv (s0:=s) hpl hR _ _ _ _ _ [] g _ (by simp) (fun _ hp=>by cases hp) r.core (r.evs _) hzv h
   refine .valU r hd h2 (u := .agg vs'.toArray) (hrun z.cells _ ?_ ⟨i,z,hi,hz',rfl⟩) c2 s2 ⟨vs',rfl,h4⟩
   rw [zip_parts]
   simpa using h3
  split at h
  ·rename_i fs hu
   split at h
   ·exact absurd h.symm hR
   ·rename_i hok
    have hok:(fs.toList.all fun f=>okT C.P f.type)=true:=by simpa using hok
    refine fin _ (fun i=>(fs.map fun f=>(f.offset,szT C.P f.type))[i]?) ?_ ?_ h
    ·intro i off t' hp
     unfold fieldOf at hp
     rw [hu] at hp
     simp only [Option.map_eq_some_iff,Prod.mk.injEq] at hp
     obtain ⟨fd,h1,rfl,rfl⟩:=hp
     simp [h1]
    ·intro zc vs' hfill ⟨i,z,hi,hz',hzc⟩
     have hpl:=run_places' (P:=C.P) w fs hok
     subst hzc
     simp only [execOp,ho,Instr.build,Sem.run_bind,run_zero hi hz',Result.andThen_ok,run_underlying (und_some hu (by simp))] at hpl ⊢
     rw [hpl]
     simp only [Result.andThen_ok]
     rw [hfill]
     rfl
  ·rename_i n e hu
   split at h
   ·exact absurd h.symm hR
   ·rename_i hok
    have hok:okT C.P e=true:=by simpa using hok
    refine fin _ (fun i=>some (i*szT C.P e,szT C.P e)) ?_ ?_ h
    ·intro i off t' hp
     split at hp
     ·cases hp;rfl
     ·cases hp
    ·intro zc vs' hfill ⟨i,z,hi,hz',hzc⟩
     subst hzc
     simp only [execOp,ho,Instr.build,Sem.run_bind,run_zero hi hz',Result.andThen_ok,run_underlying (und_some hu (by simp)),run_sz (.inl hok)]
     rw [hfill]
     rfl
  ·exact absurd h.symm hR
 ·exact absurd h.symm hR
end
end Go.Vm
namespace Go.Vm
open Go
section
variable {C:Cx} {N:Ann} {nt:NT} {g0 g:Gh} {w0 w:World} {f:Fr} {s:St} {a:Act} {o:Oper}
variable {K:Upd→Res} {R:Res} {G:FuncId→List AV→List HO→Res}
theorem rep_cells (zero:Array Value):∀(c:Nat),(List.range (c*zero.size)).map (fun j=>zero[j % zero.size]!)=(List.replicate c zero.toList).flatten
 | 0=>by simp
 | c+1=>by
  rw [Nat.add_mul,Nat.one_mul,List.range_add,List.map_append,rep_cells zero c,List.replicate_succ']
  simp only [List.flatten_append,List.flatten_cons,List.flatten_nil,List.append_nil]
  congr 1
  rw [List.map_map]
  apply List.ext_getElem?
  intro i
  by_cases hi:i<zero.size
  ·rw [List.getElem?_map,List.getElem?_range hi]
   simp only [Option.map_some,Function.comp]
   rw [Nat.add_comm (c*zero.size) i,Nat.add_mul_mod_self_right,Nat.mod_eq_of_lt hi]
   simp [hi]
  ·rw [List.getElem?_eq_none (by simpa using hi),List.getElem?_eq_none (by simpa using hi)]
theorem VS_rep {z:List AV} {us:List Value} (h:VS g w z us):∀c,VS g w (List.replicate c z).flatten (List.replicate c us).flatten
 | 0=>by simp [VS]
 | c+1=>by
  simp only [List.replicate_succ,List.flatten_cons]
  exact VS_app _ _ _ _ h (VS_rep h c)
theorem i64_wrap {n:Int} (h1:0≤n) (h2:n≤140737488355328):IntKind.i64.wrap n=n:=by
 rw [IntKind.wrap_i64]
 omega
theorem wid {P:Program} {e:TypeId} (hb:byteT P e=false) (l:List (List AV)):(SC.e e (szT P e) l).width=szT P e:=rfl
theorem flat_single {α:Type} (x:α):∀n,(List.replicate n [x]).flatten=List.replicate n x
 | 0=>rfl
 | n+1=>by simp only [List.replicate_succ,List.flatten_cons,flat_single x n];rfl
theorem zcell_byte {P:Program} {e:TypeId} (hb:byteT P e=true) {i:TypeInfo} {z:Value} (hi:P.info? e=some i) (hz:i.zero=some z) (hl:z.cells.size=(zHV P 20 e).length)
  (hall:∀(j:Nat) (x:HV),(zHV P 20 e)[j]? = some x→∃u,z.cells[j]? = some u∧HV0 g w x u):z.cells.toList=[.int .u8 0]:=by
 have hz0:zHV P 20 e=[.a (.I .u8 0)]:=by
  unfold zHV
  rw [byteT_und hb]
 rw [hz0] at hl hall
 obtain ⟨u,hu,h0⟩:=hall 0 _ rfl
 have:u = .int .u8 0:=(V_I' (g:=g) (w:=w) h0.1).1
 subst this
 have hl':z.cells.toList.length=1:=by simpa using hl
 obtain ⟨x,hx⟩:=List.length_eq_one_iff.1 hl'
 have:z.cells.toList[0]? = some (.int .u8 0):=by simpa using hu
 rw [hx] at this ⊢
 simp at this
 rw [this]
theorem OpS.makeSlice (hC:OkC C) (r:Rel C nt g0 w0 g w f s a) (hd:∀x,o.dst=some x→nt.ok x) (hR:R ≠ .stuck) {t:TypeId} {x y:Operand} (ho:o.op = .makeSlice t x y)
  (h:opH C N G o s K R):OpS C nt g0 w0 s a w o K R:=by
 simp only [opH,opF,ho,Op.operands,List.map_cons,List.map_nil,List.getD_cons_zero,List.getD_cons_succ] at h
 split at h
 ·rename_i e hu
  obtain ⟨k1,l,hx,_,_,h1⟩:=num_inv (r.ev x) h hR
  obtain ⟨k2,c,hy,_,_,h2⟩:=num_inv (r.ev y) h1 hR
  obtain ⟨hc,h3⟩:=chk_inv' h2 hR
  have hc:0≤l∧l≤c∧c.toNat≤C.bound∧c.toNat*byT C.P e≤C.bound:=by simpa using hc
  obtain ⟨c1,c2,c3,c4⟩:=hc
  have hbd:=hC.bound
  split at h3
  ·rename_i hz
   obtain ⟨hz,hsz⟩:=hz
   obtain ⟨i,z,hi,hz',hl,hl2,hall⟩:=zeroOK_inv (g:=g) (w:=w) hz
   have hi2:i.size=szT C.P e:=(szT_of hi).symm
   have hzs:z.cells.size=szT C.P e:=by omega
   have hbt:i.bytes=byT C.P e:=(byT_of hi).symm
   have w1:=i64_wrap c1 (by omega:l≤140737488355328)
   have w2:=i64_wrap (by omega:0≤c) (by omega:c≤140737488355328)
   have hzv:VS g w (zAV C.P e) z.cells.toList:=zero_VS _ _ (by simpa using hl) (fun i x hx=>by simpa using hall i x hx)
   have hrun:(execOp a.eval o).run C.P w = .ok (.value (.slice (some ⟨w.heap.size,0,none⟩) l.toNat c.toNat)) (World.push' w (.cells (List.replicate c.toNat z.cells.toList).flatten.toArray e (0,0))):=by
    have t1:¬((i.bytes:Int)*c>2 ^ 48):=by
     have:((c.toNat*byT C.P e:Nat):Int)=(i.bytes:Int)*c:=by
      rw [hbt]
      push_cast
      rw [Int.toNat_of_nonneg (by omega),Int.mul_comm]
     omega
    have t2:¬(c.toNat*i.bytes>roomBytes):=by
     rw [hbt]
     unfold roomBytes
     omega
    have t3:=rep_cells z.cells c.toNat
    have t4:¬(c<0):=by omega
    have t5:¬(l<0):=by omega
    have t6:¬(l>c):=by omega
    have hti:(typeInfo e).run C.P w = .ok i w:=by simp [typeInfo,hi]
    have hroom:(askRoom (c.toNat*i.bytes)).run C.P w = .ok () w:=by
     unfold askRoom
     rw [if_neg t2]
     rfl
    simp only [execOp,ho,hx,hy,Instr.makeSlice,Sem.run_bind,run_underlying (und_some hu (by simp)),Result.andThen_ok,asInt,asIntOf,Sem.run_pure,hti,w1,w2,t1,t4,t5,t6,decide_false,Bool.or_false,Bool.false_eq_true,if_false,hroom,run_sz (.inr hsz)]
    by_cases hc0:c.toNat=0
    ·rw [if_pos (by simp [hc0])]
     have hr0:Array.range 0 = #[]:=rfl
     simp [hc0,run_newRow,hr0]
    ·have hne:¬(c.toNat*szT C.P e=0):=Nat.mul_ne_zero hc0 hsz
     rw [if_neg hne]
     have t7:Array.map (fun x=>z.cells[x % z.cells.size]!) (Array.range (c.toNat*szT C.P e))=(List.replicate c.toNat z.cells.toList).flatten.toArray:=by
      rw [←t3,←hzs]
      apply Array.toList_inj.1
      simp
     simp only [Sem.run_bind,run_zero hi hz',Result.andThen_ok,Sem.run_pure,t7,run_newRow]
   have hsize:(List.replicate c.toNat z.cells.toList).flatten.toArray.size=c.toNat*szT C.P e:=by simp [hzs]
   have htake:(List.replicate c.toNat z.cells.toList).flatten.toArray.toList.take (l.toNat*szT C.P e)=(List.replicate l.toNat z.cells.toList).flatten:=by
    obtain ⟨d,hd'⟩:=Nat.exists_eq_add_of_le (show l.toNat≤c.toNat by omega)
    rw [hd',←List.replicate_append_replicate]
    simp only [List.flatten_append]
    apply List.take_left'
    simp [hzs]
   by_cases hb:byteT C.P e=true
   ·rw [if_pos hb] at h3
    have hs1:=byteT_sz hb
    have hzc:=zcell_byte hb hi hz' hl hall
    have e5:(SC.y e (List.replicate l.toNat 0)).len=l.toNat:=by simp [SC.len]
    obtain ⟨d1,d2,d3⟩:=r.core.newArr (o.dst.getD 0) ((s.loc (o.dst.getD 0)).ver+1) (Nat.lt_succ_self _) (.y e (List.replicate l.toNat 0)) (List.replicate c.toNat z.cells.toList).flatten.toArray c.toNat
     (by simp [SC.len];omega) (by unfold maxLen;omega) (by rw [hsize,hs1];rfl) (by
      show _=_
      rw [hs1,Nat.mul_one] at htake
      simp only [List.length_replicate]
      rw [htake,hzc]
      simp [flat_single])
    rw [e5] at d1 d2 d3
    exact .to r hd h3 hrun rfl d1 d2 d3
   ·rw [if_neg hb] at h3
    have hzl:(zAV C.P e).length=szT C.P e:=by
     have:=VS.length _ _ hzv
     simp at this
     omega
    obtain ⟨d1,d2,d3⟩:=r.core.newArr (o.dst.getD 0) ((s.loc (o.dst.getD 0)).ver+1) (Nat.lt_succ_self _) (.e e (szT C.P e) (List.replicate l.toNat (zAV C.P e))) (List.replicate c.toNat z.cells.toList).flatten.toArray c.toNat
     (by simp [SC.len];omega) (by unfold maxLen;omega) hsize (by
      refine ⟨by omega,fun x hx => ?_,?_⟩
      ·rw [(List.mem_replicate.1 hx).2,hzl]
      ·simp only [List.length_replicate]
       rw [htake]
       exact VS_rep hzv _)
    have e5:(SC.e e (szT C.P e) (List.replicate l.toNat (zAV C.P e))).len=l.toNat:=by simp [SC.len]
    rw [e5] at d1 d2 d3
    exact .to r hd h3 hrun rfl d1 d2 d3
  ·exact absurd h3.symm hR
 ·exact absurd h.symm hR
end
end Go.Vm
namespace Go.Vm
open Go
section
variable {C:Cx} {N:Ann} {nt:NT} {g0 g:Gh} {w0 w:World} {f:Fr} {s:St} {a:Act} {o:Oper}
variable {K:Upd→Res} {R:Res} {G:FuncId→List AV→List HO→Res}
theorem setRA_app:∀(l pre mid post:List AV),mid.length=l.length→setRA (pre++mid++post) pre.length l=pre++l++post
 | [],pre,mid,post,h=>by
  have:mid=[]:=List.eq_nil_of_length_eq_zero h
  subst this
  rfl
 | x::l,pre,[],post,h=>by simp at h
 | x::l,pre,m::mid,post,h=>by
  have e:(pre++(m::mid)++post).set pre.length x=(pre++[x])++mid++post:=by
   simp [List.set_append]
  simp only [setRA]
  rw [e,show pre.length+1=(pre++[x]).length by simp,setRA_app l (pre++[x]) mid post (by simpa using h)]
  simp
theorem setRA_flat {n:Nat} {l:List AV} (hl:l.length=n) {xs:List (List AV)} (hx:∀x∈xs,x.length=n) {i:Nat} (hi:i<xs.length):setRA xs.flatten (i*n) l=(xs.set i l).flatten:=by
 have hpre:∀ys:List (List AV),(∀x∈ys,x.length=n)→ys.flatten.length=ys.length*n:=by
  intro ys h
  induction ys with
  | nil=>simp
  | cons y ys ih=>
   simp only [List.flatten_cons,List.length_append,List.length_cons,Nat.add_mul,Nat.one_mul]
   rw [ih (fun x hx=>h x (by simp [hx])),h y (by simp)]
   omega
 have e1:xs=xs.take i++(xs[i]'hi::xs.drop (i+1)):=by
  rw [←List.drop_eq_getElem_cons hi,List.take_append_drop]
 have e2:xs.set i l=xs.take i++(l::xs.drop (i+1)):=by
  rw [List.set_eq_take_append_cons_drop,if_pos hi]
 rw [e2]
 have e3:xs.flatten=(xs.take i).flatten++xs[i]'hi++(xs.drop (i+1)).flatten:=by
  have:=congrArg List.flatten e1
  rw [this,List.flatten_append,List.flatten_cons,List.append_assoc]
 have e4:(xs.take i).flatten.length=i*n:=by
  rw [hpre _ (fun x h=>hx x (List.mem_of_mem_take h))]
  rw [List.length_take,Nat.min_eq_left (by omega)]
 rw [e3,←e4,setRA_app _ _ _ _ (by rw [hx _ (List.getElem_mem hi),hl])]
 simp
theorem elemsK_inv {e:TypeId} (hR:R ≠ .stuck) :
  ∀(ids:List Nat) (as:List AV) (us:List Value) (xs:List (List AV)) (vs:List Value) (K:List (List AV)→Res),ids.length=as.length→VT g w as us→VS g w xs.flatten vs→(∀x∈xs,x.length=szT C.P e) →
   elemsK (stdAlg C.pure G) C e ids as xs K=R →
   ∃xs' vs',K xs'=R∧Instr.fill (fun i=>some (i*szT C.P e,szT C.P e)) vs.toArray (ids.zip us)=some vs'.toArray∧VS g w xs'.flatten vs'∧xs'.length=xs.length∧(∀x∈xs',x.length=szT C.P e)
 | [],as,us,xs,vs,K,_,_,hvs,hx,h=>by
  refine ⟨xs,vs,?_,by simp [Instr.fill],hvs,rfl,hx⟩
  cases as<;>simpa [elemsK] using h
 | i::is,[],us,xs,vs,K,hl,_,hvs,hx,h=>by simp at hl
 | i::is,x::as,us,xs,vs,K,hl,hv,hvs,hx,h=>by
  simp only [VT] at hv
  obtain ⟨u,r,rfl,hu,hr⟩:=hv
  simp only [elemsK] at h
  split at h
  ·rename_i hi
   obtain ⟨l,ul,h1,q1,q2,q3⟩:=partK_inv hu h hR
   have hll:l.length=szT C.P e:=by rw [←q2,VS.length _ _ q3]
   have hset:=VS_setR l ul (i*szT C.P e) _ _ q3 hvs
   rw [setRA_flat hll hx hi] at hset
   obtain ⟨xs',vs',h2,h3,h4,h5,h6⟩:=elemsK_inv hR is as r _ _ K (by simpa using hl) hr hset (fun y hy=>(List.mem_or_eq_of_mem_set hy).elim (hx y) fun e=>by rw [e];exact hll) h1
   refine ⟨xs',vs',h2,?_,h4,by simpa using h5,h6⟩
   have hlen:vs.length=xs.flatten.length:=VS.length _ _ hvs
   have hfl:xs.flatten.length=xs.length*szT C.P e:=by
    clear h1 h h2 h3 h4 h5 h6 hset hvs hlen hi
    induction xs with
    | nil=>simp
    | cons y ys ih=>
     simp only [List.flatten_cons,List.length_append,List.length_cons,Nat.add_mul,Nat.one_mul]
     rw [ih (fun x h=>hx x (by simp [h])),hx y (by simp)]
     omega
   have hle:(i+1)*szT C.P e≤xs.length*szT C.P e:=Nat.mul_le_mul_right _ hi
   rw [Nat.add_mul,Nat.one_mul] at hle
   rw [List.zip_cons_cons,fill_step rfl q1 q2 (by omega)]
   exact h3
  ·exact absurd h.symm hR
theorem byte_back {n:Int} (h:IntKind.u8.min≤n∧n≤IntKind.u8.max):Value.int .u8 ((UInt8.ofNat n.toNat).toNat:Int) = .int .u8 n:=by
 have e1:IntKind.u8.min=0:=by decide
 have e2:IntKind.u8.max=255:=by decide
 rw [e1,e2] at h
 congr 1
 rw [UInt8.toNat_ofNat']
 omega
theorem bytesK_inv (hR:R ≠ .stuck) :
  ∀(ids:List Nat) (as:List AV) (us:List Value) (xs:List UInt8) (K:List UInt8→Res),ids.length=as.length→VT g w as us→bytesK (stdAlg C.pure G) ids as xs K=R →
   ∃xs':List UInt8,K xs'=R∧Instr.fill (fun i=>some (i*1,1)) (xs.map fun x=>Value.int .u8 x.toNat).toArray (ids.zip us)=some (xs'.map fun x=>Value.int .u8 x.toNat).toArray∧xs'.length=xs.length
 | [],as,us,xs,K,_,_,h=>by
  refine ⟨xs,?_,by simp [Instr.fill],rfl⟩
  cases as<;>simpa [bytesK] using h
 | i::is,[],us,xs,K,hl,_,h=>by simp at hl
 | i::is,x::as,us,xs,K,hl,hv,h=>by
  simp only [VT] at hv
  obtain ⟨u,r,rfl,hu,hr⟩:=hv
  simp only [bytesK] at h
  split at h
  ·rename_i hi
   obtain ⟨n,rfl,h1⟩:=mI_inv h hR
   obtain ⟨rfl,hn⟩:=V_I' hu
   obtain ⟨xs',h2,h3,h4⟩:=bytesK_inv hR is as r _ K (by simpa using hl) hr h1
   refine ⟨xs',h2,?_,by simpa using h4⟩
   rw [List.zip_cons_cons,fill_step (us:=[.int .u8 n]) rfl rfl rfl (by simp;omega)]
   rw [←h3]
   congr 2
   simp only [setV,Nat.mul_one,List.map_set,byte_back hn]
  ·exact absurd h.symm hR
theorem run_buildSlice {t e:TypeId} {len:Nat} {parts:Array (Nat×Operand)} (ho:o.op = .buildSlice t len parts) (hu:und C.P t = .slice e) {i:TypeInfo} {z:Value} (hi:C.P.info? e=some i) (hz:i.zero=some z)
  (hzs:z.cells.size=szT C.P e) (hsz:szT C.P e≠0) (hle:len*szT C.P e≤16777216) {vs:List Value}
  (hfill:Instr.fill (fun i=>some (i*szT C.P e,szT C.P e)) (List.replicate len z.cells.toList).flatten.toArray (parts.map fun p=>(p.1,a.eval p.2)).toList=some vs.toArray) :
  (execOp a.eval o).run C.P w = .ok (.value (.slice (some ⟨w.heap.size,0,none⟩) len len)) (World.push' w (.cells vs.toArray e (0,0))):=by
 have h24:¬(len*szT C.P e>2 ^ 24):=by omega
 have t3:=rep_cells z.cells len
 by_cases hc0:len=0
 ·subst hc0
  have hr0:Array.range 0 = #[]:=rfl
  simp only [List.replicate_zero,List.flatten_nil] at hfill
  have hfill':Instr.fill (fun i=>some (i*szT C.P e,szT C.P e)) #[] (parts.map fun p=>(p.1,a.eval p.2)).toList=some vs.toArray:=hfill
  have h24':¬((0:Nat)>2 ^ 24):=by omega
  simp only [execOp,ho,Instr.buildSlice,Sem.run_bind,run_underlying (und_some hu (by simp)),Result.andThen_ok,run_sz (.inr hsz),Nat.zero_mul,if_neg h24',if_true,Sem.run_pure,hr0,Array.map_empty,hfill',run_newRow]
 ·have hne:¬(len*szT C.P e=0):=Nat.mul_ne_zero hc0 hsz
  have t7:Array.map (fun x=>z.cells[x % z.cells.size]!) (Array.range (len*szT C.P e))=(List.replicate len z.cells.toList).flatten.toArray:=by
   rw [←t3,←hzs]
   apply Array.toList_inj.1
   simp
  simp only [execOp,ho,Instr.buildSlice,Sem.run_bind,run_underlying (und_some hu (by simp)),Result.andThen_ok,run_sz (.inr hsz),if_neg h24,if_neg hne,run_zero hi hz,Sem.run_pure,t7,hfill,run_newRow]
theorem OpS.buildSlice (r:Rel C nt g0 w0 g w f s a) (hd:∀x,o.dst=some x→nt.ok x) (hR:R ≠ .stuck) {t:TypeId} {len:Nat} {parts:Array (Nat×Operand)} (ho:o.op = .buildSlice t len parts)
  (h:opH C N G o s K R):OpS C nt g0 w0 s a w o K R:=by
 simp only [opH,opF,ho,Op.operands] at h
 split at h
 ·rename_i e hu
  split at h
  ·rename_i hc
   obtain ⟨hz,hsz,hle⟩:=hc
   obtain ⟨avs,us,g1,h1,hf,hcc,hst,hvt⟩:=r.useAllF h hR
   obtain ⟨i,z,hi,hz',hl,hl2,hall⟩:=zeroOK_inv (g:=g1) (w:=w) hz
   have hzs:z.cells.size=szT C.P e:=by have:=szT_of hi;omega
   have hzv:VS g1 w (zAV C.P e) z.cells.toList:=zero_VS _ _ (by simpa using hl) (fun i x hx=>by simpa using hall i x hx)
   have hzl:(zAV C.P e).length=szT C.P e:=by
    have:=VS.length _ _ hzv
    simp at this
    omega
   have hlen:=VT.length _ _ hvt
   have hids:(parts.toList.map (·.1)).length=avs.length:=by rw [←hlen];simp
   have hvv:=withLocs_ver hf (o.dst.getD 0)
   have hl0:=r.core.heap.len
   split at h1
   ·rename_i hb
    have hs1:=byteT_sz hb
    have hzc:=zcell_byte hb hi hz' hl hall
    obtain ⟨xs',h2,h3,h4⟩:=bytesK_inv hR _ _ _ _ _ hids hvt h1
    have h4':xs'.length=len:=by simpa using h4
    have e5:(SC.y e xs').len=len:=h4'
    have hrun:=run_buildSlice (w:=w) ho hu hi hz' hzs hsz hle (vs:=xs'.map fun x=>Value.int .u8 x.toNat) (by
     rw [zip_parts,hzc,flat_single,hs1]
     simpa using h3)
    obtain ⟨d1,d2,d3⟩:=hcc.newArr (o.dst.getD 0) ((s.loc (o.dst.getD 0)).ver+1) (by rw [hvv];exact Nat.lt_succ_self _) (.y e xs') (xs'.map fun x=>Value.int .u8 x.toNat).toArray len
     (by rw [e5];exact Nat.le_refl _) (by unfold maxLen;have:len≤len*szT C.P e:=Nat.le_mul_of_pos_right _ (by omega);omega) (by simp [SC.width,h4']) (by
      show _=_
      exact List.take_of_length_le (by simp))
    rw [e5] at d1 d2 d3
    rw [←withLocs_cons] at d1 d2 d3
    exact .to r hd h2 hrun rfl d1 (hst.trans hl0 d2) d3
   ·rename_i hb
    obtain ⟨xs',vs',h2,h3,h4,h5,h6⟩:=elemsK_inv hR _ _ _ _ _ _ hids hvt (VS_rep hzv len) (fun x hx=>by rw [(List.mem_replicate.1 hx).2,hzl]) h1
    have hrun:=run_buildSlice (w:=w) ho hu hi hz' hzs hsz hle (vs:=vs') (by rw [zip_parts];exact h3)
    have hvl:vs'.length=len*szT C.P e:=by
     rw [VS.length _ _ h4]
     have hxl:xs'.length=len:=by simpa using h5
     rw [←hxl]
     clear h1 h2 h3 h4 h5 hrun hxl
     induction xs' with
     | nil=>simp
     | cons y ys ih=>
      simp only [List.flatten_cons,List.length_append,List.length_cons,Nat.add_mul,Nat.one_mul]
      rw [ih (fun x h=>h6 x (by simp [h])),h6 y (by simp)]
      omega
    have e5:(SC.e e (szT C.P e) xs').len=len:=by simpa [SC.len] using h5
    obtain ⟨d1,d2,d3⟩:=hcc.newArr (o.dst.getD 0) ((s.loc (o.dst.getD 0)).ver+1) (by rw [hvv];exact Nat.lt_succ_self _) (.e e (szT C.P e) xs') vs'.toArray len
     (by rw [e5];exact Nat.le_refl _) (by unfold maxLen;have:len≤len*szT C.P e:=Nat.le_mul_of_pos_right _ (by omega);omega) (by simpa [SC.width] using hvl) (by
      refine ⟨by omega,h6,?_⟩
      have e6:xs'.length=len:=e5
      rw [e6,←hvl]
      simpa using h4)
    rw [e5] at d1 d2 d3
    rw [←withLocs_cons] at d1 d2 d3
    exact .to r hd h2 hrun rfl d1 (hst.trans hl0 d2) d3
  ·exact absurd h.symm hR
 ·exact absurd h.symm hR
end
end Go.Vm
namespace Go.Vm
open Go
section
variable {C:Cx} {N:Ann} {nt:NT} {g0 g:Gh} {w0 w:World} {f:Fr} {s:St} {a:Act} {o:Oper}
variable {K:Upd→Res} {R:Res} {G:FuncId→List AV→List HO→Res}
theorem Core.newNil (hc:Core g w f s) (k ver:Nat) (hv:(s.loc k).ver<ver) (c:SC) (h0:c.len=0) (hw:0<c.width) :
  Core g w (f.setHd k (.slice none 0 0)) (s.withLocs [(k,⟨ver, .arr c true⟩)]) ∧
  Stp g w f s g w (f.setHd k (.slice none 0 0)) (s.withLocs [(k,⟨ver, .arr c true⟩)]) ∧
  VE g w (f.setHd k (.slice none 0 0)) (s.withLocs [(k,⟨ver, .arr c true⟩)]) (.ls k ver) (.slice none 0 0):=by
 refine ⟨⟨hc.heap,fun i => ?_,hc.wf⟩,⟨Chg.refl _ g w,fun i => ?_,fun id => .keep rfl rfl fun cs0 hid j=>rfl⟩,?_⟩
 ·rw [withLocs_loc]
  by_cases e:i=k
  ·subst e
   rw [if_pos rfl]
   show SR _ _ _ c true ((f.setHd i _).hd i)
   simp only [Fr.setHd,if_true]
   exact SR_empty _ _ h0 hw
  ·rw [if_neg e]
   exact (hc.loc i).fr rfl (by simp [Fr.setHd,e])
 ·by_cases e:i=k
  ·subst e
   left
   rw [withLocs_loc,if_pos rfl]
   exact hv
  ·exact SiteStp.same (by rw [withLocs_loc,if_neg e]) rfl (by simp [Fr.setHd,e]) fun m cs' hb j=>rfl
 ·refine ⟨?_,fun _ c' ex' e => ?_⟩
  ·rw [withLocs_loc,if_pos rfl]
   exact Nat.le_refl _
  ·simp [Fr.setHd]
theorem OpS.assign (r:Rel C nt g0 w0 g w f s a) (hd:∀x,o.dst=some x→nt.ok x) (hR:R ≠ .stuck) {x:Operand} (ho:o.op = .assign x)
  (h:opH C N G o s K R):OpS C nt g0 w0 s a w o K R:=by
 simp only [opH,opF,ho,Op.operands,List.map_cons,List.map_nil,List.getD_cons_zero] at h
 have hrun:(execOp a.eval o).run C.P w = .ok (.value (a.eval x)) w:=by simp [execOp,ho]
 split at h
 ·rename_i e1
  split at h
  ·rename_i hs
   obtain ⟨q1,q2⟩:=emptyOf_ok hs
   have hx:=r.ev x
   rw [e1] at hx
   have hx':a.eval x = .slice none 0 0:=hx
   obtain ⟨d1,d2,d3⟩:=r.core.newNil (o.dst.getD 0) ((s.loc (o.dst.getD 0)).ver+1) (Nat.lt_succ_self _) (emptyOf C.P o.type) q1 q2
   rw [hx'] at hrun
   exact .to r hd h hrun rfl d1 d2 d3
  ·exact absurd h.symm hR
 ·exact .val r hd h hrun (r.ev x)
end
end Go.Vm
namespace Go.Vm
open Go
section
variable {C:Cx} {N:Ann} {nt:NT} {g0 g:Gh} {w0 w:World} {f:Fr} {s:St} {a:Act} {o:Oper}
variable {K:Upd→Res} {R:Res} {G:FuncId→List AV→List HO→Res}
theorem setV_eq:∀(us vs:List Value) (off:Nat),off+us.length≤vs.length→setV vs off us=vs.take off++us++vs.drop (off+us.length)
 | [],vs,off,_=>by simp [setV]
 | u::us,vs,off,h=>by
  simp only [List.length_cons] at h
  simp only [setV]
  rw [setV_eq us _ _ (by simp;omega)]
  have hlt:off<vs.length:=by omega
  rw [List.take_succ_eq_append_getElem (by simpa using hlt),List.take_set_of_le (by omega),List.getElem_set_self,List.drop_set_of_lt (by omega)]
  rw [show off+1+us.length=off+(u::us).length by simp;omega]
  simp
theorem row_chg {b:Nat} {old cs:Array Value} {t:TypeId} {fr:Nat×Nat} (hb:w.heap[b]? = some (.cells old t fr)) (hst:∀i,¬g.st b i) (hs:cs.size=old.size):Chg (· = b) g w g (w.setRow b cs) where
 later:=⟨Nat.le_refl _,fun _ _=>rfl,fun _ _ h=>h,fun b' i h=>by
  have hne:b'≠b:=fun e=>hst i (e▸h)
  simp only [World.cell?,setRow_other w b b' cs hne],fun b' i _ h _ ⟨c,t,e⟩=>⟨c,t,(setRow_other w b b' cs fun e=>hst i (e▸h)).trans e⟩⟩
 size:=by simp [World.setRow]
 blk b' _ hne:=setRow_other w b b' cs hne
 ow _ _ _:=rfl
 st _ _ _ _ h:=h
 os:=rfl
 tape:=rfl
 out:=rfl
theorem run_storeVar {t:TypeId} {b off:Nat} {old:Array Value} {tt:TypeId} {v:Value} {us:List Value} (hok:okT C.P t=true) (hb:w.heap[b]? = some (.cells old tt (0,0))) (hc:v.cells=us.toArray) (hl:us.length=szT C.P t)
  (hle:off+us.length≤old.size) (h1:∀u∈us,u.oneCell'=true):(storeVar t ⟨b,off,none⟩ v).run C.P w = .ok () (w.setRow b (setV old.toList off us).toArray):=by
 have:=run_storeCells_at (P:=C.P) b off tt us 0 old w hb (by omega) h1
 simp only [Nat.add_zero] at this
 rw [setV_eq us old.toList off (by simpa using hle)]
 simp only [storeVar,Sem.run_bind,run_sz (.inl hok),Result.andThen_ok,hc]
 rw [if_neg (by simp [hl])]
 exact this
theorem setV_get:∀(us vs:List Value) (off i:Nat),off+us.length≤vs.length→(setV vs off us)[i]? = if off≤i∧i<off+us.length then us[i-off]? else vs[i]?
 | [],vs,off,i,_=>by simp only [setV,List.length_nil];rw [if_neg (by omega)]
 | u::us,vs,off,i,h=>by
  simp only [List.length_cons] at h
  simp only [setV]
  rw [setV_get us _ _ i (by simp;omega)]
  simp only [List.length_cons]
  by_cases h1:off+1≤i∧i<off+1+us.length
  ·rw [if_pos h1,if_pos (by omega),show i-off=(i-(off+1))+1 by omega,List.getElem?_cons_succ]
  ·rw [if_neg h1]
   by_cases h2:i=off
   ·subst h2
    rw [if_pos (by omega),List.getElem?_set_self (by omega)]
    simp
   ·rw [if_neg (by omega),List.getElem?_set_ne (by omega)]
theorem setR_get:∀(us vs:List HV) (off i:Nat),off+us.length≤vs.length→(setR vs off us)[i]? = if off≤i∧i<off+us.length then us[i-off]? else vs[i]?
 | [],vs,off,i,_=>by simp only [setR,List.length_nil];rw [if_neg (by omega)]
 | u::us,vs,off,i,h=>by
  simp only [List.length_cons] at h
  simp only [setR]
  rw [setR_get us _ _ i (by simp;omega)]
  simp only [List.length_cons]
  by_cases h1:off+1≤i∧i<off+1+us.length
  ·rw [if_pos h1,if_pos (by omega),show i-off=(i-(off+1))+1 by omega,List.getElem?_cons_succ]
  ·rw [if_neg h1]
   by_cases h2:i=off
   ·subst h2
    rw [if_pos (by omega),List.getElem?_set_self (by omega)]
    simp
   ·rw [if_neg (by omega),List.getElem?_set_ne (by omega)]
theorem setR_len:∀(us vs:List HV) (off:Nat),(setR vs off us).length=vs.length
 | [],_,_=>rfl
 | u::us,vs,off=>by simp [setR,setR_len us]
theorem BoxR.put {own:Own} {co:Nat→Own} {b:Nat} {cs:List HV} (h:BoxR g w own co b cs) (hne:∀i,own≠co i) {l:List HV} {us:List Value} {off:Nat} (hl:us.length=l.length) (hle:off+l.length≤cs.length)
  (hnew:∀(j:Nat) (x:HV),l[j]? = some x→∃u,us[j]? = some u∧HVR g w (co (off+j)) x u) :
  ∃old tt,w.heap[b]? = some (.cells old tt (0,0))∧old.size=cs.length∧Chg (· = b) g w g (w.setRow b (setV old.toList off us).toArray)∧BoxR g (w.setRow b (setV old.toList off us).toArray) own co b (setR cs off l):=by
 obtain ⟨arr,t,h1,h2,h3⟩:=h.row
 have hch:Chg (· = b) g w g (w.setRow b (setV arr.toList off us).toArray):=row_chg h1 h.st (by simp [setV_len])
 refine ⟨arr,t,h1,h2,hch,⟨h.ow,h.st,_,t,setRow_heap w b _ _ _ _ h1,by simp [setV_len,setR_len,h2],fun i x hx => ?_⟩⟩
 have hch':∀i,∀b',b'=b→g.ow b'≠some (co i):=by
  intro i b' e he
  rw [e,h.ow] at he
  exact hne i (Option.some.inj he)
 rw [setR_get l cs off i hle] at hx
 rw [List.getElem?_toArray,setV_get us arr.toList off i (by simp;omega),hl]
 split at hx
 ·rename_i hi
  rw [if_pos hi]
  obtain ⟨u,hu,hr⟩:=hnew _ _ hx
  rw [show off+(i-off)=i by omega] at hr
  exact ⟨u,hu, .inl (hr.chgO hch (hch' i))⟩
 ·rename_i hi
  rw [if_neg hi]
  obtain ⟨u,hu,hr⟩:=h3 i x hx
  exact ⟨u,by simpa using hu,hr.chgO hch (hch' i)⟩
def Gh.give (g:Gh) (b len:Nat) (o:Own):Gh := { (g.stay b len) with ow:=fun x=>if x=b then some o else g.ow x }
theorem give_chg (g:Gh) (w:World) (b len:Nat) (o:Own):Chg (· = b) g w (g.give b len o) w where
 later:=⟨Nat.le_refl _,fun _ _=>rfl,fun _ _ h => .inl h,fun _ _ _=>rfl,fun _ _ _ _ _ h=>h⟩
 size:=Nat.le_refl _
 blk _ _ _:=rfl
 ow b' _ hne:=by simp only [Gh.give];rw [if_neg hne]
 st b' i _ hn h:=by
  rcases h with h | h
  ·exact h
  ·exact absurd h.1 hn
 os:=rfl
 tape:=rfl
 out:=rfl
theorem SR.give {o o':Own} {c:SC} {ex:Bool} {u:Value} (h:SR g w o c ex u) :
  ∃g',Chg (fun b=>g.ow b=some o) g w g' w∧SR g' w o' c false u∧g'.n=g.n∧g'.ix=g.ix∧(∀b i,g'.st b i→g.st b i∨b<w.heap.size)∧(∀b,g.ow b≠some o→g'.ow b=g.ow b):=by
 cases hb:u.ownBlock with
 | none=>
  refine ⟨g,Chg.refl _ g w,?_,rfl,rfl,fun _ _ h => .inl h,fun _ _=>rfl⟩
  cases c with
  | e t n xs=>
   obtain ⟨vals,h1,h2,h3,h4,h5⟩:=h
   exact ⟨vals,h1,h2,h3,h4,fun b hb'=>by simp [hb] at hb'⟩
  | y t s=>
   obtain ⟨h1,h5⟩:=h
   exact ⟨h1,fun b hb'=>by simp [hb] at hb'⟩
 | some b=>
  have hown:=h.owner hb
  have hch:=(give_chg g w b c.cells o').mono (B':=fun b=>g.ow b=some o) (fun b' _ e=>by subst e;exact hown.1)
  refine ⟨g.give b c.cells o',hch,?_,rfl,rfl,fun b' i hx=>hx.elim .inl fun e => .inr (by rw [e.1];exact hown.2),fun b' hne => ?_⟩
  ·have st:∀(len:Nat),len=c.cells→(∀i,g.st b i↔(ex=false∧i<len))→∀i,(g.give b c.cells o').st b i↔(false=false∧i<len):=by
    intro len hlen hst i
    constructor
    ·rintro (x | x)
     ·exact ⟨rfl,((hst i).1 x).2⟩
     ·exact ⟨rfl,by rw [hlen];exact x.2⟩
    ·intro x
     exact .inr ⟨rfl,by rw [←hlen];exact x.2⟩
   cases c with
   | e t n xs=>
    obtain ⟨vals,h1,h2,h3,h4,h5⟩:=h
    refine ⟨vals,h1,h2,h3,VS.later hch.later _ _ h4,fun b' hb' => ?_⟩
    rw [hb] at hb'
    cases hb'
    exact ⟨by simp [Gh.give],st _ rfl (h5 b hb).2⟩
   | y t s=>
    obtain ⟨h1,h5⟩:=h
    refine ⟨h1,fun b' hb' => ?_⟩
    rw [hb] at hb'
    cases hb'
    exact ⟨by simp [Gh.give],st _ rfl (h5 b hb).2⟩
  ·simp only [Gh.give]
   rw [if_neg]
   intro e
   subst e
   exact hne hown.1
theorem SR.open {o:Own} {c:SC} {ex:Bool} {u:Value} (h:SR g w o c false u) (h0:c.len=0):SR g w o c ex u:=by
 cases c with
 | e t n xs=>
  have hx:xs=[]:=List.eq_nil_of_length_eq_zero h0
  subst hx
  obtain ⟨vals,h1,h2,h3,h4,h5⟩:=h
  refine ⟨vals,h1,h2,h3,h4,fun b hb=>⟨(h5 b hb).1,fun i=>⟨fun x=>absurd ((h5 b hb).2 i |>.1 x).2 (by simp),fun x=>absurd x.2 (by simp)⟩⟩⟩
 | y t s=>
  have hx:s=[]:=List.eq_nil_of_length_eq_zero h0
  subst hx
  obtain ⟨h1,h5⟩:=h
  refine ⟨h1,fun b hb=>⟨(h5 b hb).1,fun i=>⟨fun x=>absurd ((h5 b hb).2 i |>.1 x).2 (by simp),fun x=>absurd x.2 (by simp)⟩⟩⟩
theorem SR.pass {o o':Own} {c:SC} {ex:Bool} {u:Value} (h:SR g w o c ex u) :
  ∃g',Chg (fun b=>g.ow b=some o) g w g' w∧SR g' w o' c ex u∧g'.n=g.n∧g'.ix=g.ix∧g'.st=g.st:=by
 cases hb:u.ownBlock with
 | none=>
  refine ⟨g,Chg.refl _ g w,?_,rfl,rfl,rfl⟩
  cases c with
  | e t n xs=>
   obtain ⟨vals,h1,h2,h3,h4,h5⟩:=h
   exact ⟨vals,h1,h2,h3,h4,fun b hb'=>by simp [hb] at hb'⟩
  | y t s=>
   obtain ⟨h1,h5⟩:=h
   exact ⟨h1,fun b hb'=>by simp [hb] at hb'⟩
 | some b=>
  have hown:=h.owner hb
  let g1:Gh := { g with ow:=fun x=>if x=b then some o' else g.ow x }
  have hch:Chg (fun b=>g.ow b=some o) g w g1 w:=⟨⟨Nat.le_refl _,fun _ _=>rfl,fun _ _ h=>h,fun _ _ _=>rfl,fun _ _ _ _ _ h=>h⟩,Nat.le_refl _,fun _ _ _=>rfl,fun b' _ hne=>if_neg (fun e=>hne (by rw [e];exact hown.1)),fun _ _ _ _ h=>h,rfl,rfl,rfl⟩
  have howb:g1.ow b=some o':=if_pos rfl
  refine ⟨g1,hch,?_,rfl,rfl,rfl⟩
  cases c with
  | e t n xs=>
   obtain ⟨vals,h1,h2,h3,h4,h5⟩:=h
   refine ⟨vals,h1,h2,h3,VS.later hch.later _ _ h4,fun b' hb' => ?_⟩
   rw [hb] at hb'
   cases hb'
   exact ⟨howb,(h5 b hb).2⟩
  | y t s=>
   obtain ⟨h1,h5⟩:=h
   refine ⟨h1,fun b' hb' => ?_⟩
   rw [hb] at hb'
   cases hb'
   exact ⟨howb,(h5 b hb).2⟩
end
end Go.Vm
namespace Go.Vm
open Go
section
variable {C:Cx} {N:Ann} {nt:NT} {g0 g:Gh} {w0 w:World} {f:Fr} {s:St} {a:Act} {o:Oper}
variable {K:Upd→Res} {R:Res} {G:FuncId→List AV→List HO→Res}
theorem Core.move (hc:Core g w f s) (k ver:Nat) (hv:(s.loc k).ver<ver) {c:SC} {ex:Bool} (hl:(s.loc k).lo = .arr c ex) (o':Own) :
  ∃g',Core g' w f (s.withLocs [(k,⟨ver, .no⟩)])∧Stp g w f s g' w f (s.withLocs [(k,⟨ver, .no⟩)])∧SR g' w o' c false (f.hd k):=by
 have h0:=hc.loc k
 unfold LR at h0
 rw [hl] at h0
 obtain ⟨g',hch,hs,hn,hio,hwf,how⟩:=SR.give (o':=o') h0
 refine ⟨g',⟨hc.heap.chg hch hn ?_,fun i => ?_,fun b i hx=>(hwf b i hx).elim (hc.wf b i) id⟩,⟨hch.mono fun b _ e=>by rw [e];simp,fun i => ?_,fun _ => .keep rfl rfl fun _ _ _=>rfl⟩,hs⟩
 ·intro b hb ow ho he
  rw [hb] at he
  cases he
  exact ho
 ·rw [withLocs_loc]
  by_cases e:i=k
  ·rw [if_pos e]
   trivial
  ·rw [if_neg e]
   refine (hc.loc i).chg hch fun b hb ow ho he => ?_
   rw [hb] at he
   cases he
   simp only [Own.site,Option.some.injEq] at ho
   exact e ho.symm
 ·by_cases e:i=k
  ·subst e
   left
   rw [withLocs_loc,if_pos rfl]
   exact hv
  ·exact SiteStp.same (by rw [withLocs_loc,if_neg e]) rfl rfl fun m cs' hb j=>rfl
theorem VS_one:∀(as:List AV) (us:List Value),VS g w as us→∀u∈us,u.oneCell'=true
 | [],us,h,u,hu=>by simp only [VS] at h;subst h;cases hu
 | a::as,us,h,u,hu=>by
  simp only [VS] at h
  obtain ⟨v,r,rfl,_,h1,hr⟩:=h
  rcases List.mem_cons.1 hu with rfl | hu
  ·exact h1
  ·exact VS_one as r hr u hu
theorem putK_inv (r:Rel C nt g0 w0 g w f s a) (hR:R ≠ .stuck) {t:TypeId} {y:Operand} {K':List HV→List (Nat×LOv)→Res} (ht:aggT C.P t=false→szT C.P t=1) (co:Nat→Own)
  (h:putK (stdAlg C.pure G) C t (evO C s y) (loO s (evO C s y)) K'=R) :
  ∃(l:List HV) (us:List Value) (u:List (Nat×LOv)) (g1:Gh),K' l u=R∧Core g1 w f (s.withLocs u)∧Stp g w f s g1 w f (s.withLocs u)∧(a.eval y).cells=us.toArray∧us.length=szT C.P t∧us.length=l.length∧(∀v∈us,v.oneCell'=true) ∧
   ∀(j:Nat) (x:HV),l[j]? = some x→∃v,us[j]? = some v∧HVR g1 w (co j) x v:=by
 have one:∀v:Value,v.oneCell'=true→v.cells=[v].toArray:=by
  intro v h1
  revert h1
  cases v<;>simp [Value.oneCell',Value.cells]
 unfold putK at h
 split at h
 ·split at h
  ·rename_i cs e1
   split at h
   ·rename_i hcs
    have hx:=r.ev y
    rw [e1] at hx
    obtain ⟨us,q1,q2⟩:=hx
    refine ⟨cs,us,[],g,h,r.core,Stp.refl _ _ _ _,by rw [q1];rfl,q2.1.trans hcs,q2.1,VS_one _ _ q2.VS,fun j x hj => ?_⟩
    obtain ⟨v,p1,p2⟩:=q2.2 j x hj
    exact ⟨v,p1,p2.hvr _⟩
   ·exact absurd h.symm hR
  obtain ⟨av,us,g1,h1,hf,hc,hst,hv⟩:=r.useF h hR
  obtain ⟨l,rfl,hl,h2⟩:=mA_inv h1 hR
  obtain ⟨vs,hx,hvs⟩:=V_A' hv
  rw [exp_eq hl] at h2
  obtain ⟨e1,e2⟩:=VS_HV0 hvs
  refine ⟨_,vs,us,g1,h2,hc,hst,by rw [hx];rfl,?_,e1,VS_one _ _ hvs,fun j x hj => ?_⟩
  ·rw [e1,List.length_map,hl]
  ·obtain ⟨v,q1,q2⟩:=e2 j x hj
   exact ⟨v,q1,q2.hvr _⟩
 ·rename_i hag
  have hz:=ht (by simpa using hag)
  split at h
  ·rename_i e1
   split at h
   ·rename_i hs
    obtain ⟨q1,q2⟩:=emptyOf_ok hs
    have hy:=r.ev y
    rw [e1] at hy
    have hy':a.eval y = .slice none 0 0:=hy
    refine ⟨_,[.slice none 0 0],[],g,h,r.core,Stp.refl _ _ _ _,by rw [hy'];rfl,hz.symm,rfl,fun v hv=>by simp at hv;subst hv;rfl,fun j x hj => ?_⟩
    cases j with
    | zero=>simp only [List.getElem?_cons_zero,Option.some.injEq] at hj;subst hj;exact ⟨_,rfl,SR_empty _ _ q1 q2⟩
    | succ j=>simp at hj
   ·exact absurd h.symm hR
  ·rename_i k ver e1
   split at h
   ·rename_i ver' c ex e2
    split at h
    ·rename_i hver
     subst hver
     have hve:=r.ev y
     rw [e1] at hve e2
     simp only [loO,EV.site] at e2
     have hx:=hve.2 (by rw [e2]) c ex (by rw [e2])
     obtain ⟨g',c1,c2,c3⟩:=r.core.move k (ver+1) (by rw [e2];exact Nat.lt_succ_self _) (c:=c) (ex:=ex) (by rw [e2]) (co 0)
     rw [←hx] at c3
     have h1c:=(HVR.toV (x := .g c) c3).2
     refine ⟨_,[a.eval y],_,g',h,c1,c2,one _ h1c,hz.symm,rfl,fun v hv=>by simp at hv;subst hv;exact h1c,fun j x hj => ?_⟩
     cases j with
     | zero=>simp only [List.getElem?_cons_zero,Option.some.injEq] at hj;subst hj;exact ⟨_,rfl,c3⟩
     | succ j=>simp at hj
    ·exact absurd h.symm hR
   ·exact absurd h.symm hR
  ·obtain ⟨av,us,g1,h1,hf,hc,hst,hv⟩:=r.useF h hR
   obtain ⟨h2,h3⟩:=m1_inv h1 hR
   have h1c:=h3 _ _ _ hv
   refine ⟨_,[a.eval y],us,g1,h2,hc,hst,one _ h1c,hz.symm,rfl,fun v hv=>by simp at hv;subst hv;exact h1c,fun j x hj => ?_⟩
   cases j with
   | zero=>simp only [List.getElem?_cons_zero,Option.some.injEq] at hj;subst hj;exact ⟨_,rfl,hv,h1c⟩
   | succ j=>simp at hj
end
end Go.Vm
