/- Part of a proof: Vm33, Vm34, VmR, Vm35, Vm36, VmT, VmD, VmF, VmEach. -/
import Derived.Test.YtmcocdbkonefjaaGreatDoorVD
import Derived.Test.YtmcocdbkonefjaaGreatDoorVA
import Derived.LoopNIn
import Derived.Scope
import Derived.RangeFuncIn
import Derived.Defers
import Derived.Recover
import Derived.RangeFuncLeaves
set_option linter.unusedSimpArgs false
set_option linter.unusedVariables false
set_option linter.unusedSectionVars false
namespace Go.Vm
open Go
section
variable {C:Cx} {N:Ann} {G:FuncId→List AV→List HO→Res}
theorem Agree.symm {F:HS} {h h':List HO} {hv hv':Nat→Nat} (ha:Agree F h h' hv hv'):Agree F h' h hv' hv:=by
 cases F with
 | no=>trivial
 | all=>exact ⟨ha.1.symm,ha.2.symm⟩
 | ids l=>exact ⟨ha.1.symm,fun i hi=>⟨(ha.2 i hi).1.symm,(ha.2 i hi).2.symm⟩⟩
def insO (C:Cx) (o:Oper) (s:St):List EV:=o.op.operands.toList.map (evO C s)
def exU (C:Cx) (N:Ann) (G:FuncId→List AV→List HO→Res) (o:Oper) (s:St):Res:=
 opF (stdAlg C.pure (noPan G)) C N o (insO C o s) ((insO C o s).map (loO s)) (s.loc (o.dst.getD 0)) s.h s.hv Res.upd
theorem exU_cases {o:Oper} (hp:∀x,o.op ≠ .panic x) {s:St} {K:Upd→Res} {R:Res} (hR:R ≠ .stuck)
  (h:opF (stdAlg C.pure (noPan G)) C N o (insO C o s) ((insO C o s).map (loO s)) (s.loc (o.dst.getD 0)) s.h s.hv K=R):∃u,exU C N G o s = .upd u∧K u=R:=by
 have:=opF_T (C:=C) (N:=N) (G:=G) (T:=fun r1 r2=>(r1 = .stuck∧r2 = .stuck)∨∃u,r1 = .upd u∧r2=K u) (.inl ⟨rfl,rfl⟩) (ins:=insO C o s) (los:=(insO C o s).map (loO s)) (own:=s.loc (o.dst.getD 0)) (h:=s.h) (h':=s.h) (hv:=s.hv) (hv':=s.hv) hp .refl (F1:=Res.upd) (F2:=K) fun u => .inr ⟨u,rfl,rfl⟩
 rcases this with ⟨_,h2⟩ | ⟨u,h1,h2⟩
 ·rw [h2] at h;exact absurd h.symm hR
 ·exact ⟨u,h1,h2▸h⟩
def exE (C:Cx) (N:Ann) (G:FuncId→List AV→List HO→Res) (all:Array Oper) (o:Oper) (s:St):Option (Foot×Upd):=
 let run:Option (Foot×Upd):=match o.op with
  | .panic _=>none
  | _=>match exU C N G o s with
   | .upd u=>some (footOf C N o (insO C o s) ((insO C o s).map (loO s)) s.h u,u)
   | _=>none
 match o.guard with
 | none=>run
 | some (j,want)=>match (all[j]?).bind (·.dst) with
  | none=>none
  | some g=>match s.env g with
   | .v (.B b)=>if b=want then run else some (noFoot,{ dst:=some .un })
   | .un=>some (noFoot,{ dst:=some .un })
   | _=>none
theorem on_skip (d:Option Nat) (s:St):Upd.on { dst:=some .un } d s=s.put d .un:=by
 cases d<;>rfl
theorem put_self {s:St} {g:Nat} {e:EV} (h:s.env g=e):s.put (some g) e=s:=by
 have:(fun t=>bif Nat.beq t g then e else s.env t)=s.env:=by
  funext t
  by_cases ht:t=g
  ·subst ht;simp [h]
  ·have:Nat.beq t g=false:=by
    rw [Bool.eq_false_iff]
    exact fun e'=>ht (Nat.eq_of_beq_eq_true e')
   simp [this]
 simp only [St.put,this]
theorem looks_op {all:Array Oper} {o:Oper} {t:Nat} (h:Operand.tmp t∈o.op.operands.toList):t∈o.looksAt all:=by
 unfold Oper.looksAt
 refine List.mem_append_left _ (List.mem_filterMap.2 ⟨.tmp t,h,rfl⟩)
theorem looks_guard {all:Array Oper} {o:Oper} {j g:Nat} {want:Bool} (h:o.guard=some (j,want)) (hg:(all[j]?).bind (·.dst)=some g):g∈o.looksAt all:=by
 unfold Oper.looksAt
 refine List.mem_append_right _ ?_
 rw [h]
 simp only
 rw [hg]
 simp
theorem insO_same {all:Array Oper} {o:Oper} {s s1:St} (h:∀t∈o.looksAt all,s1.env t=s.env t):insO C o s1=insO C o s:=by
 unfold insO
 refine List.map_congr_left fun x hx => ?_
 cases x with
 | tmp t=>exact h t (looks_op hx)
 | _=>rfl
theorem looks_agree {o:Oper} {ins:List EV} {los:List LOv} {h h':List HO} {hv hv':Nat→Nat} (ha:Agree (looks C N o ins los h) h h' hv hv'):looks C N o ins los h'=looks C N o ins los h:=by
 have nar:∀l,Agree (if N.narrow (o.dst.getD 0)=true then .ids (visD h l) else .all) h h' hv hv'→(if N.narrow (o.dst.getD 0)=true then HS.ids (visD h' l) else .all)=(if N.narrow (o.dst.getD 0)=true then .ids (visD h l) else .all):=by
  intro l ha
  split
  ·rename_i hn
   rw [if_pos hn] at ha
   rw [visD_agree fun i hi=>(ha.2 i hi).1]
  ·rfl
 unfold looks at ha ⊢
 cases ho:o.op with
 | call c=>
  rw [ho] at ha
  simp only at ha ⊢
  cases hc:c.callee with
  | builtin b=>cases b<;>rfl
  | invoke r m=>
   rw [hc] at ha
   exact nar _ ha
  | value v=>
   rw [hc] at ha
   cases v with
   | func f=>
    simp only at ha ⊢
    split
    ·rfl
    ·rename_i hp
     rw [if_neg hp] at ha
     exact nar _ ha
   | _=>rfl
 | _=>rfl
theorem chOf_agree {hr:HS} {h h':List HO} {hv hv':Nat→Nat} {u:Upd} (ha:Agree hr h h' hv hv'):chOf hr h' u=chOf hr h u:=by
 obtain ⟨dst,locs,heap,dl,push⟩:=u
 cases heap with
 | none=>cases push<;>rfl
 | some x=>
  cases push with
  | cons _ _=>rfl
  | nil=>
   cases hr with
   | all=>obtain ⟨rfl,_⟩:=ha;rfl
   | no=>rfl
   | ids l=>rfl
theorem footOf_agree {o:Oper} {ins:List EV} {los:List LOv} {h h':List HO} {hv hv':Nat→Nat} {u:Upd} (ha:Agree (looks C N o ins los h) h h' hv hv'):footOf C N o ins los h' u=footOf C N o ins los h u:=by
 unfold footOf
 rw [looks_agree ha,chOf_agree ha]
theorem footOf_h {o:Oper} {ins:List EV} {los:List LOv} {h h':List HO} {u:Upd} (ho:∀c,o.op ≠ .call c) (hu:u.heap=none):footOf C N o ins los h u=footOf C N o ins los h' u:=by
 have hl:looks C N o ins los h=looks C N o ins los h':=by
  unfold looks
  cases hq:o.op<;>first | rfl | exact absurd hq (ho _)
 unfold footOf
 rw [hl]
 obtain ⟨dst,locs,heap,dl,push⟩:=u
 cases hu
 cases push<;>rfl
theorem exE_frame {all:Array Oper} {o:Oper} {s s1:St} {ft:Foot} {u:Upd} (h:exE C N G all o s1=some (ft,u)) (henv:∀t∈o.looksAt all,s1.env t=s.env t) (hloc:∀k∈ft.rd,s1.loc k=s.loc k)
  (hheap:Agree ft.hr s1.h s.h s1.hv s.hv):exE C N G all o s=some (ft,u):=by
 have hins:insO C o s1=insO C o s:=insO_same henv
 have run:(match o.op with
   | .panic _=>none
   | _=>match exU C N G o s1 with
    | .upd u=>some (footOf C N o (insO C o s1) ((insO C o s1).map (loO s1)) s1.h u,u)
    | _=>none)=some (ft,u)→(match o.op with
   | .panic _=>none
   | _=>match exU C N G o s with
    | .upd u=>some (footOf C N o (insO C o s) ((insO C o s).map (loO s)) s.h u,u)
    | _=>none)=some (ft,u):=by
  intro h
  by_cases hp:∃x,o.op = .panic x
  ·obtain ⟨x,hp⟩:=hp
   rw [hp] at h
   cases h
  ·have hp':∀x,o.op ≠ .panic x:=fun x hx=>hp ⟨x,hx⟩
   have e1:∀(s:St),(match o.op with
     | .panic _=>none
     | _=>match exU C N G o s with
      | .upd u=>some (footOf C N o (insO C o s) ((insO C o s).map (loO s)) s.h u,u)
      | _=>none)=(match exU C N G o s with
      | .upd u=>some (footOf C N o (insO C o s) ((insO C o s).map (loO s)) s.h u,u)
      | _=>none):=by
    intro s
    split
    ·rename_i x hx;exact absurd hx (hp' x)
    ·rfl
   rw [e1] at h ⊢
   have hft:ft=footOf C N o (insO C o s1) ((insO C o s1).map (loO s1)) s1.h u:=by
    split at h
    ·cases h;rfl
    ·cases h
   have hfin:exU C N G o s=exU C N G o s1→footOf C N o (insO C o s) ((insO C o s).map (loO s)) s.h u=footOf C N o (insO C o s1) ((insO C o s1).map (loO s1)) s1.h u→(match exU C N G o s with
      | .upd u=>some (footOf C N o (insO C o s) ((insO C o s).map (loO s)) s.h u,u)
      | _=>none)=some (ft,u):=by
    intro k1 k2
    rw [k1]
    split at h
    ·rename_i u' hu
     cases h
     rw [k2]
    ·cases h
   by_cases hm:∃x,o.op = .move x
   ·obtain ⟨x,hm⟩:=hm
    have hl:∀(i:List EV) (l:List LOv) (h:List HO),looks C N o i l h = .no:=fun i l h=>by unfold looks;rw [hm]
    have hfo:∀(i:List EV) (l l':List LOv) (h h':List HO) (u:Upd),u.heap=none→footOf C N o i l h u=footOf C N o i l' h' u:=by
     intro i l l' h h' u hu
     unfold footOf
     rw [hl,hl]
     obtain ⟨dst,locs,heap,dl,push⟩:=u
     cases hu
     cases push<;>rfl
    have hex:∀s:St,exU C N G o s = .upd { dst:=some ((insO C o s).getD 0 (.v .U)) } := by
     intro s
     unfold exU opF
     rw [hm]
    refine hfin (by rw [hex,hex,hins]) ?_
    rw [hins]
    refine hfo _ _ _ _ _ _ ?_
    rw [hex] at h
    cases h
    rfl
   have hrd:∀i:List EV,rdOf o i=i.filterMap EV.site:=by
    intro i
    unfold rdOf
    split
    ·rename_i x e;exact absurd ⟨x,e⟩ hm
    ·rfl
   have hlos:(insO C o s).map (loO s)=(insO C o s1).map (loO s1):=by
    rw [hins]
    refine List.map_congr_left fun e he => ?_
    unfold loO
    cases hes:e.site with
    | none=>rfl
    | some k=>
     refine (hloc k ?_).symm
     rw [hft]
     refine List.mem_cons_of_mem _ ?_
     rw [hrd,hins]
     exact List.mem_filterMap.2 ⟨e,he,hes⟩
   have hag:Agree (looks C N o (insO C o s1) ((insO C o s1).map (loO s1)) s1.h) s1.h s.h s1.hv s.hv:=by
    have:=hheap
    rw [hft] at this
    exact this
   rw [hins] at hag
   have key:exU C N G o s=exU C N G o s1:=by
    unfold exU
    have hown:s.loc (o.dst.getD 0)=s1.loc (o.dst.getD 0):=by
     refine (hloc _ ?_).symm
     rw [hft]
     exact List.mem_cons_self
    rw [hlos,hown,hins]
    exact (opF_T (T:=Eq) rfl hp' hag fun _=>rfl).symm
   refine hfin key ?_
   rw [hlos,hins]
   exact footOf_agree hag
 unfold exE at h ⊢
 dsimp only at h ⊢
 cases hg:o.guard with
 | none=>rw [hg] at h;exact run h
 | some jw=>
  obtain ⟨j,want⟩:=jw
  rw [hg] at h
  simp only at h ⊢
  cases hj:(all[j]?).bind (·.dst) with
  | none=>rw [hj] at h;cases h
  | some g=>
   rw [hj] at h
   simp only at h ⊢
   have he:=henv g (looks_guard hg hj)
   rw [he] at h
   split at h
   ·split at h
    ·rename_i hb
     rw [if_pos hb]
     exact run h
    ·rename_i hb
     rw [if_neg hb]
     exact h
   ·exact h
   ·cases h
theorem exE_foot {all:Array Oper} {o:Oper} {s:St} {ft:Foot} {u:Upd} (h:exE C N G all o s=some (ft,u)):ft.wr=u.locs.map (·.1)∧ft.hw=u.hs:=by
 have run:(match o.op with
   | .panic _=>none
   | _=>match exU C N G o s with
    | .upd u=>some (footOf C N o (insO C o s) ((insO C o s).map (loO s)) s.h u,u)
    | _=>none)=some (ft,u)→ft.wr=u.locs.map (·.1)∧ft.hw=u.hs:=by
  intro h
  split at h
  ·cases h
  ·split at h
   ·cases h;exact ⟨rfl,rfl⟩
   ·cases h
 unfold exE at h
 dsimp only at h
 split at h
 ·exact run h
 ·split at h
  ·cases h
  ·split at h
   ·split at h
    ·exact run h
    ·cases h;exact ⟨rfl,rfl⟩
   ·cases h;exact ⟨rfl,rfl⟩
   ·cases h
theorem setLocs_mem:∀(us:List (Nat×LOv)) (l1 l2:Nat→LOv) (i:Nat),i∈us.map (·.1)→setLocs l1 us i=setLocs l2 us i
 | [],_,_,_,h=>by cases h
 | (k,x)::us,l1,l2,i,h=>by
  simp only [setLocs]
  by_cases e:i=k
  ·subst e;simp
  ·have hb:Nat.beq i k=false:=by
    rw [Bool.eq_false_iff]
    exact fun e'=>e (Nat.eq_of_beq_eq_true e')
   simp only [hb,cond_false]
   simp only [List.map_cons,List.mem_cons] at h
   exact setLocs_mem us l1 l2 i (h.resolve_left e)
theorem setLocs_nmem:∀(us:List (Nat×LOv)) (l:Nat→LOv) (i:Nat),i ∉ us.map (·.1)→setLocs l us i=l i
 | [],_,_,_=>rfl
 | (k,x)::us,l,i,h=>by
  simp only [List.map_cons,List.mem_cons,not_or] at h
  have hb:Nat.beq i k=false:=by
   rw [Bool.eq_false_iff]
   exact fun e'=>h.1 (Nat.eq_of_beq_eq_true e')
  simp only [setLocs,hb,cond_false]
  exact setLocs_nmem us l i h.2
theorem setLocs_comm {us vs:List (Nat×LOv)} (l:Nat→LOv) (h:∀i∈us.map (·.1),i ∉ vs.map (·.1)):setLocs (setLocs l us) vs=setLocs (setLocs l vs) us:=by
 funext i
 by_cases hv:i∈vs.map (·.1)
 ·have hu:i ∉ us.map (·.1):=fun hu=>h i hu hv
  rw [setLocs_mem vs _ l i hv,setLocs_nmem us _ i hu]
 ·rw [setLocs_nmem vs _ i hv]
  by_cases hu:i∈us.map (·.1)
  ·exact setLocs_mem us _ _ i hu
  ·rw [setLocs_nmem us _ i hu,setLocs_nmem us _ i hu,setLocs_nmem vs _ i hv]
theorem offL_spec {x y:List Nat} (h:offL x y=true):∀i∈x,i ∉ y:=by
 intro i hx hy
 have h1:=List.all_eq_true.1 h i hx
 have h2:=List.all_eq_true.1 h1 i hy
 simp at h2
theorem Foot.off_spec {x y:Foot} (h:x.off y=true):(∀i∈x.wr,i ∉ y.rd)∧(∀i∈y.wr,i ∉ x.rd)∧(∀i∈x.wr,i ∉ y.wr)∧x.hw.off y.hr=true∧x.hw.off y.hw=true∧y.hw.off x.hr=true:=by
 simp only [Foot.off,Bool.and_eq_true] at h
 obtain ⟨⟨⟨⟨⟨h1,h2⟩,h3⟩,h4⟩,h5⟩,h6⟩:=h
 exact ⟨offL_spec h1,offL_spec h2,offL_spec h3,h4,h5,h6⟩
theorem on_env (u:Upd) (d:Option Nat) (s:St) (t:Nat) (h:∀x,d=some x→t≠x):(u.on d s).env t=s.env t:=by
 cases d with
 | none=>rfl
 | some x=>
  have:Nat.beq t x=false:=by
   rw [Bool.eq_false_iff]
   exact fun e'=>h x rfl (Nat.eq_of_beq_eq_true e')
  simp [Upd.on,St.put,this]
theorem on_loc (u:Upd) (d:Option Nat) (s:St):(u.on d s).loc=setLocs s.loc u.locs:=by cases d<;>rfl
theorem on_h (u:Upd) (d:Option Nat) (s:St):(u.on d s).h=setH (pushH (u.heap.getD s.h) u.push) u.dl:=by cases d<;>rfl
theorem on_hv (u:Upd) (d:Option Nat) (s:St):(u.on d s).hv=u.hvOf s.hv:=by cases d<;>rfl
theorem setH_get_nmem:∀(dl:List (Nat×HO)) (h:List HO) (i:Nat),i ∉ dl.map (·.1)→(setH h dl)[i]? = h[i]?
 | [],_,_,_=>rfl
 | (j,x)::dl,h,i,hn=>by
  simp only [List.map_cons,List.mem_cons,not_or] at hn
  simp only [setH]
  rw [setH_get_nmem dl _ i hn.2,List.getElem?_set,if_neg (fun e=>hn.1 e.symm)]
theorem setH_get_mem:∀(dl:List (Nat×HO)) (h h':List HO) (i:Nat),i∈dl.map (·.1)→h'.length=h.length→(setH h' dl)[i]? = (setH h dl)[i]?
 | [],_,_,_,hm,_=>by cases hm
 | (j,x)::dl,h,h',i,hm,hl=>by
  simp only [setH]
  by_cases h1:i∈dl.map (·.1)
  ·exact setH_get_mem dl _ _ i h1 (by simpa using hl)
  ·simp only [List.map_cons,List.mem_cons] at hm
   have hij:=hm.resolve_right h1
   subst hij
   rw [setH_get_nmem dl _ i h1,setH_get_nmem dl _ i h1,List.getElem?_set,List.getElem?_set,if_pos rfl,if_pos rfl,hl]
theorem setH_comm {dx dy:List (Nat×HO)} (h:List HO) (hd:∀i∈dx.map (·.1),i ∉ dy.map (·.1)):setH (setH h dx) dy=setH (setH h dy) dx:=by
 apply List.ext_getElem?
 intro i
 by_cases hy:i∈dy.map (·.1)
 ·have hx:i ∉ dx.map (·.1):=fun hx=>hd i hx hy
  rw [setH_get_nmem dx _ i hx]
  exact setH_get_mem dy _ _ i hy (by rw [setH_length])
 ·rw [setH_get_nmem dy _ i hy]
  by_cases hx:i∈dx.map (·.1)
  ·exact (setH_get_mem dx _ _ i hx (by rw [setH_length])).symm
  ·rw [setH_get_nmem dx _ i hx,setH_get_nmem dx _ i hx,setH_get_nmem dy _ i hy]
theorem hs_none {u:Upd} (h:u.hs = .no):u.heap=none∧u.dl=[]∧u.push=[]:=by
 unfold Upd.hs at h
 split at h
 ·cases h
 ·cases h
 ·rename_i e e1
  split at h
  ·rename_i e2;exact ⟨e,e2,e1⟩
  ·cases h
theorem hs_ids {u:Upd} {l:List Nat} (h:u.hs = .ids l):u.heap=none∧u.dl.map (·.1)=l∧u.push=[]:=by
 unfold Upd.hs at h
 split at h
 ·cases h
 ·cases h
 ·rename_i e e1
  split at h
  ·cases h
  ·cases h;exact ⟨e,rfl,e1⟩
theorem agree_on {u:Upd} {d:Option Nat} {s:St} {F:HS} (h:u.hs.off F=true):Agree F s.h (u.on d s).h s.hv (u.on d s).hv:=by
 cases F with
 | no=>trivial
 | all=>
  cases hu:u.hs with
  | no=>
   obtain ⟨h1,h2,h2p⟩:=hs_none hu
   rw [on_h,on_hv]
   refine ⟨by rw [h1,h2,h2p];rfl,?_⟩
   unfold Upd.hvOf
   rw [h1,h2]
  | all=>rw [hu] at h;cases h
  | ids l=>rw [hu] at h;cases h
 | ids l=>
  cases hu:u.hs with
  | no=>
   obtain ⟨h1,h2,h2p⟩:=hs_none hu
   rw [on_h,on_hv]
   refine ⟨by rw [h1,h2,h2p];rfl,fun i _=>⟨by rw [h1,h2,h2p];rfl,?_⟩⟩
   unfold Upd.hvOf
   rw [h1,h2]
  | all=>rw [hu] at h;cases h
  | ids l'=>
   rw [hu] at h
   obtain ⟨h1,h2,h2p⟩:=hs_ids hu
   have hoff:=offL_spec h
   rw [on_h,on_hv,h1,h2p]
   refine ⟨by rw [setH_length];rfl,fun i hi => ?_⟩
   have hni:i ∉ u.dl.map (·.1):=fun hm=>hoff i (by rw [←h2];exact hm) hi
   exact ⟨setH_get_nmem _ _ i hni,by rw [hvOf_eq h1,if_neg hni]⟩
theorem St.ext' {s t:St} (h1:s.env=t.env) (h2:s.loc=t.loc) (h3:s.h=t.h) (h4:s.hv=t.hv):s=t:=by
 cases s;cases t;simp only at h1 h2 h3 h4;subst h1;subst h2;subst h3;subst h4;rfl
theorem on_comm {ux uy:Upd} {dx dy:Option Nat} (s:St) (hd:∀d,dx=some d→dy≠some d) (hl:∀i∈ux.locs.map (·.1),i ∉ uy.locs.map (·.1)) (hh:ux.hs.off uy.hs=true) :
  uy.on dy (ux.on dx s)=ux.on dx (uy.on dy s):=by
 refine St.ext' ?_ ?_ ?_ ?_
 ·funext t
  cases dx with
  | none=>
   cases dy with
   | none=>rfl
   | some y=>rfl
  | some x=>
   cases dy with
   | none=>rfl
   | some y=>
    have hne:x≠y:=fun e=>hd x rfl (by rw [e])
    by_cases h1:t=x
    ·subst h1
     have:Nat.beq t y=false:=by
      rw [Bool.eq_false_iff]
      exact fun e'=>hne (Nat.eq_of_beq_eq_true e')
     simp [Upd.on,St.put,this]
    ·have hb:Nat.beq t x=false:=by
      rw [Bool.eq_false_iff]
      exact fun e'=>h1 (Nat.eq_of_beq_eq_true e')
     simp [Upd.on,St.put,hb]
 ·rw [on_loc,on_loc,on_loc,on_loc]
  exact setLocs_comm _ hl
 ·rw [on_h,on_h,on_h,on_h]
  cases hx:ux.hs with
  | no=>
   obtain ⟨h1,h2,h2p⟩:=hs_none hx
   rw [h1,h2,h2p];rfl
  | all=>
   cases hy:uy.hs with
   | no=>
    obtain ⟨h1,h2,h2p⟩:=hs_none hy
    rw [h1,h2,h2p];rfl
   | _=>rw [hx,hy] at hh;cases hh
  | ids l=>
   cases hy:uy.hs with
   | no=>
    obtain ⟨h1,h2,h2p⟩:=hs_none hy
    rw [h1,h2,h2p];rfl
   | all=>rw [hx,hy] at hh;cases hh
   | ids l'=>
    rw [hx,hy] at hh
    obtain ⟨h1,h2,h2p⟩:=hs_ids hx
    obtain ⟨h3,h4,h4p⟩:=hs_ids hy
    rw [h1,h3,h2p,h4p]
    exact setH_comm _ fun i hi=>by rw [h4];exact offL_spec hh i (by rw [←h2];exact hi)
 ·rw [on_hv,on_hv,on_hv,on_hv]
  funext i
  cases hx:ux.hs with
  | no=>
   obtain ⟨h1,h2,_⟩:=hs_none hx
   have e:∀hv,ux.hvOf hv=hv:=fun hv=>by unfold Upd.hvOf;rw [h1,h2]
   rw [e,e]
  | all=>
   cases hy:uy.hs with
   | no=>
    obtain ⟨h1,h2,_⟩:=hs_none hy
    have e:∀hv,uy.hvOf hv=hv:=fun hv=>by unfold Upd.hvOf;rw [h1,h2]
    rw [e,e]
   | _=>rw [hx,hy] at hh;cases hh
  | ids l=>
   cases hy:uy.hs with
   | no=>
    obtain ⟨h1,h2,_⟩:=hs_none hy
    have e:∀hv,uy.hvOf hv=hv:=fun hv=>by unfold Upd.hvOf;rw [h1,h2]
    rw [e,e]
   | all=>rw [hx,hy] at hh;cases hh
   | ids l'=>
    obtain ⟨h1,h2,_⟩:=hs_ids hx
    obtain ⟨h3,h4,_⟩:=hs_ids hy
    rw [hvOf_eq h3,hvOf_eq h1,hvOf_eq h1,hvOf_eq h3]
    by_cases q1:i∈ux.dl.map (·.1)<;>by_cases q2:i∈uy.dl.map (·.1)<;>simp only [q1,q2,if_true,if_false]
theorem exE_comm {all:Array Oper} {x y:Oper} {fx fy:Foot} {ux uy:Upd} {s:St} (hap:x.apart all y=true) (hoff:fx.off fy=true) (h1:exE C N G all x s=some (fx,ux)) (h2:exE C N G all y (ux.on x.dst s)=some (fy,uy)) :
  exE C N G all y s=some (fy,uy)∧exE C N G all x (uy.on y.dst s)=some (fx,ux)∧uy.on y.dst (ux.on x.dst s)=ux.on x.dst (uy.on y.dst s):=by
 obtain ⟨a1,a2,a3⟩:=Oper.apart_spec hap
 obtain ⟨o1,o2,o3,o4,o5,o6⟩:=Foot.off_spec hoff
 obtain ⟨w1,w2⟩:=exE_foot h1
 obtain ⟨w3,w4⟩:=exE_foot h2
 rw [w2] at o4 o5
 rw [w4] at o5 o6
 refine ⟨exE_frame h2 (fun t ht=>on_env _ _ _ _ fun d hd e=>a1 d hd (e▸ht)) (fun k hk => ?_) (agree_on o4).symm,exE_frame h1 (fun t ht=>(on_env _ _ _ _ fun d hd e=>a3 d hd (e▸ht)).symm) (fun k hk => ?_) (agree_on o6),on_comm s a2 ?_ o5⟩
 ·rw [on_loc,setLocs_nmem]
  intro hm
  rw [←w1] at hm
  exact o1 k hm hk
 ·rw [on_loc,setLocs_nmem]
  intro hm
  rw [←w3] at hm
  exact o2 k hm hk
 ·intro i hi
  rw [←w1] at hi
  rw [←w3]
  exact o3 i hi
theorem zeroK_form (t:TypeId):(∀K:AV→Res,zeroK (stdAlg C.pure (noPan G)) C t K = .stuck)∨∃v,∀K:AV→Res,zeroK (stdAlg C.pure (noPan G)) C t K=K v:=by
 unfold zeroK
 by_cases hz:zeroOK C.P t=true
 ·simp only [if_pos hz]
  split
  ·exact .inr ⟨_,fun K=>rfl⟩
  ·exact .inr ⟨_,fun K=>rfl⟩
  ·exact .inl fun K=>rfl
 ·simp only [if_neg hz]
  exact .inl fun K=>rfl
theorem findS_put {ks:List FK} {cs:List AV} {v:AV} (hc:eqCells ks cs cs=some true):∀(es:List (AV×AV)) (r:Option AV),findS ks cs es=some r→findS ks cs (putS ks cs v es)=some (some v)
 | [],_,_=>by simp only [putS,findS,hc]
 | (a,x)::es,r,h=>by
  cases a with
  | A cs'=>
   simp only [findS] at h
   split at h
   ·rename_i he
    simp only [putS,he,findS]
   ·rename_i he
    simp only [putS,he,findS]
    exact findS_put hc es r h
   ·cases h
  | _=>simp [findS] at h
theorem lkMe_spec {x y:Oper} (h:lkMe x y=true):∃t i j,x.op = .lookup t (.tmp i) (.tmp j) false∧y.op = .mapEntry t (.tmp i) (.tmp j)∧x.guard=none∧y.guard=none:=by
 unfold lkMe at h
 split at h
 ·rename_i t i j t' i' j' e1 e2
  simp only [Bool.and_eq_true] at h
  obtain ⟨⟨⟨⟨h1,h2⟩,h3⟩,h4⟩,h5⟩:=h
  cases Nat.eq_of_beq_eq_true h1
  cases Nat.eq_of_beq_eq_true h2
  cases Nat.eq_of_beq_eq_true h3
  exact ⟨t,i,j,e1,e2,by simpa using h4,by simpa using h5⟩
 ·cases h
theorem exE_plain {all:Array Oper} {o:Oper} {s:St} (hg:o.guard=none) (hp:∀x,o.op ≠ .panic x):exE C N G all o s=(match exU C N G o s with
  | .upd u=>some (footOf C N o (insO C o s) ((insO C o s).map (loO s)) s.h u,u)
  | _=>none):=by
 unfold exE
 dsimp only
 rw [hg]
 cases hq:o.op<;>first | rfl | exact absurd hq (hp _)
theorem exU_me {o:Oper} {t:TypeId} {i j:Nat} {s:St} {u:Upd} (ho:o.op = .mapEntry t (.tmp i) (.tmp j)) (h:exU C N G o s = .upd u) :
  ∃kt et ks id cs es r v,und C.P t = .map kt et∧s.env i = .v (.M id)∧(s.env j).pl = .v (.A cs)∧simpleK C.P kt=true∧flatK C.P 20 kt=some ks∧cs.length=szT C.P kt∧s.h[id]? = some (.map es)∧dirty es=false∧eqCells ks cs cs=some true∧findS ks cs es=some r ∧
   (r=some v∨(r=none∧∀K:AV→Res,zeroK (stdAlg C.pure (noPan G)) C et K=K v))∧u = { dst:=some (.v (.T [v, .I .i64 (idxS ks cs es)])),dl:=[(id, .map (putS ks cs v es))] } := by
 have hR:Res.upd u ≠ .stuck:=by simp
 unfold exU insO at h
 simp only [opF,ho,Op.operands,List.map_cons,List.map_nil,List.getD_cons_zero,List.getD_cons_succ,evO] at h
 split at h
 ·rename_i kt et m k hu he1 he2
  split at h
  ·rename_i ks hs hks
   obtain ⟨cs,rfl,lcs,h5⟩:=mA_inv h hR
   obtain ⟨id,es,rfl,hid,hcl,h7⟩:=mM_inv' h5 hR
   obtain ⟨hbd,h7⟩:=chk_inv' h7 hR
   have hbd:=of_decide_eq_true hbd
   have h7:fndS ks cs es _=_:=h7
   unfold fndS at h7
   split at h7
   ·rename_i r hfi
    dsimp only at h7
    split at h7
    ·rename_i v
     cases h7
     exact ⟨kt,et,ks,id,cs,es,_,v,hu,he1,he2,hs,hks,lcs,hid,hcl,hbd.2,hfi, .inl rfl,rfl⟩
    ·rcases zeroK_form (C:=C) (G:=G) et with hz | ⟨v,hz⟩
     ·rw [hz] at h7;cases h7
     ·rw [hz] at h7
      cases h7
      exact ⟨kt,et,ks,id,cs,es,_,v,hu,he1,he2,hs,hks,lcs,hid,hcl,hbd.2,hfi, .inr ⟨rfl,hz⟩,rfl⟩
   ·exact absurd h7.symm hR
  ·exact absurd h.symm hR
 ·exact absurd h.symm hR
theorem simpleK_struct {P:Program} {kt:TypeId} (h:simpleK P kt=true):∃fs,und P kt = .struct fs:=by
 unfold simpleK at h
 split at h
 ·rename_i fs e;exact ⟨fs,e⟩
 ·cases h
theorem exU_lk {o:Oper} {t kt et:TypeId} {i j id:Nat} {s:St} {ks:List FK} {cs:List AV} {es:List (AV×AV)} {r:Option AV} {v:AV} (ho:o.op = .lookup t (.tmp i) (.tmp j) false) (hu:und C.P t = .map kt et) (h1:s.env i = .v (.M id)) (h2:(s.env j).pl = .v (.A cs))
  (h3:simpleK C.P kt=true) (h4:flatK C.P 20 kt=some ks) (h5:cs.length=szT C.P kt) (h6:s.h[id]? = some (.map es)) (hcl:dirty es=false) (h7:findS ks cs es=some r) (h8:r=some v∨(r=none∧∀K:AV→Res,zeroK (stdAlg C.pure (noPan G)) C et K=K v)) :
  exU C N G o s = .upd { dst:=some (.v v) } := by
 obtain ⟨fs,hst⟩:=simpleK_struct h3
 unfold exU insO
 simp only [opF,ho,Op.operands,List.map_cons,List.map_nil,List.getD_cons_zero,List.getD_cons_succ,evO,hu,h1,h2,hst,h3,h4]
 simp only [stdAlg,mA,h5,if_true,mMl,h6,lives_of hcl,fndS,h7]
 rcases h8 with rfl | ⟨rfl,hz⟩
 ·rfl
 ·have hz':=hz (fun v=>Res.upd { dst:=some (.v (if false=true then .T [v, .B false] else v)) })
  simp only [stdAlg] at hz'
  exact hz'
theorem exE_commL {all:Array Oper} {x y:Oper} {fx fy:Foot} {ux uy:Upd} {s:St} (hap:x.apart all y=true) (hlm:lkMe x y=true) (h1:exE C N G all x s=some (fx,ux)) (h2:exE C N G all y (ux.on x.dst s)=some (fy,uy)) :
  exE C N G all y s=some (fy,uy)∧exE C N G all x (uy.on y.dst s)=some (fx,ux)∧uy.on y.dst (ux.on x.dst s)=ux.on x.dst (uy.on y.dst s):=by
 obtain ⟨a1,a2,a3⟩:=Oper.apart_spec hap
 obtain ⟨t,i,j,hx,hy,gx,gy⟩:=lkMe_spec hlm
 have px:∀z,x.op ≠ .panic z:=fun z e=>by rw [hx] at e;cases e
 have py:∀z,y.op ≠ .panic z:=fun z e=>by rw [hy] at e;cases e
 have h2':=h2
 rw [exE_plain gy py] at h2'
 split at h2'
 case h_2=>cases h2'
 rename_i u2 hu2
 cases h2'
 obtain ⟨kt,et,ks,id,cs,es,r,v,k1,k2,k3,k4,k5,k6,k7,kcl,k8,k9,k10,k11⟩:=exU_me hy hu2
 have hii:Operand.tmp i∈y.op.operands.toList:=by rw [hy];simp [Op.operands]
 have hjj:Operand.tmp j∈y.op.operands.toList:=by rw [hy];simp [Op.operands]
 have hii':Operand.tmp i∈x.op.operands.toList:=by rw [hx];simp [Op.operands]
 have hjj':Operand.tmp j∈x.op.operands.toList:=by rw [hx];simp [Op.operands]
 have henv:∀q∈y.looksAt all,(ux.on x.dst s).env q=s.env q:=fun q hq=>on_env _ _ _ _ fun d hd e=>a1 d hd (e▸hq)
 have k2':s.env i = .v (.M id):=by rw [←henv i (looks_op hii)];exact k2
 have k3':(s.env j).pl = .v (.A cs):=by rw [←henv j (looks_op hjj)];exact k3
 have h1':=h1
 rw [exE_plain gx px] at h1'
 split at h1'
 case h_2=>cases h1'
 rename_i u1 hu1
 cases h1'
 have hno:∀es0 r0 v0,s.h[id]? = some (.map es0)→dirty es0=false→findS ks cs es0=some r0→(r0=some v0∨(r0=none∧∀K:AV→Res,zeroK (stdAlg C.pure (noPan G)) C et K=K v0))→ux = { dst:=some (.v v0) } := by
  intro es0 r0 v0 q1 q0 q2 q3
  have:=exU_lk (N:=N) (G:=G) hx k1 k2' k3' k4 k5 k6 q1 q0 q2 q3
  rw [this] at hu1
  cases hu1
  rfl
 have hux:ux.locs=[]∧ux.heap=none∧ux.dl=[]∧ux.push=[]:=by
  have hR:Res.upd ux ≠ .stuck:=by simp
  unfold exU insO at hu1
  obtain ⟨fs,hst⟩:=simpleK_struct k4
  simp only [opF,hx,Op.operands,List.map_cons,List.map_nil,List.getD_cons_zero,List.getD_cons_succ,evO,k1,k2',k3',hst,k4,k5] at hu1
  have hu2:mA (szT C.P kt) (.A cs) (fun cs=>mMl (.M id) s.h fun es=>fndS ks cs es fun r=>match r with
   | some v=>Res.upd { dst:=some (EV.v (if false=true then AV.T [v,AV.B true] else v)) }
   | none=>zeroK (stdAlg C.pure (noPan G)) C et fun v=>Res.upd { dst:=some (EV.v (if false=true then AV.T [v,AV.B false] else v)) })=Res.upd ux:=hu1
  obtain ⟨cs1,_,_,h5⟩:=mA_inv hu2 hR
  rcases mMl_inv h5 hR with ⟨e,_⟩ | ⟨id1,es1,_,_,h6⟩
  ·cases e
  ·unfold fndS at h6
   split at h6
   ·dsimp only at h6
    split at h6
    ·cases h6;exact ⟨rfl,rfl,rfl,rfl⟩
    ·rcases zeroK_form (C:=C) (G:=G) et with hz | ⟨v,hz⟩
     ·rw [hz] at h6;cases h6
     ·rw [hz] at h6;cases h6;exact ⟨rfl,rfl,rfl,rfl⟩
   ·exact absurd h6.symm hR
 have hs0:(ux.on x.dst s).h=s.h:=by rw [on_h,hux.2.1,hux.2.2.1,hux.2.2.2];rfl
 have hv0:(ux.on x.dst s).hv=s.hv:=by rw [on_hv];unfold Upd.hvOf;rw [hux.2.1,hux.2.2.1]
 have hl0:(ux.on x.dst s).loc=s.loc:=by rw [on_loc,hux.1];rfl
 rw [hs0] at k7
 have hxe:=hno es r v k7 kcl k9 k10
 have hhs:ux.hs = .no:=by unfold Upd.hs;rw [hux.2.1,hux.2.2.2,hux.2.2.1]
 refine ⟨exE_frame h2 henv (fun k _=>by rw [hl0]) (by rw [hs0,hv0];exact .refl),?_,on_comm s a2 (by rw [hux.1];intro q hq;cases hq) (by rw [hhs];rfl)⟩
 have henv':∀q∈x.looksAt all,(uy.on y.dst s).env q=s.env q:=fun q hq=>on_env _ _ _ _ fun d hd e=>a3 d hd (e▸hq)
 have hidlt:=(List.getElem?_eq_some_iff.1 k7).1
 have hh2:(uy.on y.dst s).h[id]? = some (.map (putS ks cs v es)):=by
  rw [on_h,k11]
  show (s.h.set id (.map (putS ks cs v es)))[id]? = _
  rw [List.getElem?_set_self hidlt]
 have hrun:=exU_lk (N:=N) (G:=G) (s:=uy.on y.dst s) hx k1 (by rw [henv' i (looks_op hii')];exact k2') (by rw [henv' j (looks_op hjj')];exact k3') k4 k5 k6 hh2 (dirty_putS kcl) (findS_put k8 es r k9) (.inl rfl)
 have hins:insO C x (uy.on y.dst s)=insO C x s:=insO_same henv'
 have hl2:(uy.on y.dst s).loc=s.loc:=by rw [on_loc,k11];rfl
 have hlo:loO (uy.on y.dst s)=loO s:=by funext e;unfold loO;rw [hl2]
 rw [exE_plain gx px,hrun,hins,hlo,hxe]
 simp only
 rw [footOf_h (h':=s.h) (fun c e=>by rw [hx] at e;cases e) rfl]
theorem eqHO_same {h h':List HO} {id:Nat} (e:eqHO (h.getD id .no) (h'.getD id .no)=true):h.getD id .no=h'.getD id .no:=eqHO_eq _ _ e
theorem objD {α:Type} {h h':List HO} {id:Nat} (e:h.getD id .no=h'.getD id .no) (F:Option HO→α) (hF:F none=F (some .no)):F (h[id]?)=F (h'[id]?):=by
 simp only [List.getD_eq_getElem?_getD] at e
 cases h1:h[id]? with
 | none=>
  cases h2:h'[id]? with
  | none=>rfl
  | some y=>rw [h1,h2] at e;simp only [Option.getD_none,Option.getD_some] at e;rw [←e];exact hF
 | some x=>
  cases h2:h'[id]? with
  | none=>rw [h1,h2] at e;simp only [Option.getD_none,Option.getD_some] at e;rw [e];exact hF.symm
  | some y=>rw [h1,h2] at e;simp only [Option.getD_some] at e;rw [e]
theorem loadK_obj {t:TypeId} (ht:isSlice C.P t=false) {x:EV} {lo:LOv} {h h':List HO} {hv hv':Nat→Nat} (hh:∀id off,x = .v (.P id off)→h.getD id .no=h'.getD id .no) (K:EV→Res) :
  loadK (stdAlg C.pure (noPan G)) C t x lo h hv K=loadK (stdAlg C.pure (noPan G)) C t x lo h' hv' K:=by
 unfold loadK
 dsimp only
 split
 ·rfl
 cases x with
 | v av=>
  cases av with
  | P id off=>
   have e:=hh id off rfl
   have k1:∀K:List HV→Res,mO h id K=mO h' id K:=fun K=>objD e (fun o=>match o with
    | some (.cells cs)=>K cs
    | _=>Res.stuck) rfl
   have k2:∀K:HV→Res,mC h id off K=mC h' id off K:=fun K=>objD e (fun o=>match o with
    | some (.cells cs)=>(match cs[off]? with
     | some x=>K x
     | none=>Res.stuck)
    | _=>Res.stuck) rfl
   have k3:arrAt h id=arrAt h' id:=objD e (fun o=>match o with
    | some (.arr t n xs)=>some (t,n,xs)
    | _=>none) rfl
   simp only [stdAlg,mP]
   rw [k3]
   split
   ·rfl
   ·split
    ·exact k1 _
    ·rw [ht]
     exact k2 _
  | _=>rfl
 | _=>rfl
theorem on_h1 {u:Upd} {d:Option Nat} {s:St} {p:Foot} {q:Foot} {l:List Nat} {hr:HS} (hq:q.ch=chOf hr s.h u) (hp:p.hr = .ids l) (hok:(match p.hr,q.ch with
 | .ids l,some (n,c)=>offL l c&&(match n with
  | none=>true
  | some n=>l.all fun i=>Nat.blt i n)
 | _,_=>false)=true):∀i∈l,s.h.getD i .no=(u.on d s).h.getD i .no:=by
 intro i hi
 rw [hp,hq] at hok
 obtain ⟨dst,locs,heap,dl,push⟩:=u
 rw [on_h]
 cases heap with
 | none=>
  cases push with
  | nil=>
   simp only [chOf,Bool.and_true] at hok
   have hn:=offL_spec hok i hi
   show _=(setH (pushH s.h []) dl).getD i .no
   rw [List.getD_eq_getElem?_getD,List.getD_eq_getElem?_getD,setH_get_nmem _ _ _ hn]
   rfl
  | cons _ _=>simp [chOf] at hok
 | some h'=>
  cases push with
  | cons _ _=>cases hr<;>simp [chOf] at hok
  | nil=>
   cases hr with
   | all=>
    cases dl with
    | cons _ _=>simp [chOf] at hok
    | nil=>
     simp only [chOf,Bool.and_eq_true] at hok
     obtain ⟨h1,h2⟩:=hok
     have hlt:i<s.h.length:=Nat.le_of_ble_eq_true (List.all_eq_true.1 h2 i hi)
     have hn:=offL_spec h1 i hi
     show _=h'.getD i .no
     refine eqHO_same ?_
     rcases hb:eqHO (s.h.getD i .no) (h'.getD i .no) with _ | _
     ·exact absurd (List.mem_filter.2 ⟨List.mem_range.2 hlt,by simp only [hb,Bool.not_false]⟩) hn
     ·rfl
   | no=>simp [chOf] at hok
   | ids _=>simp [chOf] at hok
theorem vl_load {o:Oper} (h:vlOf C N o=true):∃t x,o.op = .load t x∧isSlice C.P t=false∧N.win (o.dst.getD 0)=false:=by
 unfold vlOf at h
 split at h
 ·rename_i t x e
  simp only [Bool.and_eq_true,Bool.not_eq_true'] at h
  exact ⟨t,x,e,h.1,h.2⟩
 ·cases h
theorem exU_load {o:Oper} {t:TypeId} {x:Operand} (ho:o.op = .load t x) (ht:isSlice C.P t=false) (hw:N.win (o.dst.getD 0)=false) {s s':St} (hins:insO C o s'=insO C o s) (hlo:(insO C o s).map (loO s')=(insO C o s).map (loO s))
  (hh:∀id off,(insO C o s).getD 0 (.v .U) = .v (.P id off)→s.h.getD id .no=s'.h.getD id .no):exU C N G o s'=exU C N G o s:=by
 unfold exU
 rw [hins,hlo]
 unfold opF
 rw [ho]
 simp only [hw,Bool.false_eq_true,if_false]
 exact (loadK_obj ht hh _).symm
theorem exU_load_u {o:Oper} {t:TypeId} {x:Operand} (ho:o.op = .load t x) (hw:N.win (o.dst.getD 0)=false) {s:St} {u:Upd} (h:exU C N G o s = .upd u):u.locs=[]∧u.heap=none∧u.dl=[]∧u.push=[]:=by
 unfold exU opF at h
 rw [ho] at h
 simp only [hw,Bool.false_eq_true,if_false] at h
 have:=T_loadK (C:=C) (G:=G) (T:=fun r1 r2=>(r1 = .stuck∧r2 = .stuck)∨∃e,r1 = .upd { dst:=some e } ∧ r2 = .upd { dst:=some e }) (.inl ⟨rfl,rfl⟩) (t:=t) (x:=(insO C o s).getD 0 (.v .U)) (lo:=((insO C o s).map (loO s)).getD 0 ⟨0, .no⟩) (h:=s.h) (h':=s.h) (hv:=s.hv) (hv':=s.hv) (fun _ _ _=>⟨rfl,rfl⟩) (F1:=fun e=>Res.upd { dst:=some e }) (F2:=fun e=>Res.upd { dst:=some e }) fun e => .inr ⟨e,rfl,rfl⟩
 rcases this with ⟨h1,_⟩ | ⟨e,h1,_⟩
 ·rw [h1] at h;cases h
 ·rw [h1] at h;cases h;exact ⟨rfl,rfl,rfl,rfl⟩
theorem exE_vl {all:Array Oper} {o:Oper} {s:St} {ft:Foot} {u:Upd} (h:exE C N G all o s=some (ft,u)) (hvl:ft.vl=true) :
  exU C N G o s = .upd u∧ft=footOf C N o (insO C o s) ((insO C o s).map (loO s)) s.h u∧∀s',(∀t∈o.looksAt all,s'.env t=s.env t)→exU C N G o s' = .upd u→footOf C N o (insO C o s') ((insO C o s').map (loO s')) s'.h u=ft→exE C N G all o s'=some (ft,u):=by
 have run:∀{s:St},(match o.op with
   | .panic _=>none
   | _=>match exU C N G o s with
    | .upd u=>some (footOf C N o (insO C o s) ((insO C o s).map (loO s)) s.h u,u)
    | _=>none)=some (ft,u)→exU C N G o s = .upd u∧ft=footOf C N o (insO C o s) ((insO C o s).map (loO s)) s.h u∧∀x,o.op ≠ .panic x:=by
  intro s h
  split at h
  ·cases h
  ·rename_i hp
   split at h
   ·rename_i u' hu
    cases h
    exact ⟨hu,rfl,hp⟩
   ·cases h
 have back:(∀x,o.op ≠ .panic x)→∀s',exU C N G o s' = .upd u→footOf C N o (insO C o s') ((insO C o s').map (loO s')) s'.h u=ft→(match o.op with
   | .panic _=>none
   | _=>match exU C N G o s' with
    | .upd u=>some (footOf C N o (insO C o s') ((insO C o s').map (loO s')) s'.h u,u)
    | _=>none)=some (ft,u):=by
  intro hp s' h1 h2
  split
  ·rename_i x e;exact absurd e (hp x)
  ·rw [h1]
   simp only
   rw [h2]
 unfold exE at h ⊢
 dsimp only at h ⊢
 cases hg:o.guard with
 | none=>
  rw [hg] at h
  obtain ⟨k1,k2,k3⟩:=run h
  exact ⟨k1,k2,fun s' _ h1 h2=>back k3 s' h1 h2⟩
 | some jw=>
  obtain ⟨j,want⟩:=jw
  rw [hg] at h
  simp only at h ⊢
  cases hj:(all[j]?).bind (·.dst) with
  | none=>rw [hj] at h;cases h
  | some g=>
   rw [hj] at h
   simp only at h ⊢
   split at h
   ·rename_i b hb
    split at h
    ·rename_i hbw
     obtain ⟨k1,k2,k3⟩:=run h
     refine ⟨k1,k2,fun s' he h1 h2 => ?_⟩
     rw [he g (looks_guard hg hj),hb]
     simp only
     rw [if_pos hbw]
     have hb:=back k3 s' h1 h2
     split at hb
     ·rename_i x e;exact absurd e (k3 x)
     ·exact hb
    ·cases h;cases hvl
   ·cases h;cases hvl
   ·cases h
theorem exE_ch {all:Array Oper} {o:Oper} {s:St} {ft:Foot} {u:Upd} (h:exE C N G all o s=some (ft,u)):ft.ch=none∨∃hr,ft.ch=chOf hr s.h u:=by
 have run:(match o.op with
   | .panic _=>none
   | _=>match exU C N G o s with
    | .upd u=>some (footOf C N o (insO C o s) ((insO C o s).map (loO s)) s.h u,u)
    | _=>none)=some (ft,u)→ft.ch=none∨∃hr,ft.ch=chOf hr s.h u:=by
  intro h
  split at h
  ·cases h
  ·split at h
   ·cases h;exact .inr ⟨_,rfl⟩
   ·cases h
 unfold exE at h
 dsimp only at h
 cases hg:o.guard with
 | none=>rw [hg] at h;exact run h
 | some jw=>
  obtain ⟨j,want⟩:=jw
  rw [hg] at h
  simp only at h
  cases hj:(all[j]?).bind (·.dst) with
  | none=>rw [hj] at h;cases h
  | some g=>
   rw [hj] at h
   simp only at h
   split at h
   ·split at h
    ·exact run h
    ·cases h;exact .inl rfl
   ·cases h;exact .inl rfl
   ·cases h
theorem ldOK_spec {p q:Foot} (h:ldOK p q=true):p.vl=true∧(∃l,p.hr = .ids l)∧q.ch≠none∧(match p.hr,q.ch with
 | .ids l,some (n,c)=>offL l c&&(match n with
  | none=>true
  | some n=>l.all fun i=>Nat.blt i n)
 | _,_=>false)=true∧(∀i∈q.wr,i ∉ p.rd)∧∀i∈p.wr,i ∉ q.rd:=by
 unfold ldOK at h
 simp only [Bool.and_eq_true] at h
 obtain ⟨⟨⟨h1,h2⟩,h3⟩,h4⟩:=h
 refine ⟨h1,?_,fun e => ?_,h2,offL_spec h3,offL_spec h4⟩
 ·split at h2
  ·rename_i l _ _ e _;exact ⟨l,e⟩
  ·cases h2
 ·rw [e] at h2
  split at h2
  ·rename_i e2;cases e2
  ·cases h2
theorem load_again {all:Array Oper} {x:Oper} {fx:Foot} {ux:Upd} {s s':St} (h:exE C N G all x s=some (fx,ux)) (hvl:fx.vl=true) {l:List Nat} (hl:fx.hr = .ids l) (henv:∀t∈x.looksAt all,s'.env t=s.env t) (hloc:∀k∈fx.rd,s'.loc k=s.loc k) (hh:∀i∈l,s.h.getD i .no=s'.h.getD i .no) :
  exE C N G all x s'=some (fx,ux)∧ux.locs=[]∧ux.heap=none∧ux.dl=[]∧ux.push=[]:=by
 obtain ⟨k1,k2,k3⟩:=exE_vl h hvl
 have hv2:vlOf C N x=true:=by rw [k2] at hvl;exact hvl
 obtain ⟨t,ax,ho,ht,hw⟩:=vl_load hv2
 obtain ⟨u1,u2,u3,u4⟩:=exU_load_u ho hw k1
 have hins:insO C x s'=insO C x s:=insO_same henv
 have hrd:fx.rd=(x.dst.getD 0)::(insO C x s).filterMap EV.site:=by
  rw [k2]
  unfold footOf rdOf
  rw [ho]
 have hlo:(insO C x s).map (loO s')=(insO C x s).map (loO s):=by
  refine List.map_congr_left fun e he => ?_
  unfold loO
  cases hes:e.site with
  | none=>rfl
  | some k=>
   refine hloc k ?_
   rw [hrd]
   exact List.mem_cons_of_mem _ (List.mem_filterMap.2 ⟨e,he,hes⟩)
 refine ⟨k3 s' henv ?_ ?_,u1,u2,u3,u4⟩
 ·rw [exU_load ho ht hw hins hlo (fun id off e=>hh id ?_)]
  ·exact k1
  ·have:fx.hr=looks C N x (insO C x s) ((insO C x s).map (loO s)) s.h:=by rw [k2];rfl
   rw [hl] at this
   unfold looks at this
   rw [ho] at this
   simp only [hw,Bool.false_eq_true,if_false,e,objOf] at this
   cases this
   simp
 ·rw [hins,hlo,k2]
  exact footOf_h (fun c e=>by rw [ho] at e;cases e) u2
theorem exE_commD {all:Array Oper} {x y:Oper} {fx fy:Foot} {ux uy:Upd} {s:St} (hap:x.apart all y=true) (hok:ldOK fx fy=true) (h1:exE C N G all x s=some (fx,ux)) (h2:exE C N G all y (ux.on x.dst s)=some (fy,uy)) :
  exE C N G all y s=some (fy,uy)∧exE C N G all x (uy.on y.dst s)=some (fx,ux)∧uy.on y.dst (ux.on x.dst s)=ux.on x.dst (uy.on y.dst s):=by
 obtain ⟨a1,a2,a3⟩:=Oper.apart_spec hap
 obtain ⟨o1,⟨l,hl⟩,o3,o4,o5,o6⟩:=ldOK_spec hok
 obtain ⟨_,hux⟩:=load_again h1 o1 hl (fun _ _=>rfl) (fun _ _=>rfl) (fun _ _=>rfl)
 have hs0:(ux.on x.dst s).h=s.h:=by rw [on_h,hux.2.1,hux.2.2.1,hux.2.2.2];rfl
 have hv0:(ux.on x.dst s).hv=s.hv:=by rw [on_hv];unfold Upd.hvOf;rw [hux.2.1,hux.2.2.1]
 have hl0:(ux.on x.dst s).loc=s.loc:=by rw [on_loc,hux.1];rfl
 have hhs:ux.hs = .no:=by unfold Upd.hs;rw [hux.2.1,hux.2.2.2,hux.2.2.1]
 have h2':=exE_frame h2 (s:=s) (fun t ht=>on_env _ _ _ _ fun d hd e=>a1 d hd (e▸ht)) (fun k _=>by rw [hl0]) (by rw [hs0,hv0];exact .refl)
 obtain ⟨w3,w4⟩:=exE_foot h2
 rcases exE_ch h2' with hc | ⟨hr,hc⟩
 ·exact absurd hc o3
 refine ⟨h2',(load_again h1 o1 hl (fun t ht=>on_env _ _ _ _ fun d hd e=>a3 d hd (e▸ht)) (fun k hk => ?_) (on_h1 hc hl o4)).1,on_comm s a2 (by rw [hux.1];intro q hq;cases hq) (by rw [hhs];rfl)⟩
 rw [on_loc,setLocs_nmem]
 intro hm
 rw [←w3] at hm
 exact o5 k hm hk
theorem exE_commE {all:Array Oper} {x y:Oper} {fx fy:Foot} {ux uy:Upd} {s:St} (hap:x.apart all y=true) (hok:ldOK fy fx=true) (h1:exE C N G all x s=some (fx,ux)) (h2:exE C N G all y (ux.on x.dst s)=some (fy,uy)) :
  exE C N G all y s=some (fy,uy)∧exE C N G all x (uy.on y.dst s)=some (fx,ux)∧uy.on y.dst (ux.on x.dst s)=ux.on x.dst (uy.on y.dst s):=by
 obtain ⟨a1,a2,a3⟩:=Oper.apart_spec hap
 obtain ⟨o1,⟨l,hl⟩,o3,o4,o5,o6⟩:=ldOK_spec hok
 obtain ⟨w1,w2⟩:=exE_foot h1
 rcases exE_ch h1 with hc | ⟨hr,hc⟩
 ·exact absurd hc o3
 obtain ⟨h2',hux⟩:=load_again h2 o1 hl (s':=s) (fun t ht=>(on_env _ _ _ _ fun d hd e=>a1 d hd (e▸ht)).symm) (fun k hk=>by
  rw [on_loc,setLocs_nmem]
  intro hm
  rw [←w1] at hm
  exact o5 k hm hk) (fun i hi=>(on_h1 hc hl o4 i hi).symm)
 have hs0:(uy.on y.dst s).h=s.h:=by rw [on_h,hux.2.1,hux.2.2.1,hux.2.2.2];rfl
 have hv0:(uy.on y.dst s).hv=s.hv:=by rw [on_hv];unfold Upd.hvOf;rw [hux.2.1,hux.2.2.1]
 have hl0:(uy.on y.dst s).loc=s.loc:=by rw [on_loc,hux.1];rfl
 have hhs:uy.hs = .no:=by unfold Upd.hs;rw [hux.2.1,hux.2.2.2,hux.2.2.1]
 refine ⟨h2',exE_frame h1 (fun t ht=>(on_env _ _ _ _ fun d hd e=>a3 d hd (e▸ht)).symm) (fun k _=>by rw [hl0]) (by rw [hs0,hv0];exact .refl),on_comm s a2 (by rw [hux.1];intro q _ hq;cases hq) (by rw [hhs];cases ux.hs<;>rfl)⟩
def Runs (C:Cx) (N:Ann) (G:FuncId→List AV→List HO→Res) (all:Array Oper):List (Nat×Foot)→St→St→Prop
 | [],s,s'=>s=s'
 | p::L,s,s'=>∃o u,all[p.1]? = some o∧exE C N G all o s=some (p.2,u)∧Runs C N G all L (u.on o.dst s) s'
def Free (all:Array Oper) (p q:Nat×Foot):Prop:=∃x y,all[p.1]? = some x∧all[q.1]? = some y∧x.apart all y=true∧(p.2.off q.2=true∨lkMe x y=true∨ldOK p.2 q.2=true∨ldOK q.2 p.2=true)
def OkP (all:Array Oper) (befs:List Nat) (p q:Nat×Foot):Prop:=(befs.getD q.1 0).testBit p.1=true∨Free all p q
theorem Runs.swap {all:Array Oper} {p q:Nat×Foot} {L:List (Nat×Foot)} {s s':St} (hf:Free all p q) (h:Runs C N G all (p::q::L) s s'):Runs C N G all (q::p::L) s s':=by
 obtain ⟨x,ux,hx,hex,y,uy,hy,hey,hr⟩:=h
 obtain ⟨x',y',hx',hy',hap,hoff⟩:=hf
 rw [hx] at hx';cases hx'
 rw [hy] at hy';cases hy'
 obtain ⟨c1,c2,c3⟩:=hoff.elim (fun h=>exE_comm hap h hex hey) fun h=>h.elim (fun h=>exE_commL hap h hex hey) fun h=>h.elim (fun h=>exE_commD hap h hex hey) fun h=>exE_commE hap h hex hey
 exact ⟨y,uy,hy,c1,x,ux,hx,c2,by rw [←c3];exact hr⟩
theorem Runs.bubble {all:Array Oper} {p:Nat×Foot} {ys:List (Nat×Foot)} : ∀(xs:List (Nat×Foot)) {s s':St},(∀x∈xs,Free all x p)→Runs C N G all (xs++p::ys) s s'→Runs C N G all (p::(xs++ys)) s s'
 | [],_,_,_,h=>h
 | x::xs,s,s',hf,h=>by
  obtain ⟨o,u,ho,he,hr⟩:=h
  have:=Runs.bubble xs (fun y hy=>hf y (List.mem_cons_of_mem _ hy)) hr
  exact Runs.swap (hf x List.mem_cons_self) ⟨o,u,ho,he,this⟩
end
end Go.Vm
namespace Go.Vm
open Go
section
variable {C:Cx} {N:Ann} {G:FuncId→List AV→List HO→Res} {nt:NT} {g0:Gh} {w0:World} {R:Res}
theorem noPan_stuck {fid:FuncId} {as:List AV} {h:List HO} {R:Res} (hr:noPan G fid as h=R) (hR:R ≠ .stuck):G fid as h=R:=by
 unfold noPan noPan1 at hr
 split at hr
 ·exact absurd hr.symm hR
 ·exact hr
theorem Sound.noPan {fid:FuncId} (h:Sound C fid (G fid)):Sound C fid (noPan G fid):=by
 unfold Sound at h ⊢
 split
 ·rename_i hp
  rw [if_pos hp] at h
  refine ⟨fun g w as vals R hr hR=>h.1 g w as vals R (noPan_stuck hr hR) hR,fun e he => ?_⟩
  obtain ⟨k,h2⟩:=h.2 e he
  exact ⟨k,fun g w c as u0 vals v hh hr=>h2 g w c as u0 vals v hh (noPan_stuck hr (by simp))⟩
 ·rename_i hp
  rw [if_neg hp] at h
  intro g w as vals hh R hr hR
  exact h g w as vals hh R (noPan_stuck hr hR) hR
theorem range_cons (i n:Nat):List.range' i (n+1)=i::List.range' (i+1) n:=rfl
theorem aOpsD_inv (hR:R ≠ .stuck) {all:Array Oper} {befs:List Nat} {kn:St→Res} : ∀(l:List Oper) (i:Nat) (done:List (Nat×Foot)) (s:St),all.toList.drop i=l →
  aOpsD (stdAlg C.pure (noPan G)) C N all befs i l done s kn=R →
  ∃L s',Runs C N G all L s s'∧L.map (·.1)=List.range' i l.length∧kn s'=R∧(∀p∈done,∀q∈L,OkP all befs p q)∧L.Pairwise (OkP all befs)∧(∀j o,i≤j→all[j]? = some o→edgesOK j o=true)
 | [],i,done,s,hl,h=>by
  refine ⟨[],s,rfl,rfl,h,fun _ _ _ hq=>(by cases hq), .nil,fun j o hj ho => ?_⟩
  have hi:all.size≤i:=by
   rw [←Array.length_toList]
   exact List.drop_eq_nil_iff.1 hl
  have:=(Array.getElem?_eq_some_iff.1 ho).1
  omega
 | o::l,i,done,s,hl,h=>by
  have hi:i<all.size:=by
   rw [←Array.length_toList]
   rcases Nat.lt_or_ge i all.toList.length with h | h
   ·exact h
   ·rw [List.drop_eq_nil_iff.2 h] at hl;cases hl
  have ho:all[i]? = some o:=by
   rw [List.drop_eq_getElem_cons (by simpa using hi)] at hl
   simp only [List.cons.injEq] at hl
   rw [Array.getElem?_eq_getElem hi]
   simpa using hl.1
  have hl':all.toList.drop (i+1)=l:=by
   rw [List.drop_eq_getElem_cons (by simpa using hi)] at hl
   simp only [List.cons.injEq] at hl
   exact hl.2
  have okp:∀ft,apartAll all (befs.getD i 0) o ft done=true→∀p∈done,OkP all befs p (i,ft):=by
   intro ft hap p hp
   have:=List.all_eq_true.1 hap p hp
   rw [Bool.or_eq_true] at this
   rcases this with h | h
   ·exact .inl h
   ·split at h
    ·rename_i x hx
     rw [Bool.and_eq_true,Bool.or_eq_true,Bool.or_eq_true,Bool.or_eq_true,or_assoc,or_assoc] at h
     exact .inr ⟨x,o,hx,ho,h.1,h.2⟩
    ·cases h
  unfold aOpsD at h
  dsimp only at h
  split at h
  case isFalse=>exact absurd h.symm hR
  rename_i hedge
  have rest:∀(ft:Foot) (u:Upd),exE C N G all o s=some (ft,u)→apartAll all (befs.getD i 0) o ft done=true→aOpsD (stdAlg C.pure (noPan G)) C N all befs (i+1) l ((i,ft)::done) (u.on o.dst s) kn=R →
    ∃L s',Runs C N G all L s s'∧L.map (·.1)=List.range' i (l.length+1)∧kn s'=R∧(∀p∈done,∀q∈L,OkP all befs p q)∧L.Pairwise (OkP all befs)∧(∀j o,i≤j→all[j]? = some o→edgesOK j o=true):=by
   intro ft u he hap h
   obtain ⟨L,s',h1,h2,h3,h4,h5,h6⟩:=aOpsD_inv hR l (i+1) _ _ hl' h
   refine ⟨(i,ft)::L,s',⟨o,u,ho,he,h1⟩,by rw [List.map_cons,h2,range_cons],h3,fun p hp q hq => ?_,List.pairwise_cons.2 ⟨fun q hq=>h4 (i,ft) List.mem_cons_self q hq,h5⟩,fun j o' hj ho' => ?_⟩
   ·rcases List.mem_cons.1 hq with rfl | hq
    ·exact okp ft hap p hp
    ·exact h4 p (List.mem_cons_of_mem _ hp) q hq
   ·rcases Nat.lt_or_ge i j with hlt | hge
    ·exact h6 j o' hlt ho'
    ·have:j=i:=by omega
     subst this
     rw [ho] at ho'
     cases ho'
     exact hedge
  have run:(∀u ft,exU C N G o s = .upd u→(∀x,o.op ≠ .panic x)→ft=footOf C N o (insO C o s) ((insO C o s).map (loO s)) s.h u→exE C N G all o s=some (ft,u)) →
    (match o.op with
     | .panic _=>(stdAlg C.pure (noPan G)).stuck
     | _=>opF (stdAlg C.pure (noPan G)) C N o (o.op.operands.toList.map (evO C s)) ((o.op.operands.toList.map (evO C s)).map (loO s)) (s.loc (o.dst.getD 0)) s.h s.hv fun u=>
       if apartAll all (befs.getD i 0) o (footOf C N o (o.op.operands.toList.map (evO C s)) ((o.op.operands.toList.map (evO C s)).map (loO s)) s.h u) done then aOpsD (stdAlg C.pure (noPan G)) C N all befs (i+1) l ((i,footOf C N o (o.op.operands.toList.map (evO C s)) ((o.op.operands.toList.map (evO C s)).map (loO s)) s.h u)::done) (u.on o.dst s) kn else (stdAlg C.pure (noPan G)).stuck)=R →
    ∃L s',Runs C N G all L s s'∧L.map (·.1)=List.range' i (l.length+1)∧kn s'=R∧(∀p∈done,∀q∈L,OkP all befs p q)∧L.Pairwise (OkP all befs)∧(∀j o,i≤j→all[j]? = some o→edgesOK j o=true):=by
   intro hex h
   split at h
   ·exact absurd h.symm hR
   ·rename_i hnp
    have hp:∀x,o.op ≠ .panic x:=fun x hx=>hnp x hx
    obtain ⟨u,hu,hk⟩:=exU_cases hp hR h
    split at hk
    ·rename_i hap
     exact rest _ u (hex u _ hu hp rfl) hap hk
    ·exact absurd hk.symm hR
  have exrun:∀{u:Upd} {ft:Foot},exU C N G o s = .upd u→(∀x,o.op ≠ .panic x)→ft=footOf C N o (insO C o s) ((insO C o s).map (loO s)) s.h u→(match o.op with
    | .panic _=>none
    | _=>match exU C N G o s with
     | .upd u=>some (footOf C N o (insO C o s) ((insO C o s).map (loO s)) s.h u,u)
     | _=>none)=some (ft,u):=by
   intro u ft hu hp hft
   split
   ·rename_i x hx;exact absurd hx (hp x)
   ·rw [hu,hft]
  split at h
  ·rename_i hg
   refine run (fun u ft hu hp hft => ?_) h
   unfold exE
   dsimp only
   rw [hg]
   exact exrun hu hp hft
  ·rename_i j want hg
   split at h
   ·exact absurd h.symm hR
   ·rename_i gt hj
    split at h
    ·rename_i av he
     obtain ⟨b,rfl,h1⟩:=mB_inv h hR
     have body:∀b',b'=b→(if b'=want then (match o.op with
       | .panic _=>(stdAlg C.pure (noPan G)).stuck
       | _=>opF (stdAlg C.pure (noPan G)) C N o (o.op.operands.toList.map (evO C (s.put (some gt) (.v (.B b'))))) ((o.op.operands.toList.map (evO C (s.put (some gt) (.v (.B b'))))).map (loO (s.put (some gt) (.v (.B b'))))) ((s.put (some gt) (.v (.B b'))).loc (o.dst.getD 0)) (s.put (some gt) (.v (.B b'))).h (s.put (some gt) (.v (.B b'))).hv fun u=>
         if apartAll all (befs.getD i 0) o (footOf C N o (o.op.operands.toList.map (evO C (s.put (some gt) (.v (.B b'))))) ((o.op.operands.toList.map (evO C (s.put (some gt) (.v (.B b'))))).map (loO (s.put (some gt) (.v (.B b'))))) (s.put (some gt) (.v (.B b'))).h u) done then aOpsD (stdAlg C.pure (noPan G)) C N all befs (i+1) l ((i,footOf C N o (o.op.operands.toList.map (evO C (s.put (some gt) (.v (.B b'))))) ((o.op.operands.toList.map (evO C (s.put (some gt) (.v (.B b'))))).map (loO (s.put (some gt) (.v (.B b'))))) (s.put (some gt) (.v (.B b'))).h u)::done) (u.on o.dst (s.put (some gt) (.v (.B b')))) kn else (stdAlg C.pure (noPan G)).stuck)
       else if apartAll all (befs.getD i 0) o noFoot done then aOpsD (stdAlg C.pure (noPan G)) C N all befs (i+1) l ((i,noFoot)::done) ((s.put (some gt) (.v (.B b'))).put o.dst .un) kn else (stdAlg C.pure (noPan G)).stuck)=R →
       ∃L s',Runs C N G all L s s'∧L.map (·.1)=List.range' i (l.length+1)∧kn s'=R∧(∀p∈done,∀q∈L,OkP all befs p q)∧L.Pairwise (OkP all befs)∧(∀j o,i≤j→all[j]? = some o→edgesOK j o=true):=by
      intro b' hb h9
      subst hb
      rw [put_self he] at h9
      have hex0:∀r,(if b'=want then r else some (noFoot,{ dst:=some .un }))=(match s.env gt with
        | .v (.B b)=>if b=want then r else some (noFoot,({ dst:=some .un } : Upd))
        | .un=>some (noFoot,({ dst:=some .un } : Upd))
        | _=>none):=by
       intro r
       rw [he]
      split at h9
      ·rename_i hbw
       refine run (fun u ft hu hp hft => ?_) h9
       unfold exE
       dsimp only
       rw [hg]
       simp only
       rw [hj]
       simp only
       rw [he]
       simp only
       rw [if_pos hbw]
       first
        | exact exrun hu hp hft
        | rw [hu,hft]
      ·rename_i hbw
       split at h9
       ·rename_i hap
        refine rest noFoot { dst:=some .un } ?_ hap (by rw [on_skip];exact h9)
        unfold exE
        dsimp only
        rw [hg]
        simp only
        rw [hj]
        simp only
        rw [he]
        simp only
        rw [if_neg hbw]
       ·exact absurd h9.symm hR
     rcases bIte_inv h1 with ⟨hb,h2⟩ | ⟨hb,h2⟩
     ·exact body true hb.symm h2
     ·exact body false hb.symm h2
    ·rename_i he
     split at h
     ·rename_i hap
      refine rest noFoot { dst:=some .un } ?_ hap (by rw [on_skip];exact h)
      unfold exE
      dsimp only
      rw [hg]
      simp only
      rw [hj]
      simp only
      rw [he]
     ·exact absurd h.symm hR
    ·exact absurd h.symm hR
def Listed (all:Array Oper) (D:Nat→Prop):Prop:=∀j o,all[j]? = some o→D j→∀e∈o.after,Region.binds .any e=true→D e.on
def BefInv (l:List Oper) (acc:List Nat):Prop:=∀q,q<acc.length→∀p,(acc.getD q 0).testBit p=true→∃o,l[q]? = some o∧∃e∈o.after,Region.binds .any e=true∧(e.on=p∨(e.on<q∧(acc.getD e.on 0).testBit p=true))
theorem fold_bits {acc:List Nat} {p:Nat} : ∀(es:List Edge) (m0:Nat),(es.foldl (fun m e=>if Region.binds .any e then m ||| (1 <<< e.on) ||| acc.getD e.on 0 else m) m0).testBit p=true →
  m0.testBit p=true∨∃e∈es,Region.binds .any e=true∧(e.on=p∨(acc.getD e.on 0).testBit p=true)
 | [],m0,h => .inl h
 | e::es,m0,h=>by
  simp only [List.foldl_cons] at h
  rcases fold_bits es _ h with h1 | ⟨e',he',hb,hr⟩
  ·split at h1
   ·rename_i hb
    rw [Nat.testBit_or,Nat.testBit_or] at h1
    simp only [Bool.or_eq_true] at h1
    rcases h1 with (h1 | h1) | h1
    ·exact .inl h1
    ·refine .inr ⟨e,List.mem_cons_self,hb, .inl ?_⟩
     rw [Nat.one_shiftLeft,Nat.testBit_two_pow] at h1
     simpa using h1
    ·exact .inr ⟨e,List.mem_cons_self,hb, .inr h1⟩
   ·exact .inl h1
  ·exact .inr ⟨e',List.mem_cons_of_mem _ he',hb,hr⟩
theorem befores_inv (l:List Oper):∀(r:List Oper) (acc:List Nat),l.drop acc.length=r→acc.length≤l.length→BefInv l acc→BefInv l (befores r acc)
 | [],acc,_,_,h=>h
 | o::r,acc,hl,hle,h=>by
  have hlt:acc.length<l.length:=by
   rcases Nat.lt_or_ge acc.length l.length with h | h
   ·exact h
   ·rw [List.drop_eq_nil_iff.2 h] at hl;cases hl
  have ho:l[acc.length]? = some o:=by
   rw [List.drop_eq_getElem_cons hlt] at hl
   simp only [List.cons.injEq] at hl
   rw [List.getElem?_eq_getElem hlt,hl.1]
  simp only [befores]
  have hdr:l.drop (acc.length+1)=r:=by
   rw [List.drop_eq_getElem_cons hlt] at hl
   simp only [List.cons.injEq] at hl
   exact hl.2
  refine befores_inv l r _ (by simpa using hdr) (by simp;omega) fun q hq p hp => ?_
  rcases Nat.lt_or_ge q acc.length with hq' | hq'
  ·have e1:(acc++[o.after.toList.foldl (fun m e=>if Region.binds .any e then m ||| (1 <<< e.on) ||| acc.getD e.on 0 else m) 0]).getD q 0=acc.getD q 0:=by
    simp [List.getD_eq_getElem?_getD,List.getElem?_append_left hq']
   rw [e1] at hp
   obtain ⟨o',ho',e,he,hb,hr⟩:=h q hq' p hp
   refine ⟨o',ho',e,he,hb,hr.imp id fun hr=>⟨hr.1,?_⟩⟩
   rw [List.getD_eq_getElem?_getD,List.getElem?_append_left (by omega),←List.getD_eq_getElem?_getD]
   exact hr.2
  ·have hqe:q=acc.length:=by simp at hq;omega
   subst hqe
   rw [List.getD_eq_getElem?_getD,List.getElem?_append_right (Nat.le_refl _)] at hp
   simp only [Nat.sub_self,List.getElem?_cons_zero,Option.getD_some] at hp
   rcases fold_bits _ _ hp with h0 | ⟨e,he,hb,hr⟩
   ·simp at h0
   ·refine ⟨o,ho,e,by simpa using he,hb,hr.imp id fun hr => ?_⟩
    have hlt2:e.on<acc.length:=by
     rcases Nat.lt_or_ge e.on acc.length with h | h
     ·exact h
     ·rw [List.getD_eq_getElem?_getD,List.getElem?_eq_none h] at hr
      simp at hr
    refine ⟨hlt2,?_⟩
    rw [List.getD_eq_getElem?_getD,List.getElem?_append_left hlt2,←List.getD_eq_getElem?_getD]
    exact hr
theorem before_listed {all:Array Oper} {D:Nat→Prop} (hD:Listed all D):∀(q p:Nat),((befores all.toList []).getD q 0).testBit p=true→(∀o,all[q]? = some o→∀e∈o.after,Region.binds .any e=true→D e.on)→D p:=by
 have hinv:=befores_inv all.toList all.toList [] rfl (Nat.zero_le _) (fun q hq=>by simp at hq)
 intro q
 induction q using Nat.strongRecOn with
 | _ q ih=>
  intro p hp hq
  have hlt:q<(befores all.toList []).length:=by
   rcases Nat.lt_or_ge q (befores all.toList []).length with h | h
   ·exact h
   ·rw [List.getD_eq_getElem?_getD,List.getElem?_eq_none h] at hp
    simp at hp
  obtain ⟨o,ho,e,he,hb,hr⟩:=hinv q hlt p hp
  have ho':all[q]? = some o:=by rw [←Array.getElem?_toList];exact ho
  have hDe:=hq o ho' e he hb
  rcases hr with rfl | ⟨h1,h2⟩
  ·exact hDe
  ·exact ih e.on h1 p h2 fun o2 ho2 e2 he2 hb2=>hD e.on o2 ho2 hDe e2 he2 hb2
theorem Rel.drew {g:Gh} {w:World} {f:Fr} {s:St} {a:Act} (r:Rel C nt g0 w0 g w f s a):Rel C nt g0 w0 g { w with drawn:=w.drawn+1 } f s a:=by
 have hch:Chg (fun _=>False) g w g { w with drawn:=w.drawn+1 } :=
  ⟨⟨Nat.le_refl _,fun _ _=>rfl,fun _ _ h=>h,fun _ _ _=>rfl,fun _ _ _ _ _ h=>h⟩,Nat.le_refl _,fun _ _ _=>rfl,fun _ _ _=>rfl,fun _ _ _ _ h=>h,rfl,rfl,rfl⟩
 obtain ⟨c1,s1⟩:=r.core.quiet hch rfl r.core.wf
 refine ⟨r.ext.trans s1.chg fun b hb hB hn=>hB ((r.ext.ow b hb (fun x=>x hn)).trans hn),c1,fun t=>(r.env t).stp r.core.heap.len s1,fun gi cs hg=>GV.later hch.later gi cs (r.glob gi cs hg),r.dfr.chg s1.chg (fun _ h=>h),r.sz,r.fixed⟩
theorem exE_step {ro:Option Nat} {m:Nat} {all:Array Oper} (hC:OkC C) (hG:∀j,Sound C j (G j)) {o:Oper} {i:Nat} (ho:all[i]? = some o) (hd:∀x,o.dst=some x→nt.ok x) {Q:Exit→Act→World→Prop} {K:Act→World→Prop} {g:Gh} {w:World} {f:Fr} {s:St} {a:Act} {ft:Foot} {u:Upd}
  (r:Rel C nt g0 w0 g w f s a) (he:exE C N G all o s=some (ft,u)) (hK:∀g' w' f' a',Rel C nt g0 w0 g' w' f' (u.on o.dst s) a'→K a' w'):wpOpIn (FR ro) m C.P all Q i K a w:=by
 have run:(match o.op with
   | .panic _=>none
   | _=>match exU C N G o s with
    | .upd u=>some (footOf C N o (insO C o s) ((insO C o s).map (loO s)) s.h u,u)
    | _=>none)=some (ft,u)→o.wpIn (FR ro) m C.P a w K Q:=by
  intro h
  split at h
  ·cases h
  ·split at h
   ·rename_i u' hu
    cases h
    have:=OpS.all (N:=N) hC r hd (R := .upd u) (by simp) (fun j=>(hG j).noPan) (o:=o) (K:=Res.upd) hu
    exact opIn (opH_nodefer (N:=N) (R := .upd u) (by simp) hu) (this K Q (fun u2 g' w' f' a' hk hrel=>by cases hk;exact hK g' w' f' a' hrel) (fun v h' u g' w' e=>by cases e))
   ·cases h
 unfold wpOpIn
 rw [ho]
 simp only
 unfold exE at he
 dsimp only at he
 cases hg:o.guard with
 | none=>
  rw [hg] at he
  rw [if_pos (by simp [Region.wanted,hg])]
  exact run he
 | some jw=>
  obtain ⟨j,want⟩:=jw
  rw [hg] at he
  simp only at he
  cases hj:(all[j]?).bind (·.dst) with
  | none=>rw [hj] at he;cases he
  | some gt=>
   rw [hj] at he
   simp only at he
   split at he
   ·rename_i b hb
    have hy:=r.yields hj hb
    have hw:Region.wanted o (yielded all a.tmps)=(b == want):=by
     simp only [Region.wanted,hg,hy]
     cases b<;>cases want<;>rfl
    rw [hw]
    split at he
    ·rename_i hbw
     rw [if_pos (by simp [hbw])]
     exact run he
    ·rename_i hbw
     cases he
     rw [if_neg (by simpa using hbw)]
     rw [on_skip] at hK
     exact ⟨fun _ _=>trivial,hK g w f _ (r.putUn o.dst hd)⟩
   ·rename_i hb
    have hy:=r.yields_un hj hb
    have hw:Region.wanted o (yielded all a.tmps)=false:=by
     simp only [Region.wanted,hg,hy]
     rfl
    cases he
    rw [hw]
    rw [on_skip] at hK
    exact ⟨fun _ _=>trivial,hK g w f _ (r.putUn o.dst hd)⟩
   ·cases he
theorem draws_sound {ro:Option Nat} {m:Nat} (hC:OkC C) (hG:∀j,Sound C j (G j)) {all:Array Oper} (hdst:dstOK nt all=true) (hedge:∀j o,all[j]? = some o→edgesOK j o=true) {Q:Exit→Act→World→Prop} {sn:St} (hQ:∀g w f a,Rel C nt g0 w0 g w f sn a→Q .normal a w) :
  ∀(n:Nat) (L:List (Nat×Foot)) (listed:Array Bool) (g:Gh) (w:World) (f:Fr) (s:St) (a:Act),L.length=n→Rel C nt g0 w0 g w f s a→Runs C N G all L s sn→L.Pairwise (OkP all (befores all.toList [])) →
   (L.map (·.1)).Sublist (List.range all.size)→listed.size=all.size→(∀i,i<all.size→(listed.getD i true=false↔i∈L.map (·.1)))→Listed all (fun i=>listed.getD i false=true) →
   wpAnyIn (FR ro) m C.P .any all Q n listed a w:=by
 intro n
 induction n with
 | zero=>
  intro L listed g w f s a hn r hr _ _ hsz hun _
  have:L=[]:=List.eq_nil_of_length_eq_zero hn
  subst this
  simp only [Runs] at hr
  subst hr
  refine ⟨?_,hQ g w f a r⟩
  refine List.eq_nil_iff_forall_not_mem.2 fun i hi => ?_
  obtain ⟨h1,oi,hoi,_⟩:=mem_ready.1 hi
  have hlt:=(Array.getElem?_eq_some_iff.1 hoi).1
  have:=(hun i hlt).1 h1
  simp at this
 | succ n ih=>
  intro L listed g w f s a hn r hr hpw hsub hsz hun hcl
  have getD_same:∀i,i<all.size→listed.getD i true=listed.getD i false:=by
   intro i hi
   simp [Array.getD_eq_getD_getElem?,Array.getElem?_eq_getElem (show i<listed.size by omega)]
  refine ⟨fun hnil => ?_,fun i hi => ?_⟩
  ·
   exfalso
   cases L with
   | nil=>simp at hn
   | cons p L'=>
    obtain ⟨o,u,ho,he,hr'⟩:=hr
    have hlt:=(Array.getElem?_eq_some_iff.1 ho).1
    have hmem:p.1∈Region.ready .any all listed:=by
     refine mem_ready.2 ⟨(hun p.1 hlt).2 (by simp),o,ho,fun e hee hb => ?_⟩
     have he1:=hedge p.1 o ho
     have he2:=List.all_eq_true.1 he1 e (by simpa using hee)
     rw [hb] at he2
     have hlt2:e.on<p.1:=by simpa using he2
     cases hl:listed.getD e.on false with
     | true=>rfl
     | false=>
      have hin:=(hun e.on (by omega)).1 (by rw [getD_same e.on (by omega)];exact hl)
      have hsorted:((p::L').map (·.1)).Pairwise (· < ·):=List.pairwise_lt_range.sublist hsub
      simp only [List.map_cons,List.mem_cons] at hin
      rcases hin with hin | hin
      ·have hin':e.on=p.1:=hin
       omega
      ·have h5:p.1<e.on:=(List.pairwise_cons.1 hsorted).1 e.on hin
       omega
    rw [hnil] at hmem
    cases hmem
  ·obtain ⟨h1,oi,hoi,hall⟩:=mem_ready.1 hi
   have hlt:=(Array.getElem?_eq_some_iff.1 hoi).1
   have hin:=(hun i hlt).1 h1
   obtain ⟨p,hp,rfl⟩:=List.mem_map.1 hin
   obtain ⟨xs,ys,rfl⟩:=List.append_of_mem hp
   have hfree:∀x∈xs,Free all x p:=by
    intro x hx
    have hok:=(List.pairwise_append.1 hpw).2.2 x hx p List.mem_cons_self
    rcases hok with hb | hf
    ·exfalso
     have hD:=before_listed hcl p.1 x.1 hb fun o ho e he hbd=>by
      rw [hoi] at ho
      cases ho
      exact hall e he hbd
     have hxin:x.1∈(xs++p::ys).map (·.1):=List.mem_map.2 ⟨x,by simp [hx],rfl⟩
     have hxlt:x.1<all.size:=by
      have:=hsub.subset hxin
      simpa using this
     have:=(hun x.1 hxlt).2 hxin
     rw [getD_same _ hxlt] at this
     rw [this] at hD
     cases hD
    ·exact hf
   obtain ⟨o,u,ho,he,hr'⟩:=Runs.bubble xs hfree hr
   rw [hoi] at ho
   cases ho
   have hnodup:((xs++p::ys).map (·.1)).Nodup:=List.nodup_range.sublist hsub
   refine exE_step hC hG hoi (dstOK_get hdst hoi) r he fun g' w' f' a' r' => ?_
   have hsubl:(xs++ys).Sublist (xs++p::ys):=List.Sublist.append (List.Sublist.refl _) (List.sublist_cons_self _ _)
   refine ih (xs++ys) _ g' w' f' _ a' (by simp at hn ⊢;omega) r' hr' (hpw.sublist hsubl) ((hsubl.map _).trans hsub) (by simpa using hsz) (fun j hj => ?_) (fun j oj hoj hl e hee hb => ?_)
   ·have hmem:j∈(xs++p::ys).map (·.1)↔j=p.1∨j∈(xs++ys).map (·.1):=by
     simp only [List.map_append,List.map_cons,List.mem_append,List.mem_cons]
     constructor
     ·rintro (h | h | h)
      ·exact .inr (.inl h)
      ·exact .inl h
      ·exact .inr (.inr h)
     ·rintro (h | h | h)
      ·exact .inr (.inl h)
      ·exact .inl h
      ·exact .inr (.inr h)
    have hnot:p.1 ∉ (xs++ys).map (·.1):=by
     simp only [List.map_append,List.map_cons] at hnodup ⊢
     have h3:=List.nodup_append.1 hnodup
     intro hm
     rcases List.mem_append.1 hm with hm | hm
     ·exact h3.2.2 p.1 hm p.1 List.mem_cons_self rfl
     ·exact (List.nodup_cons.1 h3.2.1).1 hm
    by_cases e:p.1=j
    ·subst e
     have:(listed.setIfInBounds p.1 true).getD p.1 true=true:=by
      simp [Array.getD_eq_getD_getElem?,hsz,hj]
     rw [this]
     exact ⟨fun h=>(by cases h),fun h=>absurd h hnot⟩
    ·have:(listed.setIfInBounds p.1 true).getD j true=listed.getD j true:=by
      simp [Array.getD_eq_getD_getElem?,Array.getElem?_setIfInBounds_ne e]
     rw [this,hun j hj,hmem]
     exact ⟨fun h=>h.resolve_left fun h=>e h.symm, .inr⟩
   ·have keep:∀k,listed.getD k false=true→(listed.setIfInBounds p.1 true).getD k false=true:=by
     intro k hk
     by_cases e:p.1=k
     ·subst e
      simp [Array.getD_eq_getD_getElem?,hsz,hlt]
     ·simpa [Array.getD_eq_getD_getElem?,Array.getElem?_setIfInBounds_ne e] using hk
    by_cases e2:p.1=j
    ·subst e2
     rw [hoi] at hoj
     cases hoj
     exact keep _ (hall e hee hb)
    ·refine keep _ (hcl j oj hoj ?_ e hee hb)
     simpa [Array.getD_eq_getD_getElem?,Array.getElem?_setIfInBounds_ne e2] using hl
end
end Go.Vm
namespace Go.Vm
open Go
section
variable {C:Cx} {N:Ann} {nt:NT} {g0 g:Gh} {w0 w:World} {f:Fr} {s:St} {a:Act}
theorem put_chg {L:Nat} {o o':Obj} (h:w.heap[L]? = some o) (ho:ncell o=true) (ho':ncell o'=true):Chg (· = L) g w g (w.putObj L o'):=by
 have hlt:L<w.heap.size:=(Array.getElem?_eq_some_iff.1 h).1
 refine ⟨⟨Nat.le_refl _,fun _ _=>rfl,fun _ _ h=>h,fun b i _=>put_later h ho ho' b i,fun b i _ _ _ ⟨c,t,e⟩ => ?_⟩,by simp,fun b _ hn=>World.putObj_heap_other hn,fun _ _ _=>rfl,fun _ _ _ _ h=>h,rfl,rfl,rfl⟩
 by_cases hb:b=L
 ·subst hb
  rw [h] at e
  cases e
  cases ho
 ·exact ⟨c,t,(World.putObj_heap_other hb).trans e⟩
def Gh.only (g:Gh) (n:Nat):Gh := { g with ow:=fun b=>if b<n then g.ow b else none }
theorem alloc_chg (hwf:∀b i,g.st b i→b<w.heap.size) (o1 o2:Obj):Chg (fun _=>False) g w (g.only w.heap.size) ((w.alloc o1).alloc o2):=by
 have hh:∀b,b<w.heap.size→((w.alloc o1).alloc o2).heap[b]? = w.heap[b]? := fun b hb=>by
  show ((w.heap.push o1).push o2)[b]? = _
  rw [Array.getElem?_push_lt (by simp;omega),Array.getElem_push_lt (by omega)]
  simp [hb]
 refine ⟨⟨Nat.le_refl _,fun _ _=>rfl,fun _ _ h=>h,fun b i hx => ?_,fun b i _ h _ ⟨c,t,e⟩=>⟨c,t,(hh b (hwf b i h)).trans e⟩⟩,by simp;omega,fun b hb _=>hh b hb,fun b hb _=>by simp [Gh.only,hb],fun _ _ _ _ h=>h,rfl,rfl,rfl⟩
 ·simp only [World.cell?,hh b (hwf b i hx)]
theorem grown_chg {g:Gh} {w w':World} (hwf:∀b i,g.st b i→b<w.heap.size) (hs:w.heap.size≤w'.heap.size) (hh:∀b,b<w.heap.size→w'.heap[b]? = w.heap[b]?) (h1:w'.os=w.os) (h2:w'.tape=w.tape) (h3:w'.output=w.output):Chg (fun _=>False) g w (g.only w.heap.size) w':=by
 refine ⟨⟨Nat.le_refl _,fun _ _=>rfl,fun _ _ h=>h,fun b i hx => ?_,fun b i _ h _ ⟨c,t,e⟩=>⟨c,t,(hh b (hwf b i h)).trans e⟩⟩,hs,fun b hb _=>hh b hb,fun b hb _=>by simp [Gh.only,hb],fun _ _ _ _ h=>h,h1,h2,h3⟩
 ·simp only [World.cell?,hh b (hwf b i hx)]
theorem Rel.quietB {B:Nat→Prop} {g2:Gh} {w':World} (r:Rel C nt g0 w0 g w f s a) (hmk:nt.mks=false) (hch:Chg B g w g2 w') (hn:g2.n=g.n) (hB:∀b,B b→g.ow b=none∧w0.heap.size≤b) (hwf:∀b i,g2.st b i→b<w'.heap.size) :
  Rel C nt g0 w0 g2 w' f s a:=by
 have hcell:∀b,b<w.heap.size→g.ow b≠none→∀i,w'.cell? ⟨b,i,none⟩=w.cell? ⟨b,i,none⟩:=fun b hb ho i=>by
  have:=hch.blk b hb fun hx=>ho (hB b hx).1
  simp only [World.cell?,this]
 refine ⟨r.ext.trans hch fun b hb hx hn => ?_,⟨r.core.heap.chg hch hn fun b hx o _=>by rw [(hB b hx).1];simp,fun k=>(r.core.loc k).chg hch fun b hx o _=>by rw [(hB b hx).1];simp,hwf⟩,
  fun t=>VE.stpL r.core.heap.len hch.later (fun k=>SiteStp.same rfl rfl rfl fun mm cs hb j => ?_) (fun id => .keep rfl rfl fun cs hid j => ?_) (r.env t),fun gi cs hg=>GV.later hch.later gi cs (r.glob gi cs hg),?_,r.sz,r.fixed⟩
 ·have:=(hB b hx).2
  omega
 ·have hl:=r.core.loc k
  unfold LR at hl
  rw [hb] at hl
  exact hcell _ hl.lt (by rw [hl.ow];simp) j
 ·have hb:=r.core.heap.obj id cs hid
  exact hcell _ hb.lt (by rw [hb.ow];simp) j
 ·have:=r.dfr
  rw [hmk] at this ⊢
  exact this
theorem Rel.base (r:Rel C nt g0 w0 g w f s a) (hmk:nt.mks=false):Rel C nt { g with df:=g0.df } w g w f s a:=by
 have h:=Chg.refl (fun b=>g.ow b≠none) g w
 refine ⟨⟨⟨h.later.n,h.later.ix,h.later.st,h.later.cell,h.later.nf⟩,h.size,h.blk,h.ow,h.st,h.os,h.tape,h.out⟩,r.core,r.env,r.glob,?_,r.sz,r.fixed⟩
 have:=r.dfr
 rw [hmk] at this ⊢
 exact this
theorem Rel.since {g':Gh} {w':World} {f':Fr} {s':St} {a':Act} (r:Rel C nt { g with df:=g0.df } w g' w' f' s' a'):Chg (fun b=>g.ow b≠none) g w g' w':=
 have h:=r.ext
 ⟨⟨h.later.n,h.later.ix,h.later.st,h.later.cell,h.later.nf⟩,h.size,h.blk,h.ow,h.st,h.os,h.tape,h.out⟩
theorem Rel.unbase {g':Gh} {w':World} {f':Fr} {s':St} {a':Act} (h0:Chg (fun b=>g0.ow b≠none) g0 w0 g w) (hmk:nt.mks=false) (r:Rel C nt { g with df:=g0.df } w g' w' f' s' a'):Rel C nt g0 w0 g' w' f' s' a':=by
 refine ⟨h0.trans r.since fun b hb hB hn=>hB ((h0.ow b hb (fun x=>x hn)).trans hn),r.core,r.env,r.glob,?_,r.sz,r.fixed⟩
 have:=r.dfr
 rw [hmk] at this ⊢
 exact this
def NT.rnd (nt:NT) (fixl:List Nat) (a:Act):NT := { n:=nt.n,fix:=fixl,val:=fun t=>a.tmps.getD t undef,mks:=false }
theorem Rel.inner (r:Rel C nt g0 w0 g w f s a) (fixl:List Nat):Rel C (nt.rnd fixl a) { g0 with df:=[] } w0 g w f (s.keep fixl) { tmps:=a.tmps,defers:=[] } := by
 have h:=r.ext
 refine ⟨⟨⟨h.later.n,h.later.ix,h.later.st,h.later.cell,h.later.nf⟩,h.size,h.blk,h.ow,h.st,h.os,h.tape,h.out⟩,⟨r.core.heap,r.core.loc,r.core.wf⟩,fun t => ?_,r.glob,rfl,r.sz,fun _ _=>rfl⟩
 show VE g w f (s.keep fixl) (bif fixl.any (Nat.beq t) then s.env t else .v .U) _
 cases fixl.any (Nat.beq t) with
 | true=>exact (r.env t).env_irrel rfl rfl rfl
 | false=>trivial
theorem Rel.roundEnd {fixl:List Nat} {a2:Act} {g0:Gh} (r:Rel C (nt.rnd fixl a) g0 w0 g w f s a2) (h0:g0.df=[]) (hsz:nt.n≤a.tmps.size):Rel C (nt.rnd fixl a) g0 w0 g w f (s.keep fixl) { tmps:=a.tmps,defers:=[] } := by
 refine ⟨r.ext,⟨r.core.heap,r.core.loc,r.core.wf⟩,fun t => ?_,r.glob,h0.symm,hsz,fun _ _=>rfl⟩
 show VE g w f (s.keep fixl) (bif fixl.any (Nat.beq t) then s.env t else .v .U) _
 cases h:fixl.any (Nat.beq t) with
 | true=>
  have:=r.fixed t h
  have hv:=r.env t
  rw [this] at hv
  exact hv.env_irrel rfl rfl rfl
 | false=>trivial
def Act.puts:List (Nat×Value)→Act→Act
 | [],a=>a
 | (p,v)::r,a=>Act.puts r (a.put (some p) v)
theorem puts_tmps:∀(l:List (Nat×Value)) (a:Act),(Act.puts l a) = { tmps:=l.foldl (fun t (p,v)=>t.setIfInBounds p v) a.tmps,defers:=a.defers }
 | [],a=>rfl
 | (p,v)::l,a=>by
  simp only [Act.puts,List.foldl_cons]
  rw [puts_tmps l]
  rfl
theorem Rel.puts:∀(ps:List Nat) (x:List AV) (xv:List Value) (s:St) (a:Act),(∀p∈ps,nt.ok p)→VT g w x xv→Rel C nt g0 w0 g w f s a→Rel C nt g0 w0 g w f (St.puts (ps.zip x) s) (Act.puts (ps.zip xv) a)
 | [],_,_,s,a,_,_,r=>r
 | p::ps,[],xv,s,a,hp,hv,r=>by
  simp only [VT] at hv
  subst hv
  exact r
 | p::ps,x::xs,xv,s,a,hp,hv,r=>by
  simp only [VT] at hv
  obtain ⟨u,us,rfl,h1,h2⟩:=hv
  simp only [List.zip_cons_cons,St.puts,Act.puts]
  exact Rel.puts ps xs us _ _ (fun q hq=>hp q (List.mem_cons_of_mem _ hq)) h2 (r.val (d:=some p) (e := .v x) (fun q hq=>by cases hq;exact hp p List.mem_cons_self) h1)
structure Bk (w0:World) (g1:Gh) (W1:World) (L:Nat) (Ds:List Nat) (o:Obj) (g:Gh) (w:World):Prop where
 here:w.heap[L]? = some o
 nc:ncell o=true
 ow:g.ow L=none
 st:∀i,¬g.st L i
 coll:∀D∈Ds,Coll w0 g w D
 later:Later g1 W1 g w
theorem Bk.chg {g1 g':Gh} {W1 w':World} {L:Nat} {Ds:List Nat} {o:Obj} (h:Bk w0 g1 W1 L Ds o g w) (hch:Chg (fun b=>g.ow b≠none) g w g' w'):Bk w0 g1 W1 L Ds o g' w':=by
 have hlt:L<w.heap.size:=(Array.getElem?_eq_some_iff.1 h.here).1
 have hn:¬g.ow L≠none:=fun x=>x h.ow
 exact ⟨(hch.blk L hlt hn).trans h.here,h.nc,(hch.ow L hlt hn).trans h.ow,fun i x=>h.st i (hch.st L i hlt hn x),fun D hD=>(h.coll D hD).chg hch fun _ x=>x,h.later.trans hch.later⟩
theorem Bk.put {g1:Gh} {W1:World} {L:Nat} {Ds:List Nat} {o o':Obj} (h:Bk w0 g1 W1 L Ds o g w) (hL:L ∉ Ds) (ho':ncell o'=true):Bk w0 g1 W1 L Ds o' g (w.putObj L o'):=by
 have hlt:L<w.heap.size:=(Array.getElem?_eq_some_iff.1 h.here).1
 have hch:=put_chg (g:=g) h.here h.nc ho'
 refine ⟨World.putObj_heap_same hlt,ho',h.ow,h.st,fun D hD => ?_,h.later.trans hch.later⟩
 obtain ⟨c1,c2,c3,c4⟩:=h.coll D hD
 exact ⟨c1,by rw [World.putObj_heap_other (fun e=>hL (by rw [←e];exact hD))];exact c2,c3,c4⟩
theorem Rel.putRec {g1:Gh} {W1:World} {L:Nat} {Ds:List Nat} {o:Obj} (r:Rel C nt g0 w0 g w f s a) (hmk:nt.mks=false) (h:Bk w0 g1 W1 L Ds o g w) (hw:w0.heap.size≤L) {o':Obj} (ho':ncell o'=true):Rel C nt g0 w0 g (w.putObj L o') f s a:=
 r.quietB hmk (put_chg h.here h.nc ho') rfl (fun b e=>by cases e;exact ⟨h.ow,hw⟩) fun b i x=>by simpa using r.core.wf b i x
theorem noPan_noPan (G:FuncId→List AV→List HO→Res):noPan (noPan G)=noPan G:=by
 funext j as h
 show noPan1 (noPan1 (G j)) as h=noPan1 (G j) as h
 unfold noPan1
 cases G j as h<;>rfl
end
end Go.Vm
namespace Go.Vm
open Go
theorem stepR_scope {P:Program} {b:Frame} {a:Act} {k:List Item} {cs:List Frame} {w:World} {c:Code} : step P (lone (b.atR a (.code (.scope c)::k)) cs w) = .next (lone (b.atR a (.code c :: .inScope c::k)) cs w):=
 step_lone_go (by simp [stepG,stepG.exec,Frame.atR])
theorem stepR_inScope {P:Program} {b:Frame} {a:Act} {k:List Item} {cs:List Frame} {w:World} {c:Code} : step P (lone (b.atR a (.inScope c::k)) cs w) = .next (lone (b.atR a k) cs w):=
 step_lone_go (by simp [stepG,stepG.exec,Frame.atR])
theorem wpIn_scope_straight {F:Fence} {n:Nat} {P:Program} {Q:Exit→Act→World→Prop} {a:Act} {w:World} {c:Code} (h:c.wpIn F n P (Exit.noGoto Q) a w):(Code.scope c).wpIn F n P Q a w:=by
 intro b k cs hro hb hr
 have h0:(lone (b.atR a (.code (.scope c)::k)) cs w).fenced P F:=fenced_calm hb hr rfl
 obtain ⟨e,a₁,w₁,hq,harr⟩:=h b (.inScope c::k) cs hro hb hr
 cases e with
 | normal=>exact ⟨.normal,a₁,w₁,hq, .head h0 stepR_scope (StepsIn.trans harr (.one (fenced_calm hb hr rfl) stepR_inScope))⟩
 | exit id=>
  have hx:exitTo id (.inScope c::k)=exitTo id k:=by simp [exitTo]
  exact ⟨.exit id,a₁,w₁,hq,fun k' hk => .head h0 stepR_scope (harr.1 k' (by rw [hx];exact hk)),
   fun hr' hk=>let ⟨k₁,h1,h2⟩:=harr.2 hr' (by rw [hx];exact hk);⟨k₁,h1, .head h0 stepR_scope h2⟩⟩
 | goto l=>exact hq.elim
 | ret=>exact ⟨_,a₁,w₁,hq, .of_steps (.one h0 stepR_scope) harr⟩
 | panic ch=>exact ⟨_,a₁,w₁,hq, .of_steps (.one h0 stepR_scope) harr⟩
 | outgrown=>exact ⟨_,a₁,w₁,hq, .of_steps (.one h0 stepR_scope) harr⟩
section
variable {C:Cx} {N:Ann} {G:FuncId→List AV→List HO→Res} {nt:NT} {g0:Gh} {w0:World} {R:Res}
theorem getD_replicate_falseV (m j:Nat):(Array.replicate m false).getD j false=false:=by
 rcases Nat.lt_or_ge j m with h | h<;>simp [Array.getD_eq_getD_getElem?,Array.getElem?_replicate,h]
def codeOK (nt:NT):Code→Bool
 | .region _ ops _=>dstOK nt ops
 | .seq a b=>codeOK nt a&&codeOK nt b
 | .cond _ a b=>codeOK nt a&&codeOK nt b
 | .block _ b=>codeOK nt b
 | .loop b=>codeOK nt b
 | .scope b=>codeOK nt b
 | .rangeFunc _ ps a b=>nt.mks&&(ps.toList.all fun p=>Nat.blt p nt.n)&&codeOK nt a&&codeOK nt b
 | _=>true
def noRF:Code→Bool
 | .seq a b=>noRF a&&noRF b
 | .cond _ a b=>noRF a&&noRF b
 | .block _ b=>noRF b
 | .loop b=>noRF b
 | .scope b=>noRF b
 | .rangeFunc .. => false
 | _=>true
theorem offOK_noRF {fixl:List Nat} : ∀(c:Code),offOK fixl c=true→noRF c=true
 | .skip,_ | .region _ _ _,_ | .exit _,_ | .ret,_ | .label _,_ | .goto _,_ | .refuse _,_=>rfl
 | .seq a b,h=>by simp only [offOK,noRF,Bool.and_eq_true] at h ⊢;exact ⟨offOK_noRF a h.1,offOK_noRF b h.2⟩
 | .cond c a b,h=>by simp only [offOK,noRF,Bool.and_eq_true] at h ⊢;exact ⟨offOK_noRF a h.1,offOK_noRF b h.2⟩
 | .block _ b,h=>by simp only [offOK,noRF] at h ⊢;exact offOK_noRF b h
 | .loop b,h=>by simp only [offOK,noRF] at h ⊢;exact offOK_noRF b h
 | .scope b,h=>by simp only [offOK,noRF] at h ⊢;exact offOK_noRF b h
 | .rangeFunc _ _ _ _,h=>by simp [offOK] at h
theorem codeOK_rnd {fixl:List Nat} {a:Act} : ∀(c:Code),codeOK nt c=true→offOK fixl c=true→codeOK (nt.rnd fixl a) c=true
 | .skip,_,_ | .exit _,_,_ | .ret,_,_ | .label _,_,_ | .goto _,_,_ | .refuse _,_,_=>rfl
 | .region _ ops _,h,h'=>by
  simp only [codeOK,offOK,dstOK,List.all_eq_true] at h h' ⊢
  intro o ho
  have h1:=h o ho
  have h2:=h' o ho
  cases e:o.dst with
  | none=>rfl
  | some d=>
   rw [e] at h1 h2
   simp only [Bool.and_eq_true] at h1 ⊢
   exact ⟨h1.1,h2⟩
 | .seq x y,h,h'=>by simp only [codeOK,offOK,Bool.and_eq_true] at h h' ⊢;exact ⟨codeOK_rnd x h.1 h'.1,codeOK_rnd y h.2 h'.2⟩
 | .cond c x y,h,h'=>by simp only [codeOK,offOK,Bool.and_eq_true] at h h' ⊢;exact ⟨codeOK_rnd x h.1 h'.1,codeOK_rnd y h.2 h'.2⟩
 | .block _ b,h,h'=>by simp only [codeOK,offOK] at h h' ⊢;exact codeOK_rnd b h h'
 | .loop b,h,h'=>by simp only [codeOK,offOK] at h h' ⊢;exact codeOK_rnd b h h'
 | .scope b,h,h'=>by simp only [codeOK,offOK] at h h' ⊢;exact codeOK_rnd b h h'
 | .rangeFunc _ _ _ _,_,h'=>by simp [offOK] at h'
theorem PanAll.then {Q:Exit→Act→World→Prop} {K:Act→World→Prop} (h:PanAll nt g0 w0 Q R):PanAll nt g0 w0 (Exit.then K Q) R:=h
theorem PanAll.inBlock {Q:Exit→Act→World→Prop} {id:Nat} (h:PanAll nt g0 w0 Q R):PanAll nt g0 w0 (Exit.inBlock id Q) R:=h
theorem PanAll.noGoto {Q:Exit→Act→World→Prop} (h:PanAll nt g0 w0 Q R):PanAll nt g0 w0 (Exit.noGoto Q) R:=h
def CodeS (C:Cx) (N:Ann) (ro:Option Nat) (c:Code):Prop:=
 ∀{G:FuncId→List AV→List HO→Res} {nt:NT} {g0:Gh} {w0:World} {R:Res},OkC C→R ≠ .stuck→(∀j,Sound C j (G j))→codeOK nt c=true→(ro=none∨noRF c=true)→(nt.mks=false∨∀v h,R ≠ .pan v h) →
  ∀{kn:St→Res} {kx:Nat→St→Res} {kr:St→Res} {Q:Exit→Act→World→Prop},
  (∀g w f s a,Rel C nt g0 w0 g w f s a→kn s=R→Q .normal a w)→(∀id g w f s a,Rel C nt g0 w0 g w f s a→kx id s=R→Q (.exit id) a w)→(∀g w f s a,Rel C nt g0 w0 g w f s a→kr s=R→Q .ret a w)→PanAll nt g0 w0 Q R →
  ∀g w f s a,Rel C nt g0 w0 g w f s a→aC C N (stdAlg C.pure (noPan G)) (stdAlg C.pure G) c kn kx kr s=R→c.wpIn (FR ro) 0 C.P Q a w
theorem range_sound {g0p:Operand} {ps:Array Nat} {asg bod:Code} (iha:∀ro,CodeS C N ro asg) (ihb:∀ro,CodeS C N ro bod):CodeS C N none (.rangeFunc g0p ps asg bod):=by
 intro G nt g0 w0 R hC hR hG hok _ hpan kn kx kr Q hn hx hr hp g w f s a r h
 have hok:(nt.mks&&(ps.toList.all fun p=>Nat.blt p nt.n)&&codeOK nt asg&&codeOK nt bod)=true:=hok
 simp only [Bool.and_eq_true] at hok
 obtain ⟨⟨⟨hmk,hps⟩,hoka⟩,hokb⟩:=hok
 have hnp:∀v h,R ≠ .pan v h:=hpan.resolve_left (by rw [hmk];simp)
 simp only [aC] at h
 split at h
 case h_2=>exact absurd h.symm hR
 rename_i v hev
 have h':mF v _=R:=h
 obtain ⟨fnv,fs,caps,rfl,h1⟩:=mF_inv h' hR
 split at h1
 case h_2=>exact absurd h1.symm hR
 rename_i gf
 split at h1
 case h_2=>exact absurd h1.symm hR
 rename_i xs hit
 split at h1
 case isFalse=>exact absurd h1.symm hR
 rename_i hrf
 obtain ⟨fixl,hfixl⟩:∃fixl,fixl=N.rfix ((headId asg).getD 0):=⟨_,rfl⟩
 rw [←hfixl] at h1 hrf
 simp only [rfOK,Bool.and_eq_true] at hrf
 obtain ⟨⟨hps2,hoffa⟩,hoffb⟩:=hrf
 obtain ⟨hcall,hiter⟩:=hC.iter _ _ _ hit
 have hv:=r.ev g0p
 rw [hev] at hv
 obtain ⟨vf,vc,hg,hvf,hvc⟩:=V_F' hv
 simp only [VT] at hvf
 subst hvf
 have hdf:=r.dfr
 rw [hmk] at hdf
 obtain ⟨Ds,hds1,hds2,hds3⟩:=hdf
 have hw0:w0.heap.size≤w.heap.size:=r.ext.size
 refine wpIn_rangeFunc ?_
 intro fn _
 obtain ⟨rec,hrec⟩:∃rec:LoopState→Option Code→Loop,rec=fun st pe => { state:=st,pending:=pe,fn,tmps:=a.tmps,params:=ps,assign:=asg,body:=bod,defers:=w.heap.size } := ⟨_,rfl⟩
 obtain ⟨W1,hW1⟩:∃W1,(w.alloc (.deferred (some []))).alloc (.loop (rec .ready none))=W1:=⟨_,rfl⟩
 have hsz1:W1.heap.size=w.heap.size+2:=by rw [←hW1];simp
 have hL1:W1.heap[w.heap.size+1]? = some (.loop (rec .ready none)):=by
  rw [←hW1];have:=World.alloc_heap_new (w.alloc (.deferred (some []))) (.loop (rec .ready none));rwa [World.size_alloc] at this
 have hK1:W1.heap[w.heap.size]? = some (.deferred (some [])):=by
  rw [←hW1]
  show ((w.heap.push _).push _)[w.heap.size]? = _
  rw [Array.getElem?_push_lt (by simp)]
  simp
 let g1:=g.only w.heap.size
 have hch1:Chg (fun _=>False) g w g1 W1:=by rw [←hW1];exact alloc_chg r.core.wf _ _
 let ntF:=nt.rnd fixl a
 let gR:Gh := { g0 with df:=[] }
 let aS:Act := { tmps:=a.tmps,defers:=[] }
 let L:=w.heap.size+1
 have hLw0:w0.heap.size≤L:=by show _≤w.heap.size+1;omega
 have hDlt:∀D∈Ds,D<w.heap.size:=fun D hD=>(Array.getElem?_eq_some_iff.1 (hds3 D hD).2.1).1
 have hLn:L ∉ w.heap.size::Ds:=by
  intro hm
  rcases List.mem_cons.1 hm with e | hm
  ·have:w.heap.size+1=w.heap.size:=e
   omega
  ·have:=hDlt _ hm
   have:w.heap.size+1<w.heap.size:=this
   omega
 have hst1:∀b,w.heap.size≤b→∀i,¬g1.st b i:=fun b hb i x=>by
  have:=r.core.wf b i x
  omega
 have hbk1:Bk w0 g1 W1 L (w.heap.size::Ds) (.loop (rec .ready none)) g1 W1:=by
  refine ⟨hL1,rfl,by show (if w.heap.size+1<w.heap.size then _ else none)=none;rw [if_neg (by omega)],hst1 _ (by show _≤w.heap.size+1;omega),fun D hD => ?_,Later.refl _ _⟩
  rcases List.mem_cons.1 hD with rfl | hD
  ·exact ⟨hw0,hK1,by simp [g1,Gh.only],hst1 _ (Nat.le_refl _)⟩
  ·exact (hds3 D hD).chg hch1 fun _ x=>x.elim
 have r1:Rel C ntF gR w0 g1 W1 f (s.keep fixl) aS:=
  (r.inner fixl).quietB rfl hch1 rfl (fun _ x=>x.elim) fun b i x=>by
   have:=r.core.wf b i x
   omega
 have eg:=fun args w'=>hcall.run args w'
 refine ⟨L,[{ target := .collected w.heap.size,args := #[] }],W1,{ target := .fn (.func gf) vc.toArray,args := #[.func (.yield L) #[] #[]] },W1,gf,
  #[.func (.yield L) #[] #[]]++vc.toArray,W1,?_,?_,?_,?_,fun h=>by simp [FR,Fence.wide] at h,?_⟩
 ·rw [←hW1,hrec];exact run_enterLoop_outer _ _ _ _ _
 ·simp only [resolve,hg]
  simp [go_sem]
 ·intro f' hf';trivial
 ·simp [invoke,go_sem,eg]
 ·let asgF:=fun (kn:St→Res) (kx:Nat→St→Res) (kr:St→Res) (s:St)=>aC C N (stdAlg C.pure (noPan G)) (stdAlg C.pure (noPan G)) asg kn kx kr s
  let bodF:=fun (kn:St→Res) (kx:Nat→St→Res) (kr:St→Res) (s:St)=>aC C N (stdAlg C.pure (noPan G)) (stdAlg C.pure (noPan G)) bod kn kx kr s
  obtain ⟨rr,hrr0⟩:∃rr:List (List AV)→St→Res,rr=roundsR (stdAlg C.pure G) N fixl ps.toList asgF bodF (headId asg) (headId bod) kn kx kr:=⟨_,rfl⟩
  have hcons:∀x l s',rr (x::l) s'=R→x.length=ps.toList.length∧asgF (fun s1=>bodF (fun s2=>rr l (s2.keep fixl)) (fun i s2=>kx i (s2.keep fixl)) (fun s2=>kr (s2.keep fixl)) (nrm N (headId bod) s1)) (fun _ _=>Res.stuck) (fun _=>Res.stuck) (nrm N (headId asg) (St.puts (ps.toList.zip x) s'))=R:=by
   intro x l s' hx
   rw [hrr0] at hx ⊢
   unfold roundsR at hx
   split at hx
   ·rename_i hl
    exact ⟨hl,hx⟩
   ·exact absurd hx.symm hR
  have hnil:∀s',rr [] s'=R→kn s'=R:=fun s' hx=>by rw [hrr0] at hx;exact hx
  let J:=fun (i:Nat) (g':Gh) (W:World)=>∃f' s',Rel C ntF gR w0 g' W f' s' aS∧Bk w0 g1 W1 L (w.heap.size::Ds) (.loop (rec .ready none)) g' W∧rr (xs.drop i) s'=R
  let Jx:=fun (W:World)=>∃c g' f' s',Rel C ntF gR w0 g' W f' s' aS∧Bk w0 g1 W1 L (w.heap.size::Ds) (.loop (rec .done (some c))) g' W∧((c = .ret∧kr s'=R)∨∃id,c = .exit id∧kx id s'=R)
  have hpanF:∀(g0:Gh) (w0:World) (Q:Exit→Act→World→Prop),PanAll ntF g0 w0 Q R:=fun g0 w0 Q a _ v h' u g' w' e=>absurd e (hnp v h')
  have outer:∀{o:Obj} {g':Gh} {W:World} {f':Fr} {s':St},Rel C ntF gR w0 g' W f' s' aS→Bk w0 g1 W1 L (w.heap.size::Ds) o g' W→∀st pe,Rel C nt g0 w0 g' (W.putObj L (.loop (rec st pe))) f' s' { a with defers := { target := .collected w.heap.size,args := #[] } :: a.defers } := by
   intro o g' W f' s' r' hb st pe
   have r2:=r'.putRec rfl hb hLw0 (o' := .loop (rec st pe)) rfl
   have hb2:=hb.put (o' := .loop (rec st pe)) hLn rfl
   have e:=r2.ext
   refine ⟨⟨⟨e.later.n,e.later.ix,e.later.st,e.later.cell,e.later.nf⟩,e.size,e.blk,e.ow,e.st,e.os,e.tape,e.out⟩,r2.core,r2.env,r2.glob,?_,r.sz,r.fixed⟩
   rw [hmk]
   refine ⟨w.heap.size::Ds,by rw [hds1];rfl,List.nodup_cons.2 ⟨fun hm => ?_,hds2⟩,hb2.coll⟩
   have:=hDlt _ hm
   omega
  have hcs:=hiter g1 W1 vc (VT.later hch1.later _ _ hvc) L J Jx (fun i g' W hJ=>by
   obtain ⟨f',s',r',hb,hr'⟩:=hJ
   refine ⟨hb.later,r'.core.wf,fun g2 W2 hch hn2 hwf2 => ?_⟩
   obtain ⟨c2,st2⟩:=r'.core.quiet hch hn2 hwf2
   exact ⟨f',s',r'.to (d:=none) (e := .v .U) (u:=undef) st2 c2 rfl (fun _ e=>by cases e) trivial,hb.chg (hch.mono fun _ _ h=>h.elim),hr'⟩) ?_ g1 ⟨f,_,r1,hbk1,by rw [hrr0];exact h1⟩
  ·refine callsIn_wide.2 (hcs.mono ?_)
   rintro e W3 ⟨⟨v,rfl⟩,hJ | hJ⟩
   ·obtain ⟨g',f',s',r',hb,hr'⟩:=hJ
    rw [List.drop_length] at hr'
    refine ⟨none,_,by have:=run_endLoop (P:=C.P) hb.here (by rw [hrec];simp);rw [hrec] at this;exact this,?_⟩
    have:=outer r' hb .exhausted none
    rw [hrec] at this
    exact hn _ _ _ _ _ this (hnil _ hr')
   ·obtain ⟨c,g',f',s',r',hb,hc⟩:=hJ
    refine ⟨some c,_,by have:=run_endLoop (P:=C.P) hb.here (by rw [hrec];simp);rw [hrec] at this;exact this,?_⟩
    have ro:=outer r' hb .exhausted (some c)
    rw [hrec] at ro
    rcases hc with ⟨rfl,hk⟩ | ⟨id,rfl,hk⟩
    ·exact wpIn_ret (hr _ _ _ _ _ ro hk)
    ·exact wpIn_exit (hx _ _ _ _ _ _ ro hk)
  ·intro i x xv g' W hxi ⟨f',s',r',hb,hr'⟩ hvx
   have hdrop:xs.drop i=x::xs.drop (i+1):=by
    rw [List.drop_eq_getElem_cons (List.getElem?_eq_some_iff.1 hxi).1,(List.getElem?_eq_some_iff.1 hxi).2]
   rw [hdrop] at hr'
   obtain ⟨hxl,hr2⟩:=hcons _ _ _ hr'
   have hxvl:xv.length=ps.toList.length:=(VT.length _ _ hvx).trans hxl
   have hy:=run_yield (P:=C.P) (args:=xv.toArray) hb.here (by rw [hrec];simpa using hxvl)
   rw [hrec] at hy
   refine ⟨fn,_,asg,bod,hy,roundIn_of_wpIn trivial ?_⟩
   have hnps:∀p∈ps.toList,ntF.ok p:=fun p hp=>⟨by show p<nt.n;simpa using List.all_eq_true.1 hps p hp,by show fixl.any (Nat.beq p)=false;simpa using List.all_eq_true.1 hps2 p hp⟩
   have rp:=Rel.puts ps.toList x xv _ _ hnps hvx (r'.base rfl)
   have hact:Act.puts (ps.toList.zip xv) aS = { tmps:=(ps.zip xv.toArray).foldl (fun t (p,v)=>t.setIfInBounds p v) a.tmps,defers:=[] } := by
    rw [puts_tmps]
    congr 1
    rw [←Array.foldl_toList,Array.toList_zip]
   obtain ⟨g2,r2⟩:=rp.nrm (N:=N) (headId asg)
   rw [hact] at r2
   refine iha (some L) (G:=noPan G) (nt:=ntF) hC hR (fun j=>(hG j).noPan) (codeOK_rnd _ hoka hoffa) (.inr (offOK_noRF _ hoffa)) (.inl rfl) ?_ (fun id g w f s a _ h=>absurd h.symm hR) (fun g w f s a _ h=>absurd h.symm hR) (hpanF _ _ _) g2 W f' _ _ r2 (by rw [noPan_noPan];exact hr2)
   intro g3 W3 f3 s3 a3 r3 h3
   have hbk3:=hb.chg r3.since
   have r3u:=Rel.unbase r'.ext rfl r3
   refine ⟨_,run_beginRound hbk3.here (by rw [hrec]),?_⟩
   have r4:=r3u.putRec rfl hbk3 hLw0 (o' := .loop { rec .ready none with state := .busy }) rfl
   have hbk4:=hbk3.put (o' := .loop { rec .ready none with state := .busy }) hLn rfl
   obtain ⟨g5,r5⟩:=(r4.base rfl).nrm (N:=N) (headId bod)
   have fin:∀(jump:Option Code) {g6:Gh} {W6:World} {f6:Fr} {s6:St} {a6:Act},Rel C ntF { g3 with df:=gR.df } (W3.putObj L (.loop { rec .ready none with state := .busy })) g6 W6 f6 s6 a6 →
     (Instr.endRound L jump).run C.P W6 = .ok (.bool jump.isNone) (W6.putObj L (.loop (rec (if jump.isNone then .ready else .done) jump))) ∧
     Rel C ntF gR w0 g6 (W6.putObj L (.loop (rec (if jump.isNone then .ready else .done) jump))) f6 (s6.keep fixl) aS ∧
     Bk w0 g1 W1 L (w.heap.size::Ds) (.loop (rec (if jump.isNone then .ready else .done) jump)) g6 (W6.putObj L (.loop (rec (if jump.isNone then .ready else .done) jump))):=by
    intro jump g6 W6 f6 s6 a6 r6
    have hbk6:=hbk4.chg r6.since
    have r6u:=Rel.unbase r4.ext rfl r6
    refine ⟨?_,(r6u.putRec rfl hbk6 hLw0 rfl).roundEnd rfl r.sz,hbk6.put hLn rfl⟩
    have:=run_endRound (P:=C.P) jump hbk6.here
    rw [hrec] at this ⊢
    exact this
   refine ihb (some L) (G:=noPan G) (nt:=ntF) hC hR (fun j=>(hG j).noPan) (codeOK_rnd _ hokb hoffb) (.inr (offOK_noRF _ hoffb)) (.inl rfl) (fun g6 W6 f6 s6 a6 r6 h6 => ?_) (fun id g6 W6 f6 s6 a6 r6 h6 => ?_) (fun g6 W6 f6 s6 a6 r6 h6 => ?_) (hpanF _ _ _) g5 _ f3 _ a3 r5 (by rw [noPan_noPan];exact h3)
   ·obtain ⟨e1,e2,e3⟩:=fin none r6
    exact ⟨_,_,e1, .inl ⟨rfl,g6,f6,_,e2,e3,h6⟩⟩
   ·obtain ⟨e1,e2,e3⟩:=fin (some (.exit id)) r6
    exact ⟨_,_,e1, .inr ⟨rfl, .exit id,g6,f6,_,e2,e3, .inr ⟨id,rfl,h6⟩⟩⟩
   ·obtain ⟨e1,e2,e3⟩:=fin (some .ret) r6
    exact ⟨_,_,e1, .inr ⟨rfl, .ret,g6,f6,_,e2,e3, .inl ⟨rfl,h6⟩⟩⟩
theorem code_sound:∀(c:Code) (ro:Option Nat),CodeS C N ro c:=by
 intro c
 induction c with
 | skip=>intro ro G nt g0 w0 R hC hR hG _ hro hmp kn kx kr Q hn hx hr hp g w f s a r h;exact wpIn_skip (hn g w f s a r h)
 | region id ops dr=>
  intro ro G nt g0 w0 R hC hR hG hok hro hmp kn kx kr Q hn hx hr hp g w f s a r h
  have hok:dstOK nt ops=true:=hok
  cases dr with
  | true=>
   have h:aOpsD (stdAlg C.pure (noPan G)) C N ops (befores ops.toList []) 0 ops.toList [] s kn=R:=h
   obtain ⟨L,s',h1,h2,h3,_,h5,h6⟩:=aOpsD_inv hR ops.toList 0 [] s rfl h
   have hlen:L.length=ops.size:=by
    have:=congrArg List.length h2
    simpa using this
   have hmem:∀i,i<ops.size→i∈L.map (·.1):=by
    intro i hi
    rw [h2]
    simp only [List.mem_range'_1,Array.length_toList]
    omega
   refine wpIn_region_any hC.mixed (draws_sound (ro:=ro) (m:=0) hC hG hok (fun j o=>h6 j o (Nat.zero_le _)) (fun g w f a r=>hn g w f s' a r h3) ops.size L _ g _ f s a hlen r.drew h1 h5 ?_ (by simp) (fun i hi => ?_) (fun j o _ hl => ?_))
   ·rw [h2,List.range_eq_range']
    simp
   ·constructor
    ·intro _;exact hmem i hi
    ·intro _;simp [Array.getD_eq_getD_getElem?,hi]
   ·have hl':(Array.replicate ops.size false).getD j false=true:=hl
    rw [getD_replicate_falseV] at hl'
    cases hl'
  | false=>
   have h:aOps (stdAlg C.pure G) C N ops ops.toList s kn=R:=h
   have:=aOps_sound (ro:=ro) (n:=0) hC hR hG hok hp hn ops.toList 0 g w f s a rfl r h
   exact wpIn_region this
 | seq x y ihx ihy=>
  intro ro G nt g0 w0 R hC hR hG hok hro hmp kn kx kr Q hn hx hr hp g w f s a r h
  have hok:(codeOK nt x&&codeOK nt y)=true:=hok
  rw [Bool.and_eq_true] at hok
  have hro2:(ro=none∨noRF x=true)∧(ro=none∨noRF y=true):=by
   rcases hro with h | h
   ·exact ⟨.inl h, .inl h⟩
   ·have h:(noRF x&&noRF y)=true:=h
    rw [Bool.and_eq_true] at h
    exact ⟨.inr h.1, .inr h.2⟩
  refine wpIn_seq (ihx ro hC hR hG hok.1 hro2.1 hmp (Q:=Exit.then (y.wpIn (FR ro) 0 C.P Q) Q) (fun g w f s a r h => ?_) (fun id g w f s a r h=>hx id g w f s a r h) (fun g w f s a r h=>hr g w f s a r h) hp.then g w f s a r h)
  obtain ⟨g',r'⟩:=r.nrm (headId y)
  exact ihy ro hC hR hG hok.2 hro2.2 hmp hn hx hr hp g' w f _ a r' h
 | cond co x y ihx ihy=>
  intro ro G nt g0 w0 R hC hR hG hok hro hmp kn kx kr Q hn hx hr hp g w f s a r h
  have hok:(codeOK nt x&&codeOK nt y)=true:=hok
  rw [Bool.and_eq_true] at hok
  have hro2:(ro=none∨noRF x=true)∧(ro=none∨noRF y=true):=by
   rcases hro with h | h
   ·exact ⟨.inl h, .inl h⟩
   ·have h:(noRF x&&noRF y)=true:=h
    rw [Bool.and_eq_true] at h
    exact ⟨.inr h.1, .inr h.2⟩
  have go:∀(b:Bool) (s:St),Rel C nt g0 w0 g w f s a→a.eval co = .bool b→(if b then aC C N (stdAlg C.pure (noPan G)) (stdAlg C.pure G) x kn kx kr (nrm N (headId x) s) else aC C N (stdAlg C.pure (noPan G)) (stdAlg C.pure G) y kn kx kr (nrm N (headId y) s))=R →
    (Code.cond co x y).wpIn (FR ro) 0 C.P Q a w:=by
   intro b s r he h
   refine wpIn_cond he ?_
   cases b with
   | true=>
    obtain ⟨g',r'⟩:=r.nrm (headId x)
    exact ihx ro hC hR hG hok.1 hro2.1 hmp hn hx hr hp g' w f _ a r' h
   | false=>
    obtain ⟨g',r'⟩:=r.nrm (headId y)
    exact ihy ro hC hR hG hok.2 hro2.2 hmp hn hx hr hp g' w f _ a r' h
  simp only [aC,condK] at h
  split at h
  ·rename_i t
   split at h
   ·rename_i av e
    obtain ⟨b,rfl,h1⟩:=mB_inv h hR
    have he:a.eval (.tmp t) = .bool b:=by
     have:=r.ev (.tmp t)
     have e':evO C s (.tmp t) = .v (.B b):=e
     rw [e'] at this
     exact V_B' (g:=g) (w:=w) this
    rcases bIte_inv h1 with ⟨hb,h2⟩ | ⟨hb,h2⟩
    ·subst hb
     exact go true _ (r.putSame e) he h2
    ·subst hb
     exact go false _ (r.putSame e) he h2
   ·rename_i e
    have h9:both _ _=R:=h
    obtain ⟨h1,h2⟩:=both_inv h9 hR
    have hv:=r.env t
    rw [e] at hv
    obtain ⟨b,hb⟩:=hv
    have he:a.eval (.tmp t) = .bool b:=by
     rw [←hb]
     simp [Act.eval,Array.getD_eq_getD_getElem?]
    have r':Rel C nt g0 w0 g w f (s.put (some t) (.v (.B b))) a:=r.putEV (by rw [hb];exact V_B g w b)
    cases b with
    | true=>exact go true _ r' he h1
    | false=>exact go false _ r' he h2
   ·exact absurd h.symm hR
  ·rename_i b
   exact go b s r rfl h
  ·exact absurd h.symm hR
 | block id b ih=>
  intro ro G nt g0 w0 R hC hR hG hok hro hmp kn kx kr Q hn hx hr hp g w f s a r h
  refine wpIn_block (ih ro hC hR hG hok hro hmp (Q:=Exit.inBlock id Q) (fun g w f s a r h=>hn g w f s a r h) (fun i g w f s a r h => ?_) (fun g w f s a r h=>hr g w f s a r h) hp.inBlock g w f s a r h)
  show (if i=id then Q .normal a w else Q (.exit i) a w)
  split
  ·rename_i hi
   rw [if_pos hi] at h
   exact hn g w f s a r h
  ·rename_i hi
   rw [if_neg hi] at h
   exact hx i g w f s a r h
 | loop b ih=>
  intro ro G nt g0 w0 R hC hR hG hok hro hmp kn kx kr Q hn hx hr hp g w f s a r h
  have key:∀(n:Nat) g w f s a,Rel C nt g0 w0 g w f s a→loopR (stdAlg C.pure G) (fun ih s=>aC C N (stdAlg C.pure (noPan G)) (stdAlg C.pure G) b (fun s'=>ih (nrm N (headId b) s')) kx kr s) n s=R→Code.roundsIn (FR ro) 0 C.P b Q n a w:=by
   intro n
   induction n with
   | zero=>intro g w f s a r h;exact absurd h.symm hR
   | succ n ihn=>
    intro g w f s a r h
    rw [roundsIn_succ]
    refine ih ro hC hR hG hok hro hmp (Q:=Exit.then (Code.roundsIn (FR ro) 0 C.P b Q n) Q) (fun g w f s a r h => ?_) (fun id g w f s a r h=>hx id g w f s a r h) (fun g w f s a r h=>hr g w f s a r h) hp.then g w f s a r h
    obtain ⟨g',r'⟩:=r.nrm (headId b)
    exact ihn g' w f _ a r' h
  obtain ⟨g',r'⟩:=r.nrm (headId b)
  exact wpIn_loop_rounds N.fuel (key N.fuel g' w f _ a r' h)
 | exit id=>intro ro G nt g0 w0 R hC hR hG _ hro hmp kn kx kr Q hn hx hr hp g w f s a r h;exact wpIn_exit (hx id g w f s a r h)
 | ret=>intro ro G nt g0 w0 R hC hR hG _ hro hmp kn kx kr Q hn hx hr hp g w f s a r h;exact wpIn_ret (hr g w f s a r h)
 | scope b ih=>
  intro ro G nt g0 w0 R hC hR hG hok hro hmp kn kx kr Q hn hx hr hp g w f s a r h
  exact wpIn_scope_straight (ih ro hC hR hG hok hro hmp (Q:=Exit.noGoto Q) hn hx hr hp.noGoto g w f s a r h)
 | label l=>intro ro G nt g0 w0 R hC hR hG _ hro hmp kn kx kr Q hn hx hr hp g w f s a r h;exact wpIn_label (hn g w f s a r h)
 | goto l=>intro ro G nt g0 w0 R hC hR hG _ hro hmp kn kx kr Q hn hx hr hp g w f s a r h;exact absurd h.symm hR
 | rangeFunc f0 ps x y iha ihb=>
  intro ro
  cases ro with
  | none=>exact range_sound iha ihb
  | some l=>
   intro G nt g0 w0 R hC hR hG hok hro hmp
   have h:noRF (.rangeFunc f0 ps x y)=true:=hro.resolve_left (by simp)
   simp [noRF] at h
 | refuse why=>intro ro G nt g0 w0 R hC hR hG _ hro hmp kn kx kr Q hn hx hr hp g w f s a r h;exact absurd h.symm hR
theorem aC_sound (hC:OkC C) (hR:R ≠ .stuck) (hG:∀j,Sound C j (G j)):∀(c:Code),codeOK nt c=true→(nt.mks=false∨∀v h,R ≠ .pan v h)→∀{kn:St→Res} {kx:Nat→St→Res} {kr:St→Res} {Q:Exit→Act→World→Prop},
  (∀g w f s a,Rel C nt g0 w0 g w f s a→kn s=R→Q .normal a w)→(∀id g w f s a,Rel C nt g0 w0 g w f s a→kx id s=R→Q (.exit id) a w)→(∀g w f s a,Rel C nt g0 w0 g w f s a→kr s=R→Q .ret a w)→PanAll nt g0 w0 Q R →
  ∀g w f s a,Rel C nt g0 w0 g w f s a→aC C N (stdAlg C.pure (noPan G)) (stdAlg C.pure G) c kn kx kr s=R→c.wp C.P Q a w:=
 fun c hok hm _ _ _ _ hn hx hr hp g w f s a r h=>wpIn_wide.1 (code_sound c none hC hR hG hok (.inl rfl) hm hn hx hr hp g w f s a r h)
theorem Rel.step {g g':Gh} {w:World} {f:Fr} {s s':St} {a:Act} (r:Rel C nt g0 w0 g w f s a) (hc:Core g' w f s') (hst:Stp g w f s g' w f s') (he:s'.env=s.env):Rel C nt g0 w0 g' w f s' a:=
 ⟨r.ext.trans hst.chg fun b hb hB hn=>hB ((r.ext.ow b hb (fun x=>x hn)).trans hn),hc,fun t=>by rw [he];exact (r.env t).stp r.core.heap.len hst,fun gi cs hg=>GV.later hst.chg.later gi cs (r.glob gi cs hg),r.dfr.chg hst.chg (fun _ h=>h),r.sz,r.fixed⟩
def resVal (tmps:Array Value):ResultVar→Sem Value
 | .tmp t=>pure (tmps.getD t undef)
 | .cell ad t=>do loadVar t (←asAddr (tmps.getD ad undef))
theorem results_eq (fn:Func) (tmps:Array Value):results fn tmps=(fn.results.mapM (resVal tmps)) >>= fun vs=>pure (if h:vs.size=1 then vs[0] else .tuple vs):=by
 unfold results
 have:(fun r:ResultVar=>(match r with
   | .tmp t=>pure (tmps.getD t undef)
   | .cell a t=>do loadVar t (←asAddr (tmps.getD a undef)):Sem Value))=resVal tmps:=by
  funext r
  cases r<;>rfl
 rw [←this]
 rfl
theorem resK_inv (hR:R ≠ .stuck) (hfr:N.fresh=none):∀(l:List (ResultVar×TypeId)) (g:Gh) (w:World) (f:Fr) (s:St) (a:Act) (acc:List AV) (accv:List Value),Rel C nt g0 w0 g w f s a→VT g w acc.reverse accv →
  resK.go (stdAlg C.pure G) C N l s acc=R→∃as us g' s',(∀(P':Unit),((l.map (·.1)).mapM (resVal a.tmps)).run C.P w = .ok us w)∧Rel C nt g0 w0 g' w f s' a∧s'.h=s.h∧VT g' w (acc.reverse++as) (accv++us)∧as.length=l.length ∧
   R=(match acc.reverse++as with
    | [a]=>Res.ret a (if N.drop then [] else s.h)
    | as=>Res.ret (.T as) (if N.drop then [] else s.h))
 | [],g,w,f,s,a,acc,accv,r,hv,h=>by
  refine ⟨[],[],g,s,fun _=>by simp,r,rfl,by simpa using hv,rfl,?_⟩
  rw [←h]
  simp only [List.append_nil]
  unfold resK.go
  match acc with
  | []=>rfl
  | [x]=>rfl
  | x::y::z=>
   simp only
   have:∀(l:List AV),l.length=(x::y::z).length→(match l with
    | [a]=>Res.ret a (if N.drop then [] else s.h)
    | as=>Res.ret (.T as) (if N.drop then [] else s.h))=Res.ret (.T l) (if N.drop then [] else s.h):=by
    intro l hl
    match l,hl with
    | [],_=>rfl
    | [_],hl=>simp at hl
    | _::_::_,_=>rfl
   rw [this _ (by simp)]
   rfl
 | (.tmp t,ty)::l,g,w,f,s,a,acc,accv,r,hv,h=>by
  unfold resK.go at h
  rw [hfr] at h
  simp only at h
  have h':Vm.use (stdAlg C.pure G) C ty (evO C s (.tmp t)) (loO s (evO C s (.tmp t))) (fun a u=>resK.go (stdAlg C.pure G) C N l { s with loc:=setLocs s.loc u } (a::acc))=R:=h
  obtain ⟨av,us,g1,h1,hf,hc,hst,hva⟩:=r.useF h' hR
  have r1:Rel C nt g0 w0 g1 w f (s.withLocs us) a:=r.step hc hst rfl
  obtain ⟨as,us2,g2,s2,k1,k2,k3,k4,k5,k6⟩:=resK_inv hR hfr l g1 w f (s.withLocs us) a (av::acc) (accv++[a.eval (.tmp t)]) r1 (by
   rw [List.reverse_cons]
   exact VT_app _ _ _ _ (VT.later hst.chg.later _ _ hv) (by simp only [VT];exact ⟨_,_,rfl,hva,rfl⟩)) h1
  refine ⟨av::as,a.eval (.tmp t)::us2,g2,s2,fun _ => ?_,k2,k3,by simpa using k4,by simp [k5],by simpa [St.withLocs] using k6⟩
  have:=k1 ()
  simp only [List.map_cons,List.mapM_cons,Sem.run_bind,resVal,Sem.run_pure,Result.andThen_ok,this]
  have e:a.eval (.tmp t)=a.tmps.getD t undef:=by
   simp [Act.eval,Array.getD_eq_getD_getElem?]
  rw [e]
 | (.cell t ty,ty')::l,g,w,f,s,a,acc,accv,r,hv,h=>by
  unfold resK.go at h
  rw [hfr] at h
  simp only [Option.isSome_none,Bool.false_eq_true,if_false] at h
  have h':loadK (stdAlg C.pure G) C ty (evO C s (.tmp t)) (loO s (evO C s (.tmp t))) s.h s.hv (fun e=>Vm.use (stdAlg C.pure G) C ty e (loO s e) fun a u=>resK.go (stdAlg C.pure G) C N l { s with loc:=setLocs s.loc u } (a::acc))=R:=h
  obtain ⟨e,b,off,v,h1,hx,hl,hve⟩:=loadK_run r hR h'
  obtain ⟨av,us,g1,h2,hf,_,hc,hst,hva⟩:=use_frz (s0:=s) (us0:=[]) (fun _ hp=>(by cases hp)) r.core hve h1 hR
  rw [List.append_nil] at hc hst
  have r1:Rel C nt g0 w0 g1 w f (s.withLocs us) a:=r.step hc hst rfl
  obtain ⟨as,us2,g2,s2,k1,k2,k3,k4,k5,k6⟩:=resK_inv hR hfr l g1 w f (s.withLocs us) a (av::acc) (accv++[v]) r1 (by
   rw [List.reverse_cons]
   exact VT_app _ _ _ _ (VT.later hst.chg.later _ _ hv) (by simp only [VT];exact ⟨_,_,rfl,hva,rfl⟩)) h2
  refine ⟨av::as,v::us2,g2,s2,fun _ => ?_,k2,k3,by simpa using k4,by simp [k5],by simpa [St.withLocs] using k6⟩
  have:=k1 ()
  have e:a.eval (.tmp t)=a.tmps.getD t undef:=by
   simp [Act.eval,Array.getD_eq_getD_getElem?]
  rw [e] at hx
  simp only [List.map_cons,List.mapM_cons,Sem.run_bind,resVal,Sem.run_pure,Result.andThen_ok,hx,asAddr,hl,this]
end
end Go.Vm
namespace Go.Vm
open Go
section
variable {C:Cx} {N:Ann} {G:FuncId→List AV→List HO→Res} {nt:NT} {R:Res}
theorem lk_args (as:List AV):∀(k t:Nat),lk t ((List.range' k as.length).zip (as.map .v))=if k≤t∧t<k+as.length then .v (as.getD (t-k) .U) else .v .U:=by
 induction as with
 | nil=>intro k t;simp [lk]
 | cons x as ih=>
  intro k t
  simp only [List.length_cons,List.range'_succ,List.map_cons,List.zip_cons_cons,lk]
  by_cases e:t=k
  ·subst e
   simp
  ·have hb:Nat.beq k t=false:=by
    rw [Bool.eq_false_iff]
    exact fun e'=>e (Nat.eq_of_beq_eq_true e').symm
   rw [hb,cond_false,ih (k+1) t]
   by_cases h:k+1≤t∧t<k+1+as.length
   ·rw [if_pos h,if_pos (by omega),show t-k=(t-(k+1))+1 by omega]
    simp
   ·rw [if_neg h,if_neg (by omega)]
def Gh.fr0 (g:Gh):Gh := { g with df:=[] }
theorem fr0_chg {B:Nat→Prop} {g g':Gh} {w w':World} (h:Chg B g.fr0 w g' w'):Chg B g w g' w':=
 ⟨⟨h.later.n,h.later.ix,h.later.st,h.later.cell,h.later.nf⟩,h.size,h.blk,h.ow,h.st,h.os,h.tape,h.out⟩
theorem fr0_refl {B:Nat→Prop} {g:Gh} {w:World} : Chg B g.fr0 w g w:=
 have h:=Chg.refl B g w
 ⟨⟨h.later.n,h.later.ix,h.later.st,h.later.cell,h.later.nf⟩,h.size,h.blk,h.ow,h.st,h.os,h.tape,h.out⟩
theorem init_rel {g:Gh} {w:World} {as:List AV} {vals:List Value} {h:List HO} {n:Nat} {b:Bool} (hh:HeapR g w h) (hv:VT g w as vals) (hwf:Wf g w) (hgl:GlobR C g w) :
  Rel C (NT.ofm n b) g.fr0 w g w ⟨fun _=>0,fun _=>undef⟩ (initSt as h) { tmps:=vals.toArray++Array.replicate (n-vals.toArray.size) undef,defers:=[] } := by
 have hlen:=VT.length _ _ hv
 refine ⟨fr0_refl,⟨hh,fun _=>trivial,hwf⟩,fun t => ?_,hgl,Dfr.zero,by simp [NT.ofm];omega,fun t ht=>by simp [NT.ofm] at ht⟩
 show VE _ _ _ _ (lk t ((List.range as.length).zip (as.map .v))) _
 rw [List.range_eq_range',lk_args]
 split
 ·rename_i ht
  obtain ⟨u,hu,hvu⟩:=VT_get as vals hv t (by omega)
  have:(vals.toArray++Array.replicate (n-vals.toArray.size) undef).getD t undef=u:=by
   rw [Array.getD_eq_getD_getElem?,Array.getElem?_append_left (by simp;omega)]
   simp [hu]
  rw [this]
  exact hvu
 ·trivial
theorem array_mapM_run {P:Program} {w:World} {α:Type} {F:α→Sem Value} {xs:Array α} {us:List Value} (h:(xs.toList.mapM F).run P w = .ok us w):(xs.mapM F).run P w = .ok us.toArray w:=by
 rw [Array.mapM_eq_mapM_toList]
 simp only [Sem.run_map,h,Result.andThen_ok]
theorem end_plain (hR:R ≠ .stuck) (hfr:N.fresh=none) {fn:Func} (hlen:fn.results.size=fn.resultTypes.size) {g0 g:Gh} {w0 w:World} {f:Fr} {s:St} {a:Act} (r:Rel C nt g0 w0 g w f s a) (h:resK (stdAlg C.pure G) C N fn s=R) :
  ∃v u g',(results fn a.tmps).run C.P w = .ok u w∧Chg (fun b=>g0.ow b≠none) g0 w0 g' w∧HeapR g' w s.h∧V g' w v u∧Wf g' w∧R = .ret v (if N.drop then [] else s.h):=by
 unfold resK at h
 obtain ⟨as,us,g',s',h1,h2,h3,h4,h5,h6⟩:=resK_inv hR hfr _ g w f s a [] [] r (by simp [VT]) h
 have hmap:(fn.results.toList.zip fn.resultTypes.toList).map (·.1)=fn.results.toList:=by
  rw [List.map_fst_zip]
  simp [hlen]
 have h1:=h1 ()
 rw [hmap] at h1
 have hrun:=array_mapM_run h1
 simp only [List.nil_append,List.reverse_nil] at h4 h6
 have hvl:=VT.length _ _ h4
 have hres:∀u,(if h:us.toArray.size=1 then us.toArray[0] else Value.tuple us.toArray)=u→(results fn a.tmps).run C.P w = .ok u w:=by
  intro u hu
  rw [results_eq,Sem.run_bind,hrun,Result.andThen_ok,Sem.run_pure,hu]
 have hh:HeapR g' w s.h:=by rw [←h3];exact h2.core.heap
 match as,us,h4,h6,hvl,hres with
 | [],us,h4,h6,hvl,hres=>
  have:us=[]:=List.eq_nil_of_length_eq_zero hvl
  subst this
  exact ⟨.T [], .tuple #[],g',hres _ (by simp),h2.ext,hh,by simp only [V];exact ⟨[],rfl,by simp [VT]⟩,h2.core.wf,h6⟩
 | [x],[u],h4,h6,hvl,hres=>
  simp only [VT] at h4
  obtain ⟨u',r',e,hv,_⟩:=h4
  cases e
  exact ⟨x,u,g',hres _ (by simp),h2.ext,hh,hv,h2.core.wf,h6⟩
 | [x],[],h4,h6,hvl,hres=>simp at hvl
 | [x],_::_::_,h4,h6,hvl,hres=>simp at hvl
 | x::y::z,us,h4,h6,hvl,hres=>
  refine ⟨.T (x::y::z), .tuple us.toArray,g',hres _ ?_,h2.ext,hh,by simp only [V];exact ⟨us,rfl,h4⟩,h2.core.wf,h6⟩
  rw [dif_neg]
  simp only [List.size_toArray,hvl,List.length_cons]
  omega
theorem end_slice (hR:R ≠ .stuck) {e:TypeId} (hfr:N.fresh=some e) {fn:Func} (hlen:fn.results.size=fn.resultTypes.size) (h1:fn.results.size=1) {g0 g:Gh} {w0 w:World} {f:Fr} {s:St} {a:Act} (r:Rel C nt g0 w0 g w f s a) (h:resK (stdAlg C.pure G) C N fn s=R) :
  ∃c k ex u h',(results fn a.tmps).run C.P w = .ok u w∧c.elem=e∧SR g w (.arr k) c ex u∧(N.eat=none→ex=true)∧R = .ret c.toAV h':=by
 unfold resK at h
 have hz:∃rv ty,fn.results = #[rv]∧fn.resultTypes = #[ty]:=by
  have a1:fn.results.toList.length=1:=by simpa using h1
  have a2:fn.resultTypes.toList.length=1:=by simpa using hlen▸h1
  match e1:fn.results.toList,e2:fn.resultTypes.toList,a1,a2 with
  | [rv],[ty],_,_=>exact ⟨rv,ty,by apply Array.toList_inj.1;rw [e1],by apply Array.toList_inj.1;rw [e2]⟩
 obtain ⟨rv,ty,e1,e2⟩:=hz
 rw [e1,e2] at h
 have h:resK.go (stdAlg C.pure G) C N [(rv,ty)] s []=R:=h
 have hres:∀t,rv = .tmp t→(results fn a.tmps).run C.P w = .ok (a.eval (.tmp t)) w:=by
  intro t ht
  have e:a.eval (.tmp t)=a.tmps.getD t undef:=by
   simp [Act.eval,Array.getD_eq_getD_getElem?]
  rw [results_eq,e1,ht,e]
  simp [resVal]
 unfold resK.go at h
 cases rv with
 | cell t ty'=>
  simp only [hfr,Option.isSome_some,if_true] at h
  exact absurd h.symm hR
 | tmp t=>
  simp only [hfr] at h
  have hve:=r.ev (.tmp t)
  split at h
  ·rename_i k ver ver' c ex _q1 _q2 es el2
   split at h
   ·rename_i hk
    obtain ⟨rfl,hel,hex⟩:=hk
    have es':evO C s (.tmp t) = .ls k ver:=es
    rw [es'] at hve
    rw [es] at el2
    simp only [loO,EV.site] at el2
    have hu:=hve.2 (by rw [el2]) c ex (by rw [el2])
    have hlr:=r.core.loc k
    unfold LR at hlr
    rw [el2] at hlr
    exact ⟨c,k,ex,_,_,hres t rfl,hel,by rw [hu];exact hlr,fun hn=>by rw [hn] at hex;simpa using hex,h.symm⟩
   ·exact absurd h.symm hR
  ·rename_i _q1 _q2 es
   split at h
   ·rename_i hz
    have es':evO C s (.tmp t) = .nil:=es
    rw [es'] at hve
    have hu:a.eval (.tmp t) = .slice none 0 0:=hve
    have hem:=emptySC_ok (P:=C.P) (e:=e) (by
     rcases hz with hz | hz
     ·simp [hz]
     ·simp;exact .inr (Nat.pos_of_ne_zero hz))
    refine ⟨emptySC C.P e,0,true,_,_,hres t rfl,?_,by rw [hu];exact SR_empty _ _ hem.1 hem.2,fun _=>rfl,h.symm⟩
    unfold emptySC;split<;>rfl
   ·exact absurd h.symm hR
  ·exact absurd h.symm hR
theorem end_fresh (hR:R ≠ .stuck) {e:TypeId} (hfr:N.fresh=some e) (heat:N.eat=none) {fn:Func} (hlen:fn.results.size=fn.resultTypes.size) (h1:fn.results.size=1) {g0 g:Gh} {w0 w:World} {f:Fr} {s:St} {a:Act} (how:∀b,g0.ow b=none) (r:Rel C nt g0 w0 g w f s a) (h:resK (stdAlg C.pure G) C N fn s=R) :
  ∃v u h',(results fn a.tmps).run C.P w = .ok u w∧FreshR e w0 g w v u∧R = .ret v h':=by
 obtain ⟨c,k,ex,u,h',k1,k2,k3,k4,k5⟩:=end_slice hR hfr hlen h1 r h
 have:=k4 heat
 subst this
 refine ⟨c.toAV,u,h',k1,⟨c, .arr k,rfl,k2,k3,fun b hb => ?_⟩,k5⟩
 have hown:=(SR.owner k3 hb).1
 rcases Nat.lt_or_ge b w0.heap.size with hlt | hge
 ·have:=r.ext.ow b hlt (fun x=>x (how b))
  rw [hown,how b] at this
  cases this
 ·exact hge
theorem sound_fn (hC:OkC C) (hG:∀j,Sound C j (G j)) {f:FuncId} {fn:Func} {c:Code} (hf:C.P.funcs[f]? = some fn) (hb:fn.body=some c) (hname:fn.name ≠ "runtime.NumGoroutine") (hok:codeOK (NT.of fn.ntmps) c=true)
  (hlen:fn.results.size=fn.resultTypes.size) (hdrop:N.drop=C.pure f) (heat:N.eat=none) (hceat:C.eats f=none) (hfresh:N.fresh=C.fresh f) (hfp:C.fresh f=none∨(C.pure f=true∧fn.results.size=1)):Sound C f (semF C N fn G):=by
 have hcall:Callable C.P f:=⟨fn,hf,by rw [hb];rfl,hname⟩
 have body:∀(as:List AV) (h:List HO) (R:Res),semF C N fn G as h=R →
   aC C N (stdAlg C.pure (noPan G)) (stdAlg C.pure G) c (resK (stdAlg C.pure G) C N fn) (fun _ _=>Res.stuck) (resK (stdAlg C.pure G) C N fn) (initSt as h)=R:=by
  intro as h R hr
  unfold semF aF at hr
  rw [hb,heat] at hr
  exact hr
 unfold Sound
 split
 ·rename_i hp
  refine ⟨?_,fun e he=>by rw [hceat] at he;cases he⟩
  intro g w as vals R hr hR hnp hn0 hv hwf hgl how
  refine ⟨hcall,calls_of_wp hf hb ?_⟩
  have hh:HeapR g w []:=⟨by rw [hn0];rfl,fun id hid=>by omega,fun id cs hc=>by simp at hc,fun id es hc=>by simp at hc,fun id t n xs hc=>by simp at hc⟩
  have hrel:=init_rel (C:=C) (n:=fn.ntmps) (b:=false) hh hv hwf hgl
  have chgF:∀{g':Gh} {w':World},Chg (fun b=>g.ow b≠none) g w g' w'→Chg (fun _=>False) g w g' w':=fun h=>h.mono fun b _ hB=>hB (how b)
  have fin:∀g' w' f' s' a',Rel C (NT.of fn.ntmps) g.fr0 w g' w' f' s' a'→resK (stdAlg C.pure G) C N fn s'=R→a'.defers=[]∧∃v,(results fn a'.tmps).run C.P w' = .ok v w'∧PostP (C.fresh f) g w R (.returned v) w':=by
   intro g' w' f' s' a' r h
   refine ⟨r.dfr,?_⟩
   cases hfe:C.fresh f with
   | none=>
    obtain ⟨v,u,g2,k1,k2,k3,k4,k5,k6⟩:=end_plain hR (by rw [hfresh,hfe]) hlen r h
    exact ⟨u,k1,v,_,g2,k6,chgF (fr0_chg k2),k5,k4⟩
   | some e=>
    have h1:=(hfp.resolve_left (by rw [hfe];simp)).2
    obtain ⟨v,u,h',k1,k2,k3⟩:=end_fresh (g0:=g.fr0) hR (by rw [hfresh,hfe]) heat hlen h1 how r h
    exact ⟨u,k1,v,h',g',k3,chgF (fr0_chg r.ext),r.core.wf,k2⟩
  refine aC_sound hC hR hG c hok (.inl rfl) (fun g' w' f' s' a' r h=>fin g' w' f' s' a' r h) (fun id g' w' f' s' a' r h=>absurd h.symm hR) (fun g' w' f' s' a' r h=>fin g' w' f' s' a' r h) ?_ g w _ _ _ hrel (body as [] R hr)
  intro a ha v h' u g' w' hRv hch hhe hvv hwf'
  exact ⟨ha,v,h',u,g',hRv,rfl,chgF (fr0_chg hch),hvv,hwf'⟩
 ·rename_i hp
  intro g w as vals h R hr hR hh hv hwf hgl how
  refine ⟨hcall,calls_of_wp hf hb ?_⟩
  have hrel:=init_rel (C:=C) (n:=fn.ntmps) (b:=false) hh hv hwf hgl
  have hnf:C.fresh f=none:=hfp.resolve_right fun h=>hp h.1
  have fin:∀g' w' f' s' a',Rel C (NT.of fn.ntmps) g.fr0 w g' w' f' s' a'→resK (stdAlg C.pure G) C N fn s'=R→a'.defers=[]∧∃v,(results fn a'.tmps).run C.P w' = .ok v w'∧Post g w R (.returned v) w':=by
   intro g' w' f' s' a' r h
   refine ⟨r.dfr,?_⟩
   obtain ⟨v,u,g2,k1,k2,k3,k4,k5,k6⟩:=end_plain hR (by rw [hfresh,hnf]) hlen r h
   have:N.drop=false:=by rw [hdrop];simpa using hp
   rw [this] at k6
   exact ⟨u,k1,v,_,g2,k6,fr0_chg k2,k3,k4,k5⟩
  refine aC_sound hC hR hG c hok (.inl rfl) (fun g' w' f' s' a' r h=>fin g' w' f' s' a' r h) (fun id g' w' f' s' a' r h=>absurd h.symm hR) (fun g' w' f' s' a' r h=>fin g' w' f' s' a' r h) ?_ g w _ _ _ hrel (body as h R hr)
  intro a ha v h' u g' w' hRv hch hhe hvv hwf'
  exact ⟨ha,v,h',u,g',hRv,rfl,fr0_chg hch,hhe,hvv,hwf'⟩
theorem eat_rel {g:Gh} {w:World} {c:SC} {as:List AV} {u0:Value} {vals:List Value} {k n:Nat} (hs:SR g w (.arr k) c false u0) (hv:VT g w as vals) (hwf:Wf g w) (hgl:GlobR C g w) (hn0:g.n=0) :
  Rel C (NT.of n) g.fr0 w g w ⟨fun _=>0,fun _=>u0⟩ (eatSt k c as []) { tmps:=(u0::vals).toArray++Array.replicate (n-(u0::vals).toArray.size) undef,defers:=[] } := by
 have hlen:=VT.length _ _ hv
 have hloc:∀j,(eatSt k c as []).loc j=if k=j then ⟨0, .arr c false⟩ else ⟨0, .no⟩:=by
  intro j
  show lkL j [(k,_)]=_
  simp only [lkL]
  cases e:Nat.beq k j with
  | true=>rw [if_pos (Nat.eq_of_beq_eq_true e)];rfl
  | false=>
   rw [if_neg]
   ·rfl
   ·intro e2;subst e2;simp at e
 refine ⟨fr0_refl,⟨⟨by rw [hn0];rfl,fun id hid=>by omega,fun id cs hc=>by simp [eatSt,mkSt] at hc,fun id es hc=>by simp [eatSt,mkSt] at hc,fun id t n xs hc=>by simp [eatSt,mkSt] at hc⟩,fun j => ?_,hwf⟩,fun t => ?_,hgl,Dfr.zero,by simp [NT.ofm];omega,fun t ht=>by simp [NT.ofm] at ht⟩
 ·unfold LR
  rw [hloc j]
  by_cases e:k=j
  ·subst e
   rw [if_pos rfl]
   exact hs
  ·rw [if_neg e]
   trivial
 ·show VE _ _ _ _ (lk t ((List.range (as.length+1)).zip (.ls k 0::as.map .v))) _
  have e0:(List.range (as.length+1)).zip (EV.ls k 0::as.map .v)=(0,EV.ls k 0)::(List.range' 1 as.length).zip (as.map .v):=by
   rw [List.range_eq_range']
   rfl
  rw [e0]
  cases t with
  | zero=>
   simp only [lk,Nat.beq_refl,cond_true]
   refine ⟨Nat.zero_le _,fun _ c' ex' e => ?_⟩
   rw [Array.getD_eq_getD_getElem?,Array.getElem?_append_left (by simp)]
   rfl
  | succ t=>
   simp only [lk,show Nat.beq 0 (t+1)=false from rfl,cond_false]
   rw [lk_args]
   split
   ·rename_i ht
    obtain ⟨u,hu,hvu⟩:=VT_get as vals hv (t+1-1) (by omega)
    have:((u0::vals).toArray++Array.replicate (n-(u0::vals).toArray.size) undef).getD (t+1) undef=u:=by
     rw [Array.getD_eq_getD_getElem?,Array.getElem?_append_left (by simp;omega)]
     simp at hu
     simp [hu]
    rw [this]
    exact hvu
   ·trivial
theorem sound_eat (hC:OkC C) (hG:∀j,Sound C j (G j)) {f:FuncId} {fn:Func} {c:Code} {e:TypeId} {k:Nat} (hf:C.P.funcs[f]? = some fn) (hb:fn.body=some c) (hname:fn.name ≠ "runtime.NumGoroutine") (hok:codeOK (NT.of fn.ntmps) c=true)
  (hlen:fn.results.size=fn.resultTypes.size) (hp:C.pure f=true) (heat:N.eat=some (k,e)) (hceat:C.eats f=some e) (hfresh:N.fresh=some e) (h1:fn.results.size=1):Sound C f (semF C N fn G):=by
 have hcall:Callable C.P f:=⟨fn,hf,by rw [hb];rfl,hname⟩
 unfold Sound
 rw [if_pos hp]
 refine ⟨fun g w as vals R hr hR => ?_,fun e' he'=>⟨k,?_⟩⟩
 ·unfold semF aF at hr
  rw [hb,heat] at hr
  cases as<;>exact absurd hr.symm hR
 ·rw [hceat] at he'
  cases he'
  intro g w sc as u0 vals v hh hr hnp hn0 hel hw hY hs hv hwf hgl how
  refine ⟨hcall,calls_of_wp hf hb ?_⟩
  have body:aC C N (stdAlg C.pure (noPan G)) (stdAlg C.pure G) c (resK (stdAlg C.pure G) C N fn) (fun _ _=>Res.stuck) (resK (stdAlg C.pure G) C N fn) (eatSt k sc as []) = .ret v hh:=by
   unfold semF aF at hr
   rw [hb,heat] at hr
   simp only at hr
   cases sc with
   | y t sb=>
    simp only [SC.elem] at hel
    subst hel
    have hY':byteT C.P t=true:=hY.symm
    rw [if_pos hY'] at hr
    exact hr
   | e t n xs=>
    simp only [SC.elem] at hel
    subst hel
    simp only [SC.width] at hw
    subst hw
    rw [if_neg (by rw [←hY];simp [SC.isY])] at hr
    have hr':mL (szT C.P t) (SC.e t (szT C.P t) xs).toAV (fun xs=>aC C N (stdAlg C.pure (noPan G)) (stdAlg C.pure G) c (resK (stdAlg C.pure G) C N fn)
     (fun x x_1=>Res.stuck) (resK (stdAlg C.pure G) C N fn) (eatSt k (SC.e t (szT C.P t) xs) as []))=Res.ret v hh:=hr
    obtain ⟨xs',e1,h2⟩:=mL_inv hr' (by simp)
    simp only [SC.toAV,AV.L.injEq,true_and] at e1
    rw [e1]
    exact h2
  have fin:∀g' w' f' s' a',Rel C (NT.of fn.ntmps) g.fr0 w g' w' f' s' a'→resK (stdAlg C.pure G) C N fn s' = .ret v hh→a'.defers=[]∧∃u,(results fn a'.tmps).run C.P w' = .ok u w'∧PostE e g w v (.returned u) w':=by
   intro g' w' f' s' a' r h
   refine ⟨r.dfr,?_⟩
   obtain ⟨c',k',ex,u,h',k1,k2,k3,k4,k5⟩:=end_slice (by simp) hfresh hlen h1 r h
   cases k5
   obtain ⟨g2,z1,z2,z3,z4,z5,z6⟩:=SR.give (o' := .arr k') k3
   have hch:=r.ext.trans z1 fun b hb hB hn=>by
    have:=r.ext.ow b hb (fun x=>x hn)
    rw [hn,hB] at this
    cases this
   refine ⟨u,k1,g2,fr0_chg hch,fun b i hx=>(z5 b i hx).elim (r.core.wf b i) id,c', .arr k',rfl,k2,z2,fun b hb => ?_⟩
   rcases Nat.lt_or_ge b w.heap.size with hlt | hge
   ·right
    intro hn
    have:=r.ext.ow b hlt (fun x=>x hn)
    have this2:some (Own.arr k')=g.ow b:=(SR.owner k3 hb).1.symm.trans this
    rw [hn] at this2
    cases this2
   ·exact .inl hge
  refine aC_sound hC (by simp) hG c hok (.inl rfl) (fun g' w' f' s' a' r h=>fin g' w' f' s' a' r h) (fun id g' w' f' s' a' r h=>by cases h) (fun g' w' f' s' a' r h=>fin g' w' f' s' a' r h) ?_ g w _ _ _ (eat_rel (n:=fn.ntmps) hs hv hwf hgl hn0) body
  intro a ha v h' u g' w' hRv
  cases hRv
end
end Go.Vm
namespace Go.Vm
open Go
def mkA (drop:Bool) (fresh:Option TypeId) (eat:Option (Nat×TypeId)) (dyn:Bool) (fu:Nat) (excl asV heap narrow win frz mutA:List Nat) (rfix:List (Nat×List Nat)) (live:List (Nat×List Nat×List Nat)):Ann:=
 { drop,fresh,eat,dynPure:=dyn,fuel:=fu,excl:=fun n=>excl.contains n,asV:=fun n=>asV.contains n,heapSite:=fun n=>heap.contains n,narrow:=fun n=>narrow.contains n,win:=fun n=>win.contains n,frz:=fun n=>frz.contains n,mutA:=fun n=>mutA.contains n,rfix:=fun n=>lkR n rfix,live:=fun r=>lkA r live }
abbrev FF:=List AV→List HO→Res
def lkF (k:Nat):List (Nat×((FuncId→FF)→FF))→(FuncId→FF)→FF
 | [],_=>fun _ _ => .stuck
 | (i,f)::r,G=>bif Nat.beq i k then f G else lkF k r G
section
variable {C:Cx}
theorem Sound.less {f:FuncId} {S S':FF} (hs:Sound C f S') (h:∀as hp,S as hp = .stuck∨S as hp=S' as hp):Sound C f S:=by
 have key:∀{as hp R},S as hp=R→R ≠ .stuck→S' as hp=R:=fun {as hp R} hr hR=>by
  rcases h as hp with e | e
  ·rw [e] at hr;exact absurd hr.symm hR
  ·rw [←e];exact hr
 unfold Sound at hs ⊢
 split
 ·rename_i hp
  rw [if_pos hp] at hs
  refine ⟨fun g w as vals R hr hR=>hs.1 g w as vals R (key hr hR) hR,fun e he => ?_⟩
  obtain ⟨k,h2⟩:=hs.2 e he
  exact ⟨k,fun g w c as u0 vals v hh hr=>h2 g w c as u0 vals v hh (key hr (by simp))⟩
 ·rename_i hp
  rw [if_neg hp] at hs
  exact fun g w as vals hh R hr hR=>hs g w as vals hh R (key hr hR) hR
theorem sound_stuck (f:FuncId):Sound C f (fun _ _ => .stuck):=by
 unfold Sound
 split
 ·exact ⟨fun g w as vals R hr hR=>absurd hr.symm hR,fun e he=>⟨0,fun g w c as u0 vals v hh hr=>by cases hr⟩⟩
 ·exact fun g w as vals hh R hr hR=>absurd hr.symm hR
theorem sound_nil {G:FuncId→FF} : ∀k,Sound C k (lkF k [] G):=fun k=>sound_stuck k
theorem sound_cons {G:FuncId→FF} {i:Nat} {f:(FuncId→FF)→FF} {r:List (Nat×((FuncId→FF)→FF))} (h:Sound C i (f G)) (hr:∀k,Sound C k (lkF k r G)):∀k,Sound C k (lkF k ((i,f)::r) G):=by
 intro k
 simp only [lkF]
 cases e:Nat.beq i k with
 | true=>
  rw [Nat.eq_of_beq_eq_true e] at h
  exact h
 | false=>exact hr k
end
def memo:List (List AV×List HO×Res)→FF
 | [],_,_ => .stuck
 | (a,h,r)::l,as,hp=>bif eqVs as a&&eqHOs hp h then r else memo l as hp
theorem sound_memo {C:Cx} {f:FuncId} {S:FF} (hs:Sound C f S):∀(l:List (List AV×List HO×Res)),(∀p∈l,S p.1 p.2.1=p.2.2)→Sound C f (memo l):=by
 intro l hl
 refine hs.less fun as hp => ?_
 induction l with
 | nil=>exact .inl rfl
 | cons p l ih=>
  obtain ⟨a,h,r⟩:=p
  simp only [memo]
  cases e:eqVs as a&&eqHOs hp h with
  | true=>
   rw [Bool.and_eq_true] at e
   rw [eqVs_eq _ _ e.1,eqHOs_eq _ _ e.2]
   exact .inr (hl (a,h,r) List.mem_cons_self).symm
  | false=>exact ih fun p hp=>hl p (List.mem_cons_of_mem _ hp)
end Go.Vm
namespace Go.Vm
open Go
section
variable {C:Cx} {N:Ann} {G:FuncId→List AV→List HO→Res}
def semDf (C:Cx) (N:Ann) (fn:Func) (A B D:Code) (idr:Nat) (G:FuncId→FF):FF:=fun as h=>
 let Rk:=resK (stdAlg C.pure G) C N fn
 let r:=aC C N (stdAlg C.pure (noPan G)) (stdAlg C.pure G) A
  (fun s=>aC C N (stdAlg C.pure (noPan G)) (stdAlg C.pure G) B
   (fun s=>aC C N (stdAlg C.pure (noPan G)) (stdAlg C.pure G) D Rk (fun _ _ => .stuck) Rk (nrm N (headId D) (nrm N (some idr) s)))
   (fun _ _ => .stuck) Rk (nrm N (headId B) s))
  (fun _ _ => .stuck) Rk (initSt as h)
 match r with
 | .ret v h => .ret v h
 | _ => .stuck
def Idle (P:Program) (f:FuncId):Prop:=∀(args:Array Value) (w:World),CallsD P f args .returning w fun e u' w'=>u' = .returning∧w'=w∧∃v,e = .returned v
theorem sound_defer (hC:OkC C) (hG:∀j,Sound C j (G j)) {f fd:FuncId} {fn fnd:Func} {A B D:Code} {idr:Nat} {od:Oper} {cd:Call} (hf:C.P.funcs[f]? = some fn) (hb:fn.body=some (.seq A (.seq B (.seq (.region idr #[od] false) D)))) (hname:fn.name ≠ "runtime.NumGoroutine")
  (hokA:codeOK (NT.of fn.ntmps) A=true) (hokB:codeOK (NT.of fn.ntmps) B=true) (hokD:codeOK (NT.of fn.ntmps) D=true) (hlen:fn.results.size=fn.resultTypes.size) (hdrop:N.drop=false) (hfresh:N.fresh=none) (hp:C.pure f=false)
  (hod:od.op = .defer cd) (hcd:cd.callee = .value (.func fd)) (hgd:od.guard=none) (hdst:od.dst=none) (hfd:Callable C.P fd) (hidle:Idle C.P fd):Sound C f (semDf C N fn A B D idr G):=by
 have hcall:Callable C.P f:=⟨fn,hf,by rw [hb];rfl,hname⟩
 unfold Sound
 rw [if_neg (by simp [hp])]
 intro g w as vals h R hr hR hh hv hwf hgl how
 refine ⟨hcall,calls_of_wp_defers hf hb ?_⟩
 have hrel:=init_rel (C:=C) (n:=fn.ntmps) (b:=false) hh hv hwf hgl
 unfold semDf at hr
 dsimp only at hr
 split at hr
 case h_2=>exact absurd hr.symm hR
 rename_i rv rh hr'
 subst hr
 have fin0:∀g' w' f' s' a',Rel C (NT.of fn.ntmps) g.fr0 w g' w' f' s' a'→resK (stdAlg C.pure G) C N fn s' = .ret rv rh→Leaves C.P fn a'.tmps (Post g w (.ret rv rh)) a'.defers .returning w':=by
  intro g' w' f' s' a' r h
  have hdf:a'.defers=[]:=r.dfr
  rw [hdf]
  obtain ⟨v,u,g2,k1,k2,k3,k4,k5,k6⟩:=end_plain hR hfresh hlen r h
  rw [hdrop] at k6
  exact ⟨u,k1,v,_,g2,k6,fr0_chg k2,k3,k4,k5⟩
 have fin1:∀(d:Deferred) g' w' f' s' a',d.target = .fn (.func fd) #[]→Rel C (NT.of fn.ntmps) { g with df:=[d] } w g' w' f' s' a'→resK (stdAlg C.pure G) C N fn s' = .ret rv rh→Leaves C.P fn a'.tmps (Post g w (.ret rv rh)) a'.defers .returning w':=by
  intro d g' w' f' s' a' hdt r h
  have hdf:a'.defers=[d]:=r.dfr
  rw [hdf]
  obtain ⟨v,u,g2,k1,k2,k3,k4,k5,k6⟩:=end_plain hR hfresh hlen r h
  rw [hdrop] at k6
  have k2':Chg (fun b=>g.ow b≠none) g w g2 w':=⟨⟨k2.later.n,k2.later.ix,k2.later.st,k2.later.cell,k2.later.nf⟩,k2.size,k2.blk,k2.ow,k2.st,k2.os,k2.tape,k2.out⟩
  obtain ⟨tg,da⟩:=d
  simp only at hdt
  subst hdt
  refine leaves_cons (f:=fd) (args:=da) (by simp) ?_ ((hidle da w').mono fun e u' w'' hq => ?_)
  ·obtain ⟨fn2,h1,h2,h3⟩:=hfd
   have h4:fn2.body≠none:=by cases e:fn2.body<;>simp_all
   simp [invoke,callFunc,h1,h3,h4]
  ·obtain ⟨rfl,rfl,v2,rfl⟩:=hq
   exact ⟨u,k1,v,_,g2,k6,k2',k3,k4,k5⟩
 have pan0:∀g0:Gh,PanAll (NT.of fn.ntmps) g0 w (bodyPostD C.P fn (Post g w (.ret rv rh))) (.ret rv rh):=by
  intro g0 a ha v h' u g' w' hRv
  cases hRv
 refine wp_seq (aC_sound (g0:=g.fr0) (w0:=w) hC hR hG A hokA (.inl rfl) (Q:=Exit.then ((Code.seq B (Code.seq (Code.region idr #[od] false) D)).wp C.P (bodyPostD C.P fn (Post g w (.ret rv rh)))) (bodyPostD C.P fn (Post g w (.ret rv rh)))) ?_ (fun id g' w' f' s' a' r h=>absurd h.symm hR) (fun g' w' f' s' a' r h=>fin0 g' w' f' s' a' r h) (pan0 _).then g w _ _ _ hrel hr')
 intro g1 w1 f1 s1 a1 r1 h1
 obtain ⟨g1',r1'⟩:=r1.nrm (headId B)
 refine wp_seq (aC_sound (g0:=g.fr0) (w0:=w) hC hR hG B hokB (.inl rfl) (Q:=Exit.then ((Code.seq (Code.region idr #[od] false) D).wp C.P (bodyPostD C.P fn (Post g w (.ret rv rh)))) (bodyPostD C.P fn (Post g w (.ret rv rh)))) ?_ (fun id g' w' f' s' a' r h=>absurd h.symm hR) (fun g' w' f' s' a' r h=>fin0 g' w' f' s' a' r h) (pan0 _).then g1' w1 _ _ _ r1' h1)
 intro g2 w2 f2 s2 a2 r2 h2
 obtain ⟨g2',r2'⟩:=r2.nrm (some idr)
 refine wp_seq (wp_region ?_)
 have hw:Region.wanted od (yielded #[od] a2.tmps)=true:=by simp [Region.wanted,hgd]
 have hx:∃da,(execOp a2.eval od).run C.P w2 = .ok (.defer { target := .fn (.func fd) #[],args:=da }) w2:=by
  refine ⟨cd.args.map a2.eval,?_⟩
  simp [execOp,hod,resolve,hcd,Act.eval,Deferred.ofValue]
 obtain ⟨da,hx⟩:=hx
 have r3:Rel C (NT.of fn.ntmps) { g with df:=[{ target := .fn (.func fd) #[],args:=da }] } w g2' w2 f2 (nrm N (some idr) s2) { a2 with defers := { target := .fn (.func fd) #[],args:=da } :: a2.defers } := by
  have e:=r2'.ext
  refine ⟨⟨⟨e.later.n,e.later.ix,e.later.st,e.later.cell,e.later.nf⟩,e.size,e.blk,e.ow,e.st,e.os,e.tape,e.out⟩,r2'.core,r2'.env,r2'.glob,?_,r2'.sz,r2'.fixed⟩
  show _::a2.defers=_
  rw [show a2.defers=[] from r2'.dfr]
 obtain ⟨g3,r3'⟩:=r3.nrm (headId D)
 have hD:D.wp C.P (bodyPostD C.P fn (Post g w (.ret rv rh))) { a2 with defers := { target := .fn (.func fd) #[],args:=da } :: a2.defers } w2:=
  aC_sound (w0:=w) hC hR hG D hokD (.inl rfl) (Q:=bodyPostD C.P fn (Post g w (.ret rv rh))) (fun g' w' f' s' a' r h=>fin1 _ g' w' f' s' a' rfl r h) (fun id g' w' f' s' a' r h=>absurd h.symm hR) (fun g' w' f' s' a' r h=>fin1 _ g' w' f' s' a' rfl r h) (pan0 _) g3 w2 _ _ _ r3' h2
 have hrange:List.range (#[od]:Array Oper).size=[0]:=rfl
 rw [hrange]
 simp only [wpOps,List.getElem?_toArray,List.getElem?_cons_zero]
 rw [if_pos hw]
 refine .inl ?_
 unfold Oper.wp
 rw [hx]
 simp only [Oper.upon,hdst]
 exact hD
theorem idle_caught {P:Program} {f:FuncId} {fn:Func} {r0 blk r3 r4:Nat} {o0 o3 o4:Oper} {c0:Call} {Y:Code} {t5 t7 t2 ty:Nat} {tt:TypeId} {ms:Array (String×TypeId)} (hf:P.funcs[f]? = some fn)
  (hb:fn.body=some (.seq (.region r0 #[o0] false) (.block blk (.seq (.region r3 #[o3] false) (.cond (.tmp t7) (.region r4 #[o4] false) Y)))))
  (hres:fn.results = #[]) (h0:o0.op = .call c0) (hc0:c0.callee = .builtin .recover) (hg0:o0.guard=none) (hd0:o0.dst=some t5)
  (h3:o3.op = .binOp .eql ty (.tmp t5) (.const .nilIface) tt) (hg3:o3.guard=none) (hd3:o3.dst=some t7) (hty:P.underlying ty=some (.interface ms))
  (h4:o4.op = .assign (.tmp t5)) (hg4:o4.guard=none) (hd4:o4.dst=some t2) (h57:t5≠t7) (hl5:t5<fn.ntmps) (hl7:t7<fn.ntmps):Idle P f:=by
 intro args w
 refine callsD_of_wpS hf hb fun c₀ cs hu => ?_
 refine wpS_seq (wpS_region ?_)
 have hr0:List.range (#[o0]:Array Oper).size=[0]:=rfl
 rw [hr0]
 simp only [wpOpsS,List.getElem?_toArray,List.getElem?_cons_zero]
 have hw0:∀ts,Region.wanted o0 (yielded #[o0] ts)=true:=fun ts=>by simp [Region.wanted,hg0]
 rw [if_pos (hw0 _)]
 have hx0:∀(a:Act),(execOp a.eval o0).run P w = .ok .recover w:=fun a=>by simp [execOp,h0,resolve,hc0,invoke,Go.builtin]
 rw [hx0]
 have hrec:recoverD (c₀::cs)=none:=by simp [recoverD,hu]
 simp only [hrec,hd0]
 let a1:Act:=Act.put { tmps:=args++Array.replicate (fn.ntmps-args.size) undef,defers:=[] } (some t5) .nilIface
 have e5:a1.eval (.tmp t5) = .nilIface:=by
  simp only [a1,Act.eval,Act.put]
  rw [Array.getD_eq_getD_getElem?,Array.getElem?_setIfInBounds_self_of_lt (by simp;omega)]
  rfl
 refine wpS_of_wp (c:=Code.block blk _) (a:=a1) (wp_block (wp_seq (wp_region ?_)))
 have hr3:List.range (#[o3]:Array Oper).size=[0]:=rfl
 rw [hr3]
 simp only [wpOps,List.getElem?_toArray,List.getElem?_cons_zero]
 have hw3:∀ts,Region.wanted o3 (yielded #[o3] ts)=true:=fun ts=>by simp [Region.wanted,hg3]
 rw [if_pos (hw3 _)]
 refine .inl ?_
 have hx3:(execOp a1.eval o3).run P w = .ok (.value (.bool true)) w:=by
  have hq:∀D,(Op.equalIn (D+1) ty .nilIface .nilIface).run P w = .ok true w:=fun D=>by simp [Op.equalIn,run_underlying hty]
  have hq':(Op.equal ty .nilIface .nilIface).run P w = .ok true w:=hq 9999
  have ec:a1.eval (.const .nilIface) = .nilIface:=rfl
  have hgd:(eqGuard .eql ty (.tmp t5) (.const .nilIface) .nilIface .nilIface).run P w = .ok () w:=by rw [eqGuard_nil_constR];rfl
  simp [execOp,h3,e5,ec,hgd,Go.binOp,hq']
 unfold Oper.wp
 rw [hx3]
 simp only [Oper.upon,hd3]
 let a2:Act:=a1.put (some t7) (.bool true)
 have hs1:a1.tmps.size=(args++Array.replicate (fn.ntmps-args.size) undef).size:=by simp [a1,Act.put]
 have e7:a2.eval (.tmp t7) = .bool true:=by
  simp only [a2,Act.eval,Act.put]
  rw [Array.getD_eq_getD_getElem?,Array.getElem?_setIfInBounds_self_of_lt (by rw [hs1];simp;omega)]
  rfl
 show (Code.cond (.tmp t7) (.region r4 #[o4] false) Y).wp P _ a2 w
 refine wp_cond e7 ?_
 rw [if_pos rfl]
 refine wp_region ?_
 have hr4:List.range (#[o4]:Array Oper).size=[0]:=rfl
 rw [hr4]
 simp only [wpOps,List.getElem?_toArray,List.getElem?_cons_zero]
 have hw4:∀ts,Region.wanted o4 (yielded #[o4] ts)=true:=fun ts=>by simp [Region.wanted,hg4]
 rw [if_pos (hw4 _)]
 refine .inl ?_
 have hx4:(execOp a2.eval o4).run P w = .ok (.value (a2.eval (.tmp t5))) w:=by simp [execOp,h4]
 unfold Oper.wp
 rw [hx4]
 simp only [Oper.upon,hd4]
 refine ⟨rfl, .returning,?_, .tuple #[],?_,rfl,rfl,_,rfl⟩
 ·cases c₀;simp only at hu;subst hu;rfl
 ·rw [results_eq,hres]
  simp
end
end Go.Vm
namespace Go.Vm
open Go
section
variable {C:Cx} {N:Ann} {G:FuncId→List AV→List HO→Res} {nt:NT} {R:Res}
theorem leaves_marks {fn:Func} {R':Ending→World→Prop} {g0:Gh} {w0:World} {f:Fr} {s:St} {tmps:Array Value} {n:Nat} :
  ∀(Ds:List Nat) (g:Gh) (w:World),Ds.Nodup→(∀D∈Ds,Coll w0 g w D)→Rel C (NT.of n) g0 w0 g w f s { tmps,defers:=[] } →
   (∀g w,Rel C (NT.of n) g0 w0 g w f s { tmps,defers:=[] } → ∃v,(results fn tmps).run C.P w = .ok v w∧R' (.returned v) w) →
   LeavesInM (FR none) 0 C.P fn tmps R' (Ds.map fun D => { target := .collected D,args := #[] }) .returning w
 | [],g,w,_,_,r,hfin=>by
  obtain ⟨v,h1,h2⟩:=hfin g w r
  exact ⟨v,h1,h2⟩
 | D::Ds,g,w,hn,hc,r,hfin=>by
  obtain ⟨c1,c2,c3,c4⟩:=hc D List.mem_cons_self
  have hn2:=List.nodup_cons.1 hn
  refine ⟨by simp, .inl ⟨D,_,rfl,run_takeDeferred c2,?_⟩⟩
  have r2:=r.quietB rfl (put_chg (g:=g) c2 rfl (o' := .deferred none) rfl) rfl (fun b e=>by cases e;exact ⟨c3,c1⟩) fun b i x=>by simpa using r.core.wf b i x
  refine leaves_marks Ds g _ hn2.2 (fun D' hD => ?_) r2 hfin
  obtain ⟨d1,d2,d3,d4⟩:=hc D' (List.mem_cons_of_mem _ hD)
  exact ⟨d1,by rw [World.putObj_heap_other (fun e=>hn2.1 (by rw [←e];exact hD))];exact d2,d3,d4⟩
theorem Rel.plain {g0 g:Gh} {w0 w:World} {f:Fr} {s:St} {a:Act} {n:Nat} (r:Rel C (NT.ofm n true) g0 w0 g w f s a):Rel C (NT.of n) { g0 with df:=[] } w0 g w f s { tmps:=a.tmps,defers:=[] } := by
 have h:=r.ext
 exact ⟨⟨⟨h.later.n,h.later.ix,h.later.st,h.later.cell,h.later.nf⟩,h.size,h.blk,h.ow,h.st,h.os,h.tape,h.out⟩,r.core,r.env,r.glob,rfl,r.sz,fun t ht=>by simp [NT.ofm] at ht⟩
theorem sound_rf (hC:OkC C) (hG:∀j,Sound C j (G j)) {f:FuncId} {fn:Func} {c:Code} (hf:C.P.funcs[f]? = some fn) (hb:fn.body=some c) (hname:fn.name ≠ "runtime.NumGoroutine") (hok:codeOK (NT.ofm fn.ntmps true) c=true)
  (hlen:fn.results.size=fn.resultTypes.size) (hdrop:N.drop=C.pure f) (heat:N.eat=none) (hceat:C.eats f=none) (hfresh:N.fresh=C.fresh f) (hfp:C.fresh f=none∨(C.pure f=true∧fn.results.size=1)):Sound C f (noPan1 (semF C N fn G)):=by
 have hcall:Callable C.P f:=⟨fn,hf,by rw [hb];rfl,hname⟩
 have body:∀(as:List AV) (h:List HO) (R:Res),R ≠ .stuck→noPan1 (semF C N fn G) as h=R →
   aC C N (stdAlg C.pure (noPan G)) (stdAlg C.pure G) c (resK (stdAlg C.pure G) C N fn) (fun _ _=>Res.stuck) (resK (stdAlg C.pure G) C N fn) (initSt as h)=R∧∀v h,R ≠ .pan v h:=by
  intro as h R hR hr
  have hr2:semF C N fn G as h=R∧∀v h,R ≠ .pan v h:=by
   unfold noPan1 at hr
   split at hr
   ·exact absurd hr.symm hR
   ·rename_i hnp
    subst hr
    exact ⟨rfl,fun v h e=>hnp v h e⟩
  refine ⟨?_,hr2.2⟩
  have hr:=hr2.1
  unfold semF aF at hr
  rw [hb,heat] at hr
  exact hr
 have key:∀(g:Gh) (w:World) (as:List AV) (vals:List Value) (h:List HO) (R:Res) (R':Ending→World→Prop),R ≠ .stuck→noPan1 (semF C N fn G) as h=R→HeapR g w h→VT g w as vals→Wf g w→GlobR C g w →
   (∀g' w' f' s' a',Rel C (NT.of fn.ntmps) g.fr0 w g' w' f' s' a'→resK (stdAlg C.pure G) C N fn s'=R→∃v,(results fn a'.tmps).run C.P w' = .ok v w'∧R' (.returned v) w')→Calls C.P f vals.toArray w R':=by
  intro g w as vals h R R' hR hr hh hv hwf hgl hfin
  obtain ⟨hb1,hnp⟩:=body as h R hR hr
  have hrel:=init_rel (C:=C) (n:=fn.ntmps) (b:=true) hh hv hwf hgl
  have lv:∀g' w' f' s' a',Rel C (NT.ofm fn.ntmps true) g.fr0 w g' w' f' s' a'→resK (stdAlg C.pure G) C N fn s'=R→LeavesInM (FR none) 0 C.P fn a'.tmps R' a'.defers .returning w':=by
   intro g' w' f' s' a' r hk
   obtain ⟨Ds,h1,h2,h3⟩:=r.dfr
   have h1':a'.defers=Ds.map fun D => { target := .collected D,args := #[] } := by rw [h1];simp [Gh.fr0]
   rw [h1']
   exact leaves_marks Ds g' w' h2 h3 r.plain fun g2 w2 r2=>hfin g2 w2 f' s' { tmps:=a'.tmps,defers:=[] } r2 hk
  refine callsIn_wide.1 ((?_:CallsIn (FR none) 0 C.P f vals.toArray w R'))
  refine callsIn_of_wp_marks (F:=FR none) (n:=0) (P:=C.P) (args:=vals.toArray) (w:=w) (R:=R') hf hb trivial ?_
  exact code_sound c none hC hR hG hok (.inl rfl) (.inr hnp) lv (fun id g' w' f' s' a' r h=>absurd h.symm hR) lv (fun v h=>hnp v h) g w _ _ _ hrel hb1
 unfold Sound
 split
 ·rename_i hp
  refine ⟨?_,fun e he=>by rw [hceat] at he;cases he⟩
  intro g w as vals R hr hR hnp hn0 hv hwf hgl how
  have hh:HeapR g w []:=⟨by rw [hn0];rfl,fun id hid=>by omega,fun id cs hc=>by simp at hc,fun id es hc=>by simp at hc,fun id t n xs hc=>by simp at hc⟩
  refine ⟨hcall,key g w as vals [] R _ hR hr hh hv hwf hgl ?_⟩
  have chgF:∀{g':Gh} {w':World},Chg (fun b=>g.ow b≠none) g w g' w'→Chg (fun _=>False) g w g' w':=fun h=>h.mono fun b _ hB=>hB (how b)
  intro g' w' f' s' a' r h
  cases hfe:C.fresh f with
  | none=>
   obtain ⟨v,u,g2,k1,k2,k3,k4,k5,k6⟩:=end_plain hR (by rw [hfresh,hfe]) hlen r h
   exact ⟨u,k1,v,_,g2,k6,chgF (fr0_chg k2),k5,k4⟩
  | some e=>
   have h1:=(hfp.resolve_left (by rw [hfe];simp)).2
   obtain ⟨v,u,h',k1,k2,k3⟩:=end_fresh (g0:=g.fr0) hR (by rw [hfresh,hfe]) heat hlen h1 how r h
   exact ⟨u,k1,v,h',g',k3,chgF (fr0_chg r.ext),r.core.wf,k2⟩
 ·rename_i hp
  intro g w as vals h R hr hR hh hv hwf hgl how
  have hnf:C.fresh f=none:=hfp.resolve_right fun h=>hp h.1
  refine ⟨hcall,key g w as vals h R _ hR hr hh hv hwf hgl ?_⟩
  intro g' w' f' s' a' r hk
  obtain ⟨v,u,g2,k1,k2,k3,k4,k5,k6⟩:=end_plain hR (by rw [hfresh,hnf]) hlen r hk
  have:N.drop=false:=by rw [hdrop];simpa using hp
  rw [this] at k6
  exact ⟨u,k1,v,_,g2,k6,fr0_chg k2,k3,k4,k5⟩
end
end Go.Vm
namespace Go.Vm
open Go
def opN:Code→Nat→Oper
 | .region _ ops _,k=>ops.getD k default
 | _,_=>default
def cdN (o:Oper):Call:=match o.op with
 | .defer c=>c
 | .call c=>c
 | _=>default
def IsO (o:Oper) (op:Op) (d:Nat):Prop:=o.op=op∧o.dst=some d∧o.guard=none
section
variable {P:Program} {o:Oper} {a:Act} {w:World}
theorem run_int2 {ti tt:TypeId} {op:BinOp} {X Y:Operand} {m n:Int} (ho:o.op = .binOp op ti X Y tt) (hop:op = .add∨op = .sub∨op = .lss) (hx:a.eval X = .int .i64 m) (hy:a.eval Y = .int .i64 n) :
  (execOp a.eval o).run P w = .ok (.value (match op with
   | .add => .int .i64 (IntKind.i64.wrap (m+n))
   | .sub => .int .i64 (IntKind.i64.wrap (m-n))
   | _ => .bool (decide (m<n)))) w:=by
 rcases hop with rfl | rfl | rfl<;>simp [execOp,ho,hx,hy,eqGuard,Go.binOp,Op.intArith,Op.intCmp]
theorem run_max1 {c:Call} {x:Nat} {m:Int} (ho:o.op = .call c) (hc:c.callee = .builtin .max) (ha:c.args = #[.tmp x, .const (.int .i64 1)]) (hx:a.eval (.tmp x) = .int .i64 m) :
  (execOp a.eval o).run P w = .ok (.value (.int .i64 (if 1>m then 1 else m))) w:=by
 have e:a.eval (.const (.int .i64 1)) = .int .i64 1:=rfl
 simp [execOp,ho,resolve,hc,invoke,Go.builtin,ha,hx,e,Builtin.max_,Builtin.max2]
theorem run_mv {x:Operand} {v:Value} (ho:o.op = .move x∨o.op = .assign x) (hx:a.eval x=v):(execOp a.eval o).run P w = .ok (.value v) w:=by
 subst hx
 rcases ho with ho | ho<;>simp [execOp,ho]
theorem run_lenS {c:Call} {x:Nat} {ts te:TypeId} {ad:Option Addr} {len cap:Nat} (ho:o.op = .call c) (hc:c.callee = .builtin .len) (ha:c.args = #[.tmp x]) (ht:c.argTypes = #[ts]) (hu:P.underlying ts=some (.slice te)) (hx:a.eval (.tmp x) = .slice ad len cap) :
  (execOp a.eval o).run P w = .ok (.value (.int .i64 len)) w:=by
 simp [execOp,ho,resolve,hc,invoke,Go.builtin,ha,ht,hx,Builtin.len_,run_underlying hu,goInt]
theorem run_not {x:Nat} {tb:TypeId} {b:Bool} (ho:o.op = .unOp .not tb (.tmp x)) (hx:a.eval (.tmp x) = .bool b):(execOp a.eval o).run P w = .ok (.value (.bool (!b))) w:=by
 simp [execOp,ho,hx,Op.unary]
theorem run_ld {t:TypeId} {x:Operand} {b off:Nat} {v:Value} (ho:o.op = .load t x) (hx:a.eval x = .pointer (some ⟨b,off,none⟩))
  (h:(loadVar t ⟨b,off,none⟩).run P w = .ok v w):(execOp a.eval o).run P w = .ok (.value v) w:=by
 simp [execOp,ho,Instr.loadAt,Instr.sureAddr,hx,h]
theorem run_idx {t e:TypeId} {x y:Operand} {b o' len cap n:Nat} (ho:o.op = .indexAddr t x y) (hu:P.underlying t=some (.slice e)) (hz:szT P e≠0)
  (hx:a.eval x = .slice (some ⟨b,o',none⟩) len cap) (hy:a.eval y = .int .i64 n) (h2:n<len) :
  (execOp a.eval o).run P w = .ok (.value (.pointer (some ⟨b,o'+n*szT P e,none⟩))) w:=by
 have h2':(n:Int)<(len:Int):=by omega
 simp [execOp,ho,Instr.indexAt,hy,hx,asIntOf,run_underlying hu,h2,run_sz (P:=P) (.inr hz),add_off]
theorem ops_val {ro:Option Nat} {n:Nat} {ops:Array Oper} {Q:Exit→Act→World→Prop} {i:Nat} {rest:List Nat} {v:Value} {op:Op} {d:Nat} (hi:ops[i]? = some o) (ho:IsO o op d) (hnd:∀c,op ≠ .defer c)
  (hx:(execOp a.eval o).run P w = .ok (.value v) w) (h:wpOpsIn (FR ro) n P ops Q rest (a.put (some d) v) w):wpOpsIn (FR ro) n P ops Q (i::rest) a w:=by
 simp only [wpOpsIn,hi]
 rw [if_pos (by simp [Region.wanted,ho.2.2])]
 refine ⟨fun _ _=>trivial,?_⟩
 rw [Oper.semAt_eq _ _ _ (by rw [ho.1];exact hnd),hx]
 simp only [Oper.uponIn,ho.2.1]
 exact h
theorem ev_put {d t:Nat} {v:Value} (hd:d<a.tmps.size):(a.put (some d) v).eval (.tmp t)=if t=d then v else a.eval (.tmp t):=by
 have:=getD_put (a:=a) (u:=v) t hd
 simpa [Act.eval,Array.getD_eq_getD_getElem?] using this
theorem sz_put {d:Nat} {v:Value} : (a.put (some d) v).tmps.size=a.tmps.size:=by simp [Act.put]
end
def eachL (from_:Int) (xs:List (List AV)):List (List AV):=
 ((List.range xs.length).map fun (j:Nat)=>[AV.I .i64 ((j:Int)+1),AV.A (xs.getD j [])]).drop (max from_ 1-1).toNat
section
variable {P:Program} {f:FuncId} {fn:Func} {ti ts te tb tf:TypeId}
structure EachCode (P:Program) (fn:Func) (ti ts te:TypeId):Prop where
 hti:okT P ti=true
 ati:aggT P ti=false
 hts:okT P ts=true
 ats:aggT P ts=false
 uts:P.underlying ts=some (.slice te)
 hte:okT P te=true
 ate:aggT P te=true
 zte:szT P te≠0
 nt:23≤fn.ntmps
 res:fn.results = #[]
 np:fn.name ≠ "runtime.NumGoroutine"
 body:∃(r0 r1 r2 r3 b0 b1:Nat) (o0 o1 o2 o3 p0 p1 p2 p3 q0 q1 q2 q3 q4 q5 q6 q7 q8 s0 s1 s2:Oper) (t1 t2 t3 t4 t5 t6:TypeId) (c1 c2 c3:Call),
  fn.body=some (.seq (.region r0 #[o0,o1,o2,o3] false) (.block b0 (.loop (.seq (.seq (.region r1 #[p0,p1,p2,p3] false) (.cond (.tmp 11) .skip (.exit b0)))
   (.seq (.block b1 (.seq (.region r3 #[q0,q1,q2,q3,q4,q5,q6,q7,q8] false) (.cond (.tmp 22) .ret .skip))) (.region r2 #[s0,s1,s2] false)))))) ∧
  IsO o0 (.load ti (.tmp 1)) 5∧IsO o1 (.call c1) 6∧IsO o2 (.binOp .sub ti (.tmp 6) (.const (.int .i64 1)) t1) 7∧IsO o3 (.assign (.tmp 7)) 4 ∧
  (c1.callee = .builtin .max∧c1.args = #[.tmp 5, .const (.int .i64 1)]) ∧
  IsO p0 (.move (.tmp 4)) 8∧IsO p1 (.load ts (.tmp 2)) 9∧IsO p2 (.call c2) 10∧IsO p3 (.binOp .lss ti (.tmp 8) (.tmp 10) t2) 11 ∧
  (c2.callee = .builtin .len∧c2.args = #[.tmp 9]∧c2.argTypes = #[ts]) ∧
  IsO q0 (.move (.tmp 0)) 14∧IsO q1 (.move (.tmp 4)) 15∧IsO q2 (.binOp .add ti (.tmp 15) (.const (.int .i64 1)) t3) 16∧IsO q3 (.load ts (.tmp 2)) 17∧IsO q4 (.move (.tmp 4)) 18∧IsO q5 (.indexAddr ts (.tmp 17) (.tmp 18)) 19∧IsO q6 (.load te (.tmp 19)) 20 ∧
  IsO q7 (.call c3) 21∧IsO q8 (.unOp .not t4 (.tmp 21)) 22 ∧
  (c3.callee = .value (.tmp 14)∧c3.args = #[.tmp 16, .tmp 20]) ∧
  IsO s0 (.move (.tmp 4)) 12∧IsO s1 (.binOp .add ti (.tmp 12) (.const (.int .i64 1)) t5) 13∧IsO s2 (.assign (.tmp 13)) 4
theorem ev_put23 {a:Act} {d t:Nat} {v:Value} (hs:23≤a.tmps.size) (hd:d<23):(a.put (some d) v).eval (.tmp t)=if t=d then v else a.eval (.tmp t):=ev_put (by omega)
theorem df_put {a:Act} {d:Nat} {v:Value} : (a.put (some d) v).defers=a.defers:=rfl
theorem ops_v {P:Program} {o:Oper} {a:Act} {w:World} {ro:Option Nat} {n:Nat} {ops:Array Oper} {Q:Exit→Act→World→Prop} {i:Nat} {rest:List Nat} (v:Value) {op:Op} {d:Nat} (hs:23≤a.tmps.size) (hi:ops[i]? = some o) (ho:IsO o op d) (hd:d<23) (hnd:∀c,op ≠ .defer c)
  (hx:(execOp a.eval o).run P w = .ok (.value v) w) (h:∀a':Act,23≤a'.tmps.size→a'.defers=a.defers→(∀t,a'.eval (.tmp t)=if t=d then v else a.eval (.tmp t))→wpOpsIn (FR ro) n P ops Q rest a' w):wpOpsIn (FR ro) n P ops Q (i::rest) a w:=
 ops_val hi ho hnd hx (h _ (by rw [sz_put];exact hs) rfl fun t=>ev_put23 hs hd)
theorem ops_round {P:Program} {o:Oper} {a:Act} {w w1:World} {ops:Array Oper} {Q:Exit→Act→World→Prop} {i:Nat} {rest:List Nat} {op:Op} {d l:Nat} {f:FuncId} {tm:Array Value} {as bo:Code} {R':Ending→World→Prop} (hi:ops[i]? = some o) (ho:IsO o op d) (hnd:∀c,op ≠ .defer c)
  (hx:(execOp a.eval o).run P w = .ok (.round l f tm as bo) w1) (hr:RoundIn Fence.wide 0 P l f tm as bo w1 R') (h:∀e W,R' e W→∃b,e = .returned (.bool b)∧wpOpsIn (FR none) 0 P ops Q rest (a.put (some d) (.bool b)) W):wpOpsIn (FR none) 0 P ops Q (i::rest) a w:=by
 simp only [wpOpsIn,hi]
 rw [if_pos (by simp [Region.wanted,ho.2.2])]
 refine ⟨fun _ _=>trivial,?_⟩
 rw [Oper.semAt_eq _ _ _ (by rw [ho.1];exact hnd),hx]
 refine ⟨fun h=>by simp [FR,Fence.wide] at h,hr.mono ?_⟩
 intro e W hR
 obtain ⟨b,rfl,h2⟩:=h e W hR
 simp only [ho.2.1]
 exact h2
theorem VC_st {g:Gh} {w:World} {b:Nat} : ∀(cs:List AV) (o:Nat),VC g w b o cs→∀i,i<cs.length→g.st b (o+i)
 | [],_,_,i,h=>by simp at h
 | c::cs,o,h,0,_=>by simp only [VC] at h;exact h.1
 | c::cs,o,h,i+1,hi=>by
  simp only [VC] at h
  have:=VC_st cs (o+1) h.2.2 i (by simpa using hi)
  rwa [show o+(i+1)=o+1+i by omega]
theorem eachL_length (from_:Int) (xs:List (List AV)):(eachL from_ xs).length=xs.length-(max from_ 1-1).toNat:=by simp [eachL]
theorem eachL_get {from_:Int} {xs:List (List AV)} {j:Nat} (h:(max from_ 1-1).toNat+j<xs.length) :
  (eachL from_ xs)[j]? = some [AV.I .i64 ((((max from_ 1-1).toNat+j:Nat):Int)+1),AV.A (xs.getD ((max from_ 1-1).toNat+j) [])]:=by
 rw [eachL,List.getElem?_drop,List.getElem?_map,List.getElem?_range h]
 rfl
theorem each_iter (hf:P.funcs[f]? = some fn) (hc:EachCode P fn ti ts te) {from_:Int} (hfr:from_≤9223372036854775807) {xs:List (List AV)} : IterC P f [.Q [.I .i64 from_], .Q [.L (szT P te) xs]] (eachL from_ xs):=by
 intro g w vals hv l J Jx hlat hy gj0 hJ0
 simp only [VT] at hv
 obtain ⟨v1,vs1,rfl,hv1,v2,vs2,rfl,hv2,rfl⟩:=hv
 simp only [V,VC] at hv1 hv2
 obtain ⟨b1,o1',rfl,⟨hst1,⟨u1,hcell1,⟨rfl,_,_⟩,_⟩,_⟩,_⟩:=hv1
 obtain ⟨b2,o2',rfl,⟨hst2,⟨u2,hcell2,⟨ad,len,cap,rfl,rfl,⟨hlc,hl63⟩,hrows⟩,_⟩,_⟩,_⟩:=hv2
 obtain ⟨st,hst⟩:∃st:Nat,st=(max from_ 1-1).toNat:=⟨_,rfl⟩
 have hsti:(max from_ 1-1:Int)=(st:Int):=by omega
 obtain ⟨r0,r1,r2,r3,k0,k1,o0,o1,o2,o3,p0,p1,p2,p3,q0,q1,q2,q3,q4,q5,q6,q7,q8,s0,s1,s2,t1,t2,t3,t4,t5,t6,c1,c2,c3,hb,io0,io1,io2,io3,hc1,ip0,ip1,ip2,ip3,hc2,iq0,iq1,iq2,iq3,iq4,iq5,iq6,iq7,iq8,hc3,is0,is1,is2⟩:=hc.body
 refine callsIn_wide.1 ((?_:CallsIn (FR none) 0 P f _ w _))
 refine callsIn_of_wp (F:=FR none) (n:=0) hf hb trivial ?_
 have cells:∀i gj W,J i gj W→W.cell? ⟨b1,o1',none⟩=some (.int .i64 from_)∧W.cell? ⟨b2,o2',none⟩=some (.slice ad xs.length cap):=by
  intro i gj W hJ
  have hl:=(hlat i gj W hJ).1
  exact ⟨(hl.cell _ _ hst1).trans hcell1,(hl.cell _ _ hst2).trans hcell2⟩
 let At:=fun (a:Act)=>23≤a.tmps.size∧a.defers=[]∧a.eval (.tmp 0) = .func (.yield l) #[] #[]∧a.eval (.tmp 1) = .pointer (some ⟨b1,o1',none⟩)∧a.eval (.tmp 2) = .pointer (some ⟨b2,o2',none⟩)
 obtain ⟨a0,ha0⟩:∃a0:Act,a0 = { tmps := #[Value.func (.yield l) #[] #[]]++[Value.pointer (some ⟨b1,o1',none⟩),Value.pointer (some ⟨b2,o2',none⟩)].toArray++Array.replicate (fn.ntmps-(#[Value.func (.yield l) #[] #[]]++[Value.pointer (some ⟨b1,o1',none⟩),Value.pointer (some ⟨b2,o2',none⟩)].toArray).size) undef,defers:=[] } := ⟨_,rfl⟩
 have hA0:At a0:=by
  have hn:=hc.nt
  subst ha0
  refine ⟨by simp;omega,rfl,?_,?_,?_⟩<;>(simp only [Act.eval,Array.getD_eq_getD_getElem?];rw [Array.getElem?_append_left (by simp)];rfl)
 rw [←ha0]
 clear ha0
 have done:∀a W,a.defers=[]→((∃g2,J (eachL from_ xs).length g2 W)∨Jx W)→bodyPost P fn (fun e W'=>(∃v,e = .returned v)∧((∃g2,J (eachL from_ xs).length g2 W')∨Jx W')) .ret a W:=by
  intro a W hd h
  refine ⟨hd, .tuple #[],?_,⟨_,rfl⟩,h⟩
  rw [results_eq,hc.res]
  simp
 obtain ⟨h01,h02,h03,h04,h05⟩:=hA0
 have hw0:IntKind.i64.wrap ((if 1>from_ then 1 else from_)-1)=(st:Int):=by
  have e:(if 1>from_ then 1 else from_)=max from_ 1:=by split<;>omega
  rw [e,hsti,IntKind.wrap_i64];omega
 refine wpIn_seq (wpIn_region ?_)
 show wpOpsIn (FR none) 0 P _ _ [0,1,2,3] a0 w
 have hcc:=cells 0 gj0 w hJ0
 refine ops_v (o:=o0) (.int .i64 from_) h01 rfl io0 (by omega) (by simp) (run_ld io0.1 h04 (run_loadVar_one hc.hti hc.ati hcc.1)) fun a1 z1 f1 e1 => ?_
 refine ops_v (o:=o1) (.int .i64 (if 1>from_ then 1 else from_)) z1 rfl io1 (by omega) (by simp) (run_max1 (m:=from_) io1.1 hc1.1 hc1.2 (by simp [e1])) fun a2 z2 f2 e2 => ?_
 refine ops_v (o:=o2) (.int .i64 (st:Int)) z2 rfl io2 (by omega) (by simp) (by rw [←hw0];exact run_int2 (m:=if 1>from_ then 1 else from_) (n:=1) io2.1 (.inr (.inl rfl)) (by simp [e2]) rfl) fun a3 z3 f3 e3 => ?_
 refine ops_v (o:=o3) (.int .i64 (st:Int)) z3 rfl io3 (by omega) (by simp) (run_mv (.inr io3.1) (by simp [e3])) fun aL z4 f4 e4 => ?_
 have hAL:At aL∧aL.eval (.tmp 4) = .int .i64 (st:Int):=by
  refine ⟨⟨z4,by rw [f4,f3,f2,f1,h02],?_,?_,?_⟩,?_⟩<;>simp [e1,e2,e3,e4,h03,h04,h05]
 clear e1 e2 e3 e4 f1 f2 f3 f4 z1 z2 z3 z4
 refine wpIn_block (wpIn_loop_rounds (xs.length+1) ?_)
 have round:∀(j:Nat) (a:Act) (gj:Gh) (W:World) (K:Act→World→Prop),j≤(eachL from_ xs).length→At a→a.eval (.tmp 4) = .int .i64 ((st+j:Nat):Int)→J j gj W →
   (st+j<xs.length→∀a gj W,At a→a.eval (.tmp 4) = .int .i64 ((st+(j+1):Nat):Int)→J (j+1) gj W→K a W) →
   (Code.seq (.seq (.region r1 #[p0,p1,p2,p3] false) (.cond (.tmp 11) .skip (.exit k0)))
    (.seq (.block k1 (.seq (.region r3 #[q0,q1,q2,q3,q4,q5,q6,q7,q8] false) (.cond (.tmp 22) .ret .skip))) (.region r2 #[s0,s1,s2] false))).wpIn (FR none) 0 P
    (Exit.then K (Exit.inBlock k0 (bodyPost P fn (fun e W'=>(∃v,e = .returned v)∧((∃g2,J (eachL from_ xs).length g2 W')∨Jx W'))))) a W:=by
  intro j a gj W K hj ⟨a1,a2,a3,a4,a5⟩ a6 hJ hnext
  have hcc:=cells j gj W hJ
  refine wpIn_seq (wpIn_seq (wpIn_region ?_))
  show wpOpsIn (FR none) 0 P _ _ [0,1,2,3] a W
  refine ops_v (o:=p0) (.int .i64 ((st+j:Nat):Int)) a1 rfl ip0 (by omega) (by simp) (run_mv (.inl ip0.1) a6) fun x1 z1 f1 e1 => ?_
  refine ops_v (o:=p1) (.slice ad xs.length cap) z1 rfl ip1 (by omega) (by simp) (run_ld (b:=b2) (off:=o2') ip1.1 (by simp [e1,a5]) (run_loadVar_one hc.hts hc.ats hcc.2)) fun x2 z2 f2 e2 => ?_
  refine ops_v (o:=p2) (.int .i64 xs.length) z2 rfl ip2 (by omega) (by simp) (run_lenS (ad:=ad) (len:=xs.length) (cap:=cap) ip2.1 hc2.1 hc2.2.1 hc2.2.2 hc.uts (by simp [e2])) fun x3 z3 f3 e3 => ?_
  refine ops_v (o:=p3) (.bool (decide (((st+j:Nat):Int)<(xs.length:Int)))) z3 rfl ip3 (by omega) (by simp) (run_int2 (m:=((st+j:Nat):Int)) (n:=(xs.length:Int)) ip3.1 (.inr (.inr rfl)) (by simp [e3,e2,e1]) (by simp [e3])) fun aB z4 f4 e4 => ?_
  have hAB:At aB∧aB.eval (.tmp 4) = .int .i64 ((st+j:Nat):Int)∧aB.eval (.tmp 11) = .bool (decide (((st+j:Nat):Int)<(xs.length:Int))):=by
   refine ⟨⟨z4,by rw [f4,f3,f2,f1,a2],?_,?_,?_⟩,?_,?_⟩<;>simp [e1,e2,e3,e4,a3,a4,a5,a6]
  clear e1 e2 e3 e4 f1 f2 f3 f4 z1 z2 z3 z4
  obtain ⟨⟨b1',b2',b3,b4,b5⟩,b6,b7⟩:=hAB
  by_cases hlt:st+j<xs.length
  ·refine wpIn_cond_true (by rw [b7];simp;omega) (wpIn_skip ?_)
   have hrow:=hrows
   rcases hrow with rfl | ⟨bb,oo,rfl,hrow⟩
   ·simp at hlt
   have hrw:=VR_get (st+j) xs oo hrow hlt
   obtain ⟨cv,hcv1,hcv2,hcv3⟩:=VC_vals _ _ hrw.1
   have hlW:=(hlat j gj W hJ).1
   have hcvW:∀i v,cv[i]? = some v→W.cell? ⟨bb,oo+(st+j)*szT P te+i,none⟩=some v:=by
    intro i v hi
    have hst':g.st bb (oo+(st+j)*szT P te+i):=by
     have hil:i<(xs.getD (st+j) []).length:=by rw [←hcv1];exact (List.getElem?_eq_some_iff.1 hi).1
     exact VC_st _ _ hrw.1 i hil
    exact (hlW.cell _ _ hst').trans (hcv2 i v hi)
   have hw1:IntKind.i64.wrap (((st+j:Nat):Int)+1)=((st+j:Nat):Int)+1:=by rw [IntKind.wrap_i64];omega
   refine wpIn_seq (wpIn_block (wpIn_seq (wpIn_region ?_)))
   show wpOpsIn (FR none) 0 P _ _ [0,1,2,3,4,5,6,7,8] aB W
   refine ops_v (o:=q0) (.func (.yield l) #[] #[]) b1' rfl iq0 (by omega) (by simp) (run_mv (.inl iq0.1) b3) fun x1 z1 f1 e1 => ?_
   refine ops_v (o:=q1) (.int .i64 ((st+j:Nat):Int)) z1 rfl iq1 (by omega) (by simp) (run_mv (.inl iq1.1) (by simp [e1,b6])) fun x2 z2 f2 e2 => ?_
   refine ops_v (o:=q2) (.int .i64 (((st+j:Nat):Int)+1)) z2 rfl iq2 (by omega) (by simp) (by rw [←hw1];exact run_int2 (m:=((st+j:Nat):Int)) (n:=1) iq2.1 (.inl rfl) (by simp [e2]) rfl) fun x3 z3 f3 e3 => ?_
   refine ops_v (o:=q3) (.slice (some ⟨bb,oo,none⟩) xs.length cap) z3 rfl iq3 (by omega) (by simp) (run_ld (b:=b2) (off:=o2') iq3.1 (by simp [e3,e2,e1,b5]) (run_loadVar_one hc.hts hc.ats hcc.2)) fun x4 z4 f4 e4 => ?_
   refine ops_v (o:=q4) (.int .i64 ((st+j:Nat):Int)) z4 rfl iq4 (by omega) (by simp) (run_mv (.inl iq4.1) (by simp [e4,e3,e2,e1,b6])) fun x5 z5 f5 e5 => ?_
   refine ops_v (o:=q5) (.pointer (some ⟨bb,oo+(st+j)*szT P te,none⟩)) z5 rfl iq5 (by omega) (by simp) (run_idx (b:=bb) (o':=oo) (len:=xs.length) (cap:=cap) (n:=st+j) iq5.1 hc.uts hc.zte (by simp [e5,e4]) (by simp [e5]) hlt) fun x6 z6 f6 e6 => ?_
   refine ops_v (o:=q6) (.agg cv.toArray) z6 rfl iq6 (by omega) (by simp) (run_ld (b:=bb) (off:=oo+(st+j)*szT P te) iq6.1 (by simp [e6]) (run_loadVar_agg hc.hte hc.ate (hcv1.trans hrw.2) hcvW)) fun aY z7 f7 e7 => ?_
   have hAY:At aY∧aY.eval (.tmp 4) = .int .i64 ((st+j:Nat):Int)∧aY.eval (.tmp 14) = .func (.yield l) #[] #[]∧aY.eval (.tmp 16) = .int .i64 (((st+j:Nat):Int)+1)∧aY.eval (.tmp 20) = .agg cv.toArray:=by
    refine ⟨⟨z7,by rw [f7,f6,f5,f4,f3,f2,f1,b2'],?_,?_,?_⟩,?_,?_,?_,?_⟩<;>simp [e1,e2,e3,e4,e5,e6,e7,b3,b4,b5,b6]
   clear e1 e2 e3 e4 e5 e6 e7 f1 f2 f3 f4 f5 f6 f7 z1 z2 z3 z4 z5 z6 z7
   obtain ⟨⟨d1,d2,d3,d4,d5⟩,d6,d7,d8,d9⟩:=hAY
   have hjl:j<(eachL from_ xs).length:=by rw [eachL_length,←hst];omega
   have hget:(eachL from_ xs)[j]? = some [AV.I .i64 (((st+j:Nat):Int)+1),AV.A (xs.getD (st+j) [])]:=by
    have:=eachL_get (from_:=from_) (xs:=xs) (j:=j) (by rw [←hst];exact hlt)
    rw [←hst] at this
    exact this
   obtain ⟨fn2,tm2,as2,bo2,hyr,hround⟩:=hy j _ [.int .i64 (((st+j:Nat):Int)+1), .agg cv.toArray] gj W hget hJ (by
    simp only [VT]
    refine ⟨_,_,rfl,V_I gj W ?_,_,_,rfl,?_,rfl⟩
    ·have:=i64_range (n:=st+j+1) (by omega)
     simpa using this
    ·simp only [V]
     exact ⟨cv,rfl,VS.later hlW _ _ hcv3⟩)
   have hrun:(execOp aY.eval q7).run P W = .ok (.round l fn2 tm2 as2 bo2) W:=by
    have e : #[aY.eval (.tmp 16),aY.eval (.tmp 20)]=[.int .i64 (((st+j:Nat):Int)+1), .agg cv.toArray].toArray:=by rw [d8,d9]
    simp only [execOp,iq7.1,resolve,hc3.1,hc3.2]
    simpa [d7,d8,d9,Deferred.ofValue,invoke] using hyr
   refine ops_round (o:=q7) rfl iq7 (by simp) hrun hround ?_
   rintro e W' (⟨rfl,gj',hJ'⟩ | ⟨rfl,hJx⟩)
   ·refine ⟨_,rfl,?_⟩
    have e1:∀t,(aY.put (some 21) (.bool true)).eval (.tmp t)=if t=21 then .bool true else aY.eval (.tmp t):=fun t=>ev_put23 d1 (by omega)
    refine ops_v (o:=q8) (.bool false) (by rw [sz_put];exact d1) rfl iq8 (by omega) (by simp) (run_not (b:=true) iq8.1 (by simp [e1])) fun x2 z2 f2 e2 => ?_
    refine wpIn_cond_false (by simp [e2]) (wpIn_skip ?_)
    show Code.wpIn (FR none) 0 P (.region r2 #[s0,s1,s2] false) _ x2 W'
    refine wpIn_region ?_
    show wpOpsIn (FR none) 0 P _ _ [0,1,2] x2 W'
    have hw1:IntKind.i64.wrap (((st+j:Nat):Int)+1)=((st+j:Nat):Int)+1:=by rw [IntKind.wrap_i64];omega
    refine ops_v (o:=s0) (.int .i64 ((st+j:Nat):Int)) z2 rfl is0 (by omega) (by simp) (run_mv (.inl is0.1) (by simp [e2,e1,d6])) fun x3 z3 f3 e3 => ?_
    refine ops_v (o:=s1) (.int .i64 (((st+j:Nat):Int)+1)) z3 rfl is1 (by omega) (by simp) (by rw [←hw1];exact run_int2 (m:=((st+j:Nat):Int)) (n:=1) is1.1 (.inl rfl) (by simp [e3]) rfl) fun x4 z4 f4 e4 => ?_
    refine ops_v (o:=s2) (.int .i64 (((st+j:Nat):Int)+1)) z4 rfl is2 (by omega) (by simp) (run_mv (.inr is2.1) (by simp [e4])) fun x5 z5 f5 e5 => ?_
    refine hnext hlt x5 gj' W' ⟨z5,?_,?_,?_,?_⟩ ?_ hJ'
    ·rw [f5,f4,f3,f2];exact d2
    ·simp [e5,e4,e3,e2,e1,d3]
    ·simp [e5,e4,e3,e2,e1,d4]
    ·simp [e5,e4,e3,e2,e1,d5]
    ·simp [e5];omega
   ·refine ⟨_,rfl,?_⟩
    have e1:∀t,(aY.put (some 21) (.bool false)).eval (.tmp t)=if t=21 then .bool false else aY.eval (.tmp t):=fun t=>ev_put23 d1 (by omega)
    refine ops_v (o:=q8) (.bool true) (by rw [sz_put];exact d1) rfl iq8 (by omega) (by simp) (run_not (b:=false) iq8.1 (by simp [e1])) fun x2 z2 f2 e2 => ?_
    refine wpIn_cond_true (by simp [e2]) (wpIn_ret ?_)
    exact done x2 W' (by rw [f2];exact d2) (.inr hJx)
  ·refine wpIn_cond_false (by rw [b7];simp;omega) (wpIn_exit ?_)
   show Exit.inBlock k0 _ (.exit k0) aB W
   simp only [Exit.inBlock,if_true]
   refine done aB W b2' (.inl ⟨gj,?_⟩)
   have:j=(eachL from_ xs).length:=by rw [eachL_length,←hst] at hj ⊢;omega
   rw [←this]
   exact hJ
 have key:∀(m j:Nat) (a:Act) (gj:Gh) (W:World),xs.length<st+j+(m+1)→j≤(eachL from_ xs).length→At a→a.eval (.tmp 4) = .int .i64 ((st+j:Nat):Int)→J j gj W →
   Code.roundsIn (FR none) 0 P (.seq (.seq (.region r1 #[p0,p1,p2,p3] false) (.cond (.tmp 11) .skip (.exit k0)))
    (.seq (.block k1 (.seq (.region r3 #[q0,q1,q2,q3,q4,q5,q6,q7,q8] false) (.cond (.tmp 22) .ret .skip))) (.region r2 #[s0,s1,s2] false)))
    (Exit.inBlock k0 (bodyPost P fn (fun e W'=>(∃v,e = .returned v)∧((∃g2,J (eachL from_ xs).length g2 W')∨Jx W')))) (m+1) a W:=by
  intro m
  induction m with
  | zero=>
   intro j a gj W hm hj hA h4 hJ
   rw [roundsIn_succ]
   refine round j a gj W _ hj hA h4 hJ fun hlt => ?_
   omega
  | succ m ih=>
   intro j a gj W hm hj hA h4 hJ
   rw [roundsIn_succ]
   refine round j a gj W _ hj hA h4 hJ fun hlt a' gj' W' hA' h4' hJ'=>ih (j+1) a' gj' W' (by omega) ?_ hA' h4' hJ'
   rw [eachL_length,←hst]
   omega
 exact key xs.length 0 aL gj0 w (by omega) (Nat.zero_le _) hAL.1 hAL.2 hJ0
def eachI (m:Nat):List AV→Option (List (List AV))
 | [.Q [.I .i64 n], .Q [.L k xs]]=>if k=m∧n≤9223372036854775807 then some (eachL n xs) else none
 | _=>none
theorem eachI_ok (hf:P.funcs[f]? = some fn) (hc:EachCode P fn ti ts te) {m:Nat} (hm:szT P te=m) (cs:List AV) (xs:List (List AV)) (h:eachI m cs=some xs):Callable P f∧IterC P f cs xs:=by
 refine ⟨⟨fn,hf,?_,hc.np⟩,?_⟩
 ·obtain ⟨r0,r1,r2,r3,k0,k1,o0,o1,o2,o3,p0,p1,p2,p3,q0,q1,q2,q3,q4,q5,q6,q7,q8,s0,s1,s2,t1,t2,t3,t4,t5,t6,c1,c2,c3,hb,_⟩:=hc.body
  rw [hb];rfl
 ·unfold eachI at h
  split at h
  ·rename_i n k xs'
   split at h
   ·rename_i hk
    obtain ⟨rfl,hn⟩:=hk
    cases h
    rw [←hm]
    exact each_iter hf hc hn
   ·cases h
  ·cases h
end
end Go.Vm
