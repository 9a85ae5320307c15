/- Part of a proof: Vm, VmStd, Vm1, VmI, Vm2, Vm3, Vm4, Vm5, Vm6. -/
import Derived.Calls
import Derived.Orders
import Derived.Laws.AppendOwn
import Derived.RangeFuncSeq
import Derived.RangeFuncRecord
import Derived.Laws.Closers25b
import Derived.Laws.Strings
set_option linter.unusedSimpArgs false
set_option linter.unusedVariables false
set_option linter.unusedSectionVars false
namespace Go.Vm
open Go
inductive AV where
 | U
 | I (k:IntKind) (n:Int)
 | B (b:Bool)
 | S (s:List UInt8)
 | A (cs:List AV)
 | L (n:Nat) (xs:List (List AV))
 | Y (s:List UInt8)
 | P (id off:Nat)
 | N
 | F (fn:Fn) (fs cs:List AV)
 | F0
 | X (t:TypeId) (v:AV)
 | X0
 | T (vs:List AV)
 | M (id:Nat)
 | M0
 | Q (cs:List AV)
 | W (id:Nat)
 deriving Inhabited
inductive SC where
 | e (t:TypeId) (n:Nat) (xs:List (List AV))
 | y (t:TypeId) (s:List UInt8)
 deriving Inhabited
def SC.toAV:SC→AV
 | .e _ n xs => .L n xs
 | .y _ s => .Y s
def SC.len:SC→Nat
 | .e _ _ xs=>xs.length
 | .y _ s=>s.length
def SC.elem:SC→TypeId
 | .e t _ _=>t
 | .y t _=>t
def SC.isY:SC→Bool
 | .e _ _ _=>false
 | .y _ _=>true
def SC.width:SC→Nat
 | .e _ n _=>n
 | .y _ _=>1
inductive HV where
 | a (v:AV)
 | g (c:SC)
 | z (t:TypeId)
 deriving Inhabited
def HV.toAV:HV→AV
 | .a v=>v
 | .g c=>c.toAV
 | .z _ => .N
def tagZ (t:TypeId):List HV→List HV
 | .a .N::r => .z t::r
 | l=>l
inductive HO where
 | cells (cs:List HV)
 | arr (t:TypeId) (n:Nat) (xs:List (List AV))
 | map (es:List (AV×AV))
 | no
 deriving Inhabited
inductive EV where
 | v (a:AV)
 | nil
 | lp (k ver off:Nat)
 | ls (k ver:Nat)
 | le (k ver i off:Nat)
 | ep (n:Nat) (cs:List AV) (off:Nat)
 | hb (k ver m off:Nat) (x:HV)
 | hh (id off hv:Nat) (x:HV)
 | ag (cs:List HV)
 | un
 | ub
 | lw (k ver off:Nat)
 deriving Inhabited
def EV.pl:EV→EV
 | .ag cs => .v (.A (cs.map HV.toAV))
 | .un => .v .U
 | .ub => .v .U
 | e=>e
inductive LO where
 | no
 | box (m:Nat) (cs:List HV)
 | arr (c:SC) (ex:Bool)
 deriving Inhabited
structure LOv where
 ver:Nat
 lo:LO
 deriving Inhabited
structure St where
 env:Nat→EV
 loc:Nat→LOv
 h:List HO
 hv:Nat→Nat
structure Upd where
 dst:Option EV
 locs:List (Nat×LOv):=[]
 heap:Option (List HO):=none
 dl:List (Nat×HO):=[]
 push:List HO:=[]
inductive Res where
 | ret (v:AV) (h:List HO)
 | pan (v:AV) (h:List HO)
 | upd (u:Upd)
 | stuck
 deriving Inhabited
inductive FK where
 | i | b | s
 deriving DecidableEq,Inhabited
structure Alg (R:Type) where
 stuck:R
 ret:AV→List HO→R
 pan:AV→List HO→R
 chk:Bool→R→R
 ite:Bool→R→R→R
 mI:IntKind→AV→(Int→R)→R
 mN:AV→(Int→R)→R
 mB:AV→(Bool→R)→R
 mS:AV→(List UInt8→R)→R
 mY:AV→(List UInt8→R)→R
 mL:Nat→AV→(List (List AV)→R)→R
 mLen:AV→(Nat→R)→R
 mA:Nat→AV→(List AV→R)→R
 mT:Nat→AV→(List AV→R)→R
 mP:AV→(Nat→Nat→R)→R
 mF:AV→(Fn→List AV→List AV→R)→R
 mX:AV→(TypeId→AV→R)→R
 mGe:TypeId→Nat→HV→(List (List AV)→R)→R
 mGy:TypeId→HV→(List UInt8→R)→R
 mC:List HO→Nat→Nat→(HV→R)→R
 mO:List HO→Nat→(List HV→R)→R
 mW:AV→(Nat→R)→R→R
 ix:Int→Nat→(Nat→R)→R
 eqs:List FK→List AV→List AV→(Bool→R)→R
 isN:AV→(Bool→R)→R
 m1:AV→R→R
 call:FuncId→List AV→List HO→(AV→List HO→R)→R
 pcall:FuncId→List AV→List HO→(AV→R)→R
 dynP:Fn→List AV→List HO→(AV→R)→R
 dynH:Fn→List AV→List HO→(AV→List HO→R)→R
 isF:AV→(Bool→R)→R
 isX:AV→(Bool→R)→R
 both:R→R→R
 ecall:FuncId→List AV→(AV→R)→R
 isM:AV→(Bool→R)→R
 mM:AV→List HO→(Nat→List (AV×AV)→R)→R
 mMl:AV→List HO→(List (AV×AV)→R)→R
 mMd:AV→List HO→(Nat→Bool→List (AV×AV)→R)→R
 fndS:List FK→List AV→List (AV×AV)→(Option AV→R)→R
 fnd:IntKind→Int→List (AV×AV)→(Option AV→R)→R
section types
variable (P:Program)
def und (t:TypeId):TypeDesc:=(P.underlying t).getD .invalid
def szT (t:TypeId):Nat:=((P.info? t).map (·.size)).getD 0
def byT (t:TypeId):Nat:=((P.info? t).map (·.bytes)).getD 0
def aggT (t:TypeId):Bool:=match und P t with | .struct _ | .array _ _=>true | _=>false
def okT (t:TypeId):Bool:=(P.underlying t).isSome
def byteT (e:TypeId):Bool:=match und P e with | .int .u8=>Nat.beq (szT P e) 1 | _=>false
def emptySC (e:TypeId):SC:=if byteT P e then .y e [] else .e e (szT P e) []
def emptyOf (t:TypeId):SC:=match und P t with | .slice e=>emptySC P e | _ => .e 0 0 []
def isSlice (t:TypeId):Bool:=match und P t with | .slice e=>byteT P e||Nat.blt 0 (szT P e) | _=>false
def fieldOf (s:TypeId) (f:Nat):Option (Nat×TypeId):=match und P s with
 | .struct fs=>(fs[f]?).map fun x=>(x.offset,x.type)
 | _=>none
def zHV:Nat→TypeId→List HV
 | 0,_=>[]
 | d+1,t=>match und P t with
  | .struct fs=>fs.toList.flatMap fun f=>zHV d f.type
  | .array n e=>(List.replicate n (zHV d e)).flatten
  | .slice e=>[.g (emptySC P e)]
  | .bool=>[.a (.B false)]
  | .int k=>[.a (.I k 0)]
  | .string=>[.a (.S [])]
  | .pointer _=>[.a .N]
  | .map _ _=>[.a .M0]
  | .func _ _ _=>[.a .F0]
  | .interface _=>[.a .X0]
  | _=>[.a .U]
def zmatch:HV→Value→Bool
 | .g (.e _ n []), .slice none 0 0=>Nat.blt 0 n
 | .g (.y _ []), .slice none 0 0=>true
 | .a (.B a), .bool b=>a == b
 | .a (.I k n), .int k' n'=>k == k'&&n == 0&&n' == 0
 | .a (.S []), .string s=>s.size == 0
 | .a .N, .pointer none=>true
 | .a .M0, .map none=>true
 | .a .F0, .nilFunc=>true
 | .a .X0, .nilIface=>true
 | _,_=>false
def zmatchAll:List HV→List Value→Bool
 | [],[]=>true
 | x::xs,v::vs=>zmatch x v&&zmatchAll xs vs
 | _,_=>false
def zeroOK (t:TypeId):Bool:=match P.info? t with
 | some i=>match i.zero with
  | some z=>zmatchAll (zHV P 20 t) z.cells.toList&&(zHV P 20 t).length == i.size
  | none=>false
 | none=>false
def zAV (t:TypeId):List AV:=(zHV P 20 t).map HV.toAV
def tiles:Nat→List Field→Nat→Bool
 | off,[],n=>Nat.beq off n
 | off,f::fs,n=>Nat.beq f.offset off&&tiles (off+szT P f.type) fs n
def flatK:Nat→TypeId→Option (List FK)
 | 0,_=>none
 | d+1,t=>match und P t with
  | .bool=>if szT P t=1 then some [.b] else none
  | .int _=>if szT P t=1 then some [.i] else none
  | .string=>if szT P t=1 then some [.s] else none
  | .struct fs=>if !P.stoodInHeld t&&tiles P 0 fs.toList (szT P t)&&fs.toList.all (fun f=>f.name != "_") then
    fs.toList.foldr (fun f acc=>match flatK d f.type,acc with
     | some x,some y=>some (x++y)
     | _,_=>none) (some []) else none
  | .array n e=>if szT P t=n*szT P e then match flatK d e with
    | some x=>some (List.replicate n x).flatten
    | none=>none else none
  | _=>none
end types
def cvS:Value→AV
 | .bool b => .B b
 | .int k n=>if k.min≤n∧n≤k.max then .I k n else .U
 | .string s=>if s.data.toList.length≤140737488355328 then .S s.data.toList else .U
 | .pointer none => .N
 | .nilFunc => .F0
 | .nilIface => .X0
 | .map none => .M0
 | _ => .U
def one:Value→Bool
 | .agg _ | .tuple _=>false
 | _=>true
def cv:Value→EV
 | .slice none 0 0 => .nil
 | .agg cs=>if cs.toList.all one then .v (.A (cs.toList.map cvS)) else .v .U
 | .func fn fs cs=>if fs.size=0∧cs.size=0 then .v (.F fn [] []) else .v .U
 | v => .v (cvS v)
def exp (m:Nat) (l:List AV):List AV:=(List.range m).map fun i=>l.getD i .U
def cut (cs:List AV) (n off m:Nat):List AV:=if off=0∧m=n then cs else (cs.drop off).take m
def setR (cs:List HV) (off:Nat):List HV→List HV
 | []=>cs
 | x::xs=>setR (cs.set off x) (off+1) xs
def setRA (cs:List AV) (off:Nat):List AV→List AV
 | []=>cs
 | x::xs=>setRA (cs.set off x) (off+1) xs
def byteAt (s:List UInt8) (i:Nat):AV := .I .u8 ((s.getD i 0).toNat:Int)
def eqCells:List FK→List AV→List AV→Option Bool
 | [],[],[]=>some true
 | .i::ks, .I k m::as, .I k' n::bs=>if k=k' then (eqCells ks as bs).map fun r=>(m == n)&&r else none
 | .b::ks, .B m::as, .B n::bs=>(eqCells ks as bs).map fun r=>(m == n)&&r
 | .s::ks, .S m::as, .S n::bs=>(eqCells ks as bs).map fun r=>(m == n)&&r
 | _,_,_=>none
def setLocs (loc:Nat→LOv):List (Nat×LOv)→Nat→LOv
 | []=>loc
 | (k,x)::r=>fun i=>bif Nat.beq i k then x else setLocs loc r i
def St.put (s:St) (d:Option Nat) (e:EV):St:=match d with
 | some d => { s with env:=fun t=>bif Nat.beq t d then e else s.env t }
 | none=>s
def setH (h:List HO):List (Nat×HO)→List HO
 | []=>h
 | (i,x)::r=>setH (h.set i x) r
def pushH (h:List HO):List HO→List HO
 | []=>h
 | x::xs=>h++x::xs
def arrAt (h:List HO) (id:Nat):Option (TypeId×Nat×List (List AV)):=match h[id]? with
 | some (.arr t n xs)=>some (t,n,xs)
 | _=>none
def hasId (i:Nat):List (Nat×HO)→Bool
 | []=>false
 | (j,_)::r=>bif Nat.beq j i then true else hasId i r
def Upd.hvOf (u:Upd) (hv:Nat→Nat):Nat→Nat:=match u.heap with
 | some _=>fun i=>hv i+1
 | none=>match u.dl with
  | []=>hv
  | _=>fun i=>bif hasId i u.dl then hv i+1 else hv i
def Upd.on (u:Upd) (d:Option Nat) (s:St):St:=
 let s := { s with loc:=setLocs s.loc u.locs,h:=setH (pushH (u.heap.getD s.h) u.push) u.dl,hv:=u.hvOf s.hv }
 s.put d (u.dst.getD (.v .U))
structure Cx where
 P:Program
 glob:Nat→Option (List AV)
 pure:FuncId→Bool
 fresh:FuncId→Option TypeId
 eats:FuncId→Option TypeId
 bound:Nat
 iter:FuncId→List AV→Option (List (List AV))
structure Ann where
 drop:Bool
 fresh:Option TypeId
 eat:Option (Nat×TypeId)
 excl:Nat→Bool
 asV:Nat→Bool
 dynPure:Bool
 heapSite:Nat→Bool
 narrow:Nat→Bool
 win:Nat→Bool
 frz:Nat→Bool
 mutA:Nat→Bool
 rfix:Nat→List Nat
 live:Nat→Option (List Nat×List Nat)
 fuel:Nat
def mutO (N:Ann):Operand→Bool
 | .tmp k=>N.mutA k
 | _=>false
noncomputable def FUEL:Nat:=Classical.choose (⟨4194304,Nat.le_refl _⟩:∃n:Nat,4194304≤n)
theorem FUEL_ge:4194304≤FUEL:=Classical.choose_spec (⟨4194304,Nat.le_refl _⟩:∃n:Nat,4194304≤n)
def EV.site:EV→Option Nat
 | .lp k _ _ | .ls k _ | .le k _ _ _ | .hb k _ _ _ _ | .lw k _ _=>some k
 | _=>none
mutual
def eqV:AV→AV→Bool
 | .U, .U=>true
 | .I k m, .I j n=>decide (k=j)&&decide (m=n)
 | .B a, .B b=>a == b
 | .S a, .S b=>a == b
 | .A a, .A b=>eqVs a b
 | .L m a, .L n b=>Nat.beq m n&&eqVss a b
 | .Y a, .Y b=>a == b
 | .P i m, .P j n=>Nat.beq i j&&Nat.beq m n
 | .N, .N=>true
 | .F0, .F0=>true
 | .X0, .X0=>true
 | .X t a, .X u b=>Nat.beq t u&&eqV a b
 | .T a, .T b=>eqVs a b
 | .M i, .M j=>Nat.beq i j
 | .M0, .M0=>true
 | .Q a, .Q b=>eqVs a b
 | .F (.func f) a x, .F (.func g) b y=>Nat.beq f g&&eqVs a b&&eqVs x y
 | .W i, .W j=>Nat.beq i j
 | _,_=>false
def eqVs:List AV→List AV→Bool
 | [],[]=>true
 | a::as,b::bs=>eqV a b&&eqVs as bs
 | _,_=>false
def eqVss:List (List AV)→List (List AV)→Bool
 | [],[]=>true
 | a::as,b::bs=>eqVs a b&&eqVss as bs
 | _,_=>false
end
def eqSC:SC→SC→Bool
 | .e t n xs, .e u m ys=>Nat.beq t u&&Nat.beq n m&&eqVss xs ys
 | .y t s, .y u r=>Nat.beq t u&&s == r
 | _,_=>false
def eqHV:HV→HV→Bool
 | .a v, .a u=>eqV v u
 | .g c, .g d=>eqSC c d
 | .z t, .z u=>Nat.beq t u
 | _,_=>false
def eqHVs:List HV→List HV→Bool
 | [],[]=>true
 | a::as,b::bs=>eqHV a b&&eqHVs as bs
 | _,_=>false
def eqPs:List (AV×AV)→List (AV×AV)→Bool
 | [],[]=>true
 | (a,x)::as,(b,y)::bs=>eqV a b&&eqV x y&&eqPs as bs
 | _,_=>false
def eqHO:HO→HO→Bool
 | .cells a, .cells b=>eqHVs a b
 | .arr t n xs, .arr u m ys=>Nat.beq t u&&Nat.beq n m&&eqVss xs ys
 | .map es, .map fs=>eqPs es fs
 | .no, .no=>true
 | _,_=>false
def eqHOs:List HO→List HO→Bool
 | [],[]=>true
 | a::as,b::bs=>eqHO a b&&eqHOs as bs
 | _,_=>false
section ops
variable {R:Type} (A:Alg R) (C:Cx) (N:Ann)
def AV.int:AV→Int
 | .I _ n=>n
 | _=>0
def EV.int:EV→Int
 | .v a=>a.int
 | _=>0
def AV.lenN:AV→Nat
 | .L _ xs=>xs.length
 | .Y s=>s.length
 | .S s=>s.length
 | _=>0
def EV.lenN:EV→Nat
 | .v a=>a.lenN
 | .hb _ _ _ _ x | .hh _ _ _ x=>x.toAV.lenN
 | _=>0
def use (ty:TypeId) (ev:EV) (lo:LOv) (K:AV→List (Nat×LOv)→R):R:=match ev with
 | .v a=>K a []
 | .nil=>K (emptyOf C.P ty).toAV []
 | .ls k ver=>match lo with
  | ⟨ver', .arr c ex⟩=>if ver=ver' then K c.toAV (if ex then [(k,⟨ver, .arr c false⟩)] else []) else A.stuck
  | _=>A.stuck
 | .hb _ _ _ _ x=>K x.toAV []
 | .hh _ _ _ x=>K x.toAV []
 | .ag cs=>K (.A (cs.map HV.toAV)) []
 | _=>A.stuck
def useAll:List TypeId→List EV→List LOv→(List AV→List (Nat×LOv)→R)→R
 | t::ts,e::es,l::ls,K=>use A C t e l fun a u=>useAll ts es ls fun as us=>K (a::as) (u++us)
 | [],e::es,l::ls,K=>use A C 0 e l fun a u=>useAll [] es ls fun as us=>K (a::as) (u++us)
 | _,_,_,K=>K [] []
def captAll:List EV→List LOv→(List AV→List (Nat×LOv)→R)→R
 | [],_,K=>K [] []
 | e::es,los,K=>match e,los with
  | .lp k ver 0,⟨ver', .box _ cs⟩::ls=>if ver=ver' then captAll es ls fun as u=>if (u.any fun p=>p.1 == k) then A.stuck else K (.Q (cs.map HV.toAV)::as) ((k,⟨ver+1, .no⟩)::u) else A.stuck
  | _,_=>A.stuck
def num (e:EV) (K:Int→R):R:=match e with
 | .v a=>A.mN a K
 | _=>A.stuck
def binI (op:BinOp) (k:IntKind) (m n:Int) (K:AV→R):R:=match op with
 | .add=>K (.I k (k.wrap (m+n)))
 | .sub=>K (.I k (k.wrap (m-n)))
 | .mul=>K (.I k (k.wrap (m*n)))
 | .quo=>A.chk (n != 0) (K (.I k (k.wrap (m.tdiv n))))
 | .rem=>A.chk (n != 0) (K (.I k (m.tmod n)))
 | .and=>K (.I k (k.wrap (BitVec.ofInt k.bits m &&& BitVec.ofInt k.bits n).toNat))
 | .or=>K (.I k (k.wrap (BitVec.ofInt k.bits m ||| BitVec.ofInt k.bits n).toNat))
 | .xor=>K (.I k (k.wrap (BitVec.ofInt k.bits m ^^^ BitVec.ofInt k.bits n).toNat))
 | .andNot=>K (.I k (k.wrap (BitVec.ofInt k.bits m &&& ~~~(BitVec.ofInt k.bits n)).toNat))
 | .eql=>K (.B (m == n))
 | .neq=>K (.B (m != n))
 | .lss=>K (.B (decide (m<n)))
 | .leq=>K (.B (decide (m≤n)))
 | .gtr=>K (.B (decide (m>n)))
 | .geq=>K (.B (decide (m≥n)))
 | _=>A.stuck
def binS (op:BinOp) (a b:List UInt8) (K:AV→R):R:=match op with
 | .add=>A.chk (decide (a.length+b.length≤C.bound)) (K (.S (a++b)))
 | .eql=>K (.B (a == b))
 | .neq=>K (.B (!(a == b)))
 | .lss=>K (.B (Op.bytesLess a b))
 | .leq=>K (.B (Op.bytesLess a b||a == b))
 | .gtr=>K (.B (!(Op.bytesLess a b||a == b)))
 | .geq=>K (.B (!Op.bytesLess a b))
 | _=>A.stuck
def bin (op:BinOp) (t:TypeId) (a b:AV) (K:AV→R):R:=
 match op with
 | .shl=>match und C.P t with
  | .int k=>A.mI k a fun m=>A.mN b fun n=>A.chk (decide (0≤n)) (K (.I k (k.wrap (m*2 ^ (min n.toNat k.bits)))))
  | _=>A.stuck
 | .shr=>match und C.P t with
  | .int k=>A.mI k a fun m=>A.mN b fun n=>A.chk (decide (0≤n)) (K (.I k (m.fdiv (2 ^ (min n.toNat k.bits)))))
  | _=>A.stuck
 | _=>match und C.P t with
  | .int k=>A.mI k a fun m=>A.mI k b fun n=>binI A op k m n K
  | .string=>A.mS a fun m=>A.mS b fun n=>binS A C op m n K
  | .bool=>A.mB a fun m=>A.mB b fun n=>match op with
   | .eql=>K (.B (m == n))
   | .neq=>K (.B (!(m == n)))
   | _=>A.stuck
  | .struct _ | .array _ _=>match flatK C.P 20 t with
   | some ks=>A.mA (szT C.P t) a fun xs=>A.mA (szT C.P t) b fun ys=>A.eqs ks xs ys fun r=>match op with
     | .eql=>K (.B r)
     | .neq=>K (.B (!r))
     | _=>A.stuck
   | none=>A.stuck
  | _=>A.stuck
def zAgg (P:Program) (t:TypeId):Bool:=match P.info? t with
 | some i=>match i.zero with
  | some (.agg _)=>true
  | _=>false
 | none=>false
def zeroK (t:TypeId) (K:AV→R):R:=if zeroOK C.P t=true then (match zAgg C.P t,zAV C.P t with
 | true,l=>K (.A l)
 | false,[a]=>K a
 | _,_=>A.stuck) else A.stuck
def eqOp:BinOp→Bool
 | .eql | .neq=>true
 | _=>false
def cmpNil (op:BinOp) (r:Bool) (K:AV→R):R:=match op with
 | .eql=>K (.B r)
 | .neq=>K (.B (!r))
 | _=>A.stuck
def partK (t:TypeId) (a:AV) (K:List AV→R):R:=
 if aggT C.P t then A.mA (szT C.P t) a fun l=>K (exp (szT C.P t) l) else if szT C.P t=1 then A.m1 a (K [a]) else A.stuck
def partHK (t:TypeId) (e:EV) (lo:LOv) (K:List HV→List (Nat×LOv)→R):R:=
 let gen:R:=use A C t e lo fun a u=>partK A C t a fun l=>K (l.map .a) u
 match e with
 | .ag cs=>if aggT C.P t=true∧cs.length=szT C.P t then K cs [] else A.stuck
 | .nil=>if aggT C.P t=false∧szT C.P t=1∧isSlice C.P t=true then K [.g (emptyOf C.P t)] [] else gen
 | _=>gen
def buildK (place:Nat→Option (Nat×TypeId)):List Nat→List EV→List LOv→List HV→List (Nat×LOv)→(List HV→List (Nat×LOv)→R)→R
 | i::is,e::es,l::ls,cs,us,K=>match place i with
  | some (off,t)=>if off+szT C.P t≤cs.length then partHK A C t e l fun p u=>buildK place is es ls (setR cs off p) (u++us) K else A.stuck
  | none=>A.stuck
 | _,_,_,cs,us,K=>K cs us
def elemsK (e:TypeId):List Nat→List AV→List (List AV)→(List (List AV)→R)→R
 | i::is,a::as,xs,K=>if i<xs.length then partK A C e a fun l=>elemsK e is as (xs.set i l) K else A.stuck
 | _,_,xs,K=>K xs
def bytesK:List Nat→List AV→List UInt8→(List UInt8→R)→R
 | i::is,a::as,xs,K=>if i<xs.length then A.mI .u8 a fun n=>bytesK is as (xs.set i (UInt8.ofNat n.toNat)) K else A.stuck
 | _,_,xs,K=>K xs
def loadK (t:TypeId) (x:EV) (lo:LOv) (h:List HO) (hv:Nat→Nat) (K:EV→R):R:=
 let m:=szT C.P t
 if okT C.P t=false then A.stuck else
 match x with
 | .lp k ver off=>match lo with
  | ⟨ver', .box md cs⟩=>if ver=ver' then
    (
     if aggT C.P t then A.chk (decide (off+m≤cs.length)) (K (.v (.A (((cs.drop off).take m).map HV.toAV))))
     else A.chk (decide (off<cs.length)) (if isSlice C.P t then A.mW (cs.getD off (.a .U)).toAV (fun i=>K (.v (.W i))) (K (.hb k ver md off (cs.getD off (.a .U)))) else K (.v (cs.getD off (.a .U)).toAV)))
   else A.stuck
  | _=>A.stuck
 | .le _ ver i off=>match lo with
  | ⟨ver', .arr (.e _ n xs) _⟩=>if ver=ver' then
    (
     if aggT C.P t then (if off+m≤n then K (.v (.A (cut (xs.getD i []) n off m))) else A.stuck)
     else if off<n then K (.v ((xs.getD i []).getD off .U)) else A.stuck)
   else A.stuck
  | ⟨ver', .arr (.y _ s) _⟩=>if ver=ver'∧off=0∧aggT C.P t=false then K (.v (byteAt s i)) else A.stuck
  | _=>A.stuck
 | .ep n cs off=>if aggT C.P t then A.chk (decide (off+m≤n)) (K (.v (.A (cut cs n off m)))) else A.chk (decide (off<n)) (K (.v (cs.getD off .U)))
 | .v a=>A.mP a fun id off=>match arrAt h id with
  | some (_,n,xs)=>if off / n<xs.length∧0<n then
    (
     if aggT C.P t then (if off % n+m≤n then K (.v (.A (cut (xs.getD (off / n) []) n (off % n) m))) else A.stuck)
     else K (.v ((xs.getD (off / n) []).getD (off % n) .U)))
    else A.stuck
  | none=>
   if aggT C.P t then A.mO h id fun cs=>A.chk (decide (off+m≤cs.length)) (K (.v (.A (((cs.drop off).take m).map HV.toAV))))
   else A.mC h id off fun x=>if isSlice C.P t then A.mW x.toAV (fun i=>K (.v (.W i))) (K (.hh id off (hv id) x)) else K (.v x.toAV)
 | _=>A.stuck
def putK (t:TypeId) (y:EV) (ly:LOv) (K':List HV→List (Nat×LOv)→R):R:=
 if aggT C.P t then (match y with
  | .ag cs=>if cs.length=szT C.P t then K' cs [] else A.stuck
  | _=>use A C t y ly fun a u=>A.mA (szT C.P t) a fun l=>K' ((exp (szT C.P t) l).map .a) u)
 else match y with
  | .nil=>if isSlice C.P t then K' [.g (emptyOf C.P t)] [] else A.stuck
  | .ls k ver=>match ly with
   | ⟨ver', .arr c _⟩=>if ver=ver' then K' [.g c] [(k,⟨ver+1, .no⟩)] else A.stuck
   | _=>A.stuck
  | _=>use A C t y ly fun a u=>A.m1 a (K' [.a a] u)
def storeK (t:TypeId) (x y:EV) (lx ly:LOv) (h:List HO) (K:Upd→R):R:=
 let m:=szT C.P t
 let put (K':List HV→List (Nat×LOv)→R):R:=putK A C t y ly K'
 if okT C.P t=false∨(aggT C.P t=false∧m≠1) then A.stuck else
 match x with
 | .lp k ver off=>match lx with
  | ⟨ver', .box md cs⟩=>if ver=ver' then A.chk (decide (off+m≤cs.length))
    (put fun l u=>if (u.any fun p=>p.1 == k) then A.stuck else K { dst:=none,locs:=(k,⟨ver, .box (md+1) (setR cs off l)⟩)::u })
   else A.stuck
  | _=>A.stuck
 | .le k ver i off=>match lx with
  | ⟨ver', .arr (.e t' n xs) true⟩=>if ver=ver'∧off+m≤n then
    put fun l u=>if (u.any fun p=>p.1 == k) then A.stuck else
     K { dst:=none,locs:=(k,⟨ver, .arr (.e t' n (xs.set i (setRA (exp n (xs.getD i [])) off (l.map HV.toAV)))) true⟩)::u }
   else A.stuck
  | ⟨ver', .arr (.y t' s) true⟩=>if ver=ver'∧off=0 then
    put fun l u=>match l with
     | [.a a]=>if (u.any fun p=>p.1 == k) then A.stuck else A.mI .u8 a fun n=>K { dst:=none,locs:=(k,⟨ver, .arr (.y t' (s.set i (UInt8.ofNat n.toNat))) true⟩)::u }
     | _=>A.stuck
   else A.stuck
  | _=>A.stuck
 | .v a=>A.mP a fun id off=>put fun l u=>match arrAt h id with
  | some (t',n,xs)=>if off / n<xs.length∧0<n∧off % n+m≤n then
    K { dst:=none,locs:=u,dl:=[(id, .arr t' n (xs.set (off / n) (setRA (exp n (xs.getD (off / n) [])) (off % n) (l.map HV.toAV))))] }
    else A.stuck
  | none=>A.mO h id fun cs=>A.chk (decide (off+m≤cs.length)) (K { dst:=none,locs:=u,dl:=[(id, .cells (setR cs off l))] })
 | _=>A.stuck
def cur (x:EV) (lx:LOv):Bool:=match x with
 | .lp _ ver _=>match lx with
  | ⟨ver', .box _ _⟩=>Nat.beq ver ver'
  | _=>false
 | .le _ ver _ _=>match lx with
  | ⟨ver', .arr _ _⟩=>Nat.beq ver ver'
  | _=>false
 | .ep .. => true
 | _=>false
def shift (m:Nat):EV→EV
 | .lp k ver off => .lp k ver (off+m)
 | .le k ver i off => .le k ver i (off+m)
 | .ep n cs off => .ep n cs (off+m)
 | e=>e
def srcK (s:SC) (y:EV) (ly:LOv) (strSrc:Bool) (K:SC→R):R:=
 let fromAV (a:AV):R:=match s with
  | .e t n _=>A.mL n a fun xs=>K (.e t n xs)
  | .y t _=>if strSrc then A.mS a fun b=>K (.y t b) else A.mY a fun b=>K (.y t b)
 match y with
 | .nil=>K (match s with | .e t n _ => .e t n [] | .y t _ => .y t [])
 | .ls _ ver=>match ly with
  | ⟨ver', .arr c _⟩=>if ver=ver' then fromAV c.toAV else A.stuck
  | _=>A.stuck
 | .v a=>fromAV a
 | .hb _ _ _ _ x=>fromAV x.toAV
 | .hh _ _ _ x=>fromAV x.toAV
 | _=>A.stuck
def SC.app:SC→SC→SC
 | .e t n xs, .e _ _ ys => .e t n (xs++ys)
 | .y t xs, .y _ ys => .y t (xs++ys)
 | c,_=>c
def appendK (d:Nat) (own:LOv) (ty:TypeId) (strSrc mu:Bool) (x y:EV) (lx ly:LOv) (h:List HO) (hv:Nat→Nat) (K:Upd→R):R:=
 match und C.P ty with
 | .slice e=>
  let fin (c:SC) (K':SC→R):R:=
   if c.elem=e∧c.width=szT C.P e∧zeroOK C.P e=true∧szT C.P e≠0 then srcK A c y ly strSrc fun z=>A.chk (decide (c.len+z.len≤C.bound∧(c.len+z.len)*byT C.P e≤C.bound)) (K' (c.app z)) else A.stuck
  match x with
  | .nil=>fin (emptySC C.P e) fun c=>K { dst:=some (.ls d (own.ver+1)),locs:=[(d,⟨own.ver+1, .arr c true⟩)] }
  | .ls k ver=>match lx with
   | ⟨ver', .arr c ex⟩=>if ver=ver' then fin c fun c'=>K { dst:=some (.ls k (ver+1)),locs:=[(k,⟨ver+1, .arr c' ex⟩)] } else A.stuck
   | _=>A.stuck
  | .hb k ver md off (.g c)=>match lx with
   | ⟨ver', .box md' cs⟩=>if ver=ver'∧md=md'∧k≠d then
     fin c fun c'=>K { dst:=some (.ls d (own.ver+1)),locs:=[(d,⟨own.ver+1, .arr c' (mu&&Nat.beq c.len 0)⟩),(k,⟨ver, .box (md+1) (cs.set off (.a .U))⟩)] }
    else A.stuck
   | _=>A.stuck
  | .hh id off hv' x=>if hv id=hv' then
    let go (c:SC):R:=fin c fun c'=>A.mO h id fun cs=>
     K { dst:=some (.ls d (own.ver+1)),locs:=[(d,⟨own.ver+1, .arr c' (mu&&Nat.beq c.len 0)⟩)],dl:=[(id, .cells (cs.set off (.a .U)))] }
    if byteT C.P e then A.mGy e x fun s=>go (.y e s) else A.mGe e (szT C.P e) x fun xs=>go (.e e (szT C.P e) xs)
   else A.stuck
  | .v a=>A.mW a (fun id=>match arrAt h id with
   | some (t',n,xs)=>fin (.e t' n xs) fun c'=>K { dst:=some (.ls d (own.ver+1)),locs:=[(d,⟨own.ver+1, .arr c' true⟩)],dl:=[(id, .no)] }
   | none=>A.stuck) A.stuck
  | _=>A.stuck
 | _=>A.stuck
def SC.over (c:SC) (off:Nat):SC→SC
 | .e _ _ ys=>match c with
  | .e t n xs => .e t n (xs.take off++ys++xs.drop (off+ys.length))
  | c=>c
 | .y _ ys=>match c with
  | .y t xs => .y t (xs.take off++ys++xs.drop (off+ys.length))
  | c=>c
def copyK (e:TypeId) (x y:EV) (lx ly:LOv) (K:Upd→R):R:=
 let go (k ver off:Nat):R:=match lx with
  | ⟨ver', .arr c true⟩=>if ver=ver'∧c.elem=e∧c.width=szT C.P e∧szT C.P e≠0 then
    srcK A c y ly false fun z=>A.chk (decide (off+z.len≤c.len)) (K { dst:=some (.v (.I .i64 z.len)),locs:=[(k,⟨ver, .arr (c.over off z) true⟩)] })
   else A.stuck
  | _=>A.stuck
 match x with
 | .ls k ver=>go k ver 0
 | .lw k ver off=>go k ver off
 | _=>A.stuck
def boundsLo (lo:Option EV) (hiN:Nat) (K:Nat→Nat→R):R:=match lo with
 | some e=>num A e fun x=>A.chk (decide (0≤x∧x≤(hiN:Int))) (K x.toNat hiN)
 | none=>K 0 hiN
def boundsK (lo hi:Option EV) (n:Nat) (K:Nat→Nat→R):R:=match hi with
 | some e=>num A e fun x=>A.chk (decide (0≤x∧x≤(n:Int))) (boundsLo A lo x.toNat K)
 | none=>boundsLo A lo n K
def bounds3 (lo:Option EV) (hi mx:EV) (n:Nat) (K:Nat→Nat→R):R:=
 num A mx fun m=>A.chk (decide (0≤m∧m≤(n:Int))) (num A hi fun x=>A.chk (decide (0≤x∧x≤m)) (boundsLo A lo x.toNat K))
def methodFid (P:Program) (t:TypeId) (m:String):Option FuncId:=
 match (P.info? t).bind fun i=>i.methods.find? (·.name == m) with
 | some r=>if r.path.isEmpty=true∧okT P t=true then match r.func with
   | some (f,false)=>match und P t with
    | .pointer _=>none
    | _=>some f
   | some (f,true)=>match und P t with
    | .pointer _=>some f
    | _=>none
   | none=>none
  else none
 | none=>none
def paramTy (P:Program) (f:FuncId) (i:Nat):TypeId:=((P.funcs[f]?).bind fun fn=>fn.params[i]?).getD 0
def paramTys (P:Program) (f:FuncId):List TypeId:=((P.funcs[f]?).map fun fn=>fn.params.toList).getD []
mutual
def ptsV:AV→List Nat
 | .A cs=>ptsVs cs
 | .L _ xs=>ptsVss xs
 | .T vs=>ptsVs vs
 | .F _ fs cs=>ptsVs fs++ptsVs cs
 | .X _ v=>ptsV v
 | .P id _=>[id]
 | .M id=>[id]
 | .W id=>[id]
 | .Q cs=>ptsVs cs
 | _=>[]
def ptsVs:List AV→List Nat
 | []=>[]
 | a::as=>ptsV a++ptsVs as
def ptsVss:List (List AV)→List Nat
 | []=>[]
 | a::as=>ptsVs a++ptsVss as
end
def ptsE (e:EV) (lo:LOv):List Nat:=match e with
 | .v a=>ptsV a
 | .hb _ _ _ _ x | .hh _ _ _ x=>ptsV x.toAV
 | .ag cs=>ptsVs (cs.map HV.toAV)
 | .ls _ _=>match lo.lo with
  | .arr c _=>ptsV c.toAV
  | _=>[]
 | _=>[]
def ptsIns:List EV→List LOv→List Nat
 | e::es,l::ls=>ptsE e l++ptsIns es ls
 | _,_=>[]
def maskH (vis:List Nat):Nat→List HO→List HO
 | _,[]=>[]
 | i,x::xs=>(bif vis.any (Nat.beq i) then x else .no)::maskH vis (i+1) xs
def ptsO:Option HO→List Nat
 | some (HO.cells cs)=>ptsVs (cs.map HV.toAV)
 | _=>[]
def visD (h:List HO) (l:List Nat):List Nat:=l++l.flatMap fun i=>ptsO (h[i]?)
def callK (d:Option Nat) (own:LOv) (rt:TypeId) (f:FuncId) (args:List AV) (u:List (Nat×LOv)) (vis:Option (List Nat)) (h:List HO) (K:Upd→R):R:=
 if C.pure f then A.pcall f args h fun v=>
  (match C.fresh f with
  | some e=>(match d with
   | some d=>if byteT C.P e then A.mY v fun s=>K { dst:=some (.ls d (own.ver+1)),locs:=(d,⟨own.ver+1, .arr (.y e s) true⟩)::u }
     else A.mL (szT C.P e) v fun xs=>K { dst:=some (.ls d (own.ver+1)),locs:=(d,⟨own.ver+1, .arr (.e e (szT C.P e) xs) true⟩)::u }
   | none=>A.stuck)
  | none=>K { dst:=some (.v v),locs:=u })
 else match vis with
  | none=>A.call f args h fun v h'=>K { dst:=some (.v v),locs:=u,heap:=some h' }
  | some l=>A.call f args (maskH l 0 h) fun v h'=>A.chk (Nat.beq h'.length h.length) (K { dst:=some (.v v),locs:=u,dl:=l.map fun i=>(i,h'.getD i .no) })
def idxK (t:TypeId) (x i:EV) (lx:LOv) (h:List HO) (K:EV→R):R:=
 num A i fun n=>match und C.P t with
  | .array len e=>if szT C.P e=0 then A.stuck else match x with
   | .v a=>A.mP a fun id off=>A.ix n len fun j=>K (.v (.P id (off+j*szT C.P e)))
   | _=>if cur x lx then A.ix n len fun j=>K (shift (j*szT C.P e) x) else A.stuck
  | .slice e=>if szT C.P e=0 then A.stuck else
   let ofAV (a:AV):R:=
    if byteT C.P e then A.mY a fun s=>A.ix n s.length fun j=>K (.ep 1 [byteAt s j] 0)
    else A.mL (szT C.P e) a fun xs=>A.ix n xs.length fun j=>K (.ep (szT C.P e) (xs.getD j []) 0)
   match x with
   | .ls k ver=>match lx with
    | ⟨ver', .arr c _⟩=>if ver=ver'∧c.width=szT C.P e then A.ix n c.len fun j=>K (.le k ver j 0) else A.stuck
    | _=>A.stuck
   | .v a=>A.mW a (fun id=>match arrAt h id with
    | some (_,n',xs)=>if n'=szT C.P e then A.ix n xs.length fun j=>K (.v (.P id (j*szT C.P e))) else A.stuck
    | none=>A.stuck) (ofAV a)
   | .hb _ _ _ _ x=>ofAV x.toAV
   | .hh _ _ _ x=>ofAV x.toAV
   | _=>A.stuck
  | _=>A.stuck
def eatK (d:Option Nat) (own:LOv) (f:FuncId) (e:TypeId) (x:EV) (lx:LOv) (as:List AV) (u:List (Nat×LOv)) (K:Upd→R):R:=
 let go (k ver:Nat) (c:SC):R:=
  if (u.any fun p=>p.1 == k) then A.stuck else
  if C.pure f=true∧c.elem=e∧c.width=szT C.P e∧szT C.P e≠0∧c.isY=byteT C.P e then A.ecall f (c.toAV::as) fun v=>match c with
   | .y t _=>A.mY v fun s=>K { dst:=some (.ls k ver),locs:=(k,⟨ver, .arr (.y t s) false⟩)::u }
   | .e t n _=>A.mL n v fun xs=>K { dst:=some (.ls k ver),locs:=(k,⟨ver, .arr (.e t n xs) false⟩)::u }
  else A.stuck
 match x with
 | .nil=>(match d with
  | some d=>go d (own.ver+1) (emptySC C.P e)
  | none=>A.stuck)
 | .ls k ver=>(match lx with
  | ⟨ver', .arr c _⟩=>if ver=ver' then go k (ver+1) c else A.stuck
  | _=>A.stuck)
 | _=>A.stuck
def putM (k:IntKind) (n:Int) (v:AV):List (AV×AV)→List (AV×AV)
 | []=>[(.I k n,v)]
 | (.I k' m,x)::es=>if m=n then (.I k' m,v)::es else (.I k' m,x)::putM k n v es
 | p::es=>p::putM k n v es
def putS (ks:List FK) (cs:List AV) (v:AV):List (AV×AV)→List (AV×AV)
 | []=>[(.A cs,v)]
 | (.A cs',x)::es=>match eqCells ks cs cs' with
  | some true=>(.A cs',v)::es
  | _=>(.A cs',x)::putS ks cs v es
 | p::es=>p::putS ks cs v es
def idxS (ks:List FK) (cs:List AV):List (AV×AV)→Nat
 | []=>0
 | (.A cs',_)::es=>match eqCells ks cs cs' with
  | some true=>0
  | _=>idxS ks cs es+1
 | _::es=>idxS ks cs es+1
def simpleT (P:Program) (t:TypeId):Bool:=match und P t with
 | .int _ | .bool | .string=>true
 | _=>false
def simple1 (P:Program) (kt:TypeId):Bool:=match und P kt with
 | .struct fs=>fs.toList.all fun f=>simpleT P f.type&&okT P f.type&&decide (f.offset<szT P kt)
 | _=>false
def simpleK (P:Program) (kt:TypeId):Bool:=match und P kt with
 | .struct fs=>fs.toList.all fun f=>okT P f.type&&decide (f.offset<szT P kt)&&(simpleT P f.type||(simple1 P f.type&&decide (f.offset+szT P f.type≤szT P kt)))
 | _=>false
def dirty:List (AV×AV)→Bool
 | (.U,_)::_=>true
 | _=>false
def lives:List (AV×AV)→List (AV×AV)
 | (.U,_)::es=>es
 | es=>es
def marked (d:Bool) (es:List (AV×AV)):List (AV×AV):=match d with
 | true=>(.U, .U)::es
 | false=>es
def delM (n:Int):List (AV×AV)→List (AV×AV)
 | []=>[]
 | (.I k' m,x)::es=>if m=n then es else (.I k' m,x)::delM n es
 | p::es=>p::delM n es
def opF (o:Oper) (ins:List EV) (los:List LOv) (own:LOv) (h:List HO) (hv:Nat→Nat) (K:Upd→R):R:=
 let P:=C.P
 let val (e:EV):R:=K { dst:=some e }
 let x:=ins.getD 0 (.v .U);let lx:=los.getD 0 ⟨0, .no⟩
 let y:=ins.getD 1 (.v .U);let ly:=los.getD 1 ⟨0, .no⟩
 let site:=o.dst.getD 0
 match o.op with
 | .move _=>val x
 | .assign _=>match x with
  | .nil=>if isSlice P o.type then K { dst:=some (.ls site (own.ver+1)),locs:=[(site,⟨own.ver+1, .arr (emptyOf P o.type) true⟩)] } else A.stuck
  | _=>val x
 | .pick _ _ _=>match x,(ins.getD 1 (.v .U)).pl,(ins.getD 2 (.v .U)).pl with
  | .v c, .v a, .v b=>A.mB c fun t=>A.ite t (val (.v a)) (val (.v b))
  | _,_,_=>A.stuck
 | .alloc t=>if zeroOK P t then
   (
    if N.heapSite site then K { dst:=some (.v (.P h.length 0)),heap:=some (h++[.cells (tagZ t (zHV P 20 t))]) }
    else K { dst:=some (.lp site (own.ver+1) 0),locs:=[(site,⟨own.ver+1, .box 0 (zHV P 20 t)⟩)] })
  else A.stuck
 | .box t _=>
   let go (cs:List HV) (u:List (Nat×LOv)):R:=
    if N.heapSite site then K { dst:=some (.v (.P h.length 0)),locs:=u,heap:=some (h++[.cells (tagZ t cs)]) }
    else K { dst:=some (.lp site (own.ver+1) 0),locs:=(site,⟨own.ver+1, .box 0 cs⟩)::u }
   match x with
   | .ag cs=>if aggT P t=true∧cs.length=szT P t then go cs [] else A.stuck
   | _=>use A C t x lx fun a u=>if aggT P t then A.mA (szT P t) a fun l=>go ((exp (szT P t) l).map .a) u else A.m1 a (go [.a a] u)
 | .build t parts=>if zeroOK P t then
   (
    let ids:=parts.toList.map (·.1)
    match und P t with
    | .struct fs=>if (fs.toList.all fun f=>okT P f.type)=false then A.stuck else
     buildK A C (fieldOf P t) ids ins los (zHV P 20 t) [] fun cs u=>K { dst:=some (.ag cs),locs:=u }
    | .array n e=>if okT P e=false then A.stuck else
     buildK A C (fun i=>if i<n then some (i*szT P e,e) else none) ids ins los (zHV P 20 t) [] fun cs u=>K { dst:=some (.ag cs),locs:=u }
    | _=>A.stuck)
   else A.stuck
 | .buildSlice t len parts=>match und P t with
  | .slice e=>if zeroOK P e=true∧szT P e≠0∧len*szT P e≤16777216 then
    (
     let ids:=parts.toList.map (·.1)
     useAll A C (ids.map fun _=>e) ins los fun as u=>
     if byteT P e then bytesK A ids as (List.replicate len 0) fun s=>K { dst:=some (.ls site (own.ver+1)),locs:=(site,⟨own.ver+1, .arr (.y e s) true⟩)::u }
     else elemsK A C e ids as (List.replicate len (zAV P e)) fun xs=>K { dst:=some (.ls site (own.ver+1)),locs:=(site,⟨own.ver+1, .arr (.e e (szT P e) xs) true⟩)::u })
    else A.stuck
  | _=>A.stuck
 | .load t _=>if N.win site then loadK A C t x lx h hv fun e=>(match e with
   | .v av=>A.mW av (fun id=>match arrAt h id with
    | some (t',n',xs)=>K { dst:=some (.ls site (own.ver+1)),locs:=[(site,⟨own.ver+1, .arr (.e t' n' xs) true⟩)],dl:=[(id, .no)] }
    | none=>A.stuck) A.stuck
   | _=>A.stuck) else loadK A C t x lx h hv val
 | .store t ax _=>if mutO N ax then (match y,ly with
  | .ls k ver,⟨ver', .arr (.e t' n (x0::xs)) true⟩=>if ver=ver'∧x.site≠some k then
    storeK A C t x (.v (.W h.length)) lx ⟨0, .no⟩ (h++[.arr t' n (x0::xs)]) fun u=>(match u.heap,u.push with
     | none,[]=>K { dst:=u.dst,locs:=u.locs++[(k,⟨ver+1, .no⟩)],dl:=u.dl,push:=[.arr t' n (x0::xs)] }
     | _,_=>A.stuck)
    else A.stuck
  | _,_=>storeK A C t x y lx ly h K)
  else storeK A C t x y lx ly h K
 | .nilCheck _=>match x with
  | .v a=>A.mP a fun id off=>val (.v (.P id off))
  | _=>if cur x lx then val x else A.stuck
 | .binOp op t _ yo _=>match x.pl,y.pl with
  | .v a, .nil=>match und P t with
   | .slice _=>A.mLen a fun n=>A.ite (Nat.beq n 0) (A.chk (eqOp op) (val .ub)) (cmpNil A op false fun c=>val (.v c))
   | _=>A.stuck
  | .v a, .v b=>match und P t with
   | .pointer _=>match b with
    | .N=>A.isN a fun r=>cmpNil A op r fun c=>val (.v c)
    | _=>A.stuck
   | .func _ _ _=>match b with
    | .F0=>A.isF a fun r=>cmpNil A op r fun c=>val (.v c)
    | _=>A.stuck
   | .interface _=>match b,yo with
    | .X0, .const _=>A.isX a fun r=>cmpNil A op r fun c=>val (.v c)
    | _,_=>A.stuck
   | .map _ _=>match b with
    | .M0=>A.isM a fun r=>cmpNil A op r fun c=>val (.v c)
    | _=>A.stuck
   | _=>bin A C op t a b fun c=>val (.v c)
  | _,_=>A.stuck
 | .unOp op t _=>match x with
  | .v a=>match op,und P t with
   | .not,_=>A.mB a fun b=>val (.v (.B (!b)))
   | .neg, .int k=>A.mI k a fun n=>val (.v (.I k (k.wrap (0-n))))
   | .xor, .int k=>A.mI k a fun n=>binI A .xor k (if k.signed then -1 else k.max) n fun c=>val (.v c)
   | _,_=>A.stuck
  | _=>A.stuck
 | .convert src dst _=>match und P src,und P dst with
  | .int _, .int k=>num A x fun n=>val (.v (.I k (k.wrap n)))
  | .int _, .string=>num A x fun n=>A.chk (decide (0≤n∧n<128)) (val (.v (.S [UInt8.ofNat n.toNat])))
  | .string, .string=>(match x with
    | .v a=>A.mS a fun s=>val (.v (.S s))
    | _=>A.stuck)
  | .slice e, .string=>if byteT P e then
    (
     let fin (a:AV):R:=A.mY a fun s=>A.chk (decide (s.length≤C.bound)) (val (.v (.S s)))
     match x,lx with
    | .ls _ ver,⟨ver', .arr c _⟩=>if ver=ver' then fin c.toAV else A.stuck
    | .nil,_=>val (.v (.S []))
    | .v a,_=>fin a
    | .hb _ _ _ _ z,_=>fin z.toAV
    | .hh _ _ _ z,_=>fin z.toAV
    | _,_=>A.stuck) else A.stuck
  | .string, .slice e=>if byteT P e then (match x with
    | .v a=>A.mS a fun s=>val (.v (.Y s))
    | _=>A.stuck) else A.stuck
  | _,_=>A.stuck
 | .makeInterface t _=>match und P t with
  | .interface _ | .invalid=>A.stuck
  | _=>use A C t x lx fun a u=>K { dst:=some (.v (.X t a)),locs:=u }
 | .makeFunc fn fs cs=>if N.frz site then captAll A ins los fun as u=>
   (if fs.size=0 then K { dst:=some (.v (.F fn [] as)),locs:=u } else A.stuck)
  else useAll A C [] ins los fun as u=>
   K { dst:=some (.v (.F fn (as.take fs.size) (as.drop fs.size |>.take cs.size))),locs:=u }
 | .makeSlice t _ _=>match und P t with
  | .slice e=>num A x fun l=>num A y fun c=>
    A.chk (decide (0≤l∧l≤c∧c.toNat≤C.bound∧c.toNat*byT P e≤C.bound)) (if zeroOK P e=true∧szT P e≠0 then
     K { dst:=some (.ls site (own.ver+1)),locs:=[(site,⟨own.ver+1, .arr (if byteT P e then .y e (List.replicate l.toNat 0) else .e e (szT P e) (List.replicate l.toNat (zAV P e))) true⟩)] }
     else A.stuck)
  | _=>A.stuck
 | .slice t _ lo hi mx=>match mx with
  | some _=>match hi with
   | none=>A.stuck
   | some _=>
    let loE:=if lo.isSome then some y else none
    let hE:=ins.getD (if lo.isSome then 2 else 1) (.v .U)
    let mE:=ins.getD (if lo.isSome then 3 else 2) (.v .U)
    match und P t with
    | .slice e=>if okT P e=false then A.stuck else use A C t x lx fun a u=>
      if byteT P e then A.mY a fun s=>bounds3 A loE hE mE s.length fun l r=>K { dst:=some (.v (.Y ((s.take r).drop l))),locs:=u }
      else A.mL (szT P e) a fun xs=>bounds3 A loE hE mE xs.length fun l r=>K { dst:=some (.v (.L (szT P e) ((xs.take r).drop l))),locs:=u }
    | _=>A.stuck
  | none=>if N.win site then (match und P t,x,lx,lo,hi with
   | .slice e, .ls k ver,⟨ver', .arr c _⟩,some _,none=>if ver=ver'∧c.width=szT P e∧okT P e=true∧byteT P e=c.isY then num A y fun n=>A.chk (decide (0≤n∧n≤(c.len:Int))) (val (.lw k ver n.toNat)) else A.stuck
   | .slice e, .v av,_,none,some _=>if okT P e=true then A.mW av (fun id=>match arrAt h id with
    | some (t',n',xs)=>num A y fun n=>A.chk (decide (0≤n∧n≤(xs.length:Int))) (K { dst:=some (.ls site (own.ver+1)),locs:=[(site,⟨own.ver+1, .arr (.e t' n' (xs.take n.toNat)) true⟩)],dl:=[(id, .no)] })
    | none=>A.stuck) A.stuck else A.stuck
   | _,_,_,_,_=>A.stuck) else
   let loE:=if lo.isSome then some y else none
   let hiE:=if hi.isSome then some (ins.getD (if lo.isSome then 2 else 1) (.v .U)) else none
   match und P t with
   | .string=>match x with
    | .v a=>A.mS a fun s=>boundsK A loE hiE s.length fun l r=>val (.v (.S ((s.take r).drop l)))
    | _=>A.stuck
   | .slice e=>if okT P e=false then A.stuck else use A C t x lx fun a u=>
     if byteT P e then A.mY a fun s=>boundsK A loE hiE s.length fun l r=>K { dst:=some (.v (.Y ((s.take r).drop l))),locs:=u }
     else A.mL (szT P e) a fun xs=>boundsK A loE hiE xs.length fun l r=>K { dst:=some (.v (.L (szT P e) ((xs.take r).drop l))),locs:=u }
   | _=>A.stuck
 | .fieldAddr t _ f=>match fieldOf P t f with
  | some (off',ft)=>if szT P ft=0 then A.stuck else match x with
   | .v a=>A.mP a fun id off=>val (.v (.P id (off+off')))
   | _=>if cur x lx then val (shift off' x) else A.stuck
  | none=>A.stuck
 | .field t _ f=>match fieldOf P t f with
  | some (off,ft)=>match x.pl with
   | .v a=>A.mA (szT P t) a fun cs=>if okT P ft=true∧off+szT P ft≤szT P t then
     (if aggT P ft then val (.v (.A (cut cs (szT P t) off (szT P ft)))) else if off<szT P t then val (.v (cs.getD off .U)) else A.stuck) else A.stuck
   | _=>A.stuck
  | none=>A.stuck
 | .indexAddr t _ _=>idxK A C t x y lx h val
 | .index t _ _=>match x.pl with
  | .v a=>num A y fun n=>match und P t with
   | .string=>A.mS a fun s=>A.ix n s.length fun j=>val (.v (byteAt s j))
   | .array len e=>if okT P e=false∨szT P e=0 then A.stuck else A.mA (len*szT P e) a fun cs=>A.ix n len fun j=>
     if aggT P e then val (.v (.A ((cs.drop (j*szT P e)).take (szT P e)))) else val (.v (cs.getD (j*szT P e) .U))
   | _=>A.stuck
  | _=>A.stuck
 | .extract _ i=>match x with
  | .v a=>A.mT (i+1) a fun l=>val (.v (l.getD i .U))
  | _=>A.stuck
 | .call c=>match c.callee with
  | .builtin b=>match b with
   | .len=>match c.argTypes[0]? with
    | none=>A.stuck
    | some t=>match und P t with
     | .string=>(match x with
      | .v a=>A.mS a fun s=>val (.v (.I .i64 s.length))
      | _=>A.stuck)
     | .map _ _=>(match x with
      | .v a=>A.mMl a h fun es=>A.chk (decide (es.length≤C.bound)) (val (.v (.I .i64 es.length)))
      | _=>A.stuck)
     | .slice _=>(match x,lx with
      | .ls _ ver,⟨ver', .arr c _⟩=>if ver=ver' then val (.v (.I .i64 c.len)) else A.stuck
      | .hb _ _ _ _ z,_=>A.mLen z.toAV fun n=>val (.v (.I .i64 n))
      | .hh _ _ _ z,_=>A.mLen z.toAV fun n=>val (.v (.I .i64 n))
      | .v a,_=>A.mW a (fun id=>match arrAt h id with
       | some (_,_,xs)=>val (.v (.I .i64 xs.length))
       | none=>A.stuck) (A.mLen a fun n=>val (.v (.I .i64 n)))
      | _,_=>A.stuck)
     | _=>A.stuck
   | .append=>match c.args.toList,c.argTypes.toList with
    | [_,_],[t,tx]=>(match und P tx with
     | .string=>appendK A C site own t true (N.mutA site) x y lx ly h hv K
     | .slice _=>appendK A C site own t false (N.mutA site) x y lx ly h hv K
     | _=>A.stuck)
    | _,_=>A.stuck
   | .copy=>match c.args.toList,c.argTypes.toList with
    | [_,_],[t,tx]=>(match und P t,und P tx with
     | .slice e, .slice _=>copyK A C e x y lx ly K
     | _,_=>A.stuck)
    | _,_=>A.stuck
   | .max=>match ins with
    | [.v a, .v b]=>match und P o.type with
     | .int k=>A.mI k a fun m=>A.mI k b fun n=>val (.v (.I k (if n>m then n else m)))
     | _=>A.stuck
    | _=>A.stuck
   | .delete=>match c.argTypes[0]? with
    | none=>A.stuck
    | some t=>match und P t,x,y with
     | .map kt _, .v m, .v i=>(match und P kt with
      | .int k=>A.mI k i fun n=>A.mMd m h fun id _ es=>A.fnd k n es fun _=>K { dst:=some (.v (.T [])),dl:=[(id, .map (marked true (delM n es)))] }
      | _=>A.stuck)
     | _,_,_=>A.stuck
   | .min=>match ins with
    | [.v a, .v b]=>match und P o.type with
     | .int k=>A.mI k a fun m=>A.mI k b fun n=>val (.v (.I k (if n<m then n else m)))
     | _=>A.stuck
    | _=>A.stuck
   | _=>A.stuck
  | .invoke _ m=>match x with
   | .v a=>useAll A C [] (ins.drop 1) (los.drop 1) fun as u=>A.mX a fun t r=>match methodFid P t m with
    | some f=>callK A C o.dst own o.type f (r::as) u (if N.narrow site then some (visD h (ptsIns ins los)) else none) h K
    | none=>A.stuck
   | _=>A.stuck
  | .value (.func f)=>(match C.eats f with
   | some e=>(match paramTys P f with
    | _::ts=>useAll A C ts (ins.drop 2) (los.drop 2) fun as u=>eatK A C o.dst own f e y ly as u K
    | []=>A.stuck)
   | none=>useAll A C (paramTys P f) (ins.drop 1) (los.drop 1) fun as u=>callK A C o.dst own o.type f as u (if N.narrow site then some (visD h (ptsIns ins los)) else none) h K)
  | .value _=>match x with
   | .v a=>useAll A C c.argTypes.toList (ins.drop 1) (los.drop 1) fun as u=>A.mF a fun fn fs cs=>
    if N.dynPure then A.dynP fn (fs++as++cs) h fun v=>K { dst:=some (.v v),locs:=u }
    else A.dynH fn (fs++as++cs) h fun v h'=>K { dst:=some (.v v),locs:=u,heap:=some h' }
   | _=>A.stuck
 | .panic _=>match x with
  | .v a=>A.mX a fun t v=>A.pan (.X t v) h
  | _=>A.stuck
 | .makeMap t r=>match und P t,r with
  | .map _ _,none=>K { dst:=some (.v (.M h.length)),heap:=some (h++[.map []]) }
  | _,_=>A.stuck
 | .lookup t _ _ ok=>match und P t,x,y.pl with
  | .map kt et, .v m, .v i=>(match und P kt with
   | .struct _=>(match simpleK P kt,flatK P 20 kt with
    | true,some ks=>A.mA (szT P kt) i fun cs=>A.mMl m h fun es=>A.fndS ks cs es fun r=>match r with
     | some v=>val (.v (if ok then .T [v, .B true] else v))
     | none=>zeroK A C et fun v=>val (.v (if ok then .T [v, .B false] else v))
    | _,_=>A.stuck)
   | .int k=>A.mI k i fun n=>A.mMl m h fun es=>A.fnd k n es fun r=>match r with
    | some v=>val (.v (if ok then .T [v, .B true] else v))
    | none=>zeroK A C et fun v=>val (.v (if ok then .T [v, .B false] else v))
   | _=>A.stuck)
  | _,_,_=>A.stuck
 | .mapEntry t _ _=>match und P t,x,y.pl with
  | .map kt et, .v m, .v i=>(match simpleK P kt,flatK P 20 kt with
   | true,some ks=>A.mA (szT P kt) i fun cs=>A.mM m h fun id es=>A.chk (decide (es.length≤C.bound∧eqCells ks cs cs=some true)) (A.fndS ks cs es fun r=>match r with
    | some v=>K { dst:=some (.v (.T [v, .I .i64 (idxS ks cs es)])),dl:=[(id, .map (putS ks cs v es))] }
    | none=>zeroK A C et fun v=>K { dst:=some (.v (.T [v, .I .i64 (idxS ks cs es)])),dl:=[(id, .map (putS ks cs v es))] })
   | _,_=>A.stuck)
  | _,_,_=>A.stuck
 | .entryStore t _ _ _=>match und P t,x,y with
  | .map _ et, .v m, .v i=>A.mI .i64 i fun n=>use A C et (ins.getD 2 (.v .U)) (los.getD 2 ⟨0, .no⟩) fun v u=>A.mM m h fun id es=>A.ix n es.length fun j=>
    K { dst:=none,locs:=u,dl:=[(id, .map (es.modify j fun p=>(p.1,v)))] }
  | _,_,_=>A.stuck
 | .mapUpdate t _ _ _=>match und P t,x,y.pl with
  | .map kt et, .v m, .v i=>(match und P kt with
   | .struct _=>(match simpleK P kt,flatK P 20 kt with
    | true,some ks=>A.mA (szT P kt) i fun cs=>use A C et (ins.getD 2 (.v .U)) (los.getD 2 ⟨0, .no⟩) fun v u=>A.mM m h fun id es=>A.fndS ks cs es fun _=>
      K { dst:=none,locs:=u,dl:=[(id, .map (putS ks cs v es))] }
    | _,_=>A.stuck)
   | .int k=>A.mI k i fun n=>use A C et (ins.getD 2 (.v .U)) (los.getD 2 ⟨0, .no⟩) fun v u=>A.mMd m h fun id d es=>A.fnd k n es fun _=>
     K { dst:=none,locs:=u,dl:=[(id, .map (marked d (putM k n v es)))] }
   | _=>A.stuck)
  | _,_,_=>A.stuck
 | _=>A.stuck
def evO (s:St):Operand→EV
 | .tmp t=>s.env t
 | .const v=>cv v
 | .func f => .v (.F (.func f) [] [])
 | .global g=>match C.glob g with
  | some cs=>(match Nat.blt g 1000 with
   | true => .ep cs.length cs 0
   | false => .v .U)
  | none => .v .U
def loO (s:St) (e:EV):LOv:=match e.site with
 | some k=>s.loc k
 | none=>⟨0, .no⟩
def op1 (o:Oper) (s:St) (K:St→R):R:=
 let ins:=o.op.operands.toList.map (evO C s)
 opF A C N o ins (ins.map (loO s)) (s.loc (o.dst.getD 0)) s.h s.hv fun u=>K (u.on o.dst s)
def aOps (all:Array Oper):List Oper→St→(St→R)→R
 | [],s,K=>K s
 | o::rest,s,K=>match o.guard with
  | none=>op1 A C N o s fun s'=>aOps all rest s' K
  | some (j,want)=>match (all[j]?).bind (·.dst) with
   | none=>A.stuck
   | some g=>match s.env g with
    | .v a=>A.mB a fun b=>
      let go (b:Bool):R:=
       let s:=s.put (some g) (.v (.B b))
       if b=want then op1 A C N o s fun s'=>aOps all rest s' K else aOps all rest (s.put o.dst .un) K
      A.ite b (go true) (go false)
    | .un=>aOps all rest (s.put o.dst .un) K
    | _=>A.stuck
inductive HS where
 | no
 | all
 | ids (l:List Nat)
def objOf:EV→HS
 | .v (.P id _) => .ids [id]
 | .v (.M id) => .ids [id]
 | .v _ => .all
 | .hh id _ _ _ => .ids [id]
 | _ => .no
def looks (o:Oper) (ins:List EV) (los:List LOv) (h:List HO):HS:=match o.op with
 | .load _ _=>if N.win (o.dst.getD 0) then .all else (match ins.getD 0 (.v .U) with
  | .hh _ _ _ _ => .no
  | x=>objOf x)
 | .slice _ _ _ _ _=>if N.win (o.dst.getD 0) then .all else .no
 | .lookup _ _ _ _ | .mapUpdate _ _ _ _ | .mapEntry _ _ _ | .entryStore _ _ _ _=>match ins.getD 0 (.v .U) with
  | .hh _ _ _ _ => .no
  | x=>objOf x
 | .store _ ax _=>if mutO N ax then .all else (match ins.getD 0 (.v .U) with
  | .hh _ _ _ _ => .no
  | x=>objOf x)
 | .indexAddr _ _ _=>match ins.getD 0 (.v .U) with
  | .v (.W id) => .ids [id]
  | _ => .no
 | .alloc _ | .box _ _=>if N.heapSite (o.dst.getD 0) then .all else .no
 | .panic _ | .makeMap _ _ => .all
 | .call c=>match c.callee with
  | .builtin .append=>match ins.getD 0 (.v .U) with
   | .hh id _ _ _ => .ids [id]
   | .v (.W id) => .ids [id]
   | _ => .no
  | .builtin .len=>match ins.getD 0 (.v .U) with
   | .v (.M id) => .ids [id]
   | .v (.W id) => .ids [id]
   | _ => .no
  | .builtin .delete=>objOf (ins.getD 0 (.v .U))
  | .builtin _ => .no
  | .value (.func f)=>if C.pure f then .no else if N.narrow (o.dst.getD 0) then .ids (visD h (ptsIns ins los)) else .all
  | .invoke _ _=>if N.narrow (o.dst.getD 0) then .ids (visD h (ptsIns ins los)) else .all
  | _ => .all
 | _ => .no
structure Foot where
 rd:List Nat
 wr:List Nat
 hr:HS
 hw:HS
 ch:Option (Option Nat×List Nat)
 vl:Bool
def chOf (hr:HS) (h:List HO) (u:Upd):Option (Option Nat×List Nat):=match u.heap,u.push,hr with
 | none,[],_=>some (none,u.dl.map (·.1))
 | some h',[], .all=>(match u.dl with
  | []=>some (some h.length,(List.range h.length).filter fun i => !(eqHO (h.getD i .no) (h'.getD i .no)))
  | _=>none)
 | _,_,_=>none
def vlOf (o:Oper):Bool:=match o.op with
 | .load t _ => !isSlice C.P t && !N.win (o.dst.getD 0)
 | _=>false
def rdOf (o:Oper) (ins:List EV):List Nat:=match o.op with
 | .move _=>[]
 | _=>ins.filterMap EV.site
def Upd.hs (u:Upd):HS:=match u.heap,u.push with
 | some _,_ => .all
 | none,_::_ => .all
 | none,[]=>match u.dl with
  | [] => .no
  | l => .ids (l.map (·.1))
def footOf (o:Oper) (ins:List EV) (los:List LOv) (h:List HO) (u:Upd):Foot := { rd:=(o.dst.getD 0)::rdOf o ins,wr:=u.locs.map (·.1),hr:=looks C N o ins los h,hw:=u.hs,ch:=chOf (looks C N o ins los h) h u,vl:=vlOf C N o }
def noFoot:Foot := { rd:=[],wr:=[],hr := .no,hw := .no,ch:=none,vl:=false }
def offL (x y:List Nat):Bool:=x.all fun i=>y.all fun j => !(Nat.beq i j)
def HS.off:HS→HS→Bool
 | .no,_=>true
 | _, .no=>true
 | .ids x, .ids y=>offL x y
 | _,_=>false
def Foot.off (x y:Foot):Bool:=offL x.wr y.rd&&offL y.wr x.rd&&offL x.wr y.wr&&x.hw.off y.hr&&x.hw.off y.hw&&y.hw.off x.hr
def ldOK (p q:Foot):Bool:=p.vl&&(match p.hr,q.ch with
 | .ids l,some (n,c)=>offL l c&&(match n with
  | none=>true
  | some n=>l.all fun i=>Nat.blt i n)
 | _,_=>false)&&offL q.wr p.rd&&offL p.wr q.rd
def befores:List Oper→List Nat→List Nat
 | [],acc=>acc
 | o::r,acc=>befores r (acc++[o.after.toList.foldl (fun m e=>if Region.binds .any e then m ||| (1 <<< e.on) ||| acc.getD e.on 0 else m) 0])
def edgesOK (i:Nat) (o:Oper):Bool:=o.after.toList.all fun e => !Region.binds .any e||Nat.blt e.on i
def lkMe (x y:Oper):Bool:=match x.op,y.op with
 | .lookup t (.tmp i) (.tmp j) false, .mapEntry t' (.tmp i') (.tmp j')=>Nat.beq t t'&&Nat.beq i i'&&Nat.beq j j'&&x.guard.isNone&&y.guard.isNone
 | _,_=>false
def apartAll (all:Array Oper) (bef:Nat) (o:Oper) (ft:Foot) (done:List (Nat×Foot)):Bool:=
 done.all fun p=>bef.testBit p.1||(match all[p.1]? with
  | some x=>x.apart all o&&(p.2.off ft||lkMe x o||ldOK p.2 ft||ldOK ft p.2)
  | none=>false)
def aOpsD (all:Array Oper) (befs:List Nat):Nat→List Oper→List (Nat×Foot)→St→(St→R)→R
 | _,[],_,s,K=>K s
 | i,o::rest,done,s,K=>
  let run (s:St):R:=match o.op with
   | .panic _=>A.stuck
   | _=>
    let ins:=o.op.operands.toList.map (evO C s)
    opF A C N o ins (ins.map (loO s)) (s.loc (o.dst.getD 0)) s.h s.hv fun u=>
     if apartAll all (befs.getD i 0) o (footOf C N o ins (ins.map (loO s)) s.h u) done then aOpsD all befs (i+1) rest ((i,footOf C N o ins (ins.map (loO s)) s.h u)::done) (u.on o.dst s) K else A.stuck
  let skip (s:St):R:=if apartAll all (befs.getD i 0) o noFoot done then aOpsD all befs (i+1) rest ((i,noFoot)::done) (s.put o.dst .un) K else A.stuck
  if edgesOK i o then
   match o.guard with
   | none=>run s
   | some (j,want)=>match (all[j]?).bind (·.dst) with
    | none=>A.stuck
    | some g=>match s.env g with
     | .v a=>A.mB a fun b=>
       let go (b:Bool):R:=
        let s:=s.put (some g) (.v (.B b))
        if b=want then run s else skip s
       A.ite b (go true) (go false)
     | .un=>skip s
     | _=>A.stuck
  else A.stuck
def lk (t:Nat):List (Nat×EV)→EV
 | [] => .v .U
 | (k,e)::r=>bif Nat.beq k t then e else lk t r
def lkA (r:Nat):List (Nat×List Nat×List Nat)→Option (List Nat×List Nat)
 | []=>none
 | (k,e)::q=>bif Nat.beq k r then some e else lkA r q
def lkR (r:Nat):List (Nat×List Nat)→List Nat
 | []=>[]
 | (k,l)::q=>bif Nat.beq k r then l else lkR r q
def lkL (t:Nat):List (Nat×LOv)→LOv
 | []=>⟨0, .no⟩
 | (k,e)::r=>bif Nat.beq k t then e else lkL t r
def mkSt (env:List (Nat×EV)) (loc:List (Nat×LOv)) (h:List HO):St := { env:=fun t=>lk t env,loc:=fun k=>lkL k loc,h,hv:=fun _=>0 }
def fixEV (s:St) (sites:List Nat):EV→EV
 | .lp k ver off=>if sites.contains k∧(s.loc k).ver=ver then .lp k 0 off else .v .U
 | .ls k ver=>if sites.contains k∧(s.loc k).ver=ver then .ls k 0 else .v .U
 | .lw _ _ _ => .v .U
 | .le k ver i off=>if sites.contains k∧(s.loc k).ver=ver then .le k 0 i off else .v .U
 | .hb _ _ _ _ x => .v x.toAV
 | .hh _ _ _ x => .v x.toAV
 | .un => .v .U
 | .ub => .v .U
 | e=>e
def toV (N:Ann) (s:St):EV→EV
 | .ls k ver=>match s.loc k with
  | ⟨ver', .arr c _⟩=>if ver=ver'∧N.excl k=false then .v c.toAV else .v .U
  | _ => .v .U
 | e=>e
def fixLO (N:Ann) (k:Nat):LOv→LOv
 | ⟨_, .box _ cs⟩=>⟨0, .box 0 cs⟩
 | ⟨_, .arr c ex⟩=>⟨0, .arr c (if N.excl k then ex else false)⟩
 | ⟨_,lo⟩=>⟨0,lo⟩
def offS (sites:List Nat):EV→Bool
 | .ls k _ => !(sites.contains k)
 | _=>false
def nrm (r:Option Nat) (s:St):St:=match r.bind N.live with
 | some (live,sites)=>mkSt (live.map fun t=>(t,if (N.asV t||offS sites (s.env t))=true then fixEV s sites (toV N s (s.env t)) else fixEV s sites (s.env t))) (sites.map fun k=>(k,fixLO N k (s.loc k))) s.h
 | none=>s
def headId:Code→Option Nat
 | .region id _ _=>some id
 | .seq a _=>headId a
 | .block _ b=>headId b
 | .loop b=>headId b
 | .scope b=>headId b
 | _=>none
def loopR (step:(St→R)→St→R):Nat→St→R
 | 0,_=>A.stuck
 | n+1,s=>step (loopR step n) s
def freezeLo (l:LOv):LOv:=match l with
 | ⟨v, .arr c _⟩=>⟨v, .arr c false⟩
 | l=>l
def condK (c:Operand) (s:St) (K:Bool→St→R):R:=match c with
 | .tmp t=>match s.env t with
  | .v a=>A.mB a fun b=>A.ite b (K true (s.put (some t) (.v (.B true)))) (K false (s.put (some t) (.v (.B false))))
  | .ub=>A.both (K true (s.put (some t) (.v (.B true)))) (K false (s.put (some t) (.v (.B false))))
  | _=>A.stuck
 | .const (.bool b)=>K b s
 | _=>A.stuck
def offOK (fixl:List Nat):Code→Bool
 | .skip=>true
 | .region _ ops _=>ops.toList.all fun o=>match o.dst with
  | some d => !fixl.any (Nat.beq d)
  | none=>true
 | .seq a b=>offOK fixl a&&offOK fixl b
 | .cond _ x y=>offOK fixl x&&offOK fixl y
 | .block _ b=>offOK fixl b
 | .loop b=>offOK fixl b
 | .exit _=>true
 | .ret=>true
 | .scope b=>offOK fixl b
 | .label _=>true
 | _=>false
def rfOK (fixl:List Nat) (ps:Array Nat) (asg bod:Code):Bool:=(ps.toList.all fun p => !fixl.any (Nat.beq p))&&offOK fixl asg&&offOK fixl bod
def St.keep (fixl:List Nat) (s:St):St := { s with env:=fun t=>bif fixl.any (Nat.beq t) then s.env t else .v .U }
def St.puts:List (Nat×AV)→St→St
 | [],s=>s
 | (p,v)::r,s=>St.puts r (s.put (some p) (.v v))
def roundsR (fixl:List Nat) (ps:List Nat) (asg bod:(St→R)→(Nat→St→R)→(St→R)→St→R) (ida idb:Option Nat) (kn:St→R) (kx:Nat→St→R) (kr:St→R):List (List AV)→St→R
 | [],s=>kn s
 | x::xs,s=>if x.length=ps.length then
   asg (fun s1=>bod (fun s2=>roundsR fixl ps asg bod ida idb kn kx kr xs (s2.keep fixl)) (fun i s2=>kx i (s2.keep fixl)) (fun s2=>kr (s2.keep fixl)) (nrm N idb s1)) (fun _ _=>A.stuck) (fun _=>A.stuck) (nrm N ida (St.puts (ps.zip x) s))
  else A.stuck
end ops
section code
variable {R:Type} (C:Cx) (N:Ann)
def aC (AN:Alg R):Alg R→Code→(St→R)→(Nat→St→R)→(St→R)→St→R
 | _, .skip,kn,_,_,s=>kn s
 | A, .region _ ops dr,kn,_,_,s=>if dr then aOpsD AN C N ops (befores ops.toList []) 0 ops.toList [] s kn else aOps A C N ops ops.toList s kn
 | A, .seq a b,kn,kx,kr,s=>aC AN A a (fun s'=>aC AN A b kn kx kr (nrm N (headId b) s')) kx kr s
 | A, .cond c x y,kn,kx,kr,s=>condK A c s fun b s'=>if b then aC AN A x kn kx kr (nrm N (headId x) s') else aC AN A y kn kx kr (nrm N (headId y) s')
 | A, .block id b,kn,kx,kr,s=>aC AN A b kn (fun i s'=>if i=id then kn s' else kx i s') kr s
 | A, .loop b,_,kx,kr,s=>loopR A (fun ih s=>aC AN A b (fun s'=>ih (nrm N (headId b) s')) kx kr s) N.fuel (nrm N (headId b) s)
 | _, .exit id,_,kx,_,s=>kx id s
 | _, .ret,_,_,kr,s=>kr s
 | A, .scope b,kn,kx,kr,s=>aC AN A b kn kx kr s
 | _, .label _,kn,_,_,s=>kn s
 | A, .rangeFunc g ps asg bod,kn,kx,kr,s=>match evO C s g with
  | .v v=>A.mF v fun fn fs cs=>match fn,fs with
   | .func f,[]=>match C.iter f cs with
    | some xs=>
     let fixl:=N.rfix ((headId asg).getD 0)
     if rfOK fixl ps asg bod then
      roundsR A N fixl ps.toList (fun kn kx kr s=>aC AN AN asg kn kx kr s) (fun kn kx kr s=>aC AN AN bod kn kx kr s) (headId asg) (headId bod) kn kx kr xs (s.keep fixl)
     else A.stuck
    | none=>A.stuck
   | _,_=>A.stuck
  | _=>A.stuck
 | A,_,_,_,_,_=>A.stuck
end code
section ops
variable {R:Type} (A:Alg R) (C:Cx) (N:Ann)
def resK (fn:Func) (s:St):R:=
 let rec go:List (ResultVar×TypeId)→St→List AV→R
  | [],s,acc=>match acc with
   | [a]=>A.ret a (if N.drop then [] else s.h)
   | as=>A.ret (.T as.reverse) (if N.drop then [] else s.h)
  | (.tmp t,ty)::r,s,acc=>match N.fresh with
   | some e=>(match r,acc,s.env t,loO s (s.env t) with
    | [],[], .ls _ ver,⟨ver', .arr c ex⟩=>if ver=ver'∧c.elem=e∧(ex||N.eat.isSome)=true then A.ret c.toAV (if N.drop then [] else s.h) else A.stuck
    | [],[], .nil,_=>if byteT C.P e=true∨szT C.P e≠0 then A.ret (emptySC C.P e).toAV (if N.drop then [] else s.h) else A.stuck
    | _,_,_,_=>A.stuck)
   | none=>use A C ty (s.env t) (loO s (s.env t)) fun a u=>go r { s with loc:=setLocs s.loc u } (a::acc)
  | (.cell t ty,_)::r,s,acc=>if N.fresh.isSome then A.stuck else loadK A C ty (s.env t) (loO s (s.env t)) s.h s.hv fun e=>use A C ty e (loO s e) fun a u=>go r { s with loc:=setLocs s.loc u } (a::acc)
 go (fn.results.toList.zip fn.resultTypes.toList) s []
def initSt (args:List AV) (h:List HO):St:=mkSt ((List.range args.length).zip (args.map .v)) [] h
def eatSt (k:Nat) (c:SC) (args:List AV) (h:List HO):St:=mkSt ((List.range (args.length+1)).zip (.ls k 0::args.map .v)) [(k,⟨0, .arr c false⟩)] h
def aF (AN:Alg R) (fn:Func) (args:List AV) (h:List HO):R:=match fn.body with
 | some c=>
  let go (s:St):R:=aC C N AN A c (resK A C N fn) (fun _ _=>A.stuck) (resK A C N fn) s
  (match N.eat with
  | none=>go (initSt args h)
  | some (k,e)=>match args,h with
   | a::as,[.no]=>
    if byteT C.P e then A.mY a fun s=>go (eatSt k (.y e s) as [])
    else A.mL (szT C.P e) a fun xs=>go (eatSt k (.e e (szT C.P e) xs) as [])
   | _,_=>A.stuck)
 | none=>A.stuck
end ops
def sq1:Code→Code
 | .seq a _=>a
 | c=>c
def sq2:Code→Code
 | .seq _ b=>b
 | c=>c
def cn1:Code→Code
 | .cond _ a _=>a
 | c=>c
def cn2:Code→Code
 | .cond _ _ b=>b
 | c=>c
def blk:Code→Code
 | .block _ b=>b
 | .loop b=>b
 | .scope b=>b
 | c=>c
def bodyOf (fn:Func):Code:=fn.body.getD .skip
end Go.Vm
namespace Go.Vm
open Go
def chk (b:Bool) (r:Res):Res:=match b with
 | true=>r
 | false => .stuck
def bIte (b:Bool) (x y:Res):Res:=match b with
 | true=>x
 | false=>y
def mI (k:IntKind) (a:AV) (K:Int→Res):Res:=match a with
 | .I k' n=>if k'=k then K n else .stuck
 | _ => .stuck
def mN (a:AV) (K:Int→Res):Res:=match a with
 | .I _ n=>K n
 | _ => .stuck
def mB (a:AV) (K:Bool→Res):Res:=match a with
 | .B b=>K b
 | _ => .stuck
def mS (a:AV) (K:List UInt8→Res):Res:=match a with
 | .S s=>K s
 | _ => .stuck
def mY (a:AV) (K:List UInt8→Res):Res:=match a with
 | .Y s=>K s
 | _ => .stuck
def mL (n:Nat) (a:AV) (K:List (List AV)→Res):Res:=match a with
 | .L m xs=>if m=n then K xs else .stuck
 | _ => .stuck
def mLen (a:AV) (K:Nat→Res):Res:=match a with
 | .L _ xs=>K xs.length
 | .Y s=>K s.length
 | _ => .stuck
def mA (n:Nat) (a:AV) (K:List AV→Res):Res:=match a with
 | .A cs=>if cs.length=n then K cs else .stuck
 | _ => .stuck
def mT (n:Nat) (a:AV) (K:List AV→Res):Res:=match a with
 | .T vs=>if n≤vs.length then K vs else .stuck
 | _ => .stuck
def mP (a:AV) (K:Nat→Nat→Res):Res:=match a with
 | .P id off=>K id off
 | _ => .stuck
def mF (a:AV) (K:Fn→List AV→List AV→Res):Res:=match a with
 | .F fn fs cs=>K fn fs cs
 | _ => .stuck
def mX (a:AV) (K:TypeId→AV→Res):Res:=match a with
 | .X t v=>K t v
 | _ => .stuck
def mGe (t:TypeId) (n:Nat) (x:HV) (K:List (List AV)→Res):Res:=match x with
 | .g (.e t' n' xs)=>if t'=t∧n'=n then K xs else .stuck
 | _ => .stuck
def mGy (t:TypeId) (x:HV) (K:List UInt8→Res):Res:=match x with
 | .g (.y t' s)=>if t'=t then K s else .stuck
 | _ => .stuck
def mC (h:List HO) (id off:Nat) (K:HV→Res):Res:=match h[id]? with
 | some (.cells cs)=>match cs[off]? with
  | some x=>K x
  | none => .stuck
 | _ => .stuck
def mO (h:List HO) (id:Nat) (K:List HV→Res):Res:=match h[id]? with
 | some (.cells cs)=>K cs
 | _ => .stuck
def mW (a:AV) (F:Nat→Res) (e:Res):Res:=match a with
 | .W id=>F id
 | _=>e
def ix (n:Int) (len:Nat) (K:Nat→Res):Res:=if 0≤n∧n<(len:Int) then K n.toNat else .stuck
def eqs (ks:List FK) (as bs:List AV) (K:Bool→Res):Res:=match eqCells ks as bs with
 | some r=>K r
 | none => .stuck
def isN (a:AV) (K:Bool→Res):Res:=match a with
 | .N=>K true
 | .P _ _=>K false
 | _ => .stuck
def isF (a:AV) (K:Bool→Res):Res:=match a with
 | .F0=>K true
 | .F _ _ _=>K false
 | _ => .stuck
def isX (a:AV) (K:Bool→Res):Res:=match a with
 | .X0=>K true
 | .X _ _=>K false
 | _ => .stuck
def isM (a:AV) (K:Bool→Res):Res:=match a with
 | .M0=>K true
 | .M _=>K false
 | _ => .stuck
def mM (a:AV) (h:List HO) (K:Nat→List (AV×AV)→Res):Res:=match a with
 | .M id=>match h[id]? with
  | some (.map es)=>match dirty es with
   | true => .stuck
   | false=>K id es
  | _ => .stuck
 | _ => .stuck
def mMd (a:AV) (h:List HO) (K:Nat→Bool→List (AV×AV)→Res):Res:=match a with
 | .M id=>match h[id]? with
  | some (.map es)=>K id (dirty es) (lives es)
  | _ => .stuck
 | _ => .stuck
def mMl (a:AV) (h:List HO) (K:List (AV×AV)→Res):Res:=match a with
 | .M0=>K []
 | .M id=>match h[id]? with
  | some (.map es)=>K (lives es)
  | _ => .stuck
 | _ => .stuck
def findI (k:IntKind) (n:Int):List (AV×AV)→Option (Option AV)
 | []=>some none
 | (.I k' m,v)::es=>if k'=k then (if m=n then some (some v) else findI k n es) else none
 | _=>none
def fnd (k:IntKind) (n:Int) (es:List (AV×AV)) (K:Option AV→Res):Res:=match findI k n es with
 | some r=>K r
 | none => .stuck
def findS (ks:List FK) (cs:List AV):List (AV×AV)→Option (Option AV)
 | []=>some none
 | (.A cs',v)::es=>match eqCells ks cs cs' with
  | some true=>some (some v)
  | some false=>findS ks cs es
  | none=>none
 | _=>none
def fndS (ks:List FK) (cs:List AV) (es:List (AV×AV)) (K:Option AV→Res):Res:=match findS ks cs es with
 | some r=>K r
 | none => .stuck
def m1 (a:AV) (r:Res):Res:=match a with
 | .A _ | .T _ | .U => .stuck
 | _=>r
def bRes (r:Res) (K:AV→List HO→Res):Res:=match r with
 | .ret v h=>K v h
 | .pan v h => .pan v h
 | _ => .stuck
mutual
def noP:AV→Bool
 | .A cs=>noPs cs
 | .L _ xs=>noPss xs
 | .T vs=>noPs vs
 | .F _ fs cs=>noPs fs&&noPs cs
 | .X _ v=>noP v
 | .P _ _ | .M _ | .W _=>false
 | .Q cs=>noPs cs
 | _=>true
def noPs:List AV→Bool
 | []=>true
 | a::as=>noP a&&noPs as
def noPss:List (List AV)→Bool
 | []=>true
 | a::as=>noPs a&&noPss as
end
def pcall (S:List AV→List HO→Res) (as:List AV) (h:List HO) (K:AV→Res):Res:=match noPs as with
 | true=>match S as [] with
  | .ret v _=>match noP v with
   | true=>K v
   | false => .stuck
  | .pan v _=>match noP v with
   | true => .pan v h
   | false => .stuck
  | _ => .stuck
 | false => .stuck
def dynP (pu:FuncId→Bool) (G:FuncId→List AV→List HO→Res) (fn:Fn) (as:List AV) (h:List HO) (K:AV→Res):Res:=match fn with
 | .func f=>match pu f with
  | true=>pcall (G f) as h K
  | false => .stuck
 | _ => .stuck
def dynH (pu:FuncId→Bool) (G:FuncId→List AV→List HO→Res) (fn:Fn) (as:List AV) (h:List HO) (K:AV→List HO→Res):Res:=match fn with
 | .func f=>match pu f with
  | true => .stuck
  | false=>bRes (G f as h) K
 | _ => .stuck
def both (r1 r2:Res):Res:=match r1,r2 with
 | .ret v [], .ret v' []=>match eqV v v' with
  | true => .ret v []
  | false => .stuck
 | _,_ => .stuck
def ecall (S:List AV→List HO→Res) (as:List AV) (K:AV→Res):Res:=match noPs as with
 | true=>match S as [.no] with
  | .ret v _=>match noP v with
   | true=>K v
   | false => .stuck
  | _ => .stuck
 | false => .stuck
def stdAlg (pu:FuncId→Bool) (G:FuncId→List AV→List HO→Res):Alg Res where
 stuck := .stuck
 ret := .ret
 pan := .pan
 chk:=chk
 ite:=bIte
 mI:=mI
 mN:=mN
 mB:=mB
 mS:=mS
 mY:=mY
 mL:=mL
 mLen:=mLen
 mA:=mA
 mT:=mT
 mP:=mP
 mF:=mF
 mX:=mX
 mGe:=mGe
 mGy:=mGy
 mC:=mC
 mO:=mO
 mW:=mW
 ix:=ix
 eqs:=eqs
 isN:=isN
 m1:=m1
 call f as h K:=bRes (G f as h) K
 pcall f as h K:=pcall (G f) as h K
 dynP:=dynP pu G
 dynH:=dynH pu G
 isF:=isF
 isX:=isX
 both:=both
 ecall f as K:=ecall (G f) as K
 isM:=isM
 mM:=mM
 mMl:=mMl
 mMd:=mMd
 fnd:=fnd
 fndS:=fndS
def noPan1 (S:List AV→List HO→Res):List AV→List HO→Res:=fun as h=>match S as h with
 | .pan _ _ => .stuck
 | r=>r
def noPan (G:FuncId→List AV→List HO→Res):FuncId→List AV→List HO→Res:=fun f=>noPan1 (G f)
def semF (cx:Cx) (ann:Ann) (fn:Func) (G:FuncId→List AV→List HO→Res):List AV→List HO→Res:=
 aF (stdAlg cx.pure G) cx ann (stdAlg cx.pure (noPan G)) fn
end Go.Vm
namespace Go.Vm
open Go
inductive Own where
 | obj (id:Nat)
 | cell (id off:Nat)
 | box (k:Nat)
 | bcell (k off:Nat)
 | arr (k:Nat)
 deriving DecidableEq
def Own.heap:Own→Prop
 | .obj _ | .cell _ _=>True
 | _=>False
structure Gh where
 n:Nat
 ix:Nat→Nat×Value
 st:Nat→Nat→Prop
 ow:Nat→Option Own
 df:List Deferred
abbrev Gh.io (g:Gh) (i:Nat):Nat:=(g.ix i).1
abbrev Gh.hdr (g:Gh) (i:Nat):Value:=(g.ix i).2
theorem Gh.io_of {g g':Gh} (h:g'.ix=g.ix) (i:Nat):g'.io i=g.io i:=by unfold Gh.io;rw [h]
theorem Gh.hdr_of {g g':Gh} (h:g'.ix=g.ix) (i:Nat):g'.hdr i=g.hdr i:=by unfold Gh.hdr;rw [h]
def NF (w:World) (b:Nat):Prop:=∃c t,w.heap[b]? = some (.cells c t (0,0))
section V
variable (g:Gh) (w:World)
mutual
def V:AV→Value→Prop
 | .U,_=>True
 | .I k n,v=>v = .int k n∧k.min≤n∧n≤k.max
 | .B b,v=>v = .bool b
 | .S s,v=>v = .string ⟨s.toArray⟩∧s.length≤140737488355328
 | .A cs,v=>∃vs:List Value,v = .agg vs.toArray∧VS cs vs
 | .L n xs,v=>∃a len cap,v = .slice a len cap∧len=xs.length∧(len≤cap∧len≤9223372036854775807)∧(xs=[]∨∃b o,a=some ⟨b,o,none⟩∧VR n b o xs)
 | .Y s,v=>∃a len cap,v = .slice a len cap∧len=s.length∧(len≤cap∧len≤9223372036854775807)∧(s=[]∨∃b o,a=some ⟨b,o,none⟩∧VY b o s)
 | .P id off,v=>id<g.n∧v = .pointer (some ⟨g.io id,off,none⟩)
 | .N,v=>v = .pointer none
 | .F fn fs cs,v=>∃vf vc:List Value,v = .func fn vf.toArray vc.toArray∧VT fs vf∧VT cs vc
 | .F0,v=>v = .nilFunc
 | .X t a,v=>∃u,v = .iface t u∧V a u
 | .X0,v=>v = .nilIface
 | .T as,v=>∃vs:List Value,v = .tuple vs.toArray∧VT as vs
 | .M id,v=>id<g.n∧v = .map (some (g.io id))
 | .M0,v=>v = .map none
 | .Q cs,v=>∃b o,v = .pointer (some ⟨b,o,none⟩)∧VC b o cs∧∀s r,cs = .S s::r→NF w b
 | .W id,v=>id<g.n∧v=g.hdr id∧v.oneCell'=true
def VS:List AV→List Value→Prop
 | [],vs=>vs=[]
 | a::as,vs=>∃u us,vs=u::us∧V a u∧u.oneCell'=true∧VS as us
def VT:List AV→List Value→Prop
 | [],vs=>vs=[]
 | a::as,vs=>∃u us,vs=u::us∧V a u∧VT as us
def VR (n b o:Nat):List (List AV)→Prop
 | []=>True
 | x::xs=>x.length=n∧VC b o x∧VR n b (o+n) xs
def VC (b o:Nat):List AV→Prop
 | []=>True
 | a::as=>g.st b o∧(∃u,w.cell? ⟨b,o,none⟩=some u∧V a u∧u.oneCell'=true)∧VC b (o+1) as
def VY (b o:Nat):List UInt8→Prop
 | []=>True
 | x::xs=>g.st b o∧w.cell? ⟨b,o,none⟩=some (.int .u8 x.toNat)∧VY b (o+1) xs
end
end V
structure Later (g:Gh) (w:World) (g':Gh) (w':World):Prop where
 n:g.n≤g'.n
 ix:∀i,i<g.n→g'.ix i=g.ix i
 st:∀b o,g.st b o→g'.st b o
 cell:∀b o,g.st b o→w'.cell? ⟨b,o,none⟩=w.cell? ⟨b,o,none⟩
 nf:∀b o x,g.st b o→w.cell? ⟨b,o,none⟩=some (.string x)→NF w b→NF w' b
theorem Later.io {g g':Gh} {w w':World} (h:Later g w g' w') (i:Nat) (hi:i<g.n):g'.io i=g.io i:=congrArg Prod.fst (h.ix i hi)
theorem Later.hdr {g g':Gh} {w w':World} (h:Later g w g' w') (i:Nat) (hi:i<g.n):g'.hdr i=g.hdr i:=congrArg Prod.snd (h.ix i hi)
theorem Later.refl (g:Gh) (w:World):Later g w g w:=⟨Nat.le_refl _,fun _ _=>rfl,fun _ _ h=>h,fun _ _ _=>rfl,fun _ _ _ _ _ h=>h⟩
theorem Later.trans {g g' g'':Gh} {w w' w'':World} (h:Later g w g' w') (k:Later g' w' g'' w''):Later g w g'' w'':=
 ⟨Nat.le_trans h.n k.n,fun i hi=>(k.ix i (Nat.lt_of_lt_of_le hi h.n)).trans (h.ix i hi),fun b o s=>k.st b o (h.st b o s),fun b o s=>(k.cell b o (h.st b o s)).trans (h.cell b o s),fun b o x s hx hn=>k.nf b o x (h.st b o s) ((h.cell b o s).trans hx) (h.nf b o x s hx hn)⟩
theorem VY.later {g g':Gh} {w w':World} (hl:Later g w g' w') (b:Nat):∀(s:List UInt8) (o:Nat),VY g w b o s→VY g' w' b o s
 | [],_,_=>trivial
 | _::s,o,h=>⟨hl.st _ _ h.1,(hl.cell _ _ h.1).trans h.2.1,VY.later hl b s (o+1) h.2.2⟩
mutual
theorem V.later {g g':Gh} {w w':World} (hl:Later g w g' w'):∀(a:AV) (v:Value),V g w a v→V g' w' a v
 | .U,_,_=>by simp [V]
 | .I _ _,_,h=>by simpa [V] using h
 | .B _,_,h=>by simpa [V] using h
 | .S _,_,h=>by simpa [V] using h
 | .A cs,_,h=>by
  simp only [V] at h ⊢
  obtain ⟨vs,hv,hs⟩:=h
  exact ⟨vs,hv,VS.later hl cs vs hs⟩
 | .L n xs,_,h=>by
  simp only [V] at h ⊢
  obtain ⟨a,len,cap,hv,hn,hb,hr⟩:=h
  refine ⟨a,len,cap,hv,hn,hb,hr.imp id ?_⟩
  rintro ⟨b,o,ha,hr⟩
  exact ⟨b,o,ha,VR.later hl n b xs o hr⟩
 | .Y s,_,h=>by
  simp only [V] at h ⊢
  obtain ⟨a,len,cap,hv,hn,hb,hr⟩:=h
  refine ⟨a,len,cap,hv,hn,hb,hr.imp id ?_⟩
  rintro ⟨b,o,ha,hr⟩
  exact ⟨b,o,ha,VY.later hl b s o hr⟩
 | .P _ _,_,h=>by
  simp only [V] at h ⊢
  exact ⟨Nat.lt_of_lt_of_le h.1 hl.n,by rw [hl.io _ h.1];exact h.2⟩
 | .N,_,h=>by simpa [V] using h
 | .F fn fs cs,_,h=>by
  simp only [V] at h ⊢
  obtain ⟨vf,vc,hv,h1,h2⟩:=h
  exact ⟨vf,vc,hv,VT.later hl fs vf h1,VT.later hl cs vc h2⟩
 | .F0,_,h=>by simpa [V] using h
 | .X t a,_,h=>by
  simp only [V] at h ⊢
  obtain ⟨u,hv,hu⟩:=h
  exact ⟨u,hv,V.later hl a u hu⟩
 | .X0,_,h=>by simpa [V] using h
 | .T as,_,h=>by
  simp only [V] at h ⊢
  obtain ⟨vs,hv,hs⟩:=h
  exact ⟨vs,hv,VT.later hl as vs hs⟩
 | .M _,_,h=>by
  simp only [V] at h ⊢
  exact ⟨Nat.lt_of_lt_of_le h.1 hl.n,by rw [hl.io _ h.1];exact h.2⟩
 | .M0,_,h=>by simpa [V] using h
 | .Q cs,_,h=>by
  simp only [V] at h ⊢
  obtain ⟨b,o,hv,hs,hf⟩:=h
  refine ⟨b,o,hv,VC.later hl b cs o hs,?_⟩
  rintro s r rfl
  simp only [VC,V] at hs
  obtain ⟨h1,⟨u,h2,⟨h3,_⟩,_⟩,_⟩:=hs
  exact hl.nf b o _ h1 (h3▸h2) (hf s r rfl)
 | .W _,_,h=>by
  simp only [V] at h ⊢
  exact ⟨Nat.lt_of_lt_of_le h.1 hl.n,by rw [hl.hdr _ h.1];exact h.2.1,h.2.2⟩
theorem VS.later {g g':Gh} {w w':World} (hl:Later g w g' w'):∀(as:List AV) (vs:List Value),VS g w as vs→VS g' w' as vs
 | [],_,h=>by simpa [VS] using h
 | a::as,_,h=>by
  simp only [VS] at h ⊢
  obtain ⟨u,us,hv,hu,h1,hs⟩:=h
  exact ⟨u,us,hv,V.later hl a u hu,h1,VS.later hl as us hs⟩
theorem VT.later {g g':Gh} {w w':World} (hl:Later g w g' w'):∀(as:List AV) (vs:List Value),VT g w as vs→VT g' w' as vs
 | [],_,h=>by simpa [VT] using h
 | a::as,_,h=>by
  simp only [VT] at h ⊢
  obtain ⟨u,us,hv,hu,hs⟩:=h
  exact ⟨u,us,hv,V.later hl a u hu,VT.later hl as us hs⟩
theorem VR.later {g g':Gh} {w w':World} (hl:Later g w g' w') (n b:Nat):∀(xs:List (List AV)) (o:Nat),VR g w n b o xs→VR g' w' n b o xs
 | [],_,_=>by simp [VR]
 | x::xs,o,h=>by
  simp only [VR] at h ⊢
  exact ⟨h.1,VC.later hl b x o h.2.1,VR.later hl n b xs (o+n) h.2.2⟩
theorem VC.later {g g':Gh} {w w':World} (hl:Later g w g' w') (b:Nat):∀(as:List AV) (o:Nat),VC g w b o as→VC g' w' b o as
 | [],_,_=>by simp [VC]
 | a::as,o,h=>by
  simp only [VC] at h ⊢
  obtain ⟨hs,⟨u,hc,hu,h1⟩,hr⟩:=h
  exact ⟨hl.st _ _ hs,⟨u,(hl.cell _ _ hs).trans hc,V.later hl a u hu,h1⟩,VC.later hl b as (o+1) hr⟩
end
structure Cells (g:Gh) (w:World) (g':Gh) (w':World):Prop where
 st:∀b o,g.st b o→g'.st b o
 cell:∀b o,g.st b o→w'.cell? ⟨b,o,none⟩=w.cell? ⟨b,o,none⟩
 nf:∀b o x,g.st b o→w.cell? ⟨b,o,none⟩=some (.string x)→NF w b→NF w' b
theorem VY.cells {g g':Gh} {w w':World} (hl:Cells g w g' w') (b:Nat):∀(s:List UInt8) (o:Nat),VY g w b o s→VY g' w' b o s
 | [],_,_=>trivial
 | _::s,o,h=>⟨hl.st _ _ h.1,(hl.cell _ _ h.1).trans h.2.1,VY.cells hl b s (o+1) h.2.2⟩
mutual
theorem V.noP {g g':Gh} {w w':World} (hl:Cells g w g' w'):∀(a:AV) (v:Value),noP a=true→V g w a v→V g' w' a v
 | .U,_,_,_=>by simp [V]
 | .I _ _,_,_,h=>by simpa [V] using h
 | .B _,_,_,h=>by simpa [V] using h
 | .S _,_,_,h=>by simpa [V] using h
 | .A cs,_,hp,h=>by
  simp only [V,Vm.noP] at h hp ⊢
  obtain ⟨vs,hv,hs⟩:=h
  exact ⟨vs,hv,VS.noP hl cs vs hp hs⟩
 | .L n xs,_,hp,h=>by
  simp only [V,Vm.noP] at h hp ⊢
  obtain ⟨a,len,cap,hv,hn,hb,hr⟩:=h
  refine ⟨a,len,cap,hv,hn,hb,hr.imp id ?_⟩
  rintro ⟨b,o,ha,hr⟩
  exact ⟨b,o,ha,VR.noP hl n b xs o hp hr⟩
 | .Y s,_,_,h=>by
  simp only [V] at h ⊢
  obtain ⟨a,len,cap,hv,hn,hb,hr⟩:=h
  refine ⟨a,len,cap,hv,hn,hb,hr.imp id ?_⟩
  rintro ⟨b,o,ha,hr⟩
  exact ⟨b,o,ha,VY.cells hl b s o hr⟩
 | .P _ _,_,hp,_=>by simp [Vm.noP] at hp
 | .N,_,_,h=>by simpa [V] using h
 | .F fn fs cs,_,hp,h=>by
  simp only [V,Vm.noP,Bool.and_eq_true] at h hp ⊢
  obtain ⟨vf,vc,hv,h1,h2⟩:=h
  exact ⟨vf,vc,hv,VT.noP hl fs vf hp.1 h1,VT.noP hl cs vc hp.2 h2⟩
 | .F0,_,_,h=>by simpa [V] using h
 | .X t a,_,hp,h=>by
  simp only [V,Vm.noP] at h hp ⊢
  obtain ⟨u,hv,hu⟩:=h
  exact ⟨u,hv,V.noP hl a u hp hu⟩
 | .X0,_,_,h=>by simpa [V] using h
 | .T as,_,hp,h=>by
  simp only [V,Vm.noP] at h hp ⊢
  obtain ⟨vs,hv,hs⟩:=h
  exact ⟨vs,hv,VT.noP hl as vs hp hs⟩
 | .M _,_,hp,_=>by simp [Vm.noP] at hp
 | .M0,_,_,h=>by simpa [V] using h
 | .Q cs,_,hp,h=>by
  simp only [V,Vm.noP] at h hp ⊢
  obtain ⟨b,o,hv,hs,hf⟩:=h
  refine ⟨b,o,hv,VC.noP hl b cs o hp hs,?_⟩
  rintro s r rfl
  simp only [VC,V] at hs
  obtain ⟨h1,⟨u,h2,⟨h3,_⟩,_⟩,_⟩:=hs
  exact hl.nf b o _ h1 (h3▸h2) (hf s r rfl)
 | .W _,_,hp,_=>by simp [Vm.noP] at hp
theorem VS.noP {g g':Gh} {w w':World} (hl:Cells g w g' w'):∀(as:List AV) (vs:List Value),noPs as=true→VS g w as vs→VS g' w' as vs
 | [],_,_,h=>by simpa [VS] using h
 | a::as,_,hp,h=>by
  simp only [VS,noPs,Bool.and_eq_true] at h hp ⊢
  obtain ⟨u,us,hv,hu,h1,hs⟩:=h
  exact ⟨u,us,hv,V.noP hl a u hp.1 hu,h1,VS.noP hl as us hp.2 hs⟩
theorem VT.noP {g g':Gh} {w w':World} (hl:Cells g w g' w'):∀(as:List AV) (vs:List Value),noPs as=true→VT g w as vs→VT g' w' as vs
 | [],_,_,h=>by simpa [VT] using h
 | a::as,_,hp,h=>by
  simp only [VT,noPs,Bool.and_eq_true] at h hp ⊢
  obtain ⟨u,us,hv,hu,hs⟩:=h
  exact ⟨u,us,hv,V.noP hl a u hp.1 hu,VT.noP hl as us hp.2 hs⟩
theorem VR.noP {g g':Gh} {w w':World} (hl:Cells g w g' w') (n b:Nat):∀(xs:List (List AV)) (o:Nat),noPss xs=true→VR g w n b o xs→VR g' w' n b o xs
 | [],_,_,_=>by simp [VR]
 | x::xs,o,hp,h=>by
  simp only [VR,noPss,Bool.and_eq_true] at h hp ⊢
  exact ⟨h.1,VC.noP hl b x o hp.1 h.2.1,VR.noP hl n b xs (o+n) hp.2 h.2.2⟩
theorem VC.noP {g g':Gh} {w w':World} (hl:Cells g w g' w') (b:Nat):∀(as:List AV) (o:Nat),noPs as=true→VC g w b o as→VC g' w' b o as
 | [],_,_,_=>by simp [VC]
 | a::as,o,hp,h=>by
  simp only [VC,noPs,Bool.and_eq_true] at h hp ⊢
  obtain ⟨hs,⟨u,hc,hu,h1⟩,hr⟩:=h
  exact ⟨hl.st _ _ hs,⟨u,(hl.cell _ _ hs).trans hc,V.noP hl a u hp.1 hu,h1⟩,VC.noP hl b as (o+1) hp.2 hr⟩
end
def GV (g:Gh) (w:World) (b:Nat) (cs:List AV):Prop:=if b<1000 then VC g w b 0 cs∧g.st b cs.length∧w.cell? ⟨b,cs.length,none⟩=none
 else ∃t k o:Nat,cs=[.I .i64 t, .I .i64 k, .I .i64 o]∧g.st (b-1000) 0∧w.cell? ⟨b-1000,0,none⟩=some (.iface t (.agg #[.pointer (some ⟨k,o,none⟩)]))
theorem GV.low {g:Gh} {w:World} {b:Nat} {cs:List AV} (hb:b<1000) (h:GV g w b cs):VC g w b 0 cs∧g.st b cs.length∧w.cell? ⟨b,cs.length,none⟩=none:=by
 unfold GV at h
 rwa [if_pos hb] at h
theorem GV.later {g g':Gh} {w w':World} (hl:Later g w g' w') (b:Nat) (cs:List AV) (h:GV g w b cs):GV g' w' b cs:=by
 unfold GV at h ⊢
 split
 ·rename_i hb
  rw [if_pos hb] at h
  exact ⟨VC.later hl b cs 0 h.1,hl.st _ _ h.2.1,(hl.cell _ _ h.2.1).trans h.2.2⟩
 ·rename_i hb
  rw [if_neg hb] at h
  obtain ⟨t,k,o,h1,h2,h3⟩:=h
  exact ⟨t,k,o,h1,hl.st _ _ h2,(hl.cell _ _ h2).trans h3⟩
theorem GV.noP {g g':Gh} {w w':World} (hl:Cells g w g' w') (b:Nat) (cs:List AV) (hn:noPs cs=true) (h:GV g w b cs):GV g' w' b cs:=by
 unfold GV at h ⊢
 split
 ·rename_i hb
  rw [if_pos hb] at h
  exact ⟨VC.noP hl b cs 0 hn h.1,hl.st _ _ h.2.1,(hl.cell _ _ h.2.1).trans h.2.2⟩
 ·rename_i hb
  rw [if_neg hb] at h
  obtain ⟨t,k,o,h1,h2,h3⟩:=h
  exact ⟨t,k,o,h1,hl.st _ _ h2,(hl.cell _ _ h2).trans h3⟩
end Go.Vm
namespace Go.Vm
open Go
def Callable (P:Program) (f:FuncId):Prop:=∃fn,P.funcs[f]? = some fn∧fn.body.isSome=true∧fn.name ≠ "runtime.NumGoroutine"
theorem Callable.run {P:Program} {f:FuncId} (h:Callable P f) (args:Array Value) (w:World):(callFunc f args).run P w = .ok (.enter f args) w:=by
 obtain ⟨fn2,h1,h2,h3⟩:=h
 have h4:fn2.body≠none:=by cases e:fn2.body<;>simp_all
 simp [callFunc,h1,h3,h4]
def ncell:Obj→Bool
 | .cells .. => false
 | _=>true
theorem put_later {W:World} {L:Nat} {o o':Obj} (h:W.heap[L]? = some o) (ho:ncell o=true) (ho':ncell o'=true) (b i:Nat):(W.putObj L o').cell? ⟨b,i,none⟩=W.cell? ⟨b,i,none⟩:=by
 have hlt:L<W.heap.size:=(Array.getElem?_eq_some_iff.1 h).1
 by_cases e:b=L
 ·subst e
  simp only [World.cell?,World.putObj_heap_same hlt,h]
  cases o<;>cases o'<;>simp_all [ncell]
 ·simp only [World.cell?,World.putObj_heap_other e]
end Go.Vm
namespace Go.Vm
open Go
def OwnB (g:Gh) (o:Own) (ex:Bool) (len:Nat) (u:Value):Prop:=
 ∀b,u.ownBlock=some b→g.ow b=some o∧∀i,g.st b i↔(ex=false∧i<len)
def SR (g:Gh) (w:World) (o:Own) (c:SC) (ex:Bool) (u:Value):Prop:=match c with
 | .e t n xs=>∃vals,w.ownsRow 0 t n u xs.length vals∧0<n∧(∀x∈xs,x.length=n)∧VS g w xs.flatten vals∧OwnB g o ex (xs.length*n) u
 | .y t s=>w.ownsRow 0 t 1 u s.length (s.map fun x=>Value.int .u8 x.toNat)∧OwnB g o ex s.length u
def HVR (g:Gh) (w:World) (o:Own):HV→Value→Prop
 | .a v,u=>V g w v u∧u.oneCell'=true
 | .g c,u=>SR g w o c false u
 | .z _,_=>False
def HVC (g:Gh) (w:World) (o:Own) (t:TypeId) (x:HV) (u:Value):Prop:=HVR g w o x u∨(x = .z t∧u = .pointer none)
structure BoxR (g:Gh) (w:World) (o:Own) (co:Nat→Own) (b:Nat) (cs:List HV):Prop where
 ow:g.ow b=some o
 st:∀i,¬g.st b i
 row:∃arr t,w.heap[b]? = some (.cells arr t (0,0))∧arr.size=cs.length∧∀i x,cs[i]? = some x→∃u,arr[i]? = some u∧HVC g w (co i) t x u
def ER (g:Gh) (w:World):List (AV×AV)→List MapEntry→Prop
 | [],ms=>ms=[]
 | p::es,ms=>∃e r,ms=e::r∧V g w p.1 e.key∧V g w p.2 e.val∧ER g w es r
theorem ER.later {g g':Gh} {w w':World} (hl:Later g w g' w'):∀(es:List (AV×AV)) (ms:List MapEntry),ER g w es ms→ER g' w' es ms
 | [],_,h=>h
 | p::es,_,⟨e,r,h,h1,h2,h3⟩=>⟨e,r,h,V.later hl _ _ h1,V.later hl _ _ h2,ER.later hl es r h3⟩
theorem ER.length {g:Gh} {w:World} : ∀(es:List (AV×AV)) (ms:List MapEntry),ER g w es ms→ms.length=es.length
 | [],_,h=>by rw [show _=[] from h];rfl
 | p::es,_,⟨e,r,h,_,_,h3⟩=>by rw [h,List.length_cons,List.length_cons,ER.length es r h3]
structure Born (ms:List MapEntry) (clock:Nat):Prop where
 ids:ms.map (·.born)=List.range ms.length
 clk:clock=ms.length
theorem Born.at {ms:List MapEntry} {clock:Nat} (h:Born ms clock) {j:Nat} {e:MapEntry} (hj:ms[j]? = some e):e.born=j:=by
 have hl:=(List.getElem?_eq_some_iff.1 hj).1
 have h1:(ms.map (·.born))[j]? = some e.born:=by rw [List.getElem?_map,hj];rfl
 rw [h.ids,List.getElem?_range hl] at h1
 exact (Option.some.inj h1).symm
theorem Born.pair {ms:List MapEntry} {clock:Nat} (h:Born ms clock):ms.Pairwise (fun x y=>x.born<y.born):=by
 have h1:=List.pairwise_lt_range (n:=ms.length)
 rw [←h.ids] at h1
 exact List.pairwise_map.1 h1
theorem Born.lt {ms:List MapEntry} {clock:Nat} (h:Born ms clock):∀e∈ms,e.born<clock:=by
 intro e he
 have h1:e.born∈ms.map (·.born):=List.mem_map.2 ⟨e,he,rfl⟩
 rw [h.ids,List.mem_range] at h1
 rw [h.clk]
 exact h1
theorem Born.push {ms:List MapEntry} {clock:Nat} (h:Born ms clock) {k v:Value} : Born (ms++[{ key:=k,val:=v,born:=clock }]) (clock+1):=by
 refine ⟨?_,by simp [h.clk]⟩
 rw [List.map_append,h.ids,List.length_append,List.length_singleton,List.range_succ,h.clk]
 rfl
theorem born_modify {l:List MapEntry} {j:Nat} {F:MapEntry→MapEntry} (hF:∀x,(F x).born=x.born):(l.modify j F).map (·.born)=l.map (·.born):=by
 induction l generalizing j with
 | nil=>simp
 | cons x l ih=>
  cases j with
  | zero=>simp [hF]
  | succ j=>simp [ih]
theorem Born.mod {ms:List MapEntry} {clock:Nat} (h:Born ms clock) {j:Nat} {F:MapEntry→MapEntry} (hF:∀x,(F x).born=x.born):Born (ms.modify j F) clock:=by
 refine ⟨?_,by rw [List.length_modify];exact h.clk⟩
 rw [born_modify hF,List.length_modify]
 exact h.ids
structure MapR (g:Gh) (w:World) (o:Own) (b:Nat) (es:List (AV×AV)):Prop where
 ow:g.ow b=some o
 st:∀i,¬g.st b i
 row:∃(mes:Array MapEntry) (clock:Nat),w.heap[b]? = some (.map mes clock)∧ER g w (lives es) mes.toList∧(dirty es=false→Born mes.toList clock)
theorem lives_of {es:List (AV×AV)} (h:dirty es=false):lives es=es:=by
 cases es with
 | nil=>rfl
 | cons p es=>
  obtain ⟨a,b⟩:=p
  cases a<;>first | rfl | cases h
theorem lives_marked (d:Bool) (es:List (AV×AV)) (hd:d=false→dirty es=false):lives (marked d es)=es:=by
 cases d
 ·exact lives_of (hd rfl)
 ·rfl
theorem dirty_marked {d:Bool} {es:List (AV×AV)} (hd:d=false→dirty es=false):dirty (marked d es)=d:=by
 cases d
 ·exact hd rfl
 ·rfl
structure ArrR (g:Gh) (w:World) (o:Own) (b:Nat) (u:Value) (t:TypeId) (n:Nat) (xs:List (List AV)):Prop where
 sr:SR g w o (.e t n xs) true u
 bl:∀b',u.ownBlock=some b'→b'=b
structure Chg (B:Nat→Prop) (g:Gh) (w:World) (g':Gh) (w':World):Prop where
 later:Later g w g' w'
 size:w.heap.size≤w'.heap.size
 blk:∀b,b<w.heap.size→¬B b→w'.heap[b]? = w.heap[b]?
 ow:∀b,b<w.heap.size→¬B b→g'.ow b=g.ow b
 st:∀b i,b<w.heap.size→¬B b→g'.st b i→g.st b i
 os:w'.os=w.os
 tape:w'.tape=w.tape
 out:w'.output=w.output
theorem Chg.refl (B:Nat→Prop) (g:Gh) (w:World):Chg B g w g w:=
 ⟨Later.refl g w,Nat.le_refl _,fun _ _ _=>rfl,fun _ _ _=>rfl,fun _ _ _ _ h=>h,rfl,rfl,rfl⟩
theorem Chg.mono {B B':Nat→Prop} {g g':Gh} {w w':World} (h:Chg B g w g' w') (hB:∀b,b<w.heap.size→B b→B' b):Chg B' g w g' w':=
 ⟨h.later,h.size,fun b hb hn=>h.blk b hb (fun x=>hn (hB b hb x)),fun b hb hn=>h.ow b hb (fun x=>hn (hB b hb x)),fun b i hb hn=>h.st b i hb (fun x=>hn (hB b hb x)),h.os,h.tape,h.out⟩
theorem Chg.trans {B B':Nat→Prop} {g g' g'':Gh} {w w' w'':World} (h:Chg B g w g' w') (k:Chg B' g' w' g'' w'')
  (hB:∀b,b<w.heap.size→B' b→B b):Chg B g w g'' w'' where
 later:=h.later.trans k.later
 size:=Nat.le_trans h.size k.size
 blk b hb hn:=(k.blk b (Nat.lt_of_lt_of_le hb h.size) (fun x=>hn (hB b hb x))).trans (h.blk b hb hn)
 ow b hb hn:=(k.ow b (Nat.lt_of_lt_of_le hb h.size) (fun x=>hn (hB b hb x))).trans (h.ow b hb hn)
 st b i hb hn x:=h.st b i hb hn (k.st b i (Nat.lt_of_lt_of_le hb h.size) (fun x=>hn (hB b hb x)) x)
 os:=k.os.trans h.os
 tape:=k.tape.trans h.tape
 out:=k.out.trans h.out
section
variable {B:Nat→Prop} {g g':Gh} {w w':World}
theorem ownBlock_lt {t:TypeId} {n k:Nat} {u:Value} {vals:List Value} (h:w.ownsRow 0 t n u k vals) {b:Nat} (hb:u.ownBlock=some b):b<w.heap.size:=(h.lt b hb).2
theorem ownsRow_chg (h:Chg B g w g' w') {t:TypeId} {n k:Nat} {u:Value} {vals:List Value} (hr:w.ownsRow 0 t n u k vals) (hn:∀b,u.ownBlock=some b→¬B b):w'.ownsRow 0 t n u k vals:=by
 refine ⟨hr.1,?_⟩
 rcases hr.2 with hz | ⟨b,cap,cur,rfl,h0,hb,rest⟩
 ·exact .inl hz
 ·refine .inr ⟨b,cap,cur,rfl,h0,?_,rest⟩
  rw [h.blk b (Array.getElem?_eq_some_iff.1 hb).1 (hn b rfl)]
  exact hb
theorem OwnB.chg (h:Chg B g w g' w') {o:Own} {ex:Bool} {len:Nat} {u:Value} (hlt:∀b,u.ownBlock=some b→b<w.heap.size) (ho:OwnB g o ex len u) (hn:∀b,u.ownBlock=some b→¬B b):OwnB g' o ex len u:=by
 intro b hb
 obtain ⟨h1,h2⟩:=ho b hb
 refine ⟨(h.ow b (hlt b hb) (hn b hb)).trans h1,fun i=>⟨fun x=>(h2 i).1 (h.st b i (hlt b hb) (hn b hb) x),fun x=>h.later.st b i ((h2 i).2 x)⟩⟩
theorem SR.chg (h:Chg B g w g' w') {o:Own} {c:SC} {ex:Bool} {u:Value} (hs:SR g w o c ex u) (hn:∀b,u.ownBlock=some b→¬B b):SR g' w' o c ex u:=by
 cases c with
 | e t n xs=>
  obtain ⟨vals,h1,h2,h3,h4,h5⟩:=hs
  exact ⟨vals,ownsRow_chg h h1 hn,h2,h3,VS.later h.later _ _ h4,h5.chg h (fun b hb=>ownBlock_lt h1 hb) hn⟩
 | y t s=>
  obtain ⟨h1,h5⟩:=hs
  exact ⟨ownsRow_chg h h1 hn,h5.chg h (fun b hb=>ownBlock_lt h1 hb) hn⟩
theorem SR.owner {o:Own} {c:SC} {ex:Bool} {u:Value} (hs:SR g w o c ex u) {b:Nat} (hb:u.ownBlock=some b):g.ow b=some o∧b<w.heap.size:=by
 cases c with
 | e t n xs=>obtain ⟨vals,h1,_,_,_,h5⟩:=hs;exact ⟨(h5 b hb).1,ownBlock_lt h1 hb⟩
 | y t s=>obtain ⟨h1,h5⟩:=hs;exact ⟨(h5 b hb).1,ownBlock_lt h1 hb⟩
theorem SR.chgO (h:Chg B g w g' w') {o:Own} {c:SC} {ex:Bool} {u:Value} (hs:SR g w o c ex u) (hn:∀b,B b→g.ow b≠some o):SR g' w' o c ex u:=
 hs.chg h fun b hb hB=>hn b hB (hs.owner hb).1
theorem HVR.chgO (h:Chg B g w g' w') {o:Own} {x:HV} {u:Value} (hs:HVR g w o x u) (hn:∀b,B b→g.ow b≠some o):HVR g' w' o x u:=by
 cases x with
 | a v=>exact ⟨V.later h.later _ _ hs.1,hs.2⟩
 | g c=>exact SR.chgO h hs hn
 | z t=>exact hs
theorem HVC.chgO (h:Chg B g w g' w') {o:Own} {t:TypeId} {x:HV} {u:Value} (hs:HVC g w o t x u) (hn:∀b,B b→g.ow b≠some o):HVC g' w' o t x u:=
 hs.imp (fun k=>k.chgO h hn) id
theorem BoxR.lt {o:Own} {co:Nat→Own} {b:Nat} {cs:List HV} (hs:BoxR g w o co b cs):b<w.heap.size:=by
 obtain ⟨arr,t,h1,_⟩:=hs.row
 exact (Array.getElem?_eq_some_iff.1 h1).1
theorem MapR.lt {o:Own} {b:Nat} {es:List (AV×AV)} (hs:MapR g w o b es):b<w.heap.size:=by
 obtain ⟨mes,t,h1,_⟩:=hs.row
 exact (Array.getElem?_eq_some_iff.1 h1).1
theorem MapR.chgO (h:Chg B g w g' w') {o:Own} {b:Nat} {es:List (AV×AV)} (hs:MapR g w o b es) (hn:∀b,B b→g.ow b≠some o):MapR g' w' o b es:=by
 have hb:¬B b:=fun x=>hn b x hs.ow
 obtain ⟨mes,clock,h1,h2,h3⟩:=hs.row
 exact ⟨(h.ow b hs.lt hb).trans hs.ow,fun i x=>hs.st i (h.st b i hs.lt hb x),mes,clock,by rw [h.blk b hs.lt hb];exact h1,h2.later h.later,h3⟩
theorem ArrR.chgO (h:Chg B g w g' w') {o:Own} {b:Nat} {u:Value} {t:TypeId} {n:Nat} {xs:List (List AV)} (hs:ArrR g w o b u t n xs) (hn:∀b,B b→g.ow b≠some o):ArrR g' w' o b u t n xs:=
 ⟨SR.chgO h hs.sr hn,hs.bl⟩
theorem BoxR.chgO (h:Chg B g w g' w') {o:Own} {co:Nat→Own} {b:Nat} {cs:List HV} (hs:BoxR g w o co b cs) (hn:∀b,B b→g.ow b≠some o) (hc:∀i b,B b→g.ow b≠some (co i)):BoxR g' w' o co b cs:=by
 have hb:¬B b:=fun x=>hn b x hs.ow
 obtain ⟨arr,t,h1,h2,h3⟩:=hs.row
 refine ⟨(h.ow b hs.lt hb).trans hs.ow,fun i x=>hs.st i (h.st b i hs.lt hb x),arr,t,by rw [h.blk b hs.lt hb];exact h1,h2,fun i x hx => ?_⟩
 obtain ⟨u,hu,hr⟩:=h3 i x hx
 exact ⟨u,hu,HVC.chgO h hr (hc i)⟩
end
theorem VR_of {g:Gh} {w:World} {n b:Nat} : ∀(xs:List (List AV)) (o:Nat) (vals:List Value),(∀x∈xs,x.length=n)→VS g w xs.flatten vals →
  (∀j u,vals[j]? = some u→w.cell? ⟨b,o+j,none⟩=some u∧g.st b (o+j))→VR g w n b o xs:=by
 have hc:∀(as:List AV) (o:Nat) (us rest:List Value) (l:List AV),VS g w (as++l) us→(∀j u,us[j]? = some u→w.cell? ⟨b,o+j,none⟩=some u∧g.st b (o+j)) →
   VC g w b o as∧∃r,us=us.take as.length++r∧VS g w l r∧∀j u,r[j]? = some u→w.cell? ⟨b,o+as.length+j,none⟩=some u∧g.st b (o+as.length+j):=by
  intro as
  induction as with
  | nil=>intro o us rest l h hcell;exact ⟨by simp [VC],us,by simp,by simpa using h,by simpa using hcell⟩
  | cons a as ih=>
   intro o us rest l h hcell
   simp only [List.cons_append,VS] at h
   obtain ⟨u,us',rfl,hu,h1,hs⟩:=h
   have h0:=hcell 0 u (by simp)
   obtain ⟨hv,r,hr,hl,hcr⟩:=ih (o+1) us' rest l hs (fun j x hx=>by
    have:=hcell (j+1) x (by simpa using hx)
    rw [show o+(j+1)=o+1+j by omega] at this
    exact this)
   refine ⟨?_,r,?_,hl,?_⟩
   ·simp only [VC]
    exact ⟨by simpa using h0.2,⟨u,by simpa using h0.1,hu,h1⟩,hv⟩
   ·simp only [List.length_cons,List.take_succ_cons,List.cons_append]
    rw [←hr]
   ·intro j x hx
    have:=hcr j x hx
    simp only [List.length_cons]
    rw [show o+(as.length+1)+j=o+1+as.length+j by omega]
    exact this
 intro xs
 induction xs with
 | nil=>intro o vals _ _ _;simp [VR]
 | cons x xs ih=>
  intro o vals hl hv hcell
  simp only [List.flatten_cons] at hv
  obtain ⟨h1,r,_,h3,h4⟩:=hc x o vals [] xs.flatten hv hcell
  have hx:x.length=n:=hl x (by simp)
  simp only [VR]
  refine ⟨hx,h1,ih (o+n) r (fun y hy=>hl y (by simp [hy])) h3 ?_⟩
  rw [hx] at h4
  exact h4
theorem VS.length {g:Gh} {w:World} : ∀(as:List AV) (vs:List Value),VS g w as vs→vs.length=as.length
 | [],_,h=>by simp only [VS] at h;simp [h]
 | _::as,_,h=>by
  simp only [VS] at h
  obtain ⟨u,us,rfl,_,_,hs⟩:=h
  simp [VS.length as us hs]
theorem VY_of {g:Gh} {w:World} {b:Nat} : ∀(s:List UInt8) (o:Nat),(∀j x,s[j]? = some x→w.cell? ⟨b,o+j,none⟩=some (.int .u8 x.toNat)∧g.st b (o+j))→VY g w b o s
 | [],_,_=>trivial
 | x::s,o,h=>by
  have h0:=h 0 x (by simp)
  refine ⟨by simpa using h0.2,by simpa using h0.1,VY_of s (o+1) fun j y hy => ?_⟩
  have:=h (j+1) y (by simpa using hy)
  rw [show o+(j+1)=o+1+j by omega] at this
  exact this
theorem Addr.add_zero_off (g j:Nat):(⟨g,0,none⟩:Addr).add j=⟨g,j,none⟩:=by
 unfold Addr.add;split<;>simp_all
theorem ArrR.head {g:Gh} {w:World} {o:Own} {b:Nat} {u:Value} {t:TypeId} {n:Nat} {xs:List (List AV)} (h:ArrR g w o b u t n xs) (hx:0<xs.length):∃b' cap,u = .slice (some ⟨b',0,none⟩) xs.length cap∧b=b':=by
 obtain ⟨vals,h1,_⟩:=h.sr
 rcases h1.2 with ⟨_,h0⟩ | ⟨b',cap,cur,rfl,_⟩
 ·omega
 ·exact ⟨b',cap,rfl,(h.bl b' rfl).symm⟩
theorem ownsRow_len {w:World} {t:TypeId} {n k:Nat} {u:Value} {vals:List Value} (h:w.ownsRow 0 t n u k vals):∃a cap,u = .slice a k cap∧(k≤cap∧k≤9223372036854775807):=by
 rcases h.2 with ⟨rfl,rfl⟩ | ⟨b,cap,cur,rfl,_,_,h1,h2,_⟩
 ·exact ⟨none,0,rfl,by omega,by omega⟩
 ·exact ⟨_,cap,rfl,h1,by simp only [maxLen] at h2;omega⟩
theorem SR.toV {g:Gh} {w:World} {o:Own} {c:SC} {u:Value} (h:SR g w o c false u):V g w c.toAV u:=by
 cases c with
 | e t n xs=>
  obtain ⟨vals,h1,hn,h2,h3,h4⟩:=h
  obtain ⟨a,cap,rfl,hm⟩:=ownsRow_len h1
  simp only [SC.toAV,V]
  refine ⟨a,_,cap,rfl,rfl,hm,?_⟩
  rcases h1.2 with ⟨he,h0⟩ | ⟨b,cap',cur,he,_,hb,_⟩
  ·exact .inl (List.eq_nil_of_length_eq_zero h0)
  ·right
   simp only [Value.slice.injEq] at he
   obtain ⟨rfl,_,rfl⟩:=he
   refine ⟨b,0,rfl,VR_of xs 0 vals h2 h3 ?_⟩
   intro j x hx
   have hc:=h1.cells (g:=b) rfl j x hx
   rw [Addr.add_zero_off] at hc
   refine ⟨by simpa using hc,?_⟩
   have hlt:j<vals.length:=(List.getElem?_eq_some_iff.1 hx).1
   rw [h1.1] at hlt
   simpa using ((h4 b rfl).2 j).2 ⟨rfl,hlt⟩
 | y t s=>
  obtain ⟨h1,h4⟩:=h
  obtain ⟨a,cap,rfl,hm⟩:=ownsRow_len h1
  simp only [SC.toAV,V]
  refine ⟨a,_,cap,rfl,rfl,hm,?_⟩
  rcases h1.2 with ⟨he,h0⟩ | ⟨b,cap',cur,he,_,hb,_⟩
  ·exact .inl (List.eq_nil_of_length_eq_zero h0)
  ·right
   simp only [Value.slice.injEq] at he
   obtain ⟨rfl,_,rfl⟩:=he
   refine ⟨b,0,rfl,VY_of s 0 ?_⟩
   intro j x hx
   have hc:=h1.cells (g:=b) rfl j (.int .u8 x.toNat) (by simp [hx])
   rw [Addr.add_zero_off] at hc
   refine ⟨by simpa using hc,?_⟩
   have hlt:j<s.length:=(List.getElem?_eq_some_iff.1 hx).1
   simpa using ((h4 b rfl).2 j).2 ⟨rfl,hlt⟩
def Gh.stay (g:Gh) (b len:Nat):Gh := { g with st:=fun b' i=>g.st b' i∨(b'=b∧i<len) }
theorem Gh.stay_chg (g:Gh) (w:World) (b len:Nat):Chg (· = b) g w (g.stay b len) w where
 later:=⟨Nat.le_refl _,fun _ _=>rfl,fun _ _ h => .inl h,fun _ _ _=>rfl,fun _ _ _ _ _ h=>h⟩
 size:=Nat.le_refl _
 blk _ _ _:=rfl
 ow _ _ _:=rfl
 st b' i _ hn h:=by
  rcases h with h | h
  ·exact h
  ·exact absurd h.1 hn
 os:=rfl
 tape:=rfl
 out:=rfl
def SC.cells:SC→Nat
 | .e _ n xs=>xs.length*n
 | .y _ s=>s.length
theorem SR.freeze {g:Gh} {w:World} {o:Own} {c:SC} {u:Value} (h:SR g w o c true u) :
  ∃g',Chg (fun b=>g.ow b=some o) g w g' w∧SR g' w o c false u∧g'.n=g.n∧g'.ow=g.ow:=by
 cases hb:u.ownBlock with
 | none=>
  refine ⟨g,Chg.refl _ g w,?_,rfl,rfl⟩
  cases c with
  | e t n xs=>
   obtain ⟨vals,h1,h2,h3,h4,h5⟩:=h
   exact ⟨vals,h1,h2,h3,h4,fun b hb'=>by simp [hb] at hb'⟩
  | y t s=>
   obtain ⟨h1,h5⟩:=h
   exact ⟨h1,fun b hb'=>by simp [hb] at hb'⟩
 | some b=>
  have hown:=h.owner hb
  have hch:=(Gh.stay_chg g w b c.cells).mono (B':=fun b=>g.ow b=some o) (fun b' _ e=>by subst e;exact hown.1)
  refine ⟨g.stay b c.cells,hch,?_,rfl,rfl⟩
  cases c with
  | e t n xs=>
   obtain ⟨vals,h1,h2,h3,h4,h5⟩:=h
   refine ⟨vals,h1,h2,h3,VS.later hch.later _ _ h4,fun b' hb' => ?_⟩
   rw [hb] at hb'
   cases hb'
   refine ⟨(h5 b hb).1,fun i=>⟨fun x=>⟨rfl,?_⟩,fun x => .inr ⟨rfl,x.2⟩⟩⟩
   rcases x with x | x
   ·have:=((h5 b hb).2 i).1 x;simp at this
   ·exact x.2
  | y t s=>
   obtain ⟨h1,h5⟩:=h
   refine ⟨h1,fun b' hb' => ?_⟩
   rw [hb] at hb'
   cases hb'
   refine ⟨(h5 b hb).1,fun i=>⟨fun x=>⟨rfl,?_⟩,fun x => .inr ⟨rfl,x.2⟩⟩⟩
   rcases x with x | x
   ·have:=((h5 b hb).2 i).1 x;simp at this
   ·exact x.2
section
variable {g:Gh} {w:World}
theorem HVR.toV {o:Own} {x:HV} {u:Value} (h:HVR g w o x u):V g w x.toAV u∧u.oneCell'=true:=by
 cases x with
 | a v=>exact h
 | g c=>
  refine ⟨SR.toV h,?_⟩
  cases c with
  | e t n xs=>
   obtain ⟨vals,hrow,_⟩:=h
   obtain ⟨ad,cap,q1,q2⟩:=ownsRow_len hrow
   rw [q1];rfl
  | y t sb=>
   obtain ⟨hrow,_⟩:=h
   obtain ⟨ad,cap,q1,q2⟩:=ownsRow_len hrow
   rw [q1];rfl
 | z t=>exact h.elim
theorem HVC.toV {o:Own} {t:TypeId} {x:HV} {u:Value} (h:HVC g w o t x u):V g w x.toAV u∧u.oneCell'=true:=by
 rcases h with h | ⟨rfl,rfl⟩
 ·exact h.toV
 ·exact ⟨rfl,rfl⟩
def HV0 (g:Gh) (w:World):HV→Value→Prop
 | .a v,u=>V g w v u∧u.oneCell'=true
 | .g c,u=>u = .slice none 0 0∧c.len=0∧0<c.width
 | .z _,_=>False
theorem SR_empty {c:SC} (o:Own) (ex:Bool) (h0:c.len=0) (hw:0<c.width):SR g w o c ex (.slice none 0 0):=by
 cases c with
 | e t n xs=>
  have hx:xs=[]:=List.eq_nil_of_length_eq_zero h0
  subst hx
  exact ⟨[],⟨by simp, .inl ⟨rfl,rfl⟩⟩,hw,fun x hx=>(by cases hx),by simp [VS],fun b hb=>by simp [Value.ownBlock] at hb⟩
 | y t s=>
  have hx:s=[]:=List.eq_nil_of_length_eq_zero h0
  subst hx
  exact ⟨⟨by simp, .inl ⟨rfl,rfl⟩⟩,fun b hb=>by simp [Value.ownBlock] at hb⟩
theorem HV0.hvr {x:HV} {u:Value} (h:HV0 g w x u) (o:Own):HVR g w o x u:=by
 cases x with
 | a v=>exact h
 | g c=>
  obtain ⟨rfl,h0,hw⟩:=h
  exact SR_empty o false h0 hw
 | z t=>exact h.elim
theorem HV0.later {g':Gh} {w':World} {x:HV} {u:Value} (h:HV0 g w x u) (hl:Later g w g' w'):HV0 g' w' x u:=by
 cases x with
 | a v=>exact ⟨V.later hl _ _ h.1,h.2⟩
 | g c=>exact h
 | z t=>exact h
theorem HV0.toV {x:HV} {u:Value} (h:HV0 g w x u):V g w x.toAV u∧u.oneCell'=true:=HVR.toV (h.hvr (.obj 0))
theorem zero_VS:∀(xs:List HV) (us:List Value),us.length=xs.length→(∀(i:Nat) (x:HV),xs[i]? = some x→∃u,us[i]? = some u∧HV0 g w x u)→VS g w (xs.map HV.toAV) us
 | [],us,hl,_=>by simp at hl;subst hl;simp [VS]
 | x::xs,[],hl,_=>by simp at hl
 | x::xs,u::us,hl,h=>by
  simp only [List.map_cons,VS]
  obtain ⟨u',hu',h0⟩:=h 0 x rfl
  simp at hu'
  subst hu'
  obtain ⟨v1,v2⟩:=h0.toV
  exact ⟨u,us,rfl,v1,v2,zero_VS xs us (by simpa using hl) fun i y hy=>by simpa using h (i+1) y (by simpa using hy)⟩
def AgR (g:Gh) (w:World) (cs:List HV) (us:List Value):Prop:=us.length=cs.length∧∀(i:Nat) (x:HV),cs[i]? = some x→∃v,us[i]? = some v∧HV0 g w x v
theorem AgR.later {g':Gh} {w':World} {cs:List HV} {us:List Value} (h:AgR g w cs us) (hl:Later g w g' w'):AgR g' w' cs us:=
 ⟨h.1,fun i x hx=>let ⟨v,h1,h2⟩:=h.2 i x hx;⟨v,h1,h2.later hl⟩⟩
theorem AgR.VS {cs:List HV} {us:List Value} (h:AgR g w cs us):VS g w (cs.map HV.toAV) us:=zero_VS cs us h.1 h.2
end
end Go.Vm
namespace Go.Vm
open Go
def LR (g:Gh) (w:World) (be:Nat→Nat) (hd:Nat→Value) (k:Nat) (l:LOv):Prop:=match l.lo with
 | .no=>True
 | .box _ cs=>BoxR g w (.box k) (.bcell k) (be k) cs
 | .arr c ex=>SR g w (.arr k) c ex (hd k)
structure HeapR (g:Gh) (w:World) (h:List HO):Prop where
 len:h.length=g.n
 lt:∀id,id<g.n→g.io id<w.heap.size
 obj:∀id cs,h[id]? = some (.cells cs)→BoxR g w (.obj id) (.cell id) (g.io id) cs
 map:∀id es,h[id]? = some (.map es)→MapR g w (.obj id) (g.io id) es
 arr:∀id t n xs,h[id]? = some (.arr t n xs)→ArrR g w (.obj id) (g.io id) (g.hdr id) t n xs
structure Fr where
 be:Nat→Nat
 hd:Nat→Value
structure Core (g:Gh) (w:World) (f:Fr) (s:St):Prop where
 heap:HeapR g w s.h
 loc:∀k,LR g w f.be f.hd k (s.loc k)
 wf:∀b i,g.st b i→b<w.heap.size
def VE (g:Gh) (w:World) (f:Fr) (s:St):EV→Value→Prop
 | .v a,u=>V g w a u
 | .nil,u=>u = .slice none 0 0
 | .lp k ver off,u=>ver≤(s.loc k).ver∧(ver=(s.loc k).ver→∀m cs,(s.loc k).lo = .box m cs→u = .pointer (some ⟨f.be k,off,none⟩))
 | .ls k ver,u=>ver≤(s.loc k).ver∧(ver=(s.loc k).ver→∀c ex,(s.loc k).lo = .arr c ex→u=f.hd k)
 | .le k ver i off,u=>ver≤(s.loc k).ver∧(ver=(s.loc k).ver→∀c ex,(s.loc k).lo = .arr c ex→i<c.len∧∃b,(f.hd k).ownBlock=some b∧u = .pointer (some ⟨b,i*c.width+off,none⟩))
 | .ep n cs off,u=>∃b o,u = .pointer (some ⟨b,o+off,none⟩)∧cs.length=n∧VC g w b o cs
 | .hb k ver m off x,u=>V g w x.toAV u∧ver≤(s.loc k).ver∧(ver=(s.loc k).ver→∀m' cs,(s.loc k).lo = .box m' cs→m≤m'∧(m=m'→cs[off]? = some x∧w.cell? ⟨f.be k,off,none⟩=some u))
 | .hh id off hv x,u=>V g w x.toAV u∧hv≤s.hv id∧(hv=s.hv id→∃cs,s.h[id]? = some (.cells cs)∧cs[off]? = some x∧w.cell? ⟨g.io id,off,none⟩=some u)
 | .ag cs,u=>∃us:List Value,u = .agg us.toArray∧AgR g w cs us
 | .un,u=>u=undef
 | .ub,u=>∃b,u = .bool b
 | .lw k ver off,u=>ver≤(s.loc k).ver∧(ver=(s.loc k).ver→∀c ex,(s.loc k).lo = .arr c ex→off≤c.len∧∃ad len cap,f.hd k = .slice ad len cap∧u = .slice (if cap=off then ad else ad.map (·.add (off*c.width))) (len-off) (cap-off))
def SiteStp (w w':World) (f f':Fr) (s s':St) (k:Nat):Prop:=
 (s.loc k).ver<(s'.loc k).ver ∨
 ((
  s'.loc k).ver=(s.loc k).ver∧f'.be k=f.be k∧f'.hd k=f.hd k ∧
  (∀m' cs',(s'.loc k).lo = .box m' cs'→∃m cs,(s.loc k).lo = .box m cs∧m≤m'∧(m=m'→cs'=cs∧∀i,w'.cell? ⟨f.be k,i,none⟩=w.cell? ⟨f.be k,i,none⟩)) ∧
  (∀c' ex',(s'.loc k).lo = .arr c' ex'→∃c ex,(s.loc k).lo = .arr c ex∧c'.len=c.len∧c'.width=c.width))
def ObjStp (g:Gh) (w w':World) (s s':St) (id:Nat):Prop:=
 s.hv id<s'.hv id∨(s'.hv id=s.hv id∧∀cs,s.h[id]? = some (.cells cs)→s'.h[id]? = some (.cells cs)∧∀i,w'.cell? ⟨g.io id,i,none⟩=w.cell? ⟨g.io id,i,none⟩)
structure Stp (g:Gh) (w:World) (f:Fr) (s:St) (g':Gh) (w':World) (f':Fr) (s':St):Prop where
 chg:Chg (fun b=>g.ow b≠none) g w g' w'
 site:∀k,SiteStp w w' f f' s s' k
 heap:∀id,ObjStp g w w' s s' id
theorem ObjStp.keep {g:Gh} {w w':World} {s s':St} {id:Nat} (h1:s'.hv=s.hv) (h2:s'.h=s.h) (h3:∀cs,s.h[id]? = some (.cells cs)→∀i,w'.cell? ⟨g.io id,i,none⟩=w.cell? ⟨g.io id,i,none⟩):ObjStp g w w' s s' id:=
 .inr ⟨by rw [h1],fun cs hc=>⟨by rw [h2];exact hc,h3 cs hc⟩⟩
theorem SiteStp.same {w w':World} {f f':Fr} {s s':St} {k:Nat} (h:s'.loc k=s.loc k) (hb:f'.be k=f.be k) (hh:f'.hd k=f.hd k)
  (hc:∀m cs,(s.loc k).lo = .box m cs→∀i,w'.cell? ⟨f.be k,i,none⟩=w.cell? ⟨f.be k,i,none⟩):SiteStp w w' f f' s s' k:=by
 right
 rw [h]
 refine ⟨rfl,hb,hh,fun m' cs' e=>⟨m',cs',e,Nat.le_refl _,fun _=>⟨rfl,hc m' cs' e⟩⟩,fun c' ex' e=>⟨c',ex',e,rfl,rfl⟩⟩
theorem Stp.refl (g:Gh) (w:World) (f:Fr) (s:St):Stp g w f s g w f s:=
 ⟨Chg.refl _ g w,fun _=>SiteStp.same rfl rfl rfl fun _ _ _ _=>rfl,fun _ => .inr ⟨rfl,fun _ h=>⟨h,fun _=>rfl⟩⟩⟩
theorem SiteStp.trans {w w' w'':World} {f f' f'':Fr} {s s' s'':St} {k:Nat} (h:SiteStp w w' f f' s s' k) (h':SiteStp w' w'' f' f'' s' s'' k):SiteStp w w'' f f'' s s'' k:=by
 rcases h with h | ⟨a1,a2,a3,a4,a5⟩
 ·rcases h' with h' | ⟨b1,_⟩
  ·exact .inl (Nat.lt_trans h h')
  ·exact .inl (by omega)
 ·rcases h' with h' | ⟨b1,b2,b3,b4,b5⟩
  ·exact .inl (by omega)
  ·refine .inr ⟨b1.trans a1,b2.trans a2,b3.trans a3,fun m'' cs'' e => ?_,fun c'' ex'' e => ?_⟩
   ·obtain ⟨m',cs',e',hm,hc⟩:=b4 _ _ e
    obtain ⟨m,cs,e0,hm0,hc0⟩:=a4 _ _ e'
    refine ⟨m,cs,e0,Nat.le_trans hm0 hm,fun eq => ?_⟩
    have e1:m=m':=by omega
    have e2:m'=m'':=by omega
    obtain ⟨p1,p2⟩:=hc0 e1
    obtain ⟨q1,q2⟩:=hc e2
    refine ⟨q1.trans p1,fun i => ?_⟩
    have:=q2 i
    rw [a2] at this
    exact this.trans (p2 i)
   ·obtain ⟨c',ex',e',h1,h2⟩:=b5 _ _ e
    obtain ⟨c,ex,e0,h3,h4⟩:=a5 _ _ e'
    exact ⟨c,ex,e0,h1.trans h3,h2.trans h4⟩
theorem Stp.trans {g g' g'':Gh} {w w' w'':World} {f f' f'':Fr} {s s' s'':St} (hlen:s.h.length=g.n) (h:Stp g w f s g' w' f' s') (h':Stp g' w' f' s' g'' w'' f'' s''):Stp g w f s g'' w'' f'' s'' where
 chg:=h.chg.trans h'.chg fun b hb hB hn=>hB ((h.chg.ow b hb (fun x=>x hn)).trans hn)
 site k:=(h.site k).trans (h'.site k)
 heap id:=by
  rcases h.heap id with a | ⟨a1,a2⟩
  ·rcases h'.heap id with b | ⟨b1,_⟩
   ·exact .inl (Nat.lt_trans a b)
   ·exact .inl (by omega)
  ·rcases h'.heap id with b | ⟨b1,b2⟩
   ·exact .inl (by omega)
   ·refine .inr ⟨b1.trans a1,fun cs hid => ?_⟩
    obtain ⟨p1,p2⟩:=a2 cs hid
    obtain ⟨q1,q2⟩:=b2 cs p1
    refine ⟨q1,fun i => ?_⟩
    have:=q2 i
    rw [h.chg.later.io id (by rw [←hlen];exact (List.getElem?_eq_some_iff.1 hid).1)] at this
    exact this.trans (p2 i)
theorem VE.stpL {g g':Gh} {w w':World} {f f':Fr} {s s':St} (hlen:s.h.length=g.n) (hlat:Later g w g' w') (hsite:∀k,SiteStp w w' f f' s s' k) (hheap:∀id,ObjStp g w w' s s' id) {e:EV} {u:Value} (hv:VE g w f s e u):VE g' w' f' s' e u:=by
 have ver:∀k,(s.loc k).ver≤(s'.loc k).ver:=fun k=>by
  rcases hsite k with a | a
  ·omega
  ·omega
 cases e with
 | v a=>exact V.later hlat a u hv
 | nil=>exact hv
 | lp k ver0 off=>
  obtain ⟨h1,h2⟩:=hv
  refine ⟨Nat.le_trans h1 (ver k),fun e m cs hb => ?_⟩
  rcases hsite k with a | ⟨a1,a2,a3,a4,a5⟩
  ·omega
  ·obtain ⟨m0,cs0,e0,_⟩:=a4 _ _ hb
   rw [a2]
   exact h2 (by omega) m0 cs0 e0
 | ls k ver0=>
  obtain ⟨h1,h2⟩:=hv
  refine ⟨Nat.le_trans h1 (ver k),fun e c ex hb => ?_⟩
  rcases hsite k with a | ⟨a1,a2,a3,a4,a5⟩
  ·omega
  ·obtain ⟨c0,ex0,e0,_⟩:=a5 _ _ hb
   rw [a3]
   exact h2 (by omega) c0 ex0 e0
 | le k ver0 i off=>
  obtain ⟨h1,h2⟩:=hv
  refine ⟨Nat.le_trans h1 (ver k),fun e c ex hb => ?_⟩
  rcases hsite k with a | ⟨a1,a2,a3,a4,a5⟩
  ·omega
  ·obtain ⟨c0,ex0,e0,l1,l2⟩:=a5 _ _ hb
   rw [a3,l1,l2]
   exact h2 (by omega) c0 ex0 e0
 | ep n cs off=>
  obtain ⟨b,o,h1,h2,h3⟩:=hv
  exact ⟨b,o,h1,h2,VC.later hlat b cs o h3⟩
 | hb k ver0 m off x=>
  obtain ⟨h0,h1,h2⟩:=hv
  refine ⟨V.later hlat _ _ h0,Nat.le_trans h1 (ver k),fun e m' cs hb => ?_⟩
  rcases hsite k with a | ⟨a1,a2,a3,a4,a5⟩
  ·omega
  ·obtain ⟨m0,cs0,e0,hm,hc⟩:=a4 _ _ hb
   obtain ⟨k1,k2⟩:=h2 (by omega) m0 cs0 e0
   refine ⟨Nat.le_trans k1 hm,fun eq => ?_⟩
   have e1:m0=m':=by omega
   obtain ⟨c1,c2⟩:=hc e1
   obtain ⟨d1,d2⟩:=k2 (by omega)
   rw [a2,c1]
   exact ⟨d1,(c2 off).trans d2⟩
 | hh id off hv0 x=>
  obtain ⟨h0,h1,h2⟩:=hv
  rcases hheap id with a | ⟨a1,a2⟩
  ·exact ⟨V.later hlat _ _ h0,by omega,fun e=>by omega⟩
  ·refine ⟨V.later hlat _ _ h0,by omega,fun e => ?_⟩
   obtain ⟨cs,c1,c2,c3⟩:=h2 (by omega)
   have hid:id<s.h.length:=(List.getElem?_eq_some_iff.1 c1).1
   obtain ⟨p1,p2⟩:=a2 cs c1
   refine ⟨cs,p1,c2,?_⟩
   rw [hlat.io id (by rw [←hlen];exact hid)]
   exact (p2 off).trans c3
 | ag cs=>
  obtain ⟨us,h1,h2⟩:=hv
  exact ⟨us,h1,h2.later hlat⟩
 | un=>exact hv
 | ub=>exact hv
 | lw k ver0 off=>
  obtain ⟨h1,h2⟩:=hv
  refine ⟨Nat.le_trans h1 (ver k),fun e c ex hb => ?_⟩
  rcases hsite k with a | ⟨a1,a2,a3,a4,a5⟩
  ·omega
  ·obtain ⟨c0,ex0,e0,l1,l2⟩:=a5 _ _ hb
   rw [a3,l1,l2]
   exact h2 (by omega) c0 ex0 e0
theorem VE.stp {g g':Gh} {w w':World} {f f':Fr} {s s':St} (hlen:s.h.length=g.n) (h:Stp g w f s g' w' f' s') {e:EV} {u:Value} (hv:VE g w f s e u):VE g' w' f' s' e u:=
 VE.stpL hlen h.chg.later h.site h.heap hv
structure NT where
 n:Nat
 fix:List Nat
 val:Nat→Value
 mks:Bool
def NT.ok (nt:NT) (x:Nat):Prop:=x<nt.n∧nt.fix.any (Nat.beq x)=false
def NT.ofm (n:Nat) (b:Bool):NT := { n,fix:=[],val:=fun _=>undef,mks:=b }
abbrev NT.of (n:Nat):NT:=NT.ofm n false
def Coll (w0:World) (g:Gh) (w:World) (D:Nat):Prop:=w0.heap.size≤D∧w.heap[D]? = some (.deferred (some []))∧g.ow D=none∧∀i,¬g.st D i
def Dfr (mk:Bool) (w0:World) (df:List Deferred) (g:Gh) (w:World) (l:List Deferred):Prop:=
 bif mk then ∃Ds:List Nat,l=Ds.map (fun D => { target := .collected D,args := #[] })++df∧Ds.Nodup∧∀D∈Ds,Coll w0 g w D else l=df
theorem Dfr.zero {mk:Bool} {w0:World} {df:List Deferred} {g:Gh} {w:World} : Dfr mk w0 df g w df:=by
 cases mk with
 | false=>exact (rfl:df=df)
 | true=>exact ⟨[],rfl,List.nodup_nil,fun _ h=>by cases h⟩
theorem Coll.chg {B:Nat→Prop} {g g':Gh} {w w':World} (h:Chg B g w g' w') (hB:∀b,B b→g.ow b≠none) {w0:World} {D:Nat} (hc:Coll w0 g w D):Coll w0 g' w' D:=by
 obtain ⟨h1,h2,h3,h4⟩:=hc
 have hlt:D<w.heap.size:=(Array.getElem?_eq_some_iff.1 h2).1
 have hn:¬B D:=fun x=>hB D x h3
 exact ⟨h1,(h.blk D hlt hn).trans h2,(h.ow D hlt hn).trans h3,fun i x=>h4 i (h.st D i hlt hn x)⟩
theorem Dfr.chg {B:Nat→Prop} {g g':Gh} {w w':World} (h:Chg B g w g' w') (hB:∀b,B b→g.ow b≠none) {mk:Bool} {w0:World} {df l:List Deferred} (hc:Dfr mk w0 df g w l):Dfr mk w0 df g' w' l:=by
 cases mk with
 | false=>exact hc
 | true=>
  obtain ⟨Ds,h1,h2,h3⟩:=hc
  exact ⟨Ds,h1,h2,fun D hD=>(h3 D hD).chg h hB⟩
structure Rel (C:Cx) (nt:NT) (g0:Gh) (w0:World) (g:Gh) (w:World) (f:Fr) (s:St) (a:Act):Prop where
 ext:Chg (fun b=>g0.ow b≠none) g0 w0 g w
 core:Core g w f s
 env:∀t,VE g w f s (s.env t) (a.tmps.getD t undef)
 glob:∀gi cs,C.glob gi=some cs→GV g w gi cs
 dfr:Dfr nt.mks w0 g0.df g w a.defers
 sz:nt.n≤a.tmps.size
 fixed:∀t,nt.fix.any (Nat.beq t)=true→a.tmps.getD t undef=nt.val t
theorem getD_put {a:Act} {d:Nat} {u:Value} (t:Nat) (hd:d<a.tmps.size):(a.put (some d) u).tmps.getD t undef=if t=d then u else a.tmps.getD t undef:=by
 simp only [Act.put,Array.getD_eq_getD_getElem?,Array.getElem?_setIfInBounds]
 by_cases h:d=t
 ·subst h;simp [hd]
 ·have:¬t=d:=fun e=>h e.symm
  simp [h,this]
theorem Rel.to {C:Cx} {nt:NT} {g0 g g':Gh} {w0 w w':World} {f f':Fr} {s s':St} {a:Act} {d:Option Nat} {e:EV} {u:Value}
  (r:Rel C nt g0 w0 g w f s a) (hs:Stp g w f s g' w' f' s') (hc:Core g' w' f' s') (henv:s'.env=s.env)
  (hd:∀x,d=some x→nt.ok x) (hv:VE g' w' f' s' e u):Rel C nt g0 w0 g' w' f' (s'.put d e) (a.put d u):=by
 have hlen:=r.core.heap.len
 have hb:∀t,VE g' w' f' s' (s.env t) (a.tmps.getD t undef):=fun t=>VE.stp hlen hs (r.env t)
 refine ⟨r.ext.trans hs.chg fun b hb hB hn=>hB ((r.ext.ow b hb (fun x=>x hn)).trans hn),?_,?_,?_,?_,?_,?_⟩
 ·cases d with
  | none=>exact hc
  | some d=>exact ⟨hc.heap,hc.loc,hc.wf⟩
 ·intro t
  cases d with
  | none=>simpa [St.put,Act.put,henv] using hb t
  | some d=>
   have hlt:d<a.tmps.size:=Nat.lt_of_lt_of_le (hd d rfl).1 r.sz
   rw [getD_put t hlt]
   simp only [St.put]
   by_cases h:t=d
   ·subst h
    simp only [Nat.beq_refl,if_true,cond_true]
    cases e<;>exact hv
   ·have hne:Nat.beq t d=false:=by
     rw [Bool.eq_false_iff]
     intro x
     exact h (Nat.eq_of_beq_eq_true x)
    simp only [h,if_false,hne,cond_false,henv]
    have:=hb t
    revert this
    cases s.env t<;>exact id
 ·intro gi cs hg
  exact GV.later hs.chg.later gi cs (r.glob gi cs hg)
 ·have:=r.dfr.chg hs.chg fun _ h=>h
  cases d<;>exact this
 ·cases d with
  | none=>exact r.sz
  | some d=>simpa [Act.put] using r.sz
 ·intro t ht
  cases d with
  | none=>exact r.fixed t ht
  | some d=>
   rw [getD_put t (Nat.lt_of_lt_of_le (hd d rfl).1 r.sz),if_neg]
   ·exact r.fixed t ht
   ·intro e
    have:=(hd d rfl).2
    rw [←e,ht] at this
    cases this
theorem Rel.val {C:Cx} {nt:NT} {g0 g:Gh} {w0 w:World} {f:Fr} {s:St} {a:Act} {d:Option Nat} {e:EV} {u:Value}
  (r:Rel C nt g0 w0 g w f s a) (hd:∀x,d=some x→nt.ok x) (hv:VE g w f s e u):Rel C nt g0 w0 g w f (s.put d e) (a.put d u):=
 r.to (Stp.refl g w f s) r.core rfl hd hv
def IterC (P:Program) (f:FuncId) (caps:List AV) (xs:List (List AV)):Prop:=
 ∀(g:Gh) (w:World) (vals:List Value),VT g w caps vals→∀(l:Nat) (J:Nat→Gh→World→Prop) (Jx:World→Prop),
  (∀i g' W,J i g' W→Later g w g' W∧(∀b k,g'.st b k→b<W.heap.size)∧∀g2 W2,Chg (fun _=>False) g' W g2 W2→g2.n=g'.n→(∀b k,g2.st b k→b<W2.heap.size)→J i g2 W2) →
  (∀i x xv g' W,xs[i]? = some x→J i g' W→VT g' W x xv →
   YieldAt Fence.wide 0 P l xv.toArray W fun e W'=>(e = .returned (.bool true)∧∃g2,J (i+1) g2 W')∨(e = .returned (.bool false)∧Jx W')) →
  ∀g0,J 0 g0 w→Calls P f (#[.func (.yield l) #[] #[]]++vals.toArray) w fun e W'=>(∃v,e = .returned v)∧((∃g2,J xs.length g2 W')∨Jx W')
end Go.Vm
namespace Go.Vm
open Go
section
variable {R:Res}
theorem chk_inv {b:Bool} {r:Res} (h:chk b r=R) (hR:R ≠ .stuck):b=true∧r=R:=by
 cases b
 ·exact absurd h.symm hR
 ·exact ⟨rfl,h⟩
theorem bIte_inv {b:Bool} {x y:Res} (h:bIte b x y=R):(b=true∧x=R)∨(b=false∧y=R):=by
 cases b
 ·exact .inr ⟨rfl,h⟩
 ·exact .inl ⟨rfl,h⟩
theorem mI_inv {k:IntKind} {a:AV} {K:Int→Res} (h:mI k a K=R) (hR:R ≠ .stuck):∃n,a = .I k n∧K n=R:=by
 unfold mI at h
 split at h
 ·rename_i k' n
  split at h
  ·rename_i e;subst e;exact ⟨n,rfl,h⟩
  ·exact absurd h.symm hR
 ·exact absurd h.symm hR
theorem mN_inv {a:AV} {K:Int→Res} (h:mN a K=R) (hR:R ≠ .stuck):∃k n,a = .I k n∧K n=R:=by
 unfold mN at h
 split at h
 ·rename_i k n;exact ⟨k,n,rfl,h⟩
 ·exact absurd h.symm hR
theorem mB_inv {a:AV} {K:Bool→Res} (h:mB a K=R) (hR:R ≠ .stuck):∃b,a = .B b∧K b=R:=by
 unfold mB at h
 split at h
 ·rename_i b;exact ⟨b,rfl,h⟩
 ·exact absurd h.symm hR
theorem mS_inv {a:AV} {K:List UInt8→Res} (h:mS a K=R) (hR:R ≠ .stuck):∃b,a = .S b∧K b=R:=by
 unfold mS at h
 split at h
 ·rename_i b;exact ⟨b,rfl,h⟩
 ·exact absurd h.symm hR
theorem mY_inv {a:AV} {K:List UInt8→Res} (h:mY a K=R) (hR:R ≠ .stuck):∃b,a = .Y b∧K b=R:=by
 unfold mY at h
 split at h
 ·rename_i b;exact ⟨b,rfl,h⟩
 ·exact absurd h.symm hR
theorem mL_inv {n:Nat} {a:AV} {K:List (List AV)→Res} (h:mL n a K=R) (hR:R ≠ .stuck):∃xs,a = .L n xs∧K xs=R:=by
 unfold mL at h
 split at h
 ·rename_i m xs
  split at h
  ·rename_i e;subst e;exact ⟨xs,rfl,h⟩
  ·exact absurd h.symm hR
 ·exact absurd h.symm hR
theorem mLen_inv {a:AV} {K:Nat→Res} (h:mLen a K=R) (hR:R ≠ .stuck):(∃n xs,a = .L n xs∧K xs.length=R)∨(∃s,a = .Y s∧K s.length=R):=by
 unfold mLen at h
 split at h
 ·rename_i n xs;exact .inl ⟨n,xs,rfl,h⟩
 ·rename_i s;exact .inr ⟨s,rfl,h⟩
 ·exact absurd h.symm hR
theorem mA_inv {n:Nat} {a:AV} {K:List AV→Res} (h:mA n a K=R) (hR:R ≠ .stuck):∃cs,a = .A cs∧cs.length=n∧K cs=R:=by
 unfold mA at h
 split at h
 ·rename_i cs
  split at h
  ·rename_i e;exact ⟨cs,rfl,e,h⟩
  ·exact absurd h.symm hR
 ·exact absurd h.symm hR
theorem mT_inv {n:Nat} {a:AV} {K:List AV→Res} (h:mT n a K=R) (hR:R ≠ .stuck):∃cs,a = .T cs∧n≤cs.length∧K cs=R:=by
 unfold mT at h
 split at h
 ·rename_i cs
  split at h
  ·rename_i e;exact ⟨cs,rfl,e,h⟩
  ·exact absurd h.symm hR
 ·exact absurd h.symm hR
theorem mP_inv {a:AV} {K:Nat→Nat→Res} (h:mP a K=R) (hR:R ≠ .stuck):∃id off,a = .P id off∧K id off=R:=by
 unfold mP at h
 split at h
 ·rename_i id off;exact ⟨id,off,rfl,h⟩
 ·exact absurd h.symm hR
theorem mF_inv {a:AV} {K:Fn→List AV→List AV→Res} (h:mF a K=R) (hR:R ≠ .stuck):∃fn fs cs,a = .F fn fs cs∧K fn fs cs=R:=by
 unfold mF at h
 split at h
 ·rename_i fn fs cs;exact ⟨fn,fs,cs,rfl,h⟩
 ·exact absurd h.symm hR
theorem mX_inv {a:AV} {K:TypeId→AV→Res} (h:mX a K=R) (hR:R ≠ .stuck):∃t v,a = .X t v∧K t v=R:=by
 unfold mX at h
 split at h
 ·rename_i t v;exact ⟨t,v,rfl,h⟩
 ·exact absurd h.symm hR
theorem mGe_inv {t:TypeId} {n:Nat} {x:HV} {K:List (List AV)→Res} (h:mGe t n x K=R) (hR:R ≠ .stuck):∃xs,x = .g (.e t n xs)∧K xs=R:=by
 unfold mGe at h
 split at h
 ·rename_i t' n' xs
  split at h
  ·rename_i e;obtain ⟨e1,e2⟩:=e;subst e1;subst e2;exact ⟨xs,rfl,h⟩
  ·exact absurd h.symm hR
 ·exact absurd h.symm hR
theorem mGy_inv {t:TypeId} {x:HV} {K:List UInt8→Res} (h:mGy t x K=R) (hR:R ≠ .stuck):∃s,x = .g (.y t s)∧K s=R:=by
 unfold mGy at h
 split at h
 ·rename_i t' s
  split at h
  ·rename_i e;subst e;exact ⟨s,rfl,h⟩
  ·exact absurd h.symm hR
 ·exact absurd h.symm hR
theorem mO_inv {hp:List HO} {id:Nat} {K:List HV→Res} (h:mO hp id K=R) (hR:R ≠ .stuck):∃cs,hp[id]? = some (.cells cs)∧K cs=R:=by
 unfold mO at h
 split at h
 ·rename_i cs e;exact ⟨cs,e,h⟩
 ·exact absurd h.symm hR
theorem mC_inv {hp:List HO} {id off:Nat} {K:HV→Res} (h:mC hp id off K=R) (hR:R ≠ .stuck):∃cs x,hp[id]? = some (.cells cs)∧cs[off]? = some x∧K x=R:=by
 unfold mC at h
 split at h
 ·rename_i cs e
  split at h
  ·rename_i x e';exact ⟨cs,x,e,e',h⟩
  ·exact absurd h.symm hR
 ·exact absurd h.symm hR
theorem arrAt_some {hp:List HO} {id:Nat} {t:TypeId} {n:Nat} {xs:List (List AV)} (h:arrAt hp id=some (t,n,xs)):hp[id]? = some (.arr t n xs):=by
 unfold arrAt at h
 split at h
 ·rename_i e;cases h;exact e
 ·cases h
theorem mW_inv {a:AV} {F:Nat→Res} {e:Res} (h:mW a F e=R):(∃id,a = .W id∧F id=R)∨((∀id,a ≠ .W id)∧e=R):=by
 unfold mW at h
 split at h
 ·rename_i id;exact .inl ⟨id,rfl,h⟩
 ·rename_i hn;exact .inr ⟨fun id e=>hn id e,h⟩
theorem ix_inv {n:Int} {len:Nat} {K:Nat→Res} (h:ix n len K=R) (hR:R ≠ .stuck):0≤n∧n<(len:Int)∧K n.toNat=R:=by
 unfold ix at h
 split at h
 ·rename_i e;exact ⟨e.1,e.2,h⟩
 ·exact absurd h.symm hR
theorem eqs_inv {ks:List FK} {as bs:List AV} {K:Bool→Res} (h:eqs ks as bs K=R) (hR:R ≠ .stuck):∃r,eqCells ks as bs=some r∧K r=R:=by
 unfold eqs at h
 split at h
 ·rename_i r e;exact ⟨r,e,h⟩
 ·exact absurd h.symm hR
theorem m1_inv {a:AV} {r:Res} (h:m1 a r=R) (hR:R ≠ .stuck):r=R∧∀g w u,V g w a u→u.oneCell'=true:=by
 cases a with
 | A _=>exact absurd h.symm hR
 | T _=>exact absurd h.symm hR
 | U=>exact absurd h.symm hR
 | I k n=>exact ⟨h,fun g w u hv=>by simp only [V] at hv;rw [hv.1];rfl⟩
 | S _=>exact ⟨h,fun g w u hv=>by simp only [V] at hv;rw [hv.1];rfl⟩
 | P _ _=>exact ⟨h,fun g w u hv=>by simp only [V] at hv;rw [hv.2];rfl⟩
 | M _=>exact ⟨h,fun g w u hv=>by simp only [V] at hv;rw [hv.2];rfl⟩
 | L _ _=>exact ⟨h,fun g w u hv=>by simp only [V] at hv;obtain ⟨_,_,_,e,_⟩:=hv;rw [e];rfl⟩
 | Y _=>exact ⟨h,fun g w u hv=>by simp only [V] at hv;obtain ⟨_,_,_,e,_⟩:=hv;rw [e];rfl⟩
 | F _ _ _=>exact ⟨h,fun g w u hv=>by simp only [V] at hv;obtain ⟨_,_,e,_⟩:=hv;rw [e];rfl⟩
 | X _ _=>exact ⟨h,fun g w u hv=>by simp only [V] at hv;obtain ⟨_,e,_⟩:=hv;rw [e];rfl⟩
 | B _=>exact ⟨h,fun g w u hv=>by simp only [V] at hv;rw [hv];rfl⟩
 | N=>exact ⟨h,fun g w u hv=>by simp only [V] at hv;rw [hv];rfl⟩
 | F0=>exact ⟨h,fun g w u hv=>by simp only [V] at hv;rw [hv];rfl⟩
 | X0=>exact ⟨h,fun g w u hv=>by simp only [V] at hv;rw [hv];rfl⟩
 | M0=>exact ⟨h,fun g w u hv=>by simp only [V] at hv;rw [hv];rfl⟩
 | Q _=>exact ⟨h,fun g w u hv=>by simp only [V] at hv;obtain ⟨_,_,e,_⟩:=hv;rw [e];rfl⟩
 | W _=>exact ⟨h,fun g w u hv=>by simp only [V] at hv;exact hv.2.2⟩
theorem isN_inv {a:AV} {K:Bool→Res} (h:isN a K=R) (hR:R ≠ .stuck):(a = .N∧K true=R)∨(∃id off,a = .P id off∧K false=R):=by
 unfold isN at h
 split at h
 ·exact .inl ⟨rfl,h⟩
 ·rename_i id off;exact .inr ⟨id,off,rfl,h⟩
 ·exact absurd h.symm hR
mutual
theorem eqV_eq:∀(a b:AV),eqV a b=true→a=b
 | .U,b,h=>by cases b<;>simp_all [eqV]
 | .I k m,b,h=>by cases b<;>simp_all [eqV]
 | .B x,b,h=>by cases b<;>simp_all [eqV]
 | .S x,b,h=>by cases b<;>simp_all [eqV]
 | .A x,b,h=>by
  cases b<;>simp only [eqV,Bool.false_eq_true] at h
  rw [eqVs_eq _ _ h]
 | .Q x,b,h=>by
  cases b<;>simp only [eqV,Bool.false_eq_true] at h
  rw [eqVs_eq _ _ h]
 | .L n x,b,h=>by
  cases b<;>simp only [eqV,Bool.and_eq_true,Bool.false_eq_true] at h
  rw [eqVss_eq _ _ h.2,Nat.eq_of_beq_eq_true h.1]
 | .Y x,b,h=>by cases b<;>simp_all [eqV]
 | .P i m,b,h=>by cases b<;>simp_all [eqV]
 | .N,b,h=>by cases b<;>simp_all [eqV]
 | .F fn x z,b,h=>by
  cases b with
  | F fn2 x2 z2=>
   cases fn with
   | func f=>
    cases fn2 with
    | func g=>
     simp only [eqV,Bool.and_eq_true] at h
     rw [Nat.eq_of_beq_eq_true h.1.1,eqVs_eq _ _ h.1.2,eqVs_eq _ _ h.2]
    | _=>simp [eqV] at h
   | _=>simp [eqV] at h
  | _=>simp [eqV] at h
 | .F0,b,h=>by cases b<;>simp_all [eqV]
 | .X t x,b,h=>by
  cases b<;>simp only [eqV,Bool.and_eq_true,Bool.false_eq_true] at h
  rw [eqV_eq _ _ h.2,Nat.eq_of_beq_eq_true h.1]
 | .X0,b,h=>by cases b<;>simp_all [eqV]
 | .T x,b,h=>by
  cases b<;>simp only [eqV,Bool.false_eq_true] at h
  rw [eqVs_eq _ _ h]
 | .M i,b,h=>by cases b<;>simp_all [eqV]
 | .M0,b,h=>by cases b<;>simp_all [eqV]
 | .W i,b,h=>by cases b<;>simp_all [eqV]
theorem eqVs_eq:∀(a b:List AV),eqVs a b=true→a=b
 | [],b,h=>by cases b<;>simp_all [eqVs]
 | x::xs,b,h=>by
  cases b<;>simp only [eqVs,Bool.and_eq_true,Bool.false_eq_true] at h
  rw [eqV_eq _ _ h.1,eqVs_eq _ _ h.2]
theorem eqVss_eq:∀(a b:List (List AV)),eqVss a b=true→a=b
 | [],b,h=>by cases b<;>simp_all [eqVss]
 | x::xs,b,h=>by
  cases b<;>simp only [eqVss,Bool.and_eq_true,Bool.false_eq_true] at h
  rw [eqVs_eq _ _ h.1,eqVss_eq _ _ h.2]
end
theorem eqPs_eq:∀(a b:List (AV×AV)),eqPs a b=true→a=b
 | [],b,h=>by cases b<;>simp_all [eqPs]
 | (x,y)::xs,b,h=>by
  cases b<;>simp only [eqPs,Bool.and_eq_true,Bool.false_eq_true] at h
  rename_i p q
  obtain ⟨b1,b2⟩:=p
  simp only [eqPs,Bool.and_eq_true] at h
  rw [eqV_eq _ _ h.1.1,eqV_eq _ _ h.1.2,eqPs_eq _ _ h.2]
theorem eqSC_eq:∀(a b:SC),eqSC a b=true→a=b
 | .e t n xs,b,h=>by
  cases b<;>simp only [eqSC,Bool.and_eq_true,Bool.false_eq_true] at h
  rw [Nat.eq_of_beq_eq_true h.1.1,Nat.eq_of_beq_eq_true h.1.2,eqVss_eq _ _ h.2]
 | .y t s,b,h=>by
  cases b<;>simp only [eqSC,Bool.and_eq_true,Bool.false_eq_true] at h
  rw [Nat.eq_of_beq_eq_true h.1,eq_of_beq h.2]
theorem eqHV_eq:∀(a b:HV),eqHV a b=true→a=b
 | .a v,b,h=>by
  cases b<;>simp only [eqHV,Bool.false_eq_true] at h
  rw [eqV_eq _ _ h]
 | .g c,b,h=>by
  cases b<;>simp only [eqHV,Bool.false_eq_true] at h
  rw [eqSC_eq _ _ h]
 | .z t,b,h=>by
  cases b<;>simp only [eqHV,Bool.false_eq_true] at h
  rw [Nat.eq_of_beq_eq_true h]
theorem eqHVs_eq:∀(a b:List HV),eqHVs a b=true→a=b
 | [],b,h=>by cases b<;>simp_all [eqHVs]
 | x::xs,b,h=>by
  cases b<;>simp only [eqHVs,Bool.and_eq_true,Bool.false_eq_true] at h
  rw [eqHV_eq _ _ h.1,eqHVs_eq _ _ h.2]
theorem eqHO_eq:∀(a b:HO),eqHO a b=true→a=b
 | .cells v,b,h=>by
  cases b<;>simp only [eqHO,Bool.false_eq_true] at h
  rw [eqHVs_eq _ _ h]
 | .map es,b,h=>by
  cases b<;>simp only [eqHO,Bool.false_eq_true] at h
  rw [eqPs_eq _ _ h]
 | .arr t n xs,b,h=>by
  cases b<;>simp only [eqHO,Bool.and_eq_true,Bool.false_eq_true] at h
  rw [Nat.eq_of_beq_eq_true h.1.1,Nat.eq_of_beq_eq_true h.1.2,eqVss_eq _ _ h.2]
 | .no,b,h=>by cases b<;>simp_all [eqHO]
theorem eqHOs_eq:∀(a b:List HO),eqHOs a b=true→a=b
 | [],b,h=>by cases b<;>simp_all [eqHOs]
 | x::xs,b,h=>by
  cases b<;>simp only [eqHOs,Bool.and_eq_true,Bool.false_eq_true] at h
  rw [eqHO_eq _ _ h.1,eqHOs_eq _ _ h.2]
theorem both_inv {r1 r2:Res} (h:both r1 r2=R) (hR:R ≠ .stuck):r1=R∧r2=R:=by
 unfold both at h
 split at h
 ·split at h
  ·rename_i e
   rw [←h]
   exact ⟨rfl,by rw [eqV_eq _ _ e]⟩
  ·exact absurd h.symm hR
 ·exact absurd h.symm hR
theorem isF_inv {a:AV} {K:Bool→Res} (h:isF a K=R) (hR:R ≠ .stuck):(a = .F0∧K true=R)∨(∃fn fs cs,a = .F fn fs cs∧K false=R):=by
 unfold isF at h
 split at h
 ·exact .inl ⟨rfl,h⟩
 ·exact .inr ⟨_,_,_,rfl,h⟩
 ·exact absurd h.symm hR
theorem isX_inv {a:AV} {K:Bool→Res} (h:isX a K=R) (hR:R ≠ .stuck):(a = .X0∧K true=R)∨(∃t v,a = .X t v∧K false=R):=by
 unfold isX at h
 split at h
 ·exact .inl ⟨rfl,h⟩
 ·exact .inr ⟨_,_,rfl,h⟩
 ·exact absurd h.symm hR
theorem isM_inv {a:AV} {K:Bool→Res} (h:isM a K=R) (hR:R ≠ .stuck):(a = .M0∧K true=R)∨(∃id,a = .M id∧K false=R):=by
 unfold isM at h
 split at h
 ·exact .inl ⟨rfl,h⟩
 ·exact .inr ⟨_,rfl,h⟩
 ·exact absurd h.symm hR
theorem mM_inv {a:AV} {hp:List HO} {K:Nat→List (AV×AV)→Res} (h:mM a hp K=R) (hR:R ≠ .stuck):∃id es,a = .M id∧hp[id]? = some (.map es)∧dirty es=false∧K id es=R:=by
 unfold mM at h
 split at h
 ·split at h
  ·rename_i id _ es he
   split at h
   ·exact absurd h.symm hR
   ·rename_i hd;exact ⟨id,es,rfl,he,hd,h⟩
  ·exact absurd h.symm hR
 ·exact absurd h.symm hR
theorem mMd_inv {a:AV} {hp:List HO} {K:Nat→Bool→List (AV×AV)→Res} (h:mMd a hp K=R) (hR:R ≠ .stuck):∃id es,a = .M id∧hp[id]? = some (.map es)∧K id (dirty es) (lives es)=R:=by
 unfold mMd at h
 split at h
 ·split at h
  ·rename_i id _ es he;exact ⟨id,es,rfl,he,h⟩
  ·exact absurd h.symm hR
 ·exact absurd h.symm hR
theorem mMl_inv {a:AV} {hp:List HO} {K:List (AV×AV)→Res} (h:mMl a hp K=R) (hR:R ≠ .stuck):(a = .M0∧K []=R)∨∃id es,a = .M id∧hp[id]? = some (.map es)∧K (lives es)=R:=by
 unfold mMl at h
 split at h
 ·exact .inl ⟨rfl,h⟩
 ·split at h
  ·rename_i id _ es he;exact .inr ⟨id,es,rfl,he,h⟩
  ·exact absurd h.symm hR
 ·exact absurd h.symm hR
theorem fnd_inv {k:IntKind} {n:Int} {es:List (AV×AV)} {K:Option AV→Res} (h:fnd k n es K=R) (hR:R ≠ .stuck):∃r,findI k n es=some r∧K r=R:=by
 unfold fnd at h
 split at h
 ·rename_i r e;exact ⟨r,e,h⟩
 ·exact absurd h.symm hR
end
section
variable {R:Res} {pu:FuncId→Bool} {G:FuncId→List AV→List HO→Res}
theorem ix_inv' {n:Int} {len:Nat} {K:Nat→Res} (h:(stdAlg pu G).ix n len K=R) (hR:R ≠ .stuck):0≤n∧n<(len:Int)∧K n.toNat=R:=ix_inv h hR
theorem isN_inv' {a:AV} {K:Bool→Res} (h:(stdAlg pu G).isN a K=R) (hR:R ≠ .stuck):(a = .N∧K true=R)∨(∃id off,a = .P id off∧K false=R):=isN_inv h hR
theorem mMl_inv' {a:AV} {hp:List HO} {K:List (AV×AV)→Res} (h:(stdAlg pu G).mMl a hp K=R) (hR:R ≠ .stuck):(a = .M0∧K []=R)∨∃id es,a = .M id∧hp[id]? = some (.map es)∧K (lives es)=R:=mMl_inv h hR
theorem mMd_inv' {a:AV} {hp:List HO} {K:Nat→Bool→List (AV×AV)→Res} (h:(stdAlg pu G).mMd a hp K=R) (hR:R ≠ .stuck):∃id es,a = .M id∧hp[id]? = some (.map es)∧K id (dirty es) (lives es)=R:=mMd_inv h hR
theorem mM_inv' {a:AV} {hp:List HO} {K:Nat→List (AV×AV)→Res} (h:(stdAlg pu G).mM a hp K=R) (hR:R ≠ .stuck):∃id es,a = .M id∧hp[id]? = some (.map es)∧dirty es=false∧K id es=R:=mM_inv h hR
theorem fnd_inv' {k:IntKind} {n:Int} {es:List (AV×AV)} {K:Option AV→Res} (h:(stdAlg pu G).fnd k n es K=R) (hR:R ≠ .stuck):∃r,findI k n es=some r∧K r=R:=fnd_inv h hR
theorem mLen_inv' {a:AV} {K:Nat→Res} (h:(stdAlg pu G).mLen a K=R) (hR:R ≠ .stuck):(∃n xs,a = .L n xs∧K xs.length=R)∨(∃s,a = .Y s∧K s.length=R):=mLen_inv h hR
theorem chk_inv' {b:Bool} {r:Res} (h:(stdAlg pu G).chk b r=R) (hR:R ≠ .stuck):b=true∧r=R:=chk_inv h hR
theorem mX_inv' {a:AV} {K:TypeId→AV→Res} (h:(stdAlg pu G).mX a K=R) (hR:R ≠ .stuck):∃t v,a = .X t v∧K t v=R:=mX_inv h hR
end
section
variable {P:Program}
theorem und_some {t:TypeId} {d:TypeDesc} (h:und P t=d) (hd:d ≠ .invalid):P.underlying t=some d:=by
 unfold und at h
 cases e:P.underlying t with
 | none=>rw [e] at h;exact absurd h.symm hd
 | some x=>rw [e] at h;simp at h;rw [h]
theorem run_und {t:TypeId} {d:TypeDesc} (h:und P t=d) (hd:d ≠ .invalid) (w:World):(underlying t).run P w = .ok d w:=by
 simp [underlying,und_some h hd]
theorem info_of_und {t:TypeId} {d:TypeDesc} (h:P.underlying t=some d):∃i,P.info? t=some i:=by
 unfold Program.underlying at h
 split at h
 ·rename_i e;exact ⟨_,e⟩
 ·rename_i i e;exact ⟨_,e⟩
 ·cases h
theorem run_sizeOf {t:TypeId} {i:TypeInfo} (h:P.info? t=some i) (w:World):(sizeOf t).run P w = .ok i.size w:=by
 simp [sizeOf,typeInfo,h]
theorem szT_of {t:TypeId} {i:TypeInfo} (h:P.info? t=some i):szT P t=i.size:=by simp [szT,h]
theorem byT_of {t:TypeId} {i:TypeInfo} (h:P.info? t=some i):byT P t=i.bytes:=by simp [byT,h]
theorem run_isAgg {t:TypeId} {d:TypeDesc} (h:P.underlying t=some d) (w:World):(isAgg t).run P w = .ok (aggT P t) w:=by
 have hu:und P t=d:=by simp [und,h]
 simp only [isAgg,underlying,Sem.run_bind,run_program,Result.andThen_ok,h,Sem.run_pure]
 unfold aggT
 rw [hu]
 cases d<;>rfl
end
end Go.Vm
namespace Go.Vm
open Go
def Own.site:Own→Option Nat
 | .box k | .bcell k _ | .arr k=>some k
 | _=>none
theorem HeapR.chg {B:Nat→Prop} {g g':Gh} {w w':World} {hp:List HO} (h:HeapR g w hp) (hch:Chg B g w g' w') (hn:g'.n=g.n)
  (hB:∀b,B b→∀o:Own,o.heap→g.ow b≠some o):HeapR g' w' hp:=by
 refine ⟨h.len.trans hn.symm,fun id hid => ?_,fun id cs hc => ?_,fun id es hc => ?_,fun id t n xs hc => ?_⟩
 ·rw [hn] at hid
  rw [hch.later.io id hid]
  exact Nat.lt_of_lt_of_le (h.lt id hid) hch.size
 ·have hid:id<g.n:=by rw [←h.len];exact (List.getElem?_eq_some_iff.1 hc).1
  rw [hch.later.io id hid]
  exact (h.obj id cs hc).chgO hch (fun b hb=>hB b hb _ trivial) (fun i b hb=>hB b hb _ trivial)
 ·have hid:id<g.n:=by rw [←h.len];exact (List.getElem?_eq_some_iff.1 hc).1
  rw [hch.later.io id hid]
  exact (h.map id es hc).chgO hch (fun b hb=>hB b hb _ trivial)
 ·have hid:id<g.n:=by rw [←h.len];exact (List.getElem?_eq_some_iff.1 hc).1
  rw [hch.later.io id hid,hch.later.hdr id hid]
  exact (h.arr id t n xs hc).chgO hch (fun b hb=>hB b hb _ trivial)
theorem LR.chg {B:Nat→Prop} {g g':Gh} {w w':World} {be:Nat→Nat} {hd:Nat→Value} {k:Nat} {l:LOv} (h:LR g w be hd k l) (hch:Chg B g w g' w')
  (hB:∀b,B b→∀o:Own,o.site=some k→g.ow b≠some o):LR g' w' be hd k l:=by
 unfold LR at h ⊢
 split
 ·trivial
 ·rename_i cs e
  rw [e] at h
  exact BoxR.chgO hch h (fun b hb=>hB b hb _ rfl) (fun i b hb=>hB b hb _ rfl)
 ·rename_i c ex e
  rw [e] at h
  exact SR.chgO hch h (fun b hb=>hB b hb _ rfl)
theorem LR.fr {g:Gh} {w:World} {be be':Nat→Nat} {hd hd':Nat→Value} {k:Nat} {l:LOv} (h:LR g w be hd k l) (e1:be' k=be k) (e2:hd' k=hd k):LR g w be' hd' k l:=by
 unfold LR at h ⊢
 rw [e1,e2]
 exact h
theorem setLocs_nil (loc:Nat→LOv):setLocs loc []=loc:=rfl
theorem setLocs_one (loc:Nat→LOv) (k:Nat) (x:LOv) (i:Nat):setLocs loc [(k,x)] i=if i=k then x else loc i:=by
 simp only [setLocs]
 by_cases h:i=k
 ·subst h;simp
 ·have:Nat.beq i k=false:=by
   rw [Bool.eq_false_iff]
   exact fun e=>h (Nat.eq_of_beq_eq_true e)
  simp [this,h]
theorem setLocs_append (loc:Nat→LOv):∀(a b:List (Nat×LOv)) (i:Nat),setLocs loc (a++b) i=setLocs (setLocs loc b) a i
 | [],_,_=>rfl
 | (k,x)::a,b,i=>by simp only [List.cons_append,setLocs,setLocs_append loc a b i]
def St.withLocs (s:St) (u:List (Nat×LOv)):St := { s with loc:=setLocs s.loc u }
theorem St.withLocs_nil (s:St):s.withLocs []=s:=rfl
theorem V_empty {g:Gh} {w:World} (P:Program) (ty:TypeId):V g w (emptyOf P ty).toAV (.slice none 0 0):=by
 have hL:∀n,V g w (.L n []) (.slice none 0 0):=fun n=>by
  simp only [V];exact ⟨none,0,0,rfl,rfl,by simp, .inl trivial⟩
 have hY:V g w (.Y []) (.slice none 0 0):=by
  simp only [V];exact ⟨none,0,0,rfl,rfl,by simp, .inl trivial⟩
 unfold emptyOf emptySC
 split
 ·split
  ·exact hY
  ·exact hL _
 ·exact hL _
def FrzL (loc:Nat→LOv) (us:List (Nat×LOv)):Prop:=∀p∈us,∃ver c,loc p.1=⟨ver, .arr c true⟩∧p.2=⟨ver, .arr c false⟩
theorem setLocs_frz {loc:Nat→LOv} : ∀{us:List (Nat×LOv)},FrzL loc us→∀i,setLocs loc us i=if i∈us.map (·.1) then freezeLo (loc i) else loc i
 | [],_,i=>by simp [setLocs]
 | (k,x)::us,h,i=>by
  have ih:=setLocs_frz (us:=us) (fun p hp=>h p (by simp [hp])) i
  obtain ⟨ver,c,h1,h2⟩:=h (k,x) (by simp)
  simp only [setLocs,List.map_cons,List.mem_cons]
  by_cases e:i=k
  ·subst e
   simp only at h1 h2
   simp [h1,h2,freezeLo]
  ·have hb:Nat.beq i k=false:=by
    rw [Bool.eq_false_iff]
    exact fun e'=>e (Nat.eq_of_beq_eq_true e')
   simp only [hb,cond_false,ih,e,false_or]
theorem withLocs_frz_same {s:St} {us vs:List (Nat×LOv)} (h:FrzL s.loc us) (h':FrzL s.loc vs) (hm:∀i,i∈us.map (·.1)↔i∈vs.map (·.1)):s.withLocs us=s.withLocs vs:=by
 have:setLocs s.loc us=setLocs s.loc vs:=by
  funext i
  rw [setLocs_frz h,setLocs_frz h']
  simp only [hm i]
 simp only [St.withLocs,this]
theorem SiteStp.frz {w:World} {f:Fr} {s:St} {us vs:List (Nat×LOv)} (h:FrzL s.loc us) (h':FrzL s.loc vs) (hm:∀i,i∈us.map (·.1)→i∈vs.map (·.1)) (k:Nat):SiteStp w w f f (s.withLocs us) (s.withLocs vs) k:=by
 right
 have e1:(s.withLocs us).loc k=if k∈us.map (·.1) then freezeLo (s.loc k) else s.loc k:=setLocs_frz h k
 have e2:(s.withLocs vs).loc k=if k∈vs.map (·.1) then freezeLo (s.loc k) else s.loc k:=setLocs_frz h' k
 by_cases hu:k∈us.map (·.1)
 ·rw [e1,e2,if_pos hu,if_pos (hm k hu)]
  exact ⟨rfl,rfl,rfl,fun m' cs' x=>⟨m',cs',x,Nat.le_refl _,fun _=>⟨rfl,fun _=>rfl⟩⟩,fun c' ex' x=>⟨c',ex',x,rfl,rfl⟩⟩
 ·rw [e1,e2,if_neg hu]
  by_cases hv:k∈vs.map (·.1)
  ·obtain ⟨p,hp,hpk⟩:=List.mem_map.1 hv
   obtain ⟨ver,c,h1,_⟩:=h' p hp
   rw [hpk] at h1
   rw [if_pos hv,h1]
   refine ⟨rfl,rfl,rfl,fun m' cs' x => ?_,fun c' ex' x => ?_⟩
   ·cases x
   ·cases x;exact ⟨c,true,rfl,rfl,rfl⟩
  ·rw [if_neg hv]
   exact ⟨rfl,rfl,rfl,fun m' cs' x=>⟨m',cs',x,Nat.le_refl _,fun _=>⟨rfl,fun _=>rfl⟩⟩,fun c' ex' x=>⟨c',ex',x,rfl,rfl⟩⟩
structure GSame (g g':Gh):Prop where
 n:g'.n=g.n
 ow:g'.ow=g.ow
 io:g'.ix=g.ix
theorem GSame.refl (g:Gh):GSame g g:=⟨rfl,rfl,rfl⟩
theorem GSame.trans {a b c:Gh} (h:GSame a b) (k:GSame b c):GSame a c:=⟨k.n.trans h.n,k.ow.trans h.ow,k.io.trans h.io⟩
theorem Core.freeze {g:Gh} {w:World} {f:Fr} {s0:St} {us:List (Nat×LOv)} (hf:FrzL s0.loc us) (hc:Core g w f (s0.withLocs us)) {k ver:Nat} {c:SC} (hl:s0.loc k=⟨ver, .arr c true⟩) :
  ∃g',GSame g g'∧Core g' w f (s0.withLocs ((k,⟨ver, .arr c false⟩)::us))∧Stp g w f (s0.withLocs us) g' w f (s0.withLocs ((k,⟨ver, .arr c false⟩)::us))∧V g' w c.toAV (f.hd k):=by
 have hf':FrzL s0.loc ((k,⟨ver, .arr c false⟩)::us):=by
  intro p hp
  simp only [List.mem_cons] at hp
  rcases hp with rfl | hp
  ·exact ⟨ver,c,hl,rfl⟩
  ·exact hf p hp
 have hsub:∀i,i∈us.map (·.1)→i∈((k,(⟨ver, .arr c false⟩:LOv))::us).map (·.1):=fun i hi=>by simp only [List.map_cons,List.mem_cons];exact .inr hi
 have e1:=setLocs_frz hf k
 have h0:=hc.loc k
 by_cases hu:k∈us.map (·.1)
 ·
  have hs:s0.withLocs ((k,⟨ver, .arr c false⟩)::us)=s0.withLocs us:=withLocs_frz_same hf' hf (fun i=>by
   simp only [List.map_cons,List.mem_cons]
   exact ⟨fun h=>h.elim (fun e=>by rw [e];exact hu) id, .inr⟩)
  have hk:(s0.withLocs us).loc k=⟨ver, .arr c false⟩:=by
   show setLocs s0.loc us k=_
   rw [e1,if_pos hu,hl];rfl
  unfold LR at h0
  rw [hk] at h0
  exact ⟨g,GSame.refl g,by rw [hs];exact hc,by rw [hs];exact Stp.refl _ _ _ _,SR.toV h0⟩
 ·have hk:(s0.withLocs us).loc k=⟨ver, .arr c true⟩:=by
   show setLocs s0.loc us k=_
   rw [e1,if_neg hu,hl]
  unfold LR at h0
  rw [hk] at h0
  cases hb:(f.hd k).ownBlock with
  | none=>
   have hs:SR g w (.arr k) c false (f.hd k):=by
    cases c with
    | e t n xs=>
     obtain ⟨vals,h1,h2,h3,h4,h5⟩:=h0
     exact ⟨vals,h1,h2,h3,h4,fun b hb'=>by simp [hb] at hb'⟩
    | y t s=>
     obtain ⟨h1,h5⟩:=h0
     exact ⟨h1,fun b hb'=>by simp [hb] at hb'⟩
   refine ⟨g,GSame.refl g,⟨hc.heap,fun i => ?_,hc.wf⟩,⟨Chg.refl _ g w,SiteStp.frz hf hf' hsub,fun _ => .keep rfl rfl fun _ _ _=>rfl⟩,SR.toV hs⟩
   by_cases e:i=k
   ·subst e
    have:(s0.withLocs ((i,⟨ver, .arr c false⟩)::us)).loc i=⟨ver, .arr c false⟩:=by simp [St.withLocs,setLocs]
    rw [this]
    exact hs
   ·have:(s0.withLocs ((k,⟨ver, .arr c false⟩)::us)).loc i=(s0.withLocs us).loc i:=by
     have hb':Nat.beq i k=false:=by
      rw [Bool.eq_false_iff]
      exact fun e'=>e (Nat.eq_of_beq_eq_true e')
     simp [St.withLocs,setLocs,hb']
    rw [this]
    exact hc.loc i
  | some b=>
   have hown:=SR.owner h0 hb
   have hch:=Gh.stay_chg g w b c.cells
   have hs:SR (g.stay b c.cells) w (.arr k) c false (f.hd k):=by
    cases c with
    | e t n xs=>
     obtain ⟨vals,h1,h2,h3,h4,h5⟩:=h0
     refine ⟨vals,h1,h2,h3,VS.later hch.later _ _ h4,fun b' hb' => ?_⟩
     rw [hb] at hb'
     cases hb'
     refine ⟨(h5 b hb).1,fun i=>⟨fun x=>⟨rfl,?_⟩,fun x => .inr ⟨rfl,x.2⟩⟩⟩
     rcases x with x | x
     ·have:=((h5 b hb).2 i).1 x;simp at this
     ·exact x.2
    | y t s=>
     obtain ⟨h1,h5⟩:=h0
     refine ⟨h1,fun b' hb' => ?_⟩
     rw [hb] at hb'
     cases hb'
     refine ⟨(h5 b hb).1,fun i=>⟨fun x=>⟨rfl,?_⟩,fun x => .inr ⟨rfl,x.2⟩⟩⟩
     rcases x with x | x
     ·have:=((h5 b hb).2 i).1 x;simp at this
     ·exact x.2
   refine ⟨g.stay b c.cells,⟨rfl,rfl,rfl⟩,⟨hc.heap.chg hch rfl ?_,fun i => ?_,fun b' i hx=>hx.elim (hc.wf b' i) fun e=>by rw [e.1];exact hown.2⟩,⟨hch.mono fun b' _ e=>by rw [e,hown.1];simp,SiteStp.frz hf hf' hsub,fun _ => .keep rfl rfl fun _ _ _=>rfl⟩,SR.toV hs⟩
   ·intro b' hb' o ho' he
    rw [hb',hown.1] at he
    cases he
    exact ho'
   ·by_cases e:i=k
    ·subst e
     have:(s0.withLocs ((i,⟨ver, .arr c false⟩)::us)).loc i=⟨ver, .arr c false⟩:=by simp [St.withLocs,setLocs]
     rw [this]
     exact hs
    ·have:(s0.withLocs ((k,⟨ver, .arr c false⟩)::us)).loc i=(s0.withLocs us).loc i:=by
      have hb':Nat.beq i k=false:=by
       rw [Bool.eq_false_iff]
       exact fun e'=>e (Nat.eq_of_beq_eq_true e')
      simp [St.withLocs,setLocs,hb']
     rw [this]
     refine (hc.loc i).chg hch fun b' hb' o ho' he => ?_
     rw [hb',hown.1] at he
     cases he
     simp only [Own.site,Option.some.injEq] at ho'
     exact e ho'.symm
theorem use_frz {pu:FuncId→Bool} {G:FuncId→List AV→List HO→Res} {C:Cx} {g:Gh} {w:World} {f:Fr} {s0:St} {us0:List (Nat×LOv)} {ty:TypeId} {ev:EV} {u:Value} {K:AV→List (Nat×LOv)→Res} {R:Res}
  (hf:FrzL s0.loc us0) (hc:Core g w f (s0.withLocs us0)) (hv:VE g w f (s0.withLocs us0) ev u) (h:use (stdAlg pu G) C ty ev (loO s0 ev) K=R) (hR:R ≠ .stuck) :
  ∃a us g',K a us=R∧FrzL s0.loc us∧GSame g g'∧Core g' w f (s0.withLocs (us++us0))∧Stp g w f (s0.withLocs us0) g' w f (s0.withLocs (us++us0))∧V g' w a u:=by
 have triv:∀a:AV,K a []=R→V g w a u→∃a us g',K a us=R∧FrzL s0.loc us∧GSame g g'∧Core g' w f (s0.withLocs (us++us0))∧Stp g w f (s0.withLocs us0) g' w f (s0.withLocs (us++us0))∧V g' w a u:=
  fun a hk hva=>⟨a,[],g,hk,fun _ hp=>(by cases hp),GSame.refl g,hc,Stp.refl _ _ _ _,hva⟩
 cases ev with
 | v a=>exact triv a h hv
 | nil=>
  simp only [VE] at hv
  subst hv
  exact triv _ h (V_empty C.P ty)
 | lp k ver off=>exact absurd h.symm hR
 | ls k ver=>
  simp only [use,loO,EV.site] at h
  cases hl:s0.loc k with
  | mk ver' lo=>
   rw [hl] at h
   cases lo with
   | no=>exact absurd h.symm hR
   | box m cs=>exact absurd h.symm hR
   | arr c ex=>
    simp only at h
    by_cases e:ver=ver'
    ·subst e
     rw [if_pos rfl] at h
     have hk:(s0.withLocs us0).loc k=if k∈us0.map (·.1) then freezeLo (s0.loc k) else s0.loc k:=setLocs_frz hf k
     have hk2:((s0.withLocs us0).loc k).ver=ver∧∃ex',((s0.withLocs us0).loc k).lo = .arr c ex':=by
      rw [hk,hl]
      split
      ·exact ⟨rfl,false,rfl⟩
      ·exact ⟨rfl,ex,rfl⟩
     obtain ⟨e1,ex',e2⟩:=hk2
     have hu:u=f.hd k:=hv.2 e1.symm c ex' e2
     cases ex with
     | true=>
      obtain ⟨g',h0,h1,h2,h3⟩:=hc.freeze hf hl
      refine ⟨_,_,g',h,?_,h0,h1,h2,by rw [hu];exact h3⟩
      intro p hp
      simp only [if_true,List.mem_singleton] at hp
      subst hp
      exact ⟨ver,c,hl,rfl⟩
     | false=>
      have hne:k ∉ us0.map (·.1):=fun hm=>by
       obtain ⟨p,hp,hpk⟩:=List.mem_map.1 hm
       obtain ⟨ver',c',h1,_⟩:=hf p hp
       rw [hpk,hl] at h1
       cases h1
      have h0:=hc.loc k
      unfold LR at h0
      rw [hk,if_neg hne,hl] at h0
      exact triv _ h (by rw [hu];exact SR.toV h0)
    ·rw [if_neg e] at h
     exact absurd h.symm hR
 | le k ver i off=>exact absurd h.symm hR
 | ep n cs off=>exact absurd h.symm hR
 | hb k ver m off x=>exact triv _ h hv.1
 | hh id off hv' x=>exact triv _ h hv.1
 | ag cs=>
  obtain ⟨us,h1,h2⟩:=hv
  refine triv _ h ?_
  simp only [V]
  exact ⟨us,h1,h2.VS⟩
 | un=>exact absurd h.symm hR
 | ub=>exact absurd h.symm hR
 | lw k ver off=>exact absurd h.symm hR
def VEs (g:Gh) (w:World) (f:Fr) (s:St):List EV→List Value→Prop
 | [],us=>us=[]
 | e::es,us=>∃u r,us=u::r∧VE g w f s e u∧VEs g w f s es r
theorem VEs.stp {g g':Gh} {w w':World} {f f':Fr} {s s':St} (hlen:s.h.length=g.n) (h:Stp g w f s g' w' f' s'):∀(es:List EV) (us:List Value),VEs g w f s es us→VEs g' w' f' s' es us
 | [],_,h'=>h'
 | _::es,_,⟨u,r,e,h1,h2⟩=>⟨u,r,e,VE.stp hlen h h1,VEs.stp hlen h es r h2⟩
theorem useAll_frz {pu:FuncId→Bool} {G:FuncId→List AV→List HO→Res} {C:Cx} {w:World} {f:Fr} {s0:St} {R:Res} (hR:R ≠ .stuck) :
  ∀(evs:List EV) (vals:List Value) (tys:List TypeId) (g:Gh) (us0:List (Nat×LOv)) (K:List AV→List (Nat×LOv)→Res),FrzL s0.loc us0→Core g w f (s0.withLocs us0)→VEs g w f (s0.withLocs us0) evs vals →
   useAll (stdAlg pu G) C tys evs (evs.map (loO s0)) K=R →
   ∃as us g',K as us=R∧FrzL s0.loc us∧GSame g g'∧Core g' w f (s0.withLocs (us++us0))∧Stp g w f (s0.withLocs us0) g' w f (s0.withLocs (us++us0))∧VT g' w as vals:=by
 intro evs
 induction evs with
 | nil=>
  intro vals tys g us0 K hf hc hv h
  simp only [VEs] at hv
  subst hv
  refine ⟨[],[],g,?_,fun _ hp=>(by cases hp),GSame.refl g,hc,Stp.refl _ _ _ _,by simp [VT]⟩
  cases tys<;>simpa [useAll] using h
 | cons e evs ih=>
  intro vals tys g us0 K hf hc hv h
  obtain ⟨u,r,rfl,hv1,hv2⟩:=hv
  have go:∀(ty:TypeId) (ts:List TypeId),use (stdAlg pu G) C ty e (loO s0 e) (fun a u=>useAll (stdAlg pu G) C ts evs (evs.map (loO s0)) fun as us=>K (a::as) (u++us))=R →
    ∃as us g',K as us=R∧FrzL s0.loc us∧GSame g g'∧Core g' w f (s0.withLocs (us++us0))∧Stp g w f (s0.withLocs us0) g' w f (s0.withLocs (us++us0))∧VT g' w as (u::r):=by
   intro ty ts h
   obtain ⟨a,us1,g1,hk,hf1,hs1,hc1,hst1,hva⟩:=use_frz hf hc hv1 h hR
   have hf01:FrzL s0.loc (us1++us0):=fun p hp=>(List.mem_append.1 hp).elim (hf1 p) (hf p)
   have hlen:=hc.heap.len
   obtain ⟨as,us2,g2,hk2,hf2,hs2,hc2,hst2,hvt⟩:=ih r ts g1 (us1++us0) _ hf01 hc1 (VEs.stp hlen hst1 _ _ hv2) hk
   have hf12:FrzL s0.loc (us1++us2):=fun p hp=>(List.mem_append.1 hp).elim (hf1 p) (hf2 p)
   have e1:s0.withLocs (us2++(us1++us0))=s0.withLocs ((us1++us2)++us0):=withLocs_frz_same
    (fun p hp=>(List.mem_append.1 hp).elim (hf2 p) (hf01 p)) (fun p hp=>(List.mem_append.1 hp).elim (hf12 p) (hf p))
    (fun i=>by simp only [List.map_append,List.mem_append];exact ⟨fun h=>h.elim (fun h => .inl (.inr h)) (fun h=>h.elim (fun h => .inl (.inl h)) .inr),fun h=>h.elim (fun h=>h.elim (fun h => .inr (.inl h)) .inl) (fun h => .inr (.inr h))⟩)
   rw [e1] at hc2 hst2
   refine ⟨a::as,us1++us2,g2,hk2,hf12,hs1.trans hs2,hc2,hst1.trans hlen hst2,?_⟩
   simp only [VT]
   exact ⟨u,r,rfl,V.later hst2.chg.later a u hva,hvt⟩
  cases tys with
  | nil=>exact go 0 [] (by simpa [useAll] using h)
  | cons t ts=>exact go t ts (by simpa [useAll] using h)
end Go.Vm
namespace Go.Vm
open Go
theorem one_cell (v:Value):one v=v.oneCell':=by cases v<;>rfl
section
variable {C:Cx} {N:Ann} {nt:NT} {g0 g:Gh} {w0 w:World} {f:Fr} {s:St} {a:Act} {o:Oper}
theorem V_U (g:Gh) (w:World) (v:Value):V g w .U v:=by simp [V]
theorem V_I (g:Gh) (w:World) {k:IntKind} {n:Int} (h:k.min≤n∧n≤k.max):V g w (.I k n) (.int k n):=by simp [V,h]
theorem V_B (g:Gh) (w:World) (b:Bool):V g w (.B b) (.bool b):=by simp [V]
theorem V_S (g:Gh) (w:World) {s:List UInt8} (h:s.length≤140737488355328):V g w (.S s) (.string ⟨s.toArray⟩):=by simp [V,h]
theorem V_I' {k:IntKind} {n:Int} {v:Value} (h:V g w (.I k n) v):v = .int k n∧k.min≤n∧n≤k.max:=by simpa [V] using h
theorem V_B' {b:Bool} {v:Value} (h:V g w (.B b) v):v = .bool b:=by simpa [V] using h
theorem V_S' {s:List UInt8} {v:Value} (h:V g w (.S s) v):v = .string ⟨s.toArray⟩∧s.length≤140737488355328:=by simpa [V] using h
theorem V_P' {id off:Nat} {v:Value} (h:V g w (.P id off) v):id<g.n∧v = .pointer (some ⟨g.io id,off,none⟩):=by simpa [V] using h
theorem V_A' {cs:List AV} {v:Value} (h:V g w (.A cs) v):∃vs:List Value,v = .agg vs.toArray∧VS g w cs vs:=by simpa [V] using h
theorem V_T' {cs:List AV} {v:Value} (h:V g w (.T cs) v):∃vs:List Value,v = .tuple vs.toArray∧VT g w cs vs:=by simpa [V] using h
theorem V_F' {fn:Fn} {fs cs:List AV} {v:Value} (h:V g w (.F fn fs cs) v):∃vf vc:List Value,v = .func fn vf.toArray vc.toArray∧VT g w fs vf∧VT g w cs vc:=by simpa [V] using h
theorem V_X' {t:TypeId} {x:AV} {v:Value} (h:V g w (.X t x) v):∃u,v = .iface t u∧V g w x u:=by simpa [V] using h
theorem V_N' {v:Value} (h:V g w .N v):v = .pointer none:=by simpa [V] using h
theorem V_L' {n:Nat} {xs:List (List AV)} {v:Value} (h:V g w (.L n xs) v):∃a len cap,v = .slice a len cap∧len=xs.length∧(len≤cap∧len≤9223372036854775807)∧(xs=[]∨∃b o,a=some ⟨b,o,none⟩∧VR g w n b o xs):=by simpa only [V] using h
theorem V_Y' {xs:List UInt8} {v:Value} (h:V g w (.Y xs) v):∃a len cap,v = .slice a len cap∧len=xs.length∧(len≤cap∧len≤9223372036854775807)∧(xs=[]∨∃b o,a=some ⟨b,o,none⟩∧VY g w b o xs):=by simpa only [V] using h
theorem cvS_ok (v:Value):V g w (cvS v) v:=by
 cases v with
 | bool b=>simp [cvS,V]
 | int k n=>
  simp only [cvS]
  split
  ·rename_i h;exact V_I g w h
  ·exact trivial
 | string s=>
  simp only [cvS]
  split
  ·rename_i h;simp only [V];exact ⟨trivial,h⟩
  ·simp [V]
 | pointer a=>cases a<;>simp [cvS,V]
 | map a=>cases a<;>simp [cvS,V]
 | nilFunc=>simp [cvS,V]
 | nilIface=>simp [cvS,V]
 | _=>simp [cvS,V]
theorem VS_map (l:List Value) (h:l.all one=true):VS g w (l.map cvS) l:=by
 induction l with
 | nil=>simp [VS]
 | cons v l ih=>
  simp only [List.all_cons,Bool.and_eq_true] at h
  simp only [List.map_cons,VS]
  exact ⟨v,l,rfl,cvS_ok v,by rw [←one_cell];exact h.1,ih h.2⟩
theorem cv_ok (v:Value):VE g w f s (cv v) v:=by
 unfold cv
 split
 ·rfl
 ·rename_i cs
  split
  ·rename_i h
   show V g w (.A _) _
   simp only [V]
   exact ⟨cs.toList,by simp,VS_map _ h⟩
  ·exact trivial
 ·rename_i fn fs cs
  split
  ·rename_i h
   show V g w (.F fn [] []) _
   simp only [V,VT]
   refine ⟨[],[],?_,rfl,rfl⟩
   rw [Array.eq_empty_of_size_eq_zero h.1,Array.eq_empty_of_size_eq_zero h.2]
  ·exact trivial
 ·exact cvS_ok v
theorem Rel.ev (r:Rel C nt g0 w0 g w f s a) (x:Operand):VE g w f s (evO C s x) (a.eval x):=by
 cases x with
 | tmp t=>exact r.env t
 | const v=>exact cv_ok v
 | func fn=>
  show V g w (.F (.func fn) [] []) _
  simp only [V,VT]
  exact ⟨[],[],rfl,rfl,rfl⟩
 | global gi=>
  simp only [evO]
  cases h:C.glob gi with
  | none=>exact trivial
  | some cs=>
   simp only
   cases hb:Nat.blt gi 1000 with
   | false=>exact trivial
   | true=>exact ⟨gi,0,rfl,rfl,((r.glob gi cs h).low (Nat.le_of_ble_eq_true hb)).1⟩
theorem Rel.evs (r:Rel C nt g0 w0 g w f s a) (xs:List Operand):VEs g w f s (xs.map (evO C s)) (xs.map a.eval):=by
 induction xs with
 | nil=>rfl
 | cons x xs ih=>exact ⟨_,_,rfl,r.ev x,ih⟩
theorem wp_val {P:Program} {next:Act→World→Prop} {Q:Exit→Act→World→Prop} {u:Value} {w':World}
  (h:(execOp a.eval o).run P w = .ok (.value u) w') (hn:next (a.put o.dst u) w'):o.wp P a w next Q:=by
 unfold Oper.wp
 rw [h]
 exact hn
theorem wp_skip' {P:Program} {next:Act→World→Prop} {Q:Exit→Act→World→Prop} {w':World}
  (h:(execOp a.eval o).run P w = .ok .skip w') (hn:next (a.put o.dst undef) w'):o.wp P a w next Q:=by
 unfold Oper.wp
 rw [h]
 exact hn
theorem VT_get:∀(cs:List AV) (vs:List Value),VT g w cs vs→∀i,i<cs.length→∃u,vs[i]? = some u∧V g w (cs.getD i .U) u
 | [],_,_,i,hi=>by simp at hi
 | c::cs,_,h,i,hi=>by
  simp only [VT] at h
  obtain ⟨u,us,rfl,hu,hs⟩:=h
  cases i with
  | zero=>exact ⟨u,rfl,hu⟩
  | succ i=>simpa using VT_get cs us hs i (by simpa using hi)
theorem VS_get:∀(cs:List AV) (vs:List Value),VS g w cs vs→∀i,i<cs.length→∃u,vs[i]? = some u∧V g w (cs.getD i .U) u∧u.oneCell'=true
 | [],_,_,i,hi=>by simp at hi
 | c::cs,_,h,i,hi=>by
  simp only [VS] at h
  obtain ⟨u,us,rfl,hu,h1,hs⟩:=h
  cases i with
  | zero=>exact ⟨u,rfl,hu,h1⟩
  | succ i=>simpa using VS_get cs us hs i (by simpa using hi)
theorem VS_drop:∀(k:Nat) (cs:List AV) (vs:List Value),VS g w cs vs→VS g w (cs.drop k) (vs.drop k)
 | 0,_,_,h=>h
 | k+1,[],vs,h=>by simp only [VS] at h;subst h;simp [VS]
 | k+1,c::cs,vs,h=>by
  simp only [VS] at h
  obtain ⟨u,us,rfl,_,_,hs⟩:=h
  simpa using VS_drop k cs us hs
theorem VS_take:∀(k:Nat) (cs:List AV) (vs:List Value),VS g w cs vs→VS g w (cs.take k) (vs.take k)
 | 0,_,_,_=>by simp [VS]
 | k+1,[],vs,h=>by simp only [VS] at h;subst h;simp [VS]
 | k+1,c::cs,vs,h=>by
  simp only [VS] at h
  obtain ⟨u,us,rfl,h1,h2,hs⟩:=h
  simp only [List.take_succ_cons,VS]
  exact ⟨u,_,rfl,h1,h2,VS_take k cs us hs⟩
theorem VS_cut {cs:List AV} {vs:List Value} (h:VS g w cs vs) {n off m:Nat} (hn:cs.length=n):VS g w (cut cs n off m) ((vs.drop off).take m):=by
 unfold cut
 split
 ·rename_i e
  obtain ⟨rfl,rfl⟩:=e
  have:vs.length=cs.length:=VS.length _ _ h
  rw [List.drop_zero,List.take_of_length_le (by omega)]
  exact h
 ·exact VS_take _ _ _ (VS_drop _ _ _ h)
theorem VS_app:∀(as bs:List AV) (us vs:List Value),VS g w as us→VS g w bs vs→VS g w (as++bs) (us++vs)
 | [],_,us,_,h,h'=>by simp only [VS] at h;subst h;simpa using h'
 | a::as,bs,us,vs,h,h'=>by
  simp only [VS] at h
  obtain ⟨u,us',rfl,h1,h2,hs⟩:=h
  simp only [List.cons_append,VS]
  exact ⟨u,_,rfl,h1,h2,VS_app as bs us' vs hs h'⟩
def PanQ (g0:Gh) (w0:World) (a:Act) (Q:Exit→Act→World→Prop) (R:Res):Prop:=
 ∀v h' u g' w',R = .pan v h'→Chg (fun b=>g0.ow b≠none) g0 w0 g' w'→HeapR g' w' h'→V g' w' v u→(∀b i,g'.st b i→b<w'.heap.size)→Q (.panic [{ v:=u,recovered:=false }]) a w'
def OpS (C:Cx) (nt:NT) (g0:Gh) (w0:World) (s:St) (a:Act) (w:World) (o:Oper) (K:Upd→Res) (R:Res):Prop:=
 ∀next Q,(∀u g' w' f' a',K u=R→Rel C nt g0 w0 g' w' f' (u.on o.dst s) a'→next a' w')→PanQ g0 w0 a Q R→o.wp C.P a w next Q
variable {K:Upd→Res} {R:Res} {G:FuncId→List AV→List HO→Res}
theorem OpS.val (r:Rel C nt g0 w0 g w f s a) (hd:∀x,o.dst=some x→nt.ok x) {e:EV} {u:Value} (hk:K { dst:=some e } = R)
  (hx:(execOp a.eval o).run C.P w = .ok (.value u) w) (hv:VE g w f s e u):OpS C nt g0 w0 s a w o K R:=
 fun _ _ hn _=>wp_val hx (hn _ g w f _ hk (r.val hd hv))
theorem OpS.valU (r:Rel C nt g0 w0 g w f s a) (hd:∀x,o.dst=some x→nt.ok x) {e:EV} {us:List (Nat×LOv)} {u:Value} {g':Gh}
  (hk:K { dst:=some e,locs:=us } = R) (hx:(execOp a.eval o).run C.P w = .ok (.value u) w)
  (hc:Core g' w f (s.withLocs us)) (hst:Stp g w f s g' w f (s.withLocs us)) (hv:VE g' w f (s.withLocs us) e u):OpS C nt g0 w0 s a w o K R:=
 fun _ _ hn _=>wp_val hx (hn _ g' w f _ hk (r.to hst hc rfl hd hv))
theorem Rel.evv (r:Rel C nt g0 w0 g w f s a) {x:Operand} {c:AV} (e:evO C s x = .v c):V g w c (a.eval x):=by
 have h:=r.ev x
 rw [e] at h
 exact h
theorem Rel.evq (r:Rel C nt g0 w0 g w f s a) {x:Operand} {c:AV} (e:(evO C s x).pl = .v c):V g w c (a.eval x):=by
 have h:=r.ev x
 cases e1:evO C s x with
 | v a=>
  rw [e1] at h e
  simp only [EV.pl,EV.v.injEq] at e
  rw [←e];exact h
 | ag cs=>
  rw [e1] at h e
  simp only [EV.pl,EV.v.injEq] at e
  obtain ⟨us,h1,h2⟩:=h
  rw [←e]
  simp only [V]
  exact ⟨us,h1,h2.VS⟩
 | un=>
  rw [e1] at e
  simp only [EV.pl,EV.v.injEq] at e
  rw [←e]
  simp only [V]
 | ub=>
  rw [e1] at e
  simp only [EV.pl,EV.v.injEq] at e
  rw [←e]
  simp only [V]
 | _=>rw [e1] at e;cases e
theorem Rel.evp (r:Rel C nt g0 w0 g w f s a) {x:Operand} {e:EV} (he:evO C s x=e):VE g w f s e (a.eval x):=he▸r.ev x
theorem cur_ptr {e:EV} {u:Value} (hv:VE g w f s e u) (hc:cur e (loO s e)=true) :
  ∃b o,u = .pointer (some ⟨b,o,none⟩)∧∀m,VE g w f s (shift m e) (.pointer (some ⟨b,o+m,none⟩)):=by
 cases e with
 | lp k ver off=>
  simp only [cur,loO,EV.site] at hc
  cases hl:s.loc k with
  | mk ver' lo=>
   rw [hl] at hc
   cases lo with
   | box m cs=>
    have e:=Nat.eq_of_beq_eq_true hc
    subst e
    have:=hv.2 (by rw [hl]) m cs (by rw [hl])
    subst this
    refine ⟨_,_,rfl,fun m'=>⟨by rw [hl];exact Nat.le_refl _,fun _ m'' cs' e'=>rfl⟩⟩
   | _=>cases hc
 | le k ver i off=>
  simp only [cur,loO,EV.site] at hc
  cases hl:s.loc k with
  | mk ver' lo=>
   rw [hl] at hc
   cases lo with
   | arr c ex=>
    have e:=Nat.eq_of_beq_eq_true hc
    subst e
    obtain ⟨h1,b,hb,he⟩:=hv.2 (by rw [hl]) c ex (by rw [hl])
    subst he
    refine ⟨_,_,rfl,fun m'=>⟨by rw [hl];exact Nat.le_refl _,fun _ c' ex' e' => ?_⟩⟩
    rw [hl] at e'
    cases e'
    exact ⟨h1,b,hb,by rw [Nat.add_assoc]⟩
   | _=>cases hc
 | ep n cs off=>
  obtain ⟨b,o,rfl,h2,h3⟩:=hv
  exact ⟨b,o+off,rfl,fun m=>⟨b,o,by rw [Nat.add_assoc],h2,h3⟩⟩
 | _=>cases hc
theorem shift_zero (e:EV):shift 0 e=e:=by cases e<;>rfl
def opH (C:Cx) (N:Ann) (G:FuncId→List AV→List HO→Res) (o:Oper) (s:St) (K:Upd→Res) (R:Res):Prop:=
 opF (stdAlg C.pure G) C N o (o.op.operands.toList.map (evO C s)) ((o.op.operands.toList.map (evO C s)).map (loO s)) (s.loc (o.dst.getD 0)) s.h s.hv K=R
theorem OpS.move (r:Rel C nt g0 w0 g w f s a) (hd:∀x,o.dst=some x→nt.ok x) (hR:R ≠ .stuck) {x:Operand} (ho:o.op = .move x)
  (h:opH C N G o s K R):OpS C nt g0 w0 s a w o K R:=by
 simp only [opH,opF,ho,Op.operands,stdAlg,List.map_cons,List.map_nil,List.getD_cons_zero,List.getD_cons_succ] at h
 exact .val r hd h (by simp [execOp,ho]) (r.ev x)
theorem OpS.pick (r:Rel C nt g0 w0 g w f s a) (hd:∀x,o.dst=some x→nt.ok x) (hR:R ≠ .stuck) {x y z:Operand} (ho:o.op = .pick x y z)
  (h:opH C N G o s K R):OpS C nt g0 w0 s a w o K R:=by
 simp only [opH,opF,ho,Op.operands,stdAlg,List.map_cons,List.map_nil,List.getD_cons_zero,List.getD_cons_succ] at h
 split at h
 ·rename_i c a1 b1 e1 e2 e3
  obtain ⟨t,hc,h⟩:=mB_inv h hR
  subst hc
  have hx:=V_B' (r.evv e1)
  rcases bIte_inv h with ⟨rfl,h⟩ | ⟨rfl,h⟩
  ·exact .val r hd h (by simp [execOp,ho,hx,asBool]) (r.evq e2)
  ·exact .val r hd h (by simp [execOp,ho,hx,asBool]) (r.evq e3)
 ·exact absurd h.symm hR
theorem OpS.nilCheck (r:Rel C nt g0 w0 g w f s a) (hd:∀x,o.dst=some x→nt.ok x) (hR:R ≠ .stuck) {x:Operand} (ho:o.op = .nilCheck x)
  (h:opH C N G o s K R):OpS C nt g0 w0 s a w o K R:=by
 simp only [opH,opF,ho,Op.operands,stdAlg,List.map_cons,List.map_nil,List.getD_cons_zero,List.getD_cons_succ] at h
 split at h
 ·rename_i c e1
  obtain ⟨id,off,rfl,h⟩:=mP_inv h hR
  have hx:=(V_P' (r.evv e1)).2
  exact .val r hd h (by simp [execOp,ho,hx]) (hx▸r.evv e1)
 ·split at h
  ·rename_i hc
   obtain ⟨b,off,hx,hs⟩:=cur_ptr (r.ev x) hc
   exact .val r hd h (by simp [execOp,ho,hx]) (hx▸r.ev x)
  ·exact absurd h.symm hR
theorem OpS.extract (r:Rel C nt g0 w0 g w f s a) (hd:∀x,o.dst=some x→nt.ok x) (hR:R ≠ .stuck) {x:Operand} {i:Nat} (ho:o.op = .extract x i)
  (h:opH C N G o s K R):OpS C nt g0 w0 s a w o K R:=by
 simp only [opH,opF,ho,Op.operands,stdAlg,List.map_cons,List.map_nil,List.getD_cons_zero,List.getD_cons_succ] at h
 split at h
 ·rename_i c e1
  obtain ⟨cs,rfl,hl,h⟩:=mT_inv h hR
  obtain ⟨vs,hx,hvs⟩:=V_T' (r.evv e1)
  obtain ⟨u,hu,hvu⟩:=VT_get cs vs hvs i (by omega)
  exact .val r hd h (by simp [execOp,ho,hx,Instr.extract,hu]) hvu
 ·exact absurd h.symm hR
theorem fieldOf_inv {P:Program} {t:TypeId} {i off:Nat} {ft:TypeId} (h:fieldOf P t i=some (off,ft)):∃fs fd,P.underlying t=some (.struct fs)∧fs[i]? = some fd∧fd.offset=off∧fd.type=ft:=by
 unfold fieldOf at h
 split at h
 ·rename_i fs e
  refine ⟨fs,?_⟩
  cases hf:fs[i]? with
  | none=>rw [hf] at h;cases h
  | some fd=>
   rw [hf] at h
   simp only [Option.map_some,Option.some.injEq,Prod.mk.injEq] at h
   exact ⟨fd,und_some e (by simp),rfl,h.1,h.2⟩
 ·cases h
theorem okT_inv {P:Program} {t:TypeId} (h:okT P t=true):∃d,P.underlying t=some d:=by
 unfold okT at h
 cases e:P.underlying t with
 | none=>rw [e] at h;cases h
 | some d=>exact ⟨d,rfl⟩
theorem szT_info {P:Program} {t:TypeId} (h:szT P t≠0):∃i,P.info? t=some i∧szT P t=i.size:=by
 unfold szT at h ⊢
 cases e:P.info? t with
 | none=>rw [e] at h;exact absurd rfl h
 | some i=>exact ⟨i,rfl,by simp⟩
theorem okT_info {P:Program} {t:TypeId} (h:okT P t=true):∃i,P.info? t=some i∧szT P t=i.size:=by
 obtain ⟨d,hd⟩:=okT_inv h
 obtain ⟨i,hi⟩:=info_of_und hd
 exact ⟨i,hi,szT_of hi⟩
theorem run_sz {P:Program} {t:TypeId} (h:okT P t=true∨szT P t≠0) (w:World):(sizeOf t).run P w = .ok (szT P t) w:=by
 obtain ⟨i,hi,e⟩:∃i,P.info? t=some i∧szT P t=i.size:=h.elim okT_info szT_info
 rw [run_sizeOf hi,e]
theorem run_agg {P:Program} {t:TypeId} (h:okT P t=true) (w:World):(isAgg t).run P w = .ok (aggT P t) w:=by
 obtain ⟨d,hd⟩:=okT_inv h
 exact run_isAgg hd w
theorem run_part_agg {P:Program} {t:TypeId} (h:okT P t=true) (ha:aggT P t=true) (w:World) (vs:List Value) (off:Nat) :
  (part t vs.toArray off).run P w = .ok (.agg ((vs.drop off).take (szT P t)).toArray) w:=by
 simp only [part,Sem.run_bind,run_agg h,Result.andThen_ok,ha,if_true,run_sz (.inl h),Sem.run_pure]
 congr 2
 simp only [List.extract_toArray,List.extract_eq_take_drop]
 congr 2
 omega
theorem run_part_one {P:Program} {t:TypeId} (h:okT P t=true) (ha:aggT P t=false) (w:World) (vs:List Value) (off:Nat) {u:Value} (hu:vs[off]? = some u) :
  (part t vs.toArray off).run P w = .ok u w:=by
 simp only [part,Sem.run_bind,run_agg h,Result.andThen_ok,ha,Bool.false_eq_true,if_false,List.getElem?_toArray,hu,Sem.run_pure]
theorem OpS.field (r:Rel C nt g0 w0 g w f s a) (hd:∀x,o.dst=some x→nt.ok x) (hR:R ≠ .stuck) {t:TypeId} {x:Operand} {i:Nat} (ho:o.op = .field t x i)
  (h:opH C N G o s K R):OpS C nt g0 w0 s a w o K R:=by
 simp only [opH,opF,ho,Op.operands,stdAlg,List.map_cons,List.map_nil,List.getD_cons_zero,List.getD_cons_succ] at h
 split at h
 ·rename_i off ft hf
  split at h
  ·rename_i c e1
   obtain ⟨cs,rfl,hl,h⟩:=mA_inv h hR
   obtain ⟨vs,hx,hvs⟩:=V_A' (r.evq e1)
   obtain ⟨fs,fd,hu,hfd,rfl,rfl⟩:=fieldOf_inv hf
   split at h
   ·rename_i hok
    split at h
    ·rename_i ha
     refine .val r hd h (u := .agg ((vs.drop fd.offset).take (szT C.P fd.type)).toArray) ?_ ?_
     ·simp [execOp,ho,hx,Instr.field,run_underlying hu,hfd,asAgg,run_part_agg hok.1 ha]
     ·show V g w (.A _) _
      simp only [V]
      exact ⟨_,rfl,VS_cut hvs hl⟩
    ·rename_i ha
     split at h
     ·obtain ⟨u,hu1,hvu,_⟩:=VS_get cs vs hvs fd.offset (by omega)
      refine .val r hd h (u:=u) ?_ hvu
      simp [execOp,ho,hx,Instr.field,run_underlying hu,hfd,asAgg,run_part_one hok.1 (by simpa using ha) w vs fd.offset hu1]
     ·exact absurd h.symm hR
   ·exact absurd h.symm hR
  ·exact absurd h.symm hR
 ·exact absurd h.symm hR
theorem OpS.fieldAddr (r:Rel C nt g0 w0 g w f s a) (hd:∀x,o.dst=some x→nt.ok x) (hR:R ≠ .stuck) {t:TypeId} {x:Operand} {i:Nat} (ho:o.op = .fieldAddr t x i)
  (h:opH C N G o s K R):OpS C nt g0 w0 s a w o K R:=by
 simp only [opH,opF,ho,Op.operands,stdAlg,List.map_cons,List.map_nil,List.getD_cons_zero,List.getD_cons_succ] at h
 split at h
 ·rename_i off ft hf
  obtain ⟨fs,fd,hu,hfd,rfl,rfl⟩:=fieldOf_inv hf
  split at h
  ·exact absurd h.symm hR
  ·rename_i hz
   have run:∀b o',a.eval x = .pointer (some ⟨b,o',none⟩)→(execOp a.eval o).run C.P w = .ok (.value (.pointer (some ⟨b,o'+fd.offset,none⟩))) w:=by
    intro b o' hx
    simp [execOp,ho,hx,Instr.fieldAt,run_underlying hu,hfd,Instr.sureAddr,fieldPlace,run_sz (P:=C.P) (.inr hz),hz,Addr.add]
   split at h
   ·rename_i c e1
    obtain ⟨id,off,rfl,h⟩:=mP_inv h hR
    obtain ⟨hlt,hx⟩:=V_P' (r.evv e1)
    refine .val r hd h (run _ _ hx) ?_
    show V g w (.P _ _) _
    simp only [V]
    exact ⟨hlt,trivial⟩
   ·split at h
    ·rename_i hc
     obtain ⟨b,off,hx,hs⟩:=cur_ptr (r.ev x) hc
     exact .val r hd h (run _ _ hx) (hs _)
    ·exact absurd h.symm hR
 ·exact absurd h.symm hR
end
end Go.Vm
