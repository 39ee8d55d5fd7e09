/- The value-level interpreter: values, memory slots, operations, code, calls. Definitions alone. -/
import Derived.KernelRfl
import Derived.Tactics
import Derived.Orders
import Derived.Laws.OwnMore
import Derived.Laws.MakeOwn
import Derived.Below
import Derived.Deep.AppendLies
import Derived.Maps.AppendAt
import Derived.Laws.StructEq
set_option linter.unusedVariables false
set_option linter.unusedSimpArgs false
set_option linter.unusedSectionVars false
section
namespace Go.Proofs.YthoholbeacojfaaGreat.VR
open Go
structure Share where
 Q:Int
 P:Int
structure Task where
 No:Int
 Class:Int
 Cpu:Int
 State:Int
 Idle:Bool
 Q:Int
 P:Int
 Left:Int
 Due:Int
 Prio:Int
 Round:Int
 Seq:Int
 Nice:Int
 V:Int
structure Lock where
 Owner:Int
 Waits:List Int
structure Ghost where
 Cpu:Int
 S:Share
 Until:Int
structure Turn where
 Cpu:Int
 Context:Int
 Executor:Int
structure Call where
 Kind:Int
 No:Int
 Cpu:Int
 A:Int
 B:Int
deriving instance DecidableEq,Inhabited for Share
deriving instance DecidableEq,Inhabited for Task
deriving instance DecidableEq,Inhabited for Lock
deriving instance DecidableEq,Inhabited for Ghost
deriving instance DecidableEq,Inhabited for Turn
deriving instance DecidableEq,Inhabited for Call
inductive C where
 |int (n:Int)|u8 (n:Int)|bool (b:Bool)|str (s:ByteArray)|nest (xs:List Int)
inductive Kd where
 |int|u8|bool|str|share|task|lock|ghost|turn|call
 deriving DecidableEq
@[reducible] def Kd.T : Kd → Type
 | .int=>Int| .u8=>Int| .bool=>Bool| .str=>ByteArray| .share=>Share| .task=>Task| .lock=>Lock| .ghost=>Ghost| .turn=>Turn| .call=>Call
def Kd.size:Kd→Nat
 | .share=>2| .task=>14| .lock=>2| .ghost=>4| .turn=>3| .call=>5|_=>1
def Kd.dflt:(k:Kd)→k.T
 | .int=>0| .u8=>0| .bool=>false| .str=>ByteArray.empty| .share=>⟨0,0⟩| .task=>⟨0,0,0,0,false,0,0,0,0,0,0,0,0,0⟩
 | .lock=>⟨0,[]⟩| .ghost=>⟨0,⟨0,0⟩,0⟩| .turn=>⟨0,0,0⟩| .call=>⟨0,0,0,0,0⟩
def Kd.cells:(k:Kd)→k.T→List C
 | .int,n=>[.int n]| .u8,n=>[.u8 n]| .bool,b=>[.bool b]| .str,s=>[.str s]
 | .share,x=>[.int x.Q,.int x.P]
 | .task,x=>[.int x.No,.int x.Class,.int x.Cpu,.int x.State,.bool x.Idle,.int x.Q,.int x.P,.int x.Left,.int x.Due,.int x.Prio,.int x.Round,.int x.Seq,.int x.Nice,.int x.V]
 | .lock,x=>[.int x.Owner,.nest x.Waits]
 | .ghost,x=>[.int x.Cpu,.int x.S.Q,.int x.S.P,.int x.Until]
 | .turn,x=>[.int x.Cpu,.int x.Context,.int x.Executor]
 | .call,x=>[.int x.Kind,.int x.No,.int x.Cpu,.int x.A,.int x.B]
def Vz:List C→Option Int
 | [.int n]=>some n
 |_=>none
def V5:List C→Option Int
 | [.u8 n]=>some n
 |_=>none
def Vw:List C→Option Bool
 | [.bool n]=>some n
 |_=>none
def V2:List C→Option ByteArray
 | [.str n]=>some n
 |_=>none
def V1:List C→Option Share
 | [.int a,.int b]=>some ⟨a,b⟩
 |_=>none
def V3:List C→Option Task
 | [.int a,.int b,.int c,.int d,.bool e,.int f,.int g,.int h,.int i,.int j,.int k,.int l,.int m,.int n]=>some ⟨a,b,c,d,e,f,g,h,i,j,k,l,m,n⟩
 |_=>none
def V0:List C→Option Lock
 | [.int a,.nest b]=>some ⟨a,b⟩
 |_=>none
def Vy:List C→Option Ghost
 | [.int a,.int b,.int c,.int d]=>some ⟨a,⟨b,c⟩,d⟩
 |_=>none
def V4:List C→Option Turn
 | [.int a,.int b,.int c]=>some ⟨a,b,c⟩
 |_=>none
def Vx:List C→Option Call
 | [.int a,.int b,.int c,.int d,.int e]=>some ⟨a,b,c,d,e⟩
 |_=>none
def Kd.ofCells:(k:Kd)→List C→Option k.T
 | .int=>Vz| .u8=>V5| .bool=>Vw| .str=>V2| .share=>V1| .task=>V3| .lock=>V0| .ghost=>Vy| .turn=>V4| .call=>Vx
def Kd.nests:Kd→Bool
 | .lock=>true
 |_=>false
inductive V where
 |int (n:Int)|u8 (n:Int)|bool (b:Bool)|str (s:ByteArray)|nil|emp
 |ro (p:Bool) (k:Kd) (xs:List k.T)
 |rp (cs:List V) (j:Nat)
 |bor (r:Nat)|borN (r i j:Nat)
 |ptr (b j:Nat)|ep (r i j:Nat)
 |agg (xs:List V)|tup (xs:List V)
 |clo (f:FuncId) (caps:List V)
 |junk|und|em (b:Bool)|sub (r lo hi:Nat)|jc
instance :Inhabited V:=⟨.junk⟩
def C.toV(p:Bool):C→V
 | .int n=>.int n| .u8 n=>.u8 n| .bool b=>.bool b| .str s=>.str s| .nest xs=>.ro p .int xs
inductive Ho where
 |ok|hole (i j:Nat)|dirty
inductive E where
 |fresh|dead
 |box (cs:List V)
 |root (k:Kd) (xs:List k.T) (h:Ho)
instance :Inhabited E:=⟨.fresh⟩
def Ho.whole:Ho→Bool
 | .hole .. =>false
 |_=>true
inductive Sh where
 |int|u8|bool|str|own (k:Kd)|ro (k:Kd)|junk|jc|agg (s:Sh)|tup (s:Sh)|box (s:Sh)|one|pair (a b:Sh)
@[reducible] def Sh.T : Sh → Type
 | .int=>Int| .u8=>Int| .bool=>Bool| .str=>ByteArray| .own k=>List k.T| .ro k=>List k.T| .junk=>Unit| .jc=>Unit
 | .agg s=>s.T| .tup s=>s.T| .box s=>s.T| .one=>Unit| .pair a b=>a.T×b.T
inductive A where
 |v (x:V)
 |own (k:Kd) (xs:List k.T)
 |agg (bz:List A)
 |box (bz:List A)
inductive AM where
 |ro|mv
inductive OA where
 |no
 |slot (s:Nat) (k:Kd)
 |call (ms:List AM) (sh:Sh) (outs:List Sh) (ss:List (Option Nat))
 |nst
structure TI where
 und:TypeDesc
 zero:Value
 size:Nat
 bytes:Nat
inductive Place where
 |t (t:Nat)|c (b j:Nat)
structure LA where
 first:Nat
 keep:List Nat
 norm:List (Place×Nat×Kd)
 reset:List Nat
 out:List Nat
 outH:List Nat
structure Ann where
 regs:List (Nat×List (Nat×OA))
 draws:List (Nat×List (List Nat×List Nat))
 loops:List LA
structure FnA where
 fn:Func
 ann:Ann
 slots:Nat
def Orc:=(f:FuncId)→List A→(sh:Sh)→Option sh.T
structure Eff where
 v:V
 ws:List (Nat×E)
abbrev w64(n:Int):Int:=IntKind.i64.wrap n
def lim:Nat:=1073741824
section
variable (Tb:TypeId→Option TI)
def ev(tm:List V):Operand→V
 | .tmp t=>tm.getD t .junk
 | .const (.int .i64 n)=>.int n
 | .const (.int .u8 n)=>.u8 n
 | .const (.bool b)=>.bool b
 | .const (.string s)=>.str s
 | .const (.slice none 0 0)=>.nil
 | .func f=>.clo f []
 |_=>.junk
def IY:List Value→Option (List V)
 | []=>some []
 |v::vs=>match v,IY vs with
  | .int .i64 n,some r=>some (.int n::r)
  | .int .u8 n,some r=>some (.u8 n::r)
  | .bool b,some r=>some (.bool b::r)
  | .string s,some r=>some (.str s::r)
  | .slice none 0 0,some r=>some (.nil::r)
  |_,_=>none
def AE(H:List E)(s:Nat):E:=H.getD s .fresh
def AJ(H:List E):List (Nat×E)→List E
 | []=>H
 |(s,e)::ws=>AJ (H.set s e) ws
def row(k:Kd)(xs:List k.T)(i:Nat):List C:=k.cells (xs.getD i k.dflt)
def C.ints:C→List Int
 | .nest ys=>ys
 |_=>[]
def fz(dl:List Nat)(H:List E):Nat→V→Option V
 |0,_=>none
 |n+1,v=>match v with
  | .int x=>some (.int x)| .u8 x=>some (.u8 x)| .bool x=>some (.bool x)| .str x=>some (.str x)| .nil=>some .nil| .emp=>some .emp
  | .ro p k xs=>some (.ro p k xs)| .junk=>some .junk| .und=>none| .em _=>none| .sub .. =>none| .jc=>some .jc
  | .rp cs j=>(go n cs).bind fun cs=>some (.rp cs j)
  | .bor r=>cond (dl.contains r) (some .junk) (match AE H r with
    | .root k xs h=>cond h.whole (some (.ro false k xs)) none
    |_=>none)
  | .borN r i j=>match AE H r with
    | .root k xs .ok=>some (.ro false .int ((row k xs i).getD j (.int 0)).ints)
    |_=>none
  | .ptr b j=>match AE H b with
    | .box cs=>(go n cs).bind fun cs=>some (.rp cs j)
    |_=>none
  | .ep r i j=>match AE H r with
    | .root k xs h=>cond h.whole (some (.rp ((row k xs i).map (C.toV false)) j)) none
    |_=>none
  | .agg xs=>(go n xs).bind fun xs=>some (.agg xs)
  | .tup xs=>(go n xs).bind fun xs=>some (.tup xs)
  | .clo f xs=>(go n xs).bind fun xs=>some (.clo f xs)
where
 go:Nat→List V→Option (List V)
 |0,_=>none
 |_+1,[]=>some []
 |n+1,x::xs=>(fz dl H n x).bind fun x=>(go n xs).bind fun xs=>some (x::xs)
def mvA:Nat→V→List E→Option (A×List (Nat×E))
 |0,_,_=>none
 |n+1,v,H=>match v with
  | .int x=>some (.v (.int x),[])| .u8 x=>some (.v (.u8 x),[])| .bool x=>some (.v (.bool x),[])| .str x=>some (.v (.str x),[])
  | .nil=>some (.v .nil,[])| .emp=>some (.v .emp,[])| .ro true k xs=>some (.v (.ro true k xs),[])
  | .bor r=>match AE H r with
    | .root k xs h=>cond h.whole (some (.own k xs,[(r,.dead)])) none
    |_=>none
  | .borN r i j=>match AE H r with
    | .root k xs .ok=>some (.own .int ((row k xs i).getD j (.int 0)).ints,[(r,.root k xs (.hole i j))])
    |_=>none
  | .agg xs=>(go n xs H).bind fun(bz,ws)=>some (.agg bz,ws)
  | .ptr b 0=>match AE H b with
    | .box cs=>(go n cs (H.set b .dead)).bind fun(bz,ws)=>some (.box bz,(b,.dead)::ws)
    |_=>none
  |_=>none
where
 go:Nat→List V→List E→Option (List A×List (Nat×E))
 |0,_,_=>none
 |_+1,[],_=>some ([],[])
 |n+1,x::xs,H=>(mvA n x H).bind fun(a,ws)=>(go n xs (AJ H ws)).bind fun(bz,ws')=>some (a::bz,ws++ws')
def CH:List V→List AM→List E→Option (List (V⊕A)×List (Nat×E))
 | [],[],_=>some ([],[])
 |v::vs,.ro::ms,H=>(CH vs ms H).bind fun(bz,ws)=>some (.inl v::bz,ws)
 |v::vs,.mv::ms,H=>(mvA 40 v H).bind fun(a,ws)=>(CH vs ms (AJ H ws)).bind fun(bz,ws')=>some (.inr a::bz,ws++ws')
 |_,_,_=>none
def D4(dl:List Nat)(H:List E):List (V⊕A)→Option (List A)
 | []=>some []
 | .inl v::bz=>(fz dl H 60 v).bind fun v=>(D4 dl H bz).bind fun bz=>some (.v v::bz)
 | .inr a::bz=>(D4 dl H bz).bind fun bz=>some (a::bz)
mutual
def lay:A→Nat→V×List E×Nat
 | .v x,s=>(x,[],s)
 | .own k xs,s=>(.bor s,[.root k xs .ok],s+1)
 | .agg bz,s=>let r:=layL bz s;(.agg r.1,r.2.1,r.2.2)
 | .box bz,s=>let r:=layL bz (s+1);(.ptr s 0,.box r.1::r.2.1,r.2.2)
def layL:List A→Nat→List V×List E×Nat
 | [],s=>([],[],s)
 |a::bz,s=>let r:=lay a s;let r':=layL bz r.2.2;(r.1::r'.1,r.2.1++r'.2.1,r'.2.2)
end
def V.one:V→Bool
 | .agg _| .tup _| .junk| .und=>false
 |_=>true
def D7:List V→Bool
 | []=>true
 |_=>false
def AZ:(sh:Sh)→List V→List E→Option (sh.T×List V×List E)
 | .int,.int n::vs,H=>some (n,vs,H)
 | .u8,.u8 n::vs,H=>some (n,vs,H)
 | .bool,.bool b::vs,H=>some (b,vs,H)
 | .str,.str s::vs,H=>some (s,vs,H)
 | .own k,.bor r::vs,H=>match AE H r with
   | .root k' xs ho=>cond ho.whole (if h:k'=k then some (h▸xs,vs,H.set r .dead)else none) none
   |_=>none
 | .own _,.nil::vs,H=>some ([],vs,H)
 | .own _,.emp::vs,H=>some ([],vs,H)
 | .ro k,.ro true k' xs::vs,H=>if h:k'=k then some (h▸xs,vs,H)else none
 | .ro _,.nil::vs,H=>some ([],vs,H)
 | .ro _,.emp::vs,H=>some ([],vs,H)
 | .junk,_::vs,H=>some ((),vs,H)
 | .jc,v::vs,H=>cond v.one (some ((),vs,H)) none
 | .agg s,.agg us::vs,H=>(AZ s us H).bind fun r=>cond (D7 r.2.1) (some (r.1,vs,r.2.2)) none
 | .tup s,.tup us::vs,H=>(AZ s us H).bind fun r=>cond (D7 r.2.1) (some (r.1,vs,r.2.2)) none
 | .box s,.ptr b 0::vs,H=>match AE H b with
   | .box cs=>(AZ s cs (H.set b .dead)).bind fun r=>cond (D7 r.2.1) (some (r.1,vs,r.2.2)) none
   |_=>none
 | .one,vs,H=>some ((),vs,H)
 | .pair a b,vs,H=>(AZ a vs H).bind fun r=>(AZ b r.2.1 r.2.2).bind fun r'=>some ((r.1,r'.1),r'.2.1,r'.2.2)
 |_,_,_=>none
structure Thawed where
 vs:List V
 ws:List (Nat×E)
 ss:List (Option Nat)
def BJ:(sh:Sh)→sh.T→List (Option Nat)→Thawed
 | .int,n,ss=>⟨[.int n],[],ss⟩
 | .u8,n,ss=>⟨[.u8 n],[],ss⟩
 | .bool,b,ss=>⟨[.bool b],[],ss⟩
 | .str,s,ss=>⟨[.str s],[],ss⟩
 | .own k,xs,some s::ss=>⟨[.bor s],[(s,.root k xs .ok)],ss⟩
 | .own k,xs,none::ss=>⟨[.ro true k xs],[],ss⟩
 | .own _,_,[]=>⟨[.junk],[],[]⟩
 | .ro k,xs,ss=>⟨[.ro true k xs],[],ss⟩
 | .junk,_,ss=>⟨[.junk],[],ss⟩
 | .jc,_,ss=>⟨[.jc],[],ss⟩
 | .agg s,r,ss=>let x:=BJ s r ss;⟨[.agg x.vs],x.ws,x.ss⟩
 | .tup s,r,ss=>let x:=BJ s r ss;⟨[.tup x.vs],x.ws,x.ss⟩
 | .box s,r,some q::ss=>let x:=BJ s r ss;⟨[.ptr q 0],(q,.box x.vs)::x.ws,x.ss⟩
 | .box _,_,ss=>⟨[.junk],[],ss⟩
 | .one,_,ss=>⟨[],[],ss⟩
 | .pair a b,r,ss=>let x:=BJ a r.1 ss;let y:=BJ b r.2 x.ss;⟨x.vs++y.vs,x.ws++y.ws,y.ss⟩
def skip:Sh→List V→List V
 | .one,vs=>vs
 | .pair a b,vs=>skip b (skip a vs)
 |_,vs=>vs.tail
def DF:(sh:Sh)→List V→sh.T→List (Option Nat)→Thawed
 | .box s,.ptr b 0::vs,r,ss=>let x:=BJ s r ss;⟨[],(b,.box x.vs)::x.ws,x.ss⟩
 | .own k,.bor q::vs,r,ss=>⟨[],[(q,.root k r .dirty)],ss⟩
 | .agg s,.agg us::vs,r,ss=>DF s us r ss
 | .pair a b,vs,r,ss=>let x:=DF a vs r.1 ss;let y:=DF b (skip a vs) r.2 x.ss;⟨[],x.ws++y.ws,y.ss⟩
 |_,_,_,ss=>⟨[],[],ss⟩
def Dq(H:List E):Sh→List V→Bool
 | .own k,.bor q::_=>match AE H q with
   | .root k' _ _=>decide (k'=k)
   |_=>false
 | .agg s,.agg us::_=>Dq H s us
 | .pair a b,vs=>Dq H a vs&&Dq H b (skip a vs)
 |_,_=>true
def Ot:List Nat→Bool
 | []=>true
 |x::r=> !r.contains x&&Ot r
def E.isFresh:E→Bool
 | .fresh=>true
 |_=>false
def F2(H:List E):List (Option Nat)→Bool
 | []=>true
 |none::r=>F2 H r
 |some s::r=>Nat.blt s H.length&&(AE H s).isFresh&&F2 (H.set s .dead) r
def G3:List Sh→Sh
 | []=>.one
 |s::r=>.pair s (G3 r)
end
end Go.Proofs.YthoholbeacojfaaGreat.VR
end
section
namespace Go.Proofs.YthoholbeacojfaaGreat.VR
open Go
section
variable (Tb:TypeId→Option TI)(tyK:Kd→TypeId){α:Type}
def Cg(e:TypeId)(q:Kd):Bool:=match Tb e with
 |some ti=>ti.size==q.size
 |none=>false
def I8(e:TypeId)(q:Kd):Bool:=(e==tyK q)&&Cg Tb e q
def RH(d:TypeDesc):Bool:=match d with
 | .struct _| .array _ _=>true
 |_=>false
def Fv(cs:List V)(j:Nat)(ti:TI):Option V:=
 cond (RH ti.und)
  (cond (decide (j+ti.size≤cs.length)) (some (.agg ((cs.drop j).take ti.size))) none)
  (cs[j]?)
def V.cellsOf:V→List V
 | .agg xs=>xs
 |v=>[v]
def V.allOne:List V→Bool
 | []=>true
 |v::vs=>v.one&&V.allOne vs
def toC(H:List E):V→Option (C×List (Nat×E))
 | .int n=>some (.int n,[])| .u8 n=>some (.u8 n,[])| .bool b=>some (.bool b,[])| .str s=>some (.str s,[])
 | .nil=>some (.nest [],[])| .emp=>some (.nest [],[])
 | .bor r=>match AE H r with
   | .root .int xs ho=>cond ho.whole (some (.nest xs,[(r,.dead)])) none
   |_=>none
 |_=>none
def EI(H:List E):List V→Option (List C×List (Nat×E))
 | []=>some ([],[])
 |v::vs=>(toC H v).bind fun(c,ws)=>(EI (AJ H ws) vs).bind fun(cs,ws')=>some (c::cs,ws++ws')
def C.isNest:C→Bool
 | .nest _=>true
 |_=>false
def C.anyNest:List C→Bool
 | []=>false
 |c::cs=>c.isNest||C.anyNest cs
def A5{β:Type}(xs:List β)(j:Nat)(ys:List β):List β:=xs.take j++ys++xs.drop (j+ys.length)
def Ho.store(h:Ho)(i j:Nat)(cs:List C)(k:Ho→Option α):Option α:=
 cond (C.anyNest cs) (match h with
  | .hole i' j'=>cond (decide (i=i')&&decide (j≤j')&&decide (j'<j+cs.length)) (k .dirty) none
  |_=>k .dirty) (k h)
def Fy(k:Kd)(H:List E):List V→Option (List k.T×List (Nat×E))
 | []=>some ([],[])
 |v::vs=>(EI H v.cellsOf).bind fun(cs,ws)=>(k.ofCells cs).bind fun x=>(Fy k (AJ H ws) vs).bind fun(xs,ws')=>some (x::xs,ws++ws')
def Dv(k:Kd)(H:List E):V→Option (List k.T×List (Nat×E)×Ho)
 | .nil=>some ([],[],.ok)
 | .emp=>some ([],[],.ok)
 | .bor r=>match AE H r with
   | .root k' xs ho=>if h:k'=k then cond ho.whole (some (h▸xs,[(r,.dead)],ho)) none else none
   |_=>none
 | .borN r i j=>match AE H r with
   | .root k' xs .ok=>if h:Kd.int=k then some (h▸((row k' xs i).getD j (.int 0)).ints,[(r,.root k' xs (.hole i j))],.ok)else none
   |_=>none
 |_=>none
def Cb(k:Kd)(H:List E):V→Option (List k.T×List (Nat×E))
 | .nil=>some ([],[])
 | .emp=>some ([],[])
 | .em _=>some ([],[])
 | .bor r=>match AE H r with
   | .root k' xs ho=>if h:k'=k then cond ho.whole (some (h▸xs,cond k.nests [(r,.dead)] [])) none else none
   |_=>none
 | .ro _ k' xs=>if h:k'=k then cond k.nests none (some (h▸xs,[]))else none
 |_=>none
def eqV:List V→List V→Option Bool
 | [],[]=>some true
 | .int a::xs,.int b::ys=>(eqV xs ys).bind fun r=>some (decide (a=b)&&r)
 | .bool a::xs,.bool b::ys=>(eqV xs ys).bind fun r=>some ((a==b)&&r)
 |_,_=>none
def Lm(Tb:TypeId→Option TI)(t:TypeId):Bool:=match Tb t with
 |some ⟨.slice _,_,_,_⟩=>true
 |_=>false
def HN(op:BinOp)(b:Bool)(k:Bool→Option α):Option α:=match op with
 | .eql=>k b
 |_=>none
def I6(Tb:TypeId→Option TI):Nat→List Field→List V→Bool
 |_,[],[]=>true
 |n,f::fs,x::xs=>(f.offset==n)&&(f.name != "_")&&(match Tb f.type,x with
  |some ⟨.int .i64,_,_,_⟩,.int _=>true
  |some ⟨.bool,_,_,_⟩,.bool _=>true
  |_,_=>false)&&I6 Tb (n+1) fs xs
 |_,_,_=>false
def Mk(Tb:TypeId→Option TI)(t:TypeId)(xs:List V):Bool:=match Tb t with
 |some ⟨.struct fs,_,_,_⟩=>I6 Tb 0 fs.toList xs
 |_=>false
def shK(op:BinOp)(a:Int)(y:Operand)(k:V→Option α):Option α:=
 match op,y with
 | .shl,.const (.int .u64 b)=>cond (decide (b<0)) none (k (.int (w64 (a*2^(min b.toNat 64)))))
 | .shr,.const (.int .u64 b)=>cond (decide (b<0)) none (k (.int (a.fdiv (2^(min b.toNat 64)))))
 |_,_=>none
def Ii(op:BinOp)(a b:Int)(k:V→Option α):Option α:=
 match op with
 | .add=>k (.int (w64 (a+b)))
 | .sub=>k (.int (w64 (a-b)))
 | .mul=>k (.int (w64 (a*b)))
 | .quo=>cond (decide (b=0)) none (k (.int (w64 (a.tdiv b))))
 | .rem=>cond (decide (b=0)) none (k (.int (a.tmod b)))
 | .and=>k (.int (w64 (BitVec.ofInt 64 a&&&BitVec.ofInt 64 b).toNat))
 | .or=>k (.int (w64 (BitVec.ofInt 64 a|||BitVec.ofInt 64 b).toNat))
 | .xor=>k (.int (w64 (BitVec.ofInt 64 a^^^BitVec.ofInt 64 b).toNat))
 | .shl=>cond (decide (b<0)) none (k (.int (w64 (a*2^(min b.toNat 64)))))
 | .shr=>cond (decide (b<0)) none (k (.int (a.fdiv (2^(min b.toNat 64)))))
 | .eql=>k (.bool (decide (a=b)))
 | .neq=>k (.bool (!decide (a=b)))
 | .lss=>k (.bool (decide (a<b)))
 | .leq=>k (.bool (decide (a≤b)))
 | .gtr=>k (.bool (decide (b<a)))
 | .geq=>k (.bool (decide (b≤a)))
 |_=>none
def Ik(op:BinOp)(a b:Int)(k:V→Option α):Option α:=
 match op with
 | .eql=>k (.bool (decide (a=b)))
 | .neq=>k (.bool (!decide (a=b)))
 | .lss=>k (.bool (decide (a<b)))
 | .leq=>k (.bool (decide (a≤b)))
 | .gtr=>k (.bool (decide (b<a)))
 | .geq=>k (.bool (decide (b≤a)))
 | .add=>k (.u8 (IntKind.u8.wrap (a+b)))
 | .sub=>k (.u8 (IntKind.u8.wrap (a-b)))
 |_=>none
def Py(s:ByteArray)(n:Nat):Int:=(((s[n]?).getD 0).toNat:Int)
def Sm(a b:ByteArray):Bool:=a.toList==b.toList
def Ij(op:BinOp)(a b:ByteArray)(k:V→Option α):Option α:=
 match op with
 | .add=>cond (decide (a.size+b.size≤lim)) (k (.str (a++b))) none
 | .eql=>k (.bool (Sm a b))
 | .neq=>k (.bool (!Sm a b))
 |_=>none
def V.asI(v:V)(k:Int→Option α):Option α:=match v with
 | .int n=>k n
 |_=>none
def V.asB(v:V)(k:Bool→Option α):Option α:=match v with
 | .bool b=>k b
 |_=>none
def V.asG(v:V)(k:Bool→Option α)(z:Option α):Option α:=match v with
 | .bool b=>k b
 | .und=>z
 |_=>none
def Db(tm:List V)(x:Option Operand)(d:Int)(k:Int→Option α):Option α:=match x with
 |none=>k d
 |some x=>(ev tm x).asI k
def Lx(fs:List Field):Option (List (Nat×Nat)):=match fs with
 | []=>some []
 |f::r=>(Tb f.type).bind fun ti=>(Lx r).bind fun ps=>some ((f.offset,ti.size)::ps)
def Lb(ps:List (Nat×Nat))(cs:List V):List (Nat×V)→Option (List V)
 | []=>some cs
 |(i,v)::r=>(ps[i]?).bind fun p=>cond (decide (v.cellsOf.length=p.2)&&V.allOne v.cellsOf&&decide (p.1+p.2≤cs.length)) (Lb ps (A5 cs p.1 v.cellsOf) r) none
def Oi:Nat→List (Nat×Operand)→Bool
 |_,[]=>true
 |n,(i,_)::r=>decide (i=n)&&Oi (n+1) r
def Ei(Co:Orc)(f:FuncId)(vs:List V)(ms:List AM)(sh:Sh)(outs:List Sh)(ss:List (Option Nat))(H:List E)(k:Eff→Option α):Option α:=
 (CH vs ms H).bind fun m=>(D4 (m.2.map (·.1)) (AJ H m.2) m.1).bind fun bz=>
   cond (F2 H ss&&Dq H (G3 outs) vs) ((Co f bz (.pair sh (G3 outs))).bind fun r=>
    let x:=BJ sh r.1 ss
    let y:=DF (G3 outs) vs r.2 x.ss
    match x.vs,Ot ((x.ws++y.ws).map (·.1))with
    | [v],true=>k ⟨v,m.2++x.ws++y.ws⟩
    |_,_=>none) none
def V.ints:List V→Bool
 | []=>true
 | .int _::vs=>V.ints vs
 |_=>false
def Ej(Co:Orc)(f:FuncId)(vs:List V)(H:List E)(k:Eff→Option α):Option α:=
 match vs with
 | .borN r i j::rest=>match AE H r with
   | .root kd xs .ok=>cond (decide (i<xs.length)&&V.ints rest)
     ((Co f (.own .int ((row kd xs i).getD j (.int 0)).ints::rest.map .v) (.pair .int (.pair (.own .int) .one))).bind fun q=>
       (kd.ofCells (A5 (row kd xs i) j [.nest q.2.1])).bind fun x=>k ⟨.int q.1,[(r,.root kd (xs.set i x) .ok)]⟩) none
   |_=>none
 |_=>none
def Dy(b:Builtin)(ts:Array TypeId)(vs:List V)(oa:OA)(H:List E)(k:Eff→Option α):Option α:=
 match b,vs with
 | .len,[x]=>match ts.toList with
   | [t]=>match Tb t,x with
     |some ⟨.string,_,_,_⟩,.str s=>k ⟨.int s.size,[]⟩
     |some ⟨.slice _,_,_,_⟩,.nil=>k ⟨.int 0,[]⟩
     |some ⟨.slice _,_,_,_⟩,.emp=>k ⟨.int 0,[]⟩
     |some ⟨.slice _,_,_,_⟩,.ro _ _ xs=>k ⟨.int xs.length,[]⟩
     |some ⟨.slice _,_,_,_⟩,.bor r=>match AE H r with
      | .root _ xs _=>k ⟨.int xs.length,[]⟩
      |_=>none
     |_,_=>none
   |_=>none
 | .clear,[.sub r lo hi]=>match ts.toList with
   | [t]=>match Tb t,AE H r with
     |some ⟨.slice e,_,_,_⟩,.root q xs ho=>cond (I8 Tb tyK e q&& !q.nests&&decide (lo<hi)&&decide (hi≤xs.length))
      (k ⟨.tup [],[(r,.root q (A5 xs lo (List.replicate (hi-lo) q.dflt)) ho)]⟩) none
     |_,_=>none
   |_=>none
 | .max,[.int a,.int b]=>k ⟨.int (if b>a then b else a),[]⟩
 | .min,[.int a,.int b]=>k ⟨.int (if b<a then b else a),[]⟩
 | .append,[x,y]=>match oa,ts.toList with
   | .slot s q,t::_=>match Tb t,AE H s with
     |some ⟨.slice e,_,_,_⟩,.fresh=>(Dv q H x).bind fun a=>(Cb q (AJ H a.2.1) y).bind fun b=>
      cond (I8 Tb tyK e q&&decide (ts.size=2)&&ts.toList.all (fun u=>u==t)&&decide (a.1.length+b.1.length≤lim)) (k ⟨.bor s,a.2.1++b.2++[(s,.root q (a.1++b.1) a.2.2)]⟩) none
     |_,_=>none
   |_,_=>none
 |_,_=>none
def opK(Co:Orc)(o:Oper)(oa:OA)(tm:List V)(H:List E)(k:Eff→Option α):Option α:=
 match o.op with
 | .move x=>k ⟨ev tm x,[]⟩
 | .assign x=>k ⟨ev tm x,[]⟩
 | .pick c a b=>(ev tm c).asB fun c=>match ev tm a,ev tm b with
   | .bool x,.bool y=>k ⟨.bool (cond c x y),[]⟩
   |x,y=>cond c (k ⟨x,[]⟩) (k ⟨y,[]⟩)
 | .binOp op ety x y _=>match ev tm x,ev tm y with
   | .int a,.int b=>Ii op a b fun v=>k ⟨v,[]⟩
   | .u8 a,.u8 b=>Ik op a b fun v=>k ⟨v,[]⟩
   | .str a,.str b=>Ij op a b fun v=>k ⟨v,[]⟩
   | .bool a,.bool b=>match Tb ety with
     |some ⟨.bool,_,_,_⟩=>match op with
      | .eql=>k ⟨.bool (a==b),[]⟩
      | .neq=>k ⟨.bool (!(a==b)),[]⟩
      |_=>none
     |_=>none
   | .agg a,.agg b=>match op with
     | .eql=>cond (Mk Tb ety a) ((eqV a b).bind fun r=>k ⟨.bool r,[]⟩) none
     | .neq=>cond (Mk Tb ety a) ((eqV a b).bind fun r=>k ⟨.bool (!r),[]⟩) none
     |_=>none
   | .nil,.nil=>cond (Lm Tb ety) (HN op true fun b=>k ⟨.bool b,[]⟩) none
   | .em b,.nil=>cond (Lm Tb ety) (HN op b fun b=>k ⟨.bool b,[]⟩) none
   | .ro _ _ xs,.nil=>cond (Lm Tb ety) (cond xs.isEmpty none (HN op false fun b=>k ⟨.bool b,[]⟩)) none
   | .int a,.junk=>shK op a y fun v=>k ⟨v,[]⟩
   |_,_=>none
 | .unOp op _ x=>match op,ev tm x with
   | .not,.bool b=>k ⟨.bool (!b),[]⟩
   | .neg,.int n=>k ⟨.int (w64 (0-n)),[]⟩
   |_,_=>none
 | .nilCheck x=>match ev tm x with
   | .rp cs j=>k ⟨.rp cs j,[]⟩
   | .ptr b j=>k ⟨.ptr b j,[]⟩
   | .ep r i j=>match AE H r with
     | .root .. =>k ⟨.ep r i j,[]⟩
     |_=>none
   | .clo f cs=>k ⟨.clo f cs,[]⟩
   |_=>none
 | .fieldAddr t x fld=>match Tb t with
   |some ⟨.struct fs,_,_,_⟩=>match fs[fld]? with
    |some f=>match Tb f.type with
     |some ti=>cond (decide (ti.size=0)) none (match ev tm x with
      | .rp cs j=>k ⟨.rp cs (j+f.offset),[]⟩
      | .ptr b j=>k ⟨.ptr b (j+f.offset),[]⟩
      | .ep r i j=>match AE H r with
        | .root .. =>k ⟨.ep r i (j+f.offset),[]⟩
        |_=>none
      |_=>none)
     |none=>none
    |none=>none
   |_=>none
 | .indexAddr t x ix=>match Tb t with
   |some ⟨.slice e,_,_,_⟩=>(ev tm ix).asI fun i=>match ev tm x with
    | .ro p q xs=>cond (Cg Tb e q&&decide (0≤i)&&decide (i<(xs.length:Int))) (k ⟨.rp ((row q xs i.toNat).map (C.toV p)) 0,[]⟩) none
    | .bor r=>match AE H r with
      | .root q xs _=>cond (Cg Tb e q&&decide (0≤i)&&decide (i<(xs.length:Int))) (k ⟨.ep r i.toNat 0,[]⟩) none
      |_=>none
    |_=>none
   |_=>none
 | .load t x=>match Tb t with
   |some ti=>match ev tm x with
    | .rp cs j=>(Fv cs j ti).bind fun v=>k ⟨v,[]⟩
    | .ptr b j=>match AE H b with
      | .box cs=>(Fv cs j ti).bind fun v=>k ⟨v,[]⟩
      |_=>none
    | .ep r i j=>match AE H r with
      | .root q xs .ok=>(Fv (((row q xs i).zipIdx).map fun p=>match p.1 with| .nest _=>V.borN r i p.2|c=>c.toV false) j ti).bind fun v=>k ⟨v,[]⟩
      | .root q xs .dirty=>cond (C.anyNest (row q xs i)) none ((Fv ((row q xs i).map (C.toV false)) j ti).bind fun v=>k ⟨v,[]⟩)
      |_=>none
    |_=>none
   |none=>none
 | .store t x y=>match Tb t with
   |some ti=>let v:=ev tm y
    cond (decide (v.cellsOf.length=ti.size)&&V.allOne v.cellsOf) (match ev tm x with
     | .ptr b j=>match AE H b with
       | .box cs=>cond (decide (j+ti.size≤cs.length)) (k ⟨.junk,[(b,.box (A5 cs j v.cellsOf))]⟩) none
       |_=>none
     | .ep r i j=>match AE H r with
       | .root q xs ho=>(EI H v.cellsOf).bind fun m=>cond (decide (m.2.length≤1)&&decide (j+m.1.length≤q.size)&&decide (i<xs.length)) ((q.ofCells (A5 (row q xs i) j m.1)).bind fun e=>
         ho.store i j m.1 fun ho=>k ⟨.junk,m.2++[(r,.root q (xs.set i e) ho)]⟩) none
       |_=>none
     |_=>none) none
   |none=>none
 | .alloc t=>match oa,Tb t with
   | .slot s _,some ti=>match AE H s with
     | .fresh=>(IY ti.zero.cells.toList).bind fun zs=>k ⟨.ptr s 0,[(s,.box zs)]⟩
     |_=>none
   |_,_=>none
 | .box _ x=>match oa with
   | .slot s _=>match AE H s with
     | .fresh=>cond (V.allOne (ev tm x).cellsOf) (k ⟨.ptr s 0,[(s,.box (ev tm x).cellsOf)]⟩) none
     |_=>none
   |_=>none
 | .build t parts=>match Tb t with
   |some ⟨.struct fs,zero,_,_⟩=>(IY zero.cells.toList).bind fun zs=>(Lx Tb fs.toList).bind fun ps=>
    (Lb ps zs (parts.toList.map fun p=>(p.1,ev tm p.2))).bind fun cs=>k ⟨.agg cs,[]⟩
   |_=>none
 | .buildSlice t n parts=>match oa,Tb t with
   | .slot s q,some ⟨.slice e,_,_,_⟩=>match AE H s with
     | .fresh=>cond (I8 Tb tyK e q&&decide (parts.size=n)&&Oi 0 parts.toList&&decide (n≤65536))
       ((Fy q H (parts.toList.map fun p=>ev tm p.2)).bind fun m=>cond (decide (m.2.length≤1)) (k ⟨.bor s,m.2++[(s,.root q m.1 .ok)]⟩) none) none
     |_=>none
   |_,_=>none
 | .makeSlice t x y=>match oa,Tb t with
   | .slot s q,some ⟨.slice e,_,_,_⟩=>match AE H s with
     | .fresh=>(ev tm x).asI fun a=>(ev tm y).asI fun b=>cond (I8 Tb tyK e q&&decide (a=b)&&decide (0≤a)&&decide (a≤(lim:Int))) (k ⟨.bor s,[(s,.root q (List.replicate a.toNat q.dflt) .ok)]⟩) none
     |_=>none
   |_,_=>none
 | .makeFunc (.func f) first caps=>cond (decide (first.size=0)) (k ⟨.clo f (caps.toList.map (ev tm)),[]⟩) none
 | .extract x i=>match ev tm x with
   | .tup vs=>match vs[i]? with
     |some v=>k ⟨v,[]⟩
     |none=>none
   |_=>none
 | .index t x ix=>match Tb t,ev tm x,ev tm ix with
   |some ⟨.string,_,_,_⟩,.str s,.int i=>cond (decide (0≤i)&&decide (i<(s.size:Int))) (k ⟨.u8 (Py s i.toNat),[]⟩) none
   |_,_,_=>none
 | .convert src dst x=>match Tb src,Tb dst,ev tm x with
   |some _,some ⟨.int .i64,_,_,_⟩,.int n=>k ⟨.int (w64 n),[]⟩
   |some _,some ⟨.int .i64,_,_,_⟩,.u8 n=>k ⟨.int (w64 n),[]⟩
   |some _,some ⟨.int .u8,_,_,_⟩,.int n=>k ⟨.u8 (IntKind.u8.wrap n),[]⟩
   |some _,some ⟨.int .u8,_,_,_⟩,.u8 n=>k ⟨.u8 (IntKind.u8.wrap n),[]⟩
   |_,_,_=>none
 | .slice t x lo hi mx=>match Tb t with
   |some ⟨.slice e,_,_,_⟩=>match mx with
    |none=>match ev tm x with
     | .ro p q xs=>Db tm lo 0 fun l=>Db tm hi (xs.length:Int) fun h=>
       cond (Cg Tb e q&&decide (0≤l)&&decide (l≤h)&&decide (h≤(xs.length:Int))) (k ⟨.ro p q ((xs.take h.toNat).drop l.toNat),[]⟩) none
     | .bor r=>match oa,lo,AE H r with
       | .slot s _,none,.root q xs ho=>match AE H s with
         | .fresh=>Db tm hi (xs.length:Int) fun h=>cond (Cg Tb e q&& !q.nests&&ho.whole&&decide (0≤h)&&decide (h≤(xs.length:Int)))
           (k ⟨.bor s,[(r,.dead),(s,.root q (xs.take h.toNat) .ok)]⟩) none
         |_=>none
       | .no,_,.root q xs _=>Db tm lo 0 fun l=>Db tm hi (xs.length:Int) fun h=>
         cond (Cg Tb e q&&decide (0≤l)&&decide (l≤h)&&decide (h≤(xs.length:Int))) (k ⟨.sub r l.toNat h.toNat,[]⟩) none
       |_,_,_=>none
     | .nil=>Db tm lo 0 fun l=>Db tm hi 0 fun h=>cond (Cg Tb e .int&&decide (l=0)&&decide (h=0)) (k ⟨.nil,[]⟩) none
     |_=>none
    |some m=>match lo with
     |none=>Db tm hi 1 fun h=>Db tm (some m) 1 fun m=>cond (decide (h=0)&&decide (m=0)) (match ev tm x with
      | .ro _ q _=>cond (Cg Tb e q) (k ⟨.emp,[]⟩) none
      | .nil=>cond (Cg Tb e .int||Cg Tb e .task||Cg Tb e .ghost||Cg Tb e .turn||Cg Tb e .lock) (k ⟨.emp,[]⟩) none
      |_=>none) none
     |some _=>none
   |some ⟨.string,_,_,_⟩=>match ev tm x,mx with
    | .str s,none=>Db tm lo 0 fun l=>Db tm hi (s.size:Int) fun h=>
      cond (decide (0≤l)&&decide (l≤h)&&decide (h≤(s.size:Int))) (k ⟨.str (s.extract l.toNat h.toNat),[]⟩) none
    |_,_=>none
   |_=>none
 | .call c=>match c.callee with
   | .builtin b=>Dy Tb tyK b c.argTypes (c.args.toList.map (ev tm)) oa H k
   | .value f=>match ev tm f,oa with
     | .clo f caps,.call ms sh outs ss=>Ei Co f (c.args.toList.map (ev tm)++caps) (ms++List.replicate caps.length .ro) sh outs ss H k
     | .clo f caps,.nst=>Ej Co f (c.args.toList.map (ev tm)++caps) H k
     |_,_=>none
   |_=>none
 |_=>none
def YM(n:Nat):OA→Bool
 | .slot s _=>Nat.blt s n
 |_=>true
def DT(Co:Orc)(ops:Array Oper)(o:Oper)(oa:OA)(tm:List V)(H:List E)(k:List V→Eff→Option α):Option α:=cond (YM H.length oa)
 (match o.guard with
 |none=>opK Tb tyK Co o oa tm H (k tm)
 |some (g,want)=>match(ops[g]?).bind (·.dst)with
  |some d=>(tm.getD d .junk).asG (fun b=>cond b
   (let tm:=tm.set d (.bool true);cond want (opK Tb tyK Co o oa tm H (k tm)) (k tm ⟨.und,[]⟩))
   (let tm:=tm.set d (.bool false);cond want (k tm ⟨.und,[]⟩) (opK Tb tyK Co o oa tm H (k tm)))) (k tm ⟨.und,[]⟩)
  |none=>none) none
def IF(tm:List V)(d:Option Tmp)(v:V):List V:=match d with
 |some d=>tm.set d v
 |none=>tm
structure St where
 tm:List V
 H:List E
def Jx(bz:List (Nat×OA))(i:Nat):OA:=match bz with
 | []=>.no
 |(j,a)::r=>cond (i==j) a (Jx r i)
def MB(Co:Orc)(ops:Array Oper)(bz:List (Nat×OA)):Nat→List Oper→List V→List E→(St→Option α)→Option α
 |_,[],tm,H,k=>k ⟨tm,H⟩
 |i,o::os,tm,H,k=>DT Tb tyK Co ops o (Jx bz i) tm H fun tm e=>MB Co ops bz (i+1) os (IF tm o.dst e.v) (AJ H e.ws) k
def keepT(keep:List Nat):Nat→List V→List V
 |_,[]=>[]
 |n,v::vs=>(cond (keep.contains n) v .junk)::keepT keep (n+1) vs
def By(H:List E)(rd:List Nat):Nat→List E
 |n=>match H with
  | []=>[]
  |e::H=>(cond (rd.contains n) e .dead)::By H rd (n+1)
def KJ(ws:List (Nat×E))(wr:List Nat):Bool:=ws.all fun p=>wr.contains p.1
def FV(Co:Orc)(ops:Array Oper)(bz:List (Nat×OA)):Nat→List Oper→List (List Nat×List Nat)→List V→List E→(St→Option α)→Option α
 |_,[],_,tm,H,k=>k ⟨tm,H⟩
 |i,o::os,(rd,wr)::ds,tm,H,k=>DT Tb tyK Co ops o (Jx bz i) (keepT (o.looksAt ops) 0 tm) (By H rd 0) fun _ e=>
  cond (KJ e.ws wr) (FV Co ops bz (i+1) os ds (IF tm o.dst e.v) (AJ H e.ws) k) none
 |_,_,_,_,_,_=>none
inductive Ex where
 |normal|ret|exit (id:Nat)
def V.free(bad:List Nat):Nat→V→Bool
 |0,_=>false
 |n+1,v=>match v with
  | .bor r=> !bad.contains r
  | .borN r _ _=> !bad.contains r
  | .ptr b _=> !bad.contains b
  | .ep r _ _=> !bad.contains r
  | .sub r _ _=> !bad.contains r
  | .rp cs _=>go n cs
  | .agg cs=>go n cs
  | .tup cs=>go n cs
  | .clo _ cs=>go n cs
  |_=>true
where
 go:Nat→List V→Bool
 |0,_=>false
 |_+1,[]=>true
 |n+1,x::xs=>V.free bad n x&&go n xs
def Cf(bad:List Nat):Nat→List E→List E
 |_,[]=>[]
 |n,e::H=>(cond (bad.contains n) .fresh e)::Cf bad (n+1) H
def Ey(bad:List Nat):Nat→List E→Bool
 |_,[]=>true
 |n,e::H=>(cond (bad.contains n) true (match e with| .box cs=>V.free.go bad 60 cs|_=>true))&&Ey bad (n+1) H
def Dw(st:St)(s:Nat):Option (List E):=match AE st.H s with
 | .fresh=>some st.H
 | .dead=>cond (V.free.go [s] 200 st.tm&&Ey [s] 0 st.H) (some (Cf [s] 0 st.H)) none
 | .root _ _ _=>cond (V.free.go [s] 200 st.tm&&Ey [s] 0 st.H) (some (Cf [s] 0 st.H)) none
 |_=>none
def Ov(st:St)(p:Place)(s:Nat)(q:Kd):Option St:=
 let v:=match p with
  | .t t=>st.tm.getD t .junk
  | .c b j=>match AE st.H b with
    | .box cs=>cs.getD j .junk
    |_=>.junk
 let back (H:List E):Option St:=match p with
  | .t t=>some ⟨st.tm.set t (.bor s),H⟩
  | .c b j=>match AE H b with
    | .box cs=>some ⟨st.tm,H.set b (.box (cs.set j (.bor s)))⟩
    |_=>none
 match v with
 | .nil=>(Dw st s).bind fun H=>back (H.set s (.root q [] .ok))
 | .emp=>(Dw st s).bind fun H=>back (H.set s (.root q [] .ok))
 | .bor r=>cond (r==s) (some st) (match AE st.H r with
   | .root q xs ho=>cond ho.whole ((Dw st s).bind fun H=>back ((H.set r .dead).set s (.root q xs .ok))) none
   |_=>none)
 |_=>none
def Lv(st:St):List (Place×Nat×Kd)→Option St
 | []=>some st
 |(p,s,q)::r=>(Ov st p s q).bind fun st=>Lv st r
def head(la:LA)(st:St):Option St:=cond (la.norm.all fun p=>Nat.blt p.2.1 st.H.length)
 ((Lv ⟨keepT la.keep 0 st.tm,st.H⟩ la.norm).bind fun st=>
   cond (V.free.go la.reset 200 st.tm&&Ey la.reset 0 st.H) (some ⟨st.tm,Cf la.reset 0 st.H⟩) none) none
def DS:Code→Option Nat
 | .region id _ _=>some id
 | .seq a b=>match DS a with|some n=>some n|none=>DS b
 | .cond _ a b=>match DS a with|some n=>some n|none=>DS b
 | .block _ c=>DS c
 | .loop c=>DS c
 | .scope c=>DS c
 |_=>none
def UP(n:Option Nat):List LA→Option LA
 | []=>none
 |l::r=>cond (n==some l.first) (some l) (UP n r)
def Lc(n:Nat):List (Nat×List (Nat×OA))→List (Nat×OA)
 | []=>[]
 |l::r=>cond (n==l.1) l.2 (Lc n r)
def Qo(n:Nat):List (Nat×List (List Nat×List Nat))→List (List Nat×List Nat)
 | []=>[]
 |l::r=>cond (n==l.1) l.2 (Qo n r)
def GB(a b:List Nat):Bool:=a.all fun x=> !b.contains x
def Df(ops:List Oper):List (List Nat)→List (List Nat)
 |acc=>match ops with
  | []=>acc
  |o::os=>Df os (acc++[o.after.toList.flatMap fun e=>cond (Region.binds .any e) (e.on::(acc.getD e.on [])) []])
def Ig(ops:Array Oper)(ds:List (List Nat×List Nat)):Bool:=
 let an:=Df ops.toList []
 let n:=ops.size
 (List.range n).all fun j=>(List.range n).all fun i=>if i<j&& !(an.getD j []).contains i then
   match ops[i]?,ops[j]?,ds[i]?,ds[j]? with
   |some x,some y,some dx,some dy=>x.apart ops y&&GB dx.2 dy.1&&GB dx.2 dy.2&&GB dy.2 dx.1
   |_,_,_,_=>false
   else true
def HQ(ops:Array Oper):Bool:=(List.range ops.size).all fun i=>match ops[i]? with
 |some o=>o.after.toList.all fun e=> !Region.binds .any e||decide (e.on<i)
 |none=>false
def MR(la:LA)(st:St):St:=⟨keepT la.out 0 st.tm,By st.H la.outH 0⟩
def Vg(body:St→(Ex→St→Option α)→Option α)(la:LA):Nat→St→(Ex→St→Option α)→Option α
 |0,_,_=>none
 |m+1,st,k=>(head la st).bind fun st=>body st fun ex st=>match ex with
  | .normal=>Vg body la m st k
  | .ret=>k .ret (MR la st)
  | .exit id=>k (.exit id) (MR la st)
def KA(tm:List V)(c:Operand)(b:Bool):List V:=match c with
 | .tmp t=>tm.set t (.bool b)
 |_=>tm
def vx(Co:Orc)(m:Nat)(an:Ann):Code→St→(Ex→St→Option α)→Option α
 | .skip,st,k=>k .normal st
 | .label _,st,k=>k .normal st
 | .ret,st,k=>k .ret st
 | .exit id,st,k=>k (.exit id) st
 | .seq a b,st,k=>vx Co m an a st fun ex st=>match ex with
   | .normal=>vx Co m an b st k
   | .ret=>k .ret st
   | .exit id=>k (.exit id) st
 | .cond c a b,st,k=>(ev st.tm c).asB fun t=>cond t (vx Co m an a ⟨KA st.tm c true,st.H⟩ k) (vx Co m an b ⟨KA st.tm c false,st.H⟩ k)
 | .block id c,st,k=>vx Co m an c st fun ex st=>match ex with
   | .normal=>k .normal st
   | .ret=>k .ret st
   | .exit id'=>cond (id'==id) (k .normal st) (k (.exit id') st)
 | .region id ops false,st,k=>MB Tb tyK Co ops (Lc id an.regs) 0 ops.toList st.tm st.H fun st=>k .normal st
 | .region id ops true,st,k=>let ds:=Qo id an.draws
   cond (HQ ops&&Ig ops ds) (FV Tb tyK Co ops (Lc id an.regs) 0 ops.toList ds st.tm st.H fun st=>k .normal st) none
 | .loop c,st,k=>match UP (DS c) an.loops with
   |some la=>Vg (fun st k=>vx Co m an c st k) la m st k
   |none=>none
 |_,_,_=>none
def Fx(tm:List V)(H:List E):List ResultVar→Option (List V)
 | []=>some []
 | .tmp t::r=>(Fx tm H r).bind fun vs=>some (tm.getD t .junk::vs)
 | .cell a t::r=>(Fx tm H r).bind fun vs=>match tm.getD a .junk,Tb t with
   | .ptr b j,some ti=>match AE H b with
     | .box cs=>(Fv cs j ti).bind fun v=>some (v::vs)
     |_=>none
   |_,_=>none
def one(vs:List V):V:=match vs with
 | [v]=>v
 |vs=>.tup vs
def body(Co:Orc)(m:Nat)(fa:FnA)(bz:List A)(sh:Sh):Option sh.T:=
 let l:=layL bz 0
 match fa.fn.body with
 |none=>none
 |some c=>cond (fa.ann.loops.all fun la=>V.free.go (la.reset++la.norm.map (·.2.1)) 200 l.1)
  (vx Tb tyK Co m fa.ann c ⟨l.1++List.replicate (fa.fn.ntmps-l.1.length) .junk,l.2.1++List.replicate (fa.slots-l.2.1.length) .fresh⟩ fun ex st=>
    let fin:=(Fx Tb st.tm st.H fa.fn.results.toList).bind fun vs=>(AZ sh (one vs::l.1) st.H).bind fun r=>some r.1
    match ex with
    | .normal=>fin
    | .ret=>fin
    | .exit _=>none) none
end
end Go.Proofs.YthoholbeacojfaaGreat.VR
end
section
set_option linter.unusedVariables false
set_option linter.unusedSimpArgs false
namespace Go.Proofs.YthoholbeacojfaaGreat.VR
open Go
inductive Tag where
 |slot (s:Nat)|nest (s i j:Nat)|frozen
structure Re where
 T:Nat→Option Tag
 β:Nat→Nat
 ρ:Nat→Value
def CS(p:Bool)(t:Option Tag):Prop:=t=none∨(p=false∧t=some .frozen)
theorem CS.weak{p:Bool}{t:Option Tag}(h:CS p t):CS false t:=by
 rcases h with h|⟨_,h⟩
 ·exact .inl h
 ·exact .inr ⟨rfl,h⟩
def Kd.nestAt:Kd→Nat→Bool
 | .lock,1=>true
 |_,_=>false
def KM(T:Nat→Option Tag)(w:World)(p:Bool)(xs:List Int)(v:Value):Prop:=
 ∃A cap,v=.slice A xs.length cap∧xs.length≤cap∧cap≤maxLen∧
  ∀i x,xs[i]? =some x→ ∃b o,A=some ⟨b,o,none⟩∧CS p (T b)∧w.cell? ⟨b,o+i,none⟩=some (.int .i64 x)
def CR(T:Nat→Option Tag)(w:World)(p:Bool):C→Value→Prop
 | .int n,v=>v=.int .i64 n
 | .u8 n,v=>v=.int .u8 n
 | .bool b,v=>v=.bool b
 | .str s,v=>v=.string s
 | .nest xs,v=>KM T w p xs v
def CU(T:Nat→Option Tag)(w:World)(p:Bool)(k:Kd)(xs:List k.T)(v:Value):Prop:=
 ∃A cap,v=.slice A xs.length cap∧xs.length≤cap∧cap≤maxLen∧
  ∀i x,xs[i]? =some x→ ∃b o,A=some ⟨b,o,none⟩∧CS p (T b)∧
   ∀j c,(k.cells x)[j]? =some c→ ∃u,w.cell? ⟨b,o+(i*k.size+j),none⟩=some u∧CR T w p c u
inductive VR (R:Re) (H:List E) (w:World):V→Value→Prop
 |int (n:Int):VR R H w (.int n) (.int .i64 n)
 |u8 (n:Int):VR R H w (.u8 n) (.int .u8 n)
 |bool (b:Bool):VR R H w (.bool b) (.bool b)
 |str (s:ByteArray):VR R H w (.str s) (.string s)
 |nil:VR R H w .nil (.slice none 0 0)
 |emp (A:Option Addr):VR R H w .emp (.slice A 0 0)
 |ro (p:Bool) (k:Kd) (xs:List k.T) (v:Value) (h:CU R.T w p k xs v):VR R H w (.ro p k xs) v
 |rp (cs:List V) (j b o:Nat) (u:Nat→Value) (hT: ∀(i:Nat) (c:V),cs[i]? =some c→CS false (R.T b)) (hc: ∀(i:Nat) (c:V),cs[i]? =some c→w.cell? ⟨b,o+i,none⟩=some (u i))
   (hv: ∀(i:Nat) (c:V),cs[i]? =some c→VR R H w c (u i)):VR R H w (.rp cs j) (.pointer (some ⟨b,o+j,none⟩))
 |bor (r:Nat) (v:Value) (h1:v.oneCell'=true) (h0:AE H r≠ .fresh) (h: ∀k xs ho,AE H r=.root k xs ho→v=R.ρ r):VR R H w (.bor r) v
 |borN (r i j:Nat) (v:Value) (h1:v.oneCell'=true) (h0:AE H r≠ .fresh)
   (h: ∀k xs,AE H r=.root k xs .ok→i<xs.length∧k.nestAt j=true∧ ∃g cap,R.ρ r=.slice (some ⟨g,0,none⟩) xs.length cap∧w.cell? ⟨g,i*k.size+j,none⟩=some v):VR R H w (.borN r i j) v
 |ptr (b j:Nat) (h0:AE H b≠ .fresh):VR R H w (.ptr b j) (.pointer (some ⟨R.β b,j,none⟩))
 |ep (r i j:Nat) (v:Value) (h1:v.oneCell'=true) (h0:AE H r≠ .fresh)
   (h: ∀k xs ho,AE H r=.root k xs ho→i<xs.length∧ ∃g n cap,R.ρ r=.slice (some ⟨g,0,none⟩) n cap∧v=.pointer (some ⟨g,i*k.size+j,none⟩)):VR R H w (.ep r i j) v
 |agg (vs:List V) (us:List Value) (hl:vs.length=us.length) (h: ∀(i:Nat) (v:V) (u:Value),vs[i]? =some v→us[i]? =some u→VR R H w v u):VR R H w (.agg vs) (.agg us.toArray)
 |tup (vs:List V) (us:List Value) (hl:vs.length=us.length) (h: ∀(i:Nat) (v:V) (u:Value),vs[i]? =some v→us[i]? =some u→VR R H w v u):VR R H w (.tup vs) (.tuple us.toArray)
 |clo (f:FuncId) (vs:List V) (us:List Value) (hl:vs.length=us.length) (h: ∀(i:Nat) (v:V) (u:Value),vs[i]? =some v→us[i]? =some u→VR R H w v u):
   VR R H w (.clo f vs) (.func (.func f) #[] us.toArray)
 |junk (v:Value):VR R H w .junk v
 |und:VR R H w .und undef
 |em (b:Bool) (A:Option Addr) (cap:Nat) (h:A.isNone=b):VR R H w (.em b) (.slice A 0 cap)
 |sub (r lo hi:Nat) (v:Value) (h1:v.oneCell'=true) (h0:AE H r≠ .fresh) (h: ∀k xs ho,AE H r=.root k xs ho→lo≤hi∧hi≤xs.length∧ ∃A n cap,R.ρ r=.slice A n cap∧
   v=.slice (if cap=lo then A else A.map (·.add (lo*k.size))) (hi-lo) (cap-lo)):VR R H w (.sub r lo hi) v
 |jc (v:Value) (h1:v.oneCell'=true):VR R H w .jc v
def VRs(R:Re)(H:List E)(w:World)(vs:List V)(us:List Value):Prop:=vs.length=us.length∧ ∀(i:Nat) (v:V) (u:Value),vs[i]? =some v→us[i]? =some u→VR R H w v u
section
variable (ty:Kd→TypeId)
def DJ(T:Nat→Option Tag)(w:World)(t:Tag)(ys:List Int)(v:Value):Prop:=
 (∃A,v=.slice A 0 0∧ys=[])∨(w.ownsRow 0 (ty .int) 1 v ys.length (ys.map fun y=>.int .i64 y)∧ ∀g,v.ownBlock=some g→T g=some t)
def Be(T:Nat→Option Tag)(w:World)(s i j:Nat):C→Value→Prop
 | .int n,v=>v=.int .i64 n
 | .u8 n,v=>v=.int .u8 n
 | .bool b,v=>v=.bool b
 | .str x,v=>v=.string x
 | .nest ys,v=>DJ ty T w (.nest s i j) ys v
def Ho.at(h:Ho)(i j:Nat):Prop:=match h with
 | .hole i' j'=>i=i'∧j=j'
 |_=>False
def A8(T:Nat→Option Tag)(w:World)(s:Nat)(k:Kd)(xs:List k.T)(ho:Ho)(v:Value):Prop:=
 (∃A,v=.slice A 0 0∧xs=[])∨
 ∃flat,w.ownsRow 0 (ty k) k.size v xs.length flat∧(∀g,v.ownBlock=some g→T g=some (.slot s))∧(∀u∈flat,u.oneCell'=true)∧
  ∀i x,xs[i]? =some x→ ∀j c,(k.cells x)[j]? =some c→ ¬ho.at i j→ ∃u,flat[i*k.size+j]? =some u∧Be ty T w s i j c u
def ER(R:Re)(H:List E)(w:World)(s:Nat):E→Prop
 | .box cs=> ∃e us,w.heap[R.β s]? =some (.cells us e (0,0))∧R.T (R.β s)=some (.slot s)∧us.size=cs.length∧
    ∀(i:Nat) (c:V) (u:Value),cs[i]? =some c→us[i]? =some u→VR R H w c u∧u.oneCell'=true
 | .root k xs ho=>A8 ty R.T w s k xs ho (R.ρ s)
 |_=>True
structure HR(R:Re)(H:List E)(w:World):Prop where
 at_: ∀s,s<H.length→ER ty R H w s (AE H s)
 none_: ∀g,w.heap.size≤g→R.T g=none
end
structure Step(R:Re)(w:World)(R':Re)(w':World):Prop where
 os:w'.os=w.os
 tape:w'.tape=w.tape
 output:w'.output=w.output
 size:w.heap.size≤w'.heap.size
 ro: ∀g,g<w.heap.size→CS false (R.T g)→R'.T g=R.T g∧w'.heap[g]? =w.heap[g]?
theorem Step.refl(R:Re)(w:World):Step R w R w:=⟨rfl,rfl,rfl,Nat.le_refl _,fun _ _ _=>⟨rfl,rfl⟩⟩
theorem Step.trans{R R' R'':Re}{w w' w'':World}(h:Step R w R' w')(h':Step R' w' R'' w''):Step R w R'' w'':=
 ⟨h'.os.trans h.os,h'.tape.trans h.tape,h'.output.trans h.output,Nat.le_trans h.size h'.size,fun g hg ho=>by
  obtain⟨h1,h2⟩:=h.ro g hg ho;obtain⟨h3,h4⟩:=h'.ro g (Nat.lt_of_lt_of_le hg h.size) (by rw[h1];exact ho)
  exact⟨h3.trans h1,h4.trans h2⟩⟩
structure Pres(R:Re)(H:List E)(w:World)(R':Re)(H':List E)(w':World):Prop where
 step:Step R w R' w'
 alive: ∀s,AE H s≠ .fresh→AE H' s≠ .fresh
 beta: ∀s,AE H s≠ .fresh→R'.β s=R.β s
 root: ∀s k xs' ho',AE H s≠ .fresh→AE H' s=.root k xs' ho'→ ∃xs ho,AE H s=.root k xs ho∧R'.ρ s=R.ρ s∧xs'.length=xs.length∧
  (ho'=.ok→ho=.ok∧ ∀g n cap i j,R.ρ s=.slice (some ⟨g,0,none⟩) n cap→k.nestAt j=true→i<xs.length→w'.cell? ⟨g,i*k.size+j,none⟩=w.cell? ⟨g,i*k.size+j,none⟩)
theorem Pres.refl(R:Re)(H:List E)(w:World):Pres R H w R H w:=
 ⟨Step.refl R w,fun _ h=>h,fun _ _=>rfl,fun s k xs ho _ h=>⟨xs,ho,h,rfl,rfl,fun h=>⟨h,fun _ _ _ _ _ _ _ _=>rfl⟩⟩⟩
theorem Pres.trans{R R' R'':Re}{H H' H'':List E}{w w' w'':World}(h:Pres R H w R' H' w')(h':Pres R' H' w' R'' H'' w''):Pres R H w R'' H'' w'':=by
 refine⟨h.step.trans h'.step,fun s hs=>h'.alive s (h.alive s hs),fun s hs=>(h'.beta s (h.alive s hs)).trans (h.beta s hs),?_⟩
 intro s k xs ho hs e;obtain⟨xs1,ho1,e1,r1,l1,c1⟩:=h'.root s k xs ho (h.alive s hs) e;obtain⟨xs2,ho2,e2,r2,l2,c2⟩:=h.root s k xs1 ho1 hs e1;refine⟨xs2,ho2,e2,r1.trans r2,l1.trans l2,fun hk=> ?_⟩
 obtain⟨k1,d1⟩:=c1 hk;obtain⟨k2,d2⟩:=c2 k1;exact⟨k2,fun g n cap i j hr hj hi=>(d1 g n cap i j (r2.trans hr) hj (by omega)).trans (d2 g n cap i j hr hj hi)⟩
theorem aO{w:World}{a:Addr}{v:Value}(h:w.cell? a=some v):a.block<w.heap.size:=World.block_lt_of_cell? w a h
theorem Step.cell{R R':Re}{w w':World}(h:Step R w R' w'){b o:Nat}{v:Value}(hT:CS false (R.T b))(hc:w.cell? ⟨b,o,none⟩=some v):
 R'.T b=R.T b∧w'.cell? ⟨b,o,none⟩=some v:=by
 obtain⟨h1,h2⟩:=h.ro b (aO hc) hT;exact⟨h1,(World.cell?_of_block (a:=⟨b,o,none⟩) h2).trans hc⟩
theorem KM.step{R R':Re}{w w':World}(h:Step R w R' w'){p:Bool}{xs:List Int}{v:Value}(hr:KM R.T w p xs v):KM R'.T w' p xs v:=by
 obtain⟨A,cap,e,h1,h2,h3⟩:=hr;refine⟨A,cap,e,h1,h2,fun i x hx=> ?_⟩
 obtain⟨b,o,ea,ht,hc⟩:=h3 i x hx;obtain⟨h4,h5⟩:=h.cell ht.weak hc;exact⟨b,o,ea,by rw[h4];exact ht,h5⟩
theorem CR.step{R R':Re}{w w':World}(h:Step R w R' w'){p:Bool}{c:C}{v:Value}(hr:CR R.T w p c v):CR R'.T w' p c v:=by
 cases c<;>first|exact hr|exact KM.step h hr
theorem Kd.cells_length(k:Kd)(x:k.T):(k.cells x).length=k.size:=by cases k<;>rfl
theorem Kd.size_pos(k:Kd):0<k.size:=by cases k<;>decide
theorem CU.step{R R':Re}{w w':World}(h:Step R w R' w'){p:Bool}{k:Kd}{xs:List k.T}{v:Value}(hr:CU R.T w p k xs v):CU R'.T w' p k xs v:=by
 obtain⟨A,cap,e,h1,h2,h3⟩:=hr;refine⟨A,cap,e,h1,h2,fun i x hx=> ?_⟩
 obtain⟨b,o,ea,ht,hc⟩:=h3 i x hx;have hsz:=k.size_pos;have hl:=k.cells_length x;obtain⟨u0,hu0,_⟩:=hc 0 _ (List.getElem?_eq_getElem (by omega))
 obtain⟨h4,_⟩:=h.cell ht.weak hu0;refine⟨b,o,ea,by rw[h4];exact ht,fun j c hj=> ?_⟩
 obtain⟨u,hu,hcr⟩:=hc j c hj;exact⟨u,(h.cell ht.weak hu).2,hcr.step h⟩
theorem VR.pres{R R':Re}{H H':List E}{w w':World}(h:Pres R H w R' H' w'){v:V}{u:Value}(hr:VR R H w v u):VR R' H' w' v u:=by
 induction hr with
 |int n=>exact .int n
 |u8 n=>exact .u8 n
 |bool b=>exact .bool b
 |str s=>exact .str s
 |nil=>exact .nil
 |emp A=>exact .emp A
 |ro p k xs v hr=>exact .ro p k xs v (hr.step h.step)
 |rp cs j b o u hT hc hv ih=>
  refine .rp cs j b o u (fun i c hi=> ?_) (fun i c hi=>(h.step.cell (hT i c hi) (hc i c hi)).2) ih
  rw[(h.step.cell (hT i c hi) (hc i c hi)).1];exact hT i c hi
 |bor r v h1 h0 hv=>
  refine .bor r v h1 (h.alive r h0) fun k xs ho e=> ?_
  obtain⟨xs1,ho1,e1,r1,_,_⟩:=h.root r k xs ho h0 e;rw[r1];exact hv k xs1 ho1 e1
 |borN r i j v h1 h0 hv=>
  refine .borN r i j v h1 (h.alive r h0) fun k xs e=> ?_
  obtain⟨xs1,ho1,e1,r1,l1,c1⟩:=h.root r k xs .ok h0 e;obtain⟨k1,d1⟩:=c1 rfl;subst k1;obtain⟨hi,hj,g,cap,hg,hc⟩:=hv k xs1 e1;exact⟨by omega,hj,g,cap,by rw[r1,l1];exact hg,(d1 g _ cap i j hg hj hi).trans hc⟩
 |ptr b j h0=>
  rw[←h.beta b h0];exact .ptr b j (h.alive b h0)
 |ep r i j v h1 h0 hv=>
  refine .ep r i j v h1 (h.alive r h0) fun k xs ho e=> ?_
  obtain⟨xs1,ho1,e1,r1,l1,_⟩:=h.root r k xs ho h0 e;obtain⟨hi,g,n,cap,hg,hp⟩:=hv k xs1 ho1 e1;exact⟨by omega,g,n,cap,by rw[r1];exact hg,hp⟩
 |agg vs us hl _ ih=>exact .agg vs us hl ih
 |tup vs us hl _ ih=>exact .tup vs us hl ih
 |clo f vs us hl _ ih=>exact .clo f vs us hl ih
 |junk v=>exact .junk v
 |und=>exact .und
 |em b A cap h=>exact .em b A cap h
 |sub r lo hi v h1 h0 hv=>
  refine .sub r lo hi v h1 (h.alive r h0) fun k xs ho e=> ?_
  obtain⟨xs1,ho1,e1,r1,l1,_⟩:=h.root r k xs ho h0 e;rw[r1,l1];exact hv k xs1 ho1 e1
 |jc v h=>exact .jc v h
theorem VR.oneCell{R:Re}{H:List E}{w:World}{v:V}{u:Value}(h:VR R H w v u)(h1:v.one=true):u.oneCell'=true:=by
 cases h with
 |ro p k xs v h=>obtain⟨A,cap,rfl,_⟩:=h;rfl
 |bor r v h1=>exact h1
 |borN r i j v h1=>exact h1
 |ep r i j v h1=>exact h1
 |sub r lo hi v h1=>exact h1
 |jc v h=>exact h
 |agg=>cases h1
 |tup=>cases h1
 |junk=>cases h1
 |und=>cases h1
 |_=>rfl
theorem aP{u:Value}(h:u.oneCell'=true):u.cells= #[u]:=by cases u<;>first|rfl|cases h
theorem VR.cells{R:Re}{H:List E}{w:World}{v:V}{u:Value}(h:VR R H w v u)(h1:V.allOne v.cellsOf=true):
 VRs R H w v.cellsOf u.cells.toList∧ ∀x∈u.cells.toList,x.oneCell'=true:=by
 have all: ∀(vs:List V) (us:List Value),V.allOne vs=true→VRs R H w vs us→ ∀x∈us,x.oneCell'=true:=by
  intro vs
  induction vs with
  |nil=>intro us _ hv x hx;have h3:us=[]:=List.eq_nil_of_length_eq_zero hv.1.symm;subst h3;cases hx
  |cons v vs ih=>
   intro us ha hv x hx;cases us with
   |nil=>cases hx
   |cons u us=>
    simp only[V.allOne,Bool.and_eq_true]at ha;cases hx with
    |head=>exact(hv.2 0 v x rfl rfl).oneCell ha.1
    |tail _ hx=>exact ih us ha.2 ⟨by have:=hv.1;simpa using this,fun i v' u' h1 h2=>hv.2 (i+1) v' u' (by simpa using h1) (by simpa using h2)⟩ x hx
 by_cases hv:v.one=true
 · have ho:=h.oneCell hv
   have hc:v.cellsOf=[v]:=by cases v<;>first|rfl|cases hv
   rw[hc,aP ho];refine⟨⟨rfl,fun i v' u' h1 h2=> ?_⟩,fun x hx=>by simp at hx;subst hx;exact ho⟩
   cases i with
   |zero=>simp at h1 h2;subst h1;subst h2;exact h
   |succ i=>simp at h1
 · cases h with
   |agg vs us hl hr=>exact⟨⟨hl,hr⟩,all vs us h1 ⟨hl,hr⟩⟩
   |tup=>exact absurd h1 (by simp[V.cellsOf,V.allOne,V.one])
   |junk=>exact absurd h1 (by simp[V.cellsOf,V.allOne,V.one])
   |und=>exact absurd h1 (by simp[V.cellsOf,V.allOne,V.one])
   |_=>exact absurd rfl hv
end Go.Proofs.YthoholbeacojfaaGreat.VR
end
section
set_option linter.unusedVariables false
set_option linter.unusedSimpArgs false
namespace Go.Proofs.YthoholbeacojfaaGreat.VR
open Go
def upd{β:Type}(f:Nat→β)(a:Nat)(b:β):Nat→β:=fun x=>if x=a then b else f x
theorem Ds{β:Type}(f:Nat→β)(a:Nat)(b:β):upd f a b a=b:=by simp[upd]
theorem IV{β:Type}{f:Nat→β}{a x:Nat}{b:β}(h:x≠a):upd f a b x=f x:=by simp[upd,h]
def Tag.of(s:Nat):Tag→Prop
 | .slot s'=>s'=s
 | .nest s' _ _=>s'=s
 | .frozen=>False
def KL(R:Re)(w:World)(R':Re)(w':World)(s:Nat):Prop:= ∀g t,R.T g=some t→t.of s→R'.T g=some t∧w'.heap[g]? =w.heap[g]?
theorem C8(H:List E)(s s':Nat)(e:E):AE (H.set s e) s'=if s=s'∧s<H.length then e else AE H s':=by
 unfold AE;rw[List.getD_eq_getElem?_getD,List.getD_eq_getElem?_getD,List.getElem?_set]
 by_cases h:s=s'
 · subst h
   by_cases h2:s<H.length
   ·simp[h2]
   ·simp[h2]
 ·simp[h]
theorem BO{H:List E}{s:Nat}(h:AE H s≠ .fresh):s<H.length:=by
 rcases Nat.lt_or_ge s H.length with h1|h1
 ·exact h1
 ·exact absurd (by simp[AE,List.getD_eq_getElem?_getD,List.getElem?_eq_none h1]) h
theorem Bo{H:List E}{s:Nat}{e:E}(h:s<H.length):AE (H.set s e) s=e:=by rw[C8];simp[h]
theorem D5{H:List E}{s s':Nat}{e:E}(h:s≠s'):AE (H.set s e) s'=AE H s':=by rw[C8];simp[h]
theorem EE(ws:List (Nat×E)): ∀H:List E,(AJ H ws).length=H.length:=by
 induction ws with
 |nil=>intro H;rfl
 |cons p ws ih=>intro H;obtain⟨s,e⟩:=p;simp only[AJ];rw[ih];simp
theorem Dr(ws ws':List (Nat×E)): ∀H:List E,AJ H (ws++ws')=AJ (AJ H ws) ws':=by
 induction ws with
 |nil=>intro H;rfl
 |cons p ws ih=>intro H;obtain⟨s,e⟩:=p;simp only[List.cons_append,AJ];rw[ih]
theorem EU{ws:List (Nat×E)}: ∀{H:List E} {s:Nat},(∀p∈ws,p.1≠s)→AE (AJ H ws) s=AE H s:=by
 induction ws with
 |nil=>intro H s _;rfl
 |cons p ws ih=>
  intro H s h;obtain⟨q,e⟩:=p;simp only[AJ];rw[ih (fun p hp=>h p (by simp[hp])),D5 (h (q,e) (by simp))]
section
variable {ty:Kd→TypeId}
theorem DJ.keep{R R':Re}{w w':World}{s:Nat}(hk:KL R w R' w' s){t:Tag}(ht:t.of s){ys:List Int}{v:Value}(h:DJ ty R.T w t ys v):DJ ty R'.T w' t ys v:=by
 rcases h with h|⟨h1,h2⟩
 ·exact .inl h
 · refine .inr ⟨⟨h1.1,?_⟩,fun g hg=>(hk g t (h2 g hg) ht).1⟩
   rcases h1.2 with hn|⟨g,cap,cur,rfl,hb,hg,rest⟩
   ·exact .inl hn
   ·exact .inr ⟨g,cap,cur,rfl,hb,by rw[(hk g t (h2 g rfl) ht).2];exact hg,rest⟩
theorem Be.keep{R R':Re}{w w':World}{s i j:Nat}(hk:KL R w R' w' s){c:C}{v:Value}(h:Be ty R.T w s i j c v):Be ty R'.T w' s i j c v:=by
 cases c<;>first|exact h|exact DJ.keep hk (t:=.nest s i j) rfl h
theorem A8.keep{R R':Re}{w w':World}{s:Nat}(hk:KL R w R' w' s){k:Kd}{xs:List k.T}{ho:Ho}{v:Value}(h:A8 ty R.T w s k xs ho v):A8 ty R'.T w' s k xs ho v:=by
 rcases h with h|⟨flat,h1,h2,h3,h4⟩
 ·exact .inl h
 · refine .inr ⟨flat,⟨h1.1,?_⟩,fun g hg=>(hk g _ (h2 g hg) rfl).1,h3,fun i x hx j c hc hh=> ?_⟩
   · rcases h1.2 with hn|⟨g,cap,cur,rfl,hb,hg,rest⟩
     ·exact .inl hn
     ·exact .inr ⟨g,cap,cur,rfl,hb,by rw[(hk g _ (h2 g rfl) rfl).2];exact hg,rest⟩
   · obtain⟨u,hu,ho⟩:=h4 i x hx j c hc hh
     exact⟨u,hu,ho.keep hk⟩
theorem ER.keep{R R':Re}{H H':List E}{w w':World}{s:Nat}(hp:Pres R H w R' H' w')(hk:KL R w R' w' s)(he:AE H' s=AE H s)(h:ER ty R H w s (AE H s)):ER ty R' H' w' s (AE H' s):=by
 rw[he];cases hg:AE H s with
 |fresh=>trivial
 |dead=>trivial
 |box cs=>
  rw[hg]at h;have h0:AE H s≠ .fresh:=by rw[hg];exact fun h=>by cases h
  obtain⟨e,us,h1,h2,h3,h4⟩:=h;refine⟨e,us,?_,?_,h3,fun i c u hc hu=>⟨(h4 i c u hc hu).1.pres hp,(h4 i c u hc hu).2⟩⟩
  ·rw[hp.beta s h0,(hk _ _ h2 rfl).2];exact h1
  ·rw[hp.beta s h0];exact(hk _ _ h2 rfl).1
 |root k xs ho=>
  rw[hg]at h;have h0:AE H s≠ .fresh:=by rw[hg];exact fun h=>by cases h
  obtain⟨_,_,_,r1,_,_⟩:=hp.root s k xs ho h0 (by rw[he,hg])
  show A8 ty R'.T w' s k xs ho (R'.ρ s);rw[r1];exact A8.keep hk h
theorem HR.next{R R':Re}{H H':List E}{w w':World}(h:HR ty R H w)(hp:Pres R H w R' H' w')(hl:H'.length=H.length)
 (ha: ∀s,s<H.length→(AE H' s=AE H s∧KL R w R' w' s)∨ER ty R' H' w' s (AE H' s)) (hn: ∀g,w'.heap.size≤g→R'.T g=none):HR ty R' H' w':=by
 refine⟨fun s hs=> ?_,hn⟩
 rw[hl]at hs;rcases ha s hs with⟨h1,h2⟩|h1
 ·exact ER.keep hp h2 h1 (h.at_ s hs)
 ·exact h1
end
theorem Pres.same{R:Re}{H:List E}{w w':World}(hh:w'.heap=w.heap)(h1:w'.os=w.os)(h2:w'.tape=w.tape)(h3:w'.output=w.output):Pres R H w R H w':=by
 refine⟨⟨h1,h2,h3,by rw[hh];exact Nat.le_refl _,fun g _ _=>⟨rfl,by rw[hh]⟩⟩,fun _ h=>h,fun _ _=>rfl,fun s k xs ho _ h=>⟨xs,ho,h,rfl,rfl,fun h=>⟨h,fun g n cap i j _ _ _=> ?_⟩⟩⟩
 simp[World.cell?,hh]
theorem HR.same{ty:Kd→TypeId}{R:Re}{H:List E}{w w':World}(h:HR ty R H w)(hh:w'.heap=w.heap)(h1:w'.os=w.os)(h2:w'.tape=w.tape)(h3:w'.output=w.output):HR ty R H w':=
 h.next (Pres.same hh h1 h2 h3) rfl (fun s _=>.inl ⟨rfl,fun g t ht _=>⟨ht,by rw[hh]⟩⟩) (fun g hg=>h.none_ g (by rw[←hh];exact hg))
theorem KO(w:World)(o:Obj){g:Nat}(h:g<w.heap.size):(w.alloc o).heap[g]? =w.heap[g]? :=heap_alloc_old w o g h
theorem Zk(w:World)(o:Obj):(w.alloc o).heap[w.heap.size]? =some o:=heap_alloc_new w o
theorem MW(w:World)(o:Obj):(w.alloc o).heap.size=w.heap.size+1:=by simp
section
variable {ty:Kd→TypeId}{R:Re}{H:List E}{w:World}
def Re.box(R:Re)(s g:Nat):Re:=⟨upd R.T g (some (.slot s)),upd R.β s g,R.ρ⟩
def Re.row(R:Re)(s g:Nat)(v:Value):Re:=⟨upd R.T g (some (.slot s)),R.β,upd R.ρ s v⟩
theorem Pres.allocBox(h:HR ty R H w){s:Nat}(hs:s<H.length)(hf:AE H s=.fresh)(cs:List V)(o:Obj):
 Pres R H w (R.box s w.heap.size) (H.set s (.box cs)) (w.alloc o):=by
 refine⟨⟨rfl,rfl,rfl,by rw[MW];omega,fun g hg _=>⟨IV (by omega),KO w o hg⟩⟩,fun s' h'=> ?_,fun s' h'=> ?_,fun s' k xs ho h' e=> ?_⟩
 · rw[C8];split
   ·exact fun h=>by cases h
   ·exact h'
 ·exact IV (fun e=>h' (by rw[e];exact hf))
 · have hne:s≠s':=fun e=>h' (by rw[←e];exact hf)
   rw[D5 hne]at e;refine⟨xs,ho,e,rfl,rfl,fun h=>⟨h,fun g n cap i j hr _ hi=> ?_⟩⟩
   have hER:=(HR.at_ (ty:=ty) ‹HR ty R H w› s' (BO h'));rw[e]at hER;rcases hER with⟨A,hA,hx⟩|⟨flat,ho,ht,_⟩
   ·subst hx;simp at hi
   · rw[hr]at ho
     obtain⟨_,hlt⟩:=ho.lt g rfl;exact World.cell?_of_block (KO w o hlt)
theorem HR.allocBox(h:HR ty R H w){s:Nat}(hs:s<H.length)(hf:AE H s=.fresh)(cs:List V)(us:Array Value)(e:TypeId)
 (hl:us.size=cs.length) (hv: ∀(i:Nat) (c:V) (u:Value),cs[i]? =some c→us[i]? =some u→VR R H w c u∧u.oneCell'=true):
 HR ty (R.box s w.heap.size) (H.set s (.box cs)) (w.alloc (.cells us e)):=by
 have hp:=Pres.allocBox h hs hf cs (.cells us e);refine h.next hp (by simp) (fun s' hs'=> ?_) (fun g hg=> ?_)
 · by_cases hss:s=s'
   · subst hss
     refine .inr ?_;rw[Bo hs];refine⟨e,us,?_,?_,hl,fun i c u hc hu=>⟨(hv i c u hc hu).1.pres hp,(hv i c u hc hu).2⟩⟩
     · show(w.alloc _).heap[upd R.β s w.heap.size s]? =_
       rw[Ds];exact Zk w _
     · show upd R.T w.heap.size _ (upd R.β s w.heap.size s)=_
       rw[Ds,Ds]
   · refine .inl ⟨D5 hss,fun g t ht _=> ?_⟩
     have hg:g<w.heap.size:=by
      rcases Nat.lt_or_ge g w.heap.size with h1|h1
      ·exact h1
      ·rw[h.none_ g h1]at ht;cases ht
     exact⟨(IV (by omega)).trans ht,KO w _ hg⟩
 · rw[MW]at hg
   exact(IV (by omega)).trans (h.none_ g (by omega))
end
structure Turned(w w':World)(g:Nat):Prop where
 os:w'.os=w.os
 tape:w'.tape=w.tape
 output:w'.output=w.output
 size:w'.heap.size=w.heap.size
 block: ∀k,k≠g→w'.heap[k]? =w.heap[k]?
theorem Turned.setRow(w:World)(g:Nat)(cs:Array Value):Turned w (w.setRow g cs) g:=
 ⟨rfl,rfl,rfl,by simp[World.setRow],fun k hk=>setRow_other w g k cs hk⟩
theorem Turned.cell{w w':World}{g:Nat}(h:Turned w w' g){a:Addr}(ha:a.block≠g):w'.cell? a=w.cell? a:=World.cell?_of_block (h.block _ ha)
section
variable {ty:Kd→TypeId}{R:Re}{H:List E}{w w':World}
theorem IJ(h:HR ty R H w){s:Nat}{k:Kd}{xs:List k.T}{ho:Ho}(e:AE H s=.root k xs ho){g:Nat}{n cap:Nat}(hr:R.ρ s=.slice (some ⟨g,0,none⟩) n cap)(hx:0<xs.length):
 R.T g=some (.slot s)∧g<w.heap.size∧n=xs.length:=by
 have h0:AE H s≠ .fresh:=by rw[e];exact fun h=>by cases h
 have hER:=h.at_ s (BO h0);rw[e]at hER;rcases hER with⟨A,hA,hx'⟩|⟨flat,ho,ht,_⟩
 ·subst hx';simp at hx
 · rw[hr]at ho ht
   obtain⟨g',cap',e',_,hlt⟩:=World.ownsRow.form ho hx;simp only[Value.slice.injEq,Option.some.injEq,Addr.mk.injEq,and_true]at e';exact⟨ht g rfl,by omega,e'.2.1⟩
theorem Pres.turn(h:HR ty R H w){s g:Nat}{t:Tag}(hs:s<H.length)(h0:AE H s≠ .fresh)(hT:R.T g=some t)(ht:t.of s)(hw:Turned w w' g)(e':E)(he:e'≠ .fresh)
 (hroot: ∀k xs' ho',e'=.root k xs' ho'→ ∃xs ho,AE H s=.root k xs ho∧xs'.length=xs.length∧
   (ho'=.ok→ho=.ok∧ ∀g n cap i j,R.ρ s=.slice (some ⟨g,0,none⟩) n cap→k.nestAt j=true→i<xs.length→w'.cell? ⟨g,i*k.size+j,none⟩=w.cell? ⟨g,i*k.size+j,none⟩)):
 Pres R H w R (H.set s e') w':=by
 have hnr: ¬CS false (R.T g):=by
  rw[hT];rintro(h1|⟨_,h1⟩)
  ·cases h1
  ·injection h1 with h1;subst h1;exact ht
 refine⟨⟨hw.os,hw.tape,hw.output,by rw[hw.size];exact Nat.le_refl _,fun g' _ ho=>⟨rfl,hw.block g' (fun e=>hnr (e▸ho))⟩⟩,fun s' h'=> ?_,fun _ _=>rfl,fun s' k xs ho h' e=> ?_⟩
 · rw[C8];split
   ·exact he
   ·exact h'
 · rw[C8]at e
   split at e
   · rename_i hss
     obtain⟨rfl,_⟩:=hss;obtain⟨xs1,ho1,e1,l1,c1⟩:=hroot k xs ho e;exact⟨xs1,ho1,e1,rfl,l1,c1⟩
   · rename_i hss
     refine⟨xs,ho,e,rfl,rfl,fun h2=>⟨h2,fun g' n cap i j hr _ hi=>hw.cell ?_⟩⟩
     obtain⟨h3,_,_⟩:=IJ h e hr (by omega)
     intro e2;have e2:g'=g:=e2;subst e2;rw[hT]at h3;injection h3 with h3
     subst h3;have:s'=s:=ht;exact hss ⟨this.symm,hs⟩
theorem HR.turn(h:HR ty R H w){s g:Nat}{t:Tag}(hs:s<H.length)(hT:R.T g=some t)(ht:t.of s)(hw:Turned w w' g)(e':E)
 (hp:Pres R H w R (H.set s e') w') (hE:ER ty R (H.set s e') w' s e'):HR ty R (H.set s e') w':=by
 refine h.next hp (by simp) (fun s' hs'=> ?_) (fun g' hg=>h.none_ g' (by rw[←hw.size];exact hg))
 by_cases hss:s=s'
 · subst hss
   rw[Bo hs];exact .inr hE
 · refine .inl ⟨D5 hss,fun g' t' ht' hof=>⟨ht',hw.block g' ?_⟩⟩
   intro e;subst e;rw[hT]at ht';injection ht' with ht'
   subst ht';apply hss;cases t with
   |slot a=>exact ht.symm.trans hof
   |nest a b c=>exact ht.symm.trans hof
   |frozen=>exact ht.elim
end
theorem EF{β:Type}(xs:List β)(j:Nat)(ys:List β)(h:j+ys.length≤xs.length):(A5 xs j ys).length=xs.length:=by
 unfold A5;simp only[List.length_append,List.length_take,List.length_drop];omega
theorem Br{β:Type}(xs:List β)(j:Nat)(ys:List β)(h:j+ys.length≤xs.length)(i:Nat):
 (A5 xs j ys)[i]? =if i<j then xs[i]? else if i<j+ys.length then ys[i-j]? else xs[i]? :=by
 unfold A5;have hj:(xs.take j).length=j:=by simp;omega
 rw[List.append_assoc,List.getElem?_append];rw[hj]
 by_cases h1:i<j
 ·simp[h1]
 · simp only[h1,if_false]
   rw[List.getElem?_append]
   by_cases h2:i<j+ys.length
   ·rw[if_pos (by omega)];simp[h2]
   · rw[if_neg (by omega)]
     simp only[h2,if_false,List.getElem?_drop]
     congr 1
     omega
section
variable {P:Program}{ty:Kd→TypeId}{R:Re}{H:List E}{w:World}
theorem tN(h:HR ty R H w){b j:Nat}{cs:List V}(hb:AE H b=.box cs)(vs:List V)(us:List Value)(hlen:vs.length=us.length)(hfit:j+vs.length≤cs.length)
 (hv: ∀(i:Nat) (v:V) (u:Value),vs[i]? =some v→us[i]? =some u→VR R H w v u) (h1: ∀u∈us,u.oneCell'=true):
 ∃w',(storeCells ⟨R.β b,j,none⟩ us).run P w=.ok () w'∧Pres R H w R (H.set b (.box (A5 cs j vs))) w'∧HR ty R (H.set b (.box (A5 cs j vs))) w':=by
 have h0:AE H b≠ .fresh:=by rw[hb];exact fun h=>by cases h
 have hs:=BO h0;have hER:=h.at_ b hs;rw[hb]at hER;obtain⟨e,cur,hg,hT,hcl,hcv⟩:=hER;have hrun:=run_storeCells_at P (R.β b) j e us 0 cur w hg (by rw[Nat.add_zero,←hlen];omega) h1
 simp only[Nat.add_zero]at hrun;have hw:=Turned.setRow w (R.β b) (cur.toList.take j++us++cur.toList.drop (j+us.length)).toArray;have hp:=Pres.turn h hs h0 hT rfl hw (.box (A5 cs j vs)) (fun h=>by cases h) (fun _ _ _ h=>by cases h)
 refine⟨_,hrun,hp,HR.turn h hs hT rfl hw _ hp ?_⟩;have hcl':cur.toList.length=cs.length:=by rw[←hcl];exact Array.length_toList
 have hsz:(A5 cur.toList j us).length=cur.toList.length:=EF _ _ _ (by omega)
 refine⟨e,_,setRow_heap w _ cur _ e _ hg,hT,?_,fun i c u hc hu=> ?_⟩
 · show(A5 cur.toList j us).toArray.size=_
   rw[List.size_toArray,hsz,hcl',EF _ _ _ hfit]
 · have hu':(A5 cur.toList j us)[i]? =some u:=by have:=hu;rw[List.getElem?_toArray]at this;exact this
   rw[Br _ _ _ hfit]at hc;rw[Br _ _ _ (by omega)]at hu'
   by_cases h2:i<j
   · rw[if_pos h2]at hc hu'
     obtain⟨h3,h4⟩:=hcv i c u hc (by simpa using hu')
     exact⟨h3.pres hp,h4⟩
   · rw[if_neg h2]at hc hu'
     by_cases h3:i<j+vs.length
     · rw[if_pos h3]at hc
       rw[if_pos (by omega)]at hu'
       exact⟨(hv _ c u hc hu').pres hp,h1 u (List.mem_of_getElem? hu')⟩
     · rw[if_neg h3]at hc
       rw[if_neg (by omega)]at hu'
       obtain⟨h3,h4⟩:=hcv i c u hc (by simpa using hu')
       exact⟨h3.pres hp,h4⟩
end
end Go.Proofs.YthoholbeacojfaaGreat.VR
end
section
set_option linter.unusedVariables false
set_option linter.unusedSimpArgs false
namespace Go.Proofs.YthoholbeacojfaaGreat.VR
open Go
def Re.turn(R:Re)(w w':World)(f:Tag→Tag)(s:Nat)(v:Value):Re:=
 ⟨fun g=>if g<w.heap.size then(R.T g).map f else if g<w'.heap.size then some (.slot s)else none,R.β,upd R.ρ s v⟩
structure Grew(R:Re)(w w':World)(Ch:Nat→Prop):Prop where
 os:w'.os=w.os
 tape:w'.tape=w.tape
 output:w'.output=w.output
 size:w.heap.size≤w'.heap.size
 block: ∀g,g<w.heap.size→(∀s' t,Ch s'→R.T g=some t→ ¬t.of s')→w'.heap[g]? =w.heap[g]?
theorem Grew.refl(R:Re)(w:World)(Ch:Nat→Prop):Grew R w w Ch:=⟨rfl,rfl,rfl,Nat.le_refl _,fun _ _ _=>rfl⟩
section
variable {ty:Kd→TypeId}{R:Re}{H H1:List E}{w w':World}
theorem IQ(h:HR ty R H w){g:Nat}{t:Tag}(ht:R.T g=some t):g<w.heap.size:=by
 rcases Nat.lt_or_ge g w.heap.size with h1|h1
 ·exact h1
 ·rw[h.none_ g h1]at ht;cases ht
theorem IE{t:Tag}{s s':Nat}(h:t.of s)(h':t.of s'):s=s':=by
 cases t with
 |slot a=>exact h.symm.trans h'
 |nest a b c=>exact h.symm.trans h'
 |frozen=>exact h.elim
theorem IB{s:Nat}(h:HR ty R H w)(hs:s<H.length)(hf:AE H s=.fresh){Ch:Nat→Prop}(hw:Grew R w w' Ch)
 {f:Tag→Tag} (hff:f .frozen=.frozen) (hfo: ∀s' t,¬Ch s'→s'≠s→t.of s'→f t=t)
 (hl:H1.length=H.length) (hH: ∀s',¬Ch s'→AE H1 s'=AE H s')
 (hCh: ∀s',Ch s'→AE H s'≠ .fresh∧AE H1 s'≠ .fresh∧ ∀k xs ho,AE H1 s'=.root k xs ho→ ∃xs0 ho0,AE H s'=.root k xs0 ho0∧xs.length=xs0.length∧ho≠ .ok)
 {k:Kd} {xs:List k.T} {ho:Ho} {v:Value} (hE:A8 ty (R.turn w w' f s v).T w' s k xs ho v)
 (hEr: ∀s',Ch s'→Pres R H w (R.turn w w' f s v) (H1.set s (.root k xs ho)) w'→ER ty (R.turn w w' f s v) (H1.set s (.root k xs ho)) w' s' (AE H1 s')):
 Pres R H w (R.turn w w' f s v) (H1.set s (.root k xs ho)) w'∧HR ty (R.turn w w' f s v) (H1.set s (.root k xs ho)) w':=by
 have hnc: ¬Ch s:=fun hc=>(hCh s hc).1 hf
 have hs1:s<H1.length:=by rw[hl];exact hs
 have hp:Pres R H w (R.turn w w' f s v) (H1.set s (.root k xs ho)) w':=by
  refine⟨⟨hw.os,hw.tape,hw.output,hw.size,fun g hg ho'=> ?_⟩,fun s' h'=> ?_,fun _ _=>rfl,fun s' k' xs' ho' h' e=> ?_⟩
  · refine⟨?_,hw.block g hg fun s' t hc ht hof=> ?_⟩
    · show(if g<w.heap.size then(R.T g).map f else _)=_
      rw[if_pos hg];rcases ho' with h1|⟨_,h1⟩
      ·rw[h1];rfl
      ·rw[h1];simp[hff]
    · rcases ho' with h1|⟨_,h1⟩
      ·rw[h1]at ht;cases ht
      ·rw[h1]at ht;injection ht with ht;subst ht;exact hof
  · by_cases hss:s=s'
    ·subst hss;exact absurd hf h'
    · rw[D5 hss]
      by_cases hc:Ch s'
      ·exact(hCh s' hc).2.1
      ·rw[hH s' hc];exact h'
  · have hss:s≠s':=fun e=>h' (by rw[←e];exact hf)
    rw[D5 hss]at e
    by_cases hc:Ch s'
    · obtain⟨xs0,ho0,e0,l0,hn⟩:=(hCh s' hc).2.2 k' xs' ho' e
      exact⟨xs0,ho0,e0,IV (Ne.symm hss),l0,fun h2=>absurd h2 hn⟩
    · rw[hH s' hc]at e
      refine⟨xs',ho',e,IV (Ne.symm hss),rfl,fun h2=>⟨h2,fun g n cap i j hr _ hi=> ?_⟩⟩
      obtain⟨hT,hlt,_⟩:=IJ h e hr (by omega)
      exact World.cell?_of_block (hw.block g hlt fun s2 t hc2 ht hof=>by
       rw[hT]at ht;injection ht with ht;subst ht
       have:s'=s2:=hof;exact hc (this▸hc2))
 refine⟨hp,h.next hp (by simp[hl]) (fun s' hs'=> ?_) (fun g hg=> ?_)⟩
 · by_cases hss:s=s'
   · subst hss
     refine .inr ?_;rw[Bo hs1];show A8 ty _ w' s k xs ho (upd R.ρ s v s);rw[Ds];exact hE
   · rw[D5 hss]
     by_cases hc:Ch s'
     ·exact .inr (hEr s' hc hp)
     · refine .inl ⟨hH s' hc,fun g t ht hof=> ?_⟩
       have hg:=IQ h ht;refine⟨?_,hw.block g hg fun s2 t2 hc2 ht2 hof2=> ?_⟩
       · show(if g<w.heap.size then(R.T g).map f else _)=_
         rw[if_pos hg,ht];simp[hfo s' t hc (Ne.symm hss) hof]
       · rw[ht]at ht2;injection ht2 with ht2;subst ht2
         exact hc ((IE hof hof2)▸hc2)
 · show(if g<w.heap.size then _ else if g<w'.heap.size then _ else none)=none
   have h1:=hw.size;rw[if_neg (by omega),if_neg (by omega)]
end
def Bc(c:C)(u:Value):Prop:=match c with
 | .int n=>u=.int .i64 n
 | .u8 n=>u=.int .u8 n
 | .bool b=>u=.bool b
 | .str s=>u=.string s
 | .nest ys=> ∃A,u=.slice A 0 0∧ys=[]
theorem Bc.own{ty:Kd→TypeId}{T:Nat→Option Tag}{w:World}{s i j:Nat}{c:C}{u:Value}(h:Bc c u):Be ty T w s i j c u:=by
 cases c<;>first|exact h|exact .inl h
theorem Bc.one{c:C}{u:Value}(h:Bc c u):u.oneCell'=true:=by
 cases c with
 |nest ys=>obtain⟨A,rfl,_⟩:=h;rfl
 |_=>(have h':=h;simp only[Bc]at h';subst h';rfl)
section
variable {R:Re}{H:List E}{w:World}
theorem uH{v:V}{u:Value}(hv:VR R H w v u){c:C}{ws:List (Nat×E)}(h:toC H v=some (c,ws)):
 (ws=[]∧Bc c u)∨ ∃r xs ho,ws=[(r,.dead)]∧AE H r=.root .int xs ho∧ho.whole=true∧c=.nest xs∧u=R.ρ r:=by
 cases hv with
 |int n=>simp[toC]at h;obtain⟨rfl,rfl⟩:=h;exact .inl ⟨rfl,rfl⟩
 |u8 n=>simp[toC]at h;obtain⟨rfl,rfl⟩:=h;exact .inl ⟨rfl,rfl⟩
 |bool n=>simp[toC]at h;obtain⟨rfl,rfl⟩:=h;exact .inl ⟨rfl,rfl⟩
 |str n=>simp[toC]at h;obtain⟨rfl,rfl⟩:=h;exact .inl ⟨rfl,rfl⟩
 |nil=>simp[toC]at h;obtain⟨rfl,rfl⟩:=h;exact .inl ⟨rfl,_,rfl,rfl⟩
 |emp A=>simp[toC]at h;obtain⟨rfl,rfl⟩:=h;exact .inl ⟨rfl,_,rfl,rfl⟩
 |bor r v h1 h0 hr=>
  simp only[toC]at h;split at h
  · rename_i xs ho e
    cases hw:ho.whole with
    |false=>rw[hw]at h;cases h
    |true=>
     rw[hw]at h;simp at h;obtain⟨rfl,rfl⟩:=h;exact .inr ⟨r,xs,ho,rfl,e,hw,rfl,hr _ _ _ e⟩
  ·cases h
 |ro=>simp[toC]at h
 |rp=>simp[toC]at h
 |borN=>simp[toC]at h
 |sub=>simp[toC]at h
 |jc=>simp[toC]at h
 |ptr=>simp[toC]at h
 |ep=>simp[toC]at h
 |agg=>simp[toC]at h
 |tup=>simp[toC]at h
 |clo=>simp[toC]at h
 |junk=>simp[toC]at h
 |und=>simp[toC]at h
 |em=>simp[toC]at h
end
end Go.Proofs.YthoholbeacojfaaGreat.VR
end
section
set_option linter.unusedVariables false
set_option linter.unusedSimpArgs false
namespace Go.Proofs.YthoholbeacojfaaGreat.VR
open Go
theorem Kd.cells_ofCells{k:Kd}{cs:List C}{x:k.T}(h:k.ofCells cs=some x):k.cells x=cs:=by
 cases k<;>simp only[Kd.ofCells,Vz,V5,Vw,V2,V1,V3,V0,Vy,V4,Vx]at h<;>split at h<;>first|(injection h with h;subst h;rfl)|(cases h)
def TH(R:Re)(H:List E)(ws:List (Nat×E))(ys:List Int)(u:Value):Prop:= ∃r ho,ws=[(r,.dead)]∧AE H r=.root .int ys ho∧ho.whole=true∧u=R.ρ r
def S9(R:Re)(H:List E)(ws:List (Nat×E))(cs:List C)(us:List Value):Prop:=
 cs.length=us.length∧((ws=[]∧ ∀(j:Nat) (c:C) (u:Value),cs[j]? =some c→us[j]? =some u→Bc c u)∨
  ∃(j0:Nat) (ys:List Int) (u0:Value),cs[j0]? =some (C.nest ys)∧us[j0]? =some u0∧TH R H ws ys u0∧ ∀(j:Nat) (c:C) (u:Value),cs[j]? =some c→us[j]? =some u→j≠j0→Bc c u)
section
variable {R:Re}{H:List E}{w:World}
theorem VRs.cons{v:V}{vs:List V}{u:Value}{us:List Value}(h:VRs R H w (v::vs) (u::us)):VR R H w v u∧VRs R H w vs us:=
 ⟨h.2 0 v u rfl rfl,by have:=h.1;simp at this;exact this,fun i v' u' hv hu=>h.2 (i+1) v' u' (by simpa using hv) (by simpa using hu)⟩
theorem PX: ∀(vs:List V) (H:List E) (us:List Value) (cs:List C) (ws:List (Nat×E)),VRs R H w vs us→EI H vs=some (cs,ws)→ws.length≤1→S9 R H ws cs us
 | [],H,us,cs,ws,hv,h,_=>by
   simp[EI]at h;obtain⟨rfl,rfl⟩:=h;have:us=[]:=by have:=hv.1;simpa using this.symm
   subst this;exact⟨rfl,.inl ⟨rfl,fun j c u hc=>by simp at hc⟩⟩
 |v::vs,H,[],cs,ws,hv,h,_=>by have:=hv.1;simp at this
 |v::vs,H,u::us,cs,ws,hv,h,hw=>by
  obtain⟨hv1,hv2⟩:=hv.cons;simp only[EI]at h;obtain⟨⟨c,ws1⟩,e1,h⟩:=Option.bind_eq_some_iff.1 h;obtain⟨⟨cs2,ws2⟩,e2,h⟩:=Option.bind_eq_some_iff.1 h;injection h with h
  injection h with h1 h2
  subst h1;subst h2;rcases uH hv1 e1 with⟨rfl,hs⟩|⟨r,xs,ho,rfl,e,hwh,rfl,rfl⟩
  · simp only[AJ,List.nil_append]at e2 hw⊢
    obtain⟨hl,ih⟩:=PX vs H us cs2 ws2 hv2 e2 hw;refine⟨by simp[hl],?_⟩
    rcases ih with⟨rfl,ih⟩|⟨j0,ys,u0,hc0,hu0,hlo,ih⟩
    · refine .inl ⟨rfl,fun j c' u' hc hu=> ?_⟩
      cases j with
      |zero=>simp at hc hu;subst hc;subst hu;exact hs
      |succ j=>exact ih j c' u' (by simpa using hc) (by simpa using hu)
    · refine .inr ⟨j0+1,ys,u0,by simpa using hc0,by simpa using hu0,hlo,fun j c' u' hc hu hj=> ?_⟩
      cases j with
      |zero=>simp at hc hu;subst hc;subst hu;exact hs
      |succ j=>exact ih j c' u' (by simpa using hc) (by simpa using hu) (by omega)
  · have hw2:ws2=[]:=by
     cases ws2 with
     |nil=>rfl
     |cons _ _=>simp at hw
    subst hw2;have h2:VRs R (AJ H [(r,.dead)]) w vs us:=by
     refine⟨hv2.1,fun i v' u' hv' hu'=> ?_⟩
     exact VR.pres (R:=R) (w:=w) (H:=H) (w':=w) ⟨Step.refl R w,fun s h=>by
      simp only[AJ];rw[C8];split
      ·exact fun h=>by cases h
      ·exact h,fun _ _=>rfl,fun s k xs' ho' h' e'=>by
      simp only[AJ]at e';rw[C8]at e';split at e'
      ·cases e'
      ·exact⟨xs',ho',e',rfl,rfl,fun h=>⟨h,fun _ _ _ _ _ _ _ _=>rfl⟩⟩⟩ (hv2.2 i v' u' hv' hu')
    obtain⟨hl,ih⟩:=PX vs (AJ H [(r,.dead)]) us cs2 [] h2 e2 (by simp)
    refine⟨by simp[hl],.inr ⟨0,xs,R.ρ r,by simp,by simp,⟨r,ho,by simp,e,hwh,rfl⟩,fun j c' u' hc hu hj=> ?_⟩⟩
    rcases ih with⟨_,ih⟩|⟨_,_,_,_,_,⟨_,_,h3,_⟩,_⟩
    · cases j with
      |zero=>exact absurd rfl hj
      |succ j=>exact ih j c' u' (by simpa using hc) (by simpa using hu)
    ·cases h3
def MV(R:Re)(H:List E)(ws:List (Nat×E))(k:Kd)(xs:List k.T)(flat:List Value):Prop:=
 flat.length=xs.length*k.size∧(∀u∈flat,u.oneCell'=true)∧
 ((ws=[]∧ ∀(i j:Nat) (x:k.T) (c:C) (u:Value),xs[i]? =some x→(k.cells x)[j]? =some c→flat[i*k.size+j]? =some u→Bc c u)∨
   ∃(i0 j0:Nat) (x0:k.T) (ys:List Int) (u0:Value),xs[i0]? =some x0∧(k.cells x0)[j0]? =some (C.nest ys)∧flat[i0*k.size+j0]? =some u0∧TH R H ws ys u0∧
    ∀(i j:Nat) (x:k.T) (c:C) (u:Value),xs[i]? =some x→(k.cells x)[j]? =some c→flat[i*k.size+j]? =some u→ ¬(i=i0∧j=j0)→Bc c u)
theorem Q1{α:Type}(a b:List α)(n i j:Nat)(ha:a.length=n)(hj:j<n):(a++b)[i*n+j]? =if i=0 then a[j]? else b[(i-1)*n+j]? :=by
 cases i with
 |zero=>simp;rw[List.getElem?_append_left (by omega)]
 |succ i=>
  rw[if_neg (by omega),List.getElem?_append_right (by rw[ha,Nat.add_mul];omega)]
  congr 1
  rw[ha,Nat.add_mul];simp;omega
theorem fT{R:Re}{H:List E}{w:World}(r:Nat):Pres R H w R (AJ H [(r,.dead)]) w:=
 ⟨Step.refl R w,fun s h=>by
  simp only[AJ];rw[C8];split
  ·exact fun h=>by cases h
  ·exact h,fun _ _=>rfl,fun s k xs' ho' h' e'=>by
  simp only[AJ]at e';rw[C8]at e';split at e'
  ·cases e'
  ·exact⟨xs',ho',e',rfl,rfl,fun h=>⟨h,fun _ _ _ _ _ _ _ _=>rfl⟩⟩⟩
theorem YB(k:Kd): ∀(vs:List V) (H:List E) (us:List Value) (xs:List k.T) (ws:List (Nat×E)),VRs R H w vs us→Fy k H vs=some (xs,ws)→ws.length≤1→
 xs.length=vs.length∧(∀u∈us,u.cells.size=k.size)∧MV R H ws k xs (us.flatMap (·.cells.toList))
 | [],H,us,xs,ws,hv,h,_=>by
   simp[Fy]at h;obtain⟨rfl,rfl⟩:=h;have:us=[]:=List.eq_nil_of_length_eq_zero hv.1.symm;subst this;exact⟨rfl,fun u hu=>(by cases hu),by simp,fun u hu=>(by simp at hu),.inl ⟨rfl,fun i j x c u hx=>by simp at hx⟩⟩
 |v::vs,H,[],xs,ws,hv,h,_=>by have:=hv.1;simp at this
 |v::vs,H,u::us,xs,ws,hv,h,hw=>by
  obtain⟨hv1,hv2⟩:=hv.cons;simp only[Fy]at h;obtain⟨⟨cs,ws1⟩,e1,h⟩:=Option.bind_eq_some_iff.1 h;obtain⟨x,ex,h⟩:=Option.bind_eq_some_iff.1 h;obtain⟨⟨xs2,ws2⟩,e2,h⟩:=Option.bind_eq_some_iff.1 h;injection h with h
  injection h with h1 h2
  subst h1;subst h2;dsimp only at e2 hw ex⊢;have hcx:=Kd.cells_ofCells ex;have hcl:cs.length=k.size:=by rw[←hcx];exact k.cells_length x
  have hall:V.allOne v.cellsOf=true:=by
   have gen: ∀(vs:List V) (H:List E) (cs:List C) (ws:List (Nat×E)),EI H vs=some (cs,ws)→V.allOne vs=true:=by
    intro vs
    induction vs with
    |nil=>intro _ _ _ _;rfl
    |cons v vs ih=>
     intro H cs ws h;simp only[EI]at h;obtain⟨⟨c,w1⟩,e1,h⟩:=Option.bind_eq_some_iff.1 h;obtain⟨⟨c2,w2⟩,e2,h⟩:=Option.bind_eq_some_iff.1 h;simp only[V.allOne,Bool.and_eq_true];exact⟨by cases v<;>first|rfl|(simp[toC]at e1),ih _ _ _ e2⟩
   exact gen _ _ _ _ e1
  obtain⟨hvc,hone⟩:=hv1.cells hall;have hw1:ws1.length≤1:=by have:=hw;simp at this;omega
  have hw2:ws2.length≤1:=by have:=hw;simp at this;omega
  obtain⟨hlc,hrel⟩:=PX v.cellsOf H u.cells.toList cs ws1 hvc e1 hw1;have hun:u.cells.toList.length=k.size:=by rw[←hlc,hcl]
  have hv3:VRs R (AJ H ws1) w vs us:=by
   rcases hrel with⟨rfl,_⟩|⟨_,_,_,_,_,⟨r,_,rfl,_⟩,_⟩
   ·exact hv2
   ·exact⟨hv2.1,fun i v' u' h1 h2=>(hv2.2 i v' u' h1 h2).pres (fT r)⟩
  obtain⟨hl,hsz,hfl,hones,hrel2⟩:=YB k vs (AJ H ws1) us xs2 ws2 hv3 e2 hw2;refine⟨by simp[hl],fun y hy=> ?_,?_,fun y hy=> ?_,?_⟩
  · cases hy with
    |head=>rw[←Array.length_toList];exact hun
    |tail _ hy=>exact hsz y hy
  ·simp only[List.flatMap_cons,List.length_append,hfl,hun,List.length_cons,Nat.add_mul];omega
  · simp only[List.flatMap_cons,List.mem_append]at hy
    rcases hy with hy|hy
    ·exact hone y hy
    ·exact hones y hy
  · have key: ∀(i j:Nat) (y:k.T) (c:C) (z:Value),(x::xs2)[i]? =some y→(k.cells y)[j]? =some c→((u::us).flatMap (·.cells.toList))[i*k.size+j]? =some z→
     (i=0∧cs[j]? =some c∧u.cells.toList[j]? =some z)∨(0<i∧xs2[i-1]? =some y∧(us.flatMap (·.cells.toList))[(i-1)*k.size+j]? =some z):=by
     intro i j y c z hy hc hz;have hj:j<k.size:=by
      rw[←k.cells_length y];exact(List.getElem?_eq_some_iff.1 hc).1
     rw[List.flatMap_cons,Q1 _ _ k.size i j hun hj]at hz;cases i with
     |zero=>
      simp at hy hz;subst hy;exact .inl ⟨rfl,by rw[←hcx];exact hc,by simpa using hz⟩
     |succ i=>exact .inr ⟨by omega,by simpa using hy,by simpa using hz⟩
    rcases hrel with⟨rfl,hs⟩|⟨j0,ys,u0,hc0,hu0,⟨r,ho,rfl,e,hwh,hur⟩,hs⟩
    · rcases hrel2 with⟨rfl,hs2⟩|⟨i0,j0,x0,ys,u0,hx0,hc0,hu0,hlo,hs2⟩
      · refine .inl ⟨rfl,fun i j y c z hy hc hz=> ?_⟩
        rcases key i j y c z hy hc hz with⟨_,h1,h2⟩|⟨_,h1,h2⟩
        ·exact hs j c z h1 h2
        ·exact hs2 (i-1) j y c z h1 hc h2
      · have hj:j0<k.size:=by
         rw[←k.cells_length x0];exact(List.getElem?_eq_some_iff.1 hc0).1
        refine .inr ⟨i0+1,j0,x0,ys,u0,by simpa using hx0,hc0,?_,by simpa[AJ]using hlo,fun i j y c z hy hc hz hne=> ?_⟩
        · rw[List.flatMap_cons,Q1 _ _ k.size (i0+1) j0 hun hj]
          simpa using hu0
        · rcases key i j y c z hy hc hz with⟨_,h1,h2⟩|⟨h0,h1,h2⟩
          ·exact hs j c z h1 h2
          ·exact hs2 (i-1) j y c z h1 hc h2 (by omega)
    · have hw2':ws2=[]:=by
       cases ws2 with
       |nil=>rfl
       |cons _ _=>simp at hw
      subst hw2';rcases hrel2 with⟨_,hs2⟩|⟨_,_,_,_,_,_,_,_,⟨_,_,h3,_⟩,_⟩
      · have hj:j0<k.size:=by rw[←hcl];exact(List.getElem?_eq_some_iff.1 hc0).1
        refine .inr ⟨0,j0,x,ys,u0,rfl,by rw[hcx];exact hc0,?_,⟨r,ho,by simp,e,hwh,hur⟩,fun i j y c z hy hc hz hne=> ?_⟩
        · rw[List.flatMap_cons,Q1 _ _ k.size 0 j0 hun hj]
          simpa using hu0
        · rcases key i j y c z hy hc hz with⟨h0,h1,h2⟩|⟨h0,h1,h2⟩
          ·exact hs j c z h1 h2 (by omega)
          ·exact hs2 (i-1) j y c z h1 hc h2
      ·cases h3
end
end Go.Proofs.YthoholbeacojfaaGreat.VR
end
section
set_option linter.unusedVariables false
set_option linter.unusedSimpArgs false
namespace Go.Proofs.YthoholbeacojfaaGreat.VR
open Go
theorem Ym{β:Type}(xs:List β)(j:Nat):A5 xs j []=xs:=by simp[A5]
theorem tH{β:Type}(xs:List β)(j:Nat)(y:β)(ys:List β)(h:j+(y::ys).length≤xs.length):A5 (xs.set j y) (j+1) ys=A5 xs j (y::ys):=by
 apply List.ext_getElem?;intro i;simp only[List.length_cons]at h;rw[Br _ _ _ (by simp;omega),Br _ _ _ (by simpa using h)]
 by_cases h1:i<j
 ·rw[if_pos (by omega),if_pos h1,List.getElem?_set_ne (by omega)]
 · rw[if_neg h1]
   by_cases h2:i=j
   · subst h2
     rw[if_pos (by omega),if_pos (by simp),List.getElem?_set_self (by omega)]
     simp
   · rw[if_neg (by omega)]
     by_cases h3:i<j+1+ys.length
     ·rw[if_pos h3,if_pos (by simp;omega),show i-j=(i-(j+1))+1 by omega,List.getElem?_cons_succ]
     ·rw[if_neg h3,if_neg (by simp;omega),List.getElem?_set_ne (by omega)]
theorem UY(off:Nat): ∀(vs:List Value) (j0:Nat) (arr:Array Value),off+j0+vs.length≤arr.size→
 ((vs.zipIdx j0).foldl (fun(cs:Array Value) (p:Value×Nat)=>cs.setIfInBounds (off+p.2) p.1) arr).toList=A5 arr.toList (off+j0) vs
 | [],j0,arr,_=>by simp[Ym]
 |v::vs,j0,arr,h=>by
  simp only[List.length_cons]at h;rw[List.zipIdx_cons,List.foldl_cons,UY off vs (j0+1) _ (by simp;omega)]
  simp only[Array.toList_setIfInBounds];rw[←Nat.add_assoc];exact tH _ _ _ _ (by simp;omega)
theorem UO(cells:Array Value)(off:Nat)(v:Value)(h:off+v.cells.size≤cells.size):
 (v.cells.zipIdx.foldl (fun(cs:Array Value) (x:Value×Nat)=>match x with|(c,j)=>cs.setIfInBounds (off+j) c) cells).toList=A5 cells.toList off v.cells.toList:=by
 have h1:=UY off v.cells.toList 0 cells (by simpa using h)
 rw[←Array.foldl_toList,Array.toList_zipIdx];simpa using h1
def Oh:Nat→List (Nat×Value)→Prop
 |_,[]=>True
 |n,p::r=>p.1=n∧Oh (n+1) r
theorem UN(size:Nat): ∀(ps:List (Nat×Value)) (i0:Nat) (arr:Array Value),Oh i0 ps→(∀p∈ps,p.2.cells.size=size)→(i0+ps.length)*size≤arr.size→
 ∃arr',Instr.fill (fun i=>some (i*size,size)) arr ps=some arr'∧arr'.toList=A5 arr.toList (i0*size) (ps.flatMap (·.2.cells.toList))
 | [],i0,arr,_,_,_=>⟨arr,rfl,by simp[Ym]⟩
 |(i,v)::ps,i0,arr,ho,hs,hl=>by
  obtain⟨h1,h2⟩:=ho;simp only at h1;subst h1;have hv:v.cells.size=size:=hs (i,v) (by simp)
  simp only[List.length_cons]at hl;have hle:i*size+size≤arr.size:=by
   have:(i+1)*size≤(i+(ps.length+1))*size:=Nat.mul_le_mul_right _ (by omega)
   rw[Nat.add_mul]at this;omega
  have hst:=UO arr (i*size) v (by rw[hv];exact hle)
  have hlen: ∀a:Array Value,a.toList=A5 arr.toList (i*size) v.cells.toList→a.size=arr.size:=by
   intro a ha;rw[←Array.length_toList,ha,EF _ _ _ (by rw[Array.length_toList,Array.length_toList,hv];exact hle),Array.length_toList]
  obtain⟨arr',e,he⟩:=UN size ps (i+1) _ h2 (fun p hp=>hs p (by simp[hp])) (by rw[hlen _ hst,show i+1+ps.length=i+(ps.length+1) by omega];exact hl)
  refine⟨arr',?_,?_⟩
  · simp only[Instr.fill]
    rw[if_neg (by simp only[Bool.or_eq_true,decide_eq_true_eq,not_or];exact⟨by simp[hv],by omega⟩)]
    exact e
  · rw[he,hst,List.flatMap_cons]
    dsimp only;have hfl:(v.cells.toList++ps.flatMap (·.2.cells.toList)).length=size+ps.length*size:=by
     have gen: ∀qs:List (Nat×Value),(∀p∈qs,p.2.cells.size=size)→(qs.flatMap (·.2.cells.toList)).length=qs.length*size:=by
      intro qs
      induction qs with
      |nil=>intro _;simp
      |cons q qs ih=>
       intro h;rw[List.flatMap_cons,List.length_append,ih (fun p hp=>h p (by simp[hp])),Array.length_toList,h q (by simp),List.length_cons,Nat.add_mul]
       omega
     rw[List.length_append,Array.length_toList,hv,gen ps (fun p hp=>hs p (by simp[hp]))]
    have hal:arr.toList.length=arr.size:=Array.length_toList;have hvl:v.cells.toList.length=size:=by rw[Array.length_toList,hv]
    have h3:(i+(ps.length+1))*size=i*size+(size+ps.length*size):=by rw[Nat.add_mul,Nat.add_mul];omega
    apply List.ext_getElem?;intro q;have hpl:(ps.flatMap (·.2.cells.toList)).length=ps.length*size:=by rw[List.length_append,hvl]at hfl;omega
    rw[Br _ _ _ (by rw[EF _ _ _ (by omega),hpl,Nat.add_mul];omega),Br _ _ _ (by omega),Br _ _ _ (by omega)]
    rw[Nat.add_mul,Nat.one_mul,hpl,hvl,List.length_append,hvl,hpl]
    by_cases c1:q<i*size
    ·rw[if_pos (by omega),if_pos c1,if_pos c1]
    · rw[if_neg c1]
      by_cases c2:q<i*size+size
      ·rw[if_pos c2,if_neg c1,if_pos c2,if_pos (by omega),List.getElem?_append_left (by omega)]
      · rw[if_neg c2]
        by_cases c3:q<i*size+size+ps.length*size
        · rw[if_pos c3,if_neg c1,if_pos (by omega),List.getElem?_append_right (by omega),hvl]
          congr 1
          omega
        ·rw[if_neg c3,if_neg c2,if_neg c1,if_neg (by omega)]
section
variable {P:Program}{w:World}
theorem pX(t e:TypeId)(i:TypeInfo)(z:Value)(size n:Nat)(ht:P.underlying t=some (.slice e))(hi:P.info? e=some i)(hz:i.zero=some z)(hs:i.size=size)(hzs:z.cells.size=size)
 (ps:List (Nat×Value)) (hn:ps.length=n) (ho:Oh 0 ps) (hc: ∀p∈ps,p.2.cells.size=size) (hb:n*size≤2^24):
 ∃us:Array Value,us.toList=ps.flatMap (·.2.cells.toList)∧
  (Instr.buildSlice t n ps.toArray).run P w=.ok (.slice (some ⟨w.heap.size,0,none⟩) n n) (w.alloc (.cells us e)):=by
 subst hs;have hlen:((Array.range (n*i.size)).map (fun j=>z.cells[j % z.cells.size]!)).size=n*i.size:=by simp
 obtain⟨arr',e1,e2⟩:=UN i.size ps 0 ((Array.range (n*i.size)).map (fun j=>z.cells[j % z.cells.size]!)) ho hc (by rw[hlen];simp[hn])
 have hfl:(ps.flatMap (·.2.cells.toList)).length=n*i.size:=by
  have gen: ∀qs:List (Nat×Value),(∀p∈qs,p.2.cells.size=i.size)→(qs.flatMap (·.2.cells.toList)).length=qs.length*i.size:=by
   intro qs
   induction qs with
   |nil=>intro _;simp
   |cons q qs ih=>
    intro h;rw[List.flatMap_cons,List.length_append,ih (fun p hp=>h p (by simp[hp])),Array.length_toList,h q (by simp),List.length_cons,Nat.add_mul]
    omega
  rw[gen ps hc,hn]
 have e3:arr'.toList=ps.flatMap (·.2.cells.toList):=by
  rw[e2];unfold A5;simp only[Nat.zero_mul,List.take_zero,List.nil_append,Nat.zero_add,hfl];rw[List.drop_eq_nil_of_le (by rw[Array.length_toList,hlen];exact Nat.le_refl _),List.append_nil]
 refine⟨arr',e3,?_⟩
 by_cases h0:n*i.size=0
 · have e1':Instr.fill (fun j=>some (j*i.size,i.size)) #[] ps=some arr':=by
    have:((Array.range (n*i.size)).map (fun j=>z.cells[j % z.cells.size]!))= #[]:=by
     apply Array.eq_empty_of_size_eq_zero;rw[hlen];exact h0
    rw[this]at e1;exact e1
   have hr: ∀f:Nat→Value,Array.map f (Array.range 0)= #[]:=fun f=>by apply Array.eq_empty_of_size_eq_zero;simp
   unfold Instr.buildSlice;simp[run_underlying ht,sizeOf,typeInfo,hi,h0,hr,e1',newRow]
 · unfold Instr.buildSlice
   simp only[Sem.run_bind,run_underlying ht,Result.andThen_ok,sizeOf,typeInfo,run_program,hi,Sem.run_pure,zeroValue,hz];rw[if_neg (by omega)]
   simp only[h0,if_false,Sem.run_bind,Sem.run_pure,Result.andThen_ok,run_program,hi,hz,e1,newRow,run_newObj];rfl
end
end Go.Proofs.YthoholbeacojfaaGreat.VR
end
section
set_option linter.unusedVariables false
set_option linter.unusedSimpArgs false
namespace Go.Proofs.YthoholbeacojfaaGreat.VR
open Go
structure TbOk(P:Program)(Tb:TypeId→Option TI)(tyK:Kd→TypeId):Prop where
 inf: ∀t ti,Tb t=some ti→P.underlying t=some ti.und∧ ∃i,P.info? t=some i∧i.zero=some ti.zero∧i.size=ti.size∧i.bytes=ti.bytes∧ti.zero.cells.size=ti.size∧ti.bytes≤131072
 zero: ∀k ti,Tb (tyK k)=some ti→ti.size=k.size→ ∀(j:Nat) (c:C),(k.cells k.dflt)[j]? =some c→ ∃u,ti.zero.cells.toList[j]? =some u∧Bc c u
 eqs: ∀t ti fs,Tb t=some ti→ti.und=.struct fs→P.eqGuardType P.depth t=false∧P.stoodInHeld t=false
theorem AQ{α:Type}{b:Bool}{x:Option α}{r:α}(h:cond b x none=some r):b=true∧x=some r:=by
 cases b with
 |true=>exact⟨rfl,h⟩
 |false=>cases h
theorem Dz{α:Type}{b:Bool}{x:Option α}{r:α}(h:cond b none x=some r):b=false∧x=some r:=by
 cases b with
 |false=>exact⟨rfl,h⟩
 |true=>cases h
section
variable {P:Program}{Tb:TypeId→Option TI}{tyK:Kd→TypeId}{R:Re}{H:List E}{w:World}{a:Act}{o:Oper}{tm:List V}{α:Type}{r:α}
def Cj(P:Program)(ty:Kd→TypeId)(o:Oper)(a:Act)(w:World)(R:Re)(H:List E)(e:Eff):Prop:=
 ∀(K:Act→World→Prop) (Q:Exit→Act→World→Prop),(∀R' v w',Pres R H w R' (AJ H e.ws) w'→HR ty R' (AJ H e.ws) w'→VR R' (AJ H e.ws) w' e.v v→K (a.put o.dst v) w')→o.wp P a w K Q
theorem Cj.value{v:Value}{w':World}{e:Eff}{R':Re}(hr:(execOp a.eval o).run P w=.ok (.value v) w')(hp:Pres R H w R' (AJ H e.ws) w')(hh:HR tyK R' (AJ H e.ws) w')
 (hv:VR R' (AJ H e.ws) w' e.v v):Cj P tyK o a w R H e:=by
 intro K Q hK;unfold Oper.wp;rw[hr];exact hK R' v w' hp hh hv
theorem Cj.skip{w':World}{e:Eff}{R':Re}(hr:(execOp a.eval o).run P w=.ok .skip w')(hp:Pres R H w R' (AJ H e.ws) w')(hh:HR tyK R' (AJ H e.ws) w')
 (hv:e.v=.junk):Cj P tyK o a w R H e:=by
 intro K Q hK;unfold Oper.wp;rw[hr];exact hK R' undef w' hp hh (by rw[hv];exact .junk _)
theorem Cj.pure{v:Value}{x:V}(hh:HR tyK R H w)(hr:(execOp a.eval o).run P w=.ok (.value v) w)(hv:VR R H w x v):Cj P tyK o a w R H ⟨x,[]⟩:=
 Cj.value hr (Pres.refl _ _ _) hh hv
theorem A6(ht:VRs R H w tm a.tmps.toList)(x:Operand):VR R H w (ev tm x) (a.eval x):=by
 cases x with
 |tmp t=>
  show VR R H w (tm.getD t .junk) (a.tmps.getD t undef);rcases Nat.lt_or_ge t tm.length with h|h
  · have h2:t<a.tmps.toList.length:=by rw[←ht.1];exact h
    have h3:=ht.2 t tm[t] a.tmps.toList[t] (List.getElem?_eq_getElem h) (List.getElem?_eq_getElem h2);rw[List.getD_eq_getElem?_getD,List.getElem?_eq_getElem h,Array.getD_eq_getD_getElem?];rw[show a.tmps[t]? =some a.tmps.toList[t] by rw[←Array.getElem?_toList];exact List.getElem?_eq_getElem h2]
    exact h3
  · rw[List.getD_eq_getElem?_getD,List.getElem?_eq_none h]
    exact .junk _
 |const v=>
  show VR R H w (ev tm (.const v)) v;unfold ev;split<;>first|(exact .int _)|(exact .u8 _)|(exact .bool _)|(exact .str _)|(exact .nil)|(exact .junk _)|(rename_i h;first|(injection h with h;subst h;first|exact .int _|exact .u8 _|exact .bool _|exact .str _|exact .nil)|cases h)|skip
 |global g=>exact .junk _
 |func f=>exact .clo f [] [] rfl (fun i v u h=>by simp at h)
theorem VR.int_inv{n:Int}{u:Value}(h:VR R H w (.int n) u):u=.int .i64 n:=by cases h;rfl
theorem VR.u8_inv{n:Int}{u:Value}(h:VR R H w (.u8 n) u):u=.int .u8 n:=by cases h;rfl
theorem VR.bool_inv{n:Bool}{u:Value}(h:VR R H w (.bool n) u):u=.bool n:=by cases h;rfl
theorem VR.str_inv{n:ByteArray}{u:Value}(h:VR R H w (.str n) u):u=.string n:=by cases h;rfl
theorem KR{v:V}{k:Int→Option α}(h:v.asI k=some r): ∃n,v=.int n∧k n=some r:=by
 cases v<;>first|exact⟨_,rfl,h⟩|cases h
theorem Pr{v:V}{k:Bool→Option α}{z:Option α}(h:v.asG k z=some r):(∃n,v=.bool n∧k n=some r)∨(v=.und∧z=some r):=by
 cases v<;>first|exact .inl ⟨_,rfl,h⟩|exact .inr ⟨rfl,h⟩|cases h
theorem TV{v:V}{k:Bool→Option α}(h:v.asB k=some r): ∃n,v=.bool n∧k n=some r:=by
 cases v<;>first|exact⟨_,rfl,h⟩|cases h
theorem sB{op:BinOp}{x:Int}{y:Operand}{k:V→Option α}(t:TypeId)(h:shK op x y k=some r):
 ∃v u b,k v=some r∧VR R H w v u∧y=.const (.int .u64 b)∧ ∀w:World,(binOp op t (.int .i64 x) (.int .u64 b)).run P w=.ok u w:=by
 unfold shK at h;split at h
 · rename_i b
   obtain⟨h1,h⟩:=Dz h;have h1: ¬b<0:=of_decide_eq_false h1;exact⟨_,_,_,h,.int _,rfl,fun w=>by simp[binOp,Op.shift,h1,IntKind.bits]⟩
 · rename_i b
   obtain⟨h1,h⟩:=Dz h;have h1: ¬b<0:=of_decide_eq_false h1;exact⟨_,_,_,h,.int _,rfl,fun w=>by simp[binOp,Op.shift,h1,IntKind.bits]⟩
 ·cases h
theorem Z2{op:BinOp}{x y:Int}{k:V→Option α}(t:TypeId)(h:Ii op x y k=some r):
 ∃v u,k v=some r∧VR R H w v u∧ ∀w:World,(binOp op t (.int .i64 x) (.int .i64 y)).run P w=.ok u w:=by
 cases op<;>simp only[Ii]at h
 case add=>exact⟨_,_,h,.int _,fun w=>by simp[binOp,Op.intArith]⟩
 case sub=>exact⟨_,_,h,.int _,fun w=>by simp[binOp,Op.intArith]⟩
 case mul=>exact⟨_,_,h,.int _,fun w=>by simp[binOp,Op.intArith]⟩
 case quo=>
  obtain⟨h1,h⟩:=Dz h;have h1:y≠0:=of_decide_eq_false h1;exact⟨_,_,h,.int _,fun w=>by simp[binOp,Op.intDiv,h1]⟩
 case rem=>
  obtain⟨h1,h⟩:=Dz h;have h1:y≠0:=of_decide_eq_false h1;exact⟨_,_,h,.int _,fun w=>by simp[binOp,Op.intDiv,h1]⟩
 case and=>exact⟨_,_,h,.int _,fun w=>by unfold binOp Op.intBits;rfl⟩
 case or=>exact⟨_,_,h,.int _,fun w=>by unfold binOp Op.intBits;rfl⟩
 case xor=>exact⟨_,_,h,.int _,fun w=>by unfold binOp Op.intBits;rfl⟩
 case shl=>
  obtain⟨h1,h⟩:=Dz h;have h1: ¬y<0:=of_decide_eq_false h1;exact⟨_,_,h,.int _,fun w=>by simp[binOp,Op.shift,h1,IntKind.bits]⟩
 case shr=>
  obtain⟨h1,h⟩:=Dz h;have h1: ¬y<0:=of_decide_eq_false h1;exact⟨_,_,h,.int _,fun w=>by simp[binOp,Op.shift,h1,IntKind.bits]⟩
 case eql=>exact⟨_,_,h,.bool _,fun w=>by simp[binOp,Op.intCmp];rfl⟩
 case neq=>exact⟨_,_,h,.bool _,fun w=>by simp[binOp,Op.intCmp];rfl⟩
 case lss=>exact⟨_,_,h,.bool _,fun w=>by simp[binOp,Op.intCmp]⟩
 case leq=>exact⟨_,_,h,.bool _,fun w=>by simp[binOp,Op.intCmp]⟩
 case gtr=>exact⟨_,_,h,.bool _,fun w=>by simp[binOp,Op.intCmp]⟩
 case geq=>exact⟨_,_,h,.bool _,fun w=>by simp[binOp,Op.intCmp]⟩
 all_goals cases h
theorem Z6{op:BinOp}{x y:Int}{k:V→Option α}(t:TypeId)(h:Ik op x y k=some r):
 ∃v u,k v=some r∧VR R H w v u∧ ∀w:World,(binOp op t (.int .u8 x) (.int .u8 y)).run P w=.ok u w:=by
 cases op<;>simp only[Ik]at h
 case add=>exact⟨_,_,h,.u8 _,fun w=>by simp[binOp,Op.intArith]⟩
 case sub=>exact⟨_,_,h,.u8 _,fun w=>by simp[binOp,Op.intArith]⟩
 case eql=>exact⟨_,_,h,.bool _,fun w=>by simp[binOp,Op.intCmp];rfl⟩
 case neq=>exact⟨_,_,h,.bool _,fun w=>by simp[binOp,Op.intCmp];rfl⟩
 case lss=>exact⟨_,_,h,.bool _,fun w=>by simp[binOp,Op.intCmp]⟩
 case leq=>exact⟨_,_,h,.bool _,fun w=>by simp[binOp,Op.intCmp]⟩
 case gtr=>exact⟨_,_,h,.bool _,fun w=>by simp[binOp,Op.intCmp]⟩
 case geq=>exact⟨_,_,h,.bool _,fun w=>by simp[binOp,Op.intCmp]⟩
 all_goals cases h
theorem Z4{op:BinOp}{x y:ByteArray}{k:V→Option α}(t:TypeId)(h:Ij op x y k=some r):
 ∃v u,k v=some r∧VR R H w v u∧ ∀w:World,(binOp op t (.string x) (.string y)).run P w=.ok u w:=by
 cases op<;>simp only[Ij]at h
 case add=>
  obtain⟨h1,h⟩:=AQ h;have h1:x.size+y.size≤lim:=of_decide_eq_true h1;refine⟨_,_,h,.str _,fun w=> ?_⟩
  have h2: ¬((x.size:Int)+(y.size:Int)>9223372036854775807):=by unfold lim at h1;omega
  simp[binOp,Op.stringOp,IntKind.max,IntKind.signed,IntKind.bits,h2]
 case eql=>exact⟨_,_,h,.bool _,fun w=>by simp[binOp,Op.stringOp,Sm]⟩
 case neq=>exact⟨_,_,h,.bool _,fun w=>by simp[binOp,Op.stringOp,Sm]⟩
 all_goals cases h
end
end Go.Proofs.YthoholbeacojfaaGreat.VR
end
section
set_option linter.unusedVariables false
set_option linter.unusedSimpArgs false
namespace Go.Proofs.YthoholbeacojfaaGreat.VR
open Go
section
variable {P:Program}{Tb:TypeId→Option TI}{tyK:Kd→TypeId}{R:Re}{H:List E}{w:World}
theorem VRs.agg_inv{xs:List V}{u:Value}(h:VR R H w (.agg xs) u): ∃us:List Value,u=.agg us.toArray∧VRs R H w xs us:=by
 cases h with
 |agg vs us hl h=>exact⟨us,rfl,hl,h⟩
theorem VRs.tup_inv{xs:List V}{u:Value}(h:VR R H w (.tup xs) u): ∃us:List Value,u=.tuple us.toArray∧VRs R H w xs us:=by
 cases h with
 |tup vs us hl h=>exact⟨us,rfl,hl,h⟩
theorem pY(d:Nat)(t:TypeId)(a b:Int)(hu:P.underlying t=some (.int .i64)):(Op.equalIn (d+1) t (.int .i64 a) (.int .i64 b)).run P w=.ok (decide (a=b)) w:=by
 unfold Op.equalIn;simp[run_underlying hu];rfl
theorem YD(d:Nat)(t:TypeId)(a b:Bool)(hu:P.underlying t=some .bool):(Op.equalIn (d+1) t (.bool a) (.bool b)).run P w=.ok (a==b) w:=by
 unfold Op.equalIn;simp[run_underlying hu]
theorem YG(t:TypeId)(cs:Array Value)(off:Nat)(v:Value)(d:TypeDesc)(hu:P.underlying t=some d)(hd:d=.int .i64∨d=.bool)(hv:cs[off]? =some v):(Go.part t cs off).run P w=.ok v w:=by
 unfold Go.part isAgg;rcases hd with rfl|rfl<;>simp[run_underlying hu,hv]
theorem UB(hT:TbOk P Tb tyK)(d:Nat): ∀(fs:List Field) (n:Nat) (xs ys:List V) (us vs:List Value) (pre pre':List Value) (r:Bool),I6 Tb n fs xs=true→pre.length=n→pre'.length=n→
 VRs R H w xs us→VRs R H w ys vs→eqV xs ys=some r→(Op.eqFields (d+1) (pre++us).toArray (pre'++vs).toArray fs).run P w=.ok r w
 | [],n,[],ys,us,vs,pre,pre',r,_,_,_,hx,hy,he=>by
   cases ys with
   |nil=>simp[eqV]at he;subst he;simp[Op.eqFields]
   |cons y ys=>simp[eqV]at he
 | [],n,_::_,ys,us,vs,pre,pre',r,hf,_,_,hx,hy,he=>by simp[I6]at hf
 |f::fs,n,[],ys,us,vs,pre,pre',r,hf,_,_,hx,hy,he=>by simp[I6]at hf
 |f::fs,n,x::xs,ys,us,vs,pre,pre',r,hf,hp,hp',hx,hy,he=>by
  simp only[I6,Bool.and_eq_true,beq_iff_eq,bne_iff_ne]at hf;obtain⟨⟨⟨h1,h2⟩,h3⟩,h4⟩:=hf;cases us with
  |nil=>have:=hx.1;simp at this
  |cons u us=>
  cases ys with
  |nil=>cases x<;>simp[eqV]at he
  |cons y ys=>
  cases vs with
  |nil=>have:=hy.1;simp at this
  |cons v vs=>
  obtain⟨hx1,hx2⟩:=hx.cons;obtain⟨hy1,hy2⟩:=hy.cons;have hga:((pre++u::us).toArray)[f.offset]? =some u:=by rw[List.getElem?_toArray,h1,List.getElem?_append_right (by omega),hp];simp
  have hgb:((pre'++v::vs).toArray)[f.offset]? =some v:=by rw[List.getElem?_toArray,h1,List.getElem?_append_right (by omega),hp'];simp
  have key: ∀(q:Bool) (r':Bool),eqV xs ys=some r'→(Op.equalIn (d+1) f.type u v).run P w=.ok q w→(∃dd,P.underlying f.type=some dd∧(dd=.int .i64∨dd=.bool))→r=(q&&r')→
   (Op.eqFields (d+1) (pre++u::us).toArray (pre'++v::vs).toArray (f::fs)).run P w=.ok r w:=by
   intro q r' hr' hq hdd hrr;obtain⟨dd,hu,hd⟩:=hdd;have ih:=UB hT d fs (n+1) xs ys us vs (pre++[u]) (pre'++[v]) r' h4 (by simp[hp]) (by simp[hp']) hx2 hy2 hr'
   rw[Op.eqFields];simp only[if_pos h2,Sem.run_bind,YG _ _ _ _ _ hu hd hga,YG _ _ _ _ _ hu hd hgb,hq,Result.andThen_ok];rw[hrr];cases q
   ·simp
   ·simpa using ih
  split at h3
  · rename_i z sz by_ n1 htb
    obtain⟨hun,_⟩:=hT.inf _ _ htb;cases y<;>simp only[eqV]at he<;>first|(cases he;done)|skip
    obtain⟨r',e1,e2⟩:=Option.bind_eq_some_iff.1 he;injection e2 with e2
    have:=hx1.int_inv;subst this;have:=hy1.int_inv;subst this;exact key _ r' e1 (pY d f.type _ _ hun) ⟨_,hun,.inl rfl⟩ e2.symm
  · rename_i z sz by_ n1 htb
    obtain⟨hun,_⟩:=hT.inf _ _ htb;cases y<;>simp only[eqV]at he<;>first|(cases he;done)|skip
    obtain⟨r',e1,e2⟩:=Option.bind_eq_some_iff.1 he;injection e2 with e2
    have:=hx1.bool_inv;subst this;have:=hy1.bool_inv;subst this;exact key _ r' e1 (YD d f.type _ _ hun) ⟨_,hun,.inr rfl⟩ e2.symm
  ·cases h3
theorem YE(hT:TbOk P Tb tyK){t:TypeId}{xs ys:List V}{us vs:List Value}{r:Bool}(ho:Mk Tb t xs=true)(hx:VRs R H w xs us)(hy:VRs R H w ys vs)(he:eqV xs ys=some r):
 (Op.equal t (.agg us.toArray) (.agg vs.toArray)).run P w=.ok r w∧P.eqGuardType P.depth t=false:=by
 unfold Mk at ho;split at ho
 · rename_i fs z sz by_ htb
   obtain⟨hun,_⟩:=hT.inf _ _ htb;obtain⟨h1,h2⟩:=hT.eqs _ _ fs htb rfl;have h3:=UB (w:=w) hT 9998 fs.toList 0 xs ys us vs [] [] r ho rfl rfl hx hy he;have hf:P.fieldsOf t=fs:=by simp[Program.fieldsOf,hun]
   refine⟨?_,h1⟩;unfold Op.equal Op.maxDepth;rw[run_equalIn_struct (P:=P) w 9999 t us.toArray vs.toArray (by rw[hf];exact hun) h2,hf]
   exact h3
 ·cases ho
end
end Go.Proofs.YthoholbeacojfaaGreat.VR
end
section
set_option linter.unusedVariables false
set_option linter.unusedSimpArgs false
namespace Go.Proofs.YthoholbeacojfaaGreat.VR
open Go
section
variable {P:Program}{Tb:TypeId→Option TI}{tyK:Kd→TypeId}{R:Re}{H:List E}{w:World}
theorem Cy(b o n:Nat):(⟨b,o,none⟩:Addr).add n=⟨b,o+n,none⟩:=by unfold Addr.add;split<;>simp_all
theorem YF{t:TypeId}{d:TypeDesc}(hu:P.underlying t=some d):(isAgg t).run P w=.ok (RH d) w:=by
 unfold isAgg;rw[Sem.run_bind,run_underlying hu w];cases d<;>rfl
theorem dS(hT:TbOk P Tb tyK){t:TypeId}{ti:TI}(ht:Tb t=some ti){cs:List V}{j b o:Nat}{v:V}(hp:Fv cs j ti=some v)(u:Nat→Value)
 (hc: ∀(i:Nat) (c:V),cs[i]? =some c→w.cell? ⟨b,o+i,none⟩=some (u i)∧VR R H w c (u i)):
 ∃x,(loadVar t ⟨b,o+j,none⟩).run P w=.ok x w∧VR R H w v x:=by
 obtain⟨hu,i,hi,_,hs,_⟩:=hT.inf t ti ht;unfold Fv at hp;cases ha:RH ti.und with
 |true=>
  rw[ha]at hp;simp only[cond_true]at hp;obtain⟨hle,hp⟩:=AQ hp;have hle:j+ti.size≤cs.length:=of_decide_eq_true hle;injection hp with hp
  subst hp;have hl:=run_loadCells (P:=P) w ⟨b,o+j,none⟩ ti.size (fun q=>u (j+q)) (fun q hq=>by
   rw[Cy,Nat.add_assoc];exact(hc (j+q) cs[j+q] (List.getElem?_eq_getElem (by omega))).1)
  refine⟨.agg ((List.range ti.size).map fun q=>u (j+q)).toArray,?_,?_⟩
  · unfold loadVar
    rw[Sem.run_bind,YF hu,ha];simp[sizeOf,typeInfo,hi,hs,hl]
  · refine .agg _ _ (by simp;omega) fun q c x hq hx=> ?_
    rw[List.getElem?_take]at hq;split at hq
    · rename_i hlt
      rw[List.getElem?_drop]at hq;rw[List.getElem?_map,List.getElem?_range hlt]at hx;simp at hx;subst hx;exact(hc _ c hq).2
    ·cases hq
 |false=>
  rw[ha]at hp;simp only[cond_false]at hp;obtain⟨h1,h2⟩:=hc j v hp;refine⟨u j,?_,h2⟩;unfold loadVar;rw[Sem.run_bind,YF hu,ha];simp[h1]
theorem Ve(hT:TbOk P Tb tyK){t:TypeId}{ti:TI}(ht:Tb t=some ti){cs:List V}{j b o:Nat}{v:V}(hp:Fv cs j ti=some v)
 (hc: ∀(i:Nat) (c:V),cs[i]? =some c→ ∃u,w.cell? ⟨b,o+i,none⟩=some u∧VR R H w c u):
 ∃x,(loadVar t ⟨b,o+j,none⟩).run P w=.ok x w∧VR R H w v x:=by
 refine dS hT ht hp (fun i=>(w.cell? ⟨b,o+i,none⟩).getD undef) fun i c hi=> ?_
 obtain⟨u,h1,h2⟩:=hc i c hi;rw[h1];exact⟨rfl,h2⟩
theorem Px(h:HR tyK R H w){b:Nat}{cs:List V}(hb:AE H b=.box cs): ∀(i:Nat) (c:V),cs[i]? =some c→ ∃u,w.cell? ⟨R.β b,0+i,none⟩=some u∧VR R H w c u:=by
 intro i c hi;have h0:AE H b≠ .fresh:=by rw[hb];exact fun h=>by cases h
 have hER:=h.at_ b (BO h0);rw[hb]at hER;obtain⟨e,us,hg,_,hl,hv⟩:=hER;have hlt:i<us.size:=by rw[hl];exact(List.getElem?_eq_some_iff.1 hi).1
 refine⟨us[i],?_,(hv i c us[i] hi (Array.getElem?_eq_getElem hlt)).1⟩;rw[Nat.zero_add,cell_of_row w _ _ us e _ hg];exact Array.getElem?_eq_getElem hlt
theorem Sx{p:Bool}{c:C}{u:Value}(h:CR R.T w p c u):VR R H w (c.toV p) u:=by
 cases c with
 |int n=>simp only[CR]at h;subst h;exact .int n
 |u8 n=>simp only[CR]at h;subst h;exact .u8 n
 |bool n=>simp only[CR]at h;subst h;exact .bool n
 |str n=>simp only[CR]at h;subst h;exact .str n
 |nest xs=>
  refine .ro p .int xs u ?_;obtain⟨A,cap,e,h1,h2,h3⟩:=h;refine⟨A,cap,e,h1,h2,fun i x hx=> ?_⟩
  obtain⟨b,o,ea,ho,hc⟩:=h3 i x hx;refine⟨b,o,ea,ho,fun j c hj=> ?_⟩
  cases j with
  |zero=>
   simp[Kd.cells]at hj;subst hj;exact⟨.int .i64 x,by simpa[Kd.size]using hc,rfl⟩
  |succ j=>simp[Kd.cells]at hj
theorem pT{p:Bool}{q:Kd}{xs:List q.T}{u:Value}(h:CU R.T w p q xs u){i:Nat}(hi:i<xs.length):
 ∃b o cap,u=.slice (some ⟨b,o,none⟩) xs.length cap∧CS p (R.T b)∧ ∀(j:Nat) (c:C),(row q xs i)[j]? =some c→ ∃y,w.cell? ⟨b,o+(i*q.size+j),none⟩=some y∧CR R.T w p c y:=by
 obtain⟨A,cap,e,_,_,h3⟩:=h;obtain⟨b,o,ea,ho,hc⟩:=h3 i xs[i] (List.getElem?_eq_getElem hi);subst ea;refine⟨b,o,cap,e,ho,fun j c hj=>hc j c ?_⟩
 unfold row at hj;rw[List.getD_eq_getElem?_getD,List.getElem?_eq_getElem hi]at hj;exact hj
theorem pU{p:Bool}{q:Kd}{xs:List q.T}{u:Value}(h:CU R.T w p q xs u){i:Nat}(hi:i<xs.length):
 ∃b o cap,u=.slice (some ⟨b,o,none⟩) xs.length cap∧VR R H w (.rp ((row q xs i).map (C.toV p)) 0) (.pointer (some ⟨b,o+i*q.size,none⟩)):=by
 obtain⟨b,o,cap,e,ho,hc⟩:=pT h hi;refine⟨b,o,cap,e,?_⟩;have hcell: ∀(j:Nat) (v:V),((row q xs i).map (C.toV p))[j]? =some v→ ∃y,w.cell? ⟨b,o+i*q.size+j,none⟩=some y∧VR R H w v y:=by
  intro j v hj;rw[List.getElem?_map]at hj;obtain⟨c,hc1,rfl⟩:=Option.map_eq_some_iff.1 hj;obtain⟨y,h1,h2⟩:=hc j c hc1;exact⟨y,by rw[Nat.add_assoc];exact h1,Sx h2⟩
 exact .rp _ 0 b (o+i*q.size) (fun j=>(w.cell? ⟨b,o+i*q.size+j,none⟩).getD undef) (fun _ _ _=>ho.weak)
  (fun j v hj=>by obtain⟨y,h1,_⟩:=hcell j v hj;rw[h1];rfl) (fun j v hj=>by obtain⟨y,h1,h2⟩:=hcell j v hj;rw[h1];exact h2)
theorem Bq(h:HR tyK R H w){r:Nat}{q:Kd}{xs:List q.T}{ho:Ho}(e:AE H r=.root q xs ho):A8 tyK R.T w r q xs ho (R.ρ r):=by
 have h0:AE H r≠ .fresh:=by rw[e];exact fun h=>by cases h
 have hER:=h.at_ r (BO h0);rw[e]at hER;exact hER
theorem G5(h:HR tyK R H w){r:Nat}{q:Kd}{xs:List q.T}{ho:Ho}(e:AE H r=.root q xs ho){i:Nat}(hi:i<xs.length):
 ∃g cap cur,R.ρ r=.slice (some ⟨g,0,none⟩) xs.length cap∧w.heap[g]? =some (.cells cur (tyK q) (0,0))∧R.T g=some (.slot r)∧xs.length≤cap∧cap≤maxLen∧cur.size=cap*q.size∧
  (∀u∈cur.toList.take (xs.length*q.size),u.oneCell'=true)∧
  ∀(j:Nat) (c:C),(row q xs i)[j]? =some c→ ¬ho.at i j→ ∃u,w.cell? ⟨g,i*q.size+j,none⟩=some u∧Be tyK R.T w r i j c u:=by
 rcases Bq h e with⟨A,_,hx⟩|⟨flat,ho',ht,h1,h4⟩
 ·subst hx;simp at hi
 · rcases ho'.2 with⟨_,h0⟩|⟨g,cap,cur,hv,_,hg,hnc,hcm,hcs,htake⟩
   ·omega
   · refine⟨g,cap,cur,hv,hg,ht g (by rw[hv];rfl),hnc,hcm,hcs,by rw[htake];exact h1,fun j c hj hna=> ?_⟩
     unfold row at hj;rw[List.getD_eq_getElem?_getD,List.getElem?_eq_getElem hi]at hj;obtain⟨u,hu,ho2⟩:=h4 i xs[i] (List.getElem?_eq_getElem hi) j c hj hna;refine⟨u,?_,ho2⟩;rw[cell_of_row w g _ cur _ _ hg];rw[←htake,List.getElem?_take]at hu;split at hu
     ·simpa using hu
     ·cases hu
theorem VR.rp_inv{cs:List V}{j:Nat}{u:Value}(h:VR R H w (.rp cs j) u): ∃b q,u=.pointer (some ⟨b,q+j,none⟩)∧
 (∀(i:Nat) (c:V),cs[i]? =some c→CS false (R.T b))∧ ∀(i:Nat) (c:V),cs[i]? =some c→ ∃y,w.cell? ⟨b,q+i,none⟩=some y∧VR R H w c y:=by
 cases h with
 |rp cs j b q f hT hc hv=>exact⟨b,q,rfl,hT,fun i c hi=>⟨_,hc i c hi,hv i c hi⟩⟩
theorem VR.rp_mk{cs:List V}{b q:Nat}(j:Nat)(hT: ∀(i:Nat) (c:V),cs[i]? =some c→CS false (R.T b))(h: ∀(i:Nat) (c:V),cs[i]? =some c→ ∃y,w.cell? ⟨b,q+i,none⟩=some y∧VR R H w c y):
 VR R H w (.rp cs j) (.pointer (some ⟨b,q+j,none⟩)):=
 .rp cs j b q (fun i=>(w.cell? ⟨b,q+i,none⟩).getD undef) hT (fun i c hi=>by obtain⟨y,h1,_⟩:=h i c hi;rw[h1];rfl) (fun i c hi=>by obtain⟨y,h1,h2⟩:=h i c hi;rw[h1];exact h2)
theorem VR.ptr_inv{b j:Nat}{u:Value}(h:VR R H w (.ptr b j) u):u=.pointer (some ⟨R.β b,j,none⟩)∧AE H b≠ .fresh:=by
 cases h with
 |ptr b j h0=>exact⟨rfl,h0⟩
theorem VR.ep_inv{q i j:Nat}{u:Value}(h:VR R H w (.ep q i j) u){kd:Kd}{xs:List kd.T}{ho:Ho}(e:AE H q=.root kd xs ho):
 i<xs.length∧ ∃g n cap,R.ρ q=.slice (some ⟨g,0,none⟩) n cap∧u=.pointer (some ⟨g,i*kd.size+j,none⟩):=by
 cases h with
 |ep q i j v h1 h0 hv=>exact hv kd xs ho e
theorem VR.ep_mk{q i j:Nat}{kd:Kd}{xs:List kd.T}{ho:Ho}(e:AE H q=.root kd xs ho)(hi:i<xs.length){g n cap:Nat}(hr:R.ρ q=.slice (some ⟨g,0,none⟩) n cap):
 VR R H w (.ep q i j) (.pointer (some ⟨g,i*kd.size+j,none⟩)):=
 .ep q i j _ rfl (by rw[e];exact fun h=>by cases h) fun k' xs' ho' e'=>by
  rw[e]at e';cases e';exact⟨hi,g,n,cap,hr,rfl⟩
theorem VR.ro_inv{p:Bool}{q:Kd}{xs:List q.T}{u:Value}(h:VR R H w (.ro p q xs) u):CU R.T w p q xs u:=by
 cases h with
 |ro p q xs v h=>exact h
theorem VR.bor_inv{q:Nat}{u:Value}(h:VR R H w (.bor q) u){kd:Kd}{xs:List kd.T}{ho:Ho}(e:AE H q=.root kd xs ho):u=R.ρ q:=by
 cases h with
 |bor q v h1 h0 hv=>exact hv kd xs ho e
theorem Ec(hT:TbOk P Tb tyK){e:TypeId}{q:Kd}(h:Cg Tb e q=true): ∃ti i,Tb e=some ti∧ti.size=q.size∧P.info? e=some i∧i.zero=some ti.zero∧i.size=q.size∧i.bytes=ti.bytes∧ti.zero.cells.size=q.size∧ti.bytes≤131072:=by
 unfold Cg at h;split at h
 · rename_i ti hti
   obtain⟨_,i,hi,h1,h2,h3,h4,h5⟩:=hT.inf _ _ hti;have h:ti.size=q.size:=by simpa using h
   exact⟨ti,i,hti,h,hi,h1,by rw[h2,h],h3,by rw[h4,h],h5⟩
 ·cases h
theorem Vp{q:Kd}{x:q.T}{j:Nat}{ys:List Int}(h:(q.cells x)[j]? =some (.nest ys)):q.nestAt j=true:=by
 cases q
 case lock=>
  match j with
  |0=>simp[Kd.cells]at h
  |1=>rfl
  |j+2=>simp[Kd.cells]at h
 all_goals(have h2:=List.mem_of_getElem? h;simp[Kd.cells]at h2)
end
end Go.Proofs.YthoholbeacojfaaGreat.VR
end
