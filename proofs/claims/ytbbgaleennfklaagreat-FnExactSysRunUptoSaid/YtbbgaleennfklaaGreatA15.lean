/- Functions, printed by program (wip/gen/emit.py). -/
import Derived.Test.YtbbgaleennfklaaGreatA14
section
set_option linter.unusedVariables false
set_option maxRecDepth 100000
namespace Go.Proofs.YtbbgaleennfklaaGreat.VR
open Go
def Gd{α:Type}(n:Nat):Nat→List Task→List Task→List Int→Int→Int→(List Task→Option α)→Option α|0,_,_,_,_,_,_=>none|m0+1,v2,v3,v4,v5,v6,k0_0=>cond (decide (v6<v5)) (cond (decide (0≤v6)&&decide (v6<(v4.length:Int))) ((CQ n v2 (List.getD v4 (Int.toNat v6) (Kd.dflt .int))).bind fun r7=>cond (decide (0≤r7.1)) (cond (decide (0≤r7.1)&&decide (r7.1<(v2.length:Int))) (let e8:=([(List.getD v2 (Int.toNat r7.1) (Kd.dflt .task))]:List Task);cond (decide ((v3).length+(e8).length≤lim)) (Gd n m0 v2 (v3++e8) v4 v5 (w64 (v6+1)) k0_0) none) none) (Gd n m0 v2 v3 v4 v5 (w64 (v6+1)) k0_0)) none) (k0_0 v3)
def K2(n:Nat)(a0:List Task)(a1:List Int):Option (Int×Unit):=(C4 n a0).bind fun r1=>cond (!r1.1) (some (0,())) (Gd n n a0 ([]:List Task) a1 (a1.length:Int) 0 (fun w9=>(GF n w9).bind fun r10=>some (r10.1,())))
def aE(n:Nat):Rw:=⟨227,pV [.ro .task,.ro .int],pS [.int],fun x=>K2 n x.1.2 x.2.1.2⟩
def kN(n:Nat):LS:=AI ⟨5,([0,5,13,14,15]),[(.t 5,1,.task)],[2,3],[5],[1,2,3]⟩ 34 [0,5,13,14,15] 4133 (pD [.ro .task,.bor 1,.ro .int,.int,.int]) [.root .task] (fun m x k=>Gd n m x.1.1.2 x.2.1 x.1.2.2.1.2 x.1.2.2.2.1 x.1.2.2.2.2.1 (fun w0=>k (.exit 0) (eS 34 [5] [.bor 1] 4133 [.root .task w0 .ok])))
theorem aF(n:Nat):RO (aE n):=
 rL ⟨Go.Proofs.Tryz.f227,⟨[(1,[(1,cl 1 .bool 0)]),(3,[(0,.slot 0 .task)]),(7,[(2,cl 2 .int 0)]),(9,[(5,.slot 2 .task),(6,.slot 3 .task)]),(11,[(1,cl 1 .int 0)])],[],[]⟩,4⟩ [kN n] n (ec (NC n) (ec (EG n) (ec (UG n) en))) Go.Proofs.Tryz.func227 (by kernel_rfl) ⟨AJ (fun m x k=>by kernel_rfl) (fun _ _=>rfl),trivial⟩ (fun x=>by kernel_rfl)
def LG(n:Nat)(a0:Sys)(a1:Int)(a2:Int):Option (Bool×Unit):=(CQ n a0.Tasks a2).bind fun r1=>(Ap a1 0 (w64 ((a0.Locks.length:Int)-1))).bind fun r2=>cond (!r2.1) (some (false,())) (cond (decide (r1.1<0)) (some (false,())) (cond (decide (0≤a1)&&decide (a1<(a0.Locks.length:Int))) (let e3:=(decide ((List.getD a0.Locks (Int.toNat a1) (Kd.dflt .lock)).Owner=0));cond e3 (some (true,())) ((CQ n a0.Tasks ((List.getD a0.Locks (Int.toNat a1) (Kd.dflt .lock)).Owner)).bind fun r4=>cond (decide (0≤r4.1)) (cond (decide (0≤r4.1)&&decide (r4.1<(a0.Tasks.length:Int))) (cond (decide (0≤r1.1)&&decide (r1.1<(a0.Tasks.length:Int))) (let e5:=(decide ((List.getD a0.Tasks (Int.toNat r4.1) (Kd.dflt .task)).Cpu=(List.getD a0.Tasks (Int.toNat r1.1) (Kd.dflt .task)).Cpu));some (e5,())) none) none) (some (false,())))) none))
def bH(n:Nat):Rw:=⟨228,pV [Ae,.int,.int],pS [.bool],fun x=>LG n (AX x.1) x.2.1 x.2.2.1⟩
theorem bI(n:Nat):RO (bH n):=
 rE ⟨Go.Proofs.Tryz.f228,⟨[(0,[(0,.slot 0 .int)]),(1,[(3,cl 2 .int 0)]),(2,[(5,cl 3 .bool 0)]),(7,[(3,cl 2 .int 0)])],[(8,dr 18 [(3,[0],[]),(4,[0],[]),(9,[0],[]),(10,[0],[])])],[]⟩,1⟩ n (ec (EG n) (ec Bc en)) Go.Proofs.Tryz.func228 (by kernel_rfl) (fun x=>by kernel_rfl)
def K4(n:Nat)(a0:List Lock)(a1:Int):Option (List Int×Unit):=(FE n a0).bind fun r1=>cond (!r1.1) (some ([],())) ((HM n a0 a1).bind fun r2=>some (r2.1.1,()))
def aJ(n:Nat):Rw:=⟨240,pV [.ro .lock,.int],pS [.ro .int],fun x=>K4 n x.1.2 x.2.1⟩
theorem aK(n:Nat):RO (aJ n):=
 rE ⟨Go.Proofs.Tryz.f240,⟨[(1,[(1,cl 1 .bool 0)]),(3,[(2,q28)])],[],[]⟩,0⟩ n (ec (KO n) (ec (Pq n) en)) Go.Proofs.Tryz.func240 (by kernel_rfl) (fun x=>by kernel_rfl)
def LB(n:Nat)(a0:List Lock)(a1:Int)(a2:Int)(a3:Int):Option ((List Lock×Bool×Unit)×Unit):=(FE n a0).bind fun r1=>cond (!r1.1) (some (([],false,()),())) ((HN n a0).bind fun r2=>(Ap a1 0 (w64 ((a0.length:Int)-1))).bind fun r3=>cond (!r3.1) (some ((r2.1,false,()),())) (cond (decide (a2=0)) (some ((r2.1,false,()),())) (cond (decide (0≤a1)&&decide (a1<(a0.length:Int))) (let e4:=(!(decide ((List.getD a0 (Int.toNat a1) (Kd.dflt .lock)).Owner=a2)));cond e4 (some ((r2.1,false,()),())) (cond (decide (0≤a1)&&decide (a1<(a0.length:Int))) ((Jq n ((List.getD a0 (Int.toNat a1) (Kd.dflt .lock)).Waits) a3).bind fun r5=>cond (decide (r5.1<0)) (cond (!(decide (a3=0))) (some ((r2.1,false,()),())) (cond (decide (0≤a1)&&decide (a1<(a0.length:Int))) (let e6:=(((List.getD a0 (Int.toNat a1) (Kd.dflt .lock)).Waits).length:Int);cond (decide (0<e6)) (some ((r2.1,false,()),())) (cond (decide (0≤a1)&&decide (a1<(r2.1.length:Int))) (cond (decide ((Int.toNat a1)<(r2.1).length)) (let e7:=(List.set r2.1 (Int.toNat a1) (⟨a3,(List.getD r2.1 (Int.toNat a1) (Kd.dflt .lock)).Waits⟩:Lock));cond (decide (0≤r5.1)) (cond (decide (0≤a1)&&decide (a1<(e7.length:Int))) ((Jp ((List.getD e7 (Int.toNat a1) (Kd.dflt .lock)).Waits) r5.1 (w64 (r5.1+1))).bind fun r8=>cond (decide (0≤a1)&&decide (a1<(e7.length:Int))) (cond (decide ((Int.toNat a1)<(e7).length)) (cond (((decide ((Int.toNat a1)=(Int.toNat a1)))&&true)&&true) (let e9:=(List.set e7 (Int.toNat a1) (⟨(List.getD e7 (Int.toNat a1) (Kd.dflt .lock)).Owner,r8.1⟩:Lock));some ((e9,true,()),())) none) none) none) none) (some ((e7,true,()),()))) none) none)) none)) (cond (decide (0≤a1)&&decide (a1<(r2.1.length:Int))) (cond (decide ((Int.toNat a1)<(r2.1).length)) (let e10:=(List.set r2.1 (Int.toNat a1) (⟨a3,(List.getD r2.1 (Int.toNat a1) (Kd.dflt .lock)).Waits⟩:Lock));cond (decide (0≤r5.1)) (cond (decide (0≤a1)&&decide (a1<(e10.length:Int))) ((Jp ((List.getD e10 (Int.toNat a1) (Kd.dflt .lock)).Waits) r5.1 (w64 (r5.1+1))).bind fun r11=>cond (decide (0≤a1)&&decide (a1<(e10.length:Int))) (cond (decide ((Int.toNat a1)<(e10).length)) (cond (((decide ((Int.toNat a1)=(Int.toNat a1)))&&true)&&true) (let e12:=(List.set e10 (Int.toNat a1) (⟨(List.getD e10 (Int.toNat a1) (Kd.dflt .lock)).Owner,r11.1⟩:Lock));some ((e12,true,()),())) none) none) none) none) (some ((e10,true,()),()))) none) none)) none)) none)))
def aq(n:Nat):Rw:=⟨226,pV [.ro .lock,.int,.int,.int],Td,fun x=>LB n x.1.2 x.2.1 x.2.2.1 x.2.2.2.1⟩
theorem ar(n:Nat):RO (aq n):=
 rE ⟨Go.Proofs.Tryz.f226,⟨[(1,[(1,cl 1 .bool 0)]),(3,[(1,Tm)]),(4,[(4,cl 3 .bool 0)]),(6,[(6,cl 2 .int 0)]),(11,[(10,(.call [.mv,.ro,.ro] (.own .int) [] [some 1]))])],[],[]⟩,2⟩ n (ec (KO n) (ec (Pr n) (ec Bc (ec (US n) (ec gV en))))) Go.Proofs.Tryz.func226 (by kernel_rfl) (fun x=>by kernel_rfl)
def K9(n:Nat)(a0:List Lock)(a1:Int)(a2:Int):Option ((List Lock×Int×Unit)×Unit):=(FE n a0).bind fun r1=>cond (!r1.1) (some (([],2,()),())) ((HN n a0).bind fun r2=>(Ap a1 0 (w64 ((a0.length:Int)-1))).bind fun r3=>cond (!r3.1) (some ((r2.1,2,()),())) ((HO a2).bind fun r4=>cond (!r4.1) (some ((r2.1,2,()),())) ((DU n a0 a2).bind fun r5=>cond (decide (0≤r5.1)) (some ((r2.1,2,()),())) (cond (decide (0≤a1)&&decide (a1<(a0.length:Int))) (let e6:=(decide ((List.getD a0 (Int.toNat a1) (Kd.dflt .lock)).Owner=a2));cond e6 (some ((r2.1,3,()),())) (cond (decide (0≤a1)&&decide (a1<(a0.length:Int))) (let e7:=(decide ((List.getD a0 (Int.toNat a1) (Kd.dflt .lock)).Owner=0));cond e7 (cond (decide (0≤a1)&&decide (a1<(r2.1.length:Int))) (cond (decide ((Int.toNat a1)<(r2.1).length)) (let e8:=(List.set r2.1 (Int.toNat a1) (⟨a2,(List.getD r2.1 (Int.toNat a1) (Kd.dflt .lock)).Waits⟩:Lock));some ((e8,0,()),())) none) none) (cond (decide (0≤a1)&&decide (a1<(a0.length:Int))) ((K4 n a0 ((List.getD a0 (Int.toNat a1) (Kd.dflt .lock)).Owner)).bind fun r9=>(GM n r9.1 a2).bind fun r10=>cond r10.1 (some ((r2.1,4,()),())) (cond (decide (0≤a1)&&decide (a1<(r2.1.length:Int))) (cond (decide (((List.getD r2.1 (Int.toNat a1) (Kd.dflt .lock)).Waits).length+(([a2]:List Int)).length≤lim)) (let e11:=((List.getD r2.1 (Int.toNat a1) (Kd.dflt .lock)).Waits++([a2]:List Int));cond (decide (0≤a1)&&decide (a1<(r2.1.length:Int))) (cond (decide ((Int.toNat a1)<(r2.1).length)) (cond (((decide ((Int.toNat a1)=(Int.toNat a1)))&&true)&&true) (let e12:=(List.set r2.1 (Int.toNat a1) (⟨(List.getD r2.1 (Int.toNat a1) (Kd.dflt .lock)).Owner,e11⟩:Lock));some ((e12,1,()),())) none) none) none) none) none)) none)) none)) none))))
def ao(n:Nat):Rw:=⟨229,pV [.ro .lock,.int,.int],Ta,fun x=>K9 n x.1.2 x.2.1 x.2.2.1⟩
theorem ap(n:Nat):RO (ao n):=
 rE ⟨Go.Proofs.Tryz.f229,⟨[(1,[(1,cl 1 .bool 0)]),(3,[(1,Tm)]),(4,[(4,cl 3 .bool 0),(8,cl 1 .bool 0),(14,cl 2 .int 0)]),(11,[(6,(cl 2 (.ro .int) 0)),(8,cl 2 .bool 0)]),(13,[(8,.slot 1 .int),(9,.slot 2 .int)])],[],[]⟩,3⟩ n (ec (KO n) (ec (Pr n) (ec Bc (ec Ps (ec (Ij n) (ec (aK n) (ec (NK n) en))))))) Go.Proofs.Tryz.func229 (by kernel_rfl) (fun x=>by kernel_rfl)
def JL(n:Nat)(a0:Sys)(a1:Call)(a2:Task):Option (Int×Ah×Unit):=(Ap a1.A 0 (w64 ((a0.Locks.length:Int)-1))).bind fun r1=>cond (!r1.1) (some (2,(AA a0),())) (cond (decide (0≤a1.A)&&decide (a1.A<(a0.Locks.length:Int))) (let e2:=(decide ((List.getD a0.Locks (Int.toNat a1.A) (Kd.dflt .lock)).Owner=a2.No));cond (decide (a2.State=2)) (some (5,(AA a0),())) ((DU n a0.Locks a2.No).bind fun r3=>cond (decide (0≤r3.1)) (some (5,(AA a0),())) (cond (!(e2==(decide (a1.Kind=8)))) (some (5,(AA a0),())) (cond (decide (a1.Kind=8)) (cond (decide (0≤a1.A)&&decide (a1.A<(a0.Locks.length:Int))) ((K2 n a0.Tasks ((List.getD a0.Locks (Int.toNat a1.A) (Kd.dflt .lock)).Waits)).bind fun r4=>(LB n a0.Locks a1.A a2.No r4.1).bind fun r5=>some (0,(AA (⟨a0.Now,a0.Cpus,a0.Tasks,r5.1.1,a0.Ghosts,a0.Floors,a0.Seq,a0.Missed,a0.Trace⟩:Sys)),())) none) ((LG n a0 a1.A a2.No).bind fun r6=>cond (!r6.1) (some (5,(AA a0),())) ((K9 n a0.Locks a1.A a2.No).bind fun r7=>cond (decide (r7.1.2.1=4)) (some (6,(AA a0),())) (some (0,(AA (⟨a0.Now,a0.Cpus,a0.Tasks,r7.1.1,a0.Ghosts,a0.Floors,a0.Seq,a0.Missed,a0.Trace⟩:Sys)),())))))))) none)
def bw(n:Nat):Rw:=⟨197,pA [.box (pA [.v .int,.v .int,.own .task,.own .lock,.own .ghost,.own .int,.v .int,.v .int,.own .turn]),.v Ba,.v Ac],KN,fun x=>JL n (AC x.1) (Az x.2.1) (AK x.2.2.1)⟩
theorem bx(n:Nat):RO (bw n):=
 rE ⟨Go.Proofs.Tryz.f197,⟨[(0,[(0,.slot 6 .int),(1,.slot 7 .int)]),(1,[(8,cl 3 .bool 0)]),(4,[(10,cl 2 .int 0)]),(7,[(22,cl 2 .int 0),(23,Tf)]),(9,[(7,cl 3 .bool 0)]),(11,[(8,(.call [.ro,.ro,.ro] (.tup Pl) [] [some 9]))])],[(1,dr 10 [(0,[6],[]),(1,[6],[]),(3,[0],[]),(4,[0],[]),(5,[0],[]),(6,[2],[])]),(3,dr 13 [(1,[0],[]),(2,[0],[]),(3,[0],[]),(4,[6],[]),(5,[6],[]),(6,[2],[]),(7,[2],[]),(8,[2],[]),(9,[7],[]),(10,[7],[])]),(4,dr 20 [(0,[7],[]),(1,[7],[]),(5,[0],[]),(6,[0],[]),(7,[0],[]),(8,[7],[]),(9,[7],[]),(10,[2],[]),(15,[6],[]),(16,[6],[])]),(7,dr 30 [(2,[0],[]),(3,[0],[]),(4,[0],[]),(5,[6],[]),(6,[6],[]),(7,[7],[]),(8,[7],[]),(10,[0],[]),(11,[0],[]),(12,[0],[]),(14,[0],[]),(15,[0],[]),(16,[0],[]),(17,[6],[]),(18,[6],[]),(19,[2],[]),(20,[2],[]),(21,[2],[]),(22,[1,2],[]),(23,[2,8],[8]),(27,[0],[]),(28,[0],[]),(29,[0,8],[0])]),(9,dr 9 [(1,[0],[]),(2,[0],[]),(3,[6],[]),(4,[6],[]),(5,[7],[]),(6,[7],[]),(7,[1,2,3,4,5],[])]),(11,dr 14 [(1,[0],[]),(2,[0],[]),(3,[0],[]),(4,[6],[]),(5,[6],[]),(6,[7],[]),(7,[7],[]),(8,[2,9],[9])])],[]⟩,10⟩ n (ec Bc (ec (Ij n) (ec (aF n) (ec (ar n) (ec (bI n) (ec (ap n) en)))))) Go.Proofs.Tryz.func197 (by kernel_rfl) (fun x=>by kernel_rfl)
def JF(a0:Task)(a1:Int)(a2:Int)(a3:Int):Option (A8×Unit):=(Do a0).bind fun r1=>cond (!r1.1) (some ((AN a0),())) ((Ap a1 0 3).bind fun r2=>cond (!r2.1) (some ((AN a0),())) ((Ap a2 0 100000000).bind fun r3=>cond (!r3.1) (some ((AN a0),())) ((Ap a3 0 100000000).bind fun r4=>cond (!r4.1) (some ((AN a0),())) (let e5:=(w64 (a3+(if(w64 (a0.V-a2))>0 then(w64 (a0.V-a2))else 0)));cond (decide (100000000<e5)) (some ((AN a0),())) (some ((AN (⟨a0.No,a0.Class,a1,a0.State,a0.Idle,a0.Q,a0.P,a0.Left,a0.Due,a0.Prio,a0.Round,a0.Seq,a0.Nice,e5⟩:Task)),()))))))
def aX:Rw:=⟨230,pV [Ac,.int,.int,.int],pS [.agg q0],fun x=>JF (AK x.1) x.2.1 x.2.2.1 x.2.2.2.1⟩
theorem aY:RO (aX):=
 rE ⟨Go.Proofs.Tryz.f230,⟨[(0,[(0,.slot 0 .int),(1,.slot 1 .int)]),(1,[(1,cl 1 .bool 0),(5,cl 3 .bool 0),(10,cl 3 .bool 0),(15,cl 3 .bool 0)])],[],[]⟩,2⟩ 0 (ec KP (ec Bc en)) Go.Proofs.Tryz.func230 (by kernel_rfl) (fun x=>by kernel_rfl)
def LR(n:Nat)(a0:Sys)(a1:Call)(a2:Int):Option (Int×Ah×Unit):=cond (decide (0≤a2)&&decide (a2<(a0.Tasks.length:Int))) (let e1:=(!(decide ((List.getD a0.Tasks (Int.toNat a2) (Kd.dflt .task)).Class=3)));cond e1 (some (5,(AA a0),())) (cond (decide (a1.Kind=9)) ((FF a1.A).bind fun r2=>cond (!r2.1) (some (1,(AA a0),())) (cond (decide (a1.Kind=9)) (cond (decide (0≤a2)&&decide (a2<(a0.Tasks.length:Int))) (cond (decide ((Int.toNat a2)<(a0.Tasks).length)) (let e3:=(List.set a0.Tasks (Int.toNat a2) (⟨(List.getD a0.Tasks (Int.toNat a2) (Kd.dflt .task)).No,(List.getD a0.Tasks (Int.toNat a2) (Kd.dflt .task)).Class,(List.getD a0.Tasks (Int.toNat a2) (Kd.dflt .task)).Cpu,(List.getD a0.Tasks (Int.toNat a2) (Kd.dflt .task)).State,(List.getD a0.Tasks (Int.toNat a2) (Kd.dflt .task)).Idle,(List.getD a0.Tasks (Int.toNat a2) (Kd.dflt .task)).Q,(List.getD a0.Tasks (Int.toNat a2) (Kd.dflt .task)).P,(List.getD a0.Tasks (Int.toNat a2) (Kd.dflt .task)).Left,(List.getD a0.Tasks (Int.toNat a2) (Kd.dflt .task)).Due,(List.getD a0.Tasks (Int.toNat a2) (Kd.dflt .task)).Prio,(List.getD a0.Tasks (Int.toNat a2) (Kd.dflt .task)).Round,(List.getD a0.Tasks (Int.toNat a2) (Kd.dflt .task)).Seq,a1.A,(List.getD a0.Tasks (Int.toNat a2) (Kd.dflt .task)).V⟩:Task));some (0,(AA (⟨a0.Now,a0.Cpus,e3,a0.Locks,a0.Ghosts,a0.Floors,a0.Seq,a0.Missed,a0.Trace⟩:Sys)),())) none) none) ((GE n a0.Locks ((List.getD a0.Tasks (Int.toNat a2) (Kd.dflt .task)).No)).bind fun r4=>cond r4.1 (some (5,(AA a0),())) ((DU n a0.Locks ((List.getD a0.Tasks (Int.toNat a2) (Kd.dflt .task)).No)).bind fun r5=>cond (decide (0≤r5.1)) (some (5,(AA a0),())) ((Ap a1.Cpu 0 (w64 (a0.Cpus-1))).bind fun r6=>cond (!r6.1) (some (1,(AA a0),())) ((FD a0 ((List.getD a0.Tasks (Int.toNat a2) (Kd.dflt .task)).Cpu)).bind fun r7=>(FD a0 a1.Cpu).bind fun r8=>(JF (List.getD a0.Tasks (Int.toNat a2) (Kd.dflt .task)) a1.Cpu r7.1 r8.1).bind fun r9=>cond (decide (0≤a2)&&decide (a2<(a0.Tasks.length:Int))) (cond (decide ((Int.toNat a2)<(a0.Tasks).length)) (some (0,(AA (⟨a0.Now,a0.Cpus,(List.set a0.Tasks (Int.toNat a2) (AK r9.1)),a0.Locks,a0.Ghosts,a0.Floors,a0.Seq,a0.Missed,a0.Trace⟩:Sys)),())) none) none)))))) (cond (decide (a1.Kind=9)) (cond (decide (0≤a2)&&decide (a2<(a0.Tasks.length:Int))) (cond (decide ((Int.toNat a2)<(a0.Tasks).length)) (let e10:=(List.set a0.Tasks (Int.toNat a2) (⟨(List.getD a0.Tasks (Int.toNat a2) (Kd.dflt .task)).No,(List.getD a0.Tasks (Int.toNat a2) (Kd.dflt .task)).Class,(List.getD a0.Tasks (Int.toNat a2) (Kd.dflt .task)).Cpu,(List.getD a0.Tasks (Int.toNat a2) (Kd.dflt .task)).State,(List.getD a0.Tasks (Int.toNat a2) (Kd.dflt .task)).Idle,(List.getD a0.Tasks (Int.toNat a2) (Kd.dflt .task)).Q,(List.getD a0.Tasks (Int.toNat a2) (Kd.dflt .task)).P,(List.getD a0.Tasks (Int.toNat a2) (Kd.dflt .task)).Left,(List.getD a0.Tasks (Int.toNat a2) (Kd.dflt .task)).Due,(List.getD a0.Tasks (Int.toNat a2) (Kd.dflt .task)).Prio,(List.getD a0.Tasks (Int.toNat a2) (Kd.dflt .task)).Round,(List.getD a0.Tasks (Int.toNat a2) (Kd.dflt .task)).Seq,a1.A,(List.getD a0.Tasks (Int.toNat a2) (Kd.dflt .task)).V⟩:Task));some (0,(AA (⟨a0.Now,a0.Cpus,e10,a0.Locks,a0.Ghosts,a0.Floors,a0.Seq,a0.Missed,a0.Trace⟩:Sys)),())) none) none) ((GE n a0.Locks ((List.getD a0.Tasks (Int.toNat a2) (Kd.dflt .task)).No)).bind fun r11=>cond r11.1 (some (5,(AA a0),())) ((DU n a0.Locks ((List.getD a0.Tasks (Int.toNat a2) (Kd.dflt .task)).No)).bind fun r12=>cond (decide (0≤r12.1)) (some (5,(AA a0),())) ((Ap a1.Cpu 0 (w64 (a0.Cpus-1))).bind fun r13=>cond (!r13.1) (some (1,(AA a0),())) ((FD a0 ((List.getD a0.Tasks (Int.toNat a2) (Kd.dflt .task)).Cpu)).bind fun r14=>(FD a0 a1.Cpu).bind fun r15=>(JF (List.getD a0.Tasks (Int.toNat a2) (Kd.dflt .task)) a1.Cpu r14.1 r15.1).bind fun r16=>cond (decide (0≤a2)&&decide (a2<(a0.Tasks.length:Int))) (cond (decide ((Int.toNat a2)<(a0.Tasks).length)) (some (0,(AA (⟨a0.Now,a0.Cpus,(List.set a0.Tasks (Int.toNat a2) (AK r16.1)),a0.Locks,a0.Ghosts,a0.Floors,a0.Seq,a0.Missed,a0.Trace⟩:Sys)),())) none) none))))))) none
def bu(n:Nat):Rw:=⟨198,pA [.box (pA [.v .int,.v .int,.own .task,.own .lock,.own .ghost,.own .int,.v .int,.v .int,.own .turn]),.v Ba,.v .int],KN,fun x=>LR n (AC x.1) (Az x.2.1) x.2.2.1⟩
theorem bv(n:Nat):RO (bu n):=
 rE ⟨Go.Proofs.Tryz.f198,⟨[(0,[(0,.slot 6 .int)]),(1,[(7,.slot 7 .int)]),(4,[(6,cl 1 .bool 0)]),(9,[(6,cl 2 .bool 0),(14,cl 2 .int 0)]),(11,[(7,cl 3 .bool 0)]),(13,[(13,cl 2 .int 0),(19,cl 2 .int 0),(20,Tg)])],[(7,dr 10 [(1,[0],[]),(2,[0],[]),(3,[0],[]),(5,[6],[]),(6,[6],[]),(7,[1],[]),(8,[1],[]),(9,[1],[1])]),(9,dr 18 [(1,[0],[]),(2,[0],[]),(3,[0],[]),(4,[7],[]),(5,[7],[]),(6,[2],[]),(9,[0],[]),(10,[0],[]),(11,[0],[]),(12,[7],[]),(13,[7],[]),(14,[2],[])]),(11,dr 10 [(0,[6],[]),(1,[6],[]),(3,[0],[]),(4,[0],[]),(5,[0],[])]),(13,dr 23 [(1,[0],[]),(2,[0],[]),(3,[0],[]),(5,[7],[]),(6,[6],[]),(7,[6],[]),(9,[0],[]),(10,[0],[]),(11,[7],[]),(12,[7],[]),(13,[1,2,3,4,5],[]),(15,[0],[]),(16,[0],[]),(17,[6],[]),(18,[6],[]),(19,[1,2,3,4,5],[]),(21,[1],[]),(22,[1],[1])])],[]⟩,8⟩ n (ec NA (ec (T4 n) (ec (Ij n) (ec Bc (ec T3 (ec aY en)))))) Go.Proofs.Tryz.func198 (by kernel_rfl) (fun x=>by kernel_rfl)
def JP(n:Nat)(a0:Sys)(a1:Call)(a2:Int):Option (Int×Ah×Unit):=cond (decide (0≤a2)&&decide (a2<(a0.Tasks.length:Int))) (cond (decide (a1.Kind=4)) (let e1:=(decide ((List.getD a0.Tasks (Int.toNat a2) (Kd.dflt .task)).State=2));cond e1 (some (5,(AA a0),())) ((DU n a0.Locks ((List.getD a0.Tasks (Int.toNat a2) (Kd.dflt .task)).No)).bind fun r2=>cond (decide (0≤r2.1)) (some (5,(AA a0),())) (cond (decide (0≤a2)&&decide (a2<(a0.Tasks.length:Int))) (cond (decide ((Int.toNat a2)<(a0.Tasks).length)) (let e3:=(List.set a0.Tasks (Int.toNat a2) (⟨(List.getD a0.Tasks (Int.toNat a2) (Kd.dflt .task)).No,(List.getD a0.Tasks (Int.toNat a2) (Kd.dflt .task)).Class,(List.getD a0.Tasks (Int.toNat a2) (Kd.dflt .task)).Cpu,2,(List.getD a0.Tasks (Int.toNat a2) (Kd.dflt .task)).Idle,(List.getD a0.Tasks (Int.toNat a2) (Kd.dflt .task)).Q,(List.getD a0.Tasks (Int.toNat a2) (Kd.dflt .task)).P,(List.getD a0.Tasks (Int.toNat a2) (Kd.dflt .task)).Left,(List.getD a0.Tasks (Int.toNat a2) (Kd.dflt .task)).Due,(List.getD a0.Tasks (Int.toNat a2) (Kd.dflt .task)).Prio,(List.getD a0.Tasks (Int.toNat a2) (Kd.dflt .task)).Round,(List.getD a0.Tasks (Int.toNat a2) (Kd.dflt .task)).Seq,(List.getD a0.Tasks (Int.toNat a2) (Kd.dflt .task)).Nice,(List.getD a0.Tasks (Int.toNat a2) (Kd.dflt .task)).V⟩:Task));some (0,(AA (⟨a0.Now,a0.Cpus,e3,a0.Locks,a0.Ghosts,a0.Floors,a0.Seq,a0.Missed,a0.Trace⟩:Sys)),())) none) none))) (cond (decide (a1.Kind=5)) (let e4:=(!(decide ((List.getD a0.Tasks (Int.toNat a2) (Kd.dflt .task)).State=2)));cond e4 (some (5,(AA a0),())) (cond (decide (0≤a2)&&decide (a2<(a0.Tasks.length:Int))) (cond (decide ((Int.toNat a2)<(a0.Tasks).length)) (let e5:=(List.set a0.Tasks (Int.toNat a2) (⟨(List.getD a0.Tasks (Int.toNat a2) (Kd.dflt .task)).No,(List.getD a0.Tasks (Int.toNat a2) (Kd.dflt .task)).Class,(List.getD a0.Tasks (Int.toNat a2) (Kd.dflt .task)).Cpu,1,(List.getD a0.Tasks (Int.toNat a2) (Kd.dflt .task)).Idle,(List.getD a0.Tasks (Int.toNat a2) (Kd.dflt .task)).Q,(List.getD a0.Tasks (Int.toNat a2) (Kd.dflt .task)).P,(List.getD a0.Tasks (Int.toNat a2) (Kd.dflt .task)).Left,(List.getD a0.Tasks (Int.toNat a2) (Kd.dflt .task)).Due,(List.getD a0.Tasks (Int.toNat a2) (Kd.dflt .task)).Prio,(List.getD a0.Tasks (Int.toNat a2) (Kd.dflt .task)).Round,(List.getD a0.Tasks (Int.toNat a2) (Kd.dflt .task)).Seq,(List.getD a0.Tasks (Int.toNat a2) (Kd.dflt .task)).Nice,(List.getD a0.Tasks (Int.toNat a2) (Kd.dflt .task)).V⟩:Task));some (0,(AA (⟨a0.Now,a0.Cpus,e5,a0.Locks,a0.Ghosts,a0.Floors,a0.Seq,a0.Missed,a0.Trace⟩:Sys)),())) none) none)) (cond (decide (a1.Kind=6)) ((LQ n a0 a2).bind fun r6=>some (r6.1,(AA (AC r6.2.1)),())) (cond (decide (a1.Kind=7)) ((JL n a0 a1 (List.getD a0.Tasks (Int.toNat a2) (Kd.dflt .task))).bind fun r7=>some (r7.1,(AA (AC r7.2.1)),())) (cond (decide (a1.Kind=8)) ((JL n a0 a1 (List.getD a0.Tasks (Int.toNat a2) (Kd.dflt .task))).bind fun r8=>some (r8.1,(AA (AC r8.2.1)),())) ((LR n a0 a1 a2).bind fun r9=>some (r9.1,(AA (AC r9.2.1)),()))))))) none
def b9(n:Nat):Rw:=⟨147,pA [.box (pA [.v .int,.v .int,.own .task,.own .lock,.own .ghost,.own .int,.v .int,.v .int,.own .turn]),.v Ba,.v .int],KN,fun x=>JP n (AC x.1) (Az x.2.1) x.2.2.1⟩
theorem UB(n:Nat):RO (b9 n):=
 rE ⟨Go.Proofs.Tryz.f147,⟨[(0,[(0,.slot 6 .int)]),(1,[(7,.slot 7 .int)]),(4,[(10,cl 2 .int 0)]),(14,[(2,(.call [.mv,.ro] .int [.box q59] [some 8,some 9,some 10,some 11,some 12]))]),(17,[(3,(.call [.mv,.ro,.ro] .int [.box q59] [some 13,some 14,some 15,some 16,some 17]))]),(18,[(3,(.call [.mv,.ro,.ro] .int [.box q59] [some 18,some 19,some 20,some 21,some 22]))])],[(4,dr 13 [(0,[7],[]),(1,[7],[]),(5,[0],[]),(6,[0],[]),(7,[0],[]),(8,[7],[]),(9,[7],[]),(10,[2],[])])],[]⟩,23⟩ n (ec (Ij n) (ec (bt n) (ec (bx n) (ec (bv n) en)))) Go.Proofs.Tryz.func147 (by kernel_rfl) (fun x=>by kernel_rfl)
def Hj{α:Type}(n:Nat):Nat→Int→Sys→Sys→Int→(Int→Int→Int→Int→Int→Int→Int→Int→Int→List Task→List Lock→List Ghost→List Int→List Turn→Option α)→(Int→Int→Int→Int→List Task→List Lock→List Ghost→List Int→List Turn→Option α)→Option α|0,_,_,_,_,_,_=>none|m0+1,v4,v5,v6,v7,k0_0,k0_1=>cond (decide (v7<v4)) ((JK n v6).bind fun r8=>cond (!r8.1.2.1) (k0_0 v7 v6.Now v6.Cpus v6.Seq v6.Missed v6.Now v6.Cpus v6.Seq v6.Missed v6.Tasks v6.Locks v6.Ghosts v6.Floors v6.Trace) (Hj n m0 v4 (⟨v5.Now,v5.Cpus,[],[],[],[],v5.Seq,v5.Missed,[]⟩:Sys) (AC r8.1.1) (w64 (v7+1)) k0_0 k0_1)) (k0_1 v6.Now v6.Cpus v6.Seq v6.Missed v6.Tasks v6.Locks v6.Ghosts v6.Floors v6.Trace)
def LP(n:Nat)(a0:Sys)(a1:Int):Option ((Ah×Int×Unit)×Unit):=(DT n a0).bind fun r1=>cond (!r1.1) (cond (decide (0<a1)) (some (((AA (⟨0,0,[],[],[],[],0,0,[]⟩:Sys)),0,()),())) ((B1 n a0).bind fun r2=>some (((AA (AC r2.1)),0,()),()))) ((B1 n a0).bind fun r3=>Hj n n a1 (⟨0,0,[],[],[],[],0,0,[]⟩:Sys) (AC r3.1) 0 (fun w9 w10 w11 w12 w13 w14 w15 w16 w17 w18 w19 w20 w21 w22=>some (((AA (⟨w10,w11,w18,w19,w20,w21,w12,w13,w22⟩:Sys)),w9,()),())) (fun w23 w24 w25 w26 w27 w28 w29 w30 w31=>some (((AA (⟨w23,w24,w27,w28,w29,w30,w25,w26,w31⟩:Sys)),(if a1>0 then a1 else 0),()),())))
def bp(n:Nat):Rw:=⟨192,pV [Ae,.int],DI,fun x=>LP n (AX x.1) x.2.1⟩
def ke(n:Nat):LS:=AI ⟨7,[1,4,6,7],[(.c 12 2,13,.task),(.c 12 3,14,.lock),(.c 12 4,15,.ghost),(.c 12 5,16,.int),(.c 12 8,17,.turn)],([18,19,20,21,22,23]),[1,4,5,6],([1,2,3,4,5,6,12,13,14,15,16,17])⟩ 38 [1,4,6,7] 413333344444111111333333 (pD [.int,.ptr 1 0,.ptr 12 0,.int]) [q64,KM,.root .task,.root .lock,.root .ghost,.root .int,.root .turn] (fun m x k=>Hj n m x.1.1 (⟨x.2.1.1,x.2.1.2.1,[],[],[],[],x.2.1.2.2.2.2.2.2.1,x.2.1.2.2.2.2.2.2.2.1,[]⟩:Sys) (⟨x.2.2.1.1,x.2.2.1.2.1,x.2.2.2.1,x.2.2.2.2.1,x.2.2.2.2.2.1,x.2.2.2.2.2.2.1,x.2.2.1.2.2.2.2.2.2.1,x.2.2.1.2.2.2.2.2.2.2.1,x.2.2.2.2.2.2.2.1⟩:Sys) x.1.2.2.2.1 (fun w0 w1 w2 w3 w4 w5 w6 w7 w8 w9 w10 w11 w12 w13=>k .ret (eS 38 [1,4,5,6] [.int x.1.1,.ptr 1 0,.int w0,.ptr 12 0] 413333344444111111444444 [.box [.int w1,.int w2,.bor 13,.bor 14,.bor 15,.bor 16,.int w3,.int w4,.bor 17],.box [.int w5,.int w6,.bor 13,.bor 14,.bor 15,.bor 16,.int w7,.int w8,.bor 17],.root .task w9 .ok,.root .lock w10 .ok,.root .ghost w11 .ok,.root .int w12 .ok,.root .turn w13 .ok])) (fun w0 w1 w2 w3 w4 w5 w6 w7 w8=>k (.exit 0) (eS 38 [1,4,6] [.int x.1.1,.ptr 1 0,.ptr 12 0] 413333344444111111444444 [DE.make q64 x.2.1,.box [.int w0,.int w1,.bor 13,.bor 14,.bor 15,.bor 16,.int w2,.int w3,.bor 17],.root .task w4 .ok,.root .lock w5 .ok,.root .ghost w6 .ok,.root .int w7 .ok,.root .turn w8 .ok])))
theorem bq(n:Nat):RO (bp n):=
 rL ⟨Go.Proofs.Tryz.f192,⟨[(0,[(0,.slot 0 .int),(1,.slot 1 .int)]),(1,[(1,cl 1 .bool 0)]),(4,[(1,q62)]),(5,[(1,(.call [.ro] (.agg q59) [] [some 7,some 8,some 9,some 10,some 11])),(2,.slot 12 .int)]),(9,[(1,(.call [.ro] (.tup q72) [] [some 18,some 19,some 20,some 21,some 22])),(5,.slot 23 .int)])],[],[]⟩,24⟩ [ke n] n (ec (Fx n) (ec (Gt n) (ec (T7 n) en))) Go.Proofs.Tryz.func192 (by kernel_rfl) ⟨AJ (fun m x k=>by kernel_rfl) (fun _ _=>rfl),trivial⟩ (fun x=>by kernel_rfl)
def JU(n:Nat)(a0:Sys)(a1:Int):Option ((Ah×Int×Unit)×Unit):=(Ap a1 1 50).bind fun r1=>cond (!r1.1) ((B1 n a0).bind fun r2=>some (((AA (AC r2.1)),1,()),())) ((LP n a0 a1).bind fun r3=>cond (decide (r3.1.2.1<a1)) ((B1 n a0).bind fun r4=>some (((AA (AC r4.1)),4,()),())) (some (((AA (AC r3.1.1)),0,()),())))
def c8(n:Nat):Rw:=⟨145,pV [Ae,.int],DI,fun x=>JU n (AX x.1) x.2.1⟩
theorem UJ(n:Nat):RO (c8 n):=
 rE ⟨Go.Proofs.Tryz.f145,⟨[(0,[(0,.slot 0 .int),(1,.slot 1 .int)]),(1,[(1,cl 3 .bool 0)]),(2,[(1,q62)]),(3,[(2,(.call [.ro,.ro] (.tup Cv) [] [some 7,some 8,some 9,some 10,some 11])),(6,.slot 12 .int)]),(5,[(1,(.call [.ro] (.agg q59) [] [some 13,some 14,some 15,some 16,some 17]))])],[],[]⟩,18⟩ n (ec Bc (ec (Gt n) (ec (bq n) en))) Go.Proofs.Tryz.func145 (by kernel_rfl) (fun x=>by kernel_rfl)
def LU(n:Nat)(a0:Sys)(a1:Call):Option ((Ah×Int×Unit)×Unit):=cond (decide (a1.Kind=11)) ((JU n a0 a1.A).bind fun r1=>some (((AA (AC r1.1.1)),r1.1.2.1,()),())) ((B1 n a0).bind fun r2=>(Ap a1.Kind 1 3).bind fun r3=>cond r3.1 ((JM n (AC r2.1) a1).bind fun r4=>cond (!(decide (r4.1=0))) ((B1 n a0).bind fun r5=>some (((AA (AC r5.1)),r4.1,()),())) (some (((AA (AC r4.2.1)),0,()),()))) ((CQ n a0.Tasks a1.No).bind fun r6=>cond (decide (0≤r6.1)) ((JP n (AC r2.1) a1 r6.1).bind fun r7=>cond (!(decide (r7.1=0))) ((B1 n a0).bind fun r8=>some (((AA (AC r8.1)),r7.1,()),())) (some (((AA (AC r7.2.1)),0,()),()))) ((B1 n a0).bind fun r9=>some (((AA (AC r9.1)),2,()),()))))
def cR(n:Nat):Rw:=⟨70,pV [Ae,Ba],DI,fun x=>LU n (AX x.1) (Az x.2.1)⟩
theorem cU(n:Nat):RO (cR n):=
 rE ⟨Go.Proofs.Tryz.f70,⟨[(0,[(0,.slot 0 .int),(1,.slot 1 .int),(2,.slot 2 .int)]),(2,[(3,Pm)]),(3,[(1,Tn),(2,.slot 13 .int)]),(5,[(2,cl 3 .bool 0)]),(6,[(1,To)]),(7,[(4,cl 2 .int 0)]),(9,[(2,Tq)]),(11,[(1,Tp)])],[],[]⟩,29⟩ n (ec (UJ n) (ec (Gt n) (ec Bc (ec (T8 n) (ec (EG n) (ec (UB n) en)))))) Go.Proofs.Tryz.func70 (by kernel_rfl) (fun x=>by kernel_rfl)
def JI(n:Nat)(a0:Sys)(a1:Call):Option ((Ah×Int×Unit)×Unit):=(DT n a0).bind fun r1=>cond (!r1.1) (some (((AA (⟨0,0,[],[],[],[],0,0,[]⟩:Sys)),1,()),())) ((JA a1).bind fun r2=>cond (!r2.1) (some (((AA (⟨0,0,[],[],[],[],0,0,[]⟩:Sys)),1,()),())) ((LU n a0 a1).bind fun r3=>some (((AA (AC r3.1.1)),r3.1.2.1,()),())))
def bW(n:Nat):Rw:=⟨18,pV [Ae,Ba],Tl,fun x=>JI n (AX x.1) (Az x.2.1)⟩
theorem T6(n:Nat):RO (bW n):=
 rE ⟨Go.Proofs.Tryz.f18,⟨[(0,[(0,.slot 0 .int),(1,.slot 1 .int),(2,.slot 2 .int)]),(1,[(1,cl 1 .bool 0),(5,cl 1 .bool 0)]),(3,[(2,(cl 2 (.tup Cv) 5))])],[],[]⟩,3⟩ n (ec (Fx n) (ec Tz (ec (cU n) en))) Go.Proofs.Tryz.func18 (by kernel_rfl) (fun x=>by kernel_rfl)
def OT(n:Nat)(a0:Sys)(a1:Call):Option ((Ah×Int×Unit)×Unit):=cond (decide (a1.Kind=11)) ((JU n a0 a1.A).bind fun r1=>some (((AA (AC r1.1.1)),r1.1.2.1,()),())) ((B1 n a0).bind fun r2=>(Ap a1.Kind 1 3).bind fun r3=>cond r3.1 ((JM n (AC r2.1) a1).bind fun r4=>cond (!(decide (r4.1=0))) ((B1 n a0).bind fun r5=>some (((AA (AC r5.1)),r4.1,()),())) (some (((AA (AC r4.2.1)),0,()),()))) ((CQ n a0.Tasks a1.No).bind fun r6=>cond (decide (0≤r6.1)) ((JP n (AC r2.1) a1 r6.1).bind fun r7=>cond (!(decide (r7.1=0))) ((B1 n a0).bind fun r8=>some (((AA (AC r8.1)),r7.1,()),())) (some (((AA (AC r7.2.1)),0,()),()))) ((B1 n a0).bind fun r9=>some (((AA (AC r9.1)),2,()),()))))
def cS(n:Nat):Rw:=⟨70,pV [Ae,Ba],DI,fun x=>OT n (AX x.1) (Az x.2.1)⟩
theorem cT(n:Nat):RO (cS n):=
 rE ⟨Go.Proofs.Tryz.f70,⟨[(0,[(0,.slot 0 .int),(1,.slot 1 .int),(2,.slot 2 .int)]),(2,[(3,Pm)]),(3,[(1,Tn),(2,.slot 13 .int)]),(5,[(2,cl 3 .bool 0)]),(6,[(1,To)]),(7,[(4,cl 2 .int 0)]),(9,[(2,Tq)]),(11,[(1,Tp)])],[],[]⟩,29⟩ n (ec (UJ n) (ec (Gt n) (ec Bc (ec (T8 n) (ec (EG n) (ec (UB n) en)))))) Go.Proofs.Tryz.func70 (by kernel_rfl) (fun x=>by kernel_rfl)
def JJ(n:Nat)(a0:Sys)(a1:Call):Option ((Ah×Int×Unit)×Unit):=(DT n a0).bind fun r1=>cond (!r1.1) (some (((AA (⟨0,0,[],[],[],[],0,0,[]⟩:Sys)),1,()),())) ((JA a1).bind fun r2=>cond (!r2.1) (some (((AA (⟨0,0,[],[],[],[],0,0,[]⟩:Sys)),1,()),())) ((OT n a0 a1).bind fun r3=>some (((AA (AC r3.1.1)),r3.1.2.1,()),())))
def bX(n:Nat):Rw:=⟨18,pV [Ae,Ba],DI,fun x=>JJ n (AX x.1) (Az x.2.1)⟩
theorem T5(n:Nat):RO (bX n):=
 rE ⟨Go.Proofs.Tryz.f18,⟨[(0,[(0,.slot 0 .int),(1,.slot 1 .int),(2,.slot 2 .int)]),(1,[(1,cl 1 .bool 0),(5,cl 1 .bool 0)]),(3,[(2,Pm)])],[],[]⟩,8⟩ n (ec (Fx n) (ec Tz (ec (cT n) en))) Go.Proofs.Tryz.func18 (by kernel_rfl) (fun x=>by kernel_rfl)
end Go.Proofs.YtbbgaleennfklaaGreat.VR
end
section
set_option linter.unusedVariables false
set_option linter.unusedSimpArgs false
namespace Go.Proofs.YtbbgaleennfklaaGreat.VR
open Go
theorem YK{s:Sys}{k no:Int}{n:Nat}(hn:s.Tasks.length<n)(hb:s.Tasks.length≤lim)(hl:s.Locks.length≤lim):LG n s k no=some (Gx s k no,()):=by
 have e:w64 ((s.Locks.length:Int)-1)=(s.Locks.length:Int)-1:=by unfold lim at hl;exact AO (by omega) (by omega)
 simp only[LG,Dv hn hb,BS,Option.bind_some,e,Gx]
 by_cases hk:0≤k∧k≤(s.Locks.length:Int)-1
 · rw[decide_eq_true hk,Bool.not_true,cond_false]
   have hk2:k<(s.Locks.length:Int):=by omega
   cases e1:AY s.Tasks no with
   |none=>simp[idx]
   |some i=>
    obtain⟨hi,_⟩:=B5 e1;have n1: ¬((i:Int)<0):=by omega
    simp only[idx,n1,decide_false,cond_false,decide_eq_true hk.1,decide_eq_true hk2,Bool.and_self,cond_true,if_pos hk]
    by_cases ho:(s.Locks.getD k.toNat (Kd.dflt .lock)).Owner=0
    ·rw[decide_eq_true ho,cond_true,if_pos ho]
    · rw[decide_eq_false ho,cond_false,if_neg ho]
      cases e2:AY s.Tasks (s.Locks.getD k.toNat (Kd.dflt .lock)).Owner with
      |none=>simp
      |some j=>
       obtain⟨hj,_⟩:=B5 e2;have p1:(0:Int)≤(i:Int):=by omega
       have p2:(0:Int)≤(j:Int):=by omega
       have p3:(i:Int)<(s.Tasks.length:Int):=by omega
       have p4:(j:Int)<(s.Tasks.length:Int):=by omega
       simp only[p1,p2,p3,p4,decide_true,cond_true,Bool.and_self,Int.toNat_natCast]
       congr
 · rw[decide_eq_false hk,Bool.not_false,cond_true]
   simp only[if_neg hk];cases AY s.Tasks no<;>rfl
theorem m8{s:Sys}{k no:Int}{n:Nat}(hn:s.Tasks.length<n)(hb:s.Tasks.length≤lim)(hl:s.Locks.length≤lim):MO n s k no=some (Gx s k no,()):=by
 have e:w64 ((s.Locks.length:Int)-1)=(s.Locks.length:Int)-1:=by unfold lim at hl;exact AO (by omega) (by omega)
 simp only[MO,F1 hn hb,BI,Option.bind_some,e,Gx]
 by_cases hk:0≤k∧k≤(s.Locks.length:Int)-1
 · rw[decide_eq_true hk,Bool.not_true,cond_false]
   have hk2:k<(s.Locks.length:Int):=by omega
   cases e1:AY s.Tasks no with
   |none=>simp[idx]
   |some i=>
    obtain⟨hi,_⟩:=B5 e1;have n1: ¬((i:Int)<0):=by omega
    simp only[idx,n1,decide_false,cond_false,decide_eq_true hk.1,decide_eq_true hk2,Bool.and_self,cond_true,if_pos hk]
    by_cases ho:(s.Locks.getD k.toNat (Kd.dflt .lock)).Owner=0
    ·rw[decide_eq_true ho,cond_true,if_pos ho]
    · rw[decide_eq_false ho,cond_false,if_neg ho]
      cases e2:AY s.Tasks (s.Locks.getD k.toNat (Kd.dflt .lock)).Owner with
      |none=>simp
      |some j=>
       obtain⟨hj,_⟩:=B5 e2;have p1:(0:Int)≤(i:Int):=by omega
       have p2:(0:Int)≤(j:Int):=by omega
       have p3:(i:Int)<(s.Tasks.length:Int):=by omega
       have p4:(j:Int)<(s.Tasks.length:Int):=by omega
       simp only[p1,p2,p3,p4,decide_true,cond_true,Bool.and_self,Int.toNat_natCast]
       congr
 · rw[decide_eq_false hk,Bool.not_false,cond_true]
   simp only[if_neg hk];cases AY s.Tasks no<;>rfl
end Go.Proofs.YtbbgaleennfklaaGreat.VR
end
section
set_option linter.unusedVariables false
set_option linter.unusedSimpArgs false
namespace Go.Proofs.YtbbgaleennfklaaGreat.VR
open Go
theorem G2(t:A8):AN (AK t)=t:=rfl
theorem PE(t:Task):HQ t=some ((AN (Ep t).1,(Ep t).2,()),()):=by
 simp only[HQ,Dw,Option.bind_some,Ep]
 by_cases h:TaskOk t
 ·rw[decide_eq_true h,if_pos h];rfl
 ·rw[decide_eq_false h,if_neg h];rfl
theorem YG(no cpu q p now:Int):LC no cpu q p now=some ((AN (Es no cpu q p now).1,(Es no cpu q p now).2,()),()):=by
 simp only[LC,Mr,Mp,PE,Option.bind_some,Es,G2]
 by_cases h1:0≤now∧now≤100000
 · by_cases h2:Av ⟨q,p⟩
   · have e:w64 (now+p)=now+p:=by
      have h3:1≤p∧p≤40:=h2.1;exact AO (by omega) (by omega)
     rw[decide_eq_true h1,decide_eq_true h2,if_pos ⟨h1,h2⟩,e];rfl
   ·rw[decide_eq_true h1,decide_eq_false h2,if_neg (fun h=>h2 h.2)];rfl
 ·rw[decide_eq_false h1,if_neg (fun h=>h1 h.1)];rfl
theorem YI(no cpu prio round seq:Int):LE no cpu prio round seq=some ((AN (Eu no cpu prio round seq).1,(Eu no cpu prio round seq).2,()),()):=by
 simp only[LE,PE,Option.bind_some,Eu,G2]
theorem YH(no cpu nice v:Int):LD no cpu nice v=some ((AN (Et no cpu nice v).1,(Et no cpu nice v).2,()),()):=by
 simp only[LD,PE,Option.bind_some,Et,G2]
theorem Yh{s:Sys}{c:Call}(hb:s.Floors.length≤lim)(hs:0≤s.Seq∧s.Seq≤1000000):Lb s c=some ((AN (CH s c).1,(CH s c).2,()),()):=by
 have e:w64 (s.Seq+1)=s.Seq+1:=AO (by omega) (by omega)
 simp only[Lb,YG,YI,YH,R6 hb,Option.bind_some,G2,BA,CH,e]
 by_cases h1:c.Kind=1
 ·rw[if_pos h1,if_pos h1]
 · rw[if_neg h1,if_neg h1]
   by_cases h2:c.Kind=2
   ·rw[if_pos h2,if_pos h2]
   ·rw[if_neg h2,if_neg h2]
theorem TG{β:Type}(q:β→Bool)(t:β): ∀xs:List β,(match xs.findIdx? fun y=> !q y with|some i=>xs.take i++t::xs.drop i|none=>xs++[t])=xs.takeWhile q++t::xs.dropWhile q
 | []=>rfl
 |x::xs=>by
  have ih:=TG q t xs;rw[List.findIdx?_cons];cases hq:q x with
  |false=>simp[hq]
  |true=>
   simp only[Bool.not_true,Bool.false_eq_true,if_false,List.takeWhile_cons,hq,if_true,List.dropWhile_cons,List.cons_append];rw[←ih];cases xs.findIdx? fun y=> !q y<;>rfl
theorem Yq{ts:List Task}{t:Task}{i:Nat}(h:i≤ts.length)(hb:ts.length+1≤lim):FK ts (i:Int) [t]=some (ts.take i++t::ts.drop i,()):=by
 unfold FK;rw[decide_eq_true (show(0:Int)≤(i:Int) by omega),decide_eq_true (show(i:Int)≤(ts.length:Int) by omega),decide_eq_true (show ts.length+[t].length≤lim by simpa using hb)]
 simp
theorem Mv(ts:List Task)(t:Task):(insT ts t).length=ts.length+1:=by
 unfold insT;have:=congrArg List.length (List.takeWhile_append_dropWhile (p:=fun x:Task=>decide (x.No<t.No)) (l:=ts))
 simp only[List.length_append,List.length_cons]at this⊢;omega
theorem YU{ts:List Task}{t:Task}{n:Nat}(hn:ts.length+1<n)(hb:ts.length+1≤lim):
 LT n ts t=some (if TasksOk ts then(if TasksOk (insT ts t)then(insT ts t,true,())else(ts,false,()))else([],false,()),()):=by
 unfold LT;rw[J9 (by omega) (by omega)]
 simp only[Option.bind_some]
 by_cases h: ¬TasksOk ts
 ·rw[decide_eq_false h,if_neg h];rfl
 have h:TasksOk ts:=Decidable.not_not.1 h;rw[decide_eq_true h,if_pos h];simp only[Bool.not_true,cond_false];have key: ∀i:Nat,i≤ts.length→ts.take i++t::ts.drop i=insT ts t→((CE ts).bind fun r7=>
  (FK r7.1 (i:Int) ([t]:List Task)).bind fun r8=>
  (C4 n r8.1).bind fun r9=>
  cond (!r9.1)
   ((CE ts).bind fun r10=>
    some ((r10.1,false,()),()))
   (some ((r8.1,true,()),())))=some (if TasksOk (insT ts t)then(insT ts t,true,())else(ts,false,()),()):=by
  intro i hi e;have hl:=Mv ts t;rw[Ks (show ts.length≤lim by omega)]
  simp only[Option.bind_some,Yq hi hb,e,J9 (ts:=insT ts t) (n:=n) (by omega) (by omega)]
  by_cases h2:TasksOk (insT ts t)
  ·rw[decide_eq_true h2,if_pos h2];rfl
  ·rw[decide_eq_false h2,if_neg h2];rfl
 have hp:=TG (fun x:Task=>decide (x.No<t.No)) t ts
 have hf:=CT (l:=fun m i=>Hl n m ts t i (fun w6=>(CE ts).bind fun r7=>
  (FK r7.1 w6 ([t]:List Task)).bind fun r8=>
  (C4 n r8.1).bind fun r9=>
  cond (!r9.1)
   ((CE ts).bind fun r10=>
    some ((r10.1,false,()),()))
   (some ((r8.1,true,()),())))) (xs:=ts) (p:=fun x=> !decide (x.No<t.No)) (k0:=fun w6=>(CE ts).bind fun r7=>
  (FK r7.1 w6 ([t]:List Task)).bind fun r8=>
  (C4 n r8.1).bind fun r9=>
  cond (!r9.1)
   ((CE ts).bind fun r10=>
    some ((r10.1,false,()),()))
   (some ((r8.1,true,()),()))) (k1:=(CE ts).bind fun r7=>
  (FK r7.1 (ts.length:Int) ([t]:List Task)).bind fun r8=>
  (C4 n r8.1).bind fun r9=>
  cond (!r9.1)
   ((CE ts).bind fun r10=>
    some ((r10.1,false,()),()))
   (some ((r8.1,true,()),())))
  (fun m=>by simp only[Hl,AP,cond_false])
  (fun m i hi=>by simp only[Hl,AD hi,AF,Bool.and_self,cond_true,AE hi,AG (Nat.lt_trans hi (AQ (show ts.length≤lim by omega))),CP]) (m:=n) (by omega)
 refine hf.trans ?_;cases e:ts.findIdx? fun x=> !decide (x.No<t.No)with
 |some i=>
  rw[e]at hp;have hi:i<ts.length:=by
   rw[List.findIdx?_eq_some_iff_getElem]at e;exact e.1
  exact key i (by omega) hp
 |none=>
  rw[e]at hp;refine key ts.length (Nat.le_refl _) ?_;rw[List.take_length,List.drop_length];exact hp
end Go.Proofs.YtbbgaleennfklaaGreat.VR
end
section
set_option linter.unusedVariables false
set_option linter.unusedSimpArgs false
namespace Go.Proofs.YtbbgaleennfklaaGreat.VR
open Go
theorem SysB.lbnd{s:Sys}{n:Nat}(h:SysB s)(hn:SN n):s.Tasks.length+1<n∧s.Tasks.length+1≤lim∧s.Floors.length≤lim∧s.Ghosts.length+1≤lim∧s.Locks.length≤lim:=by
 have q1:=h.small.tasks;have q2:=h.small.floors;have q3:=h.small.ghosts;have q4:=h.small.locks;have:=DQ;unfold SN at hn;omega
theorem SN.k{n:Nat}(hn:SN n):1000<n∧1000≤lim:=⟨by unfold SN GN at hn;omega,by unfold lim;omega⟩
theorem Yg{s:Sys}{c:Call}{n:Nat}(h:SysB s)(hs:SysOk s)(hn:SN n):JM n s c=some ((DC s c).2,AA (DC s c).1,()):=by
 obtain⟨b1,b2,b3,b4,b5⟩:=h.lbnd hn;have hg:=hs.ghosts.1;have ht:=hs.tasks.len;have hsl:=NW s c.Cpu;obtain⟨n1,n2⟩:=hn.k;have e:w64 (s.Seq+1)=s.Seq+1:=by have:=hs.seq;exact AO (by omega) (by omega)
 unfold JM DC;rw[Yh b3 hs.seq];simp only[Option.bind_some,BA]
 by_cases h1:s.Cpus≤c.Cpu
 ·rw[if_pos h1,if_pos (.inl h1)]
 rw[if_neg h1];cases h2:(CH s c).2 with
 |false=>rw[if_pos (.inr rfl)];rfl
 |true=>
  rw[if_neg (by rintro(q|q);exact h1 q;cases q)]
  simp only[Bool.not_true,cond_false,Dv (ts:=s.Tasks) (no:=c.No) (n:=n) (by omega) (by omega),Option.bind_some]
  have eg:=FP (AY s.Tasks c.No)
  by_cases h3:(AY s.Tasks c.No).isSome=true
  ·rw[if_pos h3,if_pos (of_decide_eq_true (eg.trans h3))]
  rw[if_neg h3,if_neg (fun q=>h3 (eg.symm.trans (decide_eq_true q)))]
  rw[dnTask_up,YU b1 b2,if_pos hs.tasks];simp only[Option.bind_some]
  by_cases h4: ¬TasksOk (insT s.Tasks (CH s c).1)
  ·rw[if_pos h4,if_neg h4];rfl
  have h4':=Decidable.not_not.1 h4;rw[if_neg h4,if_pos h4'];simp only[Bool.not_true,cond_false]
  by_cases k1:c.Kind=1
  · have k2: ¬c.Kind=2:=by omega
    rw[if_pos k1,YL (by omega) (by omega)]
    simp only[Option.bind_some];rw[if_pos (show(BH s c.Cpu).length+[(⟨c.A,c.B⟩:Share)].length≤lim by simp only[List.length_cons,List.length_nil];omega)]
    rw[R5 (by simp only[List.length_append,List.length_cons,List.length_nil];unfold SN at hn;have:100≤big:=by unfold big;omega
              omega) (by simp only[List.length_append,List.length_cons,List.length_nil];omega)]
    simp only[Option.bind_some];cases h5:Bn (BH s c.Cpu++[⟨c.A,c.B⟩])with
    |false=>simp[k1]
    |true=>simp[k1]
  · by_cases k2:c.Kind=2
    ·by_cases h5:900000<s.Seq<;>simp[k2,h5,e]
    ·simp[k1,k2]
theorem R7{ls:List Lock}{no:Int}{n:Nat}(hn:ls.length<n)(hb:ls.length≤lim):GE n ls no=some (EE ls no,()):=by
 have e1:L4 n ls no=some (idx (ls.findIdx? fun k=>decide (k.Owner=no)),()):=by
  unfold L4;have:=CT (l:=fun m i=>IB n m ls no (ls.length:Int) i (fun w6=>some (w6,())) (some (-1,()))) (xs:=ls) (p:=fun k=>decide (k.Owner=no)) (k0:=fun w6=>some (w6,())) (k1:=some (-1,()))
   (fun m=>by simp only[IB,AP,cond_false])
   (fun m i hi=>by simp only[IB,OL,Option.bind_some,AD hi,AF,Bool.and_self,cond_true,AE hi,AG (Nat.lt_trans hi (AQ hb))]) (m:=n) hn
  exact this.trans (RY ls _)
 unfold GE Of EE;rw[e1,RD]
 by_cases h:no=0<;>simp[h]
theorem OF{β:Type}: ∀(xs:List β) (i:Nat),xs.take i++xs.drop (i+1)=xs.eraseIdx i
 | [],i=>by simp
 |x::xs,0=>by simp
 |x::xs,i+1=>by simp[OF xs i]
theorem XE{ts:List Task}{i:Nat}(h:i<ts.length)(hb:ts.length≤lim):FJ ts (i:Int) (w64 ((i:Int)+1))=some (ts.eraseIdx i,()):=by
 rw[AG (Nat.lt_trans h (AQ hb))];unfold FJ;rw[decide_eq_true (show(0:Int)≤(i:Int) by omega),decide_eq_true (show(i:Int)≤((i+1:Nat):Int) by omega),decide_eq_true (show((i+1:Nat):Int)≤(ts.length:Int) by omega)]
 simp only[Bool.and_self,cond_true,Int.toNat_natCast,OF]
theorem XD{ts:List Int}{i:Nat}(h:i<ts.length)(hb:ts.length≤lim):Jp ts (i:Int) (w64 ((i:Int)+1))=some (ts.eraseIdx i,()):=by
 rw[AG (Nat.lt_trans h (AQ hb))];unfold Jp;rw[decide_eq_true (show(0:Int)≤(i:Int) by omega),decide_eq_true (show(i:Int)≤((i+1:Nat):Int) by omega),decide_eq_true (show((i+1:Nat):Int)≤(ts.length:Int) by omega)]
 simp only[Bool.and_self,cond_true,Int.toNat_natCast,OF]
theorem SysB.lk{s:Sys}{n:Nat}(h:SysB s)(hn:SN n):LSmall big s.Locks∧big<n∧big≤lim:=by
 have:=h.small;have:=BM;exact⟨⟨h.small.locks,h.small.waits⟩,by unfold SN at hn;omega,this⟩
theorem F3(ls:List Lock)(no:Int):(0≤idx (Bf ls no))↔waits ls no=true:=by
 have:=FP (Bf ls no);unfold waits;rw[←this,decide_eq_true_eq]
theorem YZ{s:Sys}{i n:Nat}(h:SysB s)(hs:SysOk s)(hn:SN n)(hi:i<s.Tasks.length):LQ n s (i:Int)=some ((DS s i s.Tasks[i]).2,AA (DS s i s.Tasks[i]).1,()):=by
 obtain⟨b1,b2,b3,b4,b5⟩:=h.lbnd hn;obtain⟨c1,c2,c3⟩:=h.lk hn;have hg:=hs.ghosts.1;have hL:s.Locks.length<n:=by have:=h.small.locks;omega
 unfold LQ DS;simp only[AD hi,AF,Bool.and_self,cond_true,AE hi,R7 hL b5,Dx c1 c2 c3,Option.bind_some,XE hi (show s.Tasks.length≤lim by omega)]
 have w:=F3 s.Locks s.Tasks[i].No;cases ho:EE s.Locks s.Tasks[i].No with
 |true=>simp
 |false=>
  cases hw:waits s.Locks s.Tasks[i].No with
  |true=>rw[hw]at w;simp[w]
  |false=>
   rw[hw]at w;have w': ¬(0≤idx (Bf s.Locks s.Tasks[i].No)):=fun q=>by have:=w.1 q;cases this
   by_cases k1:s.Tasks[i].Class=1
   · by_cases k2:s.Now<s.Tasks[i].Due
     · by_cases k3:12≤s.Ghosts.length
       · have k4:12≤(s.Ghosts.length:Int):=by omega
         rw[decide_eq_false w',decide_eq_true k1,decide_eq_true k2,decide_eq_true k4];simp[k1,k2,k3]
       · have k4: ¬(12≤(s.Ghosts.length:Int)):=by omega
         simp[w',k1,k2,k3,k4,b4]
     ·simp[w',k1,k2]
   ·simp[w',k1]
end Go.Proofs.YtbbgaleennfklaaGreat.VR
end
section
set_option linter.unusedVariables false
set_option linter.unusedSimpArgs false
namespace Go.Proofs.YtbbgaleennfklaaGreat.VR
open Go
theorem Before.trans{a b c:Task}(h:Before a b)(h':Before b c):Before a c:=by
 refine⟨h.l,h'.r,?_⟩;have h1:=h.lt;have h2:=h'.lt;rcases h.l.class with k1|k1|k1<;>rcases h'.r.class with k3|k3|k3<;>rcases h.r.class with k2|k2|k2<;>rw[k1,k2]at h1<;>rw[k2,k3]at h2<;>rw[k1,k3]<;>omega
theorem Before.irrefl{a:Task}(h:Before a a):False:=by
 have h1:=h.lt;omega
theorem Before.total{a b:Task}(ha:TaskOk a)(hb:TaskOk b)(h:a.No≠b.No):Before a b∨Before b a:=by
 by_cases q:Before a b
 ·exact .inl q
 · refine .inr ⟨hb,ha,?_⟩
   rw[E9]at q;have q1:=not_and.1 (not_and.1 q ha) hb;rcases ha.class with k1|k1|k1<;>rcases hb.class with k2|k2|k2<;>rw[k1,k2]at q1<;>rw[k1,k2]<;>omega
def Nl(S:Task→Prop):Prop:= ∀u v,S u→S v→TaskOk u∧TaskOk v∧(u=v∨u.No≠v.No)
theorem nw{ts:List Task}(h:TasksOk ts):Nl (· ∈ts):=by
 intro u v hu hv;refine⟨h.each u hu,h.each v hv,?_⟩;obtain⟨i,hi,e1,e2⟩:=EY h hu;obtain⟨j,hj,e3,e4⟩:=EY h hv
 by_cases q:u.No=v.No
 · rw[q,e4]at e2
   injection e2 with e2
   subst e2;exact .inl (e1.symm.trans e3)
 ·exact .inr q
theorem I4{S:Task→Prop}(hS:Nl S): ∀(l:List Task) (b:Option Task) (t:Task),(∀u∈l,S u)→(∀x,b=some x→S x)→l.foldl BQ b=some t→S t∧(∀u∈l,¬Before u t)∧ ∀x,b=some x→ ¬Before x t
 | [],b,t,_,hb,h=>by
   simp only[List.foldl_nil]at h;refine⟨hb t h,fun u hu=>(by cases hu),fun x hx=> ?_⟩
   rw[h]at hx;injection hx with hx
   subst hx;exact Before.irrefl
 |u::l,b,t,hl,hb,h=>by
  have hu0:=hl u (List.mem_cons_self ..);have hl':=fun v hv=>hl v (List.mem_cons_of_mem _ hv)
  have hu:S t∧(∀v∈l,¬Before v t)∧ ¬Before u t∧ ∀x,b=some x→ ¬Before x t:=by
   cases b with
   |none=>
    obtain⟨h0,h1,h2⟩:=I4 hS l (some u) t hl' (fun x hx=>by injection hx with hx;subst hx;exact hu0) h
    exact⟨h0,h1,h2 u rfl,fun x hx=>by cases hx⟩
   |some x=>
    have hx0:=hb x rfl;rw[List.foldl_cons]at h;unfold BQ at h;simp only at h
    by_cases q:Before u x
    · rw[if_pos q]at h
      obtain⟨h0,h1,h2⟩:=I4 hS l (some u) t hl' (fun x hx=>by injection hx with hx;subst hx;exact hu0) h
      have h3:=h2 u rfl;exact⟨h0,h1,h3,fun y hy hb=>by injection hy with hy;subst hy;exact h3 (q.trans hb)⟩
    · rw[if_neg q]at h
      obtain⟨h0,h1,h2⟩:=I4 hS l (some x) t hl' (fun y hy=>by injection hy with hy;subst hy;exact hx0) h
      have h3:=h2 x rfl;refine⟨h0,h1,fun hb=> ?_,fun y hy=>by injection hy with hy;subst hy;exact h3⟩
      obtain⟨g1,g2,g3⟩:=hS x u hx0 hu0;rcases g3 with rfl|g3
      ·exact h3 hb
      · rcases Before.total g1 g2 g3 with g4|g4
        ·exact h3 (g4.trans hb)
        ·exact q g4
  exact⟨hu.1,fun v hv=>by
   rcases List.mem_cons.1 hv with rfl|hv
   ·exact hu.2.2.1
   ·exact hu.2.1 v hv,hu.2.2.2⟩
theorem Qz{l:List Task}(h:l≠ []): ∃t,Ai l=some t:=by
 cases e:Ai l with
 |none=>exact absurd (Q0 e) h
 |some t=>exact⟨t,rfl⟩
theorem Km{l:List Task}{t:Task}(h:Ai l=some t):t∈l:=by
 rcases FA l none t h with h|h
 ·exact h
 ·cases h
theorem WZ{S:Task→Prop}(hS:Nl S){l l':List Task}(hl: ∀u∈l,S u)(h: ∀u,u∈l↔u∈l'):Ai l=Ai l':=by
 have hl': ∀u∈l',S u:=fun u hu=>hl u ((h u).2 hu)
 cases e:Ai l with
 |none=>
  have e1:=Q0 e;subst e1;have:l'=[]:=by
   cases l' with
   |nil=>rfl
   |cons x r=>exact absurd ((h x).2 (List.mem_cons_self ..)) (by simp)
  rw[this];rfl
 |some t=>
  have ht:=Km e;have hne:l'≠ []:=fun q=>by have:=(h t).1 ht;rw[q]at this;cases this
  obtain⟨t',e'⟩:=Qz hne;have ht':=Km e';obtain⟨a1,a2,_⟩:=I4 hS l none t hl (fun x hx=>by cases hx) e
  obtain⟨b1,b2,_⟩:=I4 hS l' none t' hl' (fun x hx=>by cases hx) e'
  obtain⟨c1,c2,c3⟩:=hS t t' a1 b1;rcases c3 with rfl|c3
  ·exact e'.symm
  · rcases Before.total c1 c2 c3 with c4|c4
    ·exact absurd c4 (b2 t ((h t).1 ht))
    ·exact absurd c4 (a2 t' ((h t').2 ht'))
def Dt(ts:List Task)(l:List Int):List Task:=l.filterMap fun y=>(AY ts y).map fun i=>ts.getD i (Kd.dflt .task)
theorem Ri(ts:List Task)(l:List Int):(Dt ts l).length≤l.length:=List.length_filterMap_le _ _
theorem Xg{ts:List Task}{l:List Int}{i:Nat}(hi:i<l.length):Dt ts (l.take (i+1))=Dt ts (l.take i)++(match AY ts l[i]with|some j=>[ts.getD j (Kd.dflt .task)]|none=>[]):=by
 unfold Dt;rw[List.take_succ_eq_append_getElem hi,List.filterMap_append]
 congr 1
 simp only[List.filterMap_cons,List.filterMap_nil];cases AY ts l[i]<;>rfl
theorem O1{ts:List Task}(h:TasksOk ts){l:List Int}{t:Task}:t∈Dt ts l↔t∈ts.filter fun t=>decide (t.No∈l):=by
 unfold Dt;simp only[List.mem_filterMap,List.mem_filter,decide_eq_true_eq,Option.map_eq_some_iff];constructor
 · rintro⟨y,hy,j,hj,rfl⟩
   obtain⟨hlt,hno⟩:=B5 hj;rw[Ab hlt];exact⟨List.getElem_mem _,by rw[hno];exact hy⟩
 · rintro⟨ht,hno⟩
   obtain⟨j,hj,rfl,e⟩:=EY h ht;exact⟨_,hno,j,e,Ab hj _⟩
theorem Wa{ts:List Task}(h:TasksOk ts)(l:List Int):Ai (Dt ts l)=Ai (ts.filter fun t=>decide (t.No∈l)):=
 WZ (nw h) (fun u hu=>(List.mem_filter.1 ((O1 h).1 hu)).1) fun u=>O1 h
theorem RN{x:Int}: ∀(xs:List Int) (j:Nat),xs.Nodup→xs[j]? =some x→xs.eraseIdx j=xs.filter fun y=>decide (y≠x)
 | [],j,_,h=>by simp at h
 |y::ys,0,hn,h=>by
  simp only[List.getElem?_cons_zero,Option.some.injEq]at h;subst h;have h1:=(List.nodup_cons.1 hn).1;simp only[List.eraseIdx_cons_zero,List.filter_cons,ne_eq,not_true_eq_false,decide_false,Bool.false_eq_true,if_false];refine(List.filter_eq_self.2 fun z hz=> ?_).symm
  exact decide_eq_true (fun e=>h1 (by rw[←e];exact hz))
 |y::ys,j+1,hn,h=>by
  simp only[List.getElem?_cons_succ]at h;have hn':=List.nodup_cons.1 hn;have hyx:y≠x:=fun e=>hn'.1 (by rw[e];exact List.mem_of_getElem? h)
  simp only[List.eraseIdx_cons_succ,List.filter_cons,ne_eq,hyx,not_false_eq_true,decide_true,if_true,RN ys j hn'.2 h]
theorem ot{l:List Lock}{i:Nat}(h:i<l.length):(l[i].Waits).Sublist (AT l):=by
 unfold AT
 induction l generalizing i with
 |nil=>simp at h
 |cons k l ih=>
  cases i with
  |zero=>simp
  |succ i=>simp only[List.getElem_cons_succ,List.flatMap_cons];exact(ih (by simpa using h)).trans (List.sublist_append_right _ _)
theorem Qy{ts:List Task}{l:List Int}(h:TasksOk ts)(hl: ∀y∈l,(AY ts y).isSome=true):(l=[]∧Dj ts l=0)∨Dj ts l∈l:=by
 unfold Dj;rw[if_pos h];cases l with
 |nil=>
  refine .inl ⟨rfl,?_⟩;have:(ts.filter fun t=>decide (t.No∈([]:List Int)))=[]:=by simp
  rw[this];rfl
 |cons y r=>
  refine .inr ?_;obtain⟨i,hi⟩:=Option.isSome_iff_exists.1 (hl y (List.mem_cons_self ..));obtain⟨hlt,hno⟩:=B5 hi;have hm:ts[i]∈ts.filter fun t=>decide (t.No∈y::r):=List.mem_filter.2 ⟨List.getElem_mem _,by simp[hno]⟩
  obtain⟨t,ht⟩:=Qz (l:=ts.filter fun t=>decide (t.No∈y::r)) (fun e=>by rw[e]at hm;cases hm)
  have:=Km ht;rw[ht];exact of_decide_eq_true (List.mem_filter.1 this).2
theorem Sg{ts:List Task}{k:Lock}(h:De ts k=true)(h0:k.Owner=0→k.Waits=[]): ∀y∈k.Waits,(AY ts y).isSome=true:=by
 intro y hy;unfold De at h;rw[Bool.or_eq_true]at h;rcases h with h|h
 · have:=h0 (of_decide_eq_true h)
   rw[this]at hy;cases hy
 · rw[Bool.and_eq_true]at h
   have:=List.all_eq_true.1 h.2 y hy;rw[Bool.and_eq_true]at this;exact this.1
end Go.Proofs.YtbbgaleennfklaaGreat.VR
end
section
set_option linter.unusedVariables false
set_option linter.unusedSimpArgs false
namespace Go.Proofs.YtbbgaleennfklaaGreat.VR
open Go
theorem Xu{ts:List Task}{l:List Int}{n:Nat}(hn:l.length<n)(hb:l.length≤lim)(hn2:ts.length<n)(hb2:ts.length≤lim):K2 n ts l=some (Dj ts l,()):=by
 unfold K2 Dj;rw[J9 hn2 hb2];simp only[Option.bind_some]
 by_cases h: ¬TasksOk ts
 ·rw[decide_eq_false h,if_neg h];rfl
 have h:TasksOk ts:=Decidable.not_not.1 h;rw[decide_eq_true h,if_pos h];simp only[Bool.not_true,cond_false];have hf:=AU (l:=fun m i=>Gd n m ts (Dt ts (l.take i)) l (l.length:Int) (i:Int) (fun w9=>(GF n w9).bind fun r10=>some (r10.1,()))) (len:=l.length) (r:=(GF n (Dt ts l)).bind fun r10=>some (r10.1,())) (fun _=>True) trivial
  (fun m _=>by simp only[Gd,AP,cond_false,List.take_length])
  (fun m i hi _=>.inl ⟨by
    have hil:=Nat.lt_trans hi (AQ hb);have hfl:=Ri ts (l.take i);rw[List.length_take]at hfl;simp only[Gd,AD hi,AF,Bool.and_self,cond_true,AE hi,Dv hn2 hb2,Option.bind_some,FP,AG hil,Xg hi];cases e:AY ts l[i]with
    |none=>simp
    |some j=>
     obtain⟨hj,_⟩:=B5 e;simp only[idx,Option.isSome_some,cond_true,AD hj,AF,Bool.and_self,Int.toNat_natCast];rw[BV (show(Dt ts (l.take i)).length<l.length by omega) hb]
     simp[hj],trivial⟩) (m:=n) hn
 refine hf.trans ?_;have hfl:=Ri ts l;rw[PB (by omega) (by omega) (fun t ht=>h.each t (List.mem_filter.1 ((O1 h).1 ht)).1),Wa h]
 rfl
theorem Xw{ls:List Lock}{no:Int}{B n:Nat}(hl:LBound B ls)(hn:B+2<n)(hb:B+2≤lim):K4 n ls no=some (if LocksOk ls then(match Ay ls no with|some c=>no::c|none=>[])else[],()):=by
 unfold K4;rw[J8 hl hn hb];simp only[Option.bind_some]
 by_cases h:LocksOk ls
 · rw[decide_eq_true h,if_pos h,O9 hl.small (by omega) (by omega)]
   cases Ay ls no<;>rfl
 ·rw[decide_eq_false h,if_neg h];rfl
theorem Mu{a:Int}{i m:Nat}(e:a=(i:Int))(hi:i<m)(hb:m≤lim):decide (0≤a∧a≤w64 ((m:Int)-1))=true:=by
 have:w64 ((m:Int)-1)=(m:Int)-1:=AO (by omega) (by unfold lim at hb;omega)
 rw[this];exact decide_eq_true (by omega)
theorem YF{ls:List Lock}{i:Nat}{no next:Int}{B n:Nat}(hl:LBound B ls)(hn:B+2<n)(hb:B+2≤lim)(h:LocksOk ls)(hi:i<ls.length)(h0:no≠0)(ho:ls[i].Owner=no)
 (hx:(ls[i].Waits=[]∧next=0)∨next∈ls[i].Waits):LB n ls (i:Int) no next=some ((Ha ls i next,true,()),()):=by
 have hs:=hl.small;have hll:=hl.len;have hw: ∀k∈ls,k.Waits.length≤lim:=fun k hk=>by have:=hs.waits k hk;omega
 have hwi:=hs.waits _ (List.getElem_mem hi);have hnd:ls[i].Waits.Nodup:=h.nodup.sublist (ot hi);unfold LB Ha;rw[J8 hl hn hb,decide_eq_true h];simp only[Option.bind_some,Bool.not_true,cond_false,PA (ls:=ls) (n:=n) (by omega) (by omega) hw,BS,Mu rfl hi (show ls.length≤lim by omega),decide_eq_false h0,AD hi,AF,Bool.and_self,cond_true,AE hi,Ab hi,ho,decide_true,
  U2 (xs:=ls[i].Waits) (x:=next) (n:=n) (by omega) (by omega)]
 rcases hx with⟨e1,rfl⟩|hx
 · rw[e1]
   simp[hi,idx]
 · cases e:ls[i].Waits.findIdx? fun y=>decide (next=y)with
   |none=>
    rw[List.findIdx?_eq_none_iff]at e;have:=e next hx
    simp at this
   |some j=>
    rw[List.findIdx?_eq_some_iff_getElem]at e;obtain⟨hj,e1,_⟩:=e;have e1:next=ls[i].Waits[j]:=of_decide_eq_true e1
    have he:=RN (x:=next) ls[i].Waits j hnd (by rw[List.getElem?_eq_getElem hj,←e1])
    have hd:=XD hj (show ls[i].Waits.length≤lim by omega)
    have hlen:i<(ls.set i ⟨next,ls[i].Waits⟩).length:=by rw[List.length_set];exact hi
    simp only[Cq,FP,Option.isNone_some,Option.isSome_some,cond_false,cond_true];simp only[idx,cond_false,AF,cond_true,Int.toNat_natCast,decide_eq_true hi,List.length_set,AD hi,Bool.and_self,Ab hlen,AE hlen,List.getElem_set_self,hd,Option.bind_some,decide_true,Bool.and_true,List.set_set,he]
theorem YE{ls:List Lock}{i:Nat}{no:Int}{B n:Nat}(hl:LBound B ls)(hn:B+2<n)(hb:B+2≤lim)(h:LocksOk ls)(hi:i<ls.length)(h0:1≤no∧no≤1000)(ho:ls[i].Owner≠no)(hw0:Bf ls no=none):
 K9 n ls (i:Int) no=some (((DP ls i no).1,(if(DP ls i no).2 then(if ls[i].Owner=0 then 0 else 1)else 4),()),()):=by
 have hs:=hl.small;have hll:=hl.len;have hw: ∀k∈ls,k.Waits.length≤lim:=fun k hk=>by have:=hs.waits k hk;omega
 have hwi:=hs.waits _ (List.getElem_mem hi);have hwi2:=hl.all;have hwl:=F4 (List.getElem_mem hi);unfold K9 DP;rw[J8 hl hn hb,decide_eq_true h];have hc:=Xw (ls:=ls) (no:=ls[i].Owner) hl hn hb;rw[if_pos h]at hc;obtain⟨c,ec⟩:=I6 h ls[i].Owner;rw[ec]at hc;have hcl:=GB ec;simp only[Option.bind_some,Bool.not_true,cond_false,PA (ls:=ls) (n:=n) (by omega) (by omega) hw,BS,KA,Mu rfl hi (show ls.length≤lim by omega),decide_eq_true h0,AD hi,AF,Bool.and_self,cond_true,AE hi,Ab hi,
  Dx hs (show B<n by omega) (show B≤lim by omega),hw0,idx,decide_eq_false ho,hc,ec,Ir (xs:=ls[i].Owner::c) (x:=no) (n:=n) (by simp;omega) (by simp;omega)]
 rw[show decide ((0:Int)≤ -1)=false from rfl]
 simp only[cond_false]
 by_cases hz:ls[i].Owner=0
 ·simp[hz,hi]
 · rw[decide_eq_false hz]
   by_cases hm:no∈ls[i].Owner::c
   ·simp[hz,hm]
   · have ha:decide (ls[i].Waits.length+[no].length≤lim)=true:=decide_eq_true (by simp only[List.length_cons,List.length_nil];omega)
     rw[decide_eq_false hm,ha];simp[hz,hm,hi]
end Go.Proofs.YtbbgaleennfklaaGreat.VR
end
section
set_option linter.unusedVariables false
set_option linter.unusedSimpArgs false
namespace Go.Proofs.YtbbgaleennfklaaGreat.VR
open Go
theorem V7{l:List Lock}(h:LocksOk l):(AT l).length≤1000:=by
 have:=M5 (L:=(List.range 1000).map fun(i:Nat)=>(i:Int)+1) h.nodup (fun x hx=>by
  have:=h.nos x hx;rw[List.mem_map];exact⟨(x-1).toNat,List.mem_range.2 (by omega),by omega⟩)
 simpa using this
theorem VV{s:Sys}(h:SysOk s):SysB s:=by
 have h1:=h.tasks.len;have h2:=h.locks.1;have h3:=V7 h.locks.2.1;have h4:=h.ghosts.1;have h5:=h.flen;have h6:=h.cpus;have h7:=h.trace;have hb:(1000:Nat)≤big:=by unfold big;omega
 exact⟨⟨by omega,⟨by omega,by omega⟩⟩,⟨by omega,by omega,fun k hk=>by have:=F4 hk;omega,by omega,by omega,by omega⟩⟩
theorem KeepsL.shares{a b:List Task}(h:KeepsL a b)(cpu:Int):BC b cpu=BC a cpu:=by
 unfold BC
 induction h with
 |nil=>rfl
 |cons h1 _ ih=>
  rw[List.filter_cons,List.filter_cons,h1.cpu,h1.cls];split
  ·simp only[List.map_cons,ih,h1.share.1,h1.share.2]
  ·exact ih
theorem KeepsL.lockOn{a b:List Task}(h:KeepsL a b)(k:Lock):De b k=De a k:=by
 unfold VR.De;rw[h.taskIdx,(h.taskOf k.Owner).cpu]
 congr 2
 refine List.all_congr rfl fun y=> ?_
 rw[h.taskIdx,(h.taskOf y).cpu]
theorem RK: ∀(l:List Task) (o:Option (Int×Int)),(∀t∈l,TaskOk t)→(∀a b,o=some (a,b)→(0≤a∧a≤100000000)∧0≤b∧b≤100000000)→ ∀a b,l.foldl DR o=some (a,b)→(0≤a∧a≤100000000)∧0≤b∧b≤100000000
 | [],o,_,h0,a,b,h=>h0 a b h
 |t::l,o,hl,h0,a,b,h=>by
  refine RK l (DR o t) (fun x hx=>hl x (List.mem_cons_of_mem _ hx)) (fun a b e=> ?_) a b h
  unfold DR at e;split at e
  · rename_i hf
    rw[FR]at hf;have hv:=(hf.1.fair hf.2).v;cases o with
    |none=>simp only[Option.some.injEq,Prod.mk.injEq]at e;omega
    |some p=>
     obtain⟨x,y⟩:=p;have:=h0 x y rfl;simp only[Option.some.injEq,Prod.mk.injEq]at e;omega
  ·exact h0 a b e
theorem Xa{l:List Task}{f:Int}(hl: ∀t∈l,TaskOk t)(hf:0≤f∧f≤100000000):f≤Cm l f∧0≤Cm l f∧Cm l f≤100000000:=by
 unfold Cm;cases e:BW l with
 |none=>exact⟨Int.le_refl _,hf⟩
 |some p=>
  obtain⟨a,b⟩:=p;have:=RK l none hl (fun _ _ h=>by cases h) a b e
  simp only;omega
theorem ZU{now m:Int}(t:Task)(h:0≤m∧m≤100000):0≤CB now m t∧CB now m t≤100000:=by
 unfold CB;split<;>omega
theorem So{now:Int}: ∀(l:List Task) (m:Int),0≤m∧m≤100000→0≤l.foldl (CB now) m∧l.foldl (CB now) m≤100000
 | [],_,h=>h
 |t::l,m,h=>So l _ (ZU t h)
theorem QU{s:Sys}(h:SysOk s)(hc:BR s):SysOk (DL s):=by
 have hnow:s.Now<100000:=by have:=h.now;have:=hc.1;omega
 have hk:=V0 hnow h.tasks;have hcp:=h.cpus;have hcn:s.Cpus.toNat=s.Cpus:=by omega
 have hw:=(Ng (s:=s) hnow).tasksOk h.tasks;refine⟨?_,hcp,hk.tasksOk h.tasks,fun t ht=> ?_,⟨h.locks.1,h.locks.2.1,fun k hk2=> ?_⟩,⟨?_,fun g hg=> ?_⟩,fun c hcc=> ?_,?_,fun f hf=> ?_,?_,So _ _ h.missed,?_⟩
 · show 0≤s.Now+1∧s.Now+1≤100000
   have:=h.now;omega
 · obtain⟨u,hu,ku⟩:=hk.mem ht
   rw[ku.cpu];exact h.tcpu u hu
 ·rw[hk.lockOn];exact h.locks.2.2 k hk2
 ·exact Nat.le_trans (List.length_filter_le _ _) h.ghosts.1
 ·exact h.ghosts.2 g (List.mem_filter.1 hg).1
 · refine Xd ?_ (h.fits c hcc)
   unfold BH;rw[hk.shares];refine(List.Sublist.refl _).append ?_;unfold Bv;exact(((List.filter_sublist).filter _)).map _
 · show((Bo (AS s) s.Floors).length:Int)=s.Cpus
   unfold Bo;simp[h.flen]
 · have hf':f∈Bo (AS s) s.Floors:=hf
   unfold Bo at hf';obtain⟨i,hi,rfl⟩:=List.mem_map.1 hf';have hi:=List.mem_range.1 hi;rw[Ab hi];have:=Xa (l:=BF (AS s) (i:Int)) (f:=s.Floors[i]) (fun t ht=>hw.each t (List.mem_filter.1 ht).1) (h.floors _ (List.getElem_mem hi))
   exact this.2
 · show 0≤(Bq s).seq∧(Bq s).seq≤1000000
   have h1:=QZ s.Locks ⟨AS s,s.Seq,s.Trace⟩ s.Cpus.toNat;have h2:=h.seq;have h3:=hc.2.1;unfold Bq;simp only at h1;omega
 · show(Bq s).tr.length≤400
   have h1:=Nk s.Locks ⟨AS s,s.Seq,s.Trace⟩ s.Cpus.toNat;have h3:=hc.2.2;unfold Bq;simp only at h1;omega
end Go.Proofs.YtbbgaleennfklaaGreat.VR
end
section
set_option linter.unusedVariables false
set_option linter.unusedSimpArgs false
namespace Go.Proofs.YtbbgaleennfklaaGreat.VR
open Go
theorem SF{s:Sys}{c:Call}{t:Task}{n:Nat}(h:SysB s)(hs:SysOk s)(hn:SN n)(ht:t∈s.Tasks)(hk:c.Kind=7∨c.Kind=8):JL n s c t=some ((Cr s c t).2,AA (Cr s c t).1,()):=by
 obtain⟨b1,b2,b3,b4,b5⟩:=h.lbnd hn;obtain⟨c1,c2,c3⟩:=h.lk hn;have hn2:=hn.two;have hb2:=DQ;have hl5:=hs.locks.1;have hno:=(hs.tasks.each t ht).no;unfold JL Cr;rw[BS];have ew:w64 ((s.Locks.length:Int)-1)=4:=by rw[hl5];exact AO (by omega) (by omega)
 simp only[Option.bind_some,ew]
 by_cases hA: ¬(0≤c.A∧c.A≤4)
 ·rw[decide_eq_false hA,if_pos hA];rfl
 have hA':=Decidable.not_not.1 hA;rw[decide_eq_true hA',if_neg hA];obtain⟨i,hi⟩:=Int.eq_ofNat_of_zero_le hA'.1;have hil:i<s.Locks.length:=by omega
 have hm:=List.getElem_mem hil;rw[hi];simp only[Bool.not_true,cond_false,AD hil,AF,Bool.and_self,cond_true,AE hil,Ab hil,Int.toNat_natCast,Dx c1 c2 c3,Option.bind_some]
 by_cases h1:t.State=2
 ·rw[decide_eq_true h1,if_pos (.inl h1)];rfl
 rw[decide_eq_false h1];have w:=F3 s.Locks t.No;cases hw:waits s.Locks t.No with
 |true=>
  rw[hw]at w;rw[decide_eq_true (w.2 rfl),if_pos (.inr (.inl rfl))];rfl
 |false=>
  rw[hw]at w;have hwn:Bf s.Locks t.No=none:=by
   unfold waits at hw;exact Option.isNone_iff_eq_none.1 (by simpa using hw)
  rw[decide_eq_false (fun q=>by have:=w.1 q;cases this)]
  simp only[cond_false]
  by_cases k8:c.Kind=8
  · have k7: ¬c.Kind=7:=by omega
    by_cases ho:s.Locks[i].Owner=t.No
    · rw[if_neg (by rintro(q|q|q);exact h1 q;cases q;exact k7 (q.1 ho)),if_pos k8]
      have hbest:=Qy hs.tasks (Sg (hs.locks.2.2 _ hm) (hs.locks.2.1.own _ hm).2);have hwl:s.Locks[i].Waits.length≤big:=h.small.waits _ hm;simp only[decide_eq_true ho,decide_eq_true k8,beq_self_eq_true,Bool.not_true,cond_false,cond_true,Xu (ts:=s.Tasks) (l:=s.Locks[i].Waits) (n:=n) (by omega) (by omega) (by omega) (by omega),Option.bind_some,
       YF (no:=t.No) (next:=Dj s.Tasks s.Locks[i].Waits) h.tl.locks hn2 hb2 hs.locks.2.1 hil (by omega) ho (hbest.imp id id)]
    ·rw[if_pos (.inr (.inr ⟨fun q=>absurd q ho,fun q=>absurd q k7⟩)),decide_eq_false ho,decide_eq_true k8];rfl
  · have k7:c.Kind=7:=by omega
    by_cases ho:s.Locks[i].Owner=t.No
    ·rw[if_pos (.inr (.inr ⟨fun _=>k7,fun _=>ho⟩)),decide_eq_true ho,decide_eq_false k8];rfl
    · rw[if_neg (by rintro(q|q|q);exact h1 q;cases q;exact ho (q.2 k7)),if_neg k8,decide_eq_false ho,decide_eq_false k8]
      simp only[beq_self_eq_true,Bool.not_true,cond_false,YK (s:=s) (k:=(i:Int)) (no:=t.No) (n:=n) (by omega) (by omega) b5,Option.bind_some]
      cases hsc:Gx s (i:Int) t.No with
      |false=>rw[if_pos rfl];rfl
      |true=>
       rw[if_neg (by simp)]
       simp only[Bool.not_true,cond_false,YE h.tl.locks hn2 hb2 hs.locks.2.1 hil hno ho hwn,Option.bind_some];cases ha:(DP s.Locks i t.No).2 with
       |false=>simp
       |true=>
        by_cases hz:s.Locks[i].Owner=0<;>simp[hz]
theorem X0(t:Task)(cpu src to:Int):JF t cpu src to=some (AN (J0 t cpu src to),()):=by
 simp only[JF,Mq,BS,Option.bind_some,J0,CP,BA]
 by_cases h1:BN t=true
 · rw[h1]
   rw[FR]at h1;have hv:=(h1.1.fair h1.2).v;simp only[cond_true,true_and]
   by_cases h2:0≤cpu∧cpu≤3
   · by_cases h3:0≤src∧src≤100000000
     · by_cases h4:0≤to∧to≤100000000
       · have e1:w64 (t.V-src)=t.V-src:=AO (by omega) (by omega)
         have e2:(if t.V-src>0 then t.V-src else 0)=max 0 (t.V-src):=by split<;>omega
         rw[e1,e2];have hb:0≤to+max 0 (t.V-src)∧to+max 0 (t.V-src)≤300000000:=by omega
         generalize to+max 0 (t.V-src)=v at hb⊢;have e3:w64 v=v:=AO (by omega) (by omega)
         rw[e3]
         by_cases h5:100000000<v
         · have h6: ¬v≤100000000:=by omega
           simp[h2,h3,h4,h5,h6]
         · have h6:v≤100000000:=by omega
           simp[h2,h3,h4,h5,h6]
       ·simp[h2,h3,h4]
     ·simp[h2,h3]
   ·simp[h2]
 · have h1:BN t=false:=by simpa using h1
   rw[h1];simp
end Go.Proofs.YtbbgaleennfklaaGreat.VR
end
section
set_option linter.unusedVariables false
set_option linter.unusedSimpArgs false
namespace Go.Proofs.YtbbgaleennfklaaGreat.VR
open Go
theorem Ya{s:Sys}{c:Call}{i n:Nat}(h:SysB s)(hs:SysOk s)(hn:SN n)(hi:i<s.Tasks.length):LR n s c (i:Int)=some ((C5 s c i s.Tasks[i]).2,AA (C5 s c i s.Tasks[i]).1,()):=by
 obtain⟨b1,b2,b3,b4,b5⟩:=h.lbnd hn;obtain⟨c1,c2,c3⟩:=h.lk hn;have hL:s.Locks.length<n:=by have:=h.small.locks;omega
 have hcp:=hs.cpus;have ew:w64 (s.Cpus-1)=s.Cpus-1:=AO (by omega) (by omega)
 unfold LR C5;simp only[AD hi,AF,Bool.and_self,cond_true,AE hi,Ab hi,Int.toNat_natCast,decide_eq_true hi,O7,R7 hL b5,Dx c1 c2 c3,BS,R6 b3,X0,dnTask_up,ew,Option.bind_some]
 by_cases k1:s.Tasks[i].Class≠3
 ·rw[if_pos k1,decide_eq_false k1];rfl
 have k1':s.Tasks[i].Class=3:=Decidable.not_not.1 k1;rw[if_neg k1,decide_eq_true k1'];simp only[Bool.not_true,cond_false]
 by_cases k9:c.Kind=9
 · rw[decide_eq_true k9,if_pos k9]
   by_cases hN:Bz c.A<;>simp[hN]
 · rw[decide_eq_false k9,if_neg k9]
   simp only[cond_false];have w:=F3 s.Locks s.Tasks[i].No;cases ho:EE s.Locks s.Tasks[i].No with
   |true=>simp
   |false=>
    cases hw:waits s.Locks s.Tasks[i].No with
    |true=>rw[hw]at w;rw[decide_eq_true (w.2 rfl)];simp
    |false=>
     rw[hw]at w;rw[decide_eq_false (fun q=>by have:=w.1 q;cases this)]
     by_cases hc:0≤c.Cpu∧c.Cpu≤s.Cpus-1
     ·simp[hc]
     · rw[decide_eq_false hc]
       simp[hc]
theorem Yi{s:Sys}{c:Call}{i n:Nat}(h:SysB s)(hs:SysOk s)(hn:SN n)(hi:i<s.Tasks.length):JP n s c (i:Int)=some ((EI s c i s.Tasks[i]).2,AA (EI s c i s.Tasks[i]).1,()):=by
 obtain⟨b1,b2,b3,b4,b5⟩:=h.lbnd hn;obtain⟨c1,c2,c3⟩:=h.lk hn;have hm:=List.getElem_mem hi;have w:=F3 s.Locks s.Tasks[i].No;unfold JP EI;simp only[AD hi,AF,Bool.and_self,cond_true,AE hi,Ab hi,Int.toNat_natCast,decide_eq_true hi,Dx c1 c2 c3,Option.bind_some,YZ h hs hn hi,Ya (c:=c) h hs hn hi,dnSys_up]
 by_cases k4:c.Kind=4
 · rw[decide_eq_true k4,if_pos k4]
   by_cases h2:s.Tasks[i].State=2
   ·simp[h2]
   · cases hw:waits s.Locks s.Tasks[i].No with
     |true=>rw[hw]at w;rw[decide_eq_true (w.2 rfl)];simp
     |false=>
      rw[hw]at w;have w2: ¬(0≤idx (Bf s.Locks s.Tasks[i].No)):=fun q=>by have:=w.1 q;cases this
      rw[decide_eq_false h2,decide_eq_false w2];simp[h2]
 rw[decide_eq_false k4,if_neg k4];simp only[cond_false]
 by_cases k5:c.Kind=5
 · rw[decide_eq_true k5,if_pos k5]
   by_cases h2:s.Tasks[i].State=2<;>simp[h2]
 rw[decide_eq_false k5,if_neg k5];simp only[cond_false]
 by_cases k6:c.Kind=6
 ·rw[decide_eq_true k6,if_pos k6];rfl
 rw[decide_eq_false k6,if_neg k6];simp only[cond_false]
 by_cases k7:c.Kind=7
 ·rw[decide_eq_true k7,if_pos (.inl k7),SF h hs hn hm (.inl k7)];rfl
 rw[decide_eq_false k7];simp only[cond_false]
 by_cases k8:c.Kind=8
 ·rw[decide_eq_true k8,if_pos (.inr k8),SF h hs hn hm (.inr k8)];rfl
 rw[decide_eq_false k8,if_neg (by omega)];rfl
theorem V1: ∀(m:Nat) (s:Sys) (k:Nat),SysOk s→SysOk (BZ m s k).1
 |0,s,k,h=>h
 |m+1,s,k,h=>by
  unfold BZ;split
  ·rename_i hc;exact V1 m (DL s) (k+1) (QU h hc)
  ·exact h
theorem YT{s:Sys}{a n:Nat}(h:SysB s)(hs:SysOk s)(hn:SN n)(ha:a<n)(ha2:a<Aa):LP n s (a:Int)=some ((AA (BZ a s 0).1,((BZ a s 0).2:Int),()),()):=by
 have hb:=h.small;unfold LP;rw[FQ h hn,decide_eq_true hs];simp only[Option.bind_some,Bool.not_true,cond_false,Hb hb (show big<n by unfold SN at hn;omega) BM,dnSys_up]
 have key: ∀(d m k:Nat) (v:Sys) (x:Sys),k+d=a→d<m→SysOk v→Hj n m (a:Int) x v (k:Int)
  (fun w9 w10 w11 w12 w13 w14 w15 w16 w17 w18 w19 w20 w21 w22=>
   some (((AA (⟨w10,w11,w18,w19,w20,w21,w12,w13,w22⟩:Sys)),w9,()),()))
  (fun w23 w24 w25 w26 w27 w28 w29 w30 w31=>
   some (((AA (⟨w23,w24,w27,w28,w29,w30,w25,w26,w31⟩:Sys)),(if(a:Int)>0 then(a:Int)else 0),()),()))=some ((AA (BZ d v k).1,((BZ d v k).2:Int),()),()):=by
  intro d
  induction d with
  |zero=>
   intro m k v x hk hm hv;obtain⟨m,rfl⟩: ∃q,m=q+1:=⟨m-1,by omega⟩
   have:k=a:=by omega
   subst this;simp only[Hj,AP,cond_false,BZ];rw[show(if(k:Int)>0 then(k:Int)else 0)=(k:Int) by split<;>omega]
  |succ d ih=>
   intro m k v x hk hm hv;obtain⟨m,rfl⟩: ∃q,m=q+1:=⟨m-1,by omega⟩
   have hka:k<a:=by omega
   simp only[Hj,AD hka,cond_true,SA (VV hv) hn,Option.bind_some,dnSys_up,AG (show k<Aa by omega)]
   unfold BZ
   by_cases hc:BR v
   · have e:BY v=(DL v,true):=by unfold BY;rw[if_pos hv,if_pos hc]
     rw[e,if_pos hc];simp only[Bool.not_true,cond_false];exact ih m (k+1) (DL v) _ (by omega) (by omega) (QU hv hc)
   · have e:BY v=(v,false):=by unfold BY;rw[if_pos hv,if_neg hc]
     rw[e,if_neg hc];rfl
 exact key a n 0 s _ (by omega) ha hs
theorem Yj{s:Sys}{a:Int}{n:Nat}(h:SysB s)(hs:SysOk s)(hn:SN n):JU n s a=some ((AA (G1 s a).1,(G1 s a).2,()),()):=by
 have hb:=h.small;have hk:=hn.k;unfold JU G1;rw[BS];simp only[Option.bind_some,Hb hb (show big<n by unfold SN at hn;omega) BM,dnSys_up]
 by_cases ha:1≤a∧a≤50
 · rw[decide_eq_true ha,if_pos ha]
   obtain⟨m,rfl⟩:=Int.eq_ofNat_of_zero_le (show 0≤a by omega)
   have hm:m<n:=by omega
   simp only[Bool.not_true,cond_false,YT h hs hn hm (show m<Aa by unfold Aa;omega),Option.bind_some,Int.toNat_natCast,dnSys_up]
   by_cases hl:(BZ m s 0).2<m
   ·rw[if_pos hl,decide_eq_true (show((BZ m s 0).2:Int)<(m:Int) by omega)];rfl
   ·rw[if_neg hl,decide_eq_false (show¬((BZ m s 0).2:Int)<(m:Int) by omega)];rfl
 ·rw[decide_eq_false ha,if_neg ha];rfl
end Go.Proofs.YtbbgaleennfklaaGreat.VR
end
section
set_option linter.unusedVariables false
set_option linter.unusedSimpArgs false
namespace Go.Proofs.YtbbgaleennfklaaGreat.VR
open Go
theorem R2(c:Call):JA c=some (C1 c,()):=by
 obtain⟨K,N,C,A,B⟩:=c;simp only[JA,C1,BA]
 by_cases h1:K=1;·subst h1;simp
 by_cases h2:K=2;·subst h2;simp
 by_cases h3:K=3;·subst h3;simp
 by_cases h4:K=4;·subst h4;simp
 by_cases h5:K=5;·subst h5;simp
 by_cases h6:K=6;·subst h6;simp
 by_cases h7:K=7;·subst h7;simp
 by_cases h8:K=8;·subst h8;simp
 by_cases h9:K=9;·subst h9;simp
 by_cases h10:K=10;·subst h10;simp
 by_cases h11:K=11;·subst h11;simp
 simp[h1,h2,h3,h4,h5,h6,h7,h8,h9,h10,h11]
theorem nI(c:Call):MW c=some (CK (
 if c.Kind=1∨c.Kind=2 then c
 else if c.Kind=3 then⟨c.Kind,c.No,c.Cpu,c.A,0⟩
 else if c.Kind=4∨c.Kind=5∨c.Kind=6 then⟨c.Kind,c.No,0,0,0⟩
 else if c.Kind=7∨c.Kind=8∨c.Kind=9 then⟨c.Kind,c.No,0,c.A,0⟩
 else if c.Kind=10 then⟨c.Kind,c.No,c.Cpu,0,0⟩
 else if c.Kind=11 then⟨c.Kind,0,0,c.A,0⟩else c),()):=by
 obtain⟨K,N,C,A,B⟩:=c
 by_cases h1:K=1;·subst h1;kernel_rfl
 by_cases h2:K=2;·subst h2;kernel_rfl
 by_cases h3:K=3;·subst h3;kernel_rfl
 by_cases h4:K=4;·subst h4;kernel_rfl
 by_cases h5:K=5;·subst h5;kernel_rfl
 by_cases h6:K=6;·subst h6;kernel_rfl
 by_cases h7:K=7;·subst h7;kernel_rfl
 by_cases h8:K=8;·subst h8;kernel_rfl
 by_cases h9:K=9;·subst h9;kernel_rfl
 by_cases h10:K=10;·subst h10;kernel_rfl
 by_cases h11:K=11;·subst h11;kernel_rfl
 simp only[MW,BA];simp only[if_neg h1,if_neg h2,if_neg h3,if_neg h4,if_neg h5,if_neg h6,if_neg h7,if_neg h8,if_neg h9,if_neg h10,if_neg h11];simp only[h1,h2,h3,h4,h5,h6,h7,h8,h9,h10,h11,or_self,if_false]
theorem mi(c:Call):L9 c=some (C1 c,()):=by
 simp only[L9,nI,Ag,Option.bind_some,BA];obtain⟨K,N,C,A,B⟩:=c;dsimp only
 by_cases h:1≤K
 · rw[if_pos h]
   dsimp only[Option.bind_some,dnCall_up];rw[BA];unfold C1;dsimp only
   repeat' split
   all_goals first|(exfalso;omega)|(refine congrArg (fun b=>some (b,())) ?_;apply OE;simp<;>omega)
 · rw[if_neg h]
   unfold C1;dsimp only[Option.bind_some]
   repeat' split
   all_goals first|(exfalso;omega)|rfl
theorem PO(c:Call):GK c=some (CK c,()):=rfl
end Go.Proofs.YtbbgaleennfklaaGreat.VR
end
section
set_option linter.unusedVariables false
set_option linter.unusedSimpArgs false
namespace Go.Proofs.YtbbgaleennfklaaGreat.VR
open Go
theorem Ci{p:Prop}[Decidable p]{s:Sys}{a b:Sys×Int}(ha:a.2≠0→a.1=s)(hb:b.2≠0→b.1=s):(if p then a else b).2≠0→(if p then a else b).1=s:=by split<;>assumption
theorem Sl{s:Sys}{c:Call}:(DC s c).2≠0→(DC s c).1=s:=by unfold DC;repeat(first|exact fun _=>rfl|exact fun h=>absurd rfl h|refine Ci ?_ ?_)
theorem ZC{s:Sys}{c:Call}{t:Task}:(Cr s c t).2≠0→(Cr s c t).1=s:=by unfold Cr;repeat(first|exact fun _=>rfl|exact fun h=>absurd rfl h|refine Ci ?_ ?_)
theorem XZ{s:Sys}{c:Call}{i:Nat}{t:Task}:(C5 s c i t).2≠0→(C5 s c i t).1=s:=by unfold C5;repeat(first|exact fun _=>rfl|exact fun h=>absurd rfl h|refine Ci ?_ ?_)
theorem XQ{s:Sys}{i:Nat}{t:Task}:(DS s i t).2≠0→(DS s i t).1=s:=by unfold DS;repeat(first|exact fun _=>rfl|exact fun h=>absurd rfl h|refine Ci ?_ ?_)
theorem VX{s:Sys}{c:Call}{i:Nat}{t:Task}:(EI s c i t).2≠0→(EI s c i t).1=s:=by
 unfold EI;refine Ci (by repeat(first|exact fun _=>rfl|exact fun h=>absurd rfl h|refine Ci ?_ ?_)) (Ci (by repeat(first|exact fun _=>rfl|exact fun h=>absurd rfl h|refine Ci ?_ ?_)) (Ci XQ (Ci ZC XZ)))
theorem SB{s:Sys}{c:Call}{n:Nat}(h:SysB s)(hs:SysOk s)(hn:SN n):LU n s c=some ((AA (CO s c).1,(CO s c).2,()),()):=by
 obtain⟨b1,b2,b3,b4,b5⟩:=h.lbnd hn;have hcl:=Hb h.small (show big<n by unfold SN at hn;omega) BM
 unfold LU CO
 by_cases k11:c.Kind=11
 ·rw[decide_eq_true k11,if_pos k11,Yj h hs hn];rfl
 rw[decide_eq_false k11,if_neg k11,hcl];simp only[cond_false,Option.bind_some,dnSys_up,BS]
 by_cases k1:1≤c.Kind∧c.Kind≤3
 · rw[decide_eq_true k1,if_pos k1]
   simp only[cond_true,Yg h hs hn,Option.bind_some,dnSys_up]
   by_cases hz:(DC s c).2=0
   ·rw[decide_eq_true hz,hz];rfl
   ·rw[decide_eq_false hz,Sl hz];rfl
 · rw[decide_eq_false k1,if_neg k1]
   simp only[cond_false,Dv (ts:=s.Tasks) (no:=c.No) (n:=n) (by omega) (by omega),Option.bind_some,FP]
   cases e:AY s.Tasks c.No with
   |none=>rfl
   |some i=>
    obtain⟨hi,_⟩:=B5 e;simp only[Option.isSome_some,cond_true,idx,Yi (c:=c) h hs hn hi,Option.bind_some,dnSys_up,Ab hi]
    by_cases hz:(EI s c i s.Tasks[i]).2=0
    ·rw[decide_eq_true hz,hz];rfl
    ·rw[decide_eq_false hz,VX hz];rfl
theorem YV{s:Sys}{c:Call}{n:Nat}(h:SysB s)(hs:SysOk s)(hn:SN n):OT n s c=some ((AA (CO s c).1,(CO s c).2,()),()):=
 SB h hs hn
theorem R9{s:Sys}{c:Call}{n:Nat}(h:SysB s)(hn:SN n):JI n s c=some ((AA (Bj s c).1,(Bj s c).2,()),()):=by
 unfold JI Bj;rw[FQ h hn];simp only[Option.bind_some,R2]
 by_cases hs:SysOk s
 · rw[decide_eq_true hs]
   simp only[Bool.not_true,cond_false];cases hc:C1 c with
   |true=>rw[if_pos ⟨hs,rfl⟩,SB h hs hn];rfl
   |false=>rw[if_neg (fun q=>by cases q.2)];rfl
 ·rw[decide_eq_false hs,if_neg (fun q=>hs q.1)];rfl
theorem R8{s:Sys}{c:Call}{n:Nat}(h:SysB s)(hn:SN n):JJ n s c=some ((AA (Bj s c).1,(Bj s c).2,()),()):=by
 unfold JJ Bj;rw[FQ h hn];simp only[Option.bind_some,R2]
 by_cases hs:SysOk s
 · rw[decide_eq_true hs]
   simp only[Bool.not_true,cond_false];cases hc:C1 c with
   |true=>rw[if_pos ⟨hs,rfl⟩,YV h hs hn];rfl
   |false=>rw[if_neg (fun q=>by cases q.2)];rfl
 ·rw[decide_eq_false hs,if_neg (fun q=>hs q.1)];rfl
end Go.Proofs.YtbbgaleennfklaaGreat.VR
end
section
set_option linter.unusedVariables false
set_option linter.unusedSimpArgs false
namespace Go.Proofs.YtbbgaleennfklaaGreat.VR
open Go
theorem QH(t:Task):HW t=some ((AN (Ep t).1,(Ep t).2,()),()):=by
 simp only[HW,EH,Option.bind_some,Ep]
 by_cases h:TaskOk t
 ·rw[decide_eq_true h,if_pos h];rfl
 ·rw[decide_eq_false h,if_neg h];rfl
theorem my(no cpu q p now:Int):ML no cpu q p now=some ((AN (Es no cpu q p now).1,(Es no cpu q p now).2,()),()):=by
 simp only[ML,BI,KX,QH,Option.bind_some,Es,G2]
 by_cases h1:0≤now∧now≤100000
 · by_cases h2:Av ⟨q,p⟩
   · have e:w64 (now+p)=now+p:=by
      have h3:1≤p∧p≤40:=h2.1;exact AO (by omega) (by omega)
     rw[decide_eq_true h1,decide_eq_true h2,if_pos ⟨h1,h2⟩,e];rfl
   ·rw[decide_eq_true h1,decide_eq_false h2,if_neg (fun h=>h2 h.2)];rfl
 ·rw[decide_eq_false h1,if_neg (fun h=>h1 h.1)];rfl
theorem m7(no cpu prio round seq:Int):MN no cpu prio round seq=some ((AN (Eu no cpu prio round seq).1,(Eu no cpu prio round seq).2,()),()):=by
 simp only[MN,QH,Option.bind_some,Eu,G2]
theorem mz(no cpu nice v:Int):MM no cpu nice v=some ((AN (Et no cpu nice v).1,(Et no cpu nice v).2,()),()):=by
 simp only[MM,QH,Option.bind_some,Et,G2]
def BU(q:Task→Bool)(t:Task)(p:List Task×Bool)(x:Task):List Task×Bool:=if p.2 then(p.1++[x],true)else if q x then(p.1++[x],false)else(p.1++[t]++[x],true)
theorem TF(q:Task→Bool)(t:Task): ∀(l:List Task) (p:List Task×Bool),(l.foldl (BU q t) p).1.length+cond (l.foldl (BU q t) p).2 0 1=p.1.length+l.length+cond p.2 0 1
 | [],p=>by simp
 |x::l,p=>by
  have ih:=TF q t l (BU q t p x);simp only[List.foldl_cons,List.length_cons];have e:(BU q t p x).1.length+cond (BU q t p x).2 0 1=p.1.length+1+cond p.2 0 1:=by
   unfold BU;cases hp:p.2<;>cases hq:q x<;>simp[hp,hq]
  omega
theorem Z7(q:Task→Bool)(t:Task)(l:List Task)(p:List Task×Bool):(l.foldl (BU q t) p).1.length≤p.1.length+l.length+1∧(l.foldl (BU q t) p).1.length+cond (l.foldl (BU q t) p).2 0 1=p.1.length+l.length+cond p.2 0 1:=by
 have h:=TF q t l p;refine⟨?_,h⟩;have:cond p.2 0 1≤1:=by cases p.2<;>simp
 omega
theorem TE(q:Task→Bool)(t:Task): ∀(l:List Task) (a:List Task),(l.foldl (BU q t) (a,true))=(a++l,true)
 | [],a=>by simp
 |x::l,a=>by
  rw[List.foldl_cons];have:BU q t (a,true) x=(a++[x],true):=rfl;rw[this,TE q t l];simp
theorem TD(q:Task→Bool)(t:Task): ∀(l:List Task) (a:List Task),(if(l.foldl (BU q t) (a,false)).2 then(l.foldl (BU q t) (a,false)).1 else(l.foldl (BU q t) (a,false)).1++[t])=a++(l.takeWhile q++t::l.dropWhile q)
 | [],a=>by simp
 |x::l,a=>by
  rw[List.foldl_cons];cases hq:q x with
  |true=>
   have:BU q t (a,false) x=(a++[x],false):=by unfold BU;simp[hq]
   rw[this,TD q t l];simp[hq]
  |false=>
   have:BU q t (a,false) x=(a++[t]++[x],true):=by unfold BU;simp[hq]
   rw[this,TE];simp[hq]
theorem nG{ts:List Task}{t:Task}{n:Nat}(hn:ts.length+1<n)(hb:ts.length+1≤lim):
 GT n ts t=some (if TasksOk ts then(if TasksOk (insT ts t)then(insT ts t,true,())else(ts,false,()))else([],false,()),()):=by
 unfold GT;rw[It (by omega) (by omega)]
 simp only[Option.bind_some]
 by_cases h: ¬TasksOk ts
 ·rw[decide_eq_false h,if_neg h];rfl
 have h:TasksOk ts:=Decidable.not_not.1 h;rw[decide_eq_true h,if_pos h];simp only[Bool.not_true,cond_false,List.nil_append,List.length_nil,Nat.zero_add,decide_eq_true (show ts.length≤lim by omega),cond_true]
 have hl:=Mv ts t;have hall:=TD (fun x=>decide (x.No<t.No)) t ts []
 rw[List.nil_append]at hall
 change _=insT ts t at hall
 have hlen:=fun i=>Z7 (fun x=>decide (x.No<t.No)) t (ts.take i) ([],false)
 have hf:=AU (l:=fun m i=>Fk n m ts t ((ts.take i).foldl (BU (fun x=>decide (x.No<t.No)) t) ([],false)).1 ((ts.take i).foldl (BU (fun x=>decide (x.No<t.No)) t) ([],false)).2 (i:Int) (fun w11 w12=>
  cond (!w11)
   (cond (decide ((w12).length+(([t]:List Task)).length≤lim))
     ((Dq n (w12++([t]:List Task))).bind fun r13=>
      cond (!r13.1)
       (some ((ts,false,()),()))
       (some (((w12++([t]:List Task)),true,()),())))
     (none))
   ((Dq n w12).bind fun r14=>
    cond (!r14.1)
     (some ((ts,false,()),()))
     (some ((w12,true,()),()))))) (len:=ts.length) (r:=some (if TasksOk (insT ts t)then(insT ts t,true,())else(ts,false,()),())) (fun _=>True) trivial
  (fun m _=>by
    simp only[Fk,AP,cond_false,List.take_length];have hl2:=(hlen ts.length).2;rw[List.take_length]at hl2;cases e:(ts.foldl (BU (fun x=>decide (x.No<t.No)) t) ([],false)).2 with
    |true=>
     rw[e,if_pos rfl]at hall;simp only[Bool.not_true,cond_false,hall,It (ts:=insT ts t) (n:=n) (by omega) (by omega),Option.bind_some]
     by_cases h2:TasksOk (insT ts t)
     ·rw[decide_eq_true h2,if_pos h2];rfl
     ·rw[decide_eq_false h2,if_neg h2];rfl
    |false=>
     rw[e,if_neg (by simp)]at hall
     rw[e]at hl2;simp at hl2;simp only[Bool.not_false,cond_true,hall,It (ts:=insT ts t) (n:=n) (by omega) (by omega),Option.bind_some]
     rw[decide_eq_true (show(ts.foldl (BU (fun x=>decide (x.No<t.No)) t) ([],false)).1.length+[t].length≤lim by simp;omega)]
     by_cases h2:TasksOk (insT ts t)
     ·rw[decide_eq_true h2,if_pos h2];rfl
     ·rw[decide_eq_false h2,if_neg h2];rfl)
  (fun m i hi _=>.inl ⟨by
    have hil:=Nat.lt_trans hi (AQ (show ts.length≤lim by omega))
    have hl2:=(hlen i).1;have hl3:=(hlen i).2;rw[List.length_take]at hl2 hl3;rw[List.take_succ_eq_append_getElem hi,List.foldl_append,List.foldl_cons,List.foldl_nil];generalize(ts.take i).foldl (BU (fun x=>decide (x.No<t.No)) t) ([],false)=p at hl2 hl3⊢
    obtain⟨a,b⟩:=p;simp only[Fk,AD hi,AF,Bool.and_self,cond_true,AE hi,AG hil,List.length_cons,List.length_nil,List.length_append,Nat.zero_add]at hl2 hl3⊢;unfold BU;cases b with
    |true=>
     rw[decide_eq_true (show a.length+1≤lim by simp at hl3;omega)]
     simp
    |false=>
     simp at hl3
     by_cases hq:ts[i].No<t.No
     · have hq': ¬t.No≤ts[i].No:=by omega
       rw[decide_eq_true (show a.length+1≤lim by omega)]
       simp[hq,hq']
     · have hq':t.No≤ts[i].No:=by omega
       rw[decide_eq_true (show a.length+1≤lim by omega),decide_eq_true (show a.length+1+1≤lim by omega)]
       simp[hq,hq'],trivial⟩) (m:=n) (by omega)
 exact hf
end Go.Proofs.YtbbgaleennfklaaGreat.VR
end
section
set_option linter.unusedVariables false
set_option linter.unusedSimpArgs false
namespace Go.Proofs.YtbbgaleennfklaaGreat.VR
open Go
theorem nY{s:Sys}{cpu:Int}{n:Nat}(hn:s.Tasks.length+s.Ghosts.length<n)(hb:s.Tasks.length+s.Ghosts.length≤lim):GZ n s cpu=some (BH s cpu,()):=by
 unfold GZ;have h1:=AU (l:=fun m i=>Fq n m cpu s (BC (s.Tasks.take i) cpu) (i:Int) (fun w8=>Em n n cpu s w8 0 (fun w15=>some (w15,())))) (len:=s.Tasks.length)
  (r:=Em n n cpu s (BC s.Tasks cpu) 0 (fun w15=>some (w15,()))) (fun _=>True) trivial (fun m _=> ?_) (fun m i hi _=>.inl ⟨?_,trivial⟩) (m:=n) (by omega)
 · refine h1.trans ?_
   have h2:=AU (l:=fun m i=>Em n m cpu s (BC s.Tasks cpu++Bv (s.Ghosts.take i) cpu) (i:Int) (fun w15=>some (w15,()))) (len:=s.Ghosts.length)
    (r:=some (BH s cpu,())) (fun _=>True) trivial (fun m _=> ?_) (fun m i hi _=>.inl ⟨?_,trivial⟩) (m:=n) (by omega)
   · rw[List.take_zero]at h2
     rw[show Bv [] cpu=[]from rfl,List.append_nil]at h2;exact h2
   ·simp only[Em,AP,cond_false,List.take_length];rfl
   · have hl1:=E5 s.Tasks cpu s.Tasks.length
     rw[List.take_length]at hl1;have hl2:=J6 s.Ghosts cpu i;have hl:(BC s.Tasks cpu++Bv (s.Ghosts.take i) cpu).length<lim:=by rw[List.length_append];omega
     simp only[Em,AD hi,AF,Bool.and_self,cond_true,AE hi,BV hl (Nat.le_refl _),AG (Nat.lt_trans hi (AQ (show s.Ghosts.length≤lim by omega)))]
     rw[Mn hi];cases decide (s.Ghosts[i].Cpu=cpu)with
     |false=>simp only[cond_false,List.append_nil]
     |true=>simp only[cond_true,List.append_assoc]
 ·simp only[Fq,AP,cond_false,List.take_length]
 · have hl:=E5 s.Tasks cpu i
   have hl3:(BC (s.Tasks.take i) cpu).length<lim:=by omega
   simp only[Fq,AD hi,AF,Bool.and_self,cond_true,AE hi,BV hl3 (Nat.le_refl _),AG (Nat.lt_trans hi (AQ (show s.Tasks.length≤lim by omega)))]
   rw[Ni hi];cases decide (s.Tasks[i].Cpu=cpu)<;>cases decide (s.Tasks[i].Class=1)<;>simp only[cond_false,cond_true,Bool.and_true,Bool.and_false,Bool.false_and,Bool.true_and,List.append_nil]
def M0(s:Sys)(c:Call)(t:Task×Bool):Sys×Int:=
 if s.Cpus≤c.Cpu∨t.2=false then(s,1)
 else if(AY s.Tasks c.No).isSome then(s,3)
 else if¬TasksOk (insT s.Tasks t.1)then(s,4)
 else if c.Kind=1∧Bn (BH s c.Cpu++[⟨c.A,c.B⟩])=false then(s,4)
 else if c.Kind=2 then(if 900000<s.Seq then(s,4)else({s with Tasks:=insT s.Tasks t.1,Seq:=s.Seq+1},0))
 else({s with Tasks:=insT s.Tasks t.1},0)
theorem ZE(s:Sys)(c:Call):M0 s c (CH s c)=DC s c:=rfl
theorem QL{s:Sys}{c:Call}{n:Nat}(h:SysB s)(hs:SysOk s)(hn:SN n)(t:Task×Bool):(cond (decide (s.Cpus≤c.Cpu))
 (some (((AA s),1,()),()))
 (cond (!t.2)
   (some (((AA s),1,()),()))
   ((CF n s.Tasks c.No).bind fun r4=>
    cond (decide (0≤r4.1))
     (some (((AA s),3,()),()))
     ((GT n s.Tasks (AK (AN t.1))).bind fun r5=>
      cond (decide (c.Kind=1))
       (cond r5.1.2.1
         ((GZ n s c.Cpu).bind fun r6=>
          cond (decide ((r6.1).length+(([(⟨c.A,c.B⟩:Share)]:List Share)).length≤lim))
           ((FL n (r6.1++([(⟨c.A,c.B⟩:Share)]:List Share))).bind fun r7=>
            cond (!r7.1)
             (some (((AA s),4,()),()))
             (cond (decide (c.Kind=2))
               (cond (decide (900000<s.Seq))
                 (some (((AA s),4,()),()))
                 (cond (decide (c.Kind=2))
                   (some (((AA (⟨s.Now,s.Cpus,r5.1.1,s.Locks,s.Ghosts,s.Floors,(w64 (s.Seq+1)),s.Missed,s.Trace⟩:Sys)),0,()),()))
                   (some (((AA (⟨s.Now,s.Cpus,r5.1.1,s.Locks,s.Ghosts,s.Floors,s.Seq,s.Missed,s.Trace⟩:Sys)),0,()),()))))
               (cond (decide (c.Kind=2))
                 (some (((AA (⟨s.Now,s.Cpus,r5.1.1,s.Locks,s.Ghosts,s.Floors,(w64 (s.Seq+1)),s.Missed,s.Trace⟩:Sys)),0,()),()))
                 (some (((AA (⟨s.Now,s.Cpus,r5.1.1,s.Locks,s.Ghosts,s.Floors,s.Seq,s.Missed,s.Trace⟩:Sys)),0,()),())))))
           (none))
         (some (((AA s),4,()),())))
       (cond (!r5.1.2.1)
         (some (((AA s),4,()),()))
         (cond (decide (c.Kind=2))
           (cond (decide (900000<s.Seq))
             (some (((AA s),4,()),()))
             (cond (decide (c.Kind=2))
               (some (((AA (⟨s.Now,s.Cpus,r5.1.1,s.Locks,s.Ghosts,s.Floors,(w64 (s.Seq+1)),s.Missed,s.Trace⟩:Sys)),0,()),()))
               (some (((AA (⟨s.Now,s.Cpus,r5.1.1,s.Locks,s.Ghosts,s.Floors,s.Seq,s.Missed,s.Trace⟩:Sys)),0,()),()))))
           (cond (decide (c.Kind=2))
             (some (((AA (⟨s.Now,s.Cpus,r5.1.1,s.Locks,s.Ghosts,s.Floors,(w64 (s.Seq+1)),s.Missed,s.Trace⟩:Sys)),0,()),()))
             (some (((AA (⟨s.Now,s.Cpus,r5.1.1,s.Locks,s.Ghosts,s.Floors,s.Seq,s.Missed,s.Trace⟩:Sys)),0,()),())))))))):Option ((Ah×Int×Unit)×Unit))=
 some ((AA (M0 s c t).1,(M0 s c t).2,()),()):=by
 obtain⟨b1,b2,b3,b4,b5⟩:=h.lbnd hn;have hg:=hs.ghosts.1;have ht:=hs.tasks.len;have hsl:=NW s c.Cpu;obtain⟨n1,n2⟩:=hn.k;have e:w64 (s.Seq+1)=s.Seq+1:=by have:=hs.seq;exact AO (by omega) (by omega)
 unfold M0
 by_cases h1:s.Cpus≤c.Cpu
 ·rw[decide_eq_true h1,if_pos (.inl h1)];rfl
 rw[decide_eq_false h1];simp only[cond_false];cases h2:t.2 with
 |false=>rw[if_pos (.inr rfl)];rfl
 |true=>
  rw[if_neg (by rintro(q|q);exact h1 q;cases q)]
  simp only[Bool.not_true,cond_false,F1 (ts:=s.Tasks) (no:=c.No) (n:=n) (by omega) (by omega),Option.bind_some,FP]
  cases h3:(AY s.Tasks c.No).isSome with
  |true=>rw[if_pos rfl];rfl
  |false=>
   rw[if_neg (by simp)]
   rw[dnTask_up,nG b1 b2,if_pos hs.tasks];simp only[cond_false,Option.bind_some]
   by_cases h4: ¬TasksOk (insT s.Tasks t.1)
   · rw[if_pos h4,if_neg h4]
     by_cases k1:c.Kind=1<;>simp[k1]
   have h4':=Decidable.not_not.1 h4;rw[if_neg h4,if_pos h4'];simp only[Bool.not_true,cond_false,cond_true]
   by_cases k1:c.Kind=1
   · rw[nY (by omega) (by omega)]
     simp only[Option.bind_some];rw[decide_eq_true (show(BH s c.Cpu).length+[(⟨c.A,c.B⟩:Share)].length≤lim by simp only[List.length_cons,List.length_nil];omega)]
     rw[U8 (by simp only[List.length_append,List.length_cons,List.length_nil];unfold SN at hn;have:100≤big:=by unfold big;omega
               omega) (by simp only[List.length_append,List.length_cons,List.length_nil];omega)]
     simp only[cond_true,Option.bind_some];cases h5:Bn (BH s c.Cpu++[⟨c.A,c.B⟩])with
     |false=>simp[k1]
     |true=>simp[k1]
   · by_cases k2:c.Kind=2
     ·by_cases h5:900000<s.Seq<;>simp[k2,h5,e]
     ·simp[k1,k2]
theorem nM{s:Sys}{c:Call}{n:Nat}(h:SysB s)(hs:SysOk s)(hn:SN n):Mb n s c=some ((AA (DC s c).1,(DC s c).2,()),()):=by
 obtain⟨b1,b2,b3,b4,b5⟩:=h.lbnd hn;have e:w64 (s.Seq+1)=s.Seq+1:=by have:=hs.seq;exact AO (by omega) (by omega)
 unfold Mb;simp only[mt b3,mz,my,m7,Option.bind_some,e];rw[←ZE]
 by_cases k1:c.Kind=1
 · have hq:=QL (c:=c) h hs hn (Es c.No c.Cpu c.A c.B s.Now)
   rw[decide_eq_true k1]at hq⊢;have:CH s c=Es c.No c.Cpu c.A c.B s.Now:=by unfold CH;rw[if_pos k1]
   rw[this,←hq,e];rfl
 by_cases k2:c.Kind=2
 · have hq:=QL (c:=c) h hs hn (Eu c.No c.Cpu c.A c.B (s.Seq+1))
   rw[decide_eq_false k1,decide_eq_true k2]at hq⊢;have:CH s c=Eu c.No c.Cpu c.A c.B (s.Seq+1):=by unfold CH;rw[if_neg k1,if_pos k2]
   rw[this,←hq,e];rfl
 · have hq:=QL (c:=c) h hs hn (Et c.No c.Cpu c.A (Cp s c.Cpu))
   rw[decide_eq_false k1,decide_eq_false k2]at hq⊢;have:CH s c=Et c.No c.Cpu c.A (Cp s c.Cpu):=by unfold CH;rw[if_neg k1,if_neg k2]
   rw[this,←hq,e];rfl
theorem U9{ls:List Lock}{no:Int}{n:Nat}(hn:ls.length<n)(hb:ls.length≤lim):Js n ls no=some (EE ls no,()):=by
 unfold Js EE
 by_cases h0:no=0
 · have:=AU (l:=fun m i=>D6 n m ls no (i:Int) (some (true,())) (some (false,()))) (len:=ls.length) (r:=some (false,())) (fun _=>True) trivial
    (fun m _=>by simp only[D6,AP,cond_false])
    (fun m i hi _=>.inl ⟨by simp only[D6,AD hi,cond_true,decide_eq_true h0,Bool.not_true,cond_false,AG (Nat.lt_trans hi (AQ hb))],trivial⟩) (m:=n) hn
   refine this.trans ?_;simp[h0]
 · have:=CT (l:=fun m i=>D6 n m ls no i (some (true,())) (some (false,()))) (xs:=ls) (p:=fun k=>decide (k.Owner=no)) (k0:=fun _=>some (true,())) (k1:=some (false,()))
    (fun m=>by simp only[D6,AP,cond_false])
    (fun m i hi=>by simp only[D6,AD hi,AF,Bool.and_self,cond_true,decide_eq_false h0,Bool.not_false,AE hi,AG (Nat.lt_trans hi (AQ hb))]) (m:=n) hn
   refine this.trans ?_;have e:=List.findIdx?_isSome (p:=fun k:Lock=>decide (k.Owner=no)) (xs:=ls)
   rw[←e];cases ls.findIdx? fun k=>decide (k.Owner=no)<;>simp[h0]
theorem nS{xs:List Int}{x:Int}{n:Nat}(hn:xs.length<n)(hb:xs.length≤lim):GY n xs x=some (xs.filter fun y=>decide (y≠x),()):=by
 unfold GY;have hf:=AU (l:=fun m i=>Gk n m xs x ((xs.take i).filter fun y=>decide (y≠x)) (i:Int) (fun w7=>some (w7,()))) (len:=xs.length) (r:=some (xs.filter fun y=>decide (y≠x),())) (fun _=>True) trivial
  (fun m _=>by simp only[Gk,AP,cond_false,List.take_length])
  (fun m i hi _=>.inl ⟨by
    have hl:=List.length_filter_le (fun y=>decide (y≠x)) (xs.take i)
    rw[List.length_take]at hl;simp only[Gk,AD hi,AF,Bool.and_self,cond_true,AE hi,AG (Nat.lt_trans hi (AQ hb)),BV (show((xs.take i).filter fun y=>decide (y≠x)).length<xs.length by omega) hb]
    rw[List.take_succ_eq_append_getElem hi,List.filter_append]
    by_cases h:xs[i]=x<;>simp[h],trivial⟩) (m:=n) hn
 exact hf
theorem nH{α:Type}{l:List Lock}{B n:Nat}(hl:LSmall B l)(hn:B+1<n)(hb:B+2≤lim){k0 k1:List Int→Option α}:
 ∀(d i:Nat) (no:Int) (out:List Int) (m:Nat),i+d=l.length+1→out.length=i+1→d<m→(∀c,Ak l d no=some c→Dd n m l no out (i:Int) k0 k1=k0 (out++c))∧(Ak l d no=none→ ∃w,Dd n m l no out (i:Int) k0 k1=k1 w):=by
 intro d
 induction d with
 |zero=>
  intro i no out m hd ho hm;obtain⟨m,rfl⟩: ∃q,m=q+1:=⟨m-1,by omega⟩
  refine⟨fun c h=>(by cases h),fun _=>⟨out,?_⟩⟩
  have:decide ((i:Int)≤(l.length:Int))=false:=decide_eq_false (by omega)
  simp only[Dd,this,cond_false]
 |succ d ih=>
  intro i no out m hd ho hm;obtain⟨m,rfl⟩: ∃q,m=q+1:=⟨m-1,by omega⟩
  have hlen:=hl.len;have h0:decide ((i:Int)≤(l.length:Int))=true:=decide_eq_true (by omega)
  rcases Gq l no with⟨e1,e2⟩|⟨j,e1,hj,e2⟩
  · have h3:Ak l (d+1) no=some []:=by unfold Ak;rw[e2]
    have h4:Dd n (m+1) l no out (i:Int) k0 k1=k0 out:=by
     simp only[Dd,h0,cond_true,E0 hl (show B<n by omega) (show B≤lim by omega),Option.bind_some,e1,Cq,Option.isNone_none]
    refine⟨fun c h=> ?_,fun h=>by rw[h3]at h;cases h⟩
    rw[h3]at h;injection h with h;subst h
    rw[h4,List.append_nil]
  · have h3:Ak l (d+1) no=(Ak l d l[j].Owner).map (l[j].Owner:: ·):=by
     show(match next l no with|none=>some []|some o=>(Ak l d o).map (o:: ·))=_
     rw[e2]
    have e4:decide (out.length+[l[j].Owner].length≤lim)=true:=decide_eq_true (by simp;omega)
    have h4:Dd n (m+1) l no out (i:Int) k0 k1=Dd n m l l[j].Owner (out++[l[j].Owner]) ((i+1:Nat):Int) k0 k1:=by
     have hi:i<Aa:=by unfold lim at hb;unfold Aa;omega
     simp only[Dd,h0,cond_true,E0 hl (show B<n by omega) (show B≤lim by omega),Option.bind_some,e1,Cq,Option.isNone_some,cond_false,Er,idx,AF,AD hj,Bool.and_self,AE hj,e4,AG hi]
    obtain⟨g1,g2⟩:=ih (i+1) l[j].Owner (out++[l[j].Owner]) m (by omega) (by simp;omega) (by omega)
    rw[h3,h4];refine⟨fun c h=> ?_,fun h=>g2 (Option.map_eq_none_iff.1 h)⟩
    obtain⟨c',h5,rfl⟩:=Option.map_eq_some_iff.1 h;rw[g1 c' h5,List.append_assoc];rfl
theorem nQ{l:List Lock}{no:Int}{B n:Nat}(hl:LSmall B l)(hn:B+2<n)(hb:B+2≤lim){c:List Int}(h:Ay l no=some c):Oo n l no=some ((no::c,true,()),()):=by
 have hlen:=hl.len;exact(nH hl (show B+1<n by omega) hb (l.length+1) 0 no [no] n (by omega) rfl (by omega)).1 c h
theorem mj{ls:List Lock}{no:Int}{B n:Nat}(hl:LBound B ls)(hn:B+2<n)(hb:B+2≤lim):MA n ls no=some (if LocksOk ls then(match Ay ls no with|some c=>no::c|none=>[])else[],()):=by
 unfold MA;rw[NX hl hn hb];simp only[Option.bind_some]
 by_cases h:LocksOk ls
 · obtain⟨c,ec⟩:=I6 h no
   rw[decide_eq_true h,if_pos h,nQ hl.small hn hb ec,ec];rfl
 ·rw[decide_eq_false h,if_neg h];rfl
theorem mw{ls:List Lock}{i:Nat}{no next:Int}{B n:Nat}(hl:LBound B ls)(hn:B+2<n)(hb:B+2≤lim)(h:LocksOk ls)(hi:i<ls.length)(h0:no≠0)(ho:ls[i].Owner=no)
 (hx:(ls[i].Waits=[]∧next=0)∨next∈ls[i].Waits):MK n ls (i:Int) no next=some ((Ha ls i next,true,()),()):=by
 have hs:=hl.small;have hll:=hl.len;have hw: ∀k∈ls,k.Waits.length≤lim:=fun k hk=>by have:=hs.waits k hk;omega
 have hwi:=hs.waits _ (List.getElem_mem hi);unfold MK Ha;rw[NX hl hn hb,decide_eq_true h];simp only[Option.bind_some,Bool.not_true,cond_false,QK (ls:=ls) (n:=n) (by omega) (by omega) hw,BI,Mu rfl hi (show ls.length≤lim by omega),decide_eq_false h0,AD hi,AF,Bool.and_self,cond_true,AE hi,Ab hi,ho,decide_true,
  Na (xs:=ls[i].Waits) (x:=next) (n:=n) (by omega) (by omega),nS (xs:=ls[i].Waits) (x:=next) (n:=n) (by omega) (by omega),Int.toNat_natCast,decide_eq_true hi]
 rcases hx with⟨e1,rfl⟩|hx
 · rw[e1]
   simp
 · have hz: ¬((ls[i].Waits.length:Int)=0):=fun q=>by
    have:ls[i].Waits=[]:=List.eq_nil_of_length_eq_zero (by omega)
    rw[this]at hx;cases hx
   have hp:0<(ls[i].Waits.length:Int):=by omega
   rw[decide_eq_false hz,decide_eq_true hp,decide_eq_true hx];rfl
theorem mu{ls:List Lock}{i:Nat}{no:Int}{B n:Nat}(hl:LBound B ls)(hn:B+2<n)(hb:B+2≤lim)(h:LocksOk ls)(hi:i<ls.length)(h0:1≤no∧no≤1000)(ho:ls[i].Owner≠no)(hw0:Bf ls no=none):
 MJ n ls (i:Int) no=some (((DP ls i no).1,(if(DP ls i no).2 then(if ls[i].Owner=0 then 0 else 1)else 4),()),()):=by
 have hs:=hl.small;have hll:=hl.len;have hw: ∀k∈ls,k.Waits.length≤lim:=fun k hk=>by have:=hs.waits k hk;omega
 have hwi:=hs.waits _ (List.getElem_mem hi);have hwi2:=hl.all;have hwl:=F4 (List.getElem_mem hi);unfold MJ DP;rw[NX hl hn hb,decide_eq_true h];have hc:=mj (ls:=ls) (no:=ls[i].Owner) hl hn hb;rw[if_pos h]at hc;obtain⟨c,ec⟩:=I6 h ls[i].Owner;rw[ec]at hc;have hcl:=GB ec;simp only[Option.bind_some,Bool.not_true,cond_false,QK (ls:=ls) (n:=n) (by omega) (by omega) hw,BI,Mu rfl hi (show ls.length≤lim by omega),decide_eq_true h0,AD hi,AF,Bool.and_self,cond_true,AE hi,Ab hi,
  E0 hs (show B<n by omega) (show B≤lim by omega),hw0,idx,decide_eq_false ho,hc,ec,Na (xs:=ls[i].Owner::c) (x:=no) (n:=n) (by simp;omega) (by simp;omega)]
 rw[show decide ((0:Int)≤ -1)=false from rfl]
 simp only[cond_false]
 by_cases hz:ls[i].Owner=0
 ·simp[hz,hi]
 · rw[decide_eq_false hz]
   by_cases hm:no∈ls[i].Owner::c
   ·simp[hz,hm]
   · have ha:decide (ls[i].Waits.length+[no].length≤lim)=true:=decide_eq_true (by simp only[List.length_cons,List.length_nil];omega)
     rw[decide_eq_false hm,ha];simp[hz,hm,hi]
end Go.Proofs.YtbbgaleennfklaaGreat.VR
end
section
set_option linter.unusedVariables false
set_option linter.unusedSimpArgs false
namespace Go.Proofs.YtbbgaleennfklaaGreat.VR
open Go
theorem mh{ts:List Task}{l:List Int}{n:Nat}(hn:l.length<n)(hb:l.length≤lim)(hn2:ts.length<n)(hb2:ts.length≤lim):L8 n ts l=some (Dj ts l,()):=by
 unfold L8 Dj;have hend: ∀b:Option Task,(∀t,b=some t→t∈ts)→TasksOk ts→(cond (decide (BT ts b<0)) (some (0,())) (cond ((decide (0≤BT ts b))&&(decide (BT ts b<(ts.length:Int)))) (some ((List.getD ts (Int.toNat (BT ts b)) (Kd.dflt .task)).No,())) none):Option (Int×Unit))=some (EB b,()):=by
  intro b hb h;cases b with
  |none=>simp[BT,EB]
  |some t=>
   obtain⟨j,hj,e,hji⟩:=EY h (hb t rfl);simp only[BT,hji,idx,Er,cond_false,AF,AD hj,Bool.and_self,cond_true,AE hj,e,EB]
 by_cases h: ¬TasksOk ts
 · rw[if_neg h]
   have h1:=It hn2 hb2 (ts:=ts) (n:=n);rw[decide_eq_false h]at h1;obtain⟨m,rfl⟩: ∃m,n=m+1:=⟨n-1,by omega⟩
   have h0:0<ts.length:=by
    cases ts with
    |nil=>exact absurd ⟨by simp,by simp,by simp⟩ h
    |cons x r=>simp
   have hl:decide ((0:Int)<(ts.length:Int))=true:=decide_eq_true (by omega)
   simp only[D4,hl,cond_true,h1,Option.bind_some,cond_false];rfl
 have h:TasksOk ts:=Decidable.not_not.1 h;rw[if_pos h];have hok:=It hn2 hb2 (ts:=ts) (n:=n);rw[decide_eq_true h]at hok;have this:=AU (l:=fun m i=>D4 n m ts l (BT ts (Ai ((ts.take i).filter fun t=>decide (t.No∈l)))) (i:Int) (fun w8=>
  cond (decide (w8<0))
   (some (0,()))
   (cond ((decide (0≤w8))&&(decide (w8<((ts).length:Int))))
     (some ((List.getD ts (Int.toNat w8) (Kd.dflt .task)).No,()))
     (none)))) (len:=ts.length)
  (r:=some (EB (Ai (ts.filter fun t=>decide (t.No∈l))),())) (fun _=>True) trivial (fun m _=>by
    simp only[D4,AP,cond_false,List.take_length];exact hend _ (fun t ht=>(List.mem_filter.1 (Km ht)).1) h) (fun m i hi _=>.inl ⟨?_,trivial⟩) (m:=n) hn2
 ·simpa[Ai,BT]using this
 · have hil:=Nat.lt_trans hi (AQ hb2)
   rw[Ds _ hi];have hmem:=FA ((ts.take i).filter fun t=>decide (t.No∈l)) none
   have happ: ∀c,Ai (((ts.take i).filter fun t=>decide (t.No∈l))++cond c [ts[i]] [])=cond c (BQ (Ai ((ts.take i).filter fun t=>decide (t.No∈l))) ts[i]) (Ai ((ts.take i).filter fun t=>decide (t.No∈l))):=fun c=>by
    cases c
    ·simp only[cond_false,List.append_nil]
    ·simp only[cond_true,Ai,List.foldl_append,List.foldl_cons,List.foldl_nil]
   rw[happ]
   change∀t,Ai ((ts.take i).filter fun t=>decide (t.No∈l))=some t→_ at hmem
   revert hmem
   generalize he:Ai ((ts.take i).filter fun t=>decide (t.No∈l))=ob
   clear he happ;intro hmem;simp only[D4,AD hi,AF,Bool.and_self,cond_true,AE hi,hok,Na hn hb,Option.bind_some,AG hil,U5]
   by_cases hc:ts[i].No∈l
   · rw[decide_eq_true hc]
     simp only[cond_true]
     match ob,hmem with
     |none,_=>
      have:decide (BT ts none<0)=true:=by simp[BT]
      rw[this,cond_true];simp only[BQ,BT,Kb h hi,idx]
     |some b,hmem=>
      have hb3:b∈ts:=by
       rcases hmem _ rfl with hm|hm
       ·exact List.mem_of_mem_take (List.mem_filter.1 hm).1
       ·cases hm
      obtain⟨j,hj,hbj,hji⟩:=EY h hb3;have e1:BT ts (some b)=(j:Int):=by simp only[BT,hji,idx]
      rw[e1];simp only[Er,cond_false,AF,AD hj,Bool.and_self,cond_true,AE hj,hbj,BQ]
      by_cases hbf:Before ts[i] b
      · rw[decide_eq_true hbf,if_pos hbf]
        simp only[cond_true,BT,Kb h hi,idx]
      · rw[decide_eq_false hbf,if_neg hbf,e1]
        rfl
   · rw[decide_eq_false hc]
     rfl
theorem mn(t:Task)(cpu src to:Int):MD t cpu src to=some (AN (J0 t cpu src to),()):=by
 simp only[MD,KY,BI,NY,Option.bind_some,J0,CP,BA]
 by_cases h1:BN t=true
 · rw[h1]
   rw[FR]at h1;have hv:=(h1.1.fair h1.2).v;simp only[cond_true,true_and]
   by_cases h2:0≤cpu∧cpu≤3
   · by_cases h3:0≤src∧src≤100000000
     · by_cases h4:0≤to∧to≤100000000
       · have e1:w64 (t.V-src)=t.V-src:=AO (by omega) (by omega)
         have e2:max (t.V-src) 0=max 0 (t.V-src):=by omega
         rw[e1,e2];have hb:0≤to+max 0 (t.V-src)∧to+max 0 (t.V-src)≤300000000:=by omega
         generalize to+max 0 (t.V-src)=v at hb⊢;have e3:w64 v=v:=AO (by omega) (by omega)
         rw[e3]
         by_cases h5:100000000<v
         · have h6: ¬v≤100000000:=by omega
           simp[h2,h3,h4,h5,h6]
         · have h6:v≤100000000:=by omega
           simp[h2,h3,h4,h5,h6]
       ·simp[h2,h3,h4]
     ·simp[h2,h3]
   ·simp[h2]
 · have h1:BN t=false:=by simpa using h1
   rw[h1];simp
end Go.Proofs.YtbbgaleennfklaaGreat.VR
end
section
set_option linter.unusedVariables false
set_option linter.unusedSimpArgs false
namespace Go.Proofs.YtbbgaleennfklaaGreat.VR
open Go
theorem XO{β:Type}{xs:List β}{i j:Nat}(hj:j<xs.length):(xs.take (j+1)).eraseIdx i=(xs.take j).eraseIdx i++(if j=i then[]else[xs[j]]):=by
 rw[List.take_succ_eq_append_getElem hj];have hl:(xs.take j).length=j:=by rw[List.length_take];omega
 by_cases h:i<j
 ·rw[List.eraseIdx_append_of_lt_length (by omega),if_neg (by omega)]
 · rw[List.eraseIdx_append_of_length_le (by omega),hl,List.eraseIdx_of_length_le (l:=xs.take j) (by omega)]
   by_cases e:j=i
   ·subst e;simp
   ·rw[if_neg e,List.eraseIdx_of_length_le (by simp;omega)]
theorem XN{β:Type}(xs:List β)(i j:Nat):((xs.take j).eraseIdx i).length≤j:=by
 have:=(List.eraseIdx_sublist (xs.take j) i).length_le;rw[List.length_take]at this;omega
theorem QF{α:Type}{s z:Sys}{i n:Nat}(hn:s.Tasks.length<n)(hb:s.Tasks.length≤lim)(hz:z=⟨z.Now,z.Cpus,[],[],[],[],z.Seq,z.Missed,[]⟩)(k:List Task→Option α):D8 n n (i:Int) s z [] 0 k=k (s.Tasks.eraseIdx i):=by
 have h:=AU (l:=fun m j=>D8 n m (i:Int) s z ((s.Tasks.take j).eraseIdx i) (j:Int) k) (len:=s.Tasks.length) (r:=k (s.Tasks.eraseIdx i)) (fun _=>True) trivial
  (fun m _=>by simp only[D8,AP,cond_false,List.take_length])
  (fun m j hj _=>.inl ⟨by
    have hl:=XN s.Tasks i j;simp only[D8,AD hj,AF,Bool.and_self,cond_true,AE hj,AG (Nat.lt_trans hj (AQ hb)),BV (show((s.Tasks.take j).eraseIdx i).length<lim by omega) (Nat.le_refl _),←hz,XO hj]
    by_cases e:j=i
    ·rw[if_pos e,decide_eq_true (show(j:Int)=(i:Int) by omega),List.append_nil];rfl
    ·rw[if_neg e,decide_eq_false (show¬(j:Int)=(i:Int) by omega)];rfl,trivial⟩) (m:=n) hn
 simpa using h
theorem nK{s:Sys}{i n:Nat}(h:SysB s)(hs:SysOk s)(hn:SN n)(hi:i<s.Tasks.length):MY n s (i:Int)=some ((AA (DS s i s.Tasks[i]).1,(DS s i s.Tasks[i]).2,()),()):=by
 obtain⟨b1,b2,b3,b4,b5⟩:=h.lbnd hn;obtain⟨c1,c2,c3⟩:=h.lk hn;have hg:=hs.ghosts.1;have hL:s.Locks.length<n:=by have:=h.small.locks;omega
 unfold MY DS;simp only[AD hi,AF,Bool.and_self,cond_true,AE hi,U9 hL b5,E0 c1 c2 c3,Option.bind_some];have w:=F3 s.Locks s.Tasks[i].No;cases ho:EE s.Locks s.Tasks[i].No with
 |true=>simp
 |false=>
  cases hw:waits s.Locks s.Tasks[i].No with
  |true=>rw[hw]at w;rw[decide_eq_true (w.2 rfl)];simp
  |false=>
   rw[hw]at w;rw[decide_eq_false (fun q=>by have:=w.1 q;cases this)]
   simp only[cond_false,Bool.or_self,Bool.false_eq_true,if_false]
   by_cases k1:s.Tasks[i].Class=1
   · rw[decide_eq_true k1]
     by_cases k2:s.Now<s.Tasks[i].Due
     · rw[decide_eq_true k2,if_pos ⟨k1,k2⟩]
       by_cases k3:12≤s.Ghosts.length
       ·rw[if_pos k3,decide_eq_true (show(s.Ghosts.length:Int)=12 by omega)];rfl
       · rw[if_neg k3,decide_eq_false (show¬(s.Ghosts.length:Int)=12 by omega)]
         simp only[cond_true,cond_false,BV (show s.Ghosts.length<lim by omega) (Nat.le_refl _)]
         exact QF (by show s.Tasks.length<n;omega) (by show s.Tasks.length≤lim;omega) rfl _
     · rw[decide_eq_false k2,if_neg (fun q=>k2 q.2)]
       simp only[cond_true,cond_false];exact QF (by omega) (by omega) rfl _
   · rw[decide_eq_false k1,if_neg (fun q=>k1 q.1)]
     simp only[cond_false];exact QF (by omega) (by omega) rfl _
theorem VM{s:Sys}{c:Call}{i n:Nat}(h:SysB s)(hs:SysOk s)(hn:SN n)(hi:i<s.Tasks.length)(hno:s.Tasks[i].No=c.No):
 (c.Kind=7→MZ n s c (i:Int)=some ((AA (Cr s c s.Tasks[i]).1,(Cr s c s.Tasks[i]).2,()),()))∧(c.Kind=8→Mc n s c (i:Int)=some ((AA (Cr s c s.Tasks[i]).1,(Cr s c s.Tasks[i]).2,()),())):=by
 obtain⟨b1,b2,b3,b4,b5⟩:=h.lbnd hn;obtain⟨c1,c2,c3⟩:=h.lk hn;have hn2:=hn.two;have hb2:=DQ;have hl5:=hs.locks.1;have hnn:=(hs.tasks.each _ (List.getElem_mem hi)).no;unfold MZ Mc Cr;rw[BI];simp only[Option.bind_some,←hno]
 by_cases hA: ¬(0≤c.A∧c.A≤4)
 ·rw[decide_eq_false hA,if_pos hA];exact⟨fun _=>rfl,fun _=>rfl⟩
 have hA':=Decidable.not_not.1 hA;rw[decide_eq_true hA',if_neg hA];obtain⟨j,hj⟩:=Int.eq_ofNat_of_zero_le hA'.1;have hjl:j<s.Locks.length:=by omega
 have hm:=List.getElem_mem hjl;rw[hj];simp only[Bool.not_true,cond_false,AD hi,AD hjl,AF,Bool.and_self,cond_true,AE hi,Ab hi,AE hjl,Ab hjl,Int.toNat_natCast,E0 c1 c2 c3,Option.bind_some]
 by_cases h1:s.Tasks[i].State=2
 ·rw[decide_eq_true h1,if_pos (.inl h1)];exact⟨fun _=>rfl,fun _=>rfl⟩
 rw[decide_eq_false h1];have w:=F3 s.Locks s.Tasks[i].No;cases hw:waits s.Locks s.Tasks[i].No with
 |true=>
  rw[hw]at w;rw[decide_eq_true (w.2 rfl),if_pos (.inr (.inl rfl))];exact⟨fun _=>rfl,fun _=>rfl⟩
 |false=>
  rw[hw]at w;have hwn:Bf s.Locks s.Tasks[i].No=none:=by
   unfold waits at hw;exact Option.isNone_iff_eq_none.1 (by simpa using hw)
  rw[decide_eq_false (fun q=>by have:=w.1 q;cases this)]
  simp only[cond_false];refine⟨fun k7=> ?_,fun k8=> ?_⟩
  · have k8: ¬c.Kind=8:=by omega
    by_cases ho:s.Locks[j].Owner=s.Tasks[i].No
    ·rw[if_pos (.inr (.inr ⟨fun _=>k7,fun _=>ho⟩)),decide_eq_true ho];rfl
    · rw[if_neg (by rintro(q|q|q);exact h1 q;cases q;exact ho (q.2 k7)),if_neg k8,decide_eq_false ho]
      simp only[cond_false,m8 (s:=s) (k:=(j:Int)) (no:=s.Tasks[i].No) (n:=n) (by omega) (by omega) b5,Option.bind_some]
      cases hsc:Gx s (j:Int) s.Tasks[i].No with
      |false=>rw[if_pos rfl];rfl
      |true=>
       rw[if_neg (by simp)]
       simp only[Bool.not_true,cond_false,mu h.tl.locks hn2 hb2 hs.locks.2.1 hjl hnn ho hwn,Option.bind_some];cases ha:(DP s.Locks j s.Tasks[i].No).2 with
       |false=>simp
       |true=>
        by_cases hz:s.Locks[j].Owner=0<;>simp[hz]
  · have k7: ¬c.Kind=7:=by omega
    by_cases ho:s.Locks[j].Owner=s.Tasks[i].No
    · rw[if_neg (by rintro(q|q|q);exact h1 q;cases q;exact k7 (q.1 ho)),if_pos k8]
      have hbest:=Qy hs.tasks (Sg (hs.locks.2.2 _ hm) (hs.locks.2.1.own _ hm).2);have hwl:s.Locks[j].Waits.length≤big:=h.small.waits _ hm;simp only[decide_eq_true ho,Bool.not_true,cond_false,mh (ts:=s.Tasks) (l:=s.Locks[j].Waits) (n:=n) (by omega) (by omega) (by omega) (by omega),Option.bind_some,
       mw (no:=s.Tasks[i].No) (next:=Dj s.Tasks s.Locks[j].Waits) h.tl.locks hn2 hb2 hs.locks.2.1 hjl (by omega) ho (hbest.imp id id)]
    ·rw[if_pos (.inr (.inr ⟨fun q=>absurd q ho,fun q=>absurd q k7⟩)),decide_eq_false ho];rfl
theorem nL{s:Sys}{c:Call}{i n:Nat}(h:SysB s)(hs:SysOk s)(hn:SN n)(hi:i<s.Tasks.length)(k10: ¬c.Kind=9):Ma n s c (i:Int)=some ((AA (C5 s c i s.Tasks[i]).1,(C5 s c i s.Tasks[i]).2,()),()):=by
 obtain⟨b1,b2,b3,b4,b5⟩:=h.lbnd hn;obtain⟨c1,c2,c3⟩:=h.lk hn;have hL:s.Locks.length<n:=by have:=h.small.locks;omega
 have hcp:=hs.cpus;have hfl:=hs.flen;have ht:=hs.floor (List.getElem_mem hi);have ew:w64 (s.Cpus-1)=s.Cpus-1:=AO (by omega) (by omega)
 unfold Ma C5;simp only[AD hi,AF,Bool.and_self,cond_true,AE hi,Ab hi,Int.toNat_natCast,decide_eq_true hi,U9 hL b5,E0 c1 c2 c3,BI,mn,dnTask_up,ew,Option.bind_some]
 by_cases k1:s.Tasks[i].Class≠3
 ·rw[if_pos k1,decide_eq_false k1];rfl
 have k1':s.Tasks[i].Class=3:=Decidable.not_not.1 k1;rw[if_neg k1,decide_eq_true k1',if_neg k10];simp only[Bool.not_true,cond_false];have w:=F3 s.Locks s.Tasks[i].No;cases ho:EE s.Locks s.Tasks[i].No with
 |true=>simp
 |false=>
  cases hw:waits s.Locks s.Tasks[i].No with
  |true=>rw[hw]at w;rw[decide_eq_true (w.2 rfl)];simp
  |false=>
   rw[hw]at w;rw[decide_eq_false (fun q=>by have:=w.1 q;cases this)]
   by_cases hc:0≤c.Cpu∧c.Cpu≤s.Cpus-1
   · have e1:Cp s s.Tasks[i].Cpu=s.Floors.getD s.Tasks[i].Cpu.toNat (Kd.dflt .int):=by unfold Cp;rw[if_pos (by omega)];rfl
     have e2:Cp s c.Cpu=s.Floors.getD c.Cpu.toNat (Kd.dflt .int):=by unfold Cp;rw[if_pos (by omega)];rfl
     rw[decide_eq_true hc,decide_eq_true ht.1,decide_eq_true ht.2.1,decide_eq_true hc.1,decide_eq_true (show c.Cpu<(s.Floors.length:Int) by omega),e1,e2]
     simp[hc]
   · rw[decide_eq_false hc]
     simp[hc]
theorem nF{s:Sys}{a n:Nat}(h:SysB s)(hs:SysOk s)(hn:SN n)(ha:a<n)(ha2:a<Aa):MV n s (a:Int)=some ((AA (BZ a s 0).1,((BZ a s 0).2:Int),()),()):=by
 have hb:=h.small;unfold MV;rw[Is h hn,decide_eq_true hs];simp only[Option.bind_some,Bool.not_true,cond_false,KZ hb (show big<n by unfold SN at hn;omega) BM,dnSys_up]
 have key: ∀(d m k:Nat) (v:Sys) (x:Sys),k+d=a→d<m→SysOk v→IN n m (a:Int) x v (k:Int)
  (fun w8 w9 w10 w11 w12 w13 w14 w15 w16 w17 w18 w19 w20 w21 w22=>
   some (((AA (⟨w10,w11,w18,w19,w20,w21,w12,w13,w22⟩:Sys)),w8,()),()))
  (fun w23 w24 w25 w26 w27 w28 w29 w30 w31 w32=>
   some (((AA (⟨w24,w25,w28,w29,w30,w31,w26,w27,w32⟩:Sys)),w23,()),()))=some ((AA (BZ d v k).1,((BZ d v k).2:Int),()),()):=by
  intro d
  induction d with
  |zero=>
   intro m k v x hk hm hv;obtain⟨m,rfl⟩: ∃q,m=q+1:=⟨m-1,by omega⟩
   have:k=a:=by omega
   subst this;simp only[IN,AP,cond_false,BZ]
  |succ d ih=>
   intro m k v x hk hm hv;obtain⟨m,rfl⟩: ∃q,m=q+1:=⟨m-1,by omega⟩
   have hka:k<a:=by omega
   simp only[IN,AD hka,cond_true,nD (VV hv) hn,Option.bind_some,dnSys_up,AG (show k<Aa by omega)]
   unfold BZ
   by_cases hc:BR v
   · have e:BY v=(DL v,true):=by unfold BY;rw[if_pos hv,if_pos hc]
     rw[e,if_pos hc];simp only[Bool.not_true,cond_false];exact ih m (k+1) (DL v) _ (by omega) (by omega) (QU hv hc)
   · have e:BY v=(v,false):=by unfold BY;rw[if_pos hv,if_neg hc]
     rw[e,if_neg hc];rfl
 exact key a n 0 s _ (by omega) ha hs
end Go.Proofs.YtbbgaleennfklaaGreat.VR
end
section
set_option linter.unusedVariables false
set_option linter.unusedSimpArgs false
namespace Go.Proofs.YtbbgaleennfklaaGreat.VR
open Go
theorem Ry(i:Nat):idx (some i)=(i:Int):=rfl
theorem Yt{c:Call}(h:C1 c=true):1≤c.Kind∧c.Kind≤11:=by
 unfold C1 at h;split at h
 ·omega
 split at h
 ·omega
 split at h
 ·omega
 split at h
 ·omega
 split at h
 ·omega
 split at h
 ·omega
 ·cases h
theorem nJ{s:Sys}{c:Call}{n:Nat}(h:SysB s)(hs:SysOk s)(hn:SN n)(hc:C1 c=true):MX n s c=some ((AA (CO s c).1,(CO s c).2,()),()):=by
 obtain⟨b1,b2,b3,b4,b5⟩:=h.lbnd hn;obtain⟨c1,c2,c3⟩:=h.lk hn;have hk:=hn.k;have hkd:=Yt hc;unfold MX CO
 by_cases k3:c.Kind≤3
 · have k11: ¬c.Kind=11:=by omega
   rw[decide_eq_true k3,if_neg k11,if_pos ⟨hkd.1,k3⟩,nM h hs hn];rfl
 rw[decide_eq_false k3];simp only[cond_false]
 by_cases k11:c.Kind=11
 · rw[decide_eq_true k11,if_pos k11]
   unfold G1;simp only[cond_true,BI,Option.bind_some]
   by_cases ha:1≤c.A∧c.A≤50
   · rw[decide_eq_true ha,if_pos ha]
     obtain⟨m,hm⟩:=Int.eq_ofNat_of_zero_le (show 0≤c.A by omega)
     rw[hm];have hmn:m<n:=by omega
     simp only[Bool.not_true,cond_false,nF h hs hn hmn (show m<Aa by unfold Aa;omega),Option.bind_some,Int.toNat_natCast,dnSys_up]
     by_cases hl:(BZ m s 0).2<m
     ·rw[if_pos hl,decide_eq_true (show((BZ m s 0).2:Int)<(m:Int) by omega)];rfl
     ·rw[if_neg hl,decide_eq_false (show¬((BZ m s 0).2:Int)<(m:Int) by omega)];rfl
   ·rw[decide_eq_false ha,if_neg ha];rfl
 rw[decide_eq_false k11,if_neg k11,if_neg (fun q=>k3 q.2)]
 simp only[cond_false,F1 (ts:=s.Tasks) (no:=c.No) (n:=n) (by omega) (by omega),Option.bind_some,Cq]
 cases e:AY s.Tasks c.No with
 |none=>rfl
 |some i=>
  obtain⟨hi,hno⟩:=B5 e;have w:=F3 s.Locks s.Tasks[i].No;have hg:(decide (0≤idx (some i))&&decide (idx (some i)<(s.Tasks.length:Int)))=true:=by rw[Ry,AF,AD hi];rfl
  simp only[Option.isNone_some,cond_false,hg,cond_true];simp only[Ry,AE hi,Ab hi,Int.toNat_natCast,decide_eq_true hi,E0 c1 c2 c3,Option.bind_some,nK h hs hn hi,←hno,QE,dnSys_up];unfold EI
  by_cases k4:c.Kind=4
  · rw[decide_eq_true k4,if_pos k4]
    by_cases h2:s.Tasks[i].State=2
    ·simp[h2]
    · cases hw:waits s.Locks s.Tasks[i].No with
      |true=>rw[hw]at w;rw[decide_eq_true (w.2 rfl)];simp
      |false=>
       rw[hw]at w;have w2: ¬(0≤idx (Bf s.Locks s.Tasks[i].No)):=fun q=>by have:=w.1 q;cases this
       rw[decide_eq_false h2,decide_eq_false w2];simp[h2,hi]
  rw[decide_eq_false k4,if_neg k4];simp only[cond_false]
  by_cases k5:c.Kind=5
  · rw[decide_eq_true k5,if_pos k5]
    by_cases h2:s.Tasks[i].State=2<;>simp[h2,hi]
  rw[decide_eq_false k5,if_neg k5];simp only[cond_false]
  by_cases k6:c.Kind=6
  ·rw[decide_eq_true k6,if_pos k6];rfl
  rw[decide_eq_false k6,if_neg k6];simp only[cond_false]
  by_cases k7:c.Kind=7
  ·rw[decide_eq_true k7,if_pos (.inl k7),(VM h hs hn hi hno).1 k7];rfl
  rw[decide_eq_false k7];simp only[cond_false]
  by_cases k8:c.Kind=8
  ·rw[decide_eq_true k8,if_pos (.inr k8),(VM h hs hn hi hno).2 k8];rfl
  rw[decide_eq_false k8,if_neg (by omega)]
  simp only[cond_false]
  by_cases k9:c.Kind=9
  · rw[decide_eq_true k9]
    unfold C5
    by_cases q1:s.Tasks[i].Class=3
    · rw[decide_eq_true q1,if_neg (fun q=>q q1),if_pos k9]
      by_cases hN:Bz c.A<;>simp[hN,hi]
    ·rw[decide_eq_false q1,if_pos q1];rfl
  · have k10:c.Kind=10:=by omega
    rw[decide_eq_false k9,decide_eq_true k10,nL h hs hn hi k9];rfl
theorem Wp{s:Sys}{c:Call}:(CO s c).2≠0→(CO s c).1=s:=by
 unfold CO;refine Ci ?_ (Ci Sl ?_)
 · unfold G1
   refine Ci (Ci (fun _=>rfl) (fun h=>absurd rfl h)) (fun _=>rfl)
 · cases AY s.Tasks c.No with
   |none=>exact fun _=>rfl
   |some i=>exact VX
theorem VA{s:Sys}{c:Call}{n:Nat}(h:SysB s)(hn:SN n):Jt n s c=some ((AA (Bj s c).1,(Bj s c).2,()),()):=by
 have hb:=h.small;have hbn:big<n:=by unfold SN at hn;omega
 unfold Jt Bj;rw[Is h hn];simp only[Option.bind_some,mi]
 by_cases hs:SysOk s
 · rw[decide_eq_true hs]
   simp only[Bool.not_true,cond_false];cases hc:C1 c with
   |true=>
    rw[if_pos ⟨hs,rfl⟩];simp only[Bool.not_true,cond_false,KZ hb hbn BM,VL hb hbn BM,Option.bind_some,dnSys_up,nJ h hs hn hc]
    by_cases hz:(CO s c).2=0
    ·rw[decide_eq_true hz];rfl
    ·rw[decide_eq_false hz,Wp hz];rfl
   |false=>rw[if_neg (fun q=>by cases q.2)];rfl
 ·rw[decide_eq_false hs,if_neg (fun q=>hs q.1)];rfl
end Go.Proofs.YtbbgaleennfklaaGreat.VR
end
