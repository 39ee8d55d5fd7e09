/- Functions, printed by program (wip/gen/emit.py). -/
import Derived.Test.YtbbgaleennfklaaGreatA12
section
set_option linter.unusedVariables false
set_option maxRecDepth 100000
namespace Go.Proofs.YtbbgaleennfklaaGreat.VR
open Go
def Mc(n:Nat)(a0:Sys)(a1:Call)(a2:Int):Option ((Ah×Int×Unit)×Unit):=(Ag a1.A 0 4).bind fun r1=>cond (!r1.1) (some (((AA a0),2,()),())) (cond (decide (0≤a2)&&decide (a2<(a0.Tasks.length:Int))) (let e2:=(decide ((List.getD a0.Tasks (Int.toNat a2) (Kd.dflt .task)).State=2));cond e2 (some (((AA a0),5,()),())) ((DW n a0.Locks a1.No).bind fun r3=>cond (decide (0≤r3.1)) (some (((AA a0),5,()),())) (cond (decide (0≤a1.A)&&decide (a1.A<(a0.Locks.length:Int))) (let e4:=(!(decide ((List.getD a0.Locks (Int.toNat a1.A) (Kd.dflt .lock)).Owner=a1.No)));cond e4 (some (((AA a0),5,()),())) (cond (decide (0≤a1.A)&&decide (a1.A<(a0.Locks.length:Int))) ((L8 n a0.Tasks ((List.getD a0.Locks (Int.toNat a1.A) (Kd.dflt .lock)).Waits)).bind fun r5=>(MK n a0.Locks a1.A a1.No r5.1).bind fun r6=>some (((AA (⟨a0.Now,a0.Cpus,a0.Tasks,r6.1.1,a0.Ghosts,a0.Floors,a0.Seq,a0.Missed,a0.Trace⟩:Sys)),0,()),())) none)) none))) none)
def jU(n:Nat):Rw:=⟨142,pA [.agg (pA [.v .int,.v .int,.own .task,.own .lock,.own .ghost,.own .int,.v .int,.v .int,.own .turn]),.v Ba,.v .int],DI,fun x=>Mc n (AC x.1) (Az x.2.1) x.2.2.1⟩
theorem jV(n:Nat):RO (jU n):=
 rE ⟨Go.Proofs.Tryz.f142,⟨[(0,[(0,.slot 5 .int),(1,.slot 6 .int),(2,.slot 7 .int)]),(1,[(2,cl 3 .bool 0)]),(3,[(12,cl 2 .int 0)]),(5,[(15,cl 2 .int 0),(16,Tf)])],[(3,dr 27 [(0,[5],[]),(1,[5],[]),(3,[0],[]),(4,[0],[]),(5,[0],[]),(8,[5],[]),(9,[5],[]),(10,[6],[]),(11,[6],[]),(12,[1],[]),(16,[5],[]),(17,[5],[]),(18,[6],[]),(19,[6],[]),(20,[1],[]),(21,[1],[]),(22,[1],[]),(23,[6],[]),(24,[6],[])]),(5,dr 22 [(0,[5],[]),(1,[5],[]),(2,[6],[]),(3,[6],[]),(4,[6],[]),(5,[6],[]),(6,[5],[]),(7,[5],[]),(8,[5],[]),(9,[5],[]),(10,[6],[]),(11,[6],[]),(12,[1],[]),(13,[1],[]),(14,[1],[]),(15,[0,1],[]),(16,[1,8],[8]),(20,[5],[]),(21,[5,8],[5])])],[]⟩,9⟩ n (ec Bi (ec (Fy n) (ec (gy n) (ec (iV n) en)))) Go.Proofs.Tryz.func142 (by kernel_rfl) (fun x=>by kernel_rfl)
def Ma(n:Nat)(a0:Sys)(a1:Call)(a2:Int):Option ((Ah×Int×Unit)×Unit):=cond (decide (0≤a2)&&decide (a2<(a0.Tasks.length:Int))) (let e1:=(!(decide ((List.getD a0.Tasks (Int.toNat a2) (Kd.dflt .task)).Class=3)));cond e1 (some (((AA a0),5,()),())) ((Js n a0.Locks ((List.getD a0.Tasks (Int.toNat a2) (Kd.dflt .task)).No)).bind fun r2=>cond r2.1 (some (((AA a0),5,()),())) ((DW n a0.Locks ((List.getD a0.Tasks (Int.toNat a2) (Kd.dflt .task)).No)).bind fun r3=>cond (decide (0≤r3.1)) (some (((AA a0),5,()),())) ((Ag a1.Cpu 0 (w64 (a0.Cpus-1))).bind fun r4=>cond (!r4.1) (some (((AA a0),1,()),())) (cond ((decide (0≤(List.getD a0.Tasks (Int.toNat a2) (Kd.dflt .task)).Cpu))&&(decide ((List.getD a0.Tasks (Int.toNat a2) (Kd.dflt .task)).Cpu<(a0.Floors.length:Int)))) (let e5:=(List.getD a0.Floors (Int.toNat (List.getD a0.Tasks (Int.toNat a2) (Kd.dflt .task)).Cpu) (Kd.dflt .int));cond (decide (0≤a1.Cpu)&&decide (a1.Cpu<(a0.Floors.length:Int))) ((MD (List.getD a0.Tasks (Int.toNat a2) (Kd.dflt .task)) a1.Cpu e5 (List.getD a0.Floors (Int.toNat a1.Cpu) (Kd.dflt .int))).bind fun r6=>cond (decide (0≤a2)&&decide (a2<(a0.Tasks.length:Int))) (cond (decide ((Int.toNat a2)<(a0.Tasks).length)) (some (((AA (⟨a0.Now,a0.Cpus,(List.set a0.Tasks (Int.toNat a2) (AK r6.1)),a0.Locks,a0.Ghosts,a0.Floors,a0.Seq,a0.Missed,a0.Trace⟩:Sys)),0,()),())) none) none) none) none))))) none
def jQ(n:Nat):Rw:=⟨144,pA [.agg (pA [.v .int,.v .int,.own .task,.own .lock,.own .ghost,.own .int,.v .int,.v .int,.own .turn]),.v Ba,.v .int],DI,fun x=>Ma n (AC x.1) (Az x.2.1) x.2.2.1⟩
theorem jR(n:Nat):RO (jQ n):=
 rE ⟨Go.Proofs.Tryz.f144,⟨[(0,[(0,.slot 5 .int),(1,.slot 6 .int),(2,.slot 7 .int)]),(1,[(5,.slot 8 .int)]),(2,[(8,cl 2 .bool 0),(15,cl 2 .int 0)]),(4,[(5,cl 3 .bool 0)]),(6,[(18,Tg)])],[(6,dr 21 [(0,[5],[]),(1,[5],[]),(3,[8],[]),(4,[6],[]),(5,[6],[]),(6,[5],[]),(7,[5],[]),(8,[8],[]),(9,[8],[]),(10,[3],[]),(11,[3],[]),(12,[5],[]),(13,[5],[]),(14,[6],[]),(15,[6],[]),(16,[3],[]),(17,[3],[]),(19,[0],[]),(20,[0],[0])])],[]⟩,9⟩ n (ec (UX n) (ec (Fy n) (ec Bi (ec iE en)))) Go.Proofs.Tryz.func144 (by kernel_rfl) (fun x=>by kernel_rfl)
def MX(n:Nat)(a0:Sys)(a1:Call):Option ((Ah×Int×Unit)×Unit):=cond (decide (a1.Kind≤3)) ((Mb n a0 a1).bind fun r1=>some (((AA (AC r1.1.1)),r1.1.2.1,()),())) (cond (decide (a1.Kind=11)) ((Ag a1.A 1 50).bind fun r2=>cond (!r2.1) (some (((AA a0),1,()),())) ((MV n a0 a1.A).bind fun r3=>cond (decide (r3.1.2.1<a1.A)) (some (((AA a0),4,()),())) (some (((AA (AC r3.1.1)),0,()),())))) ((CF n a0.Tasks a1.No).bind fun r4=>cond (decide (r4.1<0)) (some (((AA a0),2,()),())) (cond (decide (0≤r4.1)&&decide (r4.1<(a0.Tasks.length:Int))) (cond (decide (a1.Kind=4)) (let e5:=(decide ((List.getD a0.Tasks (Int.toNat r4.1) (Kd.dflt .task)).State=2));cond e5 (some (((AA a0),5,()),())) ((DW n a0.Locks a1.No).bind fun r6=>cond (decide (0≤r6.1)) (some (((AA a0),5,()),())) (cond (decide (0≤r4.1)&&decide (r4.1<(a0.Tasks.length:Int))) (cond (decide ((Int.toNat r4.1)<(a0.Tasks).length)) (let e7:=(List.set a0.Tasks (Int.toNat r4.1) (⟨(List.getD a0.Tasks (Int.toNat r4.1) (Kd.dflt .task)).No,(List.getD a0.Tasks (Int.toNat r4.1) (Kd.dflt .task)).Class,(List.getD a0.Tasks (Int.toNat r4.1) (Kd.dflt .task)).Cpu,2,(List.getD a0.Tasks (Int.toNat r4.1) (Kd.dflt .task)).Idle,(List.getD a0.Tasks (Int.toNat r4.1) (Kd.dflt .task)).Q,(List.getD a0.Tasks (Int.toNat r4.1) (Kd.dflt .task)).P,(List.getD a0.Tasks (Int.toNat r4.1) (Kd.dflt .task)).Left,(List.getD a0.Tasks (Int.toNat r4.1) (Kd.dflt .task)).Due,(List.getD a0.Tasks (Int.toNat r4.1) (Kd.dflt .task)).Prio,(List.getD a0.Tasks (Int.toNat r4.1) (Kd.dflt .task)).Round,(List.getD a0.Tasks (Int.toNat r4.1) (Kd.dflt .task)).Seq,(List.getD a0.Tasks (Int.toNat r4.1) (Kd.dflt .task)).Nice,(List.getD a0.Tasks (Int.toNat r4.1) (Kd.dflt .task)).V⟩:Task));some (((AA (⟨a0.Now,a0.Cpus,e7,a0.Locks,a0.Ghosts,a0.Floors,a0.Seq,a0.Missed,a0.Trace⟩:Sys)),0,()),())) none) none))) (cond (decide (a1.Kind=5)) (let e8:=(!(decide ((List.getD a0.Tasks (Int.toNat r4.1) (Kd.dflt .task)).State=2)));cond e8 (some (((AA a0),5,()),())) (cond (decide (0≤r4.1)&&decide (r4.1<(a0.Tasks.length:Int))) (cond (decide ((Int.toNat r4.1)<(a0.Tasks).length)) (let e9:=(List.set a0.Tasks (Int.toNat r4.1) (⟨(List.getD a0.Tasks (Int.toNat r4.1) (Kd.dflt .task)).No,(List.getD a0.Tasks (Int.toNat r4.1) (Kd.dflt .task)).Class,(List.getD a0.Tasks (Int.toNat r4.1) (Kd.dflt .task)).Cpu,1,(List.getD a0.Tasks (Int.toNat r4.1) (Kd.dflt .task)).Idle,(List.getD a0.Tasks (Int.toNat r4.1) (Kd.dflt .task)).Q,(List.getD a0.Tasks (Int.toNat r4.1) (Kd.dflt .task)).P,(List.getD a0.Tasks (Int.toNat r4.1) (Kd.dflt .task)).Left,(List.getD a0.Tasks (Int.toNat r4.1) (Kd.dflt .task)).Due,(List.getD a0.Tasks (Int.toNat r4.1) (Kd.dflt .task)).Prio,(List.getD a0.Tasks (Int.toNat r4.1) (Kd.dflt .task)).Round,(List.getD a0.Tasks (Int.toNat r4.1) (Kd.dflt .task)).Seq,(List.getD a0.Tasks (Int.toNat r4.1) (Kd.dflt .task)).Nice,(List.getD a0.Tasks (Int.toNat r4.1) (Kd.dflt .task)).V⟩:Task));some (((AA (⟨a0.Now,a0.Cpus,e9,a0.Locks,a0.Ghosts,a0.Floors,a0.Seq,a0.Missed,a0.Trace⟩:Sys)),0,()),())) none) none)) (cond (decide (a1.Kind=6)) ((MY n a0 r4.1).bind fun r10=>some (((AA (AC r10.1.1)),r10.1.2.1,()),())) (cond (decide (a1.Kind=7)) ((MZ n a0 a1 r4.1).bind fun r11=>some (((AA (AC r11.1.1)),r11.1.2.1,()),())) (cond (decide (a1.Kind=8)) ((Mc n a0 a1 r4.1).bind fun r12=>some (((AA (AC r12.1.1)),r12.1.2.1,()),())) (cond (decide (a1.Kind=9)) (let e13:=(!(decide ((List.getD a0.Tasks (Int.toNat r4.1) (Kd.dflt .task)).Class=3)));cond e13 (some (((AA a0),5,()),())) ((GR a1.A).bind fun r14=>cond (!r14.1) (some (((AA a0),1,()),())) (cond (decide (0≤r4.1)&&decide (r4.1<(a0.Tasks.length:Int))) (cond (decide ((Int.toNat r4.1)<(a0.Tasks).length)) (let e15:=(List.set a0.Tasks (Int.toNat r4.1) (⟨(List.getD a0.Tasks (Int.toNat r4.1) (Kd.dflt .task)).No,(List.getD a0.Tasks (Int.toNat r4.1) (Kd.dflt .task)).Class,(List.getD a0.Tasks (Int.toNat r4.1) (Kd.dflt .task)).Cpu,(List.getD a0.Tasks (Int.toNat r4.1) (Kd.dflt .task)).State,(List.getD a0.Tasks (Int.toNat r4.1) (Kd.dflt .task)).Idle,(List.getD a0.Tasks (Int.toNat r4.1) (Kd.dflt .task)).Q,(List.getD a0.Tasks (Int.toNat r4.1) (Kd.dflt .task)).P,(List.getD a0.Tasks (Int.toNat r4.1) (Kd.dflt .task)).Left,(List.getD a0.Tasks (Int.toNat r4.1) (Kd.dflt .task)).Due,(List.getD a0.Tasks (Int.toNat r4.1) (Kd.dflt .task)).Prio,(List.getD a0.Tasks (Int.toNat r4.1) (Kd.dflt .task)).Round,(List.getD a0.Tasks (Int.toNat r4.1) (Kd.dflt .task)).Seq,a1.A,(List.getD a0.Tasks (Int.toNat r4.1) (Kd.dflt .task)).V⟩:Task));some (((AA (⟨a0.Now,a0.Cpus,e15,a0.Locks,a0.Ghosts,a0.Floors,a0.Seq,a0.Missed,a0.Trace⟩:Sys)),0,()),())) none) none))) (cond (decide (a1.Kind=10)) ((Ma n a0 a1 r4.1).bind fun r16=>some (((AA (AC r16.1.1)),r16.1.2.1,()),())) (some (((AA a0),0,()),()))))))))) none)))
def jK(n:Nat):Rw:=⟨68,pA [.agg (pA [.v .int,.v .int,.own .task,.own .lock,.own .ghost,.own .int,.v .int,.v .int,.own .turn]),.v Ba],DI,fun x=>MX n (AC x.1) (Az x.2.1)⟩
theorem jL(n:Nat):RO (jK n):=
 rE ⟨Go.Proofs.Tryz.f68,⟨[(0,[(0,.slot 5 .int),(1,.slot 6 .int),(2,.slot 7 .int)]),(2,[(2,(.call [.mv,.ro] (.tup Cv) [] [some 8,some 9,some 10,some 11,some 12]))]),(4,[(2,cl 3 .bool 0)]),(6,[(3,(.call [.ro,.ro] (.tup Cv) [] [some 13,some 14,some 15,some 16,some 17])),(7,.slot 18 .int)]),(10,[(4,cl 2 .int 0)]),(13,[(5,.slot 19 .int)]),(16,[(8,cl 2 .int 0)]),(24,[(2,(.call [.mv,.ro] (.tup Cv) [] [some 20,some 21,some 22,some 23,some 24]))]),(26,[(3,(.call [.mv,.ro,.ro] (.tup Cv) [] [some 25,some 26,some 27,some 28,some 29]))]),(28,[(3,(.call [.mv,.ro,.ro] (.tup Cv) [] [some 30,some 31,some 32,some 33,some 34]))]),(32,[(2,cl 1 .bool 0)]),(36,[(3,(.call [.mv,.ro,.ro] (.tup Cv) [] [some 35,some 36,some 37,some 38,some 39]))])],[],[]⟩,40⟩ n (ec (jT n) (ec Bi (ec (i6 n) (ec (Gu n) (ec (Fy n) (ec (jN n) (ec (jP n) (ec (jV n) (ec NM (ec (jR n) en)))))))))) Go.Proofs.Tryz.func68 (by kernel_rfl) (fun x=>by kernel_rfl)
def Jt(n:Nat)(a0:Sys)(a1:Call):Option ((Ah×Int×Unit)×Unit):=(EU n a0).bind fun r1=>cond (!r1.1) (some (((AA (⟨0,0,[],[],[],[],0,0,[]⟩:Sys)),1,()),())) ((L9 a1).bind fun r2=>cond (!r2.1) (some (((AA (⟨0,0,[],[],[],[],0,0,[]⟩:Sys)),1,()),())) ((FN n a0).bind fun r3=>(MX n (AC r3.1) a1).bind fun r4=>cond (!(decide (r4.1.2.1=0))) ((Jy n a0).bind fun r5=>some (((AA (AC r5.1)),r4.1.2.1,()),())) (some (((AA (AC r4.1.1)),r4.1.2.1,()),()))))
def it(n:Nat):Rw:=⟨16,pV [Ae,Ba],Tl,fun x=>Jt n (AX x.1) (Az x.2.1)⟩
theorem UY(n:Nat):RO (it n):=
 rE ⟨Go.Proofs.Tryz.f16,⟨[(0,[(0,.slot 0 .int),(1,.slot 1 .int),(2,.slot 2 .int)]),(1,[(1,cl 1 .bool 0),(5,cl 1 .bool 0)]),(3,[(1,Th),(3,(.call [.mv,.ro] (.tup Cv) [] [none,none,none,none,none])),(7,.slot 8 .int)]),(5,[(1,Ti)])],[(3,dr 10 [(0,[0],[]),(1,[3,4,5,6,7],[3,4,5,6,7]),(2,[1],[]),(3,[3,4,5,6,7],[3,4,5,6,7]),(7,[8],[8]),(8,[8],[8])])],[]⟩,9⟩ n (ec (Ik n) (ec g5 (ec (KQ n) (ec (jL n) (ec (Ug n) en))))) Go.Proofs.Tryz.func16 (by kernel_rfl) (fun x=>by kernel_rfl)
def JA(a0:Call):Option (Bool×Unit):=cond (decide (a0.Kind=1)) (let e1:=((decide (a0.Kind=a0.Kind))&&((decide (a0.No=a0.No))&&((decide (a0.Cpu=a0.Cpu))&&((decide (a0.A=a0.A))&&((decide (a0.B=a0.B))&&true)))));some (e1,())) (cond (decide (a0.Kind=2)) (let e2:=((decide (a0.Kind=a0.Kind))&&((decide (a0.No=a0.No))&&((decide (a0.Cpu=a0.Cpu))&&((decide (a0.A=a0.A))&&((decide (a0.B=a0.B))&&true)))));some (e2,())) (cond (decide (a0.Kind=3)) (let e3:=((decide (a0.Kind=a0.Kind))&&((decide (a0.No=a0.No))&&((decide (a0.Cpu=a0.Cpu))&&((decide (a0.A=a0.A))&&((decide (a0.B=0))&&true)))));some (e3,())) (cond (decide (a0.Kind=4)) (let e4:=((decide (a0.Kind=a0.Kind))&&((decide (a0.No=a0.No))&&((decide (a0.Cpu=0))&&((decide (a0.A=0))&&((decide (a0.B=0))&&true)))));some (e4,())) (cond (decide (a0.Kind=5)) (let e5:=((decide (a0.Kind=a0.Kind))&&((decide (a0.No=a0.No))&&((decide (a0.Cpu=0))&&((decide (a0.A=0))&&((decide (a0.B=0))&&true)))));some (e5,())) (cond (decide (a0.Kind=6)) (let e6:=((decide (a0.Kind=a0.Kind))&&((decide (a0.No=a0.No))&&((decide (a0.Cpu=0))&&((decide (a0.A=0))&&((decide (a0.B=0))&&true)))));some (e6,())) (cond (decide (a0.Kind=7)) (let e7:=((decide (a0.Kind=a0.Kind))&&((decide (a0.No=a0.No))&&((decide (a0.Cpu=0))&&((decide (a0.A=a0.A))&&((decide (a0.B=0))&&true)))));some (e7,())) (cond (decide (a0.Kind=8)) (let e8:=((decide (a0.Kind=a0.Kind))&&((decide (a0.No=a0.No))&&((decide (a0.Cpu=0))&&((decide (a0.A=a0.A))&&((decide (a0.B=0))&&true)))));some (e8,())) (cond (decide (a0.Kind=9)) (let e9:=((decide (a0.Kind=a0.Kind))&&((decide (a0.No=a0.No))&&((decide (a0.Cpu=0))&&((decide (a0.A=a0.A))&&((decide (a0.B=0))&&true)))));some (e9,())) (cond (decide (a0.Kind=10)) (let e10:=((decide (a0.Kind=a0.Kind))&&((decide (a0.No=a0.No))&&((decide (a0.Cpu=a0.Cpu))&&((decide (a0.A=0))&&((decide (a0.B=0))&&true)))));some (e10,())) (cond (decide (a0.Kind=11)) (let e11:=((decide (a0.Kind=a0.Kind))&&((decide (a0.No=0))&&((decide (a0.Cpu=0))&&((decide (a0.A=a0.A))&&((decide (a0.B=0))&&true)))));some (e11,())) (some (false,()))))))))))))
def aG:Rw:=⟨69,pV [Ba],pS [.bool],fun x=>JA (Az x.1)⟩
theorem Tz:RO (aG):=
 rE ⟨Go.Proofs.Tryz.f69,⟨[(0,[(0,.slot 0 .int)]),(1,[(5,.slot 1 .int)])],[(8,dr 8 [(0,[0],[]),(1,[0],[]),(2,[0],[]),(3,[0],[]),(4,[1],[]),(5,[1],[1]),(6,[1],[]),(7,[1],[1])])],[]⟩,2⟩ 0 en Go.Proofs.Tryz.func69 (by kernel_rfl) (fun x=>by kernel_rfl)
def HQ(a0:Task):Option ((A8×Bool×Unit)×Unit):=(Dn a0).bind fun r1=>cond (!r1.1) (some (((AN (⟨0,0,0,0,false,0,0,0,0,0,0,0,0,0⟩:Task)),false,()),())) (some (((AN a0),true,()),()))
def cz:Rw:=⟨235,pV [Ac],q68,fun x=>HQ (AK x.1)⟩
theorem Pu:RO (cz):=
 rE ⟨Go.Proofs.Tryz.f235,⟨[(0,[(0,.slot 0 .int),(1,.slot 1 .int)]),(1,[(1,cl 1 .bool 0)])],[],[]⟩,2⟩ 0 (ec Ii en) Go.Proofs.Tryz.func235 (by kernel_rfl) (fun x=>by kernel_rfl)
def LC(a0:Int)(a1:Int)(a2:Int)(a3:Int)(a4:Int):Option ((A8×Bool×Unit)×Unit):=(FH a4).bind fun r1=>cond (!r1.1) (some (((AN (⟨0,0,0,0,false,0,0,0,0,0,0,0,0,0⟩:Task)),false,()),())) ((FG (⟨a2,a3⟩:Share)).bind fun r2=>cond (!r2.1) (some (((AN (⟨0,0,0,0,false,0,0,0,0,0,0,0,0,0⟩:Task)),false,()),())) ((HQ (⟨a0,1,a1,1,false,a2,a3,a2,(w64 (a4+a3)),0,0,0,0,0⟩:Task)).bind fun r3=>some (((AN (AK r3.1.1)),r3.1.2.1,()),())))
def av:Rw:=⟨218,pV [.int,.int,.int,.int,.int],q68,fun x=>LC x.1 x.2.1 x.2.2.1 x.2.2.2.1 x.2.2.2.2.1⟩
theorem aw:RO (av):=
 rE ⟨Go.Proofs.Tryz.f218,⟨[(0,[(0,.slot 0 .int)]),(1,[(1,cl 1 .bool 0),(7,cl 1 .bool 0)]),(3,[(9,Ih)])],[],[]⟩,1⟩ 0 (ec NE (ec NB (ec Pu en))) Go.Proofs.Tryz.func218 (by kernel_rfl) (fun x=>by kernel_rfl)
def LE(a0:Int)(a1:Int)(a2:Int)(a3:Int)(a4:Int):Option ((A8×Bool×Unit)×Unit):=(HQ (⟨a0,2,a1,1,false,0,0,a3,0,a2,a3,a4,0,0⟩:Task)).bind fun r1=>some (((AN (AK r1.1.1)),r1.1.2.1,()),())
def az:Rw:=⟨219,pV [.int,.int,.int,.int,.int],q68,fun x=>LE x.1 x.2.1 x.2.2.1 x.2.2.2.1 x.2.2.2.2.1⟩
theorem bA:RO (az):=
 rE ⟨Go.Proofs.Tryz.f219,⟨[(0,[(0,.slot 0 .int)]),(1,[(7,Ih)])],[],[]⟩,1⟩ 0 (ec Pu en) Go.Proofs.Tryz.func219 (by kernel_rfl) (fun x=>by kernel_rfl)
def FD(a0:Sys)(a1:Int):Option (Int×Unit):=(Ap a1 0 (w64 ((a0.Floors.length:Int)-1))).bind fun r1=>cond (!r1.1) (some (0,())) (cond (decide (0≤a1)&&decide (a1<(a0.Floors.length:Int))) (some ((List.getD a0.Floors (Int.toNat a1) (Kd.dflt .int)),())) none)
def am:Rw:=⟨221,pV [Ae,.int],pS [.int],fun x=>FD (AX x.1) x.2.1⟩
theorem T3:RO (am):=
 rE ⟨Go.Proofs.Tryz.f221,⟨[(0,[(0,.slot 0 .int)]),(1,[(5,cl 3 .bool 0)])],[],[]⟩,1⟩ 0 (ec Bc en) Go.Proofs.Tryz.func221 (by kernel_rfl) (fun x=>by kernel_rfl)
def LD(a0:Int)(a1:Int)(a2:Int)(a3:Int):Option ((A8×Bool×Unit)×Unit):=(HQ (⟨a0,3,a1,1,false,0,0,0,0,0,0,0,a2,a3⟩:Task)).bind fun r1=>some (((AN (AK r1.1.1)),r1.1.2.1,()),())
def ax:Rw:=⟨220,pV [.int,.int,.int,.int],q68,fun x=>LD x.1 x.2.1 x.2.2.1 x.2.2.2.1⟩
theorem ay:RO (ax):=
 rE ⟨Go.Proofs.Tryz.f220,⟨[(0,[(0,.slot 0 .int)]),(1,[(5,Ih)])],[],[]⟩,1⟩ 0 (ec Pu en) Go.Proofs.Tryz.func220 (by kernel_rfl) (fun x=>by kernel_rfl)
def Lb(a0:Sys)(a1:Call):Option ((A8×Bool×Unit)×Unit):=cond (decide (a1.Kind=1)) ((LC a1.No a1.Cpu a1.A a1.B a0.Now).bind fun r1=>some (((AN (AK r1.1.1)),r1.1.2.1,()),())) (cond (decide (a1.Kind=2)) ((LE a1.No a1.Cpu a1.A a1.B (w64 (a0.Seq+1))).bind fun r2=>some (((AN (AK r2.1.1)),r2.1.2.1,()),())) ((FD a0 a1.Cpu).bind fun r3=>(LD a1.No a1.Cpu a1.A r3.1).bind fun r4=>some (((AN (AK r4.1.1)),r4.1.2.1,()),())))
def c6:Rw:=⟨193,pV [Ae,Ba],q68,fun x=>Lb (AX x.1) (Az x.2.1)⟩
theorem c7:RO (c6):=
 rE ⟨Go.Proofs.Tryz.f193,⟨[(0,[(0,.slot 0 .int),(1,.slot 1 .int),(2,.slot 2 .int)]),(3,[(10,M8)]),(5,[(11,M8)]),(6,[(9,cl 2 .int 0),(10,Te)])],[(6,dr 15 [(0,[1],[]),(1,[1],[]),(2,[1],[]),(3,[1],[]),(4,[1],[]),(5,[1],[]),(6,[0],[]),(7,[1],[]),(8,[1],[]),(13,[2],[2])])],[]⟩,3⟩ 0 (ec aw (ec bA (ec T3 (ec ay en)))) Go.Proofs.Tryz.func193 (by kernel_rfl) (fun x=>by kernel_rfl)
def FU{α:Type}(n:Nat):Nat→Int→Sys→List Share→List Task→Int→Int→(List Share→Option α)→Option α|0,_,_,_,_,_,_,_=>none|m0+1,v1,v2,v3,v4,v5,v6,k0_0=>cond (decide (v6<v5)) (cond (decide (0≤v6)&&decide (v6<(v4.length:Int))) (let e7:=(decide ((List.getD v4 (Int.toNat v6) (Kd.dflt .task)).Class=1));cond e7 (let e8:=(decide ((List.getD v4 (Int.toNat v6) (Kd.dflt .task)).Cpu=v1));cond e8 (let e9:=([(⟨(List.getD v4 (Int.toNat v6) (Kd.dflt .task)).Q,(List.getD v4 (Int.toNat v6) (Kd.dflt .task)).P⟩:Share)]:List Share);cond (decide ((v3).length+(e9).length≤lim)) (FU n m0 v1 v2 (v3++e9) v4 v5 (w64 (v6+1)) k0_0) none) (FU n m0 v1 v2 v3 v4 v5 (w64 (v6+1)) k0_0)) (FU n m0 v1 v2 v3 v4 v5 (w64 (v6+1)) k0_0)) none) (k0_0 v3)
def Ea{α:Type}(n:Nat):Nat→Int→List Share→List Ghost→Int→Int→(List Share→Option α)→Option α|0,_,_,_,_,_,_=>none|m1+1,v11,v12,v13,v14,v15,k1_0=>cond (decide (v15<v14)) (cond (decide (0≤v15)&&decide (v15<(v13.length:Int))) (let e16:=(decide ((List.getD v13 (Int.toNat v15) (Kd.dflt .ghost)).Cpu=v11));cond e16 (let e17:=([(List.getD v13 (Int.toNat v15) (Kd.dflt .ghost)).S]:List Share);cond (decide ((v12).length+(e17).length≤lim)) (Ea n m1 v11 (v12++e17) v13 v14 (w64 (v15+1)) k1_0) none) (Ea n m1 v11 v12 v13 v14 (w64 (v15+1)) k1_0)) none) (k1_0 v12)
def LI(n:Nat)(a0:Sys)(a1:Int):Option (List Share×Unit):=FU n n a1 a0 ([]:List Share) a0.Tasks (a0.Tasks.length:Int) 0 (fun w10=>Ea n n a1 w10 a0.Ghosts (a0.Ghosts.length:Int) 0 (fun w18=>some (w18,())))
def bL(n:Nat):Rw:=⟨98,pV [Ae,.int],q30,fun x=>LI n (AX x.1) x.2.1⟩
def kT(n:Nat):LS:=AI ⟨3,q44,[(.t 5,2,.share)],[3,4,5],[1,2,5],q45⟩ 54 [1,2,5,12,13,14] 1413333333 (pD [.int,.ptr 0 0,.bor 2,.ro .task,.int,.int]) [.box Af,.root .share] (fun m x k=>FU n m x.1.1 (AX x.2.1) x.2.2.1 x.1.2.2.2.1.2 x.1.2.2.2.2.1 x.1.2.2.2.2.2.1 (fun w0=>k (.exit 0) (eS 54 [1,2,5] [.int x.1.1,.ptr 0 0,.bor 2] 1413333333 [.box (Af.make x.2.1),.root .share w0 .ok])))
def kU(n:Nat):LS:=AI ⟨9,q46,[(.t 5,6,.share)],[7,8,9],[5],q47⟩ 54 [1,5,37,38,39] 4443331333 (pD [.int,.bor 6,.ro .ghost,.int,.int]) [.root .share] (fun m x k=>Ea n m x.1.1 x.2.1 x.1.2.2.1.2 x.1.2.2.2.1 x.1.2.2.2.2.1 (fun w0=>k (.exit 2) (eS 54 [5] [.bor 6] 4443331333 [.root .share w0 .ok])))
theorem bM(n:Nat):RO (bL n):=
 rL ⟨Go.Proofs.Tryz.f98,⟨[(0,[(0,.slot 0 .int)]),(1,[(0,.slot 1 .share)]),(4,[(2,.slot 3 .int)]),(6,[(6,.slot 4 .share),(7,.slot 5 .share)]),(10,[(2,.slot 7 .int)]),(12,[(3,.slot 8 .share),(4,.slot 9 .share)])],[],[]⟩,10⟩ [kT n,kU n] n en Go.Proofs.Tryz.func98 (by kernel_rfl) ⟨AJ (fun m x k=>by kernel_rfl) (fun _ _=>rfl),AJ (fun m x k=>by kernel_rfl) (fun _ _=>rfl),trivial⟩ (fun x=>by kernel_rfl)
def Hl{α:Type}(n:Nat):Nat→List Task→Task→Int→(Int→Option α)→Option α|0,_,_,_,_=>none|m0+1,v2,v3,v4,k0_0=>cond (decide (v4<(v2.length:Int))) (cond (decide (0≤v4)&&decide (v4<(v2.length:Int))) (let e5:=(decide ((List.getD v2 (Int.toNat v4) (Kd.dflt .task)).No<v3.No));cond e5 (Hl n m0 v2 v3 (w64 (v4+1)) k0_0) (k0_0 v4)) none) (k0_0 v4)
def LT(n:Nat)(a0:List Task)(a1:Task):Option ((List Task×Bool×Unit)×Unit):=(C4 n a0).bind fun r1=>cond (!r1.1) (some (([],false,()),())) (Hl n n a0 a1 0 (fun w6=>(CE a0).bind fun r7=>(FK r7.1 w6 ([a1]:List Task)).bind fun r8=>(C4 n r8.1).bind fun r9=>cond (!r9.1) ((CE a0).bind fun r10=>some ((r10.1,false,()),())) (some ((r8.1,true,()),()))))
def cH(n:Nat):Rw:=⟨194,pV [.ro .task,Ac],TY,fun x=>LT n x.1.2 (AK x.2.1)⟩
def ki(n:Nat):LS:=AI ⟨4,[0,3,6],[],[],[0,3,6],q83⟩ 39 [0,3,6] 13333 (pD [.ro .task,.ptr 0 0,.int]) [.box G6] (fun m x k=>Hl n m x.1.1.2 (AK x.2.1) x.1.2.2.1 (fun w0=>k (.exit 0) (eS 39 [0,3,6] [.ro x.1.1.1 .task x.1.1.2,.ptr 0 0,.int w0] 13333 [.box (G6.make x.2.1)])))
theorem cI(n:Nat):RO (cH n):=
 rL ⟨Go.Proofs.Tryz.f194,⟨[(0,[(0,.slot 0 .int)]),(1,[(1,cl 1 .bool 0)]),(6,[(1,(.call [.ro] (.own .task) [] [some 1])),(4,.slot 2 .task),(5,(.call [.mv,.ro,.mv] (.own .task) [] [some 3]))]),(7,[(1,cl 1 .bool 0)]),(8,[(1,(.call [.ro] (.own .task) [] [some 4]))])],[(4,dr 14 [(10,[0],[]),(11,[0],[])]),(6,dr 7 [(1,[1],[1]),(3,[0],[]),(4,[2],[2]),(5,[1,2,3],[1,2,3])])],[]⟩,5⟩ [ki n] n (ec (NC n) (ec NI (ec gv en))) Go.Proofs.Tryz.func194 (by kernel_rfl) ⟨AJ (fun m x k=>by kernel_rfl) (fun _ _=>rfl),trivial⟩ (fun x=>by kernel_rfl)
def JM(n:Nat)(a0:Sys)(a1:Call):Option (Int×Ah×Unit):=(Lb a0 a1).bind fun r1=>cond (decide (a0.Cpus≤a1.Cpu)) (some (1,(AA a0),())) (cond (!r1.1.2.1) (some (1,(AA a0),())) ((CQ n a0.Tasks a1.No).bind fun r2=>cond (decide (0≤r2.1)) (some (3,(AA a0),())) ((LT n a0.Tasks (AK r1.1.1)).bind fun r3=>cond (!r3.1.2.1) (some (4,(AA a0),())) (cond (decide (a1.Kind=1)) ((LI n a0 a1.Cpu).bind fun r4=>cond (decide ((r4.1).length+(([(⟨a1.A,a1.B⟩:Share)]:List Share)).length≤lim)) ((JH n (r4.1++([(⟨a1.A,a1.B⟩:Share)]:List Share))).bind fun r5=>cond (!r5.1) (some (4,(AA a0),())) (cond (decide (a1.Kind=2)) (cond (decide (900000<a0.Seq)) (some (4,(AA a0),())) (cond (decide (a1.Kind=2)) (some (0,(AA (⟨a0.Now,a0.Cpus,r3.1.1,a0.Locks,a0.Ghosts,a0.Floors,(w64 (a0.Seq+1)),a0.Missed,a0.Trace⟩:Sys)),())) (some (0,(AA (⟨a0.Now,a0.Cpus,r3.1.1,a0.Locks,a0.Ghosts,a0.Floors,a0.Seq,a0.Missed,a0.Trace⟩:Sys)),())))) (cond (decide (a1.Kind=2)) (some (0,(AA (⟨a0.Now,a0.Cpus,r3.1.1,a0.Locks,a0.Ghosts,a0.Floors,(w64 (a0.Seq+1)),a0.Missed,a0.Trace⟩:Sys)),())) (some (0,(AA (⟨a0.Now,a0.Cpus,r3.1.1,a0.Locks,a0.Ghosts,a0.Floors,a0.Seq,a0.Missed,a0.Trace⟩:Sys)),()))))) none) (cond (decide (a1.Kind=2)) (cond (decide (900000<a0.Seq)) (some (4,(AA a0),())) (cond (decide (a1.Kind=2)) (some (0,(AA (⟨a0.Now,a0.Cpus,r3.1.1,a0.Locks,a0.Ghosts,a0.Floors,(w64 (a0.Seq+1)),a0.Missed,a0.Trace⟩:Sys)),())) (some (0,(AA (⟨a0.Now,a0.Cpus,r3.1.1,a0.Locks,a0.Ghosts,a0.Floors,a0.Seq,a0.Missed,a0.Trace⟩:Sys)),())))) (cond (decide (a1.Kind=2)) (some (0,(AA (⟨a0.Now,a0.Cpus,r3.1.1,a0.Locks,a0.Ghosts,a0.Floors,(w64 (a0.Seq+1)),a0.Missed,a0.Trace⟩:Sys)),())) (some (0,(AA (⟨a0.Now,a0.Cpus,r3.1.1,a0.Locks,a0.Ghosts,a0.Floors,a0.Seq,a0.Missed,a0.Trace⟩:Sys)),()))))))))
def b6(n:Nat):Rw:=⟨146,pA [.box (pA [.v .int,.v .int,.own .task,.own .lock,.own .ghost,.own .int,.v .int,.v .int,.own .turn]),.v Ba],KN,fun x=>JM n (AC x.1) (Az x.2.1)⟩
theorem T8(n:Nat):RO (b6 n):=
 rE ⟨Go.Proofs.Tryz.f146,⟨[(0,[(0,.slot 6 .int)]),(1,[(4,q69),(8,.slot 7 .int)]),(4,[(6,cl 2 .int 0)]),(6,[(5,(.call [.ro,.ro] (.tup Pk) [] [some 8]))]),(9,[(9,(.call [.ro,.ro] (.own .share) [] [some 9])),(15,.slot 10 .share),(16,.slot 11 .share),(17,cl 1 .bool 0)])],[(1,dr 11 [(1,[0],[]),(2,[0],[]),(3,[6],[]),(4,[1,2,3,4,5],[]),(8,[7],[7]),(9,[7],[7])]),(2,dr 12 [(0,[6],[]),(1,[6],[]),(3,[0],[]),(4,[0],[]),(5,[0],[])]),(4,dr 9 [(1,[0],[]),(2,[0],[]),(3,[0],[]),(4,[6],[]),(5,[6],[]),(6,[1],[])]),(6,dr 11 [(1,[0],[]),(2,[0],[]),(3,[0],[]),(4,[7],[]),(5,[1,8],[8])]),(9,dr 21 [(0,[6],[]),(1,[6],[]),(5,[0],[]),(6,[0],[]),(7,[6],[]),(8,[6],[]),(9,[1,2,3,4,5,9],[9]),(10,[6],[]),(11,[6],[]),(12,[6],[]),(13,[6],[]),(15,[10],[10]),(16,[9,10,11],[9,11]),(17,[11],[])])],[]⟩,12⟩ n (ec c7 (ec (EG n) (ec (cI n) (ec (bM n) (ec (T2 n) en))))) Go.Proofs.Tryz.func146 (by kernel_rfl) (fun x=>by kernel_rfl)
def OL(a0:Lock)(a1_0:Int):Option (Bool×Unit):=some ((decide (a0.Owner=a1_0)),())
def bD:Rw:=⟨238,pV [EJ,.rp (pD [.int]) 0],pS [.bool],fun x=>OL (EX x.1) x.2.1.1⟩
theorem bE:RO (bD):=
 rE ⟨Go.Proofs.Tryz.f238,⟨[(0,[(0,.slot 0 .int)])],[],[]⟩,1⟩ 0 en Go.Proofs.Tryz.func238 (by kernel_rfl) (fun x=>by kernel_rfl)
def IB{α:Type}(n:Nat):Nat→List Lock→Int→Int→Int→(Int→Option α)→(Option α)→Option α|0,_,_,_,_,_,_=>none|m0+1,v1,v2,v3,v4,k0_0,k0_1=>cond (decide (v4<v3)) (cond (decide (0≤v4)&&decide (v4<(v1.length:Int))) ((OL (List.getD v1 (Int.toNat v4) (Kd.dflt .lock)) v2).bind fun r5=>cond r5.1 (k0_0 v4) (IB n m0 v1 v2 v3 (w64 (v4+1)) k0_0 k0_1)) none) k0_1
def L4(n:Nat)(a0:List Lock)(a1_0_0:Int):Option (Int×Unit):=IB n n a0 a1_0_0 (a0.length:Int) 0 (fun w6=>some (w6,())) (some ((-1),()))
def ga(n:Nat):Rw:=⟨158,pV [.ro .lock,.clo 238 (pD [.rp (pD [.int]) 0])],pS [.int],fun x=>L4 n x.1.2 x.2.1.1.1⟩
def lc(n:Nat):LS:=AI ⟨2,[0,1,7,8],[],[],[4],[]⟩ 19 [0,1,7,8] 0 (pD [.ro .lock,.clo 238 (pD [.rp (pD [.int]) 0]),.int,.int]) [] (fun m x k=>IB n m x.1.1.2 x.1.2.1.1.1 x.1.2.2.1 x.1.2.2.2.1 (fun w0=>k .ret (eS 19 [4] [.int w0] 0 [])) (k (.exit 0) (eS 19 [] [] 0 [])))
theorem gc(n:Nat):RO (ga n):=
 rL ⟨Go.Proofs.Tryz.f158,⟨[(4,[(5,cl 1 .bool 0)])],[],[]⟩,0⟩ [lc n] n (ec bE en) Go.Proofs.Tryz.func158 (by kernel_rfl) ⟨AJ (fun m x k=>by kernel_rfl) (fun _ _=>rfl),trivial⟩ (fun x=>by kernel_rfl)
def Of(n:Nat)(a0:List Lock)(a1_0_0:Int):Option (Bool×Unit):=(L4 n a0 a1_0_0).bind fun r1=>some ((decide (0≤r1.1)),())
def gD(n:Nat):Rw:=⟨91,pV [.ro .lock,.clo 238 (pD [.rp (pD [.int]) 0])],pS [.bool],fun x=>Of n x.1.2 x.2.1.1.1⟩
theorem gE(n:Nat):RO (gD n):=
 rE ⟨Go.Proofs.Tryz.f91,⟨[(1,[(2,cl 2 .int 0)])],[],[]⟩,0⟩ n (ec (gc n) en) Go.Proofs.Tryz.func91 (by kernel_rfl) (fun x=>by kernel_rfl)
def GE(n:Nat)(a0:List Lock)(a1:Int):Option (Bool×Unit):=cond (!(decide (a1=0))) ((Of n a0 a1).bind fun r1=>some (r1.1,())) (some (false,()))
def bC(n:Nat):Rw:=⟨224,pV [.ro .lock,.int],pS [.bool],fun x=>GE n x.1.2 x.2.1⟩
theorem T4(n:Nat):RO (bC n):=
 rE ⟨Go.Proofs.Tryz.f224,⟨[(0,[(0,.slot 0 .int)]),(1,[(5,cl 2 .bool 0)])],[],[]⟩,1⟩ n (ec (gE n) en) Go.Proofs.Tryz.func224 (by kernel_rfl) (fun x=>by kernel_rfl)
def LQ(n:Nat)(a0:Sys)(a1:Int):Option (Int×Ah×Unit):=cond (decide (0≤a1)&&decide (a1<(a0.Tasks.length:Int))) (let e1:=(decide ((List.getD a0.Tasks (Int.toNat a1) (Kd.dflt .task)).Class=1));cond e1 (let e2:=(decide (a0.Now<(List.getD a0.Tasks (Int.toNat a1) (Kd.dflt .task)).Due));(GE n a0.Locks ((List.getD a0.Tasks (Int.toNat a1) (Kd.dflt .task)).No)).bind fun r3=>cond r3.1 (some (5,(AA a0),())) ((DU n a0.Locks ((List.getD a0.Tasks (Int.toNat a1) (Kd.dflt .task)).No)).bind fun r4=>cond (decide (0≤r4.1)) (some (5,(AA a0),())) (cond e2 (cond (decide (12≤(a0.Ghosts.length:Int))) (some (4,(AA a0),())) (cond e2 (let e5:=([(⟨(List.getD a0.Tasks (Int.toNat a1) (Kd.dflt .task)).Cpu,⟨(List.getD a0.Tasks (Int.toNat a1) (Kd.dflt .task)).Q,(List.getD a0.Tasks (Int.toNat a1) (Kd.dflt .task)).P⟩,(List.getD a0.Tasks (Int.toNat a1) (Kd.dflt .task)).Due⟩:Ghost)]:List Ghost);cond (decide ((a0.Ghosts).length+(e5).length≤lim)) ((FJ a0.Tasks a1 (w64 (a1+1))).bind fun r6=>some (0,(AA (⟨a0.Now,a0.Cpus,r6.1,a0.Locks,(a0.Ghosts++e5),a0.Floors,a0.Seq,a0.Missed,a0.Trace⟩:Sys)),())) none) ((FJ a0.Tasks a1 (w64 (a1+1))).bind fun r7=>some (0,(AA (⟨a0.Now,a0.Cpus,r7.1,a0.Locks,a0.Ghosts,a0.Floors,a0.Seq,a0.Missed,a0.Trace⟩:Sys)),())))) (cond e2 (let e8:=([(⟨(List.getD a0.Tasks (Int.toNat a1) (Kd.dflt .task)).Cpu,⟨(List.getD a0.Tasks (Int.toNat a1) (Kd.dflt .task)).Q,(List.getD a0.Tasks (Int.toNat a1) (Kd.dflt .task)).P⟩,(List.getD a0.Tasks (Int.toNat a1) (Kd.dflt .task)).Due⟩:Ghost)]:List Ghost);cond (decide ((a0.Ghosts).length+(e8).length≤lim)) ((FJ a0.Tasks a1 (w64 (a1+1))).bind fun r9=>some (0,(AA (⟨a0.Now,a0.Cpus,r9.1,a0.Locks,(a0.Ghosts++e8),a0.Floors,a0.Seq,a0.Missed,a0.Trace⟩:Sys)),())) none) ((FJ a0.Tasks a1 (w64 (a1+1))).bind fun r10=>some (0,(AA (⟨a0.Now,a0.Cpus,r10.1,a0.Locks,a0.Ghosts,a0.Floors,a0.Seq,a0.Missed,a0.Trace⟩:Sys)),())))))) ((GE n a0.Locks ((List.getD a0.Tasks (Int.toNat a1) (Kd.dflt .task)).No)).bind fun r11=>cond r11.1 (some (5,(AA a0),())) ((DU n a0.Locks ((List.getD a0.Tasks (Int.toNat a1) (Kd.dflt .task)).No)).bind fun r12=>cond (decide (0≤r12.1)) (some (5,(AA a0),())) ((FJ a0.Tasks a1 (w64 (a1+1))).bind fun r13=>some (0,(AA (⟨a0.Now,a0.Cpus,r13.1,a0.Locks,a0.Ghosts,a0.Floors,a0.Seq,a0.Missed,a0.Trace⟩:Sys)),()))))) none
def br(n:Nat):Rw:=⟨196,pA [.box (pA [.v .int,.v .int,.own .task,.own .lock,.own .ghost,.own .int,.v .int,.v .int,.own .turn]),.v .int],KN,fun x=>LQ n (AC x.1) x.2.1⟩
theorem bt(n:Nat):RO (br n):=
 rE ⟨Go.Proofs.Tryz.f196,⟨[(1,[(7,.slot 6 .int)]),(3,[(6,cl 2 .bool 0),(14,cl 2 .int 0)]),(8,[(15,.slot 7 .ghost),(16,.slot 8 .ghost)]),(9,[(8,(.call [.mv,.ro,.ro] (.own .task) [] [some 9]))])],[(2,dr 13 [(0,[6],[]),(1,[6],[]),(4,[6],[]),(5,[6],[]),(7,[0],[]),(8,[0],[]),(9,[0],[])]),(3,dr 18 [(1,[0],[]),(2,[0],[]),(3,[0],[]),(4,[6],[]),(5,[6],[]),(6,[2],[]),(9,[0],[]),(10,[0],[]),(11,[0],[]),(12,[6],[]),(13,[6],[]),(14,[2],[])]),(8,dr 20 [(2,[0],[]),(3,[0],[]),(4,[0],[]),(5,[6],[]),(6,[6],[]),(7,[6],[]),(8,[6],[]),(9,[6],[]),(10,[6],[]),(12,[6],[]),(13,[6],[]),(15,[7],[7]),(16,[3,7,8],[3,8]),(17,[0],[]),(18,[0],[]),(19,[0,8],[0])])],[]⟩,10⟩ n (ec (T4 n) (ec (Ij n) (ec gT en))) Go.Proofs.Tryz.func196 (by kernel_rfl) (fun x=>by kernel_rfl)
end Go.Proofs.YtbbgaleennfklaaGreat.VR
end
section
set_option linter.unusedVariables false
set_option linter.unusedSimpArgs false
namespace Go.Proofs.YtbbgaleennfklaaGreat.VR
open Go
theorem F1{ts:List Task}{no:Int}{n:Nat}(hn:ts.length<n)(hb:ts.length≤lim):CF n ts no=some (idx (AY ts no),()):=by
 unfold CF AY;have:=CT (l:=fun m i=>IP n m ts no i (fun w5=>some (w5,())) (some (-1,()))) (xs:=ts) (p:=fun t=>decide (t.No=no)) (k0:=fun w5=>some (w5,())) (k1:=some (-1,()))
  (fun m=>by simp only[IP,AP,cond_false])
  (fun m i hi=>by simp only[IP,AD hi,AF,Bool.and_self,cond_true,AE hi,AG (Nat.lt_trans hi (AQ hb))]) (m:=n) hn
 refine this.trans ?_;cases ts.findIdx? fun t=>decide (t.No=no)<;>rfl
theorem Dv{ts:List Task}{no:Int}{n:Nat}(hn:ts.length<n)(hb:ts.length≤lim):CQ n ts no=some (idx (AY ts no),()):=by
 have:L6 n ts no=some (idx (AY ts no),()):=by
  unfold L6 AY;have:=CT (l:=fun m i=>IG n m ts no (ts.length:Int) i (fun w5=>some (w5,())) (some (-1,()))) (xs:=ts) (p:=fun t=>decide (t.No=no)) (k0:=fun w5=>some (w5,())) (k1:=some (-1,()))
   (fun m=>by simp only[IG,AP,cond_false])
   (fun m i hi=>by simp only[IG,OR,Option.bind_some,AD hi,AF,Bool.and_self,cond_true,AE hi,AG (Nat.lt_trans hi (AQ hb))]) (m:=n) hn
  refine this.trans ?_;cases ts.findIdx? fun t=>decide (t.No=no)<;>rfl
 simp only[CQ,this,Option.bind_some]
theorem J9{ts:List Task}{n:Nat}(hn:ts.length<n)(hb:ts.length≤lim):C4 n ts=some (decide (TasksOk ts),()):=by
 unfold C4;have hstep: ∀(R k0 k1:Option (Bool×Unit)) (m i:Nat),i<ts.length→C9 n (m+1) ts ts (ts.length:Int) (i:Int) k0 k1=if CY ts i then C9 n m ts ts (ts.length:Int) ((i+1:Nat):Int) k0 k1 else k0:=by
  intro R k0 k1 m i hi;have hil:=Nat.lt_trans hi (AQ hb)
  by_cases ht:TaskOk ts[i]
  · by_cases h0:0<i
    · have hp:i-1<ts.length:=by omega
      have h0':decide (0<(i:Int))=true:=decide_eq_true (by omega)
      simp only[C9,AD hi,AD hp,AF,Bool.and_self,cond_true,AE hi,AE hp,Dw,Option.bind_some,decide_eq_true ht,Bool.not_true,cond_false,h0',WB hil h0,AG hil,BA]
      by_cases hno:ts[i].No≤ts[i-1].No
      · rw[if_pos hno,if_neg]
        rintro⟨_,_,h2⟩;obtain⟨_,h3⟩:=h2 h0;omega
      · rw[if_neg hno,if_pos]
        exact⟨hi,ht,fun _=>⟨hp,by omega⟩⟩
    · have h0':decide (0<(i:Int))=false:=decide_eq_false (by omega)
      have hr:CY ts i:=⟨hi,ht,fun h=>absurd h h0⟩
      simp only[C9,AD hi,AF,Bool.and_self,cond_true,AE hi,Dw,Option.bind_some,decide_eq_true ht,Bool.not_true,cond_false,h0',AG hil,if_pos hr]
  · have hr: ¬CY ts i:=fun⟨_,h,_⟩=>ht h
    simp only[C9,AD hi,AF,Bool.and_self,cond_true,AE hi,Dw,Option.bind_some,decide_eq_false ht,Bool.not_false,if_neg hr]
 rw[Uo]
 by_cases hall: ∀i,i<ts.length→CY ts i
 · have hd:decide (TasksOk ts)=decide (ts.length≤12):=decide_eq_decide.2 ((QS ts).trans ⟨fun h=>h.2.2,fun h=>⟨(In.1 hall).1,(In.1 hall).2,h⟩⟩)
   rw[hd];refine AU (l:=fun m i=>C9 n m ts ts (ts.length:Int) (i:Int) (some (false,())) (some (decide (ts.length≤12),()))) (len:=ts.length) (fun _=>True) trivial (fun m _=> ?_) (fun m i hi _=>.inl ⟨?_,trivial⟩) hn
   ·simp only[C9,AP,cond_false]
   ·rw[hstep none _ _ m i hi,if_pos (hall i hi)]
 · have hd: ¬TasksOk ts:=fun h=>hall (In.2 ⟨h.each,h.sorted⟩)
   rw[decide_eq_false hd];refine AU (l:=fun m i=>C9 n m ts ts (ts.length:Int) (i:Int) (some (false,())) (some (decide (ts.length≤12),()))) (len:=ts.length) (fun i=> ∀j,j<i→CY ts j) (fun j h=>absurd h (Nat.not_lt_zero j)) (fun m hI=>absurd hI hall) (fun m i hi hI=> ?_) hn
   rw[hstep none _ _ m i hi]
   by_cases hr:CY ts i
   · rw[if_pos hr]
     exact .inl ⟨rfl,fun j hj=>by
      by_cases e:j=i
      ·subst e;exact hr
      ·exact hI j (by omega)⟩
   ·rw[if_neg hr];exact .inr rfl
theorem It{ts:List Task}{n:Nat}(hn:ts.length<n)(hb:ts.length≤lim):Dq n ts=some (decide (TasksOk ts),()):=by
 unfold Dq;have hstep: ∀(R k0 k1:Option (Bool×Unit)) (m i:Nat),i<ts.length→DB n (m+1) ts (i:Int) k0 k1=if CY ts i then DB n m ts ((i+1:Nat):Int) k0 k1 else k0:=by
  intro R k0 k1 m i hi;have hil:=Nat.lt_trans hi (AQ hb)
  by_cases ht:TaskOk ts[i]
  · by_cases h0:0<i
    · have hp:i-1<ts.length:=by omega
      have h0':decide (0<(i:Int))=true:=decide_eq_true (by omega)
      simp only[DB,AD hi,AD hp,AF,Bool.and_self,cond_true,AE hi,AE hp,EH,Option.bind_some,decide_eq_true ht,Bool.not_true,cond_false,h0',WB hil h0,AG hil,BA]
      by_cases hno:ts[i].No≤ts[i-1].No
      · rw[if_pos hno,if_neg]
        rintro⟨_,_,h2⟩;obtain⟨_,h3⟩:=h2 h0;omega
      · rw[if_neg hno,if_pos]
        exact⟨hi,ht,fun _=>⟨hp,by omega⟩⟩
    · have h0':decide (0<(i:Int))=false:=decide_eq_false (by omega)
      have hr:CY ts i:=⟨hi,ht,fun h=>absurd h h0⟩
      simp only[DB,AD hi,AF,Bool.and_self,cond_true,AE hi,EH,Option.bind_some,decide_eq_true ht,Bool.not_true,cond_false,h0',AG hil,if_pos hr]
  · have hr: ¬CY ts i:=fun⟨_,h,_⟩=>ht h
    simp only[DB,AD hi,AF,Bool.and_self,cond_true,AE hi,EH,Option.bind_some,decide_eq_false ht,Bool.not_false,if_neg hr]
 rw[Uo]
 by_cases hall: ∀i,i<ts.length→CY ts i
 · have hd:decide (TasksOk ts)=decide (ts.length≤12):=decide_eq_decide.2 ((QS ts).trans ⟨fun h=>h.2.2,fun h=>⟨(In.1 hall).1,(In.1 hall).2,h⟩⟩)
   rw[hd];refine AU (l:=fun m i=>DB n m ts (i:Int) (some (false,())) (some (decide (ts.length≤12),()))) (len:=ts.length) (fun _=>True) trivial (fun m _=> ?_) (fun m i hi _=>.inl ⟨?_,trivial⟩) hn
   ·simp only[DB,AP,cond_false]
   ·rw[hstep none _ _ m i hi,if_pos (hall i hi)]
 · have hd: ¬TasksOk ts:=fun h=>hall (In.2 ⟨h.each,h.sorted⟩)
   rw[decide_eq_false hd];refine AU (l:=fun m i=>DB n m ts (i:Int) (some (false,())) (some (decide (ts.length≤12),()))) (len:=ts.length) (fun i=> ∀j,j<i→CY ts j) (fun j h=>absurd h (Nat.not_lt_zero j)) (fun m hI=>absurd hI hall) (fun m i hi hI=> ?_) hn
   rw[hstep none _ _ m i hi]
   by_cases hr:CY ts i
   · rw[if_pos hr]
     exact .inl ⟨rfl,fun j hj=>by
      by_cases e:j=i
      ·subst e;exact hr
      ·exact hI j (by omega)⟩
   ·rw[if_neg hr];exact .inr rfl
theorem mt{s:Sys}{cpu:Int}(hb:s.Floors.length≤lim):MI s cpu=some (Cp s cpu,()):=by
 simp only[MI,BI,Option.bind_some];exact Rg hb
theorem R6{s:Sys}{cpu:Int}(hb:s.Floors.length≤lim):FD s cpu=some (Cp s cpu,()):=by
 simp only[FD,BS,Option.bind_some];exact Rg hb
end Go.Proofs.YtbbgaleennfklaaGreat.VR
end
section
set_option linter.unusedVariables false
set_option linter.unusedSimpArgs false
namespace Go.Proofs.YtbbgaleennfklaaGreat.VR
open Go
theorem Yd{α:Type}{l v12:List Lock}{W ys:List Int}{a b:Int}{n:Nat}{k0 k1:List Int→Option α}{K:Option α}(hk: ∀w,k0 w=K)(hW:W.Nodup)(hn:(W++ys).length<n)(hb:(W++ys).length+1≤lim):
 Dy n n l W v12 a b ys (ys.length:Int) 0 k0 k1=if E8 W ys then k1 (W++ys)else K:=by
 have hlen:(W++ys).length=W.length+ys.length:=List.length_append;have:=AU (l:=fun m j=>Dy n m l (W++ys.take j) v12 a b ys (ys.length:Int) (j:Int) k0 k1) (len:=ys.length)
  (r:=if E8 W ys then k1 (W++ys)else K) (fun j=>(∀y∈ys.take j,1≤y∧y≤1000)∧(W++ys.take j).Nodup) (by simpa using hW) (fun m hI=> ?_) (fun m j hj hI=> ?_) (m:=n) (by omega)
 ·simpa using this
 · rw[List.take_length]at hI
   rw[if_pos (show E8 W ys from hI)]
   simp only[Dy,AP,cond_false,List.take_length]
 · have hjl:j<Aa:=Nat.lt_trans hj (AQ (by omega))
   have htl:(ys.take j).length=j:=by simp;omega
   have e3:=Ir (xs:=W++ys.take j) (x:=ys[j]) (n:=n) (by rw[List.length_append,htl];omega) (by rw[List.length_append,htl];omega)
   by_cases h1:1≤ys[j]∧ys[j]≤1000
   · by_cases h2:ys[j]∈W++ys.take j
     · right
       rw[if_neg]
       ·simp only[Dy,AD hj,AF,Bool.and_self,cond_true,AE hj,KA,Option.bind_some,decide_eq_true h1,Bool.not_true,cond_false,e3,decide_eq_true h2,hk]
       · rintro⟨_,h3⟩
         have e:W++ys=(W++ys.take j)++ys[j]::ys.drop (j+1):=by
          rw[List.append_assoc,←List.drop_eq_getElem_cons hj,List.take_append_drop]
         rw[e,List.nodup_append]at h3;exact h3.2.2 _ h2 _ (List.mem_cons_self ..) rfl
     · left
       have e4:decide ((W++ys.take j).length+[ys[j]].length≤lim)=true:=decide_eq_true (by rw[List.length_append,htl];simp;omega)
       refine⟨?_,?_,?_⟩
       · simp only[Dy,AD hj,AF,Bool.and_self,cond_true,AE hj,KA,Option.bind_some,decide_eq_true h1,Bool.not_true,cond_false,e3,decide_eq_false h2,e4,AG hjl]
         rw[List.take_succ_eq_append_getElem hj,List.append_assoc]
       · intro y hy
         rw[List.take_succ_eq_append_getElem hj]at hy;rcases List.mem_append.1 hy with hy|hy
         ·exact hI.1 y hy
         ·simp at hy;subst hy;exact h1
       · rw[List.take_succ_eq_append_getElem hj,←List.append_assoc,List.nodup_append]
         exact⟨hI.2,by simp,fun x hx y hy e=>by simp at hy;subst hy;subst e;exact h2 hx⟩
   · right
     rw[if_neg (fun h=>h1 (h.1 _ (List.getElem_mem hj)))]
     simp only[Dy,AD hj,AF,Bool.and_self,cond_true,AE hj,KA,Option.bind_some,decide_eq_false h1,Bool.not_false,hk]
theorem J8{l:List Lock}{B n:Nat}(hl:LBound B l)(hn:B+2<n)(hb:B+2≤lim):FE n l=some (decide (LocksOk l),()):=by
 unfold FE;have hlen:=hl.len;have hall:=hl.all;have key: ∀k2:List Int→Option (Bool×Unit),Ce n n l ([]:List Int) l (l.length:Int) 0 (fun w26=>some (false,())) (fun w27=>some (false,())) k2=if LPre l then k2 (AT l)else some (false,()):=by
  intro k2;have:=AU (l:=fun m i=>Ce n m l (AT (l.take i)) l (l.length:Int) (i:Int) (fun w26=>some (false,())) (fun w27=>some (false,())) k2) (len:=l.length)
   (r:=if LPre l then k2 (AT l)else some (false,())) (fun i=>LPre (l.take i)) ⟨fun k hk=>by simp at hk,fun x hx=>by simp[AT]at hx,by simp[AT]⟩ (fun m hI=> ?_) (fun m i hi hI=> ?_) (m:=n) (by omega)
  ·simpa[AT]using this
  · rw[List.take_length]at hI
    rw[if_pos hI];simp only[Ce,AP,cond_false,List.take_length]
  · have hil:=Nat.lt_trans hi (AQ (show l.length≤lim by omega))
    have htw:=Nh (l:=l) (i+1);rw[Dg hi]at htw;have hin:=Yd (l:=l) (v12:=l) (W:=AT (l.take i)) (ys:=l[i].Waits) (a:=(l.length:Int)) (b:=(i:Int)) (n:=n) (k0:=fun w=>some (false,())) (K:=some (false,()))
     (k1:=fun w22=>Ce n m l w22 l (l.length:Int) ((i+1:Nat):Int) (fun w26=>some (false,())) (fun w27=>some (false,())) k2) (fun _=>rfl) hI.nodup (by omega) (by omega)
    have hno: ¬LPre (l.take (i+1))→ ¬LPre l:=fun h hp=>h (hp.take _)
    by_cases ho:0≤l[i].Owner∧l[i].Owner≤1000
    · by_cases hz:l[i].Owner=0
      · by_cases hw:l[i].Waits=[]
        · left
          refine⟨?_,(IY hi).2 ⟨hI,⟨ho,fun _=>hw⟩,(by rw[hw];intro y hy;cases hy),(by rw[hw,List.append_nil];exact hI.nodup)⟩⟩
          have h0: ¬0<(l[i].Waits.length:Int):=by rw[hw];simp
          simp only[Ce,AD hi,AF,Bool.and_self,cond_true,AE hi,BS,Option.bind_some,decide_eq_true ho,Bool.not_true,cond_false,decide_eq_true hz,decide_eq_false h0,AG hil];rw[hin,if_pos (show E8 _ _ from⟨(by rw[hw];intro y hy;cases hy),(by rw[hw,List.append_nil];exact hI.nodup)⟩),Dg hi]
        · right
          have h0:0<(l[i].Waits.length:Int):=by have:=List.length_pos_iff.2 hw;omega
          rw[if_neg (hno fun hp=>hw (((IY hi).1 hp).2.1.2 hz))]
          simp only[Ce,AD hi,AF,Bool.and_self,cond_true,AE hi,BS,Option.bind_some,decide_eq_true ho,Bool.not_true,cond_false,decide_eq_true hz,decide_eq_true h0]
      · have e:Ce n (m+1) l (AT (l.take i)) l (l.length:Int) (i:Int) (fun w26=>some (false,())) (fun w27=>some (false,())) k2=
         if E8 (AT (l.take i)) l[i].Waits then Ce n m l (AT (l.take i)++l[i].Waits) l (l.length:Int) ((i+1:Nat):Int) (fun w26=>some (false,())) (fun w27=>some (false,())) k2 else some (false,()):=by
         rw[←hin];simp only[Ce,AD hi,AF,Bool.and_self,cond_true,AE hi,BS,Option.bind_some,decide_eq_true ho,Bool.not_true,cond_false,decide_eq_false hz,AG hil]
        rw[e]
        by_cases hc:E8 (AT (l.take i)) l[i].Waits
        · left
          rw[if_pos hc,Dg hi];exact⟨rfl,(IY hi).2 ⟨hI,⟨ho,fun h=>absurd h hz⟩,hc.1,hc.2⟩⟩
        · right
          rw[if_neg hc,if_neg (hno fun hp=>hc ⟨((IY hi).1 hp).2.2.1,((IY hi).1 hp).2.2.2⟩)]
    · right
      rw[if_neg (hno fun hp=>ho ((IY hi).1 hp).2.1.1)]
      simp only[Ce,AD hi,AF,Bool.and_self,cond_true,AE hi,BS,Option.bind_some,decide_eq_false ho,Bool.not_false]
 rw[key];have hlast: ∀w:List Int,w.length≤B→Ge n n l w (w.length:Int) 0 (some (false,())) (some ((decide ((l.length:Int)≤5)),()))=cond (w.all fun x=>(Ay l x).isSome) (some ((decide ((l.length:Int)≤5)),())) (some (false,())):=by
  intro w hw;have:=Di (l:=fun m i=>Ge n m l w (w.length:Int) i (some (false,())) (some ((decide ((l.length:Int)≤5)),()))) (xs:=w) (p:=fun x=>(Ay l x).isSome) (k0:=some (false,())) (k1:=some ((decide ((l.length:Int)≤5)),()))
   (fun m=>by simp only[Ge,AP,cond_false]) (fun m i hi=>by
     have e:=O9 (l:=l) (no:=w[i]) hl.small (show B+1<n by omega) (show B+1≤lim by omega)
     simp only[Ge,AD hi,AF,Bool.and_self,cond_true,AE hi,e,Option.bind_some,AG (Nat.lt_trans hi (AQ (show w.length≤lim by omega)))]
     cases Ay l w[i]<;>rfl) (m:=n) (by omega)
  exact this
 by_cases hp:LPre l
 · rw[if_pos hp,hlast _ hall,Bt]
   refine Be ?_;rw[BB,PR];simp only[List.all_eq_true,decide_eq_true_eq,Bool.false_eq_true,and_false,or_false];constructor
   · rintro⟨h1,h2⟩
     exact⟨by omega,hp.own,hp.nos,hp.nodup,h1⟩
   · rintro⟨h1,_,_,_,h5⟩
     exact⟨h5,by omega⟩
 · rw[if_neg hp,decide_eq_false]
   intro h;exact hp ⟨h.own,h.nos,h.nodup⟩
theorem oX{α:Type}{l:List Lock}{x:Int}{i:Nat}{B n c:Nat}(hi:i<l.length)(hl:LBound B l)(hn:B<n)(hb:B≤lim)(hc:c≤B){k:Int→Option α}:
 Fo n n l x (c:Int) (i:Int) 0 k=k ((c+Bk x l[i].Waits:Nat):Int):=by
 have hw:=Nat.le_trans (F4 (List.getElem_mem hi)) hl.all;have:=AU (l:=fun m j=>Fo n m l x ((c+Bk x (l[i].Waits.take j):Nat):Int) (i:Int) (j:Int) k) (len:=l[i].Waits.length) (r:=k ((c+Bk x l[i].Waits:Nat):Int)) (fun _=>True) trivial (fun m _=> ?_) (fun m j hj _=>.inl ⟨?_,trivial⟩) (m:=n) (by omega)
 ·simpa[Bk]using this
 ·simp only[Fo,AD hi,AF,Bool.and_self,cond_true,AE hi,AP,cond_false,List.take_length]
 · have hcl:=W5 (fun y:Int=>decide (y=x)) l[i].Waits j
   have hlm:c+Bk x (l[i].Waits.take j)<Aa:=by unfold Bk;unfold lim at hb;unfold Aa;omega
   have e:Bk x (l[i].Waits.take (j+1))=Bk x (l[i].Waits.take j)+cond (decide (l[i].Waits[j]=x)) 1 0:=W6 _ hj;simp only[Fo,AD hi,AF,Bool.and_self,cond_true,AE hi,AD hj,AE hj,AG (Nat.lt_trans hj (AQ (show l[i].Waits.length≤lim by omega))),AG hlm,e]
   cases decide (l[i].Waits[j]=x)<;>rfl
theorem nT{l:List Lock}{x:Int}{B n:Nat}(hl:LBound B l)(hn:B<n)(hb:B≤lim):Mg n l x=some (((Bk x (AT l):Nat):Int),()):=by
 unfold Mg;have hlen:=hl.len;have hall:=hl.all;have:=AU (l:=fun m i=>IU n m l x ((Bk x (AT (l.take i)):Nat):Int) (i:Int) (fun w13=>some (w13,()))) (len:=l.length) (r:=some (((Bk x (AT l):Nat):Int),())) (fun _=>True) trivial (fun m _=> ?_) (fun m i hi _=>.inl ⟨?_,trivial⟩) (m:=n) (by omega)
 ·simpa[Bk,AT]using this
 ·simp only[IU,AP,cond_false,List.take_length]
 · have hle:Bk x (AT (l.take i))≤B:=Nat.le_trans List.countP_le_length (Nat.le_trans (Nh i) hall)
   simp only[IU,AD hi,cond_true,oX hi hl hn hb hle,AG (Nat.lt_trans hi (AQ (show l.length≤lim by omega)))]
   rw[Dg hi];unfold Bk;rw[List.countP_append]
theorem VD{α:Type}{l:List Lock}{i:Nat}{B n:Nat}(hi:i<l.length)(hl:LBound B l)(hn:B+2<n)(hb:B+2≤lim){k0 k1:Option α}:
 DZ n n l (i:Int) 0 k0 k1=cond (l[i].Waits.all fun x=>decide (EC l x)) k1 k0:=by
 have hw:=Nat.le_trans (F4 (List.getElem_mem hi)) hl.all;have:=Di (l:=fun m j=>DZ n m l (i:Int) j k0 k1) (xs:=l[i].Waits) (p:=fun x=>decide (EC l x)) (k0:=k0) (k1:=k1)
  (fun m=>by simp only[DZ,AD hi,AF,Bool.and_self,cond_true,AE hi,AP,cond_false]) (fun m j hj=> ?_) (m:=n) (by omega)
 ·exact this
 · have e2:=nT (x:=l[i].Waits[j]) hl (show B<n by omega) (show B≤lim by omega)
   have hjl:=Nat.lt_trans hj (AQ (show l[i].Waits.length≤lim by omega))
   by_cases h1:1≤l[i].Waits[j]∧l[i].Waits[j]≤1000
   · by_cases h2:Bk l[i].Waits[j] (AT l)=1
     · have h2':((Bk l[i].Waits[j] (AT l):Nat):Int)=1:=by omega
       cases e:Ay l l[i].Waits[j]with
       |some c=>
        have ho:EC l l[i].Waits[j]:=⟨h1,h2,by rw[e];rfl⟩
        simp only[DZ,AD hi,AF,Bool.and_self,cond_true,AE hi,AD hj,AE hj,NZ hl.small hn hb e,Option.bind_some,BI,decide_eq_true h1,Bool.not_true,cond_false,e2,decide_eq_true h2',AG hjl,decide_eq_true ho]
       |none=>
        have ho: ¬EC l l[i].Waits[j]:=fun h=>by have:=h.2.2;rw[e]at this;cases this
        obtain⟨w,hc⟩:=QJ hl.small hn hb e;simp only[DZ,AD hi,AF,Bool.and_self,cond_true,AE hi,AD hj,AE hj,hc,Option.bind_some,BI,decide_eq_true h1,Bool.not_true,cond_false,e2,decide_eq_true h2',Bool.not_false,decide_eq_false ho]
     · have h2': ¬((Bk l[i].Waits[j] (AT l):Nat):Int)=1:=by omega
       have ho: ¬EC l l[i].Waits[j]:=fun h=>h2 h.2.1
       obtain⟨w,b,hc⟩: ∃w b,GX n l l[i].Waits[j]=some ((w,b,()),()):=by
        cases e:Ay l l[i].Waits[j]with
        |some c=>exact⟨_,_,NZ hl.small hn hb e⟩
        |none=>obtain⟨w,hc⟩:=QJ hl.small hn hb e;exact⟨w,_,hc⟩
       simp only[DZ,AD hi,AF,Bool.and_self,cond_true,AE hi,AD hj,AE hj,hc,Option.bind_some,BI,decide_eq_true h1,Bool.not_true,cond_false,e2,decide_eq_false h2',Bool.not_false,decide_eq_false ho,cond_false]
   · have ho: ¬EC l l[i].Waits[j]:=fun h=>h1 h.1
     obtain⟨w,b,hc⟩: ∃w b,GX n l l[i].Waits[j]=some ((w,b,()),()):=by
      cases e:Ay l l[i].Waits[j]with
      |some c=>exact⟨_,_,NZ hl.small hn hb e⟩
      |none=>obtain⟨w,hc⟩:=QJ hl.small hn hb e;exact⟨w,_,hc⟩
     simp only[DZ,AD hi,AF,Bool.and_self,cond_true,AE hi,AD hj,AE hj,hc,Option.bind_some,BI,decide_eq_false h1,Bool.not_false,decide_eq_false ho,cond_false]
theorem NX{l:List Lock}{B n:Nat}(hl:LBound B l)(hn:B+2<n)(hb:B+2≤lim):GQ n l=some (decide (LocksOk l),()):=by
 unfold GQ;have hlen:=hl.len
 by_cases h5:5<(l.length:Int)
 · rw[decide_eq_true h5,cond_true,decide_eq_false]
   intro h;have:=h.len;omega
 rw[decide_eq_false h5,cond_false];have:=Di (l:=fun m i=>D5 n m l i (some (false,())) (some (true,()))) (xs:=l) (p:=fun k=>decide (ED k)&&k.Waits.all fun x=>decide (EC l x)) (k0:=some (false,())) (k1:=some (true,()))
  (fun m=>by simp only[D5,AP,cond_false]) (fun m i hi=> ?_) (m:=n) (by omega)
 · refine this.trans ?_
   rw[Bt];refine Be ?_;rw[BB,PR];simp only[List.all_eq_true,Bool.and_eq_true,decide_eq_true_eq,Bool.false_eq_true,and_false,or_false,and_true];constructor
   · intro h
     have hx: ∀x∈AT l,EC l x:=fun x hx=>by
      obtain⟨k,hk,hx⟩:=List.mem_flatMap.1 hx;exact(h k hk).2 x hx
     exact⟨by omega,fun k hk=>(h k hk).1,fun x hx'=>(hx x hx').1,Su.2 fun x hx'=>(hx x hx').2.1,fun x hx'=>(hx x hx').2.2⟩
   · rintro⟨h1,h2,h3,h4,h6⟩ k hk
     refine⟨h2 k hk,fun x hx=> ?_⟩
     have hx':x∈AT l:=List.mem_flatMap.2 ⟨k,hk,hx⟩;exact⟨h3 x hx',Su.1 h4 x hx',h6 x hx'⟩
 · have hil:=Nat.lt_trans hi (AQ (show l.length≤lim by omega))
   by_cases ho:0≤l[i].Owner∧l[i].Owner≤1000
   · by_cases hz:l[i].Owner=0
     · by_cases hw:l[i].Waits=[]
       · have hown:ED l[i]:=⟨ho,fun _=>hw⟩
         have h0: ¬0<(l[i].Waits.length:Int):=by rw[hw];simp
         simp only[D5,AD hi,AF,Bool.and_self,cond_true,AE hi,BI,Option.bind_some,decide_eq_true ho,Bool.not_true,cond_false,decide_eq_true hz,decide_eq_false h0,AG hil,VD hi hl hn hb,decide_eq_true hown,Bool.true_and]
       · have hown: ¬ED l[i]:=fun h=>hw (h.2 hz)
         have h0:0<(l[i].Waits.length:Int):=by have:=List.length_pos_iff.2 hw;omega
         simp only[D5,AD hi,AF,Bool.and_self,cond_true,AE hi,BI,Option.bind_some,decide_eq_true ho,Bool.not_true,cond_false,decide_eq_true hz,decide_eq_true h0,decide_eq_false hown,Bool.false_and]
     · have hown:ED l[i]:=⟨ho,fun h=>absurd h hz⟩
       simp only[D5,AD hi,AF,Bool.and_self,cond_true,AE hi,BI,Option.bind_some,decide_eq_true ho,Bool.not_true,cond_false,decide_eq_false hz,AG hil,VD hi hl hn hb,decide_eq_true hown,Bool.true_and]
   · have hown: ¬ED l[i]:=fun h=>ho h.1
     simp only[D5,AD hi,AF,Bool.and_self,cond_true,AE hi,BI,Option.bind_some,decide_eq_false ho,Bool.not_false,decide_eq_false hown,Bool.false_and,cond_false]
end Go.Proofs.YtbbgaleennfklaaGreat.VR
end
section
set_option linter.unusedVariables false
set_option linter.unusedSimpArgs false
namespace Go.Proofs.YtbbgaleennfklaaGreat.VR
open Go
theorem YY{ts:List Task}{ls:List Lock}{no:Int}{B n:Nat}(h:TLB B ts ls)(hn:B+2<n)(hb:B+2≤lim)(hl:LocksOk ls):LX n ts ls no=some (Bu ts ls no,()):=by
 obtain⟨c,hc⟩:=I6 hl no;have hs:=GB hc;have ht:=h.tasks;have hlk:=h.locks.len;simp only[LX,O9 h.locks.small (show B+1<n by omega) (show B+1≤lim by omega),hc,Option.bind_some,Bu]
 rw[SV no c (by omega)]
 have:=Di (l:=fun m i=>Hp n m ts (no::c) (no::c) ((no::c).length:Int) i (some (0,())) (some (EA no c,()))) (xs:=no::c) (p:=fun x=>(AY ts x).isSome) (k0:=some (0,())) (k1:=some (EA no c,()))
  (fun m=>by simp only[Hp,AP,cond_false]) (fun m i hi=>by
    simp only[Hp,AD hi,AF,Bool.and_self,cond_true,AE hi,Dv (show ts.length<n by omega) (show ts.length≤lim by omega),Option.bind_some,Cq,AG (Nat.lt_trans hi (AQ (show(no::c).length≤lim by simp;omega)))]
    cases AY ts (no::c)[i]<;>rfl) (m:=n) (by simp;omega)
 refine this.trans ?_;cases(no::c).all fun x=>(AY ts x).isSome<;>rfl
theorem VK{ts:List Task}{ls:List Lock}{no:Int}{B n:Nat}(h:TLB B ts ls)(hn:B+2<n)(hb:B+2≤lim)(hl:LocksOk ls):Jx n ts ls no=some (Bu ts ls no,()):=by
 obtain⟨c,hc⟩:=I6 hl no;have hs:=GB hc;have ht:=h.tasks;have hlk:=h.locks.len;simp only[Jx,NZ h.locks.small hn hb hc,hc,Option.bind_some,Bu];rw[SV no c (by omega)]
 have:=Di (l:=fun m i=>IV n m ts (no::c) i (some (0,())) (some (EA no c,()))) (xs:=no::c) (p:=fun x=>(AY ts x).isSome) (k0:=some (0,())) (k1:=some (EA no c,()))
  (fun m=>by simp only[IV,AP,cond_false]) (fun m i hi=>by
    simp only[IV,AD hi,AF,Bool.and_self,cond_true,AE hi,F1 (show ts.length<n by omega) (show ts.length≤lim by omega),Option.bind_some,Cq,AG (Nat.lt_trans hi (AQ (show(no::c).length≤lim by simp;omega)))]
    cases AY ts (no::c)[i]<;>rfl) (m:=n) (by simp;omega)
 refine this.trans ?_;cases(no::c).all fun x=>(AY ts x).isSome<;>rfl
theorem R3{ts:List Task}{ls:List Lock}{no:Int}{B n:Nat}(h:TLB B ts ls)(hn:B+2<n)(hb:B+2≤lim):JD n ts ls no=some (if TasksOk ts∧LocksOk ls then Bu ts ls no else 0,()):=by
 have ht:=h.tasks;simp only[JD,J9 (show ts.length<n by omega) (show ts.length≤lim by omega),J8 h.locks hn hb,Option.bind_some]
 by_cases h1:TasksOk ts
 · by_cases h2:LocksOk ls
   ·simp only[decide_eq_true h1,decide_eq_true h2,Bool.not_true,cond_false,YY h hn hb h2,Option.bind_some,if_pos (And.intro h1 h2)]
   · have h3: ¬(TasksOk ts∧LocksOk ls):=fun h=>h2 h.2
     simp only[decide_eq_true h1,decide_eq_false h2,Bool.not_true,Bool.not_false,cond_false,cond_true,if_neg h3]
 · have h3: ¬(TasksOk ts∧LocksOk ls):=fun h=>h1 h.1
   simp only[decide_eq_false h1,Bool.not_false,cond_true,if_neg h3]
theorem Rz{ts:List Task}{ls:List Lock}{no:Int}{B n:Nat}(h:TLB B ts ls)(hn:B+2<n)(hb:B+2≤lim):I9 n ts ls no=some (Iz ts ls no,()):=by
 have ht:=h.tasks;simp only[I9,R3 h hn hb,Option.bind_some,Iz]
 by_cases h3:TasksOk ts∧LocksOk ls
 · simp only[if_pos h3,decide_eq_true h3,Bool.true_and,Bm]
   by_cases he:Bu ts ls no=0
   ·simp only[decide_eq_true he,Bool.not_true,cond_false,ne_eq,he,not_true_eq_false,decide_true,decide_false,Bool.not_true,cond_false,Bool.false_and]
   · obtain⟨⟨i,hi⟩,j,hj⟩:=OH he
     have:=Qm hi hj;simp only[decide_eq_false he,Bool.not_false,cond_true,Dv (show ts.length<n by omega) (show ts.length≤lim by omega),decide_eq_true (show Bu ts ls no≠0 from he),Bool.true_and]
     exact this
 ·simp only[if_neg h3,decide_eq_false h3,Bool.false_and,decide_true,Bool.not_true,cond_false]
theorem VJ{ts:List Task}{ls:List Lock}{no:Int}{B n:Nat}(h:TLB B ts ls)(hn:B+2<n)(hb:B+2≤lim)(hl:LocksOk ls):Jw n ts ls no=some (Bm ts ls no,()):=by
 have ht:=h.tasks;simp only[Jw,VK h hn hb hl,Option.bind_some,Bm]
 by_cases he:Bu ts ls no=0
 ·simp only[decide_eq_true he,Bool.not_true,cond_false,ne_eq,he,not_true_eq_false,decide_true,decide_false,Bool.not_true,cond_false,Bool.false_and]
 · obtain⟨⟨i,hi⟩,j,hj⟩:=OH he
   have:=Qm hi hj;simp only[decide_eq_false he,Bool.not_false,cond_true,F1 (show ts.length<n by omega) (show ts.length≤lim by omega),decide_eq_true (show Bu ts ls no≠0 from he),Bool.true_and]
   exact this
theorem Xv{ts:List Task}{ls:List Lock}{no:Int}{B n:Nat}(h:TLB B ts ls)(hn:B+2<n)(hb:B+2≤lim):K3 n ts ls no=some (Bs ts ls no,()):=by
 have ht:=h.tasks;simp only[K3,Rz h hn hb,Option.bind_some,Bs,HH,Iz]
 by_cases h3:TasksOk ts∧LocksOk ls
 · simp only[decide_eq_true h3,Bool.true_and]
   cases ha:Bm ts ls no with
   |false=>simp only[Bool.not_false,cond_true,Bool.false_and]
   |true=>
    obtain⟨i,hi⟩:=Qn ha;have:=Q3 hi;simp only[Bool.not_true,cond_false,Dv (show ts.length<n by omega) (show ts.length≤lim by omega),Bool.true_and]
    exact this
 ·simp only[decide_eq_false h3,Bool.false_and,Bool.not_false,cond_true]
theorem nU{ts:List Task}{ls:List Lock}{no:Int}{B n:Nat}(h:TLB B ts ls)(hn:B+2<n)(hb:B+2≤lim)(hl:LocksOk ls):Mh n ts ls no=some (HH ts ls no,()):=by
 have ht:=h.tasks;simp only[Mh,VJ h hn hb hl,Option.bind_some,HH];cases ha:Bm ts ls no with
 |false=>simp only[Bool.not_false,cond_true,Bool.false_and]
 |true=>
  obtain⟨i,hi⟩:=Qn ha;have:=Q3 hi;simp only[Bool.not_true,cond_false,F1 (show ts.length<n by omega) (show ts.length≤lim by omega),Bool.true_and]
  exact this
theorem Yk{ts:List Task}{ls:List Lock}{cpu:Int}{B n:Nat}(h:TLB B ts ls)(hn:B+2<n)(hb:B+2≤lim):Lc n ts ls cpu=some (B6 ts ls cpu,()):=by
 have ht:=h.tasks;unfold Lc B6;have:=AU (l:=fun m i=>FY n m ts ls cpu ((ts.take i).filter fun t=>decide (t.Cpu=cpu)&&Bs ts ls t.No) ts (ts.length:Int) (i:Int) (fun w11=>some (w11,()))) (len:=ts.length)
  (r:=some (ts.filter fun t=>decide (t.Cpu=cpu)&&Bs ts ls t.No,())) (fun _=>True) trivial (fun m _=> ?_) (fun m i hi _=>.inl ⟨?_,trivial⟩) (m:=n) (by omega)
 ·simpa using this
 ·simp only[FY,AP,cond_false,List.take_length]
 · have hfl:((ts.take i).filter fun t=>decide (t.Cpu=cpu)&&Bs ts ls t.No).length≤i:=Nat.le_trans (List.length_filter_le _ _) (List.length_take_le _ _)
   have e4:decide (((ts.take i).filter fun t=>decide (t.Cpu=cpu)&&Bs ts ls t.No).length+[ts[i]].length≤lim)=true:=decide_eq_true (by simp only[List.length_cons,List.length_nil];omega)
   simp only[FY,AD hi,AF,Bool.and_self,cond_true,AE hi,Xv h hn hb,Option.bind_some,e4,AG (Nat.lt_trans hi (AQ (show ts.length≤lim by omega)))]
   rw[Ds _ hi];cases decide (ts[i].Cpu=cpu)with
   |false=>simp
   |true=>cases Bs ts ls ts[i].No<;>simp
theorem PB{l:List Task}{n:Nat}(hn:l.length<n)(hb:l.length≤lim)(hl: ∀t∈l,TaskOk t):GF n l=some (EB (Ai l),()):=by
 unfold GF;have hok: ∀(i:Nat) t,(l.take i).foldl BQ none=some t→TaskOk t:=by
  have: ∀(xs:List Task) (b:Option Task),(∀t∈xs,TaskOk t)→(∀t,b=some t→TaskOk t)→ ∀t,xs.foldl BQ b=some t→TaskOk t:=by
   intro xs
   induction xs with
   |nil=>intro b _ hb t h;exact hb t h
   |cons x xs ih=>
    intro b hx hb t h;refine ih (BQ b x) (fun t ht=>hx t (List.mem_cons_of_mem _ ht)) (fun t ht=> ?_) t h
    unfold BQ at ht;split at ht
    ·injection ht with ht;subst ht;exact hx _ (List.mem_cons_self ..)
    · split at ht<;>injection ht with ht<;>subst ht
      ·exact hx _ (List.mem_cons_self ..)
      ·exact hb _ rfl
  exact fun i t h=>this (l.take i) none (fun t ht=>hl t (List.mem_of_mem_take ht)) (fun t h=>by cases h) t h
 have:=AU (l:=fun m i=>FX n m (PH ((l.take i).foldl BQ none)) l (l.length:Int) (i:Int) (fun w6=>some (w6.No,()))) (len:=l.length)
  (r:=some (EB (Ai l),())) (fun _=>True) trivial (fun m _=> ?_) (fun m i hi _=>.inl ⟨?_,trivial⟩) (m:=n) hn
 ·rw[List.take_zero]at this;exact this
 · simp only[FX,AP,cond_false,List.take_length,Ai]
   cases l.foldl BQ none<;>rfl
 · simp only[FX,AD hi,AF,Bool.and_self,cond_true,AE hi,Xt,Option.bind_some,AG (Nat.lt_trans hi (AQ hb))]
   rw[List.take_succ_eq_append_getElem hi,List.foldl_append];cases e:(l.take i).foldl BQ none with
   |none=>simp[PH,BQ]
   |some b=>
    have h0: ¬b.No=0:=by have:=(hok i b e).no;omega
    simp only[PH,decide_eq_false h0,cond_false,List.foldl_cons,List.foldl_nil,BQ]
    by_cases hbf:Before l[i] b
    ·simp[hbf,h0]
    ·simp[hbf,h0]
theorem YJ{ts:List Task}{ls:List Lock}{cpu:Int}{B n:Nat}(h:TLB B ts ls)(hn:B+2<n)(hb:B+2≤lim):LF n ts ls cpu=some (((pick ts ls cpu).1,(pick ts ls cpu).2,()),()):=by
 have ht:=h.tasks;have hsub: ∀t∈B6 ts ls cpu,t∈ts:=fun t ht=>(List.mem_filter.1 ht).1
 have hlen:(B6 ts ls cpu).length≤B:=Nat.le_trans (List.length_filter_le _ _) ht;simp only[LF,Yk h hn hb,Option.bind_some]
 by_cases h3:TasksOk ts∧LocksOk ls
 · rw[PB (by omega) (by omega) fun t ht=>h3.1.each t (hsub t ht)]
   simp only[Option.bind_some,pick];cases e:Ai (B6 ts ls cpu)with
   |none=>simp[EB]
   |some t=>
    have hm:=FA _ _ _ e;have hmt:t∈ts:=by
     rcases hm with hm|hm
     ·exact hsub t hm
     ·cases hm
    have h0: ¬t.No=0:=by have:=(h3.1.each t hmt).no;omega
    simp only[EB,R3 h hn hb,if_pos h3,Option.bind_some];simp only[h0,decide_false,cond_false]
 · have e:B6 ts ls cpu=[]:=oj h3
   rw[e,PB (by simp;omega) (by simp) (fun t ht=>by cases ht)]
   simp[pick,e,Ai,EB]
theorem nV{ts:List Task}{ls:List Lock}{cpu:Int}{B n:Nat}(h:TLB B ts ls)(hn:B+2<n)(hb:B+2≤lim)(h3:TasksOk ts)(h4:LocksOk ls):Mi n ts ls cpu=some (BT ts (Ai (B6 ts ls cpu)),()):=by
 have ht:=h.tasks;unfold Mi;have hcan: ∀no,Bs ts ls no=HH ts ls no:=fun no=>by unfold Bs;rw[decide_eq_true (And.intro h3 h4),Bool.true_and]
 have:=AU (l:=fun m i=>D9 n m ts ls cpu (BT ts (Ai ((ts.take i).filter fun t=>decide (t.Cpu=cpu)&&Bs ts ls t.No))) (i:Int) (fun w9=>some (w9,()))) (len:=ts.length)
  (r:=some (BT ts (Ai (B6 ts ls cpu)),())) (fun _=>True) trivial (fun m _=> ?_) (fun m i hi _=>.inl ⟨?_,trivial⟩) (m:=n) (by omega)
 ·simpa[Ai,BT]using this
 ·simp only[D9,AP,cond_false,List.take_length,B6]
 · have hil:=Nat.lt_trans hi (AQ (show ts.length≤lim by omega))
   rw[Ds _ hi,hcan];have hmem:=FA ((ts.take i).filter fun t=>decide (t.Cpu=cpu)&&Bs ts ls t.No) none
   have happ: ∀c,Ai (((ts.take i).filter fun t=>decide (t.Cpu=cpu)&&Bs ts ls t.No)++cond c [ts[i]] [])=cond c (BQ (Ai ((ts.take i).filter fun t=>decide (t.Cpu=cpu)&&Bs ts ls t.No)) ts[i]) (Ai ((ts.take i).filter fun t=>decide (t.Cpu=cpu)&&Bs ts ls t.No)):=fun c=>by
    cases c
    ·simp only[cond_false,List.append_nil]
    ·simp only[cond_true,Ai,List.foldl_append,List.foldl_cons,List.foldl_nil]
   have hh: ∀c:Bool,(if c=true then[ts[i]]else[])=cond c [ts[i]] []:=fun c=>by cases c<;>rfl
   have happ2: ∀c:Bool,Ai (((ts.take i).filter fun t=>decide (t.Cpu=cpu)&&Bs ts ls t.No)++(if c=true then[ts[i]]else[]))=_:=fun c=>(congrArg (fun z=>Ai (_++z)) (hh c)).trans (happ c)
   try rw[happ]
   try rw[happ2]
   change∀t,Ai ((ts.take i).filter fun t=>decide (t.Cpu=cpu)&&Bs ts ls t.No)=some t→_ at hmem
   revert hmem
   generalize he:Ai ((ts.take i).filter fun t=>decide (t.Cpu=cpu)&&Bs ts ls t.No)=ob
   clear he happ happ2;intro hmem;simp only[D9,AD hi,AF,Bool.and_self,cond_true,AE hi,nU h hn hb h4,Option.bind_some,AG hil,U5]
   by_cases hc:ts[i].Cpu=cpu
   · cases hk:HH ts ls ts[i].No with
     |false=>simp[hc,hk]
     |true=>
      simp only[decide_eq_true hc,cond_true,Bool.and_self]
      match ob,hmem with
      |none,_=>
       have:decide (BT ts none<0)=true:=by simp[BT]
       rw[this,cond_true];simp only[BQ,BT,Kb h3 hi,idx]
      |some b,hmem=>
       have hb2:b∈ts:=by
        rcases hmem _ rfl with hm|hm
        ·exact List.mem_of_mem_take (List.mem_filter.1 hm).1
        ·cases hm
       obtain⟨j,hj,hbj,hji⟩:=EY h3 hb2;simp only[BT,hji,idx,Er,cond_false,AF,AD hj,Bool.and_self,cond_true,AE hj,hbj,BQ]
       by_cases hbf:Before ts[i] b
       ·simp[hbf,Kb h3 hi,idx]
       ·simp[hbf,hji,idx]
   ·simp[hc]
end Go.Proofs.YtbbgaleennfklaaGreat.VR
end
section
set_option linter.unusedVariables false
set_option linter.unusedSimpArgs false
namespace Go.Proofs.YtbbgaleennfklaaGreat.VR
open Go
theorem SD{α:Type}(n:Nat)(k:Int→Option α): ∀(m a b:Nat),b<m→Hq n m (a:Int) (b:Int) k=k ((Nat.gcd a b:Nat):Int)
 |0,a,b,h=>absurd h (Nat.not_lt_zero _)
 |m+1,a,b,h=>by
  by_cases hb:b=0
  ·subst hb;simp[Hq]
  · have h1: ¬((b:Int)=0):=by omega
    have h2:a % b<m:=by have:=Nat.mod_lt a (Nat.pos_of_ne_zero hb);omega
    simp only[Hq,h1,decide_false,Bool.not_false,cond_true,cond_false,V2];rw[SD n k m b (a % b) h2,←Rp]
theorem VC{α:Type}(n:Nat)(k:Int→Option α): ∀(m a b:Nat),b<m→IR n m (a:Int) (b:Int) k=k ((Nat.gcd a b:Nat):Int)
 |0,a,b,h=>absurd h (Nat.not_lt_zero _)
 |m+1,a,b,h=>by
  by_cases hb:b=0
  ·subst hb;simp[IR]
  · have h1: ¬((b:Int)=0):=by omega
    have h3:0<(b:Int):=by omega
    have h2:a % b<m:=by have:=Nat.mod_lt a (Nat.pos_of_ne_zero hb);omega
    simp only[IR,h1,h3,decide_false,decide_true,cond_true,cond_false,V2];rw[VC n k m b (a % b) h2,←Rp]
theorem Yb{n a b:Nat}(h:b<n)(ha:a≤4000000000000000000)(hb:b≤4000000000000000000):LY n (a:Int) (b:Int)=some (((Nat.gcd a b:Nat):Int),()):=by
 unfold LY;rw[SD n _ n a b h];have hg:Nat.gcd a b≤4000000000000000000:=by
  rcases Nat.eq_zero_or_pos b with e|e
  ·subst e;simpa using ha
  ·exact Nat.le_trans (Nat.gcd_le_right a e) hb
 rw[AO (by omega) (by omega),if_neg (by omega)]
theorem nN{n a b:Nat}(h:b<n):Md n (a:Int) (b:Int)=some (((Nat.gcd a b:Nat):Int),()):=by
 unfold Md;rw[VC n _ n a b h]
theorem YP{l:List Share}{n:Nat}(hn:GN+l.length<n)(hb:l.length≤lim):LL n l=some (F2 l,()):=by
 have hc:Lx n l=some (!decide (∀s∈l,Av s),()):=by
  unfold Lx Oi;have:=CT (l:=fun m i=>IE n m l (l.length:Int) i (fun w5=>some (w5,())) (some (-1,()))) (xs:=l) (p:=fun s=> !decide (Av s)) (k0:=fun w5=>some (w5,())) (k1:=some (-1,()))
   (fun m=>by simp only[IE,AP,cond_false])
   (fun m i hi=>by simp only[IE,AD hi,AF,Bool.and_self,cond_true,AE hi,OM,Mp,Option.bind_some,AG (Nat.lt_trans hi (AQ hb))]) (m:=n) (by omega)
  rw[this];cases e:l.findIdx? fun s=> !decide (Av s)with
  |none=>
   rw[List.findIdx?_eq_none_iff]at e;have: ∀s∈l,Av s:=fun s hs=>by simpa using e s hs
   simp only[Option.bind_some,decide_eq_true this];rfl
  |some i=>
   rw[List.findIdx?_eq_some_iff_getElem]at e;obtain⟨hi,h1,_⟩:=e;have: ¬ ∀s∈l,Av s:=fun h=>by have:=h l[i] (List.getElem_mem hi);simp[this]at h1
   simp only[Option.bind_some,decide_eq_false this,AF];rfl
 unfold LL F2
 by_cases h7:l.length≤7
 · have h7': ¬(7<(l.length:Int)):=by omega
   rw[decide_eq_false h7',cond_false,hc,Option.bind_some]
   by_cases ha: ∀s∈l,Av s
   · rw[if_pos ⟨h7,ha⟩]
     simp only[decide_eq_true ha,Bool.not_true,cond_false];have:=AU (l:=fun m i=>He n m ((Am (l.take i)).1:Int) ((Am (l.take i)).2:Int) l (l.length:Int) (i:Int) (fun w11 w12=>some ((w11,w12,true,()),()))) (len:=l.length)
      (r:=some ((((Am l).1:Int),((Am l).2:Int),true,()),())) (fun _=>True) trivial (fun m _=> ?_) (fun m i hi _=>.inl ⟨?_,trivial⟩) (m:=n) (by omega)
     ·exact this
     ·simp only[He,AP,cond_false,List.take_length]
     · have hinv:=VQ (l:=l.take i) (fun s hs=>ha s (List.mem_of_mem_take hs))
       rw[List.length_take,Nat.min_eq_left (Nat.le_of_lt hi)]at hinv;have hsi:=ha l[i] (List.getElem_mem hi);obtain⟨e1,e2,e3,e4,b1,b2,b3,b4⟩:=VU hinv hsi (by omega)
       have hg0: ¬(((Nat.gcd ((Am (l.take i)).1*l[i].P.toNat+l[i].Q.toNat*(Am (l.take i)).2) ((Am (l.take i)).2*l[i].P.toNat):Nat):Int)=0):=by omega
       simp only[He,AD hi,AF,Bool.and_self,cond_true,AE hi,e1,e2,e3,e4,Yb (Nat.lt_of_lt_of_le b3 (show GN≤n by omega)) b1 b2,Option.bind_some,hg0,decide_false,cond_false,Kx b1,Kx b2,AG (Nat.lt_trans hi (AQ hb))]
       rw[VT hi];rfl
   · rw[if_neg (fun h=>ha h.2)]
     simp only[decide_eq_false ha,Bool.not_false,cond_true]
 · have h7':(7<(l.length:Int)):=by omega
   rw[decide_eq_true h7',cond_true,if_neg (fun h=>h7 h.1)]
theorem nB{l:List Share}{n:Nat}(hn:GN+l.length<n)(hb:l.length≤lim):MR n l=some (F2 l,()):=by
 unfold MR F2
 by_cases h7:l.length≤7
 · have h7': ¬(7<(l.length:Int)):=by omega
   rw[decide_eq_false h7',cond_false];have hstep: ∀m i (hi:i<l.length),(∀j (hj:j<i),Av (l[j]'(Nat.lt_trans hj hi)))→D7 n (m+1) l ((Am (l.take i)).1:Int) ((Am (l.take i)).2:Int) (i:Int) (fun _ _=>some ((0,0,false,()),())) (fun w12 w13=>some ((w12,w13,true,()),()))=
    if Av l[i]then D7 n m l ((Am (l.take (i+1))).1:Int) ((Am (l.take (i+1))).2:Int) ((i+1:Nat):Int) (fun _ _=>some ((0,0,false,()),())) (fun w12 w13=>some ((w12,w13,true,()),()))else some ((0,0,false,()),()):=by
    intro m i hi hI
    by_cases hsi:Av l[i]
    · have hinv:=VQ (l:=l.take i) (fun s hs=>by
       obtain⟨j,hj,rfl⟩:=List.getElem_of_mem hs;rw[List.length_take]at hj;rw[List.getElem_take];exact hI j (by omega))
      rw[List.length_take,Nat.min_eq_left (Nat.le_of_lt hi)]at hinv;obtain⟨e1,e2,e3,e4,b1,b2,b3,b4⟩:=VU hinv hsi (by omega)
      have hg0: ¬(((Nat.gcd ((Am (l.take i)).1*l[i].P.toNat+l[i].Q.toNat*(Am (l.take i)).2) ((Am (l.take i)).2*l[i].P.toNat):Nat):Int)=0):=by omega
      simp only[D7,AD hi,AF,Bool.and_self,cond_true,AE hi,KX,decide_eq_true hsi,Bool.not_true,e1,e2,e3,e4,nN (Nat.lt_of_lt_of_le b3 (show GN≤n by omega)),Option.bind_some,hg0,decide_false,cond_false,Kx b1,Kx b2,AG (Nat.lt_trans hi (AQ hb)),if_pos hsi]
      rw[VT hi];rfl
    ·simp only[D7,AD hi,AF,Bool.and_self,cond_true,AE hi,KX,decide_eq_false hsi,Bool.not_false,Option.bind_some,if_neg hsi]
   by_cases ha: ∀s∈l,Av s
   · rw[if_pos ⟨h7,ha⟩]
     have:=AU (l:=fun m i=>D7 n m l ((Am (l.take i)).1:Int) ((Am (l.take i)).2:Int) (i:Int) (fun _ _=>some ((0,0,false,()),())) (fun w12 w13=>some ((w12,w13,true,()),()))) (len:=l.length)
      (r:=some ((((Am l).1:Int),((Am l).2:Int),true,()),())) (fun _=>True) trivial (fun m _=> ?_) (fun m i hi _=>.inl ⟨?_,trivial⟩) (m:=n) (by omega)
     ·exact this
     ·simp only[D7,AP,cond_false,List.take_length]
     ·rw[hstep m i hi (fun j hj=>ha _ (List.getElem_mem _)),if_pos (ha _ (List.getElem_mem _))]
   · rw[if_neg (fun h=>ha h.2)]
     have hall: ¬ ∀j (hj:j<l.length),Av l[j]:=fun h=>ha fun s hs=>by
      obtain⟨j,hj,rfl⟩:=List.getElem_of_mem hs;exact h j hj
     have:=AU (l:=fun m i=>D7 n m l ((Am (l.take i)).1:Int) ((Am (l.take i)).2:Int) (i:Int) (fun _ _=>some ((0,0,false,()),())) (fun w12 w13=>some ((w12,w13,true,()),()))) (len:=l.length)
      (r:=some ((0,0,false,()),())) (fun i=> ∀j (hj:j<l.length),j<i→Av l[j]) (fun j _ h=>absurd h (Nat.not_lt_zero j)) (fun m hI=>absurd (fun j hj=>hI j hj hj) hall) (fun m i hi hI=> ?_) (m:=n) (by omega)
     ·exact this
     · rw[hstep m i hi (fun j hj=>hI j _ hj)]
       by_cases hr:Av l[i]
       · rw[if_pos hr]
         exact .inl ⟨rfl,fun j hj hji=>by
          by_cases e:j=i
          ·subst e;exact hr
          ·exact hI j hj (by omega)⟩
       ·rw[if_neg hr];exact .inr rfl
 · have h7':(7<(l.length:Int)):=by omega
   rw[decide_eq_true h7',cond_true,if_neg (fun h=>h7 h.1)]
theorem R5{l:List Share}{n:Nat}(hn:GN+l.length<n)(hb:l.length≤lim):JH n l=some (Bn l,()):=by
 simp only[JH,YP hn hb,Option.bind_some,RZ]
theorem U8{l:List Share}{n:Nat}(hn:GN+l.length<n)(hb:l.length≤lim):FL n l=some (Bn l,()):=by
 simp only[FL,nB hn hb,Option.bind_some,RZ]
theorem nZ{s:Sys}{cpu:Int}{n:Nat}(hn:s.Tasks.length+s.Ghosts.length<n)(hb:s.Tasks.length+s.Ghosts.length≤lim):Ml n s cpu=some (BH s cpu,()):=by
 unfold Ml;have h1:=AU (l:=fun m i=>Fp n m cpu s (BC (s.Tasks.take i) cpu) (i:Int) (fun w8=>El n n cpu s w8 0 (fun w15=>some (w15,())))) (len:=s.Tasks.length)
  (r:=El n n cpu s (BC s.Tasks cpu) 0 (fun w15=>some (w15,()))) (fun _=>True) trivial (fun m _=> ?_) (fun m i hi _=>.inl ⟨?_,trivial⟩) (m:=n) (by omega)
 · refine h1.trans ?_
   have h2:=AU (l:=fun m i=>El n m cpu s (BC s.Tasks cpu++Bv (s.Ghosts.take i) cpu) (i:Int) (fun w15=>some (w15,()))) (len:=s.Ghosts.length)
    (r:=some (BH s cpu,())) (fun _=>True) trivial (fun m _=> ?_) (fun m i hi _=>.inl ⟨?_,trivial⟩) (m:=n) (by omega)
   · rw[List.take_zero]at h2
     rw[show Bv [] cpu=[]from rfl,List.append_nil]at h2;exact h2
   ·simp only[El,AP,cond_false,List.take_length];rfl
   · have hl1:=E5 s.Tasks cpu s.Tasks.length
     rw[List.take_length]at hl1;have hl2:=J6 s.Ghosts cpu i;have hl:(BC s.Tasks cpu++Bv (s.Ghosts.take i) cpu).length<lim:=by rw[List.length_append];omega
     simp only[El,AD hi,AF,Bool.and_self,cond_true,AE hi,BV hl (Nat.le_refl _),AG (Nat.lt_trans hi (AQ (show s.Ghosts.length≤lim by omega)))]
     rw[Mn hi];cases decide (s.Ghosts[i].Cpu=cpu)with
     |false=>simp only[cond_false,List.append_nil]
     |true=>simp only[cond_true,List.append_assoc]
 ·simp only[Fp,AP,cond_false,List.take_length]
 · have hl:=E5 s.Tasks cpu i
   have hl3:(BC (s.Tasks.take i) cpu).length<lim:=by omega
   simp only[Fp,AD hi,AF,Bool.and_self,cond_true,AE hi,BV hl3 (Nat.le_refl _),AG (Nat.lt_trans hi (AQ (show s.Tasks.length≤lim by omega)))]
   rw[Ni hi];cases decide (s.Tasks[i].Cpu=cpu)<;>cases decide (s.Tasks[i].Class=1)<;>simp only[cond_false,cond_true,Bool.and_true,Bool.and_false,Bool.false_and,Bool.true_and,List.append_nil]
theorem YM{s:Sys}{cpu:Int}{n:Nat}(hn:s.Tasks.length+s.Ghosts.length<n)(hb:s.Tasks.length+s.Ghosts.length≤lim):LH n s cpu=some (BH s cpu,()):=by
 unfold LH;have h1:=AU (l:=fun m i=>FT n m cpu s (BC (s.Tasks.take i) cpu) s.Tasks (s.Tasks.length:Int) (i:Int) (fun w10=>EZ n n cpu w10 s.Ghosts (s.Ghosts.length:Int) 0 (fun w18=>some (w18,())))) (len:=s.Tasks.length)
  (r:=EZ n n cpu (BC s.Tasks cpu) s.Ghosts (s.Ghosts.length:Int) 0 (fun w18=>some (w18,()))) (fun _=>True) trivial (fun m _=> ?_) (fun m i hi _=>.inl ⟨?_,trivial⟩) (m:=n) (by omega)
 · refine h1.trans ?_
   have h2:=AU (l:=fun m i=>EZ n m cpu (BC s.Tasks cpu++Bv (s.Ghosts.take i) cpu) s.Ghosts (s.Ghosts.length:Int) (i:Int) (fun w15=>some (w15,()))) (len:=s.Ghosts.length)
    (r:=some (BH s cpu,())) (fun _=>True) trivial (fun m _=> ?_) (fun m i hi _=>.inl ⟨?_,trivial⟩) (m:=n) (by omega)
   · rw[List.take_zero]at h2
     rw[show Bv [] cpu=[]from rfl,List.append_nil]at h2;exact h2
   ·simp only[EZ,AP,cond_false,List.take_length];rfl
   · have hl1:=E5 s.Tasks cpu s.Tasks.length
     rw[List.take_length]at hl1;have hl2:=J6 s.Ghosts cpu i;have hl:(BC s.Tasks cpu++Bv (s.Ghosts.take i) cpu).length<lim:=by rw[List.length_append];omega
     simp only[EZ,AD hi,AF,Bool.and_self,cond_true,AE hi,BV hl (Nat.le_refl _),AG (Nat.lt_trans hi (AQ (show s.Ghosts.length≤lim by omega)))]
     rw[Mn hi];cases decide (s.Ghosts[i].Cpu=cpu)with
     |false=>simp only[cond_false,List.append_nil]
     |true=>simp only[cond_true,List.append_assoc]
 ·simp only[FT,AP,cond_false,List.take_length]
 · have hl:=E5 s.Tasks cpu i
   have hl3:(BC (s.Tasks.take i) cpu).length<lim:=by omega
   simp only[FT,AD hi,AF,Bool.and_self,cond_true,AE hi,BV hl3 (Nat.le_refl _),AG (Nat.lt_trans hi (AQ (show s.Tasks.length≤lim by omega)))]
   rw[Ni hi];cases decide (s.Tasks[i].Cpu=cpu)<;>cases decide (s.Tasks[i].Class=1)<;>simp only[cond_false,cond_true,Bool.and_true,Bool.and_false,Bool.false_and,Bool.true_and,List.append_nil]
theorem YL{s:Sys}{cpu:Int}{n:Nat}(hn:s.Tasks.length+s.Ghosts.length<n)(hb:s.Tasks.length+s.Ghosts.length≤lim):LI n s cpu=some (BH s cpu,()):=by
 unfold LI;have h1:=AU (l:=fun m i=>FU n m cpu s (BC (s.Tasks.take i) cpu) s.Tasks (s.Tasks.length:Int) (i:Int) (fun w10=>Ea n n cpu w10 s.Ghosts (s.Ghosts.length:Int) 0 (fun w18=>some (w18,())))) (len:=s.Tasks.length)
  (r:=Ea n n cpu (BC s.Tasks cpu) s.Ghosts (s.Ghosts.length:Int) 0 (fun w18=>some (w18,()))) (fun _=>True) trivial (fun m _=> ?_) (fun m i hi _=>.inl ⟨?_,trivial⟩) (m:=n) (by omega)
 · refine h1.trans ?_
   have h2:=AU (l:=fun m i=>Ea n m cpu (BC s.Tasks cpu++Bv (s.Ghosts.take i) cpu) s.Ghosts (s.Ghosts.length:Int) (i:Int) (fun w15=>some (w15,()))) (len:=s.Ghosts.length)
    (r:=some (BH s cpu,())) (fun _=>True) trivial (fun m _=> ?_) (fun m i hi _=>.inl ⟨?_,trivial⟩) (m:=n) (by omega)
   · rw[List.take_zero]at h2
     rw[show Bv [] cpu=[]from rfl,List.append_nil]at h2;exact h2
   ·simp only[Ea,AP,cond_false,List.take_length];rfl
   · have hl1:=E5 s.Tasks cpu s.Tasks.length
     rw[List.take_length]at hl1;have hl2:=J6 s.Ghosts cpu i;have hl:(BC s.Tasks cpu++Bv (s.Ghosts.take i) cpu).length<lim:=by rw[List.length_append];omega
     simp only[Ea,AD hi,AF,Bool.and_self,cond_true,AE hi,BV hl (Nat.le_refl _),AG (Nat.lt_trans hi (AQ (show s.Ghosts.length≤lim by omega)))]
     rw[Mn hi];cases decide (s.Ghosts[i].Cpu=cpu)with
     |false=>simp only[cond_false,List.append_nil]
     |true=>simp only[cond_true,List.append_assoc]
 ·simp only[FU,AP,cond_false,List.take_length]
 · have hl:=E5 s.Tasks cpu i
   have hl3:(BC (s.Tasks.take i) cpu).length<lim:=by omega
   simp only[FU,AD hi,AF,Bool.and_self,cond_true,AE hi,BV hl3 (Nat.le_refl _),AG (Nat.lt_trans hi (AQ (show s.Tasks.length≤lim by omega)))]
   rw[Ni hi];cases decide (s.Tasks[i].Cpu=cpu)<;>cases decide (s.Tasks[i].Class=1)<;>simp only[cond_false,cond_true,Bool.and_true,Bool.and_false,Bool.false_and,Bool.true_and,List.append_nil]
end Go.Proofs.YtbbgaleennfklaaGreat.VR
end
section
set_option linter.unusedVariables false
set_option linter.unusedSimpArgs false
namespace Go.Proofs.YtbbgaleennfklaaGreat.VR
open Go
theorem Gy{β:Type}{xs:List β}{d:β}{i:Nat}(h:i<xs.length):List.set (xs.take i++List.replicate (xs.length-i) d) i xs[i]=xs.take (i+1)++List.replicate (xs.length-(i+1)) d:=by
 have e:xs.length-i=(xs.length-(i+1))+1:=by omega
 rw[e,List.replicate_succ,List.set_append_right _ _ (by simp;omega)]
 have:i-(xs.take i).length=0:=by simp;omega
 rw[this,List.set_cons_zero,List.take_succ_eq_append_getElem h,List.append_assoc];rfl
theorem Ga{β:Type}{xs:List β}{d:β}{i:Nat}(h:i≤xs.length):(xs.take i++List.replicate (xs.length-i) d).length=xs.length:=by
 simp;omega
theorem Bw{n:Nat}(h:n≤lim):n<Aa:=by unfold lim at h;unfold Aa;omega
theorem ZA(t:Turn):Oa t=some (Qc t,()):=rfl
theorem Y8(t:Task):OZ t=some (AN t,()):=rfl
theorem Y4(t:Ghost):OY t=some (Qa t,()):=rfl
theorem PN(a b:Turn):Lm a b=some (decide (a=b),()):=by
 simp only[Lm,Bt];refine Be ?_;cases a;cases b;simp[BB]
theorem Yy(a b:Share):Lk a b=some (decide (a=b),()):=by
 simp only[Lk,Bt];refine Be ?_;cases a;cases b;simp[BB]
theorem PK(a b:Ghost):Li a b=some (decide (a=b),()):=by
 simp only[Li,Yy,Option.bind_some,Bt];refine Be ?_;cases a;cases b;simp[BB]
theorem PM(a b:Task):Ll a b=some (decide (a=b),()):=by
 simp only[Ll,Bt];refine Be ?_;cases a;cases b;simp[BB]
theorem Y9{xs:List Turn}{n:Nat}(hn:xs.length<n)(hb:xs.length≤lim):Jl n xs=some (xs,()):=by
 have hb':((xs.length:Int)≤(lim:Int)):=by omega
 simp only[Jl,decide_true,AF,hb',Bool.and_self,cond_true,Int.toNat_natCast];refine AU (l:=fun m i=>H8 n m xs (xs.take i++List.replicate (xs.length-i) (Kd.dflt .turn)) (i:Int) (fun w5=>some (w5,()))) (len:=xs.length) (fun i=>i≤xs.length) (Nat.zero_le _) (fun m _=> ?_) (fun m i hi _=>.inl ⟨?_,hi⟩) hn
 ·simp[H8]
 · have hl:=Ga (xs:=xs) (d:=Kd.dflt .turn) (i:=i) (by omega)
   simp only[H8,hl,AD hi,AF,Bool.and_self,cond_true,AE hi,Ab hi,ZA,Option.bind_some,Int.toNat_natCast,decide_true,hi,dnTurn_up,AG (Nat.lt_trans hi (Bw hb)),Gy hi]
theorem Y7{xs:List Task}{n:Nat}(hn:xs.length<n)(hb:xs.length≤lim):Jk n xs=some (xs,()):=by
 have hb':((xs.length:Int)≤(lim:Int)):=by omega
 simp only[Jk,decide_true,AF,hb',Bool.and_self,cond_true,Int.toNat_natCast];refine AU (l:=fun m i=>H7 n m xs (xs.take i++List.replicate (xs.length-i) (Kd.dflt .task)) (i:Int) (fun w5=>some (w5,()))) (len:=xs.length) (fun i=>i≤xs.length) (Nat.zero_le _) (fun m _=> ?_) (fun m i hi _=>.inl ⟨?_,hi⟩) hn
 ·simp[H7]
 · have hl:=Ga (xs:=xs) (d:=Kd.dflt .task) (i:=i) (by omega)
   simp only[H7,hl,AD hi,AF,Bool.and_self,cond_true,AE hi,Ab hi,Y8,Option.bind_some,Int.toNat_natCast,decide_true,hi,dnTask_up,AG (Nat.lt_trans hi (Bw hb)),Gy hi]
theorem Y3{xs:List Ghost}{n:Nat}(hn:xs.length<n)(hb:xs.length≤lim):Jh n xs=some (xs,()):=by
 have hb':((xs.length:Int)≤(lim:Int)):=by omega
 simp only[Jh,decide_true,AF,hb',Bool.and_self,cond_true,Int.toNat_natCast];refine AU (l:=fun m i=>H4 n m xs (xs.take i++List.replicate (xs.length-i) (Kd.dflt .ghost)) (i:Int) (fun w5=>some (w5,()))) (len:=xs.length) (fun i=>i≤xs.length) (Nat.zero_le _) (fun m _=> ?_) (fun m i hi _=>.inl ⟨?_,hi⟩) hn
 ·simp[H4]
 · have hl:=Ga (xs:=xs) (d:=Kd.dflt .ghost) (i:=i) (by omega)
   simp only[H4,hl,AD hi,AF,Bool.and_self,cond_true,AE hi,Ab hi,Y4,Option.bind_some,Int.toNat_natCast,decide_true,hi,dnGhost_up,AG (Nat.lt_trans hi (Bw hb)),Gy hi]
theorem Sb{xs:List Int}{n:Nat}(hn:xs.length<n)(hb:xs.length≤lim):HU n xs=some (xs,()):=by
 have hb':((xs.length:Int)≤(lim:Int)):=by omega
 simp only[HU,decide_true,AF,hb',Bool.and_self,cond_true,Int.toNat_natCast];refine AU (l:=fun m i=>H5 n m xs (xs.take i++List.replicate (xs.length-i) (Kd.dflt .int)) (i:Int) (fun w5=>some (w5,()))) (len:=xs.length) (fun i=>i≤xs.length) (Nat.zero_le _) (fun m _=> ?_) (fun m i hi _=>.inl ⟨?_,hi⟩) hn
 ·simp[H5]
 · have hl:=Ga (xs:=xs) (d:=Kd.dflt .int) (i:=i) (by omega)
   simp only[H5,hl,AD hi,AF,Bool.and_self,cond_true,AE hi,Ab hi,Option.bind_some,Int.toNat_natCast,decide_true,hi,AG (Nat.lt_trans hi (Bw hb)),Gy hi]
theorem Y6{t:Lock}{n:Nat}(hn:t.Waits.length<n)(hb:t.Waits.length≤lim):Lu n t=some (Qb t,()):=by
 simp only[Lu,Sb hn hb,Option.bind_some]
theorem Y5{xs:List Lock}{n:Nat}(hn:xs.length<n)(hb:xs.length≤lim)(hx: ∀x∈xs,x.Waits.length<n∧x.Waits.length≤lim):Ji n xs=some (xs,()):=by
 have hb':((xs.length:Int)≤(lim:Int)):=by omega
 simp only[Ji,decide_true,AF,hb',Bool.and_self,cond_true,Int.toNat_natCast];refine AU (l:=fun m i=>H6 n m xs (xs.take i++List.replicate (xs.length-i) (Kd.dflt .lock)) (i:Int) (fun w5=>some (w5,()))) (len:=xs.length) (fun i=>i≤xs.length) (Nat.zero_le _) (fun m _=> ?_) (fun m i hi _=>.inl ⟨?_,hi⟩) hn
 ·simp[H6]
 · have hl:=Ga (xs:=xs) (d:=Kd.dflt .lock) (i:=i) (by omega)
   have he:=Y6 (hx xs[i] (List.getElem_mem hi)).1 (hx xs[i] (List.getElem_mem hi)).2;simp only[H6,hl,AD hi,AF,Bool.and_self,cond_true,AE hi,Ab hi,he,Option.bind_some,Int.toNat_natCast,decide_true,hi,dnLock_up,AG (Nat.lt_trans hi (Bw hb)),Gy hi]
theorem Y0{xs ys:List Turn}{n:Nat}(hn:xs.length<n)(hb:xs.length≤lim):Ja n xs ys=some (decide (xs=ys),()):=by
 by_cases hl:xs.length=ys.length
 · have hl':((xs.length:Int)=(ys.length:Int)):=by omega
   simp only[Ja,hl',decide_true,Bool.not_true,cond_false]
   by_cases he:xs=ys
   · subst he
     refine AU (l:=fun m i=>Eg n m xs xs (i:Int) (some (false,())) (some (true,()))) (len:=xs.length) (fun _=>True) trivial (fun m _=> ?_) (fun m i hi _=>.inl ⟨?_,trivial⟩) hn
     ·simp[Eg]
     · skip
       simp only[Eg,AD hi,AF,Bool.and_self,cond_true,AE hi,Ab hi,PN,Option.bind_some,decide_true,Bool.not_true,cond_false,AG (Nat.lt_trans hi (Bw hb))]
   · rw[decide_eq_false he]
     refine AU (l:=fun m i=>Eg n m xs ys (i:Int) (some (false,())) (some (true,()))) (len:=xs.length) (fun i=>xs.take i=ys.take i) rfl (fun m hI=> ?_) (fun m i hi hI=> ?_) hn
     ·exact absurd (by have:=hI;rw[List.take_length,hl,List.take_length]at this;exact this) he
     · have hj:i<ys.length:=by omega
       skip
       by_cases e:xs[i]=ys[i]
       · left
         refine⟨?_,by rw[List.take_succ_eq_append_getElem hi,List.take_succ_eq_append_getElem hj,hI,e]⟩
         simp only[Eg,AD hi,AD hj,AF,Bool.and_self,cond_true,AE hi,AE hj,PN,Option.bind_some,decide_eq_true e,Bool.not_true,cond_false,AG (Nat.lt_trans hi (Bw hb))]
       · right
         simp only[Eg,AD hi,AD hj,AF,Bool.and_self,cond_true,AE hi,AE hj,PN,Option.bind_some,decide_eq_false e,Bool.not_false,cond_true]
 · have hl': ¬((xs.length:Int)=(ys.length:Int)):=by omega
   have he: ¬xs=ys:=fun h=>hl (by rw[h])
   simp only[Ja,hl',he,decide_false,Bool.not_false,cond_true]
theorem Yz{xs ys:List Task}{n:Nat}(hn:xs.length<n)(hb:xs.length≤lim):JZ n xs ys=some (decide (xs=ys),()):=by
 by_cases hl:xs.length=ys.length
 · have hl':((xs.length:Int)=(ys.length:Int)):=by omega
   simp only[JZ,hl',decide_true,Bool.not_true,cond_false]
   by_cases he:xs=ys
   · subst he
     refine AU (l:=fun m i=>Ef n m xs xs (i:Int) (some (false,())) (some (true,()))) (len:=xs.length) (fun _=>True) trivial (fun m _=> ?_) (fun m i hi _=>.inl ⟨?_,trivial⟩) hn
     ·simp[Ef]
     · skip
       simp only[Ef,AD hi,AF,Bool.and_self,cond_true,AE hi,Ab hi,PM,Option.bind_some,decide_true,Bool.not_true,cond_false,AG (Nat.lt_trans hi (Bw hb))]
   · rw[decide_eq_false he]
     refine AU (l:=fun m i=>Ef n m xs ys (i:Int) (some (false,())) (some (true,()))) (len:=xs.length) (fun i=>xs.take i=ys.take i) rfl (fun m hI=> ?_) (fun m i hi hI=> ?_) hn
     ·exact absurd (by have:=hI;rw[List.take_length,hl,List.take_length]at this;exact this) he
     · have hj:i<ys.length:=by omega
       skip
       by_cases e:xs[i]=ys[i]
       · left
         refine⟨?_,by rw[List.take_succ_eq_append_getElem hi,List.take_succ_eq_append_getElem hj,hI,e]⟩
         simp only[Ef,AD hi,AD hj,AF,Bool.and_self,cond_true,AE hi,AE hj,PM,Option.bind_some,decide_eq_true e,Bool.not_true,cond_false,AG (Nat.lt_trans hi (Bw hb))]
       · right
         simp only[Ef,AD hi,AD hj,AF,Bool.and_self,cond_true,AE hi,AE hj,PM,Option.bind_some,decide_eq_false e,Bool.not_false,cond_true]
 · have hl': ¬((xs.length:Int)=(ys.length:Int)):=by omega
   have he: ¬xs=ys:=fun h=>hl (by rw[h])
   simp only[JZ,hl',he,decide_false,Bool.not_false,cond_true]
theorem Yw{xs ys:List Ghost}{n:Nat}(hn:xs.length<n)(hb:xs.length≤lim):JX n xs ys=some (decide (xs=ys),()):=by
 by_cases hl:xs.length=ys.length
 · have hl':((xs.length:Int)=(ys.length:Int)):=by omega
   simp only[JX,hl',decide_true,Bool.not_true,cond_false]
   by_cases he:xs=ys
   · subst he
     refine AU (l:=fun m i=>Ec n m xs xs (i:Int) (some (false,())) (some (true,()))) (len:=xs.length) (fun _=>True) trivial (fun m _=> ?_) (fun m i hi _=>.inl ⟨?_,trivial⟩) hn
     ·simp[Ec]
     · skip
       simp only[Ec,AD hi,AF,Bool.and_self,cond_true,AE hi,Ab hi,PK,Option.bind_some,decide_true,Bool.not_true,cond_false,AG (Nat.lt_trans hi (Bw hb))]
   · rw[decide_eq_false he]
     refine AU (l:=fun m i=>Ec n m xs ys (i:Int) (some (false,())) (some (true,()))) (len:=xs.length) (fun i=>xs.take i=ys.take i) rfl (fun m hI=> ?_) (fun m i hi hI=> ?_) hn
     ·exact absurd (by have:=hI;rw[List.take_length,hl,List.take_length]at this;exact this) he
     · have hj:i<ys.length:=by omega
       skip
       by_cases e:xs[i]=ys[i]
       · left
         refine⟨?_,by rw[List.take_succ_eq_append_getElem hi,List.take_succ_eq_append_getElem hj,hI,e]⟩
         simp only[Ec,AD hi,AD hj,AF,Bool.and_self,cond_true,AE hi,AE hj,PK,Option.bind_some,decide_eq_true e,Bool.not_true,cond_false,AG (Nat.lt_trans hi (Bw hb))]
       · right
         simp only[Ec,AD hi,AD hj,AF,Bool.and_self,cond_true,AE hi,AE hj,PK,Option.bind_some,decide_eq_false e,Bool.not_false,cond_true]
 · have hl': ¬((xs.length:Int)=(ys.length:Int)):=by omega
   have he: ¬xs=ys:=fun h=>hl (by rw[h])
   simp only[JX,hl',he,decide_false,Bool.not_false,cond_true]
theorem PL{xs ys:List Int}{n:Nat}(hn:xs.length<n)(hb:xs.length≤lim):EQ n xs ys=some (decide (xs=ys),()):=by
 by_cases hl:xs.length=ys.length
 · have hl':((xs.length:Int)=(ys.length:Int)):=by omega
   simp only[EQ,hl',decide_true,Bool.not_true,cond_false]
   by_cases he:xs=ys
   · subst he
     refine AU (l:=fun m i=>Ed n m xs xs (i:Int) (some (false,())) (some (true,()))) (len:=xs.length) (fun _=>True) trivial (fun m _=> ?_) (fun m i hi _=>.inl ⟨?_,trivial⟩) hn
     ·simp[Ed]
     · skip
       simp only[Ed,AD hi,AF,Bool.and_self,cond_true,AE hi,Ab hi,Option.bind_some,decide_true,Bool.not_true,cond_false,AG (Nat.lt_trans hi (Bw hb))]
   · rw[decide_eq_false he]
     refine AU (l:=fun m i=>Ed n m xs ys (i:Int) (some (false,())) (some (true,()))) (len:=xs.length) (fun i=>xs.take i=ys.take i) rfl (fun m hI=> ?_) (fun m i hi hI=> ?_) hn
     ·exact absurd (by have:=hI;rw[List.take_length,hl,List.take_length]at this;exact this) he
     · have hj:i<ys.length:=by omega
       skip
       by_cases e:xs[i]=ys[i]
       · left
         refine⟨?_,by rw[List.take_succ_eq_append_getElem hi,List.take_succ_eq_append_getElem hj,hI,e]⟩
         simp only[Ed,AD hi,AD hj,AF,Bool.and_self,cond_true,AE hi,AE hj,Option.bind_some,decide_eq_true e,Bool.not_true,cond_false,AG (Nat.lt_trans hi (Bw hb))]
       · right
         simp only[Ed,AD hi,AD hj,AF,Bool.and_self,cond_true,AE hi,AE hj,Option.bind_some,decide_eq_false e,Bool.not_false,cond_true]
 · have hl': ¬((xs.length:Int)=(ys.length:Int)):=by omega
   have he: ¬xs=ys:=fun h=>hl (by rw[h])
   simp only[EQ,hl',he,decide_false,Bool.not_false,cond_true]
theorem Sa{a b:Lock}{n:Nat}(hn:a.Waits.length<n)(hb:a.Waits.length≤lim):Lj n a b=some (decide (a=b),()):=by
 simp only[Lj,PL hn hb,Option.bind_some,Bt];refine Be ?_;cases a;cases b;simp[BB]
theorem Yx{xs ys:List Lock}{n:Nat}(hn:xs.length<n)(hb:xs.length≤lim)(hx: ∀x∈xs,x.Waits.length<n∧x.Waits.length≤lim):JY n xs ys=some (decide (xs=ys),()):=by
 by_cases hl:xs.length=ys.length
 · have hl':((xs.length:Int)=(ys.length:Int)):=by omega
   simp only[JY,hl',decide_true,Bool.not_true,cond_false]
   by_cases he:xs=ys
   · subst he
     refine AU (l:=fun m i=>Ee n m xs xs (i:Int) (some (false,())) (some (true,()))) (len:=xs.length) (fun _=>True) trivial (fun m _=> ?_) (fun m i hi _=>.inl ⟨?_,trivial⟩) hn
     ·simp[Ee]
     · have hq:=fun b=>Sa (b:=b) (hx xs[i] (List.getElem_mem hi)).1 (hx xs[i] (List.getElem_mem hi)).2
       simp only[Ee,AD hi,AF,Bool.and_self,cond_true,AE hi,Ab hi,hq,Option.bind_some,decide_true,Bool.not_true,cond_false,AG (Nat.lt_trans hi (Bw hb))]
   · rw[decide_eq_false he]
     refine AU (l:=fun m i=>Ee n m xs ys (i:Int) (some (false,())) (some (true,()))) (len:=xs.length) (fun i=>xs.take i=ys.take i) rfl (fun m hI=> ?_) (fun m i hi hI=> ?_) hn
     ·exact absurd (by have:=hI;rw[List.take_length,hl,List.take_length]at this;exact this) he
     · have hj:i<ys.length:=by omega
       have hq:=fun b=>Sa (b:=b) (hx xs[i] (List.getElem_mem hi)).1 (hx xs[i] (List.getElem_mem hi)).2
       by_cases e:xs[i]=ys[i]
       · left
         refine⟨?_,by rw[List.take_succ_eq_append_getElem hi,List.take_succ_eq_append_getElem hj,hI,e]⟩
         simp only[Ee,AD hi,AD hj,AF,Bool.and_self,cond_true,AE hi,AE hj,hq,Option.bind_some,decide_eq_true e,Bool.not_true,cond_false,AG (Nat.lt_trans hi (Bw hb))]
       · right
         simp only[Ee,AD hi,AD hj,AF,Bool.and_self,cond_true,AE hi,AE hj,hq,Option.bind_some,decide_eq_false e,Bool.not_false,cond_true]
 · have hl': ¬((xs.length:Int)=(ys.length:Int)):=by omega
   have he: ¬xs=ys:=fun h=>hl (by rw[h])
   simp only[JY,hl',he,decide_false,Bool.not_false,cond_true]
theorem KC{s:Sys}{B n:Nat}(h:Small B s)(hn:B<n)(hb:B≤lim):CS n s=some (AA s,()):=by
 have h1:=h.tasks;have h2:=h.locks;have h4:=h.ghosts;have h5:=h.floors;have h6:=h.trace;simp only[CS,Y7 (xs:=s.Tasks) (n:=n) (by omega) (by omega),Y5 (xs:=s.Locks) (n:=n) (by omega) (by omega) (fun x hx=>by have:=h.waits x hx;omega),
  Y3 (xs:=s.Ghosts) (n:=n) (by omega) (by omega),Sb (xs:=s.Floors) (n:=n) (by omega) (by omega),Y9 (xs:=s.Trace) (n:=n) (by omega) (by omega),Option.bind_some]
theorem Gl{s t:Sys}{B n:Nat}(h:Small B s)(hn:B<n)(hb:B≤lim):CD n s t=some (decide (s=t),()):=by
 have h1:=h.tasks;have h2:=h.locks;have h4:=h.ghosts;have h5:=h.floors;have h6:=h.trace;simp only[CD,Yz (xs:=s.Tasks) (n:=n) (by omega) (by omega),Yx (xs:=s.Locks) (n:=n) (by omega) (by omega) (fun x hx=>by have:=h.waits x hx;omega),
  Yw (xs:=s.Ghosts) (n:=n) (by omega) (by omega),PL (xs:=s.Floors) (n:=n) (by omega) (by omega),Y0 (xs:=s.Trace) (n:=n) (by omega) (by omega),Option.bind_some,Bt]
 refine Be ?_;cases s;cases t;simp[BB]
end Go.Proofs.YtbbgaleennfklaaGreat.VR
end
section
set_option linter.unusedVariables false
set_option linter.unusedSimpArgs false
namespace Go.Proofs.YtbbgaleennfklaaGreat.VR
open Go
theorem nq{xs:List Task}{b:Int}(h0:0≤b)(h1:b≤1048576)(h2:xs.length≤big):OW xs b=some (szR b xs.length,()):=Nc h0 h1 h2
theorem nl{xs:List Ghost}{b:Int}(h0:0≤b)(h1:b≤1048576)(h2:xs.length≤big):OV xs b=some (szR b xs.length,()):=Nc h0 h1 h2
theorem VW{xs:List Int}{b:Int}(h0:0≤b)(h1:b≤1048576)(h2:xs.length≤big):Lq xs b=some (szR b xs.length,()):=Nc h0 h1 h2
theorem nr{xs:List Turn}{b:Int}(h0:0≤b)(h1:b≤1048576)(h2:xs.length≤big):OX xs b=some (szR b xs.length,()):=Nc h0 h1 h2
theorem nn{k:Lock}{b:Int}(h0:0≤b)(h1:b≤1048576)(h2:k.Waits.length≤big):Lr k b=some (szR b k.Waits.length,()):=by
 simp only[Lr,VW h0 h1 h2,Option.bind_some];unfold szR;split<;>rename_i h
 ·rfl
 ·rw[decide_eq_false h];rfl
theorem nm{xs:List Lock}{b:Int}{n:Nat}(h0:0≤b)(h1:b≤1048576)(h2:xs.length≤big)(h3: ∀k∈xs,k.Waits.length≤big)(hn:xs.length<n):Ls n xs b=some (szR b (xs.length+(AT xs).length),()):=by
 have h2':=h2;unfold big at h2';simp only[Ls,AO (n:=b-(xs.length:Int)) (by omega) (by omega)]
 by_cases hl:b-(xs.length:Int)<0
 · rw[decide_eq_true hl,cond_true]
   unfold szR;rw[if_pos (by omega)]
 · rw[decide_eq_false hl,cond_false]
   have:=AU (l:=fun m i=>Hx n m xs (b-(xs.length:Int)-((AT (xs.take i)).length:Int)) (i:Int) (fun _=>some ((-1),())) (fun w6=>some (w6,()))) (len:=xs.length)
    (r:=some (szR b (xs.length+(AT xs).length),())) (fun i=>0≤b-(xs.length:Int)-((AT (xs.take i)).length:Int)) (by simp[AT];omega) (fun m hI=> ?_) (fun m i hi hI=> ?_) hn
   ·simpa[AT]using this
   · rw[List.take_length]at hI
     simp only[Hx,AP,cond_false,List.take_length];rw[np (by omega)]
     have:b-(xs.length:Int)-((AT xs).length:Int)=b-((xs.length+(AT xs).length:Nat):Int):=by omega
     rw[this]
   · have hk:=h3 xs[i] (List.getElem_mem hi)
     have hle:=Nh (l:=xs) (i+1);rw[Dg hi,List.length_append]at hle;simp only[Hx,AD hi,AF,Bool.and_self,cond_true,AE hi,nn hI (by omega) hk,Option.bind_some,AG (Nat.lt_trans hi (AQ (by unfold lim;omega)))]
     by_cases hs:szR (b-(xs.length:Int)-((AT (xs.take i)).length:Int)) xs[i].Waits.length<0
     · right
       rw[decide_eq_true hs,cond_true];unfold szR at hs;split at hs
       · rename_i hs'
         unfold szR;rw[if_pos (by omega)]
       ·omega
     · left
       obtain⟨q1,q2⟩:=Ka hs;rw[decide_eq_false hs,cond_false,q2,Dg hi,List.length_append];have:b-(xs.length:Int)-((AT (xs.take i)).length:Int)-(xs[i].Waits.length:Int)=b-(xs.length:Int)-(((AT (xs.take i)).length+xs[i].Waits.length:Nat):Int):=by omega
       exact⟨by rw[this],by omega⟩
theorem Nd{s:Sys}{n:Nat}(h:SysWf s)(hn:big<n): ∃r,GJ n s 1048576=some (r,())∧(r<0∨(¬r<0∧SysB s)):=by
 have q1:=h.tasks.1;have q2:=h.locks.1;have q3:=h.ghosts.1;have q4:=h.floors.1;have q5:=h.trace.1;have q6:=ox h.locks;have e:big=1048576:=rfl;have hm:((-1:Int)<0):=by omega
 simp only[GJ,nq (b:=1048576) (by omega) (by omega) q1,Option.bind_some]
 by_cases c1:szR 1048576 s.Tasks.length<0
 ·rw[decide_eq_true c1,cond_true];exact⟨_,rfl,.inl hm⟩
 · obtain⟨a1,b1⟩:=Ka c1
   rw[decide_eq_false c1,cond_false,b1];rw[nm (by omega) (by omega) q2 q6 (by omega),Option.bind_some]
   by_cases c2:szR (1048576-(s.Tasks.length:Int)) (s.Locks.length+(AT s.Locks).length)<0
   ·rw[decide_eq_true c2,cond_true];exact⟨_,rfl,.inl hm⟩
   · obtain⟨a2,b2⟩:=Ka c2
     rw[decide_eq_false c2,cond_false,b2,nl (by omega) (by omega) q3,Option.bind_some]
     by_cases c3:szR (1048576-(s.Tasks.length:Int)-((s.Locks.length+(AT s.Locks).length:Nat):Int)) s.Ghosts.length<0
     ·rw[decide_eq_true c3,cond_true];exact⟨_,rfl,.inl hm⟩
     · obtain⟨a3,b3⟩:=Ka c3
       rw[decide_eq_false c3,cond_false,b3,VW (by omega) (by omega) q4,Option.bind_some]
       by_cases c4:szR (1048576-(s.Tasks.length:Int)-((s.Locks.length+(AT s.Locks).length:Nat):Int)-(s.Ghosts.length:Int)) s.Floors.length<0
       ·rw[decide_eq_true c4,cond_true];exact⟨_,rfl,.inl hm⟩
       · obtain⟨a4,b4⟩:=Ka c4
         rw[decide_eq_false c4,cond_false,b4,nr (by omega) (by omega) q5,Option.bind_some]
         by_cases c5:szR (1048576-(s.Tasks.length:Int)-((s.Locks.length+(AT s.Locks).length:Nat):Int)-(s.Ghosts.length:Int)-(s.Floors.length:Int)) s.Trace.length<0
         ·rw[decide_eq_true c5,cond_true];exact⟨_,rfl,.inl hm⟩
         · rw[decide_eq_false c5,cond_false]
           refine⟨_,rfl,.inr ⟨c5,⟨⟨q1,⟨q2,by omega⟩⟩,⟨q1,q2,q6,q3,q4,q5⟩⟩⟩⟩
end Go.Proofs.YtbbgaleennfklaaGreat.VR
end
section
set_option linter.unusedVariables false
set_option linter.unusedSimpArgs false
namespace Go.Proofs.YtbbgaleennfklaaGreat.VR
open Go
theorem Yf{ts:List Task}{k:Lock}{n:Nat}(hn:ts.length<n)(hb:ts.length≤lim)(hw:k.Waits.length+1<n)(hwb:k.Waits.length+1≤lim)(hc: ∀t∈ts,0≤t.Cpu)(h0:k.Owner=0→k.Waits=[])(hnz: ∀y∈k.Waits,y≠0):La n ts k=some (De ts k,()):=by
 unfold La De;have e0:decide (([k.Owner]:List Int).length+(k.Waits).length≤lim)=true:=decide_eq_true (by simp;omega)
 rw[e0,cond_true];obtain⟨m,rfl⟩: ∃m,n=m+1:=⟨n-1,by omega⟩
 have hL:(([k.Owner]:List Int)++k.Waits)=k.Owner::k.Waits:=rfl;have hlen:(k.Owner::k.Waits).length=k.Waits.length+1:=rfl;have hz:decide ((0:Int)<((k.Owner::k.Waits).length:Int))=true:=decide_eq_true (by rw[hlen];omega)
 have hz2:decide ((0:Int)≤0)=true:=by decide
 rw[hL]
 by_cases ho:k.Owner=0
 · rw[decide_eq_true ho,Bool.true_or,h0 ho,ho]
   obtain⟨q,rfl⟩: ∃q,m=q+1:=⟨m-1,by omega⟩
   simp[D3,AO]
 · rw[decide_eq_false ho,Bool.false_or]
   rw[D3,hz,hz2,cond_true,Bool.and_self,cond_true];have hg:List.getD (k.Owner::k.Waits) (Int.toNat 0) (Kd.dflt .int)=k.Owner:=rfl;rw[hg,decide_eq_false ho,cond_false,Dv hn hb,Option.bind_some];cases e:AY ts k.Owner with
   |none=>rfl
   |some i=>
    obtain⟨hi,_⟩:=B5 e;have n1:decide ((0:Int)≤ -1)=false:=by decide
    have w1:w64 (0+1)=1:=AO (by omega) (by omega)
    have z1: ¬((i:Int)<0):=by omega
    have z2:(0:Int)≤(i:Int):=by omega
    have z3:(i:Int)<(ts.length:Int):=by omega
    simp only[idx,z1,z2,z3,decide_true,decide_false,cond_false,n1,Bool.and_self,cond_true,w1,Int.toNat_natCast,Option.isSome_some,Bool.true_and];rw[←Kc e];have:=Di (l:=fun m' j=>D3 (m+1) m' ts (A6 ts k.Owner).Cpu (k.Owner::k.Waits) ((k.Owner::k.Waits).length:Int) (j+1) (some (false,())) (some (true,()))) (xs:=k.Waits)
     (p:=fun y=>(AY ts y).isSome&&decide ((A6 ts y).Cpu=(A6 ts k.Owner).Cpu)) (k0:=some (false,())) (k1:=some (true,()))
     (fun m'=>by
       have:decide ((k.Waits.length:Int)+1<((k.Owner::k.Waits).length:Int))=false:=decide_eq_false (by rw[hlen];omega)
       simp only[D3,this,cond_false])
     (fun m' j hj=>by
       have hj1:((j:Int)+1)=((j+1:Nat):Int):=rfl;have hj2:j+1<(k.Owner::k.Waits).length:=by rw[hlen];omega
       have hy: ¬k.Waits[j]=0:=hnz _ (List.getElem_mem hj);have hget:(k.Owner::k.Waits)[j+1]=k.Waits[j]:=rfl;have hcp:decide (0≤(A6 ts k.Owner).Cpu)=true:=decide_eq_true (hc _ (nu e));simp only[D3,hj1,AD hj2,AF,Bool.and_self,cond_true,AE hj2,hget,decide_eq_false hy,cond_false,Dv hn hb,Option.bind_some,hcp,AG (Nat.lt_trans hj2 (AQ (show(k.Owner::k.Waits).length≤lim by rw[hlen];omega)))]
       cases e2:AY ts k.Waits[j]with
       |none=>rfl
       |some q=>
        obtain⟨hq,_⟩:=B5 e2;have z1: ¬((q:Int)<0):=by omega
        have z2:(0:Int)≤(q:Int):=by omega
        have z3:(q:Int)<(ts.length:Int):=by omega
        simp only[idx,z1,z2,z3,decide_true,decide_false,cond_false,Bool.and_self,cond_true,Int.toNat_natCast,Option.isSome_some,Bool.true_and];simp only[←Kc e2]
        by_cases hcc:(A6 ts k.Waits[j]).Cpu=(A6 ts k.Owner).Cpu
        ·simp only[hcc,decide_true,Bool.not_true,cond_false,cond_true];rfl
        ·simp only[hcc,decide_false,Bool.not_false,cond_false,cond_true]) (m:=m) (by omega)
    have e01:((0:Int)+1)=1:=rfl;simp only[e01]at this;rw[this];cases k.Waits.all fun y=>(AY ts y).isSome&&decide ((A6 ts y).Cpu=(A6 ts k.Owner).Cpu)<;>rfl
theorem nX{s:Sys}{B n:Nat}(h:TLB B s.Tasks s.Locks)(hn:B+2<n)(hb:B+2≤lim):Mk n s=some (decide (EK s),()):=by
 have ht:=h.tasks;have hlk:=h.locks.len;unfold Mk;refine CU (P:=((s.Locks.length:Int)=5)) (fun q=>by have:=q.1;omega) fun h5=> ?_
 rw[NX h.locks hn hb,Option.bind_some];refine CU (P:=LocksOk s.Locks) (fun q=>q.2.1) fun hl=> ?_
 have:=Di (l:=fun m i=>Ek n m s i (some (false,())) (some (true,()))) (xs:=s.Locks) (p:=De s.Tasks) (k0:=some (false,())) (k1:=some (true,()))
  (fun m=>by simp only[Ek,AP,cond_false])
  (fun m i hi=>by
    have hw:=h.locks.small.waits s.Locks[i] (List.getElem_mem hi);simp only[Ek,AD hi,AF,Bool.and_self,cond_true,AE hi,F1 (show s.Tasks.length<n by omega) (show s.Tasks.length≤lim by omega),Option.bind_some,AG (Nat.lt_trans hi (AQ (show s.Locks.length≤lim by omega)))]
    unfold De
    by_cases ho:s.Locks[i].Owner=0
    ·rw[decide_eq_true ho];rfl
    · rw[decide_eq_false ho,cond_false,Bool.false_or]
      cases e:AY s.Tasks s.Locks[i].Owner with
      |none=>rfl
      |some q=>
       obtain⟨hq,_⟩:=B5 e;have y1: ¬((q:Int)<0):=by omega
       simp only[idx,y1,decide_false,cond_false,Option.isSome_some,Bool.true_and];have:=Di (l:=fun m' j=>IX n m' s (i:Int) s.Locks[i] (q:Int) j (some (false,())) (Ek n m s ((i+1:Nat):Int) (some (false,())) (some (true,())))) (xs:=s.Locks[i].Waits)
        (p:=fun y=>(AY s.Tasks y).isSome&&decide ((A6 s.Tasks y).Cpu=(A6 s.Tasks s.Locks[i].Owner).Cpu)) (k0:=some (false,())) (k1:=Ek n m s ((i+1:Nat):Int) (some (false,())) (some (true,())))
        (fun m'=>by simp only[IX,AP,cond_false])
        (fun m' j hj=>by
          simp only[IX,AD hj,AF,Bool.and_self,cond_true,AE hj,F1 (show s.Tasks.length<n by omega) (show s.Tasks.length≤lim by omega),Option.bind_some,AG (Nat.lt_trans hj (AQ (show s.Locks[i].Waits.length≤lim by omega)))]
          cases e2:AY s.Tasks s.Locks[i].Waits[j]with
          |none=>rfl
          |some r=>
           obtain⟨hr,_⟩:=B5 e2;have z1: ¬((r:Int)<0):=by omega
           have z2:(0:Int)≤(r:Int):=by omega
           have z3:(r:Int)<(s.Tasks.length:Int):=by omega
           have z4:(0:Int)≤(q:Int):=by omega
           have z5:(q:Int)<(s.Tasks.length:Int):=by omega
           simp only[idx,z1,z2,z3,z4,z5,decide_true,decide_false,cond_false,Bool.and_self,cond_true,Int.toNat_natCast,Option.isSome_some,Bool.true_and];simp only[←Kc e2,←Kc e]
           by_cases hcc:(A6 s.Tasks s.Locks[i].Waits[j]).Cpu=(A6 s.Tasks s.Locks[i].Owner).Cpu
           ·simp only[hcc,decide_true,Bool.not_true,cond_false,cond_true]
           ·simp only[hcc,decide_false,Bool.not_false,cond_false,cond_true]) (m:=n) (by omega)
       exact this) (m:=n) (by omega)
 rw[this];cases e:s.Locks.all (De s.Tasks)with
 |true=>rw[decide_eq_true (p:=EK s) ⟨by omega,hl,List.all_eq_true.1 e⟩];rfl
 |false=>rw[decide_eq_false (p:=EK s) (fun q=>by rw[List.all_eq_true.2 q.2.2]at e;cases e)];rfl
theorem Yc{g:Ghost}{c:Int}(hc:1≤c∧c≤4):LZ g c=some (decide (CZ c g),()):=by
 have e:w64 (c-1)=c-1:=AO (by omega) (by omega)
 simp only[LZ,e,BS,Mp,SE,Option.bind_some,Bt];exact Be (by simp[BB,CZ])
theorem nW{s:Sys}{n:Nat}(hc:1≤s.Cpus∧s.Cpus≤4)(hn:s.Ghosts.length<n)(hb:s.Ghosts.length≤lim):Mj n s=some (decide (E7 s),()):=by
 have e:w64 (s.Cpus-1)=s.Cpus-1:=AO (by omega) (by omega)
 unfold Mj;have:=Di (l:=fun m i=>IW n m s i (some (false,())) (some ((decide ((s.Ghosts.length:Int)≤12)),()))) (xs:=s.Ghosts) (p:=fun g=>decide (CZ s.Cpus g)) (k0:=some (false,())) (k1:=some ((decide ((s.Ghosts.length:Int)≤12)),()))
  (fun m=>by simp only[IW,AP,cond_false])
  (fun m i hi=>by
    simp only[IW,AD hi,AF,Bool.and_self,cond_true,AE hi,BI,KX,e,Option.bind_some,AG (Nat.lt_trans hi (AQ hb))]
    by_cases h1:0≤s.Ghosts[i].Cpu∧s.Ghosts[i].Cpu≤s.Cpus-1
    · by_cases h2:Av s.Ghosts[i].S
      · by_cases h3:0≤s.Ghosts[i].Until∧s.Ghosts[i].Until≤100040
        ·rw[decide_eq_true h1,decide_eq_true h2,decide_eq_true h3,decide_eq_true (p:=CZ s.Cpus s.Ghosts[i]) ⟨h1,h2,h3⟩];rfl
        ·rw[decide_eq_true h1,decide_eq_true h2,decide_eq_false h3,decide_eq_false (p:=CZ s.Cpus s.Ghosts[i]) (fun q=>h3 q.2.2)];rfl
      ·rw[decide_eq_true h1,decide_eq_false h2,decide_eq_false (p:=CZ s.Cpus s.Ghosts[i]) (fun q=>h2 q.2.1)];rfl
    ·rw[decide_eq_false h1,decide_eq_false (p:=CZ s.Cpus s.Ghosts[i]) (fun q=>h1 q.1)];rfl) (m:=n) hn
 rw[this];cases e:s.Ghosts.all fun g=>decide (CZ s.Cpus g)with
 |true=>
  have h1: ∀g∈s.Ghosts,CZ s.Cpus g:=fun g hg=>by simpa using List.all_eq_true.1 e g hg
  rw[cond_true];exact Be (by rw[decide_eq_true_iff];exact⟨fun h=>⟨by omega,h1⟩,fun h=>by have:=h.1;omega⟩)
 |false=>
  rw[decide_eq_false (p:=E7 s) (fun q=>by rw[List.all_eq_true.2 (fun g hg=>decide_eq_true (q.2 g hg))]at e;cases e)];rfl
theorem Is{s:Sys}{n:Nat}(h:SysB s)(hn:SN n):EU n s=some (decide (SysOk s),()):=by
 have e1:big=1048576:=rfl;have e2:10000000≤lim:=by unfold lim;omega
 have ht:=h.small.tasks;have hg:=h.small.ghosts;have hf:=h.small.floors;unfold SN at hn;simp only[EU,BI,Option.bind_some];refine CU (P:=0≤s.Now∧s.Now≤100000) (fun q=>q.now) fun h1=> ?_
 refine CU (P:=1≤s.Cpus∧s.Cpus≤4) (fun q=>q.cpus) fun h2=> ?_
 rw[It (show s.Tasks.length<n by omega) (show s.Tasks.length≤lim by omega),Option.bind_some]
 refine CU (P:=TasksOk s.Tasks) (fun q=>q.tasks) fun h3=> ?_
 rw[nX h.tl (by omega) (by omega),Option.bind_some]
 refine CU (P:=EK s) (fun q=>q.locks) fun h4=> ?_
 rw[nW h2 (by omega) (by omega),Option.bind_some]
 refine CU (P:=E7 s) (fun q=>q.ghosts) fun h5=> ?_
 refine CU (P:=(s.Floors.length:Int)=s.Cpus) (fun q=>q.flen) fun h6=> ?_
 refine CU (P:=0≤s.Seq∧s.Seq≤1000000) (fun q=>q.seq) fun h7=> ?_
 refine CU (P:=0≤s.Missed∧s.Missed≤100000) (fun q=>q.missed) fun h8=> ?_
 refine Rm (P:=(400:Int)<(s.Trace.length:Int)) (fun q=>by have:=q.trace;omega) fun h9=> ?_
 have q1:=Di (l:=fun m i=>IK n m s i (some (false,())) (Ff n n s 0 (some (false,())) (some (true,())))) (xs:=s.Tasks) (p:=fun t=> !decide (s.Cpus≤t.Cpu)) (k0:=some (false,())) (k1:=Ff n n s 0 (some (false,())) (some (true,())))
  (fun m=>by simp only[IK,AP,cond_false])
  (fun m i hi=>by
    simp only[IK,AD hi,AF,Bool.and_self,cond_true,AE hi,AG (Nat.lt_trans hi (AQ (show s.Tasks.length≤lim by omega)))]
    cases decide (s.Cpus≤s.Tasks[i].Cpu)<;>rfl) (m:=n) (by omega)
 refine q1.trans ?_;have q2:=Sk (l:=fun m i=>Ff n m s (i:Int) (some (false,())) (some (true,()))) (len:=s.Floors.length) (P:=fun i=>(0≤s.Floors.getD i 0∧s.Floors.getD i 0≤100000000)∧Bn (BH s (i:Int))=true) (k0:=some (false,())) (k1:=some (true,()))
  (fun m=>by
    have: ¬((s.Floors.length:Int)<s.Cpus):=by omega
    simp only[Ff,decide_eq_false this,cond_false])
  (fun m i hi=>by
    have hlt:(i:Int)<s.Cpus:=by omega
    have hsl:=NW s (i:Int);simp only[Ff,decide_eq_true hlt,AD hi,AF,Bool.and_self,cond_true,AE hi,BI,nZ (show s.Tasks.length+s.Ghosts.length<n by omega) (show s.Tasks.length+s.Ghosts.length≤lim by omega),Option.bind_some,
     U8 (l:=BH s (i:Int)) (n:=n) (by omega) (by omega),AG (Nat.lt_trans hi (AQ (show s.Floors.length≤lim by omega))),Ab hi]
    by_cases c1:0≤s.Floors[i]∧s.Floors[i]≤100000000
    · rw[decide_eq_true c1]
      cases c2:Bn (BH s (i:Int))with
      |true=>rw[if_pos ⟨c1,rfl⟩];rfl
      |false=>rw[if_neg (fun q=>by cases q.2)];rfl
    ·rw[decide_eq_false c1,if_neg (fun q=>c1 q.1)];rfl) (m:=n) (by omega)
 cases ea:s.Tasks.all fun t=> !decide (s.Cpus≤t.Cpu)with
 |false=>
  rw[decide_eq_false (fun q:SysOk s=>by
   rw[List.all_eq_true.2 (fun t ht=>by have:=q.tcpu t ht;simp;omega)]at ea;cases ea)];rfl
 |true=>
  have ha: ∀t∈s.Tasks,t.Cpu<s.Cpus:=fun t ht=>by have:=List.all_eq_true.1 ea t ht;simp at this;omega
  rw[cond_true];refine q2.trans ?_
  by_cases hall: ∀i,i<s.Floors.length→(0≤s.Floors.getD i 0∧s.Floors.getD i 0≤100000000)∧Bn (BH s (i:Int))=true
  · rw[if_pos hall,decide_eq_true (⟨h1,h2,h3,ha,h4,h5,fun c hc=>(hall c (by omega)).2,h6,fun f hf=>by
     obtain⟨i,hi,rfl⟩:=List.getElem_of_mem hf;have:=(hall i hi).1;rw[Ab hi]at this;exact this,h7,h8,by omega⟩:SysOk s)]
  ·rw[if_neg hall,decide_eq_false (fun q:SysOk s=>hall fun i hi=>⟨by rw[Ab hi];exact q.floors _ (List.getElem_mem hi),q.fits i (by omega)⟩)]
theorem FQ{s:Sys}{n:Nat}(h:SysB s)(hn:SN n):DT n s=some (decide (SysOk s),()):=by
 have e1:big=1048576:=rfl;have e2:10000000≤lim:=by unfold lim;omega
 have ht:=h.small.tasks;have hg:=h.small.ghosts;have hf:=h.small.floors;have hlk:=h.small.locks;unfold SN at hn;have c1:Ly n s.Tasks s=some (s.Tasks.any fun t=>decide (s.Cpus≤t.Cpu),()):=by
  unfold Ly Oj;have:=CT (l:=fun m i=>IF n m s.Tasks s (s.Tasks.length:Int) i (fun w5=>some (w5,())) (some (-1,()))) (xs:=s.Tasks) (p:=fun t=>decide (s.Cpus≤t.Cpu)) (k0:=fun w5=>some (w5,())) (k1:=some (-1,()))
   (fun m=>by simp only[IF,AP,cond_false])
   (fun m i hi=>by simp only[IF,AD hi,AF,Bool.and_self,cond_true,AE hi,ON,Option.bind_some,AG (Nat.lt_trans hi (AQ (show s.Tasks.length≤lim by omega)))]) (m:=n) (by omega)
  rw[this];exact Kv _ _
 have c4:Jo n s.Floors=some (s.Floors.any fun f=> !decide (0≤f∧f≤100000000),()):=by
  unfold Jo Ok;have:=CT (l:=fun m i=>II n m s.Floors (s.Floors.length:Int) i (fun w5=>some (w5,())) (some (-1,()))) (xs:=s.Floors) (p:=fun f=> !decide (0≤f∧f≤100000000)) (k0:=fun w5=>some (w5,())) (k1:=some (-1,()))
   (fun m=>by simp only[II,AP,cond_false])
   (fun m i hi=>by simp only[II,AD hi,AF,Bool.and_self,cond_true,AE hi,OQ,BS,Option.bind_some,AG (Nat.lt_trans hi (AQ (show s.Floors.length≤lim by omega)))]) (m:=n) (by omega)
  rw[this];exact Kv _ _
 simp only[DT,Mr,PD,BS,Option.bind_some];refine CU (P:=0≤s.Now∧s.Now≤100000) (fun q=>q.now) fun h1=> ?_
 refine CU (P:=1≤s.Cpus∧s.Cpus≤4) (fun q=>q.cpus) fun h2=> ?_
 rw[J9 (show s.Tasks.length<n by omega) (show s.Tasks.length≤lim by omega),Option.bind_some]
 refine CU (P:=TasksOk s.Tasks) (fun q=>q.tasks) fun h3=> ?_
 rw[c1,Option.bind_some];refine O3 (fun q=>by
  rw[List.any_eq_false];intro t ht;have:=q.tcpu t ht;simp;omega) fun h4=> ?_
 have ha: ∀t∈s.Tasks,t.Cpu<s.Cpus:=fun t ht=>by
  rw[List.any_eq_false]at h4;have:=h4 t ht;simp at this;omega
 refine CU (P:=(s.Locks.length:Int)=5) (fun q=>by have:=q.locks.1;omega) fun h5=> ?_
 rw[J8 h.tl.locks (show big+2<n by omega) (by omega),Option.bind_some]
 refine CU (P:=LocksOk s.Locks) (fun q=>q.locks.2.1) fun h6=> ?_
 have c2:Lw n s.Locks s=some (s.Locks.any fun k=> !De s.Tasks k,()):=by
  unfold Lw Oh;have:=CT (l:=fun m i=>IC n m s.Locks s (s.Locks.length:Int) i (fun w5=>some (w5,())) (some (-1,()))) (xs:=s.Locks) (p:=fun k=> !De s.Tasks k) (k0:=fun w5=>some (w5,())) (k1:=some (-1,()))
   (fun m=>by simp only[IC,AP,cond_false])
   (fun m i hi=>by
     have hk:=List.getElem_mem hi;have hw:=h.small.waits _ hk;simp only[IC,AD hi,AF,Bool.and_self,cond_true,AE hi,OO,
      Yf (ts:=s.Tasks) (k:=s.Locks[i]) (n:=n) (by omega) (by omega) (by omega) (by omega) (fun t ht=>(h3.each t ht).cpu.1) (h6.own _ hk).2 (fun y hy=>by have:=(h6.nos y (List.mem_flatMap.2 ⟨_,hk,hy⟩)).1;omega),
      Option.bind_some,AG (Nat.lt_trans hi (AQ (show s.Locks.length≤lim by omega)))]) (m:=n) (by omega)
  rw[this];exact Kv _ _
 rw[c2,Option.bind_some];refine O3 (fun q=>by
  rw[List.any_eq_false];intro k hk;have:=q.locks.2.2 k hk;simp[this]) fun h7=> ?_
 have hlo:EK s:=⟨by omega,h6,fun k hk=>by
  rw[List.any_eq_false]at h7;have:=h7 k hk;simpa using this⟩
 refine Rm (P:=(12:Int)<(s.Ghosts.length:Int)) (fun q=>by have:=q.ghosts.1;omega) fun h8=> ?_
 have c3:Lv n s.Ghosts s=some (s.Ghosts.any fun g=> !decide (CZ s.Cpus g),()):=by
  unfold Lv Og;have:=CT (l:=fun m i=>H9 n m s.Ghosts s (s.Ghosts.length:Int) i (fun w5=>some (w5,())) (some (-1,()))) (xs:=s.Ghosts) (p:=fun g=> !decide (CZ s.Cpus g)) (k0:=fun w5=>some (w5,())) (k1:=some (-1,()))
   (fun m=>by simp only[H9,AP,cond_false])
   (fun m i hi=>by simp only[H9,AD hi,AF,Bool.and_self,cond_true,AE hi,OP,Yc h2,Option.bind_some,AG (Nat.lt_trans hi (AQ (show s.Ghosts.length≤lim by omega)))]) (m:=n) (by omega)
  rw[this];exact Kv _ _
 rw[c3,Option.bind_some];refine O3 (fun q=>by
  rw[List.any_eq_false];intro k hk;have:=q.ghosts.2 k hk;simp[this]) fun h9=> ?_
 have hgo:E7 s:=⟨by omega,fun k hk=>by
  rw[List.any_eq_false]at h9;have:=h9 k hk;simpa using this⟩
 obtain⟨c,hc⟩: ∃c:Nat,s.Cpus=(c:Int):=⟨s.Cpus.toNat,by omega⟩
 have q2:=Sk (l:=fun m i=>Hg n m s s.Cpus (i:Int) (some (false,())) (cond (decide (((s.Floors).length:Int)=s.Cpus))
              ((Jo n s.Floors).bind fun r13=>
               cond (!r13.1)
                (cond (decide (0≤s.Seq∧s.Seq≤1000000))
                  (cond (decide (0≤s.Missed∧s.Missed≤100000))
                    (some ((decide (((s.Trace).length:Int)≤400)),()))
                    (some (false,())))
                  (some (false,())))
                (some (false,())))
              (some (false,())))) (len:=c) (P:=fun i=>Bn (BH s (i:Int))=true) (k0:=some (false,()))
  (fun m=>by
    have: ¬((c:Int)<s.Cpus):=by omega
    simp only[Hg,decide_eq_false this,cond_false];rfl)
  (fun m i hi=>by
    have hlt:(i:Int)<s.Cpus:=by omega
    have hsl:=NW s (i:Int);simp only[Hg,decide_eq_true hlt,cond_true,YM (show s.Tasks.length+s.Ghosts.length<n by omega) (show s.Tasks.length+s.Ghosts.length≤lim by omega),Option.bind_some,
     R5 (l:=BH s (i:Int)) (n:=n) (by omega) (by omega),AG (show i<Aa by unfold Aa;omega)]
    cases Bn (BH s (i:Int))<;>rfl) (m:=n) (by omega)
 refine q2.trans ?_
 by_cases hall: ∀i,i<c→Bn (BH s (i:Int))=true
 · rw[if_pos hall,c4,Option.bind_some]
   by_cases h10:(s.Floors.length:Int)=s.Cpus
   · rw[decide_eq_true h10,cond_true]
     refine Xh (fun q=>by
      rw[List.any_eq_false];intro k hk;have:=q.floors k hk;simp[this]) fun h11=> ?_
     refine Ro (P:=0≤s.Seq∧s.Seq≤1000000) (fun q=>q.seq) fun h12=> ?_
     refine Ro (P:=0≤s.Missed∧s.Missed≤100000) (fun q=>q.missed) fun h13=> ?_
     refine Be ?_;rw[decide_eq_true_iff];exact⟨fun h14=>⟨h1,h2,h3,ha,hlo,hgo,fun i hi=>hall i (by omega),h10,fun f hf=>by
      rw[List.any_eq_false]at h11;have:=h11 f hf;simpa using this,h12,h13,by omega⟩,fun q=>by have:=q.trace;omega⟩
   ·rw[decide_eq_false h10,decide_eq_false (fun q:SysOk s=>h10 q.flen)];rfl
 ·rw[if_neg hall,decide_eq_false (fun q:SysOk s=>hall fun i hi=>q.fits i (by omega))]
end Go.Proofs.YtbbgaleennfklaaGreat.VR
end
section
set_option linter.unusedVariables false
set_option linter.unusedSimpArgs false
namespace Go.Proofs.YtbbgaleennfklaaGreat.VR
open Go
theorem Ez{β:Type}{ys:List β}{i:Nat}(hi:i<ys.length){x:β}(h:ys[i]=x):ys.set i x=ys:=by subst h;exact List.set_getElem_self hi
def Ck(s:Sys):Sys:=⟨s.Now,s.Cpus,s.Tasks.map (Cw s.Now),s.Locks,s.Ghosts.filter (fun g=>decide (s.Now<g.Until)),s.Floors,s.Seq,s.Tasks.foldl (CB s.Now) s.Missed,s.Trace⟩
theorem PW{now m:Int}(t:Task)(h:0≤m∧m≤100000):0≤CB now m t∧CB now m t≤100000:=by
 unfold CB;split<;>omega
theorem SG{s:Sys}{n:Nat}(hn:s.Tasks.length<n)(hb:s.Tasks.length≤lim)(hn2:s.Ghosts.length<n)(hb2:s.Ghosts.length≤lim)(hm:0≤s.Missed∧s.Missed≤100000):JN n s=some ((),AA (Ck s),()):=by
 unfold JN;rw[Xi hn2 hb2];simp only[Option.bind_some];generalize hG:s.Ghosts.filter (fun g=>decide (s.Now<g.Until))=gs
 have:=NV (l:=fun m i ys ms=>Dz n m ⟨s.Now,s.Cpus,ys,s.Locks,gs,s.Floors,s.Seq,ms,s.Trace⟩ (s.Tasks.length:Int) i (fun w11 w12=>some ((()),(AA (⟨s.Now,s.Cpus,w12,s.Locks,gs,s.Floors,s.Seq,w11,s.Trace⟩:Sys)),())))
  (xs:=s.Tasks) (g:=fun _ t=>Cw s.Now t) (f:=CB s.Now) (k:=fun ys ms=>some ((()),(AA (⟨s.Now,s.Cpus,ys,s.Locks,gs,s.Floors,s.Seq,ms,s.Trace⟩:Sys)),()))
  (fun _ ms=>0≤ms∧ms≤100000) (fun m ys ms hl=>by simp only[Dz,AP,cond_false]) (fun m i ys ms hi hl hI hy=>by
    have hi':i<ys.length:=by omega
    refine⟨?_,PW _ hI⟩;simp only[Dz,AD hi,AD hi',AF,Bool.and_self,cond_true,AE hi',Ab hi',hy,Xx,dnTask_up,Option.bind_some,Int.toNat_natCast,decide_eq_true hi',AG (Nat.lt_trans hi (AQ hb)),CP,BA];unfold Cw CB;generalize xs_i:s.Tasks[i]=t at*
    by_cases h1:t.Class=1
    · cases h2:t.Idle with
      |true=>simp[h1,Ez hi' hy]
      |false=>
       by_cases h3:t.Due≤s.Now
       · have h4: ¬s.Now<t.Due:=by omega
         have e:w64 (ms+1)=ms+1:=AO (by omega) (by omega)
         by_cases h5:0<t.Left
         · have e2:(if ms+1<100000 then ms+1 else 100000)=min (ms+1) 100000:=by omega
           simp[h1,h3,h4,h5,e,e2]
         ·simp[h1,h3,h4,h5]
       · have h4:s.Now<t.Due:=by omega
         simp[h1,h3,h4,Ez hi' hy]
    ·simp[h1,Ez hi' hy])
  (fun xs _=>xs.map (Cw s.Now)) (fun _=>rfl) (fun _ _ _=>rfl) (m:=n) (s:=s.Missed) hm hn
 refine this.trans ?_;unfold Ck;rw[←hG]
def Iv(s:Sys):Sys:=⟨s.Now,s.Cpus,s.Tasks.map (F5 s.Tasks s.Locks s.Floors s.Now),s.Locks,s.Ghosts,s.Floors,s.Seq,s.Missed,s.Trace⟩
structure TickB(s:Sys):Prop where
 tl:TLB big s.Tasks s.Locks
 tasks:TasksOk s.Tasks
 locks:LocksOk s.Locks
 cpu: ∀t∈s.Tasks,t.Cpu<(s.Floors.length:Int)
theorem WL{s:Sys}(h:TickB s)(no:Int):Iz s.Tasks s.Locks no=Bm s.Tasks s.Locks no:=by
 unfold Iz;rw[decide_eq_true ⟨h.tasks,h.locks⟩];rfl
theorem SI{s:Sys}{n:Nat}(h:TickB s)(hn:big+2<n):JR n s=some ((),AA (Iv s),()):=by
 have hb2:big+2≤lim:=DQ;have ht:s.Tasks.length≤big:=h.tl.tasks;unfold JR;have h1:=AU (l:=fun m i=>Hk n m s ((s.Tasks.take i).map fun t=>Bm s.Tasks s.Locks t.No) (s.Tasks.length:Int) (i:Int)
  (fun w6=>D0 n n s w6 ((s.Tasks).length:Int) 0 (fun w16=>some ((()),(AA (⟨s.Now,s.Cpus,w16,s.Locks,s.Ghosts,s.Floors,s.Seq,s.Missed,s.Trace⟩:Sys)),())))) (len:=s.Tasks.length)
  (r:=D0 n n s (s.Tasks.map fun t=>Bm s.Tasks s.Locks t.No) ((s.Tasks).length:Int) 0 (fun w16=>some ((()),(AA (⟨s.Now,s.Cpus,w16,s.Locks,s.Ghosts,s.Floors,s.Seq,s.Missed,s.Trace⟩:Sys)),())))
  (fun _=>True) trivial (fun m _=>by simp only[Hk,AP,cond_false,List.take_length]) (fun m i hi _=>.inl ⟨?_,trivial⟩) (m:=n) (by omega)
 · refine h1.trans ?_
   have:=Sm (l:=fun m i ys=>D0 n m ⟨s.Now,s.Cpus,ys,s.Locks,s.Ghosts,s.Floors,s.Seq,s.Missed,s.Trace⟩ (s.Tasks.map fun t=>Bm s.Tasks s.Locks t.No) (s.Tasks.length:Int) i (fun w16=>some ((()),(AA (⟨s.Now,s.Cpus,w16,s.Locks,s.Ghosts,s.Floors,s.Seq,s.Missed,s.Trace⟩:Sys)),())))
    (xs:=s.Tasks) (g:=F5 s.Tasks s.Locks s.Floors s.Now) (k:=fun ys=>some ((()),(AA (⟨s.Now,s.Cpus,ys,s.Locks,s.Ghosts,s.Floors,s.Seq,s.Missed,s.Trace⟩:Sys)),()))
    (fun m ys hl=>by simp only[D0,AP,cond_false]) (fun m i ys hi hl hy=>by
      have hi':i<ys.length:=by omega
      have hia:i<(s.Tasks.map fun t=>Bm s.Tasks s.Locks t.No).length:=by rw[List.length_map];exact hi
      have hcp:=(h.tasks.each _ (List.getElem_mem hi)).cpu;have hcf:=h.cpu _ (List.getElem_mem hi);simp only[D0,AD hi,AD hi',AD hia,AF,Bool.and_self,cond_true,AE hi',Ab hi',AE hia,Ab hia,List.getElem_map,hy,Xz,YC,dnTask_up,Option.bind_some,Int.toNat_natCast,decide_eq_true hi',AG (show i<Aa by unfold Aa;unfold big at ht;omega)]
      unfold F5;generalize s.Tasks[i]=t at*;rw[decide_eq_true hcp.1,decide_eq_true hcf];cases ha:Bm s.Tasks s.Locks t.No with
      |false=>simp
      |true=>
       cases hid:t.Idle with
       |true=>simp[Kd.dflt]
       |false=>
        have e:(⟨t.No,t.Class,t.Cpu,t.State,false,t.Q,t.P,t.Left,t.Due,t.Prio,t.Round,t.Seq,t.Nice,t.V⟩:Task)=t:=by rw[←hid]
        simp[e]) (m:=n) (by omega)
   exact this
 · simp only[Hk,AD hi,AF,Bool.and_self,cond_true,AE hi,Rz h.tl hn hb2,WL h,Option.bind_some,AG (show i<Aa by unfold Aa;unfold big at ht;omega),ZF _ hi]
   rw[BV (B:=s.Tasks.length) (by rw[List.length_map,List.length_take];omega) (by omega)]
   rfl
theorem SH{s:Sys}{n:Nat}{cpu:Int}(h:TickB s)(hn:big+2<n)(htr:s.Trace.length+1≤lim)(hseq:0≤s.Seq∧s.Seq≤1000000):
 JQ n s cpu=some ((),AA ⟨s.Now,s.Cpus,(CC s.Locks ⟨s.Tasks,s.Seq,s.Trace⟩ cpu).ts,s.Locks,s.Ghosts,s.Floors,(CC s.Locks ⟨s.Tasks,s.Seq,s.Trace⟩ cpu).seq,s.Missed,(CC s.Locks ⟨s.Tasks,s.Seq,s.Trace⟩ cpu).tr⟩,()):=by
 have hb2:big+2≤lim:=DQ;have ht:s.Tasks.length≤big:=h.tl.tasks;have e:w64 (s.Seq+1)=s.Seq+1:=AO (by omega) (by omega)
 unfold JQ CC;rw[YJ h.tl hn hb2];unfold pick;simp only[Option.bind_some];rw[decide_eq_true (show s.Trace.length+[_].length≤lim by simpa using htr)]
 cases hbt:Ai (B6 s.Tasks s.Locks cpu)with
 |none=>rfl
 |some t=>
  have hm:=(FA _ none t hbt).resolve_right (fun h=>by cases h)
  have htm:t∈s.Tasks:=(List.mem_filter.1 hm).1;obtain⟨i,hi,e1,e2⟩:=EY h.tasks htm;have hno:=(h.tasks.each t htm).no;have h0: ¬t.No=0:=by omega
  simp only[cond_true,decide_eq_false h0,cond_false,Dv (show s.Tasks.length<n by omega) (show s.Tasks.length≤lim by omega),e2,idx,Option.bind_some,AF,AD hi,Bool.and_self,AE hi,Ab hi,e1,YD,Xy,YA,dnTask_up,Int.toNat_natCast,decide_eq_true hi,e,Option.getD_some]
  cases(Bg t (s.Seq+1)).2<;>rfl
end Go.Proofs.YtbbgaleennfklaaGreat.VR
end
section
set_option linter.unusedVariables false
set_option linter.unusedSimpArgs false
namespace Go.Proofs.YtbbgaleennfklaaGreat.VR
open Go
theorem Mo{R β:Type}{l:Nat→Int→List β→R}{xs:List β}{g:Nat→β→β}(d:β){k:List β→R}(hend: ∀m ys,ys.length=xs.length→l (m+1) (xs.length:Int) ys=k ys)
 (hstep: ∀m (i:Nat) ys (hi:i<xs.length) (hl:ys.length=xs.length),ys[i]'(by omega)=xs[i]→l (m+1) (i:Int) ys=l m ((i+1:Nat):Int) (ys.set i (g i xs[i]))) {m:Nat} (hm:xs.length<m):
 l m 0 xs=k ((List.range xs.length).map fun i=>g i (xs.getD i d)):=by
 have hlen: ∀i,i≤xs.length→(((List.range i).map fun i=>g i (xs.getD i d))++xs.drop i).length=xs.length:=fun i hi=>by
  rw[List.length_append,List.length_map,List.length_range,List.length_drop];omega
 have:=AU (l:=fun m i=>l m (i:Int) (((List.range i).map fun i=>g i (xs.getD i d))++xs.drop i)) (len:=xs.length) (r:=k ((List.range xs.length).map fun i=>g i (xs.getD i d))) (fun _=>True) trivial
  (fun m _=>by rw[hend _ _ (hlen _ (Nat.le_refl _)),List.drop_length,List.append_nil]) (fun m i hi _=>.inl ⟨?_,trivial⟩) hm
 ·simpa using this
 · have hl:=hlen i (by omega)
   have hA:((List.range i).map fun i=>g i (xs.getD i d)).length=i:=by simp
   rw[hstep m i _ hi hl (by
    rw[List.getElem_append_right (by omega)]
    simp[hA])]
   congr 1
   rw[List.range_succ,List.map_append,List.drop_eq_getElem_cons hi,List.set_append_right _ _ (by omega),hA,Nat.sub_self,List.set_cons_zero,List.append_assoc]
   simp only[List.map_cons,List.map_nil,Ab hi];rfl
theorem TickB.keeps{s:Sys}{ts:List Task}(h:TickB s)(hk:KeepsL s.Tasks ts)(a b c d e f:Int)(gs:List Ghost)(fs:List Int)(tr:List Turn)(hf:fs.length=s.Floors.length):TickB ⟨a,b,ts,s.Locks,gs,fs,c,d,tr⟩:=
 ⟨⟨by rw[hk.len];exact h.tl.tasks,h.tl.locks⟩,hk.tasksOk h.tasks,h.locks,fun t ht=>by
  obtain⟨t0,h0,hk0⟩:=hk.mem ht;show t.Cpu<(fs.length:Int);rw[hk0.cpu,hf];exact h.cpu t0 h0⟩
theorem na(t:Task)(seq:Int):Bg (Cn (Cb t)) seq=(Cn (Cb (Bg t seq).1),(Bg t seq).2):=by
 have no1: ∀{x:Task},¬(TaskOk x∧x.Class=1)→Cb x=x:=fun h=>by unfold Cb;rw[if_neg (fun q=>h q.1)]
 have no2: ∀{x:Task},¬(TaskOk x∧x.Class=2)→Bg x seq=(x,false):=fun h=>by unfold Bg;rw[if_neg (fun q=>h q.1)]
 have no3: ∀{x:Task},¬(TaskOk x∧x.Class=3)→Cn x=x:=fun{x} h=>by
  unfold Cn;rw[if_neg];rw[FR];exact h
 have k1:=RJ t;have k2:=Ra t seq;have k3:=RS t
 by_cases h1:TaskOk t∧t.Class=1
 ·rw[no2 (x:=t) (by rw[h1.2];simp),no3 (x:=Cb t) (by rw[k1.cls,h1.2];simp),no2 (x:=Cb t) (by rw[k1.cls,h1.2];simp)]
 · rw[no1 h1]
   by_cases h2:TaskOk t∧t.Class=2
   ·rw[no3 (x:=t) (by rw[h2.2];simp),no1 (x:=(Bg t seq).1) (by rw[k2.cls,h2.2];simp),no3 (x:=(Bg t seq).1) (by rw[k2.cls,h2.2];simp)]
   · rw[no2 h2]
     dsimp only;rw[no1 h1]
     by_cases h3:TaskOk t∧t.Class=3
     ·rw[no2 (x:=Cn t) (by rw[k3.cls,h3.2];simp)]
     ·rw[no3 h3,no2 h2]
theorem VH(a b:Int):GV a b=some (min a b,()):=by
 rw[VG]
 congr 2
 split<;>omega
theorem YW{ls:List Lock}{n:Nat}(hn:ls.length<n)(hb:ls.length≤lim)(hw: ∀k∈ls,k.Waits.length≤lim):LV n ls=some (ls,()):=by
 unfold LV;refine AU (l:=fun m i=>Hm n m (ls.take i) ls (ls.length:Int) (i:Int) (fun w7=>some (w7,()))) (len:=ls.length) (fun _=>True) trivial (fun m _=> ?_) (fun m i hi _=>.inl ⟨?_,trivial⟩) hn
 ·simp only[Hm,AP,cond_false,List.take_length]
 · simp only[Hm,AD hi,AF,Bool.and_self,cond_true,AE hi,Kq (hw _ (List.getElem_mem hi)),Option.bind_some,AG (Nat.lt_trans hi (AQ hb))]
   rw[BV (B:=ls.length) (by rw[List.length_take];omega) hb,List.take_succ_eq_append_getElem hi]
   rfl
theorem PA{ls:List Lock}{n:Nat}(hn:ls.length<n)(hb:ls.length≤lim)(hw: ∀k∈ls,k.Waits.length≤lim):HN n ls=some (ls,()):=by
 unfold HN;refine AU (l:=fun m i=>Hn n m (ls.take i) ls (ls.length:Int) (i:Int) (fun w7=>some (w7,()))) (len:=ls.length) (fun _=>True) trivial (fun m _=> ?_) (fun m i hi _=>.inl ⟨?_,trivial⟩) hn
 ·simp only[Hn,AP,cond_false,List.take_length]
 · simp only[Hn,AD hi,AF,Bool.and_self,cond_true,AE hi,Kq (hw _ (List.getElem_mem hi)),Option.bind_some,AG (Nat.lt_trans hi (AQ hb))]
   rw[BV (B:=ls.length) (by rw[List.length_take];omega) hb,List.take_succ_eq_append_getElem hi]
   rfl
theorem nR{ls:List Lock}{n:Nat}(hn:ls.length<n)(hb:ls.length≤lim)(hw: ∀k∈ls,k.Waits.length≤lim):Mf n ls=some (ls,()):=by
 unfold Mf;refine AU (l:=fun m i=>IS n m ls (ls.take i) (i:Int) (fun w7=>some (w7,()))) (len:=ls.length) (fun _=>True) trivial (fun m _=> ?_) (fun m i hi _=>.inl ⟨?_,trivial⟩) hn
 ·simp only[IS,AP,cond_false,List.take_length]
 · have hw':decide ((([]:List Int)).length+ls[i].Waits.length≤lim)=true:=decide_eq_true (by have:=hw _ (List.getElem_mem hi);simpa using this)
   simp only[IS,AD hi,AF,Bool.and_self,cond_true,AE hi,hw',AG (Nat.lt_trans hi (AQ hb)),List.nil_append];rw[BV (B:=ls.length) (by rw[List.length_take];omega) hb,List.take_succ_eq_append_getElem hi]
   rfl
theorem QK{ls:List Lock}{n:Nat}(hn:ls.length<n)(hb:ls.length≤lim)(hw: ∀k∈ls,k.Waits.length≤lim):HX n ls=some (ls,()):=by
 unfold HX;refine AU (l:=fun m i=>IT n m ls (ls.take i) (i:Int) (fun w7=>some (w7,()))) (len:=ls.length) (fun _=>True) trivial (fun m _=> ?_) (fun m i hi _=>.inl ⟨?_,trivial⟩) hn
 ·simp only[IT,AP,cond_false,List.take_length]
 · have hw':decide ((([]:List Int)).length+ls[i].Waits.length≤lim)=true:=decide_eq_true (by have:=hw _ (List.getElem_mem hi);simpa using this)
   simp only[IT,AD hi,AF,Bool.and_self,cond_true,AE hi,hw',AG (Nat.lt_trans hi (AQ hb)),List.nil_append];rw[BV (B:=ls.length) (by rw[List.length_take];omega) hb,List.take_succ_eq_append_getElem hi]
   rfl
theorem YX{s:Sys}{n B:Nat}(h:Small B s)(hn:B<n)(hb:B≤lim):LW n s=some (AA s,()):=by
 have h1:=h.tasks;have h2:=h.locks;have h3:=h.ghosts;have h4:=h.floors;have h5:=h.trace;simp only[LW,Ks (show s.Tasks.length≤lim by omega),YW (ls:=s.Locks) (n:=n) (by omega) (by omega) (fun k hk=>Nat.le_trans (h.waits k hk) hb),RB (show s.Ghosts.length≤lim by omega),Kq (show s.Floors.length≤lim by omega),RC (show s.Trace.length≤lim by omega),Option.bind_some]
theorem Hb{s:Sys}{n B:Nat}(h:Small B s)(hn:B<n)(hb:B≤lim):B1 n s=some (AA s,()):=by
 have h1:=h.tasks;have h2:=h.locks;have h3:=h.ghosts;have h4:=h.floors;have h5:=h.trace;simp only[B1,Ks (show s.Tasks.length≤lim by omega),PA (ls:=s.Locks) (n:=n) (by omega) (by omega) (fun k hk=>Nat.le_trans (h.waits k hk) hb),RB (show s.Ghosts.length≤lim by omega),Kq (show s.Floors.length≤lim by omega),RC (show s.Trace.length≤lim by omega),Option.bind_some]
theorem VL{s:Sys}{n B:Nat}(h:Small B s)(hn:B<n)(hb:B≤lim):Jy n s=some (AA s,()):=by
 have h1:=h.tasks;have h2:=h.locks;have h3:=h.ghosts;have h4:=h.floors;have h5:=h.trace;have e1:decide ((([]:List Task)).length+s.Tasks.length≤lim)=true:=decide_eq_true (by simp;omega)
 have e3:decide ((([]:List Ghost)).length+s.Ghosts.length≤lim)=true:=decide_eq_true (by simp;omega)
 have e4:decide ((([]:List Int)).length+s.Floors.length≤lim)=true:=decide_eq_true (by simp;omega)
 have e5:decide ((([]:List Turn)).length+s.Trace.length≤lim)=true:=decide_eq_true (by simp;omega)
 simp only[Jy,e1,e3,e4,e5,nR (ls:=s.Locks) (n:=n) (by omega) (by omega) (fun k hk=>Nat.le_trans (h.waits k hk) hb),cond_true,Option.bind_some,List.nil_append]
theorem KZ{s:Sys}{n B:Nat}(h:Small B s)(hn:B<n)(hb:B≤lim):FN n s=some (AA s,()):=by
 have h1:=h.tasks;have h2:=h.locks;have h3:=h.ghosts;have h4:=h.floors;have h5:=h.trace;have e1:decide ((([]:List Task)).length+s.Tasks.length≤lim)=true:=decide_eq_true (by simp;omega)
 have e3:decide ((([]:List Ghost)).length+s.Ghosts.length≤lim)=true:=decide_eq_true (by simp;omega)
 have e4:decide ((([]:List Int)).length+s.Floors.length≤lim)=true:=decide_eq_true (by simp;omega)
 have e5:decide ((([]:List Turn)).length+s.Trace.length≤lim)=true:=decide_eq_true (by simp;omega)
 simp only[FN,e1,e3,e4,e5,QK (ls:=s.Locks) (n:=n) (by omega) (by omega) (fun k hk=>Nat.le_trans (h.waits k hk) hb),cond_true,Option.bind_some,List.nil_append]
theorem VE{s:Sys}{n:Nat}{cpu:Int}(h:TickB s)(hn:big+2<n)(htr:s.Trace.length+1≤lim)(hseq:0≤s.Seq∧s.Seq≤1000000):
 Ju n s cpu=some (AA ⟨s.Now,s.Cpus,(CC s.Locks ⟨s.Tasks,s.Seq,s.Trace⟩ cpu).ts,s.Locks,s.Ghosts,s.Floors,(CC s.Locks ⟨s.Tasks,s.Seq,s.Trace⟩ cpu).seq,s.Missed,(CC s.Locks ⟨s.Tasks,s.Seq,s.Trace⟩ cpu).tr⟩,()):=by
 have hb2:big+2≤lim:=DQ;have ht:s.Tasks.length≤big:=h.tl.tasks;have e:w64 (s.Seq+1)=s.Seq+1:=AO (by omega) (by omega)
 have htr': ∀u:Turn,decide (s.Trace.length+[u].length≤lim)=true:=fun u=>decide_eq_true (by simpa using htr)
 unfold Ju CC;rw[nV h.tl hn hb2 h.tasks h.locks];simp only[Option.bind_some];cases hbt:Ai (B6 s.Tasks s.Locks cpu)with
 |none=>
  simp only[BT];rw[htr'];rfl
 |some t=>
  have hm:=(FA _ none t hbt).resolve_right (fun h=>by cases h)
  have htm:t∈s.Tasks:=(List.mem_filter.1 hm).1;obtain⟨i,hi,e1,e2⟩:=EY h.tasks htm;have hsc:=na t (s.Seq+1);simp only[BT,e2,idx,AF,cond_true,AD hi,Bool.and_self,AE hi,Ab hi,e1,VK h.tl hn hb2 h.locks,ml,mo,mr,dnTask_up,Option.bind_some,e,hsc,Int.toNat_natCast,decide_eq_true hi,htr',Option.getD_some];cases(Bg t (s.Seq+1)).2<;>rfl
theorem VF{s:Sys}{n:Nat}(h:TickB s)(hs:Small big s)(hn:big+2<n):GU n s=some (AA (Iv s),()):=by
 have hb2:big+2≤lim:=DQ;have ht:s.Tasks.length≤big:=h.tl.tasks;unfold GU;rw[KZ hs (by omega) (by omega)]
 simp only[Option.bind_some,dnSys_up];have:=Sm (l:=fun m i ys=>Fm n m s (⟨0,0,[],[],[],[],0,0,[]⟩:Sys) ⟨s.Now,s.Cpus,ys,s.Locks,s.Ghosts,s.Floors,s.Seq,s.Missed,s.Trace⟩ i (fun w13=>some ((AA (⟨s.Now,s.Cpus,w13,s.Locks,s.Ghosts,s.Floors,s.Seq,s.Missed,s.Trace⟩:Sys)),())))
  (xs:=s.Tasks) (g:=F5 s.Tasks s.Locks s.Floors s.Now) (k:=fun ys=>some ((AA (⟨s.Now,s.Cpus,ys,s.Locks,s.Ghosts,s.Floors,s.Seq,s.Missed,s.Trace⟩:Sys)),()))
  (fun m ys hl=>by simp only[Fm,AP,cond_false]) (fun m i ys hi hl hy=>by
    have hi':i<ys.length:=by omega
    have hcp:=(h.tasks.each _ (List.getElem_mem hi)).cpu;have hcf:=h.cpu _ (List.getElem_mem hi);simp only[Fm,AD hi,AD hi',AF,Bool.and_self,cond_true,AE hi,Ab hi,VJ h.tl hn hb2 h.locks,mm,mq,dnTask_up,Option.bind_some,Int.toNat_natCast,decide_eq_true hi',AG (show i<Aa by unfold Aa;unfold big at ht;omega)]
    unfold F5;generalize s.Tasks[i]=t at*;rw[decide_eq_true hcp.1,decide_eq_true hcf];cases ha:Bm s.Tasks s.Locks t.No with
    |false=>simp
    |true=>
     cases hid:t.Idle with
     |true=>
      have hI: ∀x:Task,x.Idle=false→(⟨x.No,x.Class,x.Cpu,x.State,false,x.Q,x.P,x.Left,x.Due,x.Prio,x.Round,x.Seq,x.Nice,x.V⟩:Task)=x:=fun x hx=>by rw[←hx]
      have hw:(EW (Dm {t with Idle:=false} s.Now) (s.Floors.getD t.Cpu.toNat 0)).Idle=false:=by
       have h1: ∀(x:Task) (v:Int),(DO x v).Idle=x.Idle:=fun x v=>by unfold DO;split<;>rfl
       unfold EW;split
       · rw[h1]
         unfold Dm;split
         ·split<;>rfl
         ·rfl
       · unfold Dm
         split
         ·split<;>rfl
         ·rfl
      simp[Kd.dflt];rw[show List.set ys i _=List.set ys i _ from rfl]
      congr 2
      exact congrArg (List.set ys i) (hI _ (by simpa[List.getD_eq_getElem?_getD]using hw))
     |false=>
      have e:(⟨t.No,t.Class,t.Cpu,t.State,false,t.Q,t.P,t.Left,t.Due,t.Prio,t.Round,t.Seq,t.Nice,t.V⟩:Task)=t:=by rw[←hid]
      simp[e]) (m:=n) (by omega)
 exact this
end Go.Proofs.YtbbgaleennfklaaGreat.VR
end
section
set_option linter.unusedVariables false
set_option linter.unusedSimpArgs false
namespace Go.Proofs.YtbbgaleennfklaaGreat.VR
open Go
end Go.Proofs.YtbbgaleennfklaaGreat.VR
end
