/- Functions, printed by program (wip/gen/emit.py). -/
import Derived.Test.YtbbgaleennfklaaGreatA10
section
set_option linter.unusedVariables false
set_option maxRecDepth 100000
namespace Go.Proofs.YtbbgaleennfklaaGreat.VR
open Go
def Hg{α:Type}(n:Nat):Nat→Sys→Int→Int→(Option α)→(Option α)→Option α|0,_,_,_,_,_=>none|m0+1,v8,v9,v10,k0_0,k0_1=>cond (decide (v10<v9)) ((LH n v8 v10).bind fun r11=>(JH n r11.1).bind fun r12=>cond (!r12.1) k0_0 (Hg n m0 v8 v9 (w64 (v10+1)) k0_0 k0_1)) k0_1
def DT(n:Nat)(a0:Sys):Option (Bool×Unit):=(FH a0.Now).bind fun r1=>cond (!r1.1) (some (false,())) ((Ap a0.Cpus 1 4).bind fun r2=>cond (!r2.1) (some (false,())) ((C4 n a0.Tasks).bind fun r3=>cond (!r3.1) (some (false,())) ((Ly n a0.Tasks a0).bind fun r4=>cond r4.1 (some (false,())) (cond (!(decide ((a0.Locks.length:Int)=5))) (some (false,())) ((FE n a0.Locks).bind fun r5=>cond (!r5.1) (some (false,())) ((Lw n a0.Locks a0).bind fun r6=>cond r6.1 (some (false,())) (cond (decide (12<(a0.Ghosts.length:Int))) (some (false,())) ((Lv n a0.Ghosts a0).bind fun r7=>cond r7.1 (some (false,())) (Hg n n a0 a0.Cpus 0 (some (false,())) (cond (decide ((a0.Floors.length:Int)=a0.Cpus)) ((Jo n a0.Floors).bind fun r13=>cond (!r13.1) ((GH a0.Seq).bind fun r14=>cond r14.1 ((FH a0.Missed).bind fun r15=>cond r15.1 (some ((decide ((a0.Trace.length:Int)≤400)),())) (some (false,()))) (some (false,()))) (some (false,()))) (some (false,()))))))))))))
def bY(n:Nat):Rw:=⟨41,pV [Ae],pS [.bool],fun x=>DT n (AX x.1)⟩
def kW(n:Nat):LS:=AI ⟨8,[1,53,54],[],[],[1,2],[0]⟩ 91 [1,53,54] 1 (pD [.ptr 0 0,.int,.int]) [.box Af] (fun m x k=>Hg n m (AX x.2.1) x.1.2.1 x.1.2.2.1 (k .ret (eS 91 [1,2] [.ptr 0 0,.bool false] 1 [.box (Af.make x.2.1)])) (k (.exit 0) (eS 91 [1] [.ptr 0 0] 1 [.box (Af.make x.2.1)])))
theorem Fx(n:Nat):RO (bY n):=
 rL ⟨Go.Proofs.Tryz.f41,⟨[(0,[(0,.slot 0 .int)]),(1,[(2,cl 1 .bool 0),(7,cl 3 .bool 0),(13,cl 1 .bool 0),(20,cl 2 .bool 0)]),(3,[(7,cl 1 .bool 0),(14,cl 2 .bool 0)]),(5,[(8,cl 2 .bool 0)]),(10,[(2,q37),(3,cl 1 .bool 0)]),(13,[(9,cl 2 .bool 0),(15,cl 1 .bool 0),(20,cl 1 .bool 0)])],[],[]⟩,1⟩ [kW n] n (ec NE (ec Bc (ec (NC n) (ec (gK n) (ec (KO n) (ec (gG n) (ec (gC n) (ec (bN n) (ec (T2 n) (ec (gM n) (ec Pt en))))))))))) Go.Proofs.Tryz.func41 (by kernel_rfl) ⟨AJ (fun m x k=>by kernel_rfl) (fun _ _=>rfl),trivial⟩ (fun x=>by kernel_rfl)
def Oc(a0:List Task):Option (List Task×Unit):=cond (List.isEmpty a0) none (cond (decide ((([]:List Task)).length+(a0).length≤lim)) (some ((([]:List Task)++a0),())) none)
def fd:Rw:=⟨104,pV [.ro .task],q2,fun x=>Oc x.1.2⟩
theorem fe:RO (fd):=
 rE ⟨Go.Proofs.Tryz.f104,⟨[(3,[(0,.slot 0 .task),(2,.slot 1 .task)])],[],[]⟩,2⟩ 0 en Go.Proofs.Tryz.func104 (by kernel_rfl) (fun x=>by kernel_rfl)
def XU:Option (List Task×Unit):=some ([],())
def ff:Rw:=⟨104,pV [.em true],q2,fun x=>XU⟩
theorem fg:RO (ff):=
 rE ⟨Go.Proofs.Tryz.f104,⟨[],[],[]⟩,0⟩ 0 en Go.Proofs.Tryz.func104 (by kernel_rfl) (fun x=>by kernel_rfl)
def XT:Option (List Task×Unit):=cond (decide ((([]:List Task)).length+(([]:List Task)).length≤lim)) (some ((([]:List Task)++([]:List Task)),())) none
def fZ:Rw:=⟨104,pV [.em false],q2,fun x=>XT⟩
theorem fc:RO (fZ):=
 rE ⟨Go.Proofs.Tryz.f104,⟨[(3,[(0,.slot 0 .task),(2,.slot 1 .task)])],[],[]⟩,2⟩ 0 en Go.Proofs.Tryz.func104 (by kernel_rfl) (fun x=>by kernel_rfl)
def CE(a0:List Task):Option (List Task×Unit):=cond (decide ((a0).length≤lim)) (some (a0,())) none
def fY:Rw:=⟨104,(.pair (.v (.ro .task)) .one),(.pair (.own .task) .one),fun x=>CE x.1.2⟩
theorem NI:RwOk Go.Proofs.Tryz.prog tyK fY:=Kr (k:=.task) (g:=Oc) fe fg fc (by intro xs h hl;simp[Oc,h,hl]) rfl rfl
def JS(a0:Task)(a1_0:Int):Option (Bool×Unit):=cond a0.Idle (some (true,())) (some ((!(decide (a0.Cpu=a1_0))),()))
def cQ:Rw:=⟨105,pV [Ac,.rp (pD [.int]) 0],pS [.bool],fun x=>JS (AK x.1) x.2.1.1⟩
theorem UE:RO (cQ):=
 rE ⟨Go.Proofs.Tryz.f105,⟨[(0,[(0,.slot 0 .int)])],[],[]⟩,1⟩ 0 en Go.Proofs.Tryz.func105 (by kernel_rfl) (fun x=>by kernel_rfl)
def IH{α:Type}(n:Nat):Nat→List Task→Int→Int→Int→(Int→Option α)→(Option α)→Option α|0,_,_,_,_,_,_=>none|m0+1,v1,v2,v3,v4,k0_0,k0_1=>cond (decide (v4<v3)) (cond (decide (0≤v4)&&decide (v4<(v1.length:Int))) ((JS (List.getD v1 (Int.toNat v4) (Kd.dflt .task)) v2).bind fun r5=>cond r5.1 (k0_0 v4) (IH n m0 v1 v2 v3 (w64 (v4+1)) k0_0 k0_1)) none) k0_1
def L7(n:Nat)(a0:List Task)(a1_0_0:Int):Option (Int×Unit):=IH n n a0 a1_0_0 (a0.length:Int) 0 (fun w6=>some (w6,())) (some ((-1),()))
def gn(n:Nat):Rw:=⟨154,pV [.ro .task,.clo 105 (pD [.rp (pD [.int]) 0])],pS [.int],fun x=>L7 n x.1.2 x.2.1.1.1⟩
def lj(n:Nat):LS:=AI ⟨2,[0,1,7,8],[],[],[4],[]⟩ 19 [0,1,7,8] 0 (pD [.ro .task,.clo 105 (pD [.rp (pD [.int]) 0]),.int,.int]) [] (fun m x k=>IH n m x.1.1.2 x.1.2.1.1.1 x.1.2.2.1 x.1.2.2.2.1 (fun w0=>k .ret (eS 19 [4] [.int w0] 0 [])) (k (.exit 0) (eS 19 [] [] 0 [])))
theorem gp(n:Nat):RO (gn n):=
 rL ⟨Go.Proofs.Tryz.f154,⟨[(4,[(5,cl 1 .bool 0)])],[],[]⟩,0⟩ [lj n] n (ec UE en) Go.Proofs.Tryz.func154 (by kernel_rfl) ⟨AJ (fun m x k=>by kernel_rfl) (fun _ _=>rfl),trivial⟩ (fun x=>by kernel_rfl)
def Gi{α:Type}(n:Nat):Nat→List Task→Int→Int→Int→(Int→List Task→Option α)→Option α|0,_,_,_,_,_=>none|m0+1,v2,v3,v4,v5,k0_0=>cond (decide (v5<(v2.length:Int))) (cond (decide (0≤v5)&&decide (v5<(v2.length:Int))) ((JS (List.getD v2 (Int.toNat v5) (Kd.dflt .task)) v3).bind fun r6=>cond (!r6.1) (cond (decide (0≤v4)&&decide (v4<(v2.length:Int))) (cond (decide ((Int.toNat v4)<(v2).length)) (let e7:=(List.set v2 (Int.toNat v4) (List.getD v2 (Int.toNat v5) (Kd.dflt .task)));Gi n m0 e7 v3 (w64 (v4+1)) (w64 (v5+1)) k0_0) none) none) (Gi n m0 v2 v3 v4 (w64 (v5+1)) k0_0)) none) (k0_0 v4 v2)
def L0(n:Nat)(a0:List Task)(a1_0_0:Int):Option (List Task×Unit):=(L7 n a0 a1_0_0).bind fun r1=>cond (decide (r1.1=(-1))) (some (a0,())) (Gi n n a0 a1_0_0 r1.1 (w64 (r1.1+1)) (fun w8 w9=>cond ((decide (0≤w8)&&decide (w8≤(w9.length:Int)))&&(decide ((w9.length:Int)≤(w9.length:Int)))) (cond ((decide ((Int.toNat w8)<(Int.toNat (w9.length:Int))))&&(decide ((Int.toNat (w9.length:Int))≤(w9).length))) (let e10:=(Aj w9 (Int.toNat w8) (List.replicate ((Int.toNat (w9.length:Int))-(Int.toNat w8)) (Kd.dflt .task)));cond (decide (0≤w8)&&decide (w8≤(e10.length:Int))) (some ((List.take (Int.toNat w8) e10),())) none) none) none))
def gQ(n:Nat):Rw:=⟨103,pA [.own .task,.v (.clo 105 (pD [.rp (pD [.int]) 0]))],q2,fun x=>L0 n x.1 x.2.1.1.1⟩
def lX(n:Nat):LS:=AI ⟨5,[0,1,5,6],[],[1],[0,5],[0,1,2]⟩ 42 [0,1,5,6] 133 (pD [.bor 0,.clo 105 (pD [.rp (pD [.int]) 0]),.int,.int]) [.root .task] (fun m x k=>Gi n m x.2.1 x.1.2.1.1.1 x.1.2.2.1 x.1.2.2.2.1 (fun w0 w1=>k (.exit 0) (eS 42 [0,5] [.bor 0,.int w0] 133 [.root .task w1 .ok])))
theorem gR(n:Nat):RO (gQ n):=
 rL ⟨Go.Proofs.Tryz.f103,⟨[(1,[(2,cl 2 .int 0)]),(7,[(4,.slot 1 .int)]),(8,[(2,cl 1 .bool 0)]),(12,[(2,.slot 2 .task)])],[],[]⟩,3⟩ [lX n] n (ec (gp n) (ec UE en)) Go.Proofs.Tryz.func103 (by kernel_rfl) ⟨AJ (fun m x k=>by kernel_rfl) (fun _ _=>rfl),trivial⟩ (fun x=>by kernel_rfl)
def HK(n:Nat)(a0:Sys)(a1:Int):Option (List Task×Unit):=(CE a0.Tasks).bind fun r1=>(L0 n r1.1 a1).bind fun r2=>some (r2.1,())
def cP(n:Nat):Rw:=⟨43,pV [Ae,.int],(pS [.ro .task]),fun x=>HK n (AX x.1) x.2.1⟩
theorem Pp(n:Nat):RO (cP n):=
 rE ⟨Go.Proofs.Tryz.f43,⟨[(0,[(0,.slot 0 .int),(1,.slot 1 .int)]),(1,[(2,q49),(4,(.call [.mv,.ro] (.own .task) [] [none]))])],[],[]⟩,3⟩ n (ec NI (ec (gR n) en)) Go.Proofs.Tryz.func43 (by kernel_rfl) (fun x=>by kernel_rfl)
def Do(a0:Task):Option (Bool×Unit):=cond (decide (a0.Class=3)) ((Dn a0).bind fun r1=>some (r1.1,())) (some (false,()))
def cp:Rw:=⟨164,pV [Ac],pS [.bool],fun x=>Do (AK x.1)⟩
theorem KP:RO (cp):=
 rE ⟨Go.Proofs.Tryz.f164,⟨[(0,[(0,.slot 0 .int)]),(1,[(5,cl 1 .bool 0)])],[],[]⟩,1⟩ 0 (ec Ii en) Go.Proofs.Tryz.func164 (by kernel_rfl) (fun x=>by kernel_rfl)
def D2{α:Type}(n:Nat):Nat→Int→Int→Bool→List Task→Int→Int→(Int→Int→Bool→Option α)→Option α|0,_,_,_,_,_,_,_=>none|m0+1,v1,v2,v3,v4,v5,v6,k0_0=>cond (decide (v6<v5)) (cond (decide (0≤v6)&&decide (v6<(v4.length:Int))) ((Do (List.getD v4 (Int.toNat v6) (Kd.dflt .task))).bind fun r7=>cond (!r7.1) (D2 n m0 v1 v2 v3 v4 v5 (w64 (v6+1)) k0_0) (cond (!v3) (let e8:=(if(List.getD v4 (Int.toNat v6) (Kd.dflt .task)).V<(List.getD v4 (Int.toNat v6) (Kd.dflt .task)).V then(List.getD v4 (Int.toNat v6) (Kd.dflt .task)).V else(List.getD v4 (Int.toNat v6) (Kd.dflt .task)).V);let e9:=(if(List.getD v4 (Int.toNat v6) (Kd.dflt .task)).V>(List.getD v4 (Int.toNat v6) (Kd.dflt .task)).V then(List.getD v4 (Int.toNat v6) (Kd.dflt .task)).V else(List.getD v4 (Int.toNat v6) (Kd.dflt .task)).V);D2 n m0 e8 e9 true v4 v5 (w64 (v6+1)) k0_0) (let e10:=(if(List.getD v4 (Int.toNat v6) (Kd.dflt .task)).V<v1 then(List.getD v4 (Int.toNat v6) (Kd.dflt .task)).V else v1);let e11:=(if(List.getD v4 (Int.toNat v6) (Kd.dflt .task)).V>v2 then(List.getD v4 (Int.toNat v6) (Kd.dflt .task)).V else v2);D2 n m0 e10 e11 v3 v4 v5 (w64 (v6+1)) k0_0))) none) (k0_0 v1 v2 v3)
def JT(n:Nat)(a0:List Task):Option ((Int×Int×Bool×Unit)×Unit):=D2 n n 0 0 false a0 (a0.length:Int) 0 (fun w12 w13 w14=>some ((w12,w13,w14,()),()))
def ce(n:Nat):Rw:=⟨102,pV [.ro .task],q34,fun x=>JT n x.1.2⟩
def kn(n:Nat):LS:=AI ⟨3,([5,6,7,10,11,12]),[],[0],[5,6,7],[0]⟩ 37 [5,6,7,10,11,12] 3 (pD [.int,.int,.bool,.ro .task,.int,.int]) [] (fun m x k=>D2 n m x.1.1 x.1.2.1 x.1.2.2.1 x.1.2.2.2.1.2 x.1.2.2.2.2.1 x.1.2.2.2.2.2.1 (fun w0 w1 w2=>k (.exit 0) (eS 37 [5,6,7] [.int w0,.int w1,.bool w2] 3 [])))
theorem UF(n:Nat):RO (ce n):=
 rL ⟨Go.Proofs.Tryz.f102,⟨[(4,[(2,.slot 0 .int)]),(5,[(1,cl 1 .bool 0)])],[(7,dr 7 [(0,[0],[]),(1,[0],[]),(2,[0],[]),(3,[0],[])]),(8,dr 10 [(1,[0],[]),(2,[0],[]),(5,[0],[]),(6,[0],[])])],[]⟩,1⟩ [kn n] n (ec KP en) Go.Proofs.Tryz.func102 (by kernel_rfl) ⟨AJ (fun m x k=>by kernel_rfl) (fun _ _=>rfl),trivial⟩ (fun x=>by kernel_rfl)
def K6(n:Nat)(a0:List Task):Option (Int×Unit):=(JT n a0).bind fun r1=>some ((w64 (r1.1.2.1-r1.1.1)),())
def ac(n:Nat):Rw:=⟨42,pV [.ro .task],pS [.int],fun x=>K6 n x.1.2⟩
theorem ae(n:Nat):RO (ac n):=
 rE ⟨Go.Proofs.Tryz.f42,⟨[(1,[(1,q36)])],[],[]⟩,0⟩ n (ec (UF n) en) Go.Proofs.Tryz.func42 (by kernel_rfl) (fun x=>by kernel_rfl)
def LJ(n:Nat)(a0:Sys)(a1:Int):Option (Int×Unit):=(DT n a0).bind fun r1=>cond (!r1.1) (some (0,())) ((HK n a0 a1).bind fun r2=>(K6 n r2.1).bind fun r3=>some (r3.1,()))
def bO(n:Nat):Rw:=⟨10,pV [Ae,.int],pS [.int],fun x=>LJ n (AX x.1) x.2.1⟩
theorem bP(n:Nat):RO (bO n):=
 rE ⟨Go.Proofs.Tryz.f10,⟨[(0,[(0,.slot 0 .int)]),(1,[(1,cl 1 .bool 0)]),(3,[(2,q53),(3,cl 1 .int 0)])],[],[]⟩,1⟩ n (ec (Fx n) (ec (Pp n) (ec (ae n) en))) Go.Proofs.Tryz.func10 (by kernel_rfl) (fun x=>by kernel_rfl)
def Ll(a0:Task)(a1:Task):Option (Bool×Unit):=cond (!(decide (a0.No=a1.No))) (some (false,())) (cond (!(decide (a0.Class=a1.Class))) (some (false,())) (cond (!(decide (a0.Cpu=a1.Cpu))) (some (false,())) (cond (!(decide (a0.State=a1.State))) (some (false,())) (cond (!(a0.Idle==a1.Idle)) (some (false,())) (cond (!(decide (a0.Q=a1.Q))) (some (false,())) (cond (!(decide (a0.P=a1.P))) (some (false,())) (cond (!(decide (a0.Left=a1.Left))) (some (false,())) (cond (!(decide (a0.Due=a1.Due))) (some (false,())) (cond (!(decide (a0.Prio=a1.Prio))) (some (false,())) (cond (!(decide (a0.Round=a1.Round))) (some (false,())) (cond (!(decide (a0.Seq=a1.Seq))) (some (false,())) (cond (!(decide (a0.Nice=a1.Nice))) (some (false,())) (cond (!(decide (a0.V=a1.V))) (some (false,())) (some (true,())))))))))))))))
def db:Rw:=⟨106,pV [Ac,Ac],pS [.bool],fun x=>Ll (AK x.1) (AK x.2.1)⟩
theorem dh:RO (db):=
 rE ⟨Go.Proofs.Tryz.f106,⟨[(0,[(0,.slot 0 .int),(1,.slot 1 .int)])],[],[]⟩,2⟩ 0 en Go.Proofs.Tryz.func106 (by kernel_rfl) (fun x=>by kernel_rfl)
def Ef{α:Type}(n:Nat):Nat→List Task→List Task→Int→(Option α)→(Option α)→Option α|0,_,_,_,_,_=>none|m0+1,v1,v2,v3,k0_0,k0_1=>cond (decide (v3<(v1.length:Int))) (cond (decide (0≤v3)&&decide (v3<(v1.length:Int))) (cond (decide (0≤v3)&&decide (v3<(v2.length:Int))) ((Ll (List.getD v1 (Int.toNat v3) (Kd.dflt .task)) (List.getD v2 (Int.toNat v3) (Kd.dflt .task))).bind fun r4=>cond (!r4.1) k0_0 (Ef n m0 v1 v2 (w64 (v3+1)) k0_0 k0_1)) none) none) k0_1
def JZ(n:Nat)(a0:List Task)(a1:List Task):Option (Bool×Unit):=cond (!(decide ((a0.length:Int)=(a1.length:Int)))) (some (false,())) (Ef n n a0 a1 0 (some (false,())) (some (true,())))
def df(n:Nat):Rw:=⟨44,pV [.ro .task,.ro .task],pS [.bool],fun x=>JZ n x.1.2 x.2.1.2⟩
def lA(n:Nat):LS:=AI ⟨4,[0,1,5],[],[],[4],[]⟩ 27 [0,1,5] 0 (pD [.ro .task,.ro .task,.int]) [] (fun m x k=>Ef n m x.1.1.2 x.1.2.1.2 x.1.2.2.1 (k .ret (eS 27 [4] [.bool false] 0 [])) (k (.exit 0) (eS 27 [] [] 0 [])))
theorem dg(n:Nat):RO (df n):=
 rL ⟨Go.Proofs.Tryz.f44,⟨[(6,[(8,cl 2 .bool 0)])],[(6,dr 10 [])],[]⟩,0⟩ [lA n] n (ec dh en) Go.Proofs.Tryz.func44 (by kernel_rfl) ⟨AJ (fun m x k=>by kernel_rfl) (fun _ _=>rfl),trivial⟩ (fun x=>by kernel_rfl)
def Ed{α:Type}(n:Nat):Nat→List Int→List Int→Int→(Option α)→(Option α)→Option α|0,_,_,_,_,_=>none|m0+1,v1,v2,v3,k0_0,k0_1=>cond (decide (v3<(v1.length:Int))) (cond (decide (0≤v3)&&decide (v3<(v1.length:Int))) (cond (decide (0≤v3)&&decide (v3<(v2.length:Int))) (let e4:=(!(decide ((List.getD v1 (Int.toNat v3) (Kd.dflt .int))=(List.getD v2 (Int.toNat v3) (Kd.dflt .int)))));cond e4 k0_0 (Ed n m0 v1 v2 (w64 (v3+1)) k0_0 k0_1)) none) none) k0_1
def EQ(n:Nat)(a0:List Int)(a1:List Int):Option (Bool×Unit):=cond (!(decide ((a0.length:Int)=(a1.length:Int)))) (some (false,())) (Ed n n a0 a1 0 (some (false,())) (some (true,())))
def dS(n:Nat):Rw:=⟨23,pV [.ro .int,.ro .int],pS [.bool],fun x=>EQ n x.1.2 x.2.1.2⟩
def ky(n:Nat):LS:=AI ⟨4,[0,1,5],[],[],[4],[]⟩ 26 [0,1,5] 0 (pD [.ro .int,.ro .int,.int]) [] (fun m x k=>Ed n m x.1.1.2 x.1.2.1.2 x.1.2.2.1 (k .ret (eS 26 [4] [.bool false] 0 [])) (k (.exit 0) (eS 26 [] [] 0 [])))
theorem Pv(n:Nat):RO (dS n):=
 rL ⟨Go.Proofs.Tryz.f23,⟨[],[(6,dr 9 [])],[]⟩,0⟩ [ky n] n en Go.Proofs.Tryz.func23 (by kernel_rfl) ⟨AJ (fun m x k=>by kernel_rfl) (fun _ _=>rfl),trivial⟩ (fun x=>by kernel_rfl)
def Lj(n:Nat)(a0:Lock)(a1:Lock):Option (Bool×Unit):=cond (!(decide (a0.Owner=a1.Owner))) (some (false,())) ((EQ n a0.Waits a1.Waits).bind fun r1=>cond (!r1.1) (some (false,())) (some (true,())))
def dU(n:Nat):Rw:=⟨107,pV [EJ,EJ],pS [.bool],fun x=>Lj n (EX x.1) (EX x.2.1)⟩
theorem dX(n:Nat):RO (dU n):=
 rE ⟨Go.Proofs.Tryz.f107,⟨[(0,[(0,.slot 0 .int),(1,.slot 1 .int)]),(3,[(4,cl 2 .bool 0)])],[],[]⟩,2⟩ n (ec (Pv n) en) Go.Proofs.Tryz.func107 (by kernel_rfl) (fun x=>by kernel_rfl)
def Ee{α:Type}(n:Nat):Nat→List Lock→List Lock→Int→(Option α)→(Option α)→Option α|0,_,_,_,_,_=>none|m0+1,v1,v2,v3,k0_0,k0_1=>cond (decide (v3<(v1.length:Int))) (cond (decide (0≤v3)&&decide (v3<(v1.length:Int))) (cond (decide (0≤v3)&&decide (v3<(v2.length:Int))) ((Lj n (List.getD v1 (Int.toNat v3) (Kd.dflt .lock)) (List.getD v2 (Int.toNat v3) (Kd.dflt .lock))).bind fun r4=>cond (!r4.1) k0_0 (Ee n m0 v1 v2 (w64 (v3+1)) k0_0 k0_1)) none) none) k0_1
def JY(n:Nat)(a0:List Lock)(a1:List Lock):Option (Bool×Unit):=cond (!(decide ((a0.length:Int)=(a1.length:Int)))) (some (false,())) (Ee n n a0 a1 0 (some (false,())) (some (true,())))
def dV(n:Nat):Rw:=⟨45,pV [.ro .lock,.ro .lock],pS [.bool],fun x=>JY n x.1.2 x.2.1.2⟩
def kz(n:Nat):LS:=AI ⟨4,[0,1,5],[],[],[4],[]⟩ 27 [0,1,5] 0 (pD [.ro .lock,.ro .lock,.int]) [] (fun m x k=>Ee n m x.1.1.2 x.1.2.1.2 x.1.2.2.1 (k .ret (eS 27 [4] [.bool false] 0 [])) (k (.exit 0) (eS 27 [] [] 0 [])))
theorem dW(n:Nat):RO (dV n):=
 rL ⟨Go.Proofs.Tryz.f45,⟨[(6,[(8,cl 2 .bool 0)])],[(6,dr 10 [])],[]⟩,0⟩ [kz n] n (ec (dX n) en) Go.Proofs.Tryz.func45 (by kernel_rfl) ⟨AJ (fun m x k=>by kernel_rfl) (fun _ _=>rfl),trivial⟩ (fun x=>by kernel_rfl)
def Lk(a0:Share)(a1:Share):Option (Bool×Unit):=cond (!(decide (a0.Q=a1.Q))) (some (false,())) (cond (!(decide (a0.P=a1.P))) (some (false,())) (some (true,())))
def dY:Rw:=⟨165,pV [G8,G8],pS [.bool],fun x=>Lk (EL x.1) (EL x.2.1)⟩
theorem dZ:RO (dY):=
 rE ⟨Go.Proofs.Tryz.f165,⟨[(0,[(0,.slot 0 .int),(1,.slot 1 .int)])],[],[]⟩,2⟩ 0 en Go.Proofs.Tryz.func165 (by kernel_rfl) (fun x=>by kernel_rfl)
def Li(a0:Ghost)(a1:Ghost):Option (Bool×Unit):=cond (!(decide (a0.Cpu=a1.Cpu))) (some (false,())) ((Lk a0.S a1.S).bind fun r1=>cond (!r1.1) (some (false,())) (cond (!(decide (a0.Until=a1.Until))) (some (false,())) (some (true,()))))
def dO:Rw:=⟨108,pV [G7,G7],pS [.bool],fun x=>Li (FC x.1) (FC x.2.1)⟩
theorem dR:RO (dO):=
 rE ⟨Go.Proofs.Tryz.f108,⟨[(0,[(0,.slot 0 .int),(1,.slot 1 .int)]),(3,[(4,cl 2 .bool 0)])],[],[]⟩,2⟩ 0 (ec dZ en) Go.Proofs.Tryz.func108 (by kernel_rfl) (fun x=>by kernel_rfl)
def Ec{α:Type}(n:Nat):Nat→List Ghost→List Ghost→Int→(Option α)→(Option α)→Option α|0,_,_,_,_,_=>none|m0+1,v1,v2,v3,k0_0,k0_1=>cond (decide (v3<(v1.length:Int))) (cond (decide (0≤v3)&&decide (v3<(v1.length:Int))) (cond (decide (0≤v3)&&decide (v3<(v2.length:Int))) ((Li (List.getD v1 (Int.toNat v3) (Kd.dflt .ghost)) (List.getD v2 (Int.toNat v3) (Kd.dflt .ghost))).bind fun r4=>cond (!r4.1) k0_0 (Ec n m0 v1 v2 (w64 (v3+1)) k0_0 k0_1)) none) none) k0_1
def JX(n:Nat)(a0:List Ghost)(a1:List Ghost):Option (Bool×Unit):=cond (!(decide ((a0.length:Int)=(a1.length:Int)))) (some (false,())) (Ec n n a0 a1 0 (some (false,())) (some (true,())))
def dP(n:Nat):Rw:=⟨46,pV [.ro .ghost,.ro .ghost],pS [.bool],fun x=>JX n x.1.2 x.2.1.2⟩
def kx(n:Nat):LS:=AI ⟨4,[0,1,5],[],[],[4],[]⟩ 27 [0,1,5] 0 (pD [.ro .ghost,.ro .ghost,.int]) [] (fun m x k=>Ec n m x.1.1.2 x.1.2.1.2 x.1.2.2.1 (k .ret (eS 27 [4] [.bool false] 0 [])) (k (.exit 0) (eS 27 [] [] 0 [])))
theorem dQ(n:Nat):RO (dP n):=
 rL ⟨Go.Proofs.Tryz.f46,⟨[(6,[(8,cl 2 .bool 0)])],[(6,dr 10 [])],[]⟩,0⟩ [kx n] n (ec dR en) Go.Proofs.Tryz.func46 (by kernel_rfl) ⟨AJ (fun m x k=>by kernel_rfl) (fun _ _=>rfl),trivial⟩ (fun x=>by kernel_rfl)
def Lm(a0:Turn)(a1:Turn):Option (Bool×Unit):=cond (!(decide (a0.Cpu=a1.Cpu))) (some (false,())) (cond (!(decide (a0.Context=a1.Context))) (some (false,())) (cond (!(decide (a0.Executor=a1.Executor))) (some (false,())) (some (true,()))))
def di:Rw:=⟨109,pV [Nn,Nn],pS [.bool],fun x=>Lm (I8 x.1) (I8 x.2.1)⟩
theorem dm:RO (di):=
 rE ⟨Go.Proofs.Tryz.f109,⟨[(0,[(0,.slot 0 .int),(1,.slot 1 .int)])],[],[]⟩,2⟩ 0 en Go.Proofs.Tryz.func109 (by kernel_rfl) (fun x=>by kernel_rfl)
def Eg{α:Type}(n:Nat):Nat→List Turn→List Turn→Int→(Option α)→(Option α)→Option α|0,_,_,_,_,_=>none|m0+1,v1,v2,v3,k0_0,k0_1=>cond (decide (v3<(v1.length:Int))) (cond (decide (0≤v3)&&decide (v3<(v1.length:Int))) (cond (decide (0≤v3)&&decide (v3<(v2.length:Int))) ((Lm (List.getD v1 (Int.toNat v3) (Kd.dflt .turn)) (List.getD v2 (Int.toNat v3) (Kd.dflt .turn))).bind fun r4=>cond (!r4.1) k0_0 (Eg n m0 v1 v2 (w64 (v3+1)) k0_0 k0_1)) none) none) k0_1
def Ja(n:Nat)(a0:List Turn)(a1:List Turn):Option (Bool×Unit):=cond (!(decide ((a0.length:Int)=(a1.length:Int)))) (some (false,())) (Eg n n a0 a1 0 (some (false,())) (some (true,())))
def dj(n:Nat):Rw:=⟨47,pV [.ro .turn,.ro .turn],pS [.bool],fun x=>Ja n x.1.2 x.2.1.2⟩
def lB(n:Nat):LS:=AI ⟨4,[0,1,5],[],[],[4],[]⟩ 27 [0,1,5] 0 (pD [.ro .turn,.ro .turn,.int]) [] (fun m x k=>Eg n m x.1.1.2 x.1.2.1.2 x.1.2.2.1 (k .ret (eS 27 [4] [.bool false] 0 [])) (k (.exit 0) (eS 27 [] [] 0 [])))
theorem dk(n:Nat):RO (dj n):=
 rL ⟨Go.Proofs.Tryz.f47,⟨[(6,[(8,cl 2 .bool 0)])],[(6,dr 10 [])],[]⟩,0⟩ [lB n] n (ec dm en) Go.Proofs.Tryz.func47 (by kernel_rfl) ⟨AJ (fun m x k=>by kernel_rfl) (fun _ _=>rfl),trivial⟩ (fun x=>by kernel_rfl)
def CD(n:Nat)(a0:Sys)(a1:Sys):Option (Bool×Unit):=cond (!(decide (a0.Now=a1.Now))) (some (false,())) (cond (!(decide (a0.Cpus=a1.Cpus))) (some (false,())) ((JZ n a0.Tasks a1.Tasks).bind fun r1=>cond (!r1.1) (some (false,())) ((JY n a0.Locks a1.Locks).bind fun r2=>cond (!r2.1) (some (false,())) ((JX n a0.Ghosts a1.Ghosts).bind fun r3=>cond (!r3.1) (some (false,())) ((EQ n a0.Floors a1.Floors).bind fun r4=>cond (!r4.1) (some (false,())) (cond (!(decide (a0.Seq=a1.Seq))) (some (false,())) (cond (!(decide (a0.Missed=a1.Missed))) (some (false,())) ((Ja n a0.Trace a1.Trace).bind fun r5=>cond (!r5.1) (some (false,())) (some (true,()))))))))))
def da(n:Nat):Rw:=⟨11,pV [Ae,Ae],pS [.bool],fun x=>CD n (AX x.1) (AX x.2.1)⟩
theorem NF(n:Nat):RO (da n):=
 rE ⟨Go.Proofs.Tryz.f11,⟨[(0,[(0,.slot 0 .int),(1,.slot 1 .int)]),(5,[(4,cl 2 .bool 0)]),(7,[(4,cl 2 .bool 0)]),(9,[(4,cl 2 .bool 0)]),(11,[(4,cl 2 .bool 0)]),(17,[(4,cl 2 .bool 0)])],[],[]⟩,2⟩ n (ec (dg n) (ec (dW n) (ec (dQ n) (ec (Pv n) (ec (dk n) en))))) Go.Proofs.Tryz.func11 (by kernel_rfl) (fun x=>by kernel_rfl)
def Ld(n:Nat)(a0:Sys)(a1:Int):Option (Bool×Unit):=(GJ n a0 1048576).bind fun r1=>cond (decide (r1.1<0)) (some (true,())) ((CS n a0).bind fun r2=>(MP n (AC r2.1) a1).bind fun r3=>(CS n a0).bind fun r4=>(LJ n (AC r4.1) a1).bind fun r5=>cond (!(decide (r5.1=r3.1))) (some (false,())) ((CS n a0).bind fun r6=>(CD n (AC r4.1) (AC r6.1)).bind fun r7=>cond (!r7.1) (some (false,())) (some (true,()))))
def dC(n:Nat):Rw:=⟨3,pV [Ae,.int],pS [.bool],fun x=>Ld n (AX x.1) x.2.1⟩
theorem dD(n:Nat):RO (dC n):=
 rE ⟨Go.Proofs.Tryz.f3,⟨[(0,[(0,.slot 0 .int)]),(2,[(2,cl 2 .int 0)]),(5,[(1,q54),(3,cl 2 .int 0)]),(6,[(1,q54),(2,.slot 1 .int)]),(7,[(2,cl 2 .int 0)]),(10,[(2,q54),(3,cl 2 .bool 0)])],[(10,dr 5 [(0,[1],[]),(1,[0],[])])],[]⟩,2⟩ n (ec (NG n) (ec (NH n) (ec (im n) (ec (bP n) (ec (NF n) en))))) Go.Proofs.Tryz.func3 (by kernel_rfl) (fun x=>by kernel_rfl)
def IS{α:Type}(n:Nat):Nat→List Lock→List Lock→Int→(List Lock→Option α)→Option α|0,_,_,_,_=>none|m0+1,v1,v2,v3,k0_0=>cond (decide (v3<(v1.length:Int))) (cond (decide (0≤v3)&&decide (v3<(v1.length:Int))) (cond (decide (0≤v3)&&decide (v3<(v1.length:Int))) (cond (decide ((([]:List Int)).length+((List.getD v1 (Int.toNat v3) (Kd.dflt .lock)).Waits).length≤lim)) (let e4:=(([]:List Int)++(List.getD v1 (Int.toNat v3) (Kd.dflt .lock)).Waits);let e5:=([(⟨(List.getD v1 (Int.toNat v3) (Kd.dflt .lock)).Owner,e4⟩:Lock)]:List Lock);cond (decide ((v2).length+(e5).length≤lim)) (IS n m0 v1 (v2++e5) (w64 (v3+1)) k0_0) none) none) none) none) (k0_0 v2)
def Mf(n:Nat)(a0:List Lock):Option (List Lock×Unit):=IS n n a0 ([]:List Lock) 0 (fun w6=>some (w6,()))
def jm(n:Nat):Rw:=⟨110,pV [.ro .lock],q7,fun x=>Mf n x.1.2⟩
def mN(n:Nat):LS:=AI ⟨3,[0,3,4],[(.t 3,1,.lock)],[2,3,4,5],[3],q55⟩ 29 [0,3,4] 413333 (pD [.ro .lock,.bor 1,.int]) [.root .lock] (fun m x k=>IS n m x.1.1.2 x.2.1 x.1.2.2.1 (fun w0=>k (.exit 0) (eS 29 [3] [.bor 1] 413333 [.root .lock w0 .ok])))
theorem jo(n:Nat):RO (jm n):=
 rL ⟨Go.Proofs.Tryz.f110,⟨[(1,[(0,.slot 0 .lock)]),(5,[(6,.slot 2 .int),(12,.slot 3 .int),(14,.slot 4 .lock),(15,.slot 5 .lock)])],[(5,dr 17 [(6,[2],[2]),(12,[2,3],[2,3]),(14,[3,4],[3,4]),(15,[1,4,5],[1,4,5])])],[]⟩,6⟩ [mN n] n en Go.Proofs.Tryz.func110 (by kernel_rfl) ⟨AJ (fun m x k=>by kernel_rfl) (fun _ _=>rfl),trivial⟩ (fun x=>by kernel_rfl)
def Jy(n:Nat)(a0:Sys):Option (Ah×Unit):=cond (decide ((([]:List Task)).length+(a0.Tasks).length≤lim)) ((Mf n a0.Locks).bind fun r1=>cond (decide ((([]:List Ghost)).length+(a0.Ghosts).length≤lim)) (cond (decide ((([]:List Int)).length+(a0.Floors).length≤lim)) (cond (decide ((([]:List Turn)).length+(a0.Trace).length≤lim)) (some ((AA (⟨a0.Now,a0.Cpus,(([]:List Task)++a0.Tasks),r1.1,(([]:List Ghost)++a0.Ghosts),(([]:List Int)++a0.Floors),a0.Seq,a0.Missed,(([]:List Turn)++a0.Trace)⟩:Sys)),())) none) none) none) none
def j3(n:Nat):Rw:=⟨48,pV [Ae],(pS [.agg q56]),fun x=>Jy n (AX x.1)⟩
theorem Ug(n:Nat):RO (j3 n):=
 rE ⟨Go.Proofs.Tryz.f48,⟨[(0,[(0,.slot 0 .int),(1,.slot 1 .int)]),(1,[(0,.slot 2 .task),(3,.slot 3 .task)]),(2,[(2,q19)]),(3,[(0,.slot 4 .ghost),(3,.slot 5 .ghost)]),(4,[(0,.slot 6 .int),(3,.slot 7 .int)]),(5,[(0,.slot 8 .turn),(3,.slot 9 .turn)])],[],[]⟩,10⟩ n (ec (jo n) en) Go.Proofs.Tryz.func48 (by kernel_rfl) (fun x=>by kernel_rfl)
def EV(a0:Task):Option (Bool×Unit):=(Dp a0).bind fun r1=>cond r1.1 (some ((decide (a0.Class=1)),())) (some (false,()))
def jf:Rw:=⟨111,pV [Ac],pS [.bool],fun x=>EV (AK x.1)⟩
theorem NP:RO (jf):=
 rE ⟨Go.Proofs.Tryz.f111,⟨[(0,[(0,.slot 0 .int)]),(1,[(1,cl 1 .bool 0)])],[],[]⟩,1⟩ 0 (ec Il en) Go.Proofs.Tryz.func111 (by kernel_rfl) (fun x=>by kernel_rfl)
def GP(a0:Task)(a1:Int):Option (A8×Unit):=(EV a0).bind fun r1=>cond (!r1.1) (some ((AN a0),())) ((Ag a1 0 100000).bind fun r2=>cond (!r2.1) (some ((AN a0),())) (cond (decide (a1<a0.Due)) (some ((AN a0),())) (some ((AN (⟨a0.No,a0.Class,a0.Cpu,a0.State,a0.Idle,a0.Q,a0.P,a0.Q,(w64 (a0.Due+a0.P)),a0.Prio,a0.Round,a0.Seq,a0.Nice,a0.V⟩:Task)),()))))
def hJ:Rw:=⟨50,pV [Ac,.int],pS [.agg q0],fun x=>GP (AK x.1) x.2.1⟩
theorem UU:RO (hJ):=
 rE ⟨Go.Proofs.Tryz.f50,⟨[(0,[(0,.slot 0 .int),(1,.slot 1 .int)]),(1,[(1,cl 1 .bool 0),(5,cl 3 .bool 0)])],[],[]⟩,2⟩ 0 (ec NP (ec Bi en)) Go.Proofs.Tryz.func50 (by kernel_rfl) (fun x=>by kernel_rfl)
def IT{α:Type}(n:Nat):Nat→List Lock→List Lock→Int→(List Lock→Option α)→Option α|0,_,_,_,_=>none|m0+1,v1,v2,v3,k0_0=>cond (decide (v3<(v1.length:Int))) (cond (decide (0≤v3)&&decide (v3<(v1.length:Int))) (cond (decide (0≤v3)&&decide (v3<(v1.length:Int))) (cond (decide ((([]:List Int)).length+((List.getD v1 (Int.toNat v3) (Kd.dflt .lock)).Waits).length≤lim)) (let e4:=(([]:List Int)++(List.getD v1 (Int.toNat v3) (Kd.dflt .lock)).Waits);let e5:=([(⟨(List.getD v1 (Int.toNat v3) (Kd.dflt .lock)).Owner,e4⟩:Lock)]:List Lock);cond (decide ((v2).length+(e5).length≤lim)) (IT n m0 v1 (v2++e5) (w64 (v3+1)) k0_0) none) none) none) none) (k0_0 v2)
def HX(n:Nat)(a0:List Lock):Option (List Lock×Unit):=IT n n a0 ([]:List Lock) 0 (fun w6=>some (w6,()))
def jn(n:Nat):Rw:=⟨110,pV [.ro .lock],q7,fun x=>HX n x.1.2⟩
def mO(n:Nat):LS:=AI ⟨3,[0,3,4],[(.t 3,1,.lock)],[2,3,4,5],[3],q55⟩ 29 [0,3,4] 413333 (pD [.ro .lock,.bor 1,.int]) [.root .lock] (fun m x k=>IT n m x.1.1.2 x.2.1 x.1.2.2.1 (fun w0=>k (.exit 0) (eS 29 [3] [.bor 1] 413333 [.root .lock w0 .ok])))
theorem P7(n:Nat):RO (jn n):=
 rL ⟨Go.Proofs.Tryz.f110,⟨[(1,[(0,.slot 0 .lock)]),(5,[(6,.slot 2 .int),(12,.slot 3 .int),(14,.slot 4 .lock),(15,.slot 5 .lock)])],[(5,dr 17 [(6,[2],[2]),(12,[2,3],[2,3]),(14,[3,4],[3,4]),(15,[1,4,5],[1,4,5])])],[]⟩,6⟩ [mO n] n en Go.Proofs.Tryz.func110 (by kernel_rfl) ⟨AJ (fun m x k=>by kernel_rfl) (fun _ _=>rfl),trivial⟩ (fun x=>by kernel_rfl)
def FN(n:Nat)(a0:Sys):Option (Ah×Unit):=cond (decide ((([]:List Task)).length+(a0.Tasks).length≤lim)) ((HX n a0.Locks).bind fun r1=>cond (decide ((([]:List Ghost)).length+(a0.Ghosts).length≤lim)) (cond (decide ((([]:List Int)).length+(a0.Floors).length≤lim)) (cond (decide ((([]:List Turn)).length+(a0.Trace).length≤lim)) (some ((AA (⟨a0.Now,a0.Cpus,(([]:List Task)++a0.Tasks),r1.1,(([]:List Ghost)++a0.Ghosts),(([]:List Int)++a0.Floors),a0.Seq,a0.Missed,(([]:List Turn)++a0.Trace)⟩:Sys)),())) none) none) none) none
def j4(n:Nat):Rw:=⟨48,pV [Ae],q60,fun x=>FN n (AX x.1)⟩
theorem KQ(n:Nat):RO (j4 n):=
 rE ⟨Go.Proofs.Tryz.f48,⟨[(0,[(0,.slot 0 .int),(1,.slot 1 .int)]),(1,[(0,.slot 2 .task),(3,.slot 3 .task)]),(2,[(2,q58)]),(3,[(0,.slot 5 .ghost),(3,.slot 6 .ghost)]),(4,[(0,.slot 7 .int),(3,.slot 8 .int)]),(5,[(0,.slot 9 .turn),(3,.slot 10 .turn)])],[],[]⟩,11⟩ n (ec (P7 n) en) Go.Proofs.Tryz.func48 (by kernel_rfl) (fun x=>by kernel_rfl)
def IV{α:Type}(n:Nat):Nat→List Task→List Int→Int→(Option α)→(Option α)→Option α|0,_,_,_,_,_=>none|m0+1,v2,v3,v4,k0_0,k0_1=>cond (decide (v4<(v3.length:Int))) (cond (decide (0≤v4)&&decide (v4<(v3.length:Int))) ((CF n v2 (List.getD v3 (Int.toNat v4) (Kd.dflt .int))).bind fun r5=>cond (decide (r5.1<0)) k0_0 (IV n m0 v2 v3 (w64 (v4+1)) k0_0 k0_1)) none) k0_1
def Jx(n:Nat)(a0:List Task)(a1:List Lock)(a2:Int):Option (Int×Unit):=(GX n a1 a2).bind fun r1=>IV n n a0 r1.1.1 0 (some (0,())) (cond ((decide (0≤(w64 ((r1.1.1.length:Int)-1))))&&(decide ((w64 ((r1.1.1.length:Int)-1))<(r1.1.1.length:Int)))) (let e6:=(List.getD r1.1.1 (Int.toNat (w64 ((r1.1.1.length:Int)-1))) (Kd.dflt .int));some (e6,())) none)
def jx(n:Nat):Rw:=⟨116,pV [.ro .task,.ro .lock,.int],pS [.int],fun x=>Jx n x.1.2 x.2.1.2 x.2.2.1⟩
def mT(n:Nat):LS:=AI ⟨3,[0,7,9],[],[],[6,7],[]⟩ 35 [0,7,9] 0 (pD [.ro .task,.rog .int,.int]) [] (fun m x k=>IV n m x.1.1.2 x.1.2.1 x.1.2.2.1 (k .ret (eS 35 [6,7] [.int 0,.ro true .int x.1.2.1] 0 [])) (k (.exit 0) (eS 35 [7] [.ro true .int x.1.2.1] 0 [])))
theorem Uf(n:Nat):RO (jx n):=
 rL ⟨Go.Proofs.Tryz.f116,⟨[(1,[(2,q28)]),(5,[(5,cl 2 .int 0)])],[],[]⟩,0⟩ [mT n] n (ec (Ud n) (ec (Gu n) en)) Go.Proofs.Tryz.func116 (by kernel_rfl) ⟨AJ (fun m x k=>by kernel_rfl) (fun _ _=>rfl),trivial⟩ (fun x=>by kernel_rfl)
end Go.Proofs.YtbbgaleennfklaaGreat.VR
end
section
set_option linter.unusedVariables false
set_option maxRecDepth 100000
namespace Go.Proofs.YtbbgaleennfklaaGreat.VR
open Go
def Jw(n:Nat)(a0:List Task)(a1:List Lock)(a2:Int):Option (Bool×Unit):=(Jx n a0 a1 a2).bind fun r1=>cond (!(decide (r1.1=0))) ((CF n a0 a2).bind fun r2=>cond (decide (0≤r2.1)&&decide (r2.1<(a0.length:Int))) (let e3:=(decide ((List.getD a0 (Int.toNat r2.1) (Kd.dflt .task)).State=1));cond e3 ((CF n a0 r1.1).bind fun r4=>cond (decide (0≤r4.1)&&decide (r4.1<(a0.length:Int))) (let e5:=(decide ((List.getD a0 (Int.toNat r4.1) (Kd.dflt .task)).State=1));some (e5,())) none) (some (false,()))) none) (some (false,()))
def ju(n:Nat):Rw:=⟨112,pV [.ro .task,.ro .lock,.int],pS [.bool],fun x=>Jw n x.1.2 x.2.1.2 x.2.2.1⟩
theorem Ue(n:Nat):RO (ju n):=
 rE ⟨Go.Proofs.Tryz.f112,⟨[(1,[(3,cl 3 .int 0)]),(2,[(6,cl 2 .int 0),(16,cl 2 .int 0)])],[],[]⟩,0⟩ n (ec (Uf n) (ec (Gu n) en)) Go.Proofs.Tryz.func112 (by kernel_rfl) (fun x=>by kernel_rfl)
def MC(a0:Task)(a1:Int):Option (A8×Unit):=(EV a0).bind fun r1=>cond (!r1.1) (some ((AN a0),())) ((Ag a1 0 100000).bind fun r2=>cond (!r2.1) (some ((AN a0),())) (cond (decide (a0.Due≤a1)) (some ((AN (⟨a0.No,a0.Class,a0.Cpu,a0.State,a0.Idle,a0.Q,a0.P,a0.Q,(w64 (a1+a0.P)),a0.Prio,a0.Round,a0.Seq,a0.Nice,a0.V⟩:Task)),())) (let e3:=(decide ((w64 ((w64 (a0.Due-a1))*a0.Q))<(w64 (a0.Left*a0.P))));cond e3 (some ((AN (⟨a0.No,a0.Class,a0.Cpu,a0.State,a0.Idle,a0.Q,a0.P,a0.Q,(w64 (a1+a0.P)),a0.Prio,a0.Round,a0.Seq,a0.Nice,a0.V⟩:Task)),())) (some ((AN a0),())))))
def hY:Rw:=⟨114,pV [Ac,.int],pS [.agg q0],fun x=>MC (AK x.1) x.2.1⟩
theorem hZ:RO (hY):=
 rE ⟨Go.Proofs.Tryz.f114,⟨[(0,[(0,.slot 0 .int),(1,.slot 1 .int)]),(1,[(1,cl 1 .bool 0),(5,cl 3 .bool 0)])],[],[]⟩,2⟩ 0 (ec NP (ec Bi en)) Go.Proofs.Tryz.func114 (by kernel_rfl) (fun x=>by kernel_rfl)
def Jv(a0:Task)(a1:Int):Option (A8×Unit):=(Ag a1 0 100000000).bind fun r1=>cond r1.1 (some ((AN (⟨a0.No,a0.Class,a0.Cpu,a0.State,a0.Idle,a0.Q,a0.P,a0.Left,a0.Due,a0.Prio,a0.Round,a0.Seq,a0.Nice,a1⟩:Task)),())) (some ((AN a0),()))
def ji:Rw:=⟨166,pV [Ac,.int],pS [.agg q0],fun x=>Jv (AK x.1) x.2.1⟩
theorem Uc:RO (ji):=
 rE ⟨Go.Proofs.Tryz.f166,⟨[(0,[(0,.slot 0 .int),(1,.slot 1 .int)]),(1,[(1,cl 3 .bool 0)])],[],[]⟩,2⟩ 0 (ec Bi en) Go.Proofs.Tryz.func166 (by kernel_rfl) (fun x=>by kernel_rfl)
def MG(a0:Task)(a1:Int):Option (A8×Unit):=(DX a0).bind fun r1=>cond (!r1.1) (some ((AN a0),())) ((Dr a0.V a1).bind fun r2=>(Jv a0 r2.1).bind fun r3=>some ((AN (AK r3.1)),()))
def iJ:Rw:=⟨113,pV [Ac,.int],pS [.agg q0],fun x=>MG (AK x.1) x.2.1⟩
theorem iK:RO (iJ):=
 rE ⟨Go.Proofs.Tryz.f113,⟨[(0,[(0,.slot 0 .int),(1,.slot 1 .int)]),(1,[(1,cl 1 .bool 0)]),(3,[(4,cl 2 .int 0),(5,q61)])],[(3,dr 7 [(0,[0],[]),(1,[0],[]),(2,[0],[]),(6,[1],[1])])],[]⟩,2⟩ 0 (ec Im (ec NO (ec Uc en))) Go.Proofs.Tryz.func113 (by kernel_rfl) (fun x=>by kernel_rfl)
def Eh{α:Type}(n:Nat):Nat→List Task→Int→Int→Int→(Int→Option α)→Option α|0,_,_,_,_,_=>none|m0+1,v1,v2,v3,v4,k0_0=>cond (decide (v4<(v1.length:Int))) (cond (decide (0≤v4)&&decide (v4<(v1.length:Int))) ((DX (List.getD v1 (Int.toNat v4) (Kd.dflt .task))).bind fun r5=>cond r5.1 (cond (decide (v3<0)) (cond (decide (0≤v4)&&decide (v4<(v1.length:Int))) (Eh n m0 v1 v2 ((List.getD v1 (Int.toNat v4) (Kd.dflt .task)).V) (w64 (v4+1)) k0_0) none) (cond (decide (0≤v4)&&decide (v4<(v1.length:Int))) (let e6:=(decide ((List.getD v1 (Int.toNat v4) (Kd.dflt .task)).V<v3));cond e6 (cond (decide (0≤v4)&&decide (v4<(v1.length:Int))) (Eh n m0 v1 v2 ((List.getD v1 (Int.toNat v4) (Kd.dflt .task)).V) (w64 (v4+1)) k0_0) none) (Eh n m0 v1 v2 v3 (w64 (v4+1)) k0_0)) none)) (Eh n m0 v1 v2 v3 (w64 (v4+1)) k0_0)) none) (k0_0 v3)
def Jr(n:Nat)(a0:List Task)(a1:Int):Option (Int×Unit):=Eh n n a0 a1 (-1) 0 (fun w7=>cond (decide (w7<0)) (some (a1,())) ((Dr a1 w7).bind fun r8=>some (r8.1,())))
def iC(n:Nat):Rw:=⟨52,pV [.ro .task,.int],pS [.int],fun x=>Jr n x.1.2 x.2.1⟩
def lp(n:Nat):LS:=AI ⟨3,[0,1,5,6],[],[],[1,5],[]⟩ 42 [0,1,5,6] 0 (pD [.ro .task,.int,.int,.int]) [] (fun m x k=>Eh n m x.1.1.2 x.1.2.1 x.1.2.2.1 x.1.2.2.2.1 (fun w0=>k (.exit 0) (eS 42 [1,5] [.int x.1.2.1,.int w0] 0 [])))
theorem UV(n:Nat):RO (iC n):=
 rL ⟨Go.Proofs.Tryz.f52,⟨[(5,[(4,cl 1 .bool 0)]),(9,[(2,cl 2 .int 0)])],[],[]⟩,0⟩ [lp n] n (ec Im (ec NO en)) Go.Proofs.Tryz.func52 (by kernel_rfl) ⟨AJ (fun m x k=>by kernel_rfl) (fun _ _=>rfl),trivial⟩ (fun x=>by kernel_rfl)
def Fm{α:Type}(n:Nat):Nat→Sys→Sys→Sys→Int→(List Task→Option α)→Option α|0,_,_,_,_,_=>none|m0+1,v2,v3,v4,v5,k0_0=>cond (decide (v5<(v2.Tasks.length:Int))) (cond (decide (0≤v5)&&decide (v5<(v2.Tasks.length:Int))) ((Jw n v2.Tasks v2.Locks ((List.getD v2.Tasks (Int.toNat v5) (Kd.dflt .task)).No)).bind fun r6=>cond r6.1 (cond ((List.getD v2.Tasks (Int.toNat v5) (Kd.dflt .task)).Idle) ((MC (⟨(List.getD v2.Tasks (Int.toNat v5) (Kd.dflt .task)).No,(List.getD v2.Tasks (Int.toNat v5) (Kd.dflt .task)).Class,(List.getD v2.Tasks (Int.toNat v5) (Kd.dflt .task)).Cpu,(List.getD v2.Tasks (Int.toNat v5) (Kd.dflt .task)).State,false,(List.getD v2.Tasks (Int.toNat v5) (Kd.dflt .task)).Q,(List.getD v2.Tasks (Int.toNat v5) (Kd.dflt .task)).P,(List.getD v2.Tasks (Int.toNat v5) (Kd.dflt .task)).Left,(List.getD v2.Tasks (Int.toNat v5) (Kd.dflt .task)).Due,(List.getD v2.Tasks (Int.toNat v5) (Kd.dflt .task)).Prio,(List.getD v2.Tasks (Int.toNat v5) (Kd.dflt .task)).Round,(List.getD v2.Tasks (Int.toNat v5) (Kd.dflt .task)).Seq,(List.getD v2.Tasks (Int.toNat v5) (Kd.dflt .task)).Nice,(List.getD v2.Tasks (Int.toNat v5) (Kd.dflt .task)).V⟩:Task) v2.Now).bind fun r7=>cond ((decide (0≤(List.getD v2.Tasks (Int.toNat v5) (Kd.dflt .task)).Cpu))&&(decide ((List.getD v2.Tasks (Int.toNat v5) (Kd.dflt .task)).Cpu<(v2.Floors.length:Int)))) (let e8:=(List.getD v2.Floors (Int.toNat (List.getD v2.Tasks (Int.toNat v5) (Kd.dflt .task)).Cpu) (Kd.dflt .int));(MG (AK r7.1) e8).bind fun r9=>cond (decide (0≤v5)&&decide (v5<(v4.Tasks.length:Int))) (cond (decide ((Int.toNat v5)<(v4.Tasks).length)) (let e10:=(List.set v4.Tasks (Int.toNat v5) (⟨(AK r9.1).No,(AK r9.1).Class,(AK r9.1).Cpu,(AK r9.1).State,(!r6.1),(AK r9.1).Q,(AK r9.1).P,(AK r9.1).Left,(AK r9.1).Due,(AK r9.1).Prio,(AK r9.1).Round,(AK r9.1).Seq,(AK r9.1).Nice,(AK r9.1).V⟩:Task));Fm n m0 v2 (⟨v3.Now,v3.Cpus,[],[],[],[],v3.Seq,v3.Missed,[]⟩:Sys) (⟨v4.Now,v4.Cpus,e10,v4.Locks,v4.Ghosts,v4.Floors,v4.Seq,v4.Missed,v4.Trace⟩:Sys) (w64 (v5+1)) k0_0) none) none) none) (cond (decide (0≤v5)&&decide (v5<(v4.Tasks.length:Int))) (cond (decide ((Int.toNat v5)<(v4.Tasks).length)) (let e11:=(List.set v4.Tasks (Int.toNat v5) (⟨(List.getD v2.Tasks (Int.toNat v5) (Kd.dflt .task)).No,(List.getD v2.Tasks (Int.toNat v5) (Kd.dflt .task)).Class,(List.getD v2.Tasks (Int.toNat v5) (Kd.dflt .task)).Cpu,(List.getD v2.Tasks (Int.toNat v5) (Kd.dflt .task)).State,(!r6.1),(List.getD v2.Tasks (Int.toNat v5) (Kd.dflt .task)).Q,(List.getD v2.Tasks (Int.toNat v5) (Kd.dflt .task)).P,(List.getD v2.Tasks (Int.toNat v5) (Kd.dflt .task)).Left,(List.getD v2.Tasks (Int.toNat v5) (Kd.dflt .task)).Due,(List.getD v2.Tasks (Int.toNat v5) (Kd.dflt .task)).Prio,(List.getD v2.Tasks (Int.toNat v5) (Kd.dflt .task)).Round,(List.getD v2.Tasks (Int.toNat v5) (Kd.dflt .task)).Seq,(List.getD v2.Tasks (Int.toNat v5) (Kd.dflt .task)).Nice,(List.getD v2.Tasks (Int.toNat v5) (Kd.dflt .task)).V⟩:Task));Fm n m0 v2 (⟨v3.Now,v3.Cpus,[],[],[],[],v3.Seq,v3.Missed,[]⟩:Sys) (⟨v4.Now,v4.Cpus,e11,v4.Locks,v4.Ghosts,v4.Floors,v4.Seq,v4.Missed,v4.Trace⟩:Sys) (w64 (v5+1)) k0_0) none) none)) (cond (decide (0≤v5)&&decide (v5<(v4.Tasks.length:Int))) (cond (decide ((Int.toNat v5)<(v4.Tasks).length)) (let e12:=(List.set v4.Tasks (Int.toNat v5) (⟨(List.getD v2.Tasks (Int.toNat v5) (Kd.dflt .task)).No,(List.getD v2.Tasks (Int.toNat v5) (Kd.dflt .task)).Class,(List.getD v2.Tasks (Int.toNat v5) (Kd.dflt .task)).Cpu,(List.getD v2.Tasks (Int.toNat v5) (Kd.dflt .task)).State,(!r6.1),(List.getD v2.Tasks (Int.toNat v5) (Kd.dflt .task)).Q,(List.getD v2.Tasks (Int.toNat v5) (Kd.dflt .task)).P,(List.getD v2.Tasks (Int.toNat v5) (Kd.dflt .task)).Left,(List.getD v2.Tasks (Int.toNat v5) (Kd.dflt .task)).Due,(List.getD v2.Tasks (Int.toNat v5) (Kd.dflt .task)).Prio,(List.getD v2.Tasks (Int.toNat v5) (Kd.dflt .task)).Round,(List.getD v2.Tasks (Int.toNat v5) (Kd.dflt .task)).Seq,(List.getD v2.Tasks (Int.toNat v5) (Kd.dflt .task)).Nice,(List.getD v2.Tasks (Int.toNat v5) (Kd.dflt .task)).V⟩:Task));Fm n m0 v2 (⟨v3.Now,v3.Cpus,[],[],[],[],v3.Seq,v3.Missed,[]⟩:Sys) (⟨v4.Now,v4.Cpus,e12,v4.Locks,v4.Ghosts,v4.Floors,v4.Seq,v4.Missed,v4.Trace⟩:Sys) (w64 (v5+1)) k0_0) none) none)) none) (k0_0 v4.Tasks)
def GU(n:Nat)(a0:Sys):Option (Ah×Unit):=(FN n a0).bind fun r1=>Fm n n a0 (⟨0,0,[],[],[],[],0,0,[]⟩:Sys) (AC r1.1) 0 (fun w13=>some ((AA (⟨(AC r1.1).Now,(AC r1.1).Cpus,w13,(AC r1.1).Locks,(AC r1.1).Ghosts,(AC r1.1).Floors,(AC r1.1).Seq,(AC r1.1).Missed,(AC r1.1).Trace⟩:Sys)),()))
def jH(n:Nat):Rw:=⟨51,pV [Ae],q60,fun x=>GU n (AX x.1)⟩
def mI(n:Nat):LS:=AI ⟨3,[1,2,3,4],[],[8],[2,3],([1,2,3,4,5,6,7,8])⟩ 54 [1,2,3,4] 111111113 (pD [.ptr 0 0,.ptr 1 0,.ptr 7 0,.int]) [.box Af,q64,.root .task,.root .lock,.root .ghost,.root .int,.root .turn,(.box (pD [.int,.int,.bor 2,.bor 3,.bor 4,.bor 5,.int,.int,.bor 6]))] (fun m x k=>Fm n m (AX x.2.1) (⟨x.2.2.1.1,x.2.2.1.2.1,[],[],[],[],x.2.2.1.2.2.2.2.2.2.1,x.2.2.1.2.2.2.2.2.2.2.1,[]⟩:Sys) (⟨x.2.2.2.2.2.2.2.2.1.1,x.2.2.2.2.2.2.2.2.1.2.1,x.2.2.2.1,x.2.2.2.2.1,x.2.2.2.2.2.1,x.2.2.2.2.2.2.1,x.2.2.2.2.2.2.2.2.1.2.2.2.2.2.2.1,x.2.2.2.2.2.2.2.2.1.2.2.2.2.2.2.2.1,x.2.2.2.2.2.2.2.1⟩:Sys) x.1.2.2.2.1 (fun w0=>k (.exit 0) (eS 54 [2,3] [.ptr 1 0,.ptr 7 0] 411111113 [DE.make q64 x.2.2.1,.root .task w0 .ok,.root .lock x.2.2.2.2.1 .ok,.root .ghost x.2.2.2.2.2.1 .ok,.root .int x.2.2.2.2.2.2.1 .ok,.root .turn x.2.2.2.2.2.2.2.1 .ok,DE.make (.box (pD [.int,.int,.bor 2,.bor 3,.bor 4,.bor 5,.int,.int,.bor 6])) x.2.2.2.2.2.2.2.2.1])))
theorem Ua(n:Nat):RO (jH n):=
 rL ⟨Go.Proofs.Tryz.f51,⟨[(0,[(0,.slot 0 .int),(1,.slot 1 .int)]),(1,[(1,q62),(2,.slot 7 .int)]),(5,[(5,.slot 8 .int)]),(6,[(6,cl 3 .bool 0)]),(9,[(3,q61),(10,q61)])],[(9,dr 12 [(0,[8],[]),(1,[0],[]),(2,[0],[]),(4,[0],[]),(5,[0],[]),(6,[8],[]),(7,[8],[]),(11,[8],[8])])],[]⟩,9⟩ [mI n] n (ec (KQ n) (ec (Ue n) (ec hZ (ec iK en)))) Go.Proofs.Tryz.func51 (by kernel_rfl) ⟨AJ (fun m x k=>by kernel_rfl) (fun _ _=>rfl),trivial⟩ (fun x=>by kernel_rfl)
def Mh(n:Nat)(a0:List Task)(a1:List Lock)(a2:Int):Option (Bool×Unit):=(Jw n a0 a1 a2).bind fun r1=>cond (!r1.1) (some (false,())) ((CF n a0 a2).bind fun r2=>cond (decide (0≤r2.1)&&decide (r2.1<(a0.length:Int))) (let e3:=(!(decide ((List.getD a0 (Int.toNat r2.1) (Kd.dflt .task)).Class=1)));cond e3 (some (true,())) (let e4:=(decide (0<(List.getD a0 (Int.toNat r2.1) (Kd.dflt .task)).Left));some (e4,()))) none)
def jv(n:Nat):Rw:=⟨167,pV [.ro .task,.ro .lock,.int],pS [.bool],fun x=>Mh n x.1.2 x.2.1.2 x.2.2.1⟩
theorem jw(n:Nat):RO (jv n):=
 rE ⟨Go.Proofs.Tryz.f167,⟨[(1,[(3,cl 3 .bool 0)]),(3,[(3,cl 2 .int 0),(6,.slot 0 .int)])],[],[]⟩,1⟩ n (ec (Ue n) (ec (Gu n) en)) Go.Proofs.Tryz.func167 (by kernel_rfl) (fun x=>by kernel_rfl)
def Ol(a0:Task)(a1:Task):Option (Bool×Unit):=(EV a0).bind fun r1=>cond (!r1.1) (some (false,())) ((EV a1).bind fun r2=>cond (!r2.1) (some (false,())) (cond (decide (a0.Due<a1.Due)) (some (true,())) (cond (decide (a0.Due=a1.Due)) (some ((decide (a0.No<a1.No)),())) (some (false,())))))
def g8:Rw:=⟨207,pV [Ac,Ac],pS [.bool],fun x=>Ol (AK x.1) (AK x.2.1)⟩
theorem g9:RO (g8):=
 rE ⟨Go.Proofs.Tryz.f207,⟨[(0,[(0,.slot 0 .int),(1,.slot 1 .int)]),(1,[(1,cl 1 .bool 0),(5,cl 1 .bool 0)])],[],[]⟩,2⟩ 0 (ec NP en) Go.Proofs.Tryz.func207 (by kernel_rfl) (fun x=>by kernel_rfl)
def GW(a0:Task):Option (Bool×Unit):=(Dp a0).bind fun r1=>cond r1.1 (some ((decide (a0.Class=2)),())) (some (false,()))
def jg:Rw:=⟨170,pV [Ac],pS [.bool],fun x=>GW (AK x.1)⟩
theorem Ub:RO (jg):=
 rE ⟨Go.Proofs.Tryz.f170,⟨[(0,[(0,.slot 0 .int)]),(1,[(1,cl 1 .bool 0)])],[],[]⟩,1⟩ 0 (ec Il en) Go.Proofs.Tryz.func170 (by kernel_rfl) (fun x=>by kernel_rfl)
def On(a0:Task)(a1:Task):Option (Bool×Unit):=(GW a0).bind fun r1=>cond (!r1.1) (some (false,())) ((GW a1).bind fun r2=>cond (!r2.1) (some (false,())) (cond (!(decide (a0.Prio=a1.Prio))) (some ((decide (a1.Prio<a0.Prio)),())) (cond (!(decide (a0.Seq=a1.Seq))) (some ((decide (a0.Seq<a1.Seq)),())) (some ((decide (a0.No<a1.No)),())))))
def iM:Rw:=⟨208,pV [Ac,Ac],pS [.bool],fun x=>On (AK x.1) (AK x.2.1)⟩
theorem iN:RO (iM):=
 rE ⟨Go.Proofs.Tryz.f208,⟨[(0,[(0,.slot 0 .int),(1,.slot 1 .int)]),(1,[(1,cl 1 .bool 0),(5,cl 1 .bool 0)])],[],[]⟩,2⟩ 0 (ec Ub en) Go.Proofs.Tryz.func208 (by kernel_rfl) (fun x=>by kernel_rfl)
def Om(a0:Task)(a1:Task):Option (Bool×Unit):=(DX a0).bind fun r1=>cond (!r1.1) (some (false,())) ((DX a1).bind fun r2=>cond (!r2.1) (some (false,())) (cond (decide (a0.V<a1.V)) (some (true,())) (cond (decide (a0.V=a1.V)) (some ((decide (a0.No<a1.No)),())) (some (false,())))))
def iA:Rw:=⟨209,pV [Ac,Ac],pS [.bool],fun x=>Om (AK x.1) (AK x.2.1)⟩
theorem iB:RO (iA):=
 rE ⟨Go.Proofs.Tryz.f209,⟨[(0,[(0,.slot 0 .int),(1,.slot 1 .int)]),(1,[(1,cl 1 .bool 0),(5,cl 1 .bool 0)])],[],[]⟩,2⟩ 0 (ec Im en) Go.Proofs.Tryz.func209 (by kernel_rfl) (fun x=>by kernel_rfl)
def GO(a0:Task)(a1:Task):Option (Bool×Unit):=(Dp a0).bind fun r1=>cond (!r1.1) (some (false,())) ((Dp a1).bind fun r2=>cond (!r2.1) (some (false,())) (cond (!(decide (a0.Class=a1.Class))) (some ((decide (a0.Class<a1.Class)),())) ((Ol a0 a1).bind fun r3=>cond r3.1 (some (true,())) ((On a0 a1).bind fun r4=>cond r4.1 (some (true,())) ((Om a0 a1).bind fun r5=>some (r5.1,()))))))
def gw:Rw:=⟨168,pV [Ac,Ac],pS [.bool],fun x=>GO (AK x.1) (AK x.2.1)⟩
theorem UT:RO (gw):=
 rE ⟨Go.Proofs.Tryz.f168,⟨[(0,[(0,.slot 0 .int),(1,.slot 1 .int)]),(1,[(1,cl 1 .bool 0),(5,cl 1 .bool 0)]),(5,[(2,cl 2 .bool 0),(6,cl 2 .bool 0),(11,cl 2 .bool 0)])],[],[]⟩,2⟩ 0 (ec Il (ec g9 (ec iN (ec iB en)))) Go.Proofs.Tryz.func168 (by kernel_rfl) (fun x=>by kernel_rfl)
def D9{α:Type}(n:Nat):Nat→List Task→List Lock→Int→Int→Int→(Int→Option α)→Option α|0,_,_,_,_,_,_=>none|m0+1,v1,v2,v3,v4,v5,k0_0=>cond (decide (v5<(v1.length:Int))) (cond (decide (0≤v5)&&decide (v5<(v1.length:Int))) (let e6:=(decide ((List.getD v1 (Int.toNat v5) (Kd.dflt .task)).Cpu=v3));cond e6 (cond (decide (0≤v5)&&decide (v5<(v1.length:Int))) ((Mh n v1 v2 ((List.getD v1 (Int.toNat v5) (Kd.dflt .task)).No)).bind fun r7=>cond r7.1 (cond (decide (v4<0)) (D9 n m0 v1 v2 v3 v5 (w64 (v5+1)) k0_0) (cond (decide (0≤v5)&&decide (v5<(v1.length:Int))) (cond (decide (0≤v4)&&decide (v4<(v1.length:Int))) ((GO (List.getD v1 (Int.toNat v5) (Kd.dflt .task)) (List.getD v1 (Int.toNat v4) (Kd.dflt .task))).bind fun r8=>cond r8.1 (D9 n m0 v1 v2 v3 v5 (w64 (v5+1)) k0_0) (D9 n m0 v1 v2 v3 v4 (w64 (v5+1)) k0_0)) none) none)) (D9 n m0 v1 v2 v3 v4 (w64 (v5+1)) k0_0)) none) (D9 n m0 v1 v2 v3 v4 (w64 (v5+1)) k0_0)) none) (k0_0 v4)
def Mi(n:Nat)(a0:List Task)(a1:List Lock)(a2:Int):Option (Int×Unit):=D9 n n a0 a1 a2 (-1) 0 (fun w9=>some (w9,()))
def jy(n:Nat):Rw:=⟨115,pV [.ro .task,.ro .lock,.int],pS [.int],fun x=>Mi n x.1.2 x.2.1.2 x.2.2.1⟩
def mU(n:Nat):LS:=AI ⟨3,([0,1,2,7,8]),[],[],[7],[]⟩ 49 [0,1,2,7,8] 0 (pD [.ro .task,.ro .lock,.int,.int,.int]) [] (fun m x k=>D9 n m x.1.1.2 x.1.2.1.2 x.1.2.2.1 x.1.2.2.2.1 x.1.2.2.2.2.1 (fun w0=>k (.exit 0) (eS 49 [7] [.int w0] 0 [])))
theorem jz(n:Nat):RO (jy n):=
 rL ⟨Go.Proofs.Tryz.f115,⟨[(5,[(15,cl 3 .bool 0),(29,cl 2 .bool 0)])],[(5,dr 32 [])],[]⟩,0⟩ [mU n] n (ec (jw n) (ec UT en)) Go.Proofs.Tryz.func115 (by kernel_rfl) ⟨AJ (fun m x k=>by kernel_rfl) (fun _ _=>rfl),trivial⟩ (fun x=>by kernel_rfl)
def MB(a0:Task):Option (A8×Unit):=(EV a0).bind fun r1=>cond r1.1 (cond (decide (0<a0.Left)) (some ((AN (⟨a0.No,a0.Class,a0.Cpu,a0.State,a0.Idle,a0.Q,a0.P,(w64 (a0.Left-1)),a0.Due,a0.Prio,a0.Round,a0.Seq,a0.Nice,a0.V⟩:Task)),())) (some ((AN a0),()))) (some ((AN a0),()))
def hO:Rw:=⟨119,pV [Ac],pS [.agg q0],fun x=>MB (AK x.1)⟩
theorem hU:RO (hO):=
 rE ⟨Go.Proofs.Tryz.f119,⟨[(0,[(0,.slot 0 .int),(1,.slot 1 .int)]),(1,[(1,cl 1 .bool 0)])],[],[]⟩,2⟩ 0 (ec NP en) Go.Proofs.Tryz.func119 (by kernel_rfl) (fun x=>by kernel_rfl)
def RR(a0:Int):Option (Int×Unit):=(GR a0).bind fun r1=>cond (!r1.1) (some (0,())) (cond ((decide (0≤(w64 (a0+4))))&&(decide ((w64 (a0+4))<((([24,16,12,8,6,4,3,2,1]:List Int)).length:Int)))) (let e2:=(List.getD ([24,16,12,8,6,4,3,2,1]:List Int) (Int.toNat (w64 (a0+4))) (Kd.dflt .int));some (e2,())) none)
def jD:Rw:=⟨210,pV [.int],pS [.int],fun x=>RR x.1⟩
theorem jE:RO (jD):=
 rE ⟨Go.Proofs.Tryz.f210,⟨[(1,[(1,cl 1 .bool 0)]),(3,[(0,.slot 0 .int)])],[],[]⟩,1⟩ 0 (ec NM en) Go.Proofs.Tryz.func210 (by kernel_rfl) (fun x=>by kernel_rfl)
def MQ(a0:Int):Option (Int×Unit):=(GR a0).bind fun r1=>cond (!r1.1) (some (0,())) ((RR a0).bind fun r2=>cond (decide (r2.1=0)) none (some ((w64 (Int.tdiv 48 r2.1)),())))
def io:Rw:=⟨171,pV [.int],pS [.int],fun x=>MQ x.1⟩
theorem ip:RO (io):=
 rE ⟨Go.Proofs.Tryz.f171,⟨[(1,[(1,cl 1 .bool 0)]),(3,[(1,cl 1 .int 0)])],[],[]⟩,0⟩ 0 (ec NM (ec jE en)) Go.Proofs.Tryz.func171 (by kernel_rfl) (fun x=>by kernel_rfl)
def ME(a0:Task):Option (A8×Unit):=(DX a0).bind fun r1=>cond (!r1.1) (some ((AN a0),())) ((MQ a0.Nice).bind fun r2=>(Jv a0 (w64 (a0.V+r2.1))).bind fun r3=>some ((AN (AK r3.1)),()))
def iF:Rw:=⟨118,pV [Ac],pS [.agg q0],fun x=>ME (AK x.1)⟩
theorem iG:RO (iF):=
 rE ⟨Go.Proofs.Tryz.f118,⟨[(0,[(0,.slot 0 .int),(1,.slot 1 .int)]),(1,[(1,cl 1 .bool 0)]),(3,[(5,cl 1 .int 0),(7,q61)])],[(3,dr 9 [(0,[0],[]),(1,[0],[]),(2,[0],[]),(3,[0],[]),(4,[0],[]),(8,[1],[1])])],[]⟩,2⟩ 0 (ec Im (ec ip (ec Uc en))) Go.Proofs.Tryz.func118 (by kernel_rfl) (fun x=>by kernel_rfl)
def MH(a0:Task)(a1:Int):Option ((A8×Bool×Unit)×Unit):=(GW a0).bind fun r1=>cond (!r1.1) (some (((AN a0),false,()),())) (cond (decide (a0.Round=0)) (some (((AN a0),false,()),())) (cond (decide (1<a0.Left)) (some (((AN (⟨a0.No,a0.Class,a0.Cpu,a0.State,a0.Idle,a0.Q,a0.P,(w64 (a0.Left-1)),a0.Due,a0.Prio,a0.Round,a0.Seq,a0.Nice,a0.V⟩:Task)),false,()),())) ((Ag a1 0 1000000).bind fun r2=>cond (!r2.1) (some (((AN a0),false,()),())) (some (((AN (⟨a0.No,a0.Class,a0.Cpu,a0.State,a0.Idle,a0.Q,a0.P,a0.Round,a0.Due,a0.Prio,a0.Round,a1,a0.Nice,a0.V⟩:Task)),true,()),())))))
def iO:Rw:=⟨117,pV [Ac,.int],q68,fun x=>MH (AK x.1) x.2.1⟩
theorem iP:RO (iO):=
 rE ⟨Go.Proofs.Tryz.f117,⟨[(0,[(0,.slot 0 .int),(1,.slot 1 .int)]),(1,[(1,cl 1 .bool 0)]),(6,[(1,cl 3 .bool 0)])],[],[]⟩,2⟩ 0 (ec Ub (ec Bi en)) Go.Proofs.Tryz.func117 (by kernel_rfl) (fun x=>by kernel_rfl)
def Ju(n:Nat)(a0:Sys)(a1:Int):Option (Ah×Unit):=(Mi n a0.Tasks a0.Locks a1).bind fun r1=>cond (decide (0≤r1.1)) (cond (decide (0≤r1.1)&&decide (r1.1<(a0.Tasks.length:Int))) ((Jx n a0.Tasks a0.Locks ((List.getD a0.Tasks (Int.toNat r1.1) (Kd.dflt .task)).No)).bind fun r2=>(MB (List.getD a0.Tasks (Int.toNat r1.1) (Kd.dflt .task))).bind fun r3=>(ME (AK r3.1)).bind fun r4=>(MH (AK r4.1) (w64 (a0.Seq+1))).bind fun r5=>cond r5.1.2.1 (cond (decide (0≤r1.1)&&decide (r1.1<(a0.Tasks.length:Int))) (cond (decide ((Int.toNat r1.1)<(a0.Tasks).length)) (let e6:=([(⟨a1,(List.getD a0.Tasks (Int.toNat r1.1) (Kd.dflt .task)).No,r2.1⟩:Turn)]:List Turn);cond (decide ((a0.Trace).length+(e6).length≤lim)) (some ((AA (⟨a0.Now,a0.Cpus,(List.set a0.Tasks (Int.toNat r1.1) (AK r5.1.1)),a0.Locks,a0.Ghosts,a0.Floors,(w64 (a0.Seq+1)),a0.Missed,(a0.Trace++e6)⟩:Sys)),())) none) none) none) (cond (decide (0≤r1.1)&&decide (r1.1<(a0.Tasks.length:Int))) (cond (decide ((Int.toNat r1.1)<(a0.Tasks).length)) (let e7:=([(⟨a1,(List.getD a0.Tasks (Int.toNat r1.1) (Kd.dflt .task)).No,r2.1⟩:Turn)]:List Turn);cond (decide ((a0.Trace).length+(e7).length≤lim)) (some ((AA (⟨a0.Now,a0.Cpus,(List.set a0.Tasks (Int.toNat r1.1) (AK r5.1.1)),a0.Locks,a0.Ghosts,a0.Floors,a0.Seq,a0.Missed,(a0.Trace++e7)⟩:Sys)),())) none) none) none)) none) (cond (decide ((a0.Trace).length+(([(⟨a1,0,0⟩:Turn)]:List Turn)).length≤lim)) (some ((AA (⟨a0.Now,a0.Cpus,a0.Tasks,a0.Locks,a0.Ghosts,a0.Floors,a0.Seq,a0.Missed,(a0.Trace++([(⟨a1,0,0⟩:Turn)]:List Turn))⟩:Sys)),())) none)
def jG(n:Nat):Rw:=⟨53,pA [.agg (pA [.v .int,.v .int,.own .task,.own .lock,.own .ghost,.own .int,.v .int,.v .int,.own .turn]),.v .int],q60,fun x=>Ju n (AC x.1) x.2.1⟩
theorem UZ(n:Nat):RO (jG n):=
 rE ⟨Go.Proofs.Tryz.f53,⟨[(0,[(0,.slot 5 .int),(1,.slot 6 .int)]),(1,[(5,cl 3 .int 0)]),(2,[(2,.slot 7 .int)]),(4,[(5,.slot 8 .int)]),(6,[(6,cl 3 .int 0)]),(7,[(1,q1),(2,q1),(6,q69),(10,.slot 9 .int)]),(11,[(3,.slot 10 .turn),(4,.slot 11 .turn)])],[(7,dr 13 [(0,[8],[]),(3,[5],[]),(4,[5],[]),(10,[9],[9]),(11,[9],[9])])],[]⟩,12⟩ n (ec (jz n) (ec (Uf n) (ec hU (ec iG (ec iP en))))) Go.Proofs.Tryz.func53 (by kernel_rfl) (fun x=>by kernel_rfl)
def Fg{α:Type}(n:Nat):Nat→Sys→Sys→Sys→Int→(List Ghost→Option α)→Option α|0,_,_,_,_,_=>none|m0+1,v3,v4,v5,v6,k0_0=>cond (decide (v6<(v3.Ghosts.length:Int))) (cond (decide (0≤v6)&&decide (v6<(v3.Ghosts.length:Int))) (let e7:=(decide (v3.Now<(List.getD v3.Ghosts (Int.toNat v6) (Kd.dflt .ghost)).Until));cond e7 (cond (decide (0≤v6)&&decide (v6<(v3.Ghosts.length:Int))) (let e8:=([(List.getD v3.Ghosts (Int.toNat v6) (Kd.dflt .ghost))]:List Ghost);cond (decide ((v5.Ghosts).length+(e8).length≤lim)) (Fg n m0 v3 (⟨v4.Now,v4.Cpus,[],[],[],[],v4.Seq,v4.Missed,[]⟩:Sys) (⟨v5.Now,v5.Cpus,v5.Tasks,v5.Locks,(v5.Ghosts++e8),v5.Floors,v5.Seq,v5.Missed,v5.Trace⟩:Sys) (w64 (v6+1)) k0_0) none) none) (Fg n m0 v3 (⟨v4.Now,v4.Cpus,[],[],[],[],v4.Seq,v4.Missed,[]⟩:Sys) v5 (w64 (v6+1)) k0_0)) none) (k0_0 v5.Ghosts)
def Da{α:Type}(n:Nat):Nat→Sys→Sys→Sys→Int→(List Task→Int→Option α)→Option α|0,_,_,_,_,_=>none|m1+1,v10,v11,v12,v13,k1_0=>cond (decide (v13<(v12.Tasks.length:Int))) (cond (decide (0≤v13)&&decide (v13<(v12.Tasks.length:Int))) (let e14:=(!(decide ((List.getD v12.Tasks (Int.toNat v13) (Kd.dflt .task)).Class=1)));cond e14 (Da n m1 v10 (⟨v11.Now,v11.Cpus,[],[],[],[],v11.Seq,v11.Missed,[]⟩:Sys) v12 (w64 (v13+1)) k1_0) (cond ((List.getD v12.Tasks (Int.toNat v13) (Kd.dflt .task)).Idle) (Da n m1 v10 (⟨v11.Now,v11.Cpus,[],[],[],[],v11.Seq,v11.Missed,[]⟩:Sys) v12 (w64 (v13+1)) k1_0) (let e15:=(decide (v10.Now<(List.getD v12.Tasks (Int.toNat v13) (Kd.dflt .task)).Due));cond e15 (Da n m1 v10 (⟨v11.Now,v11.Cpus,[],[],[],[],v11.Seq,v11.Missed,[]⟩:Sys) v12 (w64 (v13+1)) k1_0) (let e16:=(decide (0<(List.getD v12.Tasks (Int.toNat v13) (Kd.dflt .task)).Left));cond e16 ((GV (w64 (v12.Missed+1)) 100000).bind fun r17=>(GP (List.getD v12.Tasks (Int.toNat v13) (Kd.dflt .task)) v10.Now).bind fun r18=>cond (decide (0≤v13)&&decide (v13<(v12.Tasks.length:Int))) (cond (decide ((Int.toNat v13)<(v12.Tasks).length)) (Da n m1 v10 (⟨v11.Now,v11.Cpus,[],[],[],[],v11.Seq,v11.Missed,[]⟩:Sys) (⟨v12.Now,v12.Cpus,(List.set v12.Tasks (Int.toNat v13) (AK r18.1)),v12.Locks,v12.Ghosts,v12.Floors,v12.Seq,r17.1,v12.Trace⟩:Sys) (w64 (v13+1)) k1_0) none) none) ((GP (List.getD v12.Tasks (Int.toNat v13) (Kd.dflt .task)) v10.Now).bind fun r19=>cond (decide (0≤v13)&&decide (v13<(v12.Tasks.length:Int))) (cond (decide ((Int.toNat v13)<(v12.Tasks).length)) (Da n m1 v10 (⟨v11.Now,v11.Cpus,[],[],[],[],v11.Seq,v11.Missed,[]⟩:Sys) (⟨v12.Now,v12.Cpus,(List.set v12.Tasks (Int.toNat v13) (AK r19.1)),v12.Locks,v12.Ghosts,v12.Floors,v12.Seq,v12.Missed,v12.Trace⟩:Sys) (w64 (v13+1)) k1_0) none) none))))) none) (k1_0 v12.Tasks v12.Missed)
def IM{α:Type}(n:Nat):Nat→Sys→Sys→Int→(List Int→Option α)→Option α|0,_,_,_,_=>none|m2+1,v23,v24,v25,k2_0=>cond (decide (v25<v24.Cpus)) ((HV n v24 v25).bind fun r26=>cond (decide (0≤v25)&&decide (v25<(v24.Floors.length:Int))) ((Jr n r26.1 (List.getD v24.Floors (Int.toNat v25) (Kd.dflt .int))).bind fun r27=>cond (decide (0≤v25)&&decide (v25<(v24.Floors.length:Int))) (cond (decide ((Int.toNat v25)<(v24.Floors).length)) (IM n m2 (⟨v23.Now,v23.Cpus,[],[],[],[],v23.Seq,v23.Missed,[]⟩:Sys) (⟨v24.Now,v24.Cpus,v24.Tasks,v24.Locks,v24.Ghosts,(List.set v24.Floors (Int.toNat v25) r27.1),v24.Seq,v24.Missed,v24.Trace⟩:Sys) (w64 (v25+1)) k2_0) none) none) none) (k2_0 v24.Floors)
def Fj{α:Type}(n:Nat):Nat→Sys→Sys→Int→(Int→Int→Int→Int→List Task→List Lock→List Ghost→List Int→List Turn→Option α)→Option α|0,_,_,_,_=>none|m3+1,v29,v30,v31,k3_0=>cond (decide (v31<v30.Cpus)) ((Ju n v30 v31).bind fun r32=>Fj n m3 (⟨v29.Now,v29.Cpus,[],[],[],[],v29.Seq,v29.Missed,[]⟩:Sys) (AC r32.1) (w64 (v31+1)) k3_0) (k3_0 v30.Now v30.Cpus v30.Seq v30.Missed v30.Tasks v30.Locks v30.Ghosts v30.Floors v30.Trace)
def MT(n:Nat)(a0:Sys):Option ((Ah×Bool×Unit)×Unit):=(EU n a0).bind fun r1=>cond (!r1.1) (some (((AA (⟨0,0,[],[],[],[],0,0,[]⟩:Sys)),false,()),())) ((FN n a0).bind fun r2=>cond (decide (a0.Now=100000)) (some (((AA (AC r2.1)),false,()),())) (cond (decide (900000<a0.Seq)) (some (((AA (AC r2.1)),false,()),())) (cond (decide (400<(w64 ((a0.Trace.length:Int)+a0.Cpus)))) (some (((AA (AC r2.1)),false,()),())) (Fg n n a0 (⟨0,0,[],[],[],[],0,0,[]⟩:Sys) (⟨(AC r2.1).Now,(AC r2.1).Cpus,(AC r2.1).Tasks,(AC r2.1).Locks,([]:List Ghost),(AC r2.1).Floors,(AC r2.1).Seq,(AC r2.1).Missed,(AC r2.1).Trace⟩:Sys) 0 (fun w9=>Da n n a0 (⟨0,0,[],[],[],[],0,0,[]⟩:Sys) (⟨(AC r2.1).Now,(AC r2.1).Cpus,(AC r2.1).Tasks,(AC r2.1).Locks,w9,(AC r2.1).Floors,(AC r2.1).Seq,(AC r2.1).Missed,(AC r2.1).Trace⟩:Sys) 0 (fun w20 w21=>(GU n (⟨(AC r2.1).Now,(AC r2.1).Cpus,w20,(AC r2.1).Locks,w9,(AC r2.1).Floors,(AC r2.1).Seq,w21,(AC r2.1).Trace⟩:Sys)).bind fun r22=>IM n n (⟨0,0,[],[],[],[],0,0,[]⟩:Sys) (AC r22.1) 0 (fun w28=>Fj n n (⟨0,0,[],[],[],[],0,0,[]⟩:Sys) (⟨(AC r22.1).Now,(AC r22.1).Cpus,(AC r22.1).Tasks,(AC r22.1).Locks,(AC r22.1).Ghosts,w28,(AC r22.1).Seq,(AC r22.1).Missed,(AC r22.1).Trace⟩:Sys) 0 (fun w33 w34 w35 w36 w37 w38 w39 w40 w41=>some (((AA (⟨(w64 (w33+1)),w34,w37,w38,w39,w40,w35,w36,w41⟩:Sys)),true,()),())))))))))
def iy(n:Nat):Rw:=⟨12,pV [Ae],q73,fun x=>MT n (AX x.1)⟩
def l4(n:Nat):LS:=AI ⟨8,[1,2,4,5],[(.c 7 4,8,.ghost)],[9,10],[1,2,4],q74⟩ 138 [1,2,4,5] 111141111333333333333333333 (pD [.ptr 0 0,.ptr 1 0,.ptr 7 0,.int]) [.box Af,q64,.root .task,.root .lock,.root .int,.root .turn,q75,.root .ghost] (fun m x k=>Fg n m (AX x.2.1) (⟨x.2.2.1.1,x.2.2.1.2.1,[],[],[],[],x.2.2.1.2.2.2.2.2.2.1,x.2.2.1.2.2.2.2.2.2.2.1,[]⟩:Sys) (⟨x.2.2.2.2.2.2.2.1.1,x.2.2.2.2.2.2.2.1.2.1,x.2.2.2.1,x.2.2.2.2.1,x.2.2.2.2.2.2.2.2.1,x.2.2.2.2.2.1,x.2.2.2.2.2.2.2.1.2.2.2.2.2.2.1,x.2.2.2.2.2.2.2.1.2.2.2.2.2.2.2.1,x.2.2.2.2.2.2.1⟩:Sys) x.1.2.2.2.1 (fun w0=>k (.exit 0) (eS 138 [1,2,4] [.ptr 0 0,.ptr 1 0,.ptr 7 0] 111141111333333333333333333 [.box (Af.make x.2.1),DE.make q64 x.2.2.1,.root .task x.2.2.2.1 .ok,.root .lock x.2.2.2.2.1 .ok,.root .int x.2.2.2.2.2.1 .ok,.root .turn x.2.2.2.2.2.2.1 .ok,DE.make q75 x.2.2.2.2.2.2.2.1,.root .ghost w0 .ok])))
def l5(n:Nat):LS:=AI ⟨13,[1,2,4,6],[],[11],[2,4],q76⟩ 138 [1,2,4,6] 111141111333333333333333333 (pD [.ptr 0 0,.ptr 1 0,.ptr 7 0,.int]) [.box Af,q64,.root .task,.root .lock,.root .int,.root .turn,q75,.root .ghost] (fun m x k=>Da n m (AX x.2.1) (⟨x.2.2.1.1,x.2.2.1.2.1,[],[],[],[],x.2.2.1.2.2.2.2.2.2.1,x.2.2.1.2.2.2.2.2.2.2.1,[]⟩:Sys) (⟨x.2.2.2.2.2.2.2.1.1,x.2.2.2.2.2.2.2.1.2.1,x.2.2.2.1,x.2.2.2.2.1,x.2.2.2.2.2.2.2.2.1,x.2.2.2.2.2.1,x.2.2.2.2.2.2.2.1.2.2.2.2.2.2.1,x.2.2.2.2.2.2.2.1.2.2.2.2.2.2.2.1,x.2.2.2.2.2.2.1⟩:Sys) x.1.2.2.2.1 (fun w0 w1=>k (.exit 2) (eS 138 [2,4] [.ptr 1 0,.ptr 7 0] 411141111333333333333333333 [DE.make q64 x.2.2.1,.root .task w0 .ok,.root .lock x.2.2.2.2.1 .ok,.root .int x.2.2.2.2.2.1 .ok,.root .turn x.2.2.2.2.2.2.1 .ok,.box [.int x.2.2.2.2.2.2.2.1.1,.int x.2.2.2.2.2.2.2.1.2.1,.bor 2,.bor 3,.bor 8,.bor 5,.int x.2.2.2.2.2.2.2.1.2.2.2.2.2.2.1,.int w1,.bor 6],.root .ghost x.2.2.2.2.2.2.2.2.1 .ok])))
def mA(n:Nat):LS:=AI ⟨22,[2,4,8],[],[],[2,4],q77⟩ 138 [2,4,8] 414444414333111113333333333 (pD [.ptr 1 0,.ptr 7 0,.int]) [q64,q78,.root .task,.root .lock,.root .ghost,.root .int,.root .turn] (fun m x k=>IM n m (⟨x.2.1.1,x.2.1.2.1,[],[],[],[],x.2.1.2.2.2.2.2.2.1,x.2.1.2.2.2.2.2.2.2.1,[]⟩:Sys) (⟨x.2.2.1.1,x.2.2.1.2.1,x.2.2.2.1,x.2.2.2.2.1,x.2.2.2.2.2.1,x.2.2.2.2.2.2.1,x.2.2.1.2.2.2.2.2.2.1,x.2.2.1.2.2.2.2.2.2.2.1,x.2.2.2.2.2.2.2.1⟩:Sys) x.1.2.2.1 (fun w0=>k (.exit 4) (eS 138 [2,4] [.ptr 1 0,.ptr 7 0] 414444414333111113333333333 [DE.make q64 x.2.1,DE.make q78 x.2.2.1,.root .task x.2.2.2.1 .ok,.root .lock x.2.2.2.2.1 .ok,.root .ghost x.2.2.2.2.2.1 .ok,.root .int w0 .ok,.root .turn x.2.2.2.2.2.2.2.1 .ok])))
def mB(n:Nat):LS:=AI ⟨26,[2,4,9],[(.c 7 2,17,.task),(.c 7 3,18,.lock),(.c 7 4,19,.ghost),(.c 7 5,20,.int),(.c 7 8,21,.turn)],q79,[2,4],q80⟩ 138 [2,4,9] 414444414333444441111133333 (pD [.ptr 1 0,.ptr 7 0,.int]) [q64,q81,.root .task,.root .lock,.root .ghost,.root .int,.root .turn] (fun m x k=>Fj n m (⟨x.2.1.1,x.2.1.2.1,[],[],[],[],x.2.1.2.2.2.2.2.2.1,x.2.1.2.2.2.2.2.2.2.1,[]⟩:Sys) (⟨x.2.2.1.1,x.2.2.1.2.1,x.2.2.2.1,x.2.2.2.2.1,x.2.2.2.2.2.1,x.2.2.2.2.2.2.1,x.2.2.1.2.2.2.2.2.2.1,x.2.2.1.2.2.2.2.2.2.2.1,x.2.2.2.2.2.2.2.1⟩:Sys) x.1.2.2.1 (fun w0 w1 w2 w3 w4 w5 w6 w7 w8=>k (.exit 6) (eS 138 [2,4] [.ptr 1 0,.ptr 7 0] 414444414333444441111133333 [DE.make q64 x.2.1,.box [.int w0,.int w1,.bor 17,.bor 18,.bor 19,.bor 20,.int w2,.int w3,.bor 21],.root .task w4 .ok,.root .lock w5 .ok,.root .ghost w6 .ok,.root .int w7 .ok,.root .turn w8 .ok])))
theorem i4(n:Nat):RO (iy n):=
 rL ⟨Go.Proofs.Tryz.f12,⟨[(0,[(0,.slot 0 .int),(1,.slot 1 .int)]),(1,[(1,cl 1 .bool 0)]),(3,[(1,q62),(2,.slot 7 .int)]),(11,[(7,.slot 9 .ghost),(8,.slot 10 .ghost)]),(15,[(5,.slot 11 .int)]),(18,[(3,cl 2 .int 0)]),(19,[(6,q61)]),(20,[(1,q70)]),(24,[(5,q38),(11,cl 2 .int 0)]),(28,[(2,q71)])],[(10,dr 9 [(0,[0],[]),(1,[0],[]),(6,[0],[]),(7,[0],[])]),(11,dr 11 [(0,[7],[]),(1,[7],[]),(2,[0],[]),(3,[0],[]),(7,[9],[9]),(8,[8,9,10],[8,10]),(9,[7],[]),(10,[7,10],[7])]),(19,dr 9 [(0,[7],[]),(1,[7],[]),(3,[11],[]),(4,[0],[]),(5,[0],[]),(7,[2],[]),(8,[2],[2])]),(24,dr 14 [(0,[7],[]),(1,[7],[]),(3,[7],[]),(5,[12,13,14,15,16],[]),(6,[7],[]),(7,[7],[]),(9,[15],[]),(10,[15],[]),(12,[15],[]),(13,[15],[15])])],[]⟩,27⟩ [l4 n,l5 n,mA n,mB n] n (ec (Ik n) (ec (KQ n) (ec P5 (ec UU (ec (Ua n) (ec (P4 n) (ec (UV n) (ec (UZ n) en)))))))) Go.Proofs.Tryz.func12 (by kernel_rfl) ⟨AJ (fun m x k=>by kernel_rfl) (fun _ _=>rfl),AJ (fun m x k=>by kernel_rfl) (fun _ _=>rfl),AJ (fun m x k=>by kernel_rfl) (fun _ _=>rfl),AJ (fun m x k=>by kernel_rfl) (fun _ _=>rfl),trivial⟩ (fun x=>by kernel_rfl)
end Go.Proofs.YtbbgaleennfklaaGreat.VR
end
section
set_option linter.unusedVariables false
set_option maxRecDepth 100000
namespace Go.Proofs.YtbbgaleennfklaaGreat.VR
open Go
def Oe(a0:List Int):Option (List Int×Unit):=cond (List.isEmpty a0) none (cond (decide ((([]:List Int)).length+(a0).length≤lim)) (some ((([]:List Int)++a0),())) none)
def fv:Rw:=⟨122,pV [.ro .int],q3,fun x=>Oe x.1.2⟩
theorem fw:RO (fv):=
 rE ⟨Go.Proofs.Tryz.f122,⟨[(3,[(0,.slot 0 .int),(2,.slot 1 .int)])],[],[]⟩,2⟩ 0 en Go.Proofs.Tryz.func122 (by kernel_rfl) (fun x=>by kernel_rfl)
def XY:Option (List Int×Unit):=some ([],())
def f0:Rw:=⟨122,pV [.em true],q3,fun x=>XY⟩
theorem gA:RO (f0):=
 rE ⟨Go.Proofs.Tryz.f122,⟨[],[],[]⟩,0⟩ 0 en Go.Proofs.Tryz.func122 (by kernel_rfl) (fun x=>by kernel_rfl)
def XX:Option (List Int×Unit):=cond (decide ((([]:List Int)).length+(([]:List Int)).length≤lim)) (some ((([]:List Int)++([]:List Int)),())) none
def ft:Rw:=⟨122,pV [.em false],q3,fun x=>XX⟩
theorem fu:RO (ft):=
 rE ⟨Go.Proofs.Tryz.f122,⟨[(3,[(0,.slot 0 .int),(2,.slot 1 .int)])],[],[]⟩,2⟩ 0 en Go.Proofs.Tryz.func122 (by kernel_rfl) (fun x=>by kernel_rfl)
def GL(a0:List Int):Option (List Int×Unit):=cond (decide ((a0).length≤lim)) (some (a0,())) none
def fr:Rw:=⟨122,(.pair (.v (.ro .int)) .one),(.pair (.own .int) .one),fun x=>GL x.1.2⟩
theorem NJ:RwOk Go.Proofs.Tryz.prog tyK fr:=Kr (k:=.int) (g:=Oe) fw gA fu (by intro xs h hl;simp[Oe,h,hl]) rfl rfl
def Hm{α:Type}(n:Nat):Nat→List Lock→List Lock→Int→Int→(List Lock→Option α)→Option α|0,_,_,_,_,_=>none|m0+1,v1,v2,v3,v4,k0_0=>cond (decide (v4<v3)) (cond (decide (0≤v4)&&decide (v4<(v2.length:Int))) ((GL ((List.getD v2 (Int.toNat v4) (Kd.dflt .lock)).Waits)).bind fun r5=>let e6:=([(⟨(List.getD v2 (Int.toNat v4) (Kd.dflt .lock)).Owner,r5.1⟩:Lock)]:List Lock);cond (decide ((v1).length+(e6).length≤lim)) (Hm n m0 (v1++e6) v2 v3 (w64 (v4+1)) k0_0) none) none) (k0_0 v1)
def LV(n:Nat)(a0:List Lock):Option (List Lock×Unit):=Hm n n ([]:List Lock) a0 (a0.length:Int) 0 (fun w7=>some (w7,()))
def cW(n:Nat):Rw:=⟨120,pV [.ro .lock],q7,fun x=>LV n x.1.2⟩
def kl(n:Nat):LS:=AI ⟨3,[3,6,7,8],[(.t 3,0,.lock)],[1,2,3,4],[3],q83⟩ 23 [3,6,7,8] 13333 (pD [.bor 0,.ro .lock,.int,.int]) [.root .lock] (fun m x k=>Hm n m x.2.1 x.1.2.1.2 x.1.2.2.1 x.1.2.2.2.1 (fun w0=>k (.exit 0) (eS 23 [3] [.bor 0] 13333 [.root .lock w0 .ok])))
theorem cY(n:Nat):RO (cW n):=
 rL ⟨Go.Proofs.Tryz.f120,⟨[(4,[(2,.slot 1 .int)]),(5,[(5,q82),(7,.slot 3 .lock),(8,.slot 4 .lock)])],[(5,dr 10 [(1,[1],[]),(2,[1],[]),(3,[1],[]),(4,[1],[]),(5,[2],[2]),(7,[2,3],[2,3]),(8,[0,3,4],[0,3,4])])],[]⟩,5⟩ [kl n] n (ec NJ en) Go.Proofs.Tryz.func120 (by kernel_rfl) ⟨AJ (fun m x k=>by kernel_rfl) (fun _ _=>rfl),trivial⟩ (fun x=>by kernel_rfl)
def Ob(a0:List Ghost):Option (List Ghost×Unit):=cond (List.isEmpty a0) none (cond (decide ((([]:List Ghost)).length+(a0).length≤lim)) (some ((([]:List Ghost)++a0),())) none)
def fU:Rw:=⟨121,pV [.ro .ghost],q13,fun x=>Ob x.1.2⟩
theorem fV:RO (fU):=
 rE ⟨Go.Proofs.Tryz.f121,⟨[(3,[(0,.slot 0 .ghost),(2,.slot 1 .ghost)])],[],[]⟩,2⟩ 0 en Go.Proofs.Tryz.func121 (by kernel_rfl) (fun x=>by kernel_rfl)
def XS:Option (List Ghost×Unit):=some ([],())
def fW:Rw:=⟨121,pV [.em true],q13,fun x=>XS⟩
theorem fX:RO (fW):=
 rE ⟨Go.Proofs.Tryz.f121,⟨[],[],[]⟩,0⟩ 0 en Go.Proofs.Tryz.func121 (by kernel_rfl) (fun x=>by kernel_rfl)
def XR:Option (List Ghost×Unit):=cond (decide ((([]:List Ghost)).length+(([]:List Ghost)).length≤lim)) (some ((([]:List Ghost)++([]:List Ghost)),())) none
def fS:Rw:=⟨121,pV [.em false],q13,fun x=>XR⟩
theorem fT:RO (fS):=
 rE ⟨Go.Proofs.Tryz.f121,⟨[(3,[(0,.slot 0 .ghost),(2,.slot 1 .ghost)])],[],[]⟩,2⟩ 0 en Go.Proofs.Tryz.func121 (by kernel_rfl) (fun x=>by kernel_rfl)
def Jm(a0:List Ghost):Option (List Ghost×Unit):=cond (decide ((a0).length≤lim)) (some (a0,())) none
def fR:Rw:=⟨121,(.pair (.v (.ro .ghost)) .one),(.pair (.own .ghost) .one),fun x=>Jm x.1.2⟩
theorem UQ:RwOk Go.Proofs.Tryz.prog tyK fR:=Kr (k:=.ghost) (g:=Ob) fV fX fT (by intro xs h hl;simp[Ob,h,hl]) rfl rfl
def Od(a0:List Turn):Option (List Turn×Unit):=cond (List.isEmpty a0) none (cond (decide ((([]:List Turn)).length+(a0).length≤lim)) (some ((([]:List Turn)++a0),())) none)
def fk:Rw:=⟨123,pV [.ro .turn],q17,fun x=>Od x.1.2⟩
theorem fm:RO (fk):=
 rE ⟨Go.Proofs.Tryz.f123,⟨[(3,[(0,.slot 0 .turn),(2,.slot 1 .turn)])],[],[]⟩,2⟩ 0 en Go.Proofs.Tryz.func123 (by kernel_rfl) (fun x=>by kernel_rfl)
def XW:Option (List Turn×Unit):=some ([],())
def fp:Rw:=⟨123,pV [.em true],q17,fun x=>XW⟩
theorem fq:RO (fp):=
 rE ⟨Go.Proofs.Tryz.f123,⟨[],[],[]⟩,0⟩ 0 en Go.Proofs.Tryz.func123 (by kernel_rfl) (fun x=>by kernel_rfl)
def XV:Option (List Turn×Unit):=cond (decide ((([]:List Turn)).length+(([]:List Turn)).length≤lim)) (some ((([]:List Turn)++([]:List Turn)),())) none
def fi:Rw:=⟨123,pV [.em false],q17,fun x=>XV⟩
theorem fj:RO (fi):=
 rE ⟨Go.Proofs.Tryz.f123,⟨[(3,[(0,.slot 0 .turn),(2,.slot 1 .turn)])],[],[]⟩,2⟩ 0 en Go.Proofs.Tryz.func123 (by kernel_rfl) (fun x=>by kernel_rfl)
def Jn(a0:List Turn):Option (List Turn×Unit):=cond (decide ((a0).length≤lim)) (some (a0,())) none
def fh:Rw:=⟨123,(.pair (.v (.ro .turn)) .one),(.pair (.own .turn) .one),fun x=>Jn x.1.2⟩
theorem UR:RwOk Go.Proofs.Tryz.prog tyK fh:=Kr (k:=.turn) (g:=Od) fm fq fj (by intro xs h hl;simp[Od,h,hl]) rfl rfl
def LW(n:Nat)(a0:Sys):Option (Ah×Unit):=(CE a0.Tasks).bind fun r1=>(LV n a0.Locks).bind fun r2=>(Jm a0.Ghosts).bind fun r3=>(GL a0.Floors).bind fun r4=>(Jn a0.Trace).bind fun r5=>some ((AA (⟨a0.Now,a0.Cpus,r1.1,r2.1,r3.1,r4.1,a0.Seq,a0.Missed,r5.1⟩:Sys)),())
def cZ(n:Nat):Rw:=⟨54,pV [Ae],q24,fun x=>LW n (AX x.1)⟩
theorem cd(n:Nat):RO (cZ n):=
 rE ⟨Go.Proofs.Tryz.f54,⟨[(0,[(0,.slot 0 .int),(1,.slot 1 .int)]),(1,[(2,q18),(5,q19),(8,q20),(11,q21),(14,q22)])],[(1,dr 25 [(0,[0],[]),(1,[0],[]),(3,[0],[]),(4,[0],[]),(6,[0],[]),(7,[0],[]),(9,[0],[]),(10,[0],[]),(12,[0],[]),(13,[0],[]),(15,[0],[]),(16,[0],[0]),(17,[0],[]),(18,[0],[0]),(19,[0],[]),(20,[0],[0]),(21,[0],[]),(22,[0],[0]),(23,[0],[]),(24,[0],[0])])],[]⟩,2⟩ n (ec NI (ec (cY n) (ec UQ (ec NJ (ec UR en))))) Go.Proofs.Tryz.func54 (by kernel_rfl) (fun x=>by kernel_rfl)
def JO(a0:Ghost)(a1_0:Sys):Option (Bool×Unit):=some ((decide (a0.Until≤a1_0.Now)),())
def b8:Rw:=⟨125,pV [G7,.rp (pD [.rp (pD [.int,.int,.ro .task,.ro .lock,.junk,.ro .int,.int,.int,.ro .turn]) 0]) 0],pS [.bool],fun x=>JO (FC x.1) (⟨x.2.1.1.1,x.2.1.1.2.1,x.2.1.1.2.2.1.2,x.2.1.1.2.2.2.1.2,[],x.2.1.1.2.2.2.2.2.1.2,x.2.1.1.2.2.2.2.2.2.1,x.2.1.1.2.2.2.2.2.2.2.1,x.2.1.1.2.2.2.2.2.2.2.2.1.2⟩:Sys)⟩
theorem T9:RO (b8):=
 rE ⟨Go.Proofs.Tryz.f125,⟨[(0,[(0,.slot 0 .int)])],[(1,dr 8 [(0,[0],[]),(1,[0],[])])],[]⟩,1⟩ 0 en Go.Proofs.Tryz.func125 (by kernel_rfl) (fun x=>by kernel_rfl)
def IA{α:Type}(n:Nat):Nat→List Ghost→Sys→Int→Int→(Int→Option α)→(Option α)→Option α|0,_,_,_,_,_,_=>none|m0+1,v1,v2,v3,v4,k0_0,k0_1=>cond (decide (v4<v3)) (cond (decide (0≤v4)&&decide (v4<(v1.length:Int))) ((JO (List.getD v1 (Int.toNat v4) (Kd.dflt .ghost)) (⟨v2.Now,v2.Cpus,v2.Tasks,v2.Locks,[],v2.Floors,v2.Seq,v2.Missed,v2.Trace⟩:Sys)).bind fun r5=>cond r5.1 (k0_0 v4) (IA n m0 v1 (⟨v2.Now,v2.Cpus,v2.Tasks,v2.Locks,[],v2.Floors,v2.Seq,v2.Missed,v2.Trace⟩:Sys) v3 (w64 (v4+1)) k0_0 k0_1)) none) k0_1
def L3(n:Nat)(a0:List Ghost)(a1_0_0:Sys):Option (Int×Unit):=IA n n a0 (⟨a1_0_0.Now,a1_0_0.Cpus,a1_0_0.Tasks,a1_0_0.Locks,[],a1_0_0.Floors,a1_0_0.Seq,a1_0_0.Missed,a1_0_0.Trace⟩:Sys) (a0.length:Int) 0 (fun w6=>some (w6,())) (some ((-1),()))
def gY(n:Nat):Rw:=⟨159,pV [.ro .ghost,.clo 125 (pD [.rp (pD [.rp (pD [.int,.int,.ro .task,.ro .lock,.junk,.ro .int,.int,.int,.ro .turn]) 0]) 0])],pS [.int],fun x=>L3 n x.1.2 (⟨x.2.1.1.1.1,x.2.1.1.1.2.1,x.2.1.1.1.2.2.1.2,x.2.1.1.1.2.2.2.1.2,[],x.2.1.1.1.2.2.2.2.2.1.2,x.2.1.1.1.2.2.2.2.2.2.1,x.2.1.1.1.2.2.2.2.2.2.2.1,x.2.1.1.1.2.2.2.2.2.2.2.2.1.2⟩:Sys)⟩
def lZ(n:Nat):LS:=AI ⟨2,[0,1,7,8],[],[],[4],[]⟩ 19 [0,1,7,8] 0 (pD [.ro .ghost,.clo 125 (pD [.rp (pD [.rp (pD [.int,.int,.ro .task,.ro .lock,.junk,.ro .int,.int,.int,.ro .turn]) 0]) 0]),.int,.int]) [] (fun m x k=>IA n m x.1.1.2 (⟨x.1.2.1.1.1.1,x.1.2.1.1.1.2.1,x.1.2.1.1.1.2.2.1.2,x.1.2.1.1.1.2.2.2.1.2,[],x.1.2.1.1.1.2.2.2.2.2.1.2,x.1.2.1.1.1.2.2.2.2.2.2.1,x.1.2.1.1.1.2.2.2.2.2.2.2.1,x.1.2.1.1.1.2.2.2.2.2.2.2.2.1.2⟩:Sys) x.1.2.2.1 x.1.2.2.2.1 (fun w0=>k .ret (eS 19 [4] [.int w0] 0 [])) (k (.exit 0) (eS 19 [] [] 0 [])))
theorem gZ(n:Nat):RO (gY n):=
 rL ⟨Go.Proofs.Tryz.f159,⟨[(4,[(5,cl 1 .bool 0)])],[],[]⟩,0⟩ [lZ n] n (ec T9 en) Go.Proofs.Tryz.func159 (by kernel_rfl) ⟨AJ (fun m x k=>by kernel_rfl) (fun _ _=>rfl),trivial⟩ (fun x=>by kernel_rfl)
def EP(a0:Task):Option (Bool×Unit):=cond (decide (a0.Class=1)) ((Dn a0).bind fun r1=>some (r1.1,())) (some (false,()))
def co:Rw:=⟨172,pV [Ac],pS [.bool],fun x=>EP (AK x.1)⟩
theorem ND:RO (co):=
 rE ⟨Go.Proofs.Tryz.f172,⟨[(0,[(0,.slot 0 .int)]),(1,[(5,cl 1 .bool 0)])],[],[]⟩,1⟩ 0 (ec Ii en) Go.Proofs.Tryz.func172 (by kernel_rfl) (fun x=>by kernel_rfl)
def JB(a0:Task)(a1:Int):Option (A8×Unit):=(EP a0).bind fun r1=>cond r1.1 ((FH a1).bind fun r2=>cond r2.1 (cond (decide (a0.Due≤a1)) (some ((AN (⟨a0.No,a0.Class,a0.Cpu,a0.State,a0.Idle,a0.Q,a0.P,a0.Q,(w64 (a0.Due+a0.P)),a0.Prio,a0.Round,a0.Seq,a0.Nice,a0.V⟩:Task)),())) (some ((AN a0),()))) (some ((AN a0),()))) (some ((AN a0),()))
def aN:Rw:=⟨126,pV [Ac,.int],pS [.agg q0],fun x=>JB (AK x.1) x.2.1⟩
theorem aO:RO (aN):=
 rE ⟨Go.Proofs.Tryz.f126,⟨[(0,[(0,.slot 0 .int),(1,.slot 1 .int)]),(1,[(1,cl 1 .bool 0),(4,cl 1 .bool 0)])],[],[]⟩,2⟩ 0 (ec ND (ec NE en)) Go.Proofs.Tryz.func126 (by kernel_rfl) (fun x=>by kernel_rfl)
def Gh{α:Type}(n:Nat):Nat→List Ghost→Sys→Int→Int→(Int→List Ghost→Option α)→Option α|0,_,_,_,_,_=>none|m0+1,v2,v3,v4,v5,k0_0=>cond (decide (v5<(v2.length:Int))) (cond (decide (0≤v5)&&decide (v5<(v2.length:Int))) ((JO (List.getD v2 (Int.toNat v5) (Kd.dflt .ghost)) (⟨v3.Now,v3.Cpus,v3.Tasks,v3.Locks,[],v3.Floors,v3.Seq,v3.Missed,v3.Trace⟩:Sys)).bind fun r6=>cond (!r6.1) (cond (decide (0≤v4)&&decide (v4<(v2.length:Int))) (cond (decide ((Int.toNat v4)<(v2).length)) (let e7:=(List.set v2 (Int.toNat v4) (List.getD v2 (Int.toNat v5) (Kd.dflt .ghost)));Gh n m0 e7 (⟨v3.Now,v3.Cpus,v3.Tasks,v3.Locks,[],v3.Floors,v3.Seq,v3.Missed,v3.Trace⟩:Sys) (w64 (v4+1)) (w64 (v5+1)) k0_0) none) none) (Gh n m0 v2 (⟨v3.Now,v3.Cpus,v3.Tasks,v3.Locks,[],v3.Floors,v3.Seq,v3.Missed,v3.Trace⟩:Sys) v4 (w64 (v5+1)) k0_0)) none) (k0_0 v4 v2)
def Lz(n:Nat)(a0:List Ghost)(a1_0_0:Sys):Option (List Ghost×Unit):=(L3 n a0 (⟨a1_0_0.Now,a1_0_0.Cpus,a1_0_0.Tasks,a1_0_0.Locks,[],a1_0_0.Floors,a1_0_0.Seq,a1_0_0.Missed,a1_0_0.Trace⟩:Sys)).bind fun r1=>cond (decide (r1.1=(-1))) (some (a0,())) (Gh n n a0 (⟨a1_0_0.Now,a1_0_0.Cpus,a1_0_0.Tasks,a1_0_0.Locks,[],a1_0_0.Floors,a1_0_0.Seq,a1_0_0.Missed,a1_0_0.Trace⟩:Sys) r1.1 (w64 (r1.1+1)) (fun w8 w9=>cond ((decide (0≤w8)&&decide (w8≤(w9.length:Int)))&&(decide ((w9.length:Int)≤(w9.length:Int)))) (cond ((decide ((Int.toNat w8)<(Int.toNat (w9.length:Int))))&&(decide ((Int.toNat (w9.length:Int))≤(w9).length))) (let e10:=(Aj w9 (Int.toNat w8) (List.replicate ((Int.toNat (w9.length:Int))-(Int.toNat w8)) (Kd.dflt .ghost)));cond (decide (0≤w8)&&decide (w8≤(e10.length:Int))) (some ((List.take (Int.toNat w8) e10),())) none) none) none))
def gO(n:Nat):Rw:=⟨124,pA [.own .ghost,.v (.clo 125 (pD [.rp (pD [.rp (pD [.int,.int,.ro .task,.ro .lock,.junk,.ro .int,.int,.int,.ro .turn]) 0]) 0]))],q13,fun x=>Lz n x.1 (⟨x.2.1.1.1.1,x.2.1.1.1.2.1,x.2.1.1.1.2.2.1.2,x.2.1.1.1.2.2.2.1.2,[],x.2.1.1.1.2.2.2.2.2.1.2,x.2.1.1.1.2.2.2.2.2.2.1,x.2.1.1.1.2.2.2.2.2.2.2.1,x.2.1.1.1.2.2.2.2.2.2.2.2.1.2⟩:Sys)⟩
def lW(n:Nat):LS:=AI ⟨5,[0,1,5,6],[],[1],[0,5],[0,1,2]⟩ 42 [0,1,5,6] 133 (pD [.bor 0,.clo 125 (pD [.rp (pD [.rp (pD [.int,.int,.ro .task,.ro .lock,.junk,.ro .int,.int,.int,.ro .turn]) 0]) 0]),.int,.int]) [.root .ghost] (fun m x k=>Gh n m x.2.1 (⟨x.1.2.1.1.1.1,x.1.2.1.1.1.2.1,x.1.2.1.1.1.2.2.1.2,x.1.2.1.1.1.2.2.2.1.2,[],x.1.2.1.1.1.2.2.2.2.2.1.2,x.1.2.1.1.1.2.2.2.2.2.2.1,x.1.2.1.1.1.2.2.2.2.2.2.2.1,x.1.2.1.1.1.2.2.2.2.2.2.2.2.1.2⟩:Sys) x.1.2.2.1 x.1.2.2.2.1 (fun w0 w1=>k (.exit 0) (eS 42 [0,5] [.bor 0,.int w0] 133 [.root .ghost w1 .ok])))
theorem gP(n:Nat):RO (gO n):=
 rL ⟨Go.Proofs.Tryz.f124,⟨[(1,[(2,cl 2 .int 0)]),(7,[(4,.slot 1 .int)]),(8,[(2,cl 1 .bool 0)]),(12,[(2,.slot 2 .ghost)])],[],[]⟩,3⟩ [lW n] n (ec (gZ n) (ec T9 en)) Go.Proofs.Tryz.func124 (by kernel_rfl) ⟨AJ (fun m x k=>by kernel_rfl) (fun _ _=>rfl),trivial⟩ (fun x=>by kernel_rfl)
def Dz{α:Type}(n:Nat):Nat→Sys→Int→Int→(Int→List Task→Option α)→Option α|0,_,_,_,_=>none|m0+1,v2,v3,v4,k0_0=>cond (decide (v4<v3)) (cond (decide (0≤v4)&&decide (v4<(v2.Tasks.length:Int))) (let e5:=(!(decide ((List.getD v2.Tasks (Int.toNat v4) (Kd.dflt .task)).Class=1)));cond e5 (Dz n m0 v2 v3 (w64 (v4+1)) k0_0) (cond ((List.getD v2.Tasks (Int.toNat v4) (Kd.dflt .task)).Idle) (Dz n m0 v2 v3 (w64 (v4+1)) k0_0) (let e6:=(decide (v2.Now<(List.getD v2.Tasks (Int.toNat v4) (Kd.dflt .task)).Due));cond e6 (Dz n m0 v2 v3 (w64 (v4+1)) k0_0) (let e7:=(decide (0<(List.getD v2.Tasks (Int.toNat v4) (Kd.dflt .task)).Left));cond e7 (let e8:=(if(w64 (v2.Missed+1))<100000 then(w64 (v2.Missed+1))else 100000);(JB (List.getD v2.Tasks (Int.toNat v4) (Kd.dflt .task)) v2.Now).bind fun r9=>cond (decide (0≤v4)&&decide (v4<(v2.Tasks.length:Int))) (cond (decide ((Int.toNat v4)<(v2.Tasks).length)) (Dz n m0 (⟨v2.Now,v2.Cpus,(List.set v2.Tasks (Int.toNat v4) (AK r9.1)),v2.Locks,v2.Ghosts,v2.Floors,v2.Seq,e8,v2.Trace⟩:Sys) v3 (w64 (v4+1)) k0_0) none) none) ((JB (List.getD v2.Tasks (Int.toNat v4) (Kd.dflt .task)) v2.Now).bind fun r10=>cond (decide (0≤v4)&&decide (v4<(v2.Tasks.length:Int))) (cond (decide ((Int.toNat v4)<(v2.Tasks).length)) (Dz n m0 (⟨v2.Now,v2.Cpus,(List.set v2.Tasks (Int.toNat v4) (AK r10.1)),v2.Locks,v2.Ghosts,v2.Floors,v2.Seq,v2.Missed,v2.Trace⟩:Sys) v3 (w64 (v4+1)) k0_0) none) none))))) none) (k0_0 v2.Missed v2.Tasks)
def JN(n:Nat)(a0:Sys):Option (Unit×Ah×Unit):=(Lz n a0.Ghosts (⟨a0.Now,a0.Cpus,a0.Tasks,a0.Locks,[],a0.Floors,a0.Seq,a0.Missed,a0.Trace⟩:Sys)).bind fun r1=>Dz n n (⟨a0.Now,a0.Cpus,a0.Tasks,a0.Locks,r1.1,a0.Floors,a0.Seq,a0.Missed,a0.Trace⟩:Sys) (a0.Tasks.length:Int) 0 (fun w11 w12=>some ((()),(AA (⟨a0.Now,a0.Cpus,w12,a0.Locks,r1.1,a0.Floors,a0.Seq,w11,a0.Trace⟩:Sys)),()))
def b7(n:Nat):Rw:=⟨55,pA [.box (pA [.v .int,.v .int,.own .task,.own .lock,.own .ghost,.own .int,.v .int,.v .int,.own .turn])],q85,fun x=>JN n (AC x.1)⟩
def kf(n:Nat):LS:=AI ⟨3,([1,16,17,18]),[],[8],[],([0,1,2,4,5,7,8])⟩ 64 [1,16,17,18] 111411113 (pD [.ptr 6 0,.bor 1,.int,.int]) [(.box (pD [.int,.int,.bor 1,.bor 2,.bor 7,.bor 4,.int,.int,.bor 5])),.root .task,.root .lock,.root .int,.root .turn,.box (pD [.ptr 0 0]),.root .ghost] (fun m x k=>Dz n m (⟨x.2.1.1,x.2.1.2.1,x.2.2.1,x.2.2.2.1,x.2.2.2.2.2.2.2.1,x.2.2.2.2.1,x.2.1.2.2.2.2.2.2.1,x.2.1.2.2.2.2.2.2.2.1,x.2.2.2.2.2.1⟩:Sys) x.1.2.2.1 x.1.2.2.2.1 (fun w0 w1=>k (.exit 0) (eS 64 [] [] 111411413 [.box [.int x.2.1.1,.int x.2.1.2.1,.bor 1,.bor 2,.bor 7,.bor 4,.int x.2.1.2.2.2.2.2.2.1,.int w0,.bor 5],.root .task w1 .ok,.root .lock x.2.2.2.1 .ok,.root .int x.2.2.2.2.1 .ok,.root .turn x.2.2.2.2.2.1 .ok,.root .ghost x.2.2.2.2.2.2.2.1 .ok])))
theorem UA(n:Nat):RO (b7 n):=
 rL ⟨Go.Proofs.Tryz.f55,⟨[(0,[(0,.slot 6 .int)]),(1,[(6,(.call [.mv,.ro] (.own .ghost) [] [some 7]))]),(4,[(3,.slot 8 .int)]),(8,[(10,q61)])],[(1,dr 10 [(0,[6],[]),(1,[6],[]),(2,[0],[]),(3,[0],[]),(4,[0],[]),(6,[0,1,2,3,4,5,6,7],[3,7]),(7,[0],[]),(8,[0],[]),(9,[0,7],[0])]),(5,dr 16 [(0,[8],[]),(1,[8],[]),(4,[8],[]),(5,[8],[]),(8,[8],[]),(9,[8],[]),(10,[6],[]),(11,[0],[]),(12,[0],[]),(13,[0],[])]),(7,dr 10 [(0,[6],[]),(1,[6],[]),(2,[0],[]),(3,[0],[]),(4,[0],[]),(7,[0],[]),(8,[0],[]),(9,[0],[0])]),(8,dr 13 [(0,[6],[]),(1,[0],[]),(2,[0],[]),(3,[0],[]),(5,[8],[]),(6,[6],[]),(7,[0],[]),(8,[0],[]),(9,[0],[]),(11,[1],[]),(12,[1],[1])])],[]⟩,9⟩ [kf n] n (ec (gP n) (ec aO en)) Go.Proofs.Tryz.func55 (by kernel_rfl) ⟨AJ (fun m x k=>by kernel_rfl) (fun _ _=>rfl),trivial⟩ (fun x=>by kernel_rfl)
def Hn{α:Type}(n:Nat):Nat→List Lock→List Lock→Int→Int→(List Lock→Option α)→Option α|0,_,_,_,_,_=>none|m0+1,v1,v2,v3,v4,k0_0=>cond (decide (v4<v3)) (cond (decide (0≤v4)&&decide (v4<(v2.length:Int))) ((GL ((List.getD v2 (Int.toNat v4) (Kd.dflt .lock)).Waits)).bind fun r5=>let e6:=([(⟨(List.getD v2 (Int.toNat v4) (Kd.dflt .lock)).Owner,r5.1⟩:Lock)]:List Lock);cond (decide ((v1).length+(e6).length≤lim)) (Hn n m0 (v1++e6) v2 v3 (w64 (v4+1)) k0_0) none) none) (k0_0 v1)
def HN(n:Nat)(a0:List Lock):Option (List Lock×Unit):=Hn n n ([]:List Lock) a0 (a0.length:Int) 0 (fun w7=>some (w7,()))
def cX(n:Nat):Rw:=⟨120,pV [.ro .lock],q7,fun x=>HN n x.1.2⟩
def km(n:Nat):LS:=AI ⟨3,[3,6,7,8],[(.t 3,0,.lock)],[1,2,3,4],[3],q83⟩ 23 [3,6,7,8] 13333 (pD [.bor 0,.ro .lock,.int,.int]) [.root .lock] (fun m x k=>Hn n m x.2.1 x.1.2.1.2 x.1.2.2.1 x.1.2.2.2.1 (fun w0=>k (.exit 0) (eS 23 [3] [.bor 0] 13333 [.root .lock w0 .ok])))
theorem Pr(n:Nat):RO (cX n):=
 rL ⟨Go.Proofs.Tryz.f120,⟨[(4,[(2,.slot 1 .int)]),(5,[(5,q82),(7,.slot 3 .lock),(8,.slot 4 .lock)])],[(5,dr 10 [(1,[1],[]),(2,[1],[]),(3,[1],[]),(4,[1],[]),(5,[2],[2]),(7,[2,3],[2,3]),(8,[0,3,4],[0,3,4])])],[]⟩,5⟩ [km n] n (ec NJ en) Go.Proofs.Tryz.func120 (by kernel_rfl) ⟨AJ (fun m x k=>by kernel_rfl) (fun _ _=>rfl),trivial⟩ (fun x=>by kernel_rfl)
def B1(n:Nat)(a0:Sys):Option (Ah×Unit):=(CE a0.Tasks).bind fun r1=>(HN n a0.Locks).bind fun r2=>(Jm a0.Ghosts).bind fun r3=>(GL a0.Floors).bind fun r4=>(Jn a0.Trace).bind fun r5=>some ((AA (⟨a0.Now,a0.Cpus,r1.1,r2.1,r3.1,r4.1,a0.Seq,a0.Missed,r5.1⟩:Sys)),())
def ca(n:Nat):Rw:=⟨54,pV [Ae],q60,fun x=>B1 n (AX x.1)⟩
theorem Gt(n:Nat):RO (ca n):=
 rE ⟨Go.Proofs.Tryz.f54,⟨[(0,[(0,.slot 0 .int),(1,.slot 1 .int)]),(1,[(2,q49),(5,(.call [.ro] (.own .lock) [] [some 3])),(8,(.call [.ro] (.own .ghost) [] [some 4])),(11,(.call [.ro] (.own .int) [] [some 5])),(14,(.call [.ro] (.own .turn) [] [some 6]))])],[(1,dr 25 [(0,[0],[]),(1,[0],[]),(2,[2],[2]),(3,[0],[]),(4,[0],[]),(5,[3],[3]),(6,[0],[]),(7,[0],[]),(8,[4],[4]),(9,[0],[]),(10,[0],[]),(11,[5],[5]),(12,[0],[]),(13,[0],[]),(14,[6],[6]),(15,[0],[]),(16,[0,2],[0]),(17,[0],[]),(18,[0,3],[0]),(19,[0],[]),(20,[0,4],[0]),(21,[0],[]),(22,[0,5],[0]),(23,[0],[]),(24,[0,6],[0])])],[]⟩,7⟩ n (ec NI (ec (Pr n) (ec UQ (ec NJ (ec UR en))))) Go.Proofs.Tryz.func54 (by kernel_rfl) (fun x=>by kernel_rfl)
def Hp{α:Type}(n:Nat):Nat→List Task→List Int→List Int→Int→Int→(Option α)→(Option α)→Option α|0,_,_,_,_,_,_,_=>none|m0+1,v2,v3,v4,v5,v6,k0_0,k0_1=>cond (decide (v6<v5)) (cond (decide (0≤v6)&&decide (v6<(v4.length:Int))) ((CQ n v2 (List.getD v4 (Int.toNat v6) (Kd.dflt .int))).bind fun r7=>cond (decide (r7.1<0)) k0_0 (Hp n m0 v2 v3 v4 v5 (w64 (v6+1)) k0_0 k0_1)) none) k0_1
def LX(n:Nat)(a0:List Task)(a1:List Lock)(a2:Int):Option (Int×Unit):=(HM n a1 a2).bind fun r1=>Hp n n a0 r1.1.1 r1.1.1 (r1.1.1.length:Int) 0 (some (0,())) (cond ((decide (0≤(w64 ((r1.1.1.length:Int)-1))))&&(decide ((w64 ((r1.1.1.length:Int)-1))<(r1.1.1.length:Int)))) (let e8:=(List.getD r1.1.1 (Int.toNat (w64 ((r1.1.1.length:Int)-1))) (Kd.dflt .int));some (e8,())) none)
def cf(n:Nat):Rw:=⟨211,pV [.ro .task,.ro .lock,.int],pS [.int],fun x=>LX n x.1.2 x.2.1.2 x.2.2.1⟩
def ko(n:Nat):LS:=AI ⟨3,([0,7,17,18,19]),[],[],[6,7],[]⟩ 34 [0,7,17,18,19] 0 (pD [.ro .task,.rog .int,.rog .int,.int,.int]) [] (fun m x k=>Hp n m x.1.1.2 x.1.2.1 x.1.2.2.1 x.1.2.2.2.1 x.1.2.2.2.2.1 (k .ret (eS 34 [6,7] [.int 0,.ro true .int x.1.2.1] 0 [])) (k (.exit 0) (eS 34 [7] [.ro true .int x.1.2.1] 0 [])))
theorem cg(n:Nat):RO (cf n):=
 rL ⟨Go.Proofs.Tryz.f211,⟨[(1,[(2,q28)]),(5,[(2,cl 2 .int 0)])],[],[]⟩,0⟩ [ko n] n (ec (Pq n) (ec (EG n) en)) Go.Proofs.Tryz.func211 (by kernel_rfl) ⟨AJ (fun m x k=>by kernel_rfl) (fun _ _=>rfl),trivial⟩ (fun x=>by kernel_rfl)
def JD(n:Nat)(a0:List Task)(a1:List Lock)(a2:Int):Option (Int×Unit):=(C4 n a0).bind fun r1=>cond (!r1.1) (some (0,())) ((FE n a1).bind fun r2=>cond (!r2.1) (some (0,())) ((LX n a0 a1 a2).bind fun r3=>some (r3.1,())))
def aT(n:Nat):Rw:=⟨173,pV [.ro .task,.ro .lock,.int],pS [.int],fun x=>JD n x.1.2 x.2.1.2 x.2.2.1⟩
theorem T0(n:Nat):RO (aT n):=
 rE ⟨Go.Proofs.Tryz.f173,⟨[(1,[(1,cl 1 .bool 0),(5,cl 1 .bool 0)]),(3,[(3,cl 3 .int 0)])],[],[]⟩,0⟩ n (ec (NC n) (ec (KO n) (ec (cg n) en))) Go.Proofs.Tryz.func173 (by kernel_rfl) (fun x=>by kernel_rfl)
def I9(n:Nat)(a0:List Task)(a1:List Lock)(a2:Int):Option (Bool×Unit):=(JD n a0 a1 a2).bind fun r1=>cond (!(decide (r1.1=0))) ((CQ n a0 a2).bind fun r2=>cond (decide (0≤r2.1)&&decide (r2.1<(a0.length:Int))) (let e3:=(decide ((List.getD a0 (Int.toNat r2.1) (Kd.dflt .task)).State=1));cond e3 ((CQ n a0 r1.1).bind fun r4=>cond (decide (0≤r4.1)&&decide (r4.1<(a0.length:Int))) (let e5:=(decide ((List.getD a0 (Int.toNat r4.1) (Kd.dflt .task)).State=1));some (e5,())) none) (some (false,()))) none) (some (false,()))
def aB(n:Nat):Rw:=⟨127,pV [.ro .task,.ro .lock,.int],pS [.bool],fun x=>I9 n x.1.2 x.2.1.2 x.2.2.1⟩
theorem Ty(n:Nat):RO (aB n):=
 rE ⟨Go.Proofs.Tryz.f127,⟨[(1,[(3,cl 3 .int 0)]),(2,[(6,cl 2 .int 0),(16,cl 2 .int 0)])],[],[]⟩,0⟩ n (ec (T0 n) (ec (EG n) en)) Go.Proofs.Tryz.func127 (by kernel_rfl) (fun x=>by kernel_rfl)
def K5(a0:Task)(a1:Int):Option (A8×Unit):=(EP a0).bind fun r1=>cond (!r1.1) (some ((AN a0),())) ((FH a1).bind fun r2=>cond (!r2.1) (some ((AN a0),())) (cond (decide (a0.Due≤a1)) (some ((AN (⟨a0.No,a0.Class,a0.Cpu,a0.State,a0.Idle,a0.Q,a0.P,a0.Q,(w64 (a1+a0.P)),a0.Prio,a0.Round,a0.Seq,a0.Nice,a0.V⟩:Task)),())) (let e3:=(decide ((w64 ((w64 (a0.Due-a1))*a0.Q))<(w64 (a0.Left*a0.P))));cond e3 (some ((AN (⟨a0.No,a0.Class,a0.Cpu,a0.State,a0.Idle,a0.Q,a0.P,a0.Q,(w64 (a1+a0.P)),a0.Prio,a0.Round,a0.Seq,a0.Nice,a0.V⟩:Task)),())) (some ((AN a0),())))))
def aR:Rw:=⟨129,pV [Ac,.int],pS [.agg q0],fun x=>K5 (AK x.1) x.2.1⟩
theorem aS:RO (aR):=
 rE ⟨Go.Proofs.Tryz.f129,⟨[(0,[(0,.slot 0 .int),(1,.slot 1 .int)]),(1,[(1,cl 1 .bool 0),(5,cl 1 .bool 0)])],[],[]⟩,2⟩ 0 (ec ND (ec NE en)) Go.Proofs.Tryz.func129 (by kernel_rfl) (fun x=>by kernel_rfl)
def JV(a0:Task)(a1:Int):Option (A8×Unit):=(Ap a1 0 100000000).bind fun r1=>cond r1.1 (some ((AN (⟨a0.No,a0.Class,a0.Cpu,a0.State,a0.Idle,a0.Q,a0.P,a0.Left,a0.Due,a0.Prio,a0.Round,a0.Seq,a0.Nice,a1⟩:Task)),())) (some ((AN a0),()))
def dB:Rw:=⟨174,pV [Ac,.int],pS [.agg q0],fun x=>JV (AK x.1) x.2.1⟩
theorem UK:RO (dB):=
 rE ⟨Go.Proofs.Tryz.f174,⟨[(0,[(0,.slot 0 .int),(1,.slot 1 .int)]),(1,[(1,cl 3 .bool 0)])],[],[]⟩,2⟩ 0 (ec Bc en) Go.Proofs.Tryz.func174 (by kernel_rfl) (fun x=>by kernel_rfl)
def K7(a0:Task)(a1:Int):Option (A8×Unit):=(Do a0).bind fun r1=>cond (!r1.1) (some ((AN a0),())) (cond (decide (a1≤a0.V)) (some ((AN a0),())) ((JV a0 a1).bind fun r2=>some ((AN (AK r2.1)),())))
def af:Rw:=⟨128,pV [Ac,.int],pS [.agg q0],fun x=>K7 (AK x.1) x.2.1⟩
theorem ag:RO (af):=
 rE ⟨Go.Proofs.Tryz.f128,⟨[(0,[(0,.slot 0 .int),(1,.slot 1 .int)]),(1,[(1,cl 1 .bool 0)]),(3,[(2,q61)])],[],[]⟩,2⟩ 0 (ec KP (ec UK en)) Go.Proofs.Tryz.func128 (by kernel_rfl) (fun x=>by kernel_rfl)
end Go.Proofs.YtbbgaleennfklaaGreat.VR
end
section
set_option linter.unusedVariables false
set_option maxRecDepth 100000
namespace Go.Proofs.YtbbgaleennfklaaGreat.VR
open Go
def Hk{α:Type}(n:Nat):Nat→Sys→List Bool→Int→Int→(List Bool→Option α)→Option α|0,_,_,_,_,_=>none|m0+1,v1,v2,v3,v4,k0_0=>cond (decide (v4<v3)) (cond (decide (0≤v4)&&decide (v4<(v1.Tasks.length:Int))) ((I9 n v1.Tasks v1.Locks ((List.getD v1.Tasks (Int.toNat v4) (Kd.dflt .task)).No)).bind fun r5=>cond (decide ((v2).length+(([r5.1]:List Bool)).length≤lim)) (Hk n m0 v1 (v2++([r5.1]:List Bool)) v3 (w64 (v4+1)) k0_0) none) none) (k0_0 v2)
def D0{α:Type}(n:Nat):Nat→Sys→List Bool→Int→Int→(List Task→Option α)→Option α|0,_,_,_,_,_=>none|m1+1,v7,v8,v9,v10,k1_0=>cond (decide (v10<v9)) (cond (decide (0≤v10)&&decide (v10<(v7.Tasks.length:Int))) (cond (decide (0≤v10)&&decide (v10<(v8.length:Int))) (cond (List.getD v8 (Int.toNat v10) (Kd.dflt .bool)) (cond ((List.getD v7.Tasks (Int.toNat v10) (Kd.dflt .task)).Idle) ((K5 (⟨(List.getD v7.Tasks (Int.toNat v10) (Kd.dflt .task)).No,(List.getD v7.Tasks (Int.toNat v10) (Kd.dflt .task)).Class,(List.getD v7.Tasks (Int.toNat v10) (Kd.dflt .task)).Cpu,(List.getD v7.Tasks (Int.toNat v10) (Kd.dflt .task)).State,false,(List.getD v7.Tasks (Int.toNat v10) (Kd.dflt .task)).Q,(List.getD v7.Tasks (Int.toNat v10) (Kd.dflt .task)).P,(List.getD v7.Tasks (Int.toNat v10) (Kd.dflt .task)).Left,(List.getD v7.Tasks (Int.toNat v10) (Kd.dflt .task)).Due,(List.getD v7.Tasks (Int.toNat v10) (Kd.dflt .task)).Prio,(List.getD v7.Tasks (Int.toNat v10) (Kd.dflt .task)).Round,(List.getD v7.Tasks (Int.toNat v10) (Kd.dflt .task)).Seq,(List.getD v7.Tasks (Int.toNat v10) (Kd.dflt .task)).Nice,(List.getD v7.Tasks (Int.toNat v10) (Kd.dflt .task)).V⟩:Task) v7.Now).bind fun r11=>cond ((decide (0≤(List.getD v7.Tasks (Int.toNat v10) (Kd.dflt .task)).Cpu))&&(decide ((List.getD v7.Tasks (Int.toNat v10) (Kd.dflt .task)).Cpu<(v7.Floors.length:Int)))) (let e12:=(List.getD v7.Floors (Int.toNat (List.getD v7.Tasks (Int.toNat v10) (Kd.dflt .task)).Cpu) (Kd.dflt .int));(K7 (AK r11.1) e12).bind fun r13=>cond (decide (0≤v10)&&decide (v10<(v7.Tasks.length:Int))) (cond (decide ((Int.toNat v10)<(v7.Tasks).length)) (D0 n m1 (⟨v7.Now,v7.Cpus,(List.set v7.Tasks (Int.toNat v10) (AK r13.1)),v7.Locks,v7.Ghosts,v7.Floors,v7.Seq,v7.Missed,v7.Trace⟩:Sys) v8 v9 (w64 (v10+1)) k1_0) none) none) none) (cond (decide (0≤v10)&&decide (v10<(v8.length:Int))) (cond (decide (0≤v10)&&decide (v10<(v7.Tasks.length:Int))) (cond (decide ((Int.toNat v10)<(v7.Tasks).length)) (let e14:=(List.set v7.Tasks (Int.toNat v10) (⟨(List.getD v7.Tasks (Int.toNat v10) (Kd.dflt .task)).No,(List.getD v7.Tasks (Int.toNat v10) (Kd.dflt .task)).Class,(List.getD v7.Tasks (Int.toNat v10) (Kd.dflt .task)).Cpu,(List.getD v7.Tasks (Int.toNat v10) (Kd.dflt .task)).State,(!(List.getD v8 (Int.toNat v10) (Kd.dflt .bool))),(List.getD v7.Tasks (Int.toNat v10) (Kd.dflt .task)).Q,(List.getD v7.Tasks (Int.toNat v10) (Kd.dflt .task)).P,(List.getD v7.Tasks (Int.toNat v10) (Kd.dflt .task)).Left,(List.getD v7.Tasks (Int.toNat v10) (Kd.dflt .task)).Due,(List.getD v7.Tasks (Int.toNat v10) (Kd.dflt .task)).Prio,(List.getD v7.Tasks (Int.toNat v10) (Kd.dflt .task)).Round,(List.getD v7.Tasks (Int.toNat v10) (Kd.dflt .task)).Seq,(List.getD v7.Tasks (Int.toNat v10) (Kd.dflt .task)).Nice,(List.getD v7.Tasks (Int.toNat v10) (Kd.dflt .task)).V⟩:Task));D0 n m1 (⟨v7.Now,v7.Cpus,e14,v7.Locks,v7.Ghosts,v7.Floors,v7.Seq,v7.Missed,v7.Trace⟩:Sys) v8 v9 (w64 (v10+1)) k1_0) none) none) none)) (cond (decide (0≤v10)&&decide (v10<(v8.length:Int))) (cond (decide (0≤v10)&&decide (v10<(v7.Tasks.length:Int))) (cond (decide ((Int.toNat v10)<(v7.Tasks).length)) (let e15:=(List.set v7.Tasks (Int.toNat v10) (⟨(List.getD v7.Tasks (Int.toNat v10) (Kd.dflt .task)).No,(List.getD v7.Tasks (Int.toNat v10) (Kd.dflt .task)).Class,(List.getD v7.Tasks (Int.toNat v10) (Kd.dflt .task)).Cpu,(List.getD v7.Tasks (Int.toNat v10) (Kd.dflt .task)).State,(!(List.getD v8 (Int.toNat v10) (Kd.dflt .bool))),(List.getD v7.Tasks (Int.toNat v10) (Kd.dflt .task)).Q,(List.getD v7.Tasks (Int.toNat v10) (Kd.dflt .task)).P,(List.getD v7.Tasks (Int.toNat v10) (Kd.dflt .task)).Left,(List.getD v7.Tasks (Int.toNat v10) (Kd.dflt .task)).Due,(List.getD v7.Tasks (Int.toNat v10) (Kd.dflt .task)).Prio,(List.getD v7.Tasks (Int.toNat v10) (Kd.dflt .task)).Round,(List.getD v7.Tasks (Int.toNat v10) (Kd.dflt .task)).Seq,(List.getD v7.Tasks (Int.toNat v10) (Kd.dflt .task)).Nice,(List.getD v7.Tasks (Int.toNat v10) (Kd.dflt .task)).V⟩:Task));D0 n m1 (⟨v7.Now,v7.Cpus,e15,v7.Locks,v7.Ghosts,v7.Floors,v7.Seq,v7.Missed,v7.Trace⟩:Sys) v8 v9 (w64 (v10+1)) k1_0) none) none) none)) none) none) (k1_0 v7.Tasks)
def JR(n:Nat)(a0:Sys):Option (Unit×Ah×Unit):=Hk n n a0 ([]:List Bool) (a0.Tasks.length:Int) 0 (fun w6=>D0 n n a0 w6 (a0.Tasks.length:Int) 0 (fun w16=>some ((()),(AA (⟨a0.Now,a0.Cpus,w16,a0.Locks,a0.Ghosts,a0.Floors,a0.Seq,a0.Missed,a0.Trace⟩:Sys)),())))
def cC(n:Nat):Rw:=⟨56,pA [.box (pA [.v .int,.v .int,.own .task,.own .lock,.own .ghost,.own .int,.v .int,.v .int,.own .turn])],q85,fun x=>JR n (AC x.1)⟩
def kg(n:Nat):LS:=AI ⟨2,([0,2,11,12,13]),[(.t 2,7,.bool)],[8,9,10],[0,2],([0,1,2,3,4,5,7,8,9,10,11])⟩ 85 [0,2,11,12,13] 111111413333 (pD [.ptr 0 0,.bor 7,.bor 1,.int,.int]) [q96,.root .task,.root .lock,.root .ghost,.root .int,.root .turn,.root .bool] (fun m x k=>Hk n m (⟨x.2.1.1,x.2.1.2.1,x.2.2.1,x.2.2.2.1,x.2.2.2.2.1,x.2.2.2.2.2.1,x.2.1.2.2.2.2.2.2.1,x.2.1.2.2.2.2.2.2.2.1,x.2.2.2.2.2.2.1⟩:Sys) x.2.2.2.2.2.2.2.1 x.1.2.2.2.1 x.1.2.2.2.2.1 (fun w0=>k (.exit 0) (eS 85 [0,2] [.ptr 0 0,.bor 7] 111111413333 [DE.make q96 x.2.1,.root .task x.2.2.1 .ok,.root .lock x.2.2.2.1 .ok,.root .ghost x.2.2.2.2.1 .ok,.root .int x.2.2.2.2.2.1 .ok,.root .turn x.2.2.2.2.2.2.1 .ok,.root .bool w0 .ok])))
def kh(n:Nat):LS:=AI ⟨7,([0,2,35,36,37]),[],[11],[],([0,1,2,3,4,5,8,9,10,11])⟩ 85 [0,2,35,36,37] 111111413333 (pD [.ptr 0 0,.bor 7,.bor 1,.int,.int]) [q96,.root .task,.root .lock,.root .ghost,.root .int,.root .turn,.root .bool] (fun m x k=>D0 n m (⟨x.2.1.1,x.2.1.2.1,x.2.2.1,x.2.2.2.1,x.2.2.2.2.1,x.2.2.2.2.2.1,x.2.1.2.2.2.2.2.2.1,x.2.1.2.2.2.2.2.2.2.1,x.2.2.2.2.2.2.1⟩:Sys) x.2.2.2.2.2.2.2.1 x.1.2.2.2.1 x.1.2.2.2.2.1 (fun w0=>k (.exit 2) (eS 85 [] [] 111111443333 [DE.make q96 x.2.1,.root .task w0 .ok,.root .lock x.2.2.2.1 .ok,.root .ghost x.2.2.2.2.1 .ok,.root .int x.2.2.2.2.2.1 .ok,.root .turn x.2.2.2.2.2.2.1 .ok])))
theorem UD(n:Nat):RO (cC n):=
 rL ⟨Go.Proofs.Tryz.f56,⟨[(0,[(0,.slot 6 .bool)]),(3,[(2,.slot 8 .int)]),(4,[(11,cl 3 .bool 0),(12,.slot 9 .bool),(13,.slot 10 .bool)]),(8,[(3,.slot 11 .int)]),(11,[(10,q61),(19,q61)])],[(4,dr 15 [(2,[0],[]),(3,[0],[]),(4,[0],[]),(6,[0],[]),(7,[0],[]),(8,[0],[]),(9,[8],[]),(10,[8],[]),(11,[1,2],[]),(12,[9],[9]),(13,[7,9,10],[7,10])]),(11,dr 22 [(1,[0],[]),(2,[0],[]),(3,[0],[]),(5,[11],[]),(7,[0],[]),(8,[0],[]),(9,[0],[]),(12,[0],[]),(13,[0],[]),(14,[0],[]),(15,[11],[]),(16,[11],[]),(17,[4],[]),(18,[4],[]),(20,[1],[]),(21,[1],[1])]),(12,dr 13 [(1,[0],[]),(2,[0],[]),(3,[0],[]),(7,[7],[]),(8,[7],[]),(10,[1],[]),(11,[1],[]),(12,[1],[1])])],[]⟩,12⟩ [kg n,kh n] n (ec (Ty n) (ec aS (ec ag en))) Go.Proofs.Tryz.func56 (by kernel_rfl) ⟨AJ (fun m x k=>by kernel_rfl) (fun _ _=>rfl),AJ (fun m x k=>by kernel_rfl) (fun _ _=>rfl),trivial⟩ (fun x=>by kernel_rfl)
def JE(n:Nat)(a0:List Task)(a1:Int):Option (Int×Unit):=(JT n a0).bind fun r1=>cond (!r1.1.2.2.1) (some (a1,())) (some ((if r1.1.1>a1 then r1.1.1 else a1),()))
def aW(n:Nat):Rw:=⟨57,pV [.ro .task,.int],pS [.int],fun x=>JE n x.1.2 x.2.1⟩
theorem T1(n:Nat):RO (aW n):=
 rE ⟨Go.Proofs.Tryz.f57,⟨[(1,[(1,q36)])],[],[]⟩,0⟩ n (ec (UF n) en) Go.Proofs.Tryz.func57 (by kernel_rfl) (fun x=>by kernel_rfl)
def K3(n:Nat)(a0:List Task)(a1:List Lock)(a2:Int):Option (Bool×Unit):=(I9 n a0 a1 a2).bind fun r1=>cond (!r1.1) (some (false,())) ((CQ n a0 a2).bind fun r2=>cond (decide (0≤r2.1)&&decide (r2.1<(a0.length:Int))) (let e3:=(!(decide ((List.getD a0 (Int.toNat r2.1) (Kd.dflt .task)).Class=1)));cond e3 (some (true,())) (let e4:=(decide (0<(List.getD a0 (Int.toNat r2.1) (Kd.dflt .task)).Left));some (e4,()))) none)
def aH(n:Nat):Rw:=⟨213,pV [.ro .task,.ro .lock,.int],pS [.bool],fun x=>K3 n x.1.2 x.2.1.2 x.2.2.1⟩
theorem aI(n:Nat):RO (aH n):=
 rE ⟨Go.Proofs.Tryz.f213,⟨[(1,[(3,cl 3 .bool 0)]),(3,[(3,cl 2 .int 0),(6,.slot 0 .int)])],[],[]⟩,1⟩ n (ec (Ty n) (ec (EG n) en)) Go.Proofs.Tryz.func213 (by kernel_rfl) (fun x=>by kernel_rfl)
def FY{α:Type}(n:Nat):Nat→List Task→List Lock→Int→List Task→List Task→Int→Int→(List Task→Option α)→Option α|0,_,_,_,_,_,_,_,_=>none|m0+1,v1,v2,v3,v4,v5,v6,v7,k0_0=>cond (decide (v7<v6)) (cond (decide (0≤v7)&&decide (v7<(v5.length:Int))) (let e8:=(decide ((List.getD v5 (Int.toNat v7) (Kd.dflt .task)).Cpu=v3));cond e8 ((K3 n v1 v2 ((List.getD v5 (Int.toNat v7) (Kd.dflt .task)).No)).bind fun r9=>cond r9.1 (let e10:=([(List.getD v5 (Int.toNat v7) (Kd.dflt .task))]:List Task);cond (decide ((v4).length+(e10).length≤lim)) (FY n m0 v1 v2 v3 (v4++e10) v5 v6 (w64 (v7+1)) k0_0) none) (FY n m0 v1 v2 v3 v4 v5 v6 (w64 (v7+1)) k0_0)) (FY n m0 v1 v2 v3 v4 v5 v6 (w64 (v7+1)) k0_0)) none) (k0_0 v4)
def Lc(n:Nat)(a0:List Task)(a1:List Lock)(a2:Int):Option (List Task×Unit):=FY n n a0 a1 a2 ([]:List Task) a0 (a0.length:Int) 0 (fun w11=>some (w11,()))
def c9(n:Nat):Rw:=⟨176,pV [.ro .task,.ro .lock,.int],q2,fun x=>Lc n x.1.2 x.2.1.2 x.2.2.1⟩
def kv(n:Nat):LS:=AI ⟨3,([0,1,2,7,11,12,13]),[(.t 7,1,.task)],[2,3,4],[7],[1,2,3,4]⟩ 34 [0,1,2,7,11,12,13] 41333 (pD [.ro .task,.ro .lock,.int,.bor 1,.ro .task,.int,.int]) [.root .task] (fun m x k=>FY n m x.1.1.2 x.1.2.1.2 x.1.2.2.1 x.2.1 x.1.2.2.2.2.1.2 x.1.2.2.2.2.2.1 x.1.2.2.2.2.2.2.1 (fun w0=>k (.exit 0) (eS 34 [7] [.bor 1] 41333 [.root .task w0 .ok])))
theorem dA(n:Nat):RO (c9 n):=
 rL ⟨Go.Proofs.Tryz.f176,⟨[(1,[(0,.slot 0 .task)]),(4,[(2,.slot 2 .int)]),(5,[(9,cl 3 .bool 0)]),(6,[(2,.slot 3 .task),(3,.slot 4 .task)])],[],[]⟩,5⟩ [kv n] n (ec (aI n) en) Go.Proofs.Tryz.func176 (by kernel_rfl) ⟨AJ (fun m x k=>by kernel_rfl) (fun _ _=>rfl),trivial⟩ (fun x=>by kernel_rfl)
def OI(a0:Task)(a1:Task):Option (Bool×Unit):=(EP a0).bind fun r1=>cond r1.1 ((EP a1).bind fun r2=>cond r2.1 (cond (decide (a0.Due<a1.Due)) (some (true,())) (cond (decide (a0.Due=a1.Due)) (some ((decide (a0.No<a1.No)),())) (some (false,())))) (some (false,()))) (some (false,()))
def aL:Rw:=⟨232,pV [Ac,Ac],pS [.bool],fun x=>OI (AK x.1) (AK x.2.1)⟩
theorem aM:RO (aL):=
 rE ⟨Go.Proofs.Tryz.f232,⟨[(0,[(0,.slot 0 .int),(1,.slot 1 .int)]),(1,[(1,cl 1 .bool 0),(4,cl 1 .bool 0)])],[],[]⟩,2⟩ 0 (ec ND en) Go.Proofs.Tryz.func232 (by kernel_rfl) (fun x=>by kernel_rfl)
def GG(a0:Task):Option (Bool×Unit):=cond (decide (a0.Class=2)) ((Dn a0).bind fun r1=>some (r1.1,())) (some (false,()))
def cq:Rw:=⟨178,pV [Ac],pS [.bool],fun x=>GG (AK x.1)⟩
theorem UH:RO (cq):=
 rE ⟨Go.Proofs.Tryz.f178,⟨[(0,[(0,.slot 0 .int)]),(1,[(5,cl 1 .bool 0)])],[],[]⟩,1⟩ 0 (ec Ii en) Go.Proofs.Tryz.func178 (by kernel_rfl) (fun x=>by kernel_rfl)
def OK(a0:Task)(a1:Task):Option (Bool×Unit):=(GG a0).bind fun r1=>cond (!r1.1) (some (false,())) ((GG a1).bind fun r2=>cond (!r2.1) (some (false,())) (cond (!(decide (a0.Prio=a1.Prio))) (some ((decide (a1.Prio<a0.Prio)),())) (cond (!(decide (a0.Seq=a1.Seq))) (some ((decide (a0.Seq<a1.Seq)),())) (some ((decide (a0.No<a1.No)),())))))
def ai:Rw:=⟨233,pV [Ac,Ac],pS [.bool],fun x=>OK (AK x.1) (AK x.2.1)⟩
theorem aj:RO (ai):=
 rE ⟨Go.Proofs.Tryz.f233,⟨[(0,[(0,.slot 0 .int),(1,.slot 1 .int)]),(1,[(1,cl 1 .bool 0),(5,cl 1 .bool 0)])],[],[]⟩,2⟩ 0 (ec UH en) Go.Proofs.Tryz.func233 (by kernel_rfl) (fun x=>by kernel_rfl)
def OJ(a0:Task)(a1:Task):Option (Bool×Unit):=(Do a0).bind fun r1=>cond r1.1 ((Do a1).bind fun r2=>cond r2.1 (cond (decide (a0.V<a1.V)) (some (true,())) (cond (decide (a0.V=a1.V)) (some ((decide (a0.No<a1.No)),())) (some (false,())))) (some (false,()))) (some (false,()))
def aU:Rw:=⟨234,pV [Ac,Ac],pS [.bool],fun x=>OJ (AK x.1) (AK x.2.1)⟩
theorem aV:RO (aU):=
 rE ⟨Go.Proofs.Tryz.f234,⟨[(0,[(0,.slot 0 .int),(1,.slot 1 .int)]),(1,[(1,cl 1 .bool 0),(4,cl 1 .bool 0)])],[],[]⟩,2⟩ 0 (ec KP en) Go.Proofs.Tryz.func234 (by kernel_rfl) (fun x=>by kernel_rfl)
def HJ(a0:Task)(a1:Task):Option (Bool×Unit):=(Dn a0).bind fun r1=>cond (!r1.1) (some (false,())) ((Dn a1).bind fun r2=>cond (!r2.1) (some (false,())) (cond (decide (a0.Class<a1.Class)) (some (true,())) ((OI a0 a1).bind fun r3=>cond r3.1 (some (true,())) ((OK a0 a1).bind fun r4=>cond r4.1 (some (true,())) ((OJ a0 a1).bind fun r5=>some (r5.1,()))))))
def aC:Rw:=⟨212,pV [Ac,Ac],pS [.bool],fun x=>HJ (AK x.1) (AK x.2.1)⟩
theorem aD:RO (aC):=
 rE ⟨Go.Proofs.Tryz.f212,⟨[(0,[(0,.slot 0 .int),(1,.slot 1 .int)]),(1,[(1,cl 1 .bool 0),(5,cl 1 .bool 0)]),(3,[(8,cl 2 .bool 0),(13,cl 2 .bool 0),(18,cl 2 .bool 0)])],[],[]⟩,2⟩ 0 (ec Ii (ec aM (ec aj (ec aV en)))) Go.Proofs.Tryz.func212 (by kernel_rfl) (fun x=>by kernel_rfl)
def FX{α:Type}(n:Nat):Nat→Task→List Task→Int→Int→(Task→Option α)→Option α|0,_,_,_,_,_=>none|m0+1,v1,v2,v3,v4,k0_0=>cond (decide (v4<v3)) (cond (decide (0≤v4)&&decide (v4<(v2.length:Int))) (cond (decide (v1.No=0)) (FX n m0 (List.getD v2 (Int.toNat v4) (Kd.dflt .task)) v2 v3 (w64 (v4+1)) k0_0) ((HJ (List.getD v2 (Int.toNat v4) (Kd.dflt .task)) v1).bind fun r5=>cond r5.1 (FX n m0 (List.getD v2 (Int.toNat v4) (Kd.dflt .task)) v2 v3 (w64 (v4+1)) k0_0) (FX n m0 v1 v2 v3 (w64 (v4+1)) k0_0))) none) (k0_0 v1)
def GF(n:Nat)(a0:List Task):Option (Int×Unit):=FX n n (⟨0,0,0,0,false,0,0,0,0,0,0,0,0,0⟩:Task) a0 (a0.length:Int) 0 (fun w6=>some (w6.No,()))
def ch(n:Nat):Rw:=⟨175,pV [.ro .task],pS [.int],fun x=>GF n x.1.2⟩
def kp(n:Nat):LS:=AI ⟨3,[3,7,8,9],[],[1],[3],[0,1]⟩ 25 [3,7,8,9] 13 (pD [.ptr 0 0,.ro .task,.int,.int]) [.box G6] (fun m x k=>FX n m (AK x.2.1) x.1.2.1.2 x.1.2.2.1 x.1.2.2.2.1 (fun w0=>k (.exit 0) (eS 25 [3] [.ptr 0 0] 13 [.box [.int w0.No,.int w0.Class,.int w0.Cpu,.int w0.State,.bool w0.Idle,.int w0.Q,.int w0.P,.int w0.Left,.int w0.Due,.int w0.Prio,.int w0.Round,.int w0.Seq,.int w0.Nice,.int w0.V]])))
theorem UG(n:Nat):RO (ch n):=
 rL ⟨Go.Proofs.Tryz.f175,⟨[(1,[(1,.slot 0 .int)]),(4,[(2,.slot 1 .int)]),(5,[(6,cl 2 .bool 0)])],[],[]⟩,2⟩ [kp n] n (ec aD en) Go.Proofs.Tryz.func175 (by kernel_rfl) ⟨AJ (fun m x k=>by kernel_rfl) (fun _ _=>rfl),trivial⟩ (fun x=>by kernel_rfl)
def LF(n:Nat)(a0:List Task)(a1:List Lock)(a2:Int):Option ((Int×Int×Unit)×Unit):=(Lc n a0 a1 a2).bind fun r1=>(GF n r1.1).bind fun r2=>cond (decide (r2.1=0)) (some ((0,0,()),())) ((JD n a0 a1 r2.1).bind fun r3=>some ((r2.1,r3.1,()),()))
def bF(n:Nat):Rw:=⟨130,pV [.ro .task,.ro .lock,.int],pS [.tup q8],fun x=>LF n x.1.2 x.2.1.2 x.2.2.1⟩
theorem bG(n:Nat):RO (bF n):=
 rE ⟨Go.Proofs.Tryz.f130,⟨[(1,[(3,(cl 3 (.own .task) 1)),(4,cl 1 .int 0)]),(4,[(4,cl 3 .int 0)])],[],[]⟩,0⟩ n (ec (dA n) (ec (UG n) (ec (T0 n) en))) Go.Proofs.Tryz.func130 (by kernel_rfl) (fun x=>by kernel_rfl)
def K8(a0:Task)(a1:Int):Option ((A8×Bool×Unit)×Unit):=(GG a0).bind fun r1=>cond (!r1.1) (some (((AN a0),false,()),())) (cond (decide (a0.Round=0)) (some (((AN a0),false,()),())) (cond (decide (1<a0.Left)) (some (((AN (⟨a0.No,a0.Class,a0.Cpu,a0.State,a0.Idle,a0.Q,a0.P,(w64 (a0.Left-1)),a0.Due,a0.Prio,a0.Round,a0.Seq,a0.Nice,a0.V⟩:Task)),false,()),())) ((GH a1).bind fun r2=>cond (!r2.1) (some (((AN a0),false,()),())) (some (((AN (⟨a0.No,a0.Class,a0.Cpu,a0.State,a0.Idle,a0.Q,a0.P,a0.Round,a0.Due,a0.Prio,a0.Round,a1,a0.Nice,a0.V⟩:Task)),true,()),())))))
def ak:Rw:=⟨132,pV [Ac,.int],q68,fun x=>K8 (AK x.1) x.2.1⟩
theorem al:RO (ak):=
 rE ⟨Go.Proofs.Tryz.f132,⟨[(0,[(0,.slot 0 .int),(1,.slot 1 .int)]),(1,[(1,cl 1 .bool 0)]),(6,[(1,cl 1 .bool 0)])],[],[]⟩,2⟩ 0 (ec UH (ec Pt en)) Go.Proofs.Tryz.func132 (by kernel_rfl) (fun x=>by kernel_rfl)
def JC(a0:Task):Option (A8×Unit):=(EP a0).bind fun r1=>cond r1.1 (cond (decide (0<a0.Left)) (some ((AN (⟨a0.No,a0.Class,a0.Cpu,a0.State,a0.Idle,a0.Q,a0.P,(w64 (a0.Left-1)),a0.Due,a0.Prio,a0.Round,a0.Seq,a0.Nice,a0.V⟩:Task)),())) (some ((AN a0),()))) (some ((AN a0),()))
def aP:Rw:=⟨134,pV [Ac],pS [.agg q0],fun x=>JC (AK x.1)⟩
theorem aQ:RO (aP):=
 rE ⟨Go.Proofs.Tryz.f134,⟨[(0,[(0,.slot 0 .int),(1,.slot 1 .int)]),(1,[(1,cl 1 .bool 0)])],[],[]⟩,2⟩ 0 (ec ND en) Go.Proofs.Tryz.func134 (by kernel_rfl) (fun x=>by kernel_rfl)
def RP(a0:Int):Option (Int×Unit):=(FF a0).bind fun r1=>cond (!r1.1) (some (0,())) (cond ((decide (0≤(w64 (4-a0))))&&(decide ((w64 (4-a0))<((([1,2,3,4,6,8,12,16,24]:List Int)).length:Int)))) (let e2:=(List.getD ([1,2,3,4,6,8,12,16,24]:List Int) (Int.toNat (w64 (4-a0))) (Kd.dflt .int));some (e2,())) none)
def cN:Rw:=⟨214,pV [.int],pS [.int],fun x=>RP x.1⟩
theorem cO:RO (cN):=
 rE ⟨Go.Proofs.Tryz.f214,⟨[(1,[(1,cl 1 .bool 0)]),(3,[(0,.slot 0 .int)])],[],[]⟩,1⟩ 0 (ec NA en) Go.Proofs.Tryz.func214 (by kernel_rfl) (fun x=>by kernel_rfl)
def LK(a0:Int):Option (Int×Unit):=(FF a0).bind fun r1=>cond (!r1.1) (some (0,())) ((RP a0).bind fun r2=>cond (decide (r2.1=0)) none (some ((w64 (Int.tdiv 48 r2.1)),())))
def bQ:Rw:=⟨179,pV [.int],pS [.int],fun x=>LK x.1⟩
theorem bR:RO (bQ):=
 rE ⟨Go.Proofs.Tryz.f179,⟨[(1,[(1,cl 1 .bool 0)]),(3,[(1,cl 1 .int 0)])],[],[]⟩,0⟩ 0 (ec NA (ec cO en)) Go.Proofs.Tryz.func179 (by kernel_rfl) (fun x=>by kernel_rfl)
def JG(a0:Task):Option (A8×Unit):=(Do a0).bind fun r1=>cond (!r1.1) (some ((AN a0),())) ((LK a0.Nice).bind fun r2=>(JV a0 (w64 (a0.V+r2.1))).bind fun r3=>some ((AN (AK r3.1)),()))
def aZ:Rw:=⟨133,pV [Ac],pS [.agg q0],fun x=>JG (AK x.1)⟩
theorem ab:RO (aZ):=
 rE ⟨Go.Proofs.Tryz.f133,⟨[(0,[(0,.slot 0 .int),(1,.slot 1 .int)]),(1,[(1,cl 1 .bool 0)]),(3,[(5,cl 1 .int 0),(7,q61)])],[(3,dr 9 [(0,[0],[]),(1,[0],[]),(2,[0],[]),(3,[0],[]),(4,[0],[]),(8,[1],[1])])],[]⟩,2⟩ 0 (ec KP (ec bR (ec UK en))) Go.Proofs.Tryz.func133 (by kernel_rfl) (fun x=>by kernel_rfl)
def JQ(n:Nat)(a0:Sys)(a1:Int):Option (Unit×Ah×Unit):=(LF n a0.Tasks a0.Locks a1).bind fun r1=>cond (decide ((a0.Trace).length+(([(⟨a1,r1.1.1,r1.1.2.1⟩:Turn)]:List Turn)).length≤lim)) (let e2:=(a0.Trace++([(⟨a1,r1.1.1,r1.1.2.1⟩:Turn)]:List Turn));cond (decide (r1.1.1=0)) (some ((()),(AA (⟨a0.Now,a0.Cpus,a0.Tasks,a0.Locks,a0.Ghosts,a0.Floors,a0.Seq,a0.Missed,e2⟩:Sys)),())) ((CQ n a0.Tasks r1.1.1).bind fun r3=>cond (decide (0≤r3.1)&&decide (r3.1<(a0.Tasks.length:Int))) ((K8 (List.getD a0.Tasks (Int.toNat r3.1) (Kd.dflt .task)) (w64 (a0.Seq+1))).bind fun r4=>cond r4.1.2.1 ((JC (AK r4.1.1)).bind fun r5=>(JG (AK r5.1)).bind fun r6=>cond (decide (0≤r3.1)&&decide (r3.1<(a0.Tasks.length:Int))) (cond (decide ((Int.toNat r3.1)<(a0.Tasks).length)) (some ((()),(AA (⟨a0.Now,a0.Cpus,(List.set a0.Tasks (Int.toNat r3.1) (AK r6.1)),a0.Locks,a0.Ghosts,a0.Floors,(w64 (a0.Seq+1)),a0.Missed,e2⟩:Sys)),())) none) none) ((JC (AK r4.1.1)).bind fun r7=>(JG (AK r7.1)).bind fun r8=>cond (decide (0≤r3.1)&&decide (r3.1<(a0.Tasks.length:Int))) (cond (decide ((Int.toNat r3.1)<(a0.Tasks).length)) (some ((()),(AA (⟨a0.Now,a0.Cpus,(List.set a0.Tasks (Int.toNat r3.1) (AK r8.1)),a0.Locks,a0.Ghosts,a0.Floors,a0.Seq,a0.Missed,e2⟩:Sys)),())) none) none)) none)) none
def cA(n:Nat):Rw:=⟨58,pA [.box (pA [.v .int,.v .int,.own .task,.own .lock,.own .ghost,.own .int,.v .int,.v .int,.own .turn]),.v .int],q85,fun x=>JQ n (AC x.1) x.2.1⟩
theorem UC(n:Nat):RO (cA n):=
 rE ⟨Go.Proofs.Tryz.f58,⟨[(0,[(9,(cl 3 (.tup q8) 0))]),(1,[(9,.slot 6 .turn),(10,.slot 7 .turn)]),(3,[(5,cl 2 .int 0)]),(4,[(12,q69),(16,.slot 8 .int)]),(7,[(6,q1),(7,q1)])],[(0,dr 15 [(1,[0],[]),(2,[0],[]),(3,[0],[]),(5,[0],[]),(6,[0],[]),(7,[0],[]),(9,[1,2],[])]),(4,dr 19 [(1,[0],[]),(2,[0],[]),(3,[0],[]),(5,[1],[]),(6,[1],[]),(8,[0],[]),(9,[0],[]),(10,[0],[]),(16,[8],[8]),(17,[8],[8])]),(7,dr 10 [(1,[0],[]),(2,[0],[]),(3,[0],[]),(5,[8],[]),(8,[1],[]),(9,[1],[1])])],[]⟩,9⟩ n (ec (bG n) (ec (EG n) (ec al (ec aQ (ec ab en))))) Go.Proofs.Tryz.func58 (by kernel_rfl) (fun x=>by kernel_rfl)
def Hh{α:Type}(n:Nat):Nat→Sys→Sys→Int→Int→(List Int→Option α)→Option α|0,_,_,_,_,_=>none|m0+1,v5,v6,v7,v8,k0_0=>cond (decide (v8<v7)) ((HK n v6 v8).bind fun r9=>cond (decide (0≤v8)&&decide (v8<(v6.Floors.length:Int))) ((JE n r9.1 (List.getD v6.Floors (Int.toNat v8) (Kd.dflt .int))).bind fun r10=>cond (decide (0≤v8)&&decide (v8<(v6.Floors.length:Int))) (cond (decide ((Int.toNat v8)<(v6.Floors).length)) (Hh n m0 (⟨v5.Now,v5.Cpus,[],[],[],[],v5.Seq,v5.Missed,[]⟩:Sys) (⟨v6.Now,v6.Cpus,v6.Tasks,v6.Locks,v6.Ghosts,(List.set v6.Floors (Int.toNat v8) r10.1),v6.Seq,v6.Missed,v6.Trace⟩:Sys) v7 (w64 (v8+1)) k0_0) none) none) none) (k0_0 v6.Floors)
def FV{α:Type}(n:Nat):Nat→Sys→Sys→Int→Int→(Int→Int→Int→Int→List Task→List Lock→List Ghost→List Int→List Turn→Option α)→Option α|0,_,_,_,_,_=>none|m1+1,v12,v13,v14,v15,k1_0=>cond (decide (v15<v14)) ((JQ n v13 v15).bind fun r16=>FV n m1 (⟨v12.Now,v12.Cpus,[],[],[],[],v12.Seq,v12.Missed,[]⟩:Sys) (AC r16.2.1) v14 (w64 (v15+1)) k1_0) (k1_0 v13.Now v13.Cpus v13.Seq v13.Missed v13.Tasks v13.Locks v13.Ghosts v13.Floors v13.Trace)
def LO(n:Nat)(a0:Sys):Option ((Ah×Bool×Unit)×Unit):=(DT n a0).bind fun r1=>cond (!r1.1) (some (((AA (⟨0,0,[],[],[],[],0,0,[]⟩:Sys)),false,()),())) ((B1 n a0).bind fun r2=>cond (decide (a0.Now=100000)) (some (((AA (AC r2.1)),false,()),())) (cond (decide (900000<a0.Seq)) (some (((AA (AC r2.1)),false,()),())) (cond (decide (400<(w64 ((a0.Trace.length:Int)+a0.Cpus)))) (some (((AA (AC r2.1)),false,()),())) ((JN n (AC r2.1)).bind fun r3=>(JR n (AC r3.2.1)).bind fun r4=>Hh n n (⟨0,0,[],[],[],[],0,0,[]⟩:Sys) (AC r4.2.1) (((AC r4.2.1).Floors).length:Int) 0 (fun w11=>FV n n (⟨0,0,[],[],[],[],0,0,[]⟩:Sys) (⟨(AC r4.2.1).Now,(AC r4.2.1).Cpus,(AC r4.2.1).Tasks,(AC r4.2.1).Locks,(AC r4.2.1).Ghosts,w11,(AC r4.2.1).Seq,(AC r4.2.1).Missed,(AC r4.2.1).Trace⟩:Sys) ((AC r4.2.1).Cpus) 0 (fun w17 w18 w19 w20 w21 w22 w23 w24 w25=>some (((AA (⟨(w64 (w17+1)),w18,w21,w22,w23,w24,w19,w20,w25⟩:Sys)),true,()),())))))))
def bm(n:Nat):Rw:=⟨13,pV [Ae],q73,fun x=>LO n (AX x.1)⟩
def kZ(n:Nat):LS:=AI ⟨9,TN,[],[],[2,4],TO⟩ 66 [2,4,35,36] 4144444144444111113333333333 (pD [.ptr 1 0,.ptr 7 0,.int,.int]) [q64,KM,.root .task,.root .lock,.root .ghost,.root .int,.root .turn] (fun m x k=>Hh n m (⟨x.2.1.1,x.2.1.2.1,[],[],[],[],x.2.1.2.2.2.2.2.2.1,x.2.1.2.2.2.2.2.2.2.1,[]⟩:Sys) (⟨x.2.2.1.1,x.2.2.1.2.1,x.2.2.2.1,x.2.2.2.2.1,x.2.2.2.2.2.1,x.2.2.2.2.2.2.1,x.2.2.1.2.2.2.2.2.2.1,x.2.2.1.2.2.2.2.2.2.2.1,x.2.2.2.2.2.2.2.1⟩:Sys) x.1.2.2.1 x.1.2.2.2.1 (fun w0=>k (.exit 0) (eS 66 [2,4] [.ptr 1 0,.ptr 7 0] 4144444144444111113333333333 [DE.make q64 x.2.1,DE.make KM x.2.2.1,.root .task x.2.2.2.1 .ok,.root .lock x.2.2.2.2.1 .ok,.root .ghost x.2.2.2.2.2.1 .ok,.root .int w0 .ok,.root .turn x.2.2.2.2.2.2.2.1 .ok])))
def ka(n:Nat):LS:=AI ⟨14,TP,[(.c 7 2,18,.task),(.c 7 3,19,.lock),(.c 7 4,20,.ghost),(.c 7 5,21,.int),(.c 7 8,22,.turn)],TQ,[2,4],TR⟩ 66 [2,4,54,55] 4144444144444444441111133333 (pD [.ptr 1 0,.ptr 7 0,.int,.int]) [q64,TS,.root .task,.root .lock,.root .ghost,.root .int,.root .turn] (fun m x k=>FV n m (⟨x.2.1.1,x.2.1.2.1,[],[],[],[],x.2.1.2.2.2.2.2.2.1,x.2.1.2.2.2.2.2.2.2.1,[]⟩:Sys) (⟨x.2.2.1.1,x.2.2.1.2.1,x.2.2.2.1,x.2.2.2.2.1,x.2.2.2.2.2.1,x.2.2.2.2.2.2.1,x.2.2.1.2.2.2.2.2.2.1,x.2.2.1.2.2.2.2.2.2.2.1,x.2.2.2.2.2.2.2.1⟩:Sys) x.1.2.2.1 x.1.2.2.2.1 (fun w0 w1 w2 w3 w4 w5 w6 w7 w8=>k (.exit 2) (eS 66 [2,4] [.ptr 1 0,.ptr 7 0] 4144444144444444441111133333 [DE.make q64 x.2.1,.box [.int w0,.int w1,.bor 18,.bor 19,.bor 20,.bor 21,.int w2,.int w3,.bor 22],.root .task w4 .ok,.root .lock w5 .ok,.root .ghost w6 .ok,.root .int w7 .ok,.root .turn w8 .ok])))
theorem bo(n:Nat):RO (bm n):=
 rL ⟨Go.Proofs.Tryz.f13,⟨[(0,[(0,.slot 0 .int),(1,.slot 1 .int)]),(1,[(1,cl 1 .bool 0)]),(3,[(1,q62),(2,.slot 7 .int)]),(6,[(0,TK)]),(7,[(0,TL)]),(11,[(5,q53),(11,cl 2 .int 0)]),(16,[(1,TM)])],[(11,dr 14 [(0,[7],[]),(1,[7],[]),(3,[7],[]),(5,[13,14,15,16,17],[]),(6,[7],[]),(7,[7],[]),(9,[16],[]),(10,[16],[]),(12,[16],[]),(13,[16],[16])])],[]⟩,28⟩ [kZ n,ka n] n (ec (Fx n) (ec (Gt n) (ec (UA n) (ec (UD n) (ec (Pp n) (ec (T1 n) (ec (UC n) en))))))) Go.Proofs.Tryz.func13 (by kernel_rfl) ⟨AJ (fun m x k=>by kernel_rfl) (fun _ _=>rfl),AJ (fun m x k=>by kernel_rfl) (fun _ _=>rfl),trivial⟩ (fun x=>by kernel_rfl)
end Go.Proofs.YtbbgaleennfklaaGreat.VR
end
section
set_option linter.unusedVariables false
set_option linter.unusedSimpArgs false
namespace Go.Proofs.YtbbgaleennfklaaGreat.VR
open Go
theorem BS(a b c:Int):Ap a b c=some (decide (b≤a∧a≤c),()):=by
 simp only[Ap,Bt];exact Be (by simp[BB])
theorem BI(a b c:Int):Ag a b c=some (decide (b≤a∧a≤c),()):=by
 simp only[Ag,Bt];exact Be (by simp[BB])
theorem KA(a:Int):HO a=some (decide (1≤a∧a≤1000),()):=by simp only[HO,BS,Option.bind_some]
theorem Mr(a:Int):FH a=some (decide (0≤a∧a≤100000),()):=by simp only[FH,BS,Option.bind_some]
theorem SE(a:Int):HP a=some (decide (0≤a∧a≤100040),()):=by simp only[HP,BS,Option.bind_some]
theorem PD(a:Int):GH a=some (decide (0≤a∧a≤1000000),()):=by simp only[GH,BS,Option.bind_some]
theorem O7(a:Int):FF a=some (decide (Bz a),()):=by simp only[FF,BS,Option.bind_some,Bz]
theorem QE(a:Int):GR a=some (decide (Bz a),()):=by simp only[GR,BI,Option.bind_some,Bz]
theorem Mp(s:Share):FG s=some (decide (Av s),()):=by
 simp only[FG,BS,Option.bind_some,Bt];exact Be (by simp[BB,Av])
theorem KX(s:Share):GS s=some (decide (Av s),()):=by
 simp only[GS,BI,Option.bind_some,Bt];exact Be (by simp[BB,Av])
theorem VG(a b:Int):GV a b=some (if a<b then a else b,()):=by
 simp only[GV,BA];split<;>rfl
theorem Dw(t:Task):Dn t=some (decide (TaskOk t),()):=by
 simp only[Dn,KA,BS,Mp,SE,PD,O7,Option.bind_some,Bt];refine Be ?_;rw[QR,OB,Ox,Ot]
 by_cases s1:t.State=1<;>by_cases s2:t.State=2
 ·omega
 all_goals
  by_cases h1:t.Class=1
  ·simp[BB,h1,s1,s2]<;>(try simp only[Av])<;>first|omega|(intros;trivial)
  · by_cases h2:t.Class=2
    · by_cases hr:t.Round<1
      ·simp[BB,h2,s1,s2,hr]<;>omega
      ·simp[BB,h2,s1,s2,hr]<;>omega
    · by_cases h3:t.Class=3
      ·simp[BB,h3,s1,s2]<;>(try simp only[Bz])<;>first|omega|(intros;trivial)
      ·simp[BB,h1,h2,h3,s1,s2]<;>omega
theorem nO(t:Task):Me t=some (decide (
 (t.Class=1→t.Prio=0∧t.Round=0∧t.Seq=0∧t.Nice=0∧t.V=0)∧(t.Class=2→t.Q=0∧t.P=0∧t.Due=0∧t.Nice=0∧t.V=0)∧
 (t.Class≠1→t.Class≠2→t.Q=0∧t.P=0∧t.Due=0∧t.Prio=0∧t.Round=0∧t.Seq=0∧t.Left=0)),()):=by
 simp only[Me,Bt];refine Be ?_
 by_cases h1:t.Class=1
 ·by_cases a:t.Prio=0<;>by_cases b:t.Round=0<;>by_cases c:t.Nice=0<;>by_cases d:t.Q=0<;>by_cases e:t.P=0<;>simp[BB,h1,a,b,c,d,e]
 · by_cases h2:t.Class=2
   ·by_cases a:t.Prio=0<;>by_cases b:t.Round=0<;>by_cases c:t.Nice=0<;>by_cases d:t.Q=0<;>by_cases e:t.P=0<;>simp[BB,h2,a,b,c,d,e]
   ·by_cases a:t.Prio=0<;>by_cases b:t.Round=0<;>by_cases c:t.Nice=0<;>by_cases d:t.Q=0<;>by_cases e:t.P=0<;>simp[BB,h1,h2,a,b,c,d,e]
theorem EH(t:Task):Dp t=some (decide (TaskOk t),()):=by
 simp only[Dp,BI,KX,QE,nO,VG,Option.bind_some,Bt];refine Be ?_;rw[QR,OB,Ox,Ot]
 by_cases s1:t.State=1<;>by_cases s2:t.State=2
 ·omega
 all_goals
  by_cases h1:t.Class=1
  ·simp[BB,h1,s1,s2]<;>(try simp only[Av])<;>first|omega|(intros;trivial)
  · by_cases h2:t.Class=2
    · by_cases hr:t.Round<1
      ·simp[BB,h2,s1,s2,hr]<;>omega
      ·simp[BB,h2,s1,s2,hr]<;>omega
    · by_cases h3:t.Class=3
      ·simp[BB,h3,s1,s2]<;>(try simp only[Bz])<;>first|omega|(intros;trivial)
      ·simp[BB,h1,h2,h3,s1,s2]<;>omega
theorem Xt(a b:Task):HJ a b=some (decide (Before a b),()):=by
 by_cases ha:TaskOk a
 · by_cases hb:TaskOk b
   · simp only[HJ,OI,OK,OJ,EP,GG,Do,Dw,ha,hb,decide_true,Bool.not_true,cond_false,Option.bind_some,Bt]
     refine Be ?_;rw[E9];rcases ha.class with h1|h1|h1<;>rcases hb.class with h2|h2|h2<;>simp[BB,ha,hb,h1,h2]<;>
      first|omega|(by_cases e1:a.Prio=b.Prio<;>by_cases e2:a.Seq=b.Seq<;>simp[e1,e2]<;>omega)|(intros;trivial)
   ·simp[HJ,Dw,E9,hb]
 ·simp[HJ,Dw,E9,ha]
theorem U5(a b:Task):GO a b=some (decide (Before a b),()):=by
 by_cases ha:TaskOk a
 · by_cases hb:TaskOk b
   · simp only[GO,Ol,On,Om,EV,GW,DX,EH,ha,hb,decide_true,Bool.not_true,cond_false,cond_true,Option.bind_some,Bt]
     refine Be ?_;rw[E9];rcases ha.class with h1|h1|h1<;>rcases hb.class with h2|h2|h2<;>simp[BB,ha,hb,h1,h2]<;>
      first|omega|(by_cases e1:a.Prio=b.Prio<;>by_cases e2:a.Seq=b.Seq<;>simp[e1,e2]<;>omega)|(intros;trivial)
   ·simp[GO,EH,E9,hb]
 ·simp[GO,EH,E9,ha]
end Go.Proofs.YtbbgaleennfklaaGreat.VR
end
section
set_option linter.unusedVariables false
set_option linter.unusedSimpArgs false
namespace Go.Proofs.YtbbgaleennfklaaGreat.VR
open Go
end Go.Proofs.YtbbgaleennfklaaGreat.VR
end
section
set_option linter.unusedVariables false
set_option linter.unusedSimpArgs false
namespace Go.Proofs.YtbbgaleennfklaaGreat.VR
open Go
theorem Na{xs:List Int}{x:Int}{n:Nat}(hn:xs.length<n)(hb:xs.length≤lim):FM n xs x=some (decide (x∈xs),()):=by
 unfold FM
 by_cases hx:x∈xs
 · rw[decide_eq_true hx]
   refine AU (l:=fun m i=>Ej n m xs x (i:Int) (some (true,())) (some (false,()))) (len:=xs.length) (fun i=>x∉xs.take i) (by simp) (fun m hI=> ?_) (fun m i hi hI=> ?_) hn
   ·rw[List.take_length]at hI;exact absurd hx hI
   · by_cases e:xs[i]=x
     · right
       simp only[Ej,AD hi,AF,Bool.and_self,cond_true,AE hi,decide_eq_true e]
     · left
       refine⟨?_,?_⟩
       ·simp only[Ej,AD hi,AF,Bool.and_self,cond_true,AE hi,decide_eq_false e,cond_false,AG (Nat.lt_trans hi (AQ hb))]
       · rw[List.take_succ_eq_append_getElem hi,List.mem_append,not_or]
         exact⟨hI,by simpa using fun h=>e h.symm⟩
 · rw[decide_eq_false hx]
   refine AU (l:=fun m i=>Ej n m xs x (i:Int) (some (true,())) (some (false,()))) (len:=xs.length) (fun _=>True) trivial (fun m _=> ?_) (fun m i hi _=>.inl ⟨?_,trivial⟩) hn
   ·simp only[Ej,AP,cond_false]
   · have e: ¬xs[i]=x:=fun e=>hx (e▸List.getElem_mem hi)
     simp only[Ej,AD hi,AF,Bool.and_self,cond_true,AE hi,decide_eq_false e,cond_false,AG (Nat.lt_trans hi (AQ hb))]
theorem U2{xs:List Int}{x:Int}{n:Nat}(hn:xs.length<n)(hb:xs.length≤lim):Jq n xs x=some (idx (xs.findIdx? fun y=>decide (x=y)),()):=by
 unfold Jq;have:=CT (l:=fun m i=>IJ n m xs x (xs.length:Int) i (fun w5=>some (w5,())) (some (-1,()))) (xs:=xs) (p:=fun y=>decide (x=y)) (k0:=fun w5=>some (w5,())) (k1:=some (-1,()))
  (fun m=>by simp only[IJ,AP,cond_false])
  (fun m i hi=>by simp only[IJ,AD hi,AF,Bool.and_self,cond_true,AE hi,AG (Nat.lt_trans hi (AQ hb))]) (m:=n) hn
 refine this.trans ?_;cases xs.findIdx? fun y=>decide (x=y)<;>rfl
theorem Ir{xs:List Int}{x:Int}{n:Nat}(hn:xs.length<n)(hb:xs.length≤lim):GM n xs x=some (decide (x∈xs),()):=by
 simp only[GM,U2 hn hb,Option.bind_some,FP];refine congrArg (fun b=>some (b,())) (OE ?_)
 rw[List.findIdx?_isSome];simp
theorem E0{l:List Lock}{no:Int}{B n:Nat}(h:LSmall B l)(hn:B<n)(hb:B≤lim):DW n l no=some (idx (Bf l no),()):=by
 unfold DW Bf;have:=CT (l:=fun m i=>IQ n m l no i (fun w5=>some (w5,())) (some (-1,()))) (xs:=l) (p:=fun k=>decide (no∈k.Waits)) (k0:=fun w5=>some (w5,())) (k1:=some (-1,()))
  (fun m=>by simp only[IQ,AP,cond_false])
  (fun m i hi=>by
    have hw:=h.waits _ (List.getElem_mem hi);have hl:=h.len;have e:=Na (xs:=l[i].Waits) (x:=no) (n:=n) (by omega) (by omega)
    simp only[IQ,AD hi,AF,Bool.and_self,cond_true,AE hi,e,Option.bind_some,AG (Nat.lt_trans hi (AQ (Nat.le_trans hl hb)))]) (m:=n) (by have:=h.len;omega)
 refine this.trans ?_;cases l.findIdx? fun k=>decide (no∈k.Waits)<;>rfl
theorem Dx{l:List Lock}{no:Int}{B n:Nat}(h:LSmall B l)(hn:B<n)(hb:B≤lim):DU n l no=some (idx (Bf l no),()):=by
 have:L5 n l no=some (idx (Bf l no),()):=by
  unfold L5 Bf;have:=CT (l:=fun m i=>ID n m l no (l.length:Int) i (fun w5=>some (w5,())) (some (-1,()))) (xs:=l) (p:=fun k=>decide (no∈k.Waits)) (k0:=fun w5=>some (w5,())) (k1:=some (-1,()))
   (fun m=>by simp only[ID,AP,cond_false])
   (fun m i hi=>by
     have hw:=h.waits _ (List.getElem_mem hi);have hl:=h.len;have e:=Ir (xs:=l[i].Waits) (x:=no) (n:=n) (by omega) (by omega)
     simp only[ID,OS,AD hi,AF,Bool.and_self,cond_true,AE hi,e,Option.bind_some,AG (Nat.lt_trans hi (AQ (Nat.le_trans hl hb)))]) (m:=n) (by have:=h.len;omega)
  refine this.trans ?_;cases l.findIdx? fun k=>decide (no∈k.Waits)<;>rfl
 simp only[DU,this,Option.bind_some]
theorem Q9{α:Type}{l:List Lock}{B n:Nat}(hl:LSmall B l)(hn:B+1<n)(hb:B+1≤lim){k0 k1:List Int→Option α}{a0:Int}:
 ∀(c t:List Int) (no:Int) (m:Nat),Ay l a0=some (t++c)→Ay l no=some c→c.length<m→D1 n m l no (a0::t) k0 k1=k0 (a0::(t++c))
 | [],t,no,m,h1,h2,hm=>by
   obtain⟨m,rfl⟩: ∃q,m=q+1:=⟨m-1,by simp at hm;omega⟩
   rcases Gq l no with⟨e1,e2⟩|⟨i,e1,hi,e2⟩
   ·simp only[D1,Dx hl (show B<n by omega) (show B≤lim by omega),Option.bind_some,e1,Cq,Option.isNone_none,cond_true,List.append_nil]
   · rw[N7 e2]at h2
     obtain⟨_,_,h⟩:=Option.map_eq_some_iff.1 h2;cases h
 |o::c,t,no,m,h1,h2,hm=>by
  obtain⟨m,rfl⟩: ∃q,m=q+1:=⟨m-1,by simp at hm;omega⟩
  rcases Gq l no with⟨e1,e2⟩|⟨i,e1,hi,e2⟩
  ·rw[Kp e2]at h2;cases h2
  · rw[N7 e2]at h2
    obtain⟨c',h3,h4⟩:=Option.map_eq_some_iff.1 h2;injection h4 with h4 h5
    subst h5;have hnd:=N8 h1;have hsh:=GB h1;have hlen:=hl.len;have hnot: ¬o∈a0::t:=by
     intro hm;rw[show a0::(t++o::c')=(a0::t)++o::c' by rfl,List.nodup_append]at hnd
     exact hnd.2.2 o hm o (List.mem_cons_self ..) rfl
    simp at hsh;have e3:=Ir (xs:=a0::t) (x:=l[i].Owner) (n:=n) (by simp;omega) (by simp;omega)
    have e4:decide ((a0::t).length+[l[i].Owner].length≤lim)=true:=decide_eq_true (by simp;omega)
    rw[h4]at e3 e4;have e5:=Q9 hl hn hb c' (t++[o]) o m (by rw[List.append_assoc];exact h1) (by rw[←h4];exact h3) (by simp at hm;omega) (k0:=k0) (k1:=k1)
    simp only[D1,Dx hl (show B<n by omega) (show B≤lim by omega),Option.bind_some,e1,Cq,Option.isNone_some,cond_false,Er,idx,AF,AD hi,Bool.and_self,cond_true,AE hi,h4,e3,decide_eq_false hnot,e4]
    rw[show(a0::t)++[o]=a0::(t++[o]) by rfl,e5,List.append_assoc];rfl
theorem W0{α:Type}{l:List Lock}{B n:Nat}(hl:LSmall B l)(hn:B+1<n)(hb:B+1≤lim){k0 k1:List Int→Option α}{a0:Int}:
 ∀(d:Nat) (t:List Int) (no:Int) (m:Nat),t.length+d=l.length→Ay l no=none→(a0::t).Nodup→(∀x∈t,x∈l.map (·.Owner))→d<m→ ∃w,D1 n m l no (a0::t) k0 k1=k1 w:=by
 intro d
 induction d with
 |zero=>
  intro t no m hd h2 hnd hs hm;obtain⟨m,rfl⟩: ∃q,m=q+1:=⟨m-1,by omega⟩
  rcases Gq l no with⟨e1,e2⟩|⟨i,e1,hi,e2⟩
  ·rw[Kp e2]at h2;cases h2
  · have hlen:=hl.len
    have hin:l[i].Owner∈a0::t:=by
     apply Classical.byContradiction;intro hno;have h3:=M5 (c:=l[i].Owner::t) (L:=l.map (·.Owner)) (List.nodup_cons.2 ⟨fun h=>hno (List.mem_cons_of_mem _ h),(List.nodup_cons.1 hnd).2⟩) (fun x hx=>by
      rcases List.mem_cons.1 hx with rfl|hx
      ·exact Pc e2
      ·exact hs x hx)
     simp at h3;omega
    have e3:=Ir (xs:=a0::t) (x:=l[i].Owner) (n:=n) (by simp;omega) (by simp;omega)
    refine⟨a0::t,?_⟩;simp only[D1,Dx hl (show B<n by omega) (show B≤lim by omega),Option.bind_some,e1,Cq,Option.isNone_some,cond_false,Er,idx,AF,AD hi,Bool.and_self,cond_true,AE hi,e3,decide_eq_true hin]
 |succ d ih=>
  intro t no m hd h2 hnd hs hm;obtain⟨m,rfl⟩: ∃q,m=q+1:=⟨m-1,by omega⟩
  rcases Gq l no with⟨e1,e2⟩|⟨i,e1,hi,e2⟩
  ·rw[Kp e2]at h2;cases h2
  · have hlen:=hl.len
    have e3:=Ir (xs:=a0::t) (x:=l[i].Owner) (n:=n) (by simp;omega) (by simp;omega)
    by_cases hin:l[i].Owner∈a0::t
    · refine⟨a0::t,?_⟩
      simp only[D1,Dx hl (show B<n by omega) (show B≤lim by omega),Option.bind_some,e1,Cq,Option.isNone_some,cond_false,Er,idx,AF,AD hi,Bool.and_self,cond_true,AE hi,e3,decide_eq_true hin]
    · have h3:Ay l l[i].Owner=none:=by
       rw[N7 e2]at h2;exact Option.map_eq_none_iff.1 h2
      have e4:decide ((a0::t).length+[l[i].Owner].length≤lim)=true:=decide_eq_true (by simp;omega)
      obtain⟨w,hw⟩:=ih (t++[l[i].Owner]) l[i].Owner m (by simp;omega) h3 (by
       rw[show a0::(t++[l[i].Owner])=(a0::t)++[l[i].Owner] by rfl,List.nodup_append]
       exact⟨hnd,by simp,fun x hx y hy e=>by simp at hy;subst hy;subst e;exact hin hx⟩) (fun x hx=>by
       rcases List.mem_append.1 hx with hx|hx
       ·exact hs x hx
       ·simp at hx;subst hx;exact Pc e2) (by omega)
      refine⟨w,?_⟩;simp only[D1,Dx hl (show B<n by omega) (show B≤lim by omega),Option.bind_some,e1,Cq,Option.isNone_some,cond_false,Er,idx,AF,AD hi,Bool.and_self,cond_true,AE hi,e3,decide_eq_false hin,e4]
      exact hw
theorem O9{l:List Lock}{no:Int}{B n:Nat}(hl:LSmall B l)(hn:B+1<n)(hb:B+1≤lim):HM n l no=some (match Ay l no with|some c=>(no::c,true,())|none=>([],false,()),()):=by
 unfold HM;have hlen:=hl.len;cases e:Ay l no with
 |some c=>
  have hs:=GB e;exact Q9 hl hn hb c [] no n e e (by omega)
 |none=>
  obtain⟨w,hw⟩:=W0 hl hn hb (k0:=fun w7=>some ((w7,true,()),())) (k1:=fun w8=>some (([],false,()),())) (a0:=no) l.length [] no n (by simp) e (by simp) (fun x hx=>by cases hx) (by omega)
  exact hw
theorem VB{α:Type}{l:List Lock}{B n:Nat}(hl:LSmall B l)(hn:B+1<n)(hb:B+2≤lim){k0 k1:List Int→Option α}:
 ∀(d i:Nat) (no:Int) (out:List Int) (m:Nat),i+d=l.length+1→out.length=i+1→d<m→(∀c,Ak l d no=some c→Dc n m l no out (i:Int) k0 k1=k0 (out++c))∧(Ak l d no=none→ ∃w,Dc n m l no out (i:Int) k0 k1=k1 w):=by
 intro d
 induction d with
 |zero=>
  intro i no out m hd ho hm;obtain⟨m,rfl⟩: ∃q,m=q+1:=⟨m-1,by omega⟩
  refine⟨fun c h=>(by cases h),fun _=>⟨out,?_⟩⟩
  have:decide ((i:Int)≤(l.length:Int))=false:=decide_eq_false (by omega)
  simp only[Dc,this,cond_false]
 |succ d ih=>
  intro i no out m hd ho hm;obtain⟨m,rfl⟩: ∃q,m=q+1:=⟨m-1,by omega⟩
  have hlen:=hl.len;have h0:decide ((i:Int)≤(l.length:Int))=true:=decide_eq_true (by omega)
  rcases Gq l no with⟨e1,e2⟩|⟨j,e1,hj,e2⟩
  · have h3:Ak l (d+1) no=some []:=by unfold Ak;rw[e2]
    have h4:Dc n (m+1) l no out (i:Int) k0 k1=k0 out:=by
     simp only[Dc,h0,cond_true,E0 hl (show B<n by omega) (show B≤lim by omega),Option.bind_some,e1,Cq,Option.isNone_none]
    refine⟨fun c h=> ?_,fun h=>by rw[h3]at h;cases h⟩
    rw[h3]at h;injection h with h;subst h
    rw[h4,List.append_nil]
  · have h3:Ak l (d+1) no=(Ak l d l[j].Owner).map (l[j].Owner:: ·):=by
     show(match next l no with|none=>some []|some o=>(Ak l d o).map (o:: ·))=_
     rw[e2]
    have e4:decide (out.length+[l[j].Owner].length≤lim)=true:=decide_eq_true (by simp;omega)
    have h4:Dc n (m+1) l no out (i:Int) k0 k1=Dc n m l l[j].Owner (out++[l[j].Owner]) ((i+1:Nat):Int) k0 k1:=by
     have hi:i<Aa:=by unfold lim at hb;unfold Aa;omega
     simp only[Dc,h0,cond_true,E0 hl (show B<n by omega) (show B≤lim by omega),Option.bind_some,e1,Cq,Option.isNone_some,cond_false,Er,idx,AF,AD hj,Bool.and_self,AE hj,e4,AG hi]
    obtain⟨g1,g2⟩:=ih (i+1) l[j].Owner (out++[l[j].Owner]) m (by omega) (by simp;omega) (by omega)
    rw[h3,h4];refine⟨fun c h=> ?_,fun h=>g2 (Option.map_eq_none_iff.1 h)⟩
    obtain⟨c',h5,rfl⟩:=Option.map_eq_some_iff.1 h;rw[g1 c' h5,List.append_assoc];rfl
theorem NZ{l:List Lock}{no:Int}{B n:Nat}(hl:LSmall B l)(hn:B+2<n)(hb:B+2≤lim){c:List Int}(h:Ay l no=some c):GX n l no=some ((no::c,true,()),()):=by
 have hlen:=hl.len;exact(VB hl (show B+1<n by omega) hb (l.length+1) 0 no [no] n (by omega) rfl (by omega)).1 c h
theorem QJ{l:List Lock}{no:Int}{B n:Nat}(hl:LSmall B l)(hn:B+2<n)(hb:B+2≤lim)(h:Ay l no=none): ∃w,GX n l no=some ((w,false,()),()):=by
 have hlen:=hl.len;exact(VB hl (show B+1<n by omega) hb (k0:=fun w7=>some ((w7,true,()),())) (k1:=fun w8=>some ((w8,false,()),())) (l.length+1) 0 no [no] n (by omega) rfl (by omega)).2 h
end Go.Proofs.YtbbgaleennfklaaGreat.VR
end
