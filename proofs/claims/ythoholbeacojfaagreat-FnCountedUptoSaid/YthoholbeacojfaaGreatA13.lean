/- Functions, printed by program (wip/gen/emit.py). -/
import Derived.Test.YthoholbeacojfaaGreatA12
set_option linter.unusedVariables false
set_option linter.unusedSimpArgs false
set_option linter.unusedSectionVars false
section
set_option linter.unusedVariables false
set_option maxRecDepth 100000
namespace Go.Proofs.YthoholbeacojfaaGreat.VR
open Go
def JW{α:Type}(n:Nat):Nat→List Lock→Int→Int→Int→(Int→Option α)→(Option α)→Option α|0,_,_,_,_,_,_=>none|m0+1,v1,v2,v3,v4,k0_0,k0_1=>cond (decide (v4<v3)) (cond (decide (0≤v4)&&decide (v4<(v1.length:Int))) ((QT n (List.getD v1 (Int.toNat v4) (Kd.dflt .lock)) v2).bind fun r5=>cond r5.1 (k0_0 v4) (JW n m0 v1 v2 v3 (w64 (v4+1)) k0_0 k0_1)) none) k0_1
def Nl(n:Nat)(a0:List Lock)(a1_0_0:Int):Option (Int×Unit):=JW n n a0 a1_0_0 (a0.length:Int) 0 (fun w6=>some (w6,())) (some ((-1),()))
def lX(n:Nat):Rw:=⟨94,pV [.ro .lock,.clo 95 (pD [.rp (pD [.int]) 0])],pS [.int],fun x=>Nl n x.1.2 x.2.1.1.1⟩
def qT(n:Nat):LS:=AN ⟨2,[0,1,7,8],[],[],[4],[]⟩ 19 [0,1,7,8] 0 (pD [.ro .lock,.clo 95 (pD [.rp (pD [.int]) 0]),.int,.int]) [] (fun m x k=>JW n m x.1.1.2 x.1.2.1.1.1 x.1.2.2.1 x.1.2.2.2.1 (fun w0=>k .ret (eS 19 [4] [.int w0] 0 [])) (k (.exit 0) (eS 19 [] [] 0 [])))
theorem lY(n:Nat):RO (lX n):=
 rL ⟨Go.Proofs.Tryz.f94,⟨[(4,[(5,cl 1 .bool 0)])],[],[]⟩,0⟩ [qT n] n (ec (iy n) en) Go.Proofs.Tryz.func94 (by kernel_rfl) ⟨AO (fun m x k=>by kernel_rfl) (fun _ _=>rfl),trivial⟩ (fun x=>by kernel_rfl)
def Dk(n:Nat)(a0:List Lock)(a1:Int):Option (Int×Unit):=(Nl n a0 a1).bind fun r1=>some (r1.1,())
def iv(n:Nat):Rw:=⟨20,pV [.ro .lock,.int],pS [.int],fun x=>Dk n x.1.2 x.2.1⟩
theorem G6(n:Nat):RO (iv n):=
 rE ⟨Go.Proofs.Tryz.f20,⟨[(0,[(0,.slot 0 .int)]),(1,[(2,cl 2 .int 0)])],[],[]⟩,1⟩ n (ec (lY n) en) Go.Proofs.Tryz.func20 (by kernel_rfl) (fun x=>by kernel_rfl)
def E6{α:Type}(n:Nat):Nat→List Lock→Int→List Int→(List Int→Option α)→(List Int→Option α)→Option α|0,_,_,_,_,_=>none|m0+1,v1,v2,v3,k0_0,k0_1=>(Dk n v1 v2).bind fun r4=>cond (decide (r4.1<0)) (k0_0 v3) (cond (decide (0≤r4.1)&&decide (r4.1<(v1.length:Int))) ((GK n v3 ((List.getD v1 (Int.toNat r4.1) (Kd.dflt .lock)).Owner)).bind fun r5=>cond r5.1 (k0_1 v3) (let e6:=([(List.getD v1 (Int.toNat r4.1) (Kd.dflt .lock)).Owner]:List Int);cond (decide ((v3).length+(e6).length≤lim)) (E6 n m0 v1 ((List.getD v1 (Int.toNat r4.1) (Kd.dflt .lock)).Owner) (v3++e6) k0_0 k0_1) none)) none)
def Iu(n:Nat)(a0:List Lock)(a1:Int):Option ((List Int×Bool×Unit)×Unit):=E6 n n a0 a1 ([a1]:List Int) (fun w7=>some ((w7,true,()),())) (fun w8=>some (([],false,()),()))
def i8(n:Nat):Rw:=⟨149,pV [.ro .lock,.int],q11,fun x=>Iu n x.1.2 x.2.1⟩
def py(n:Nat):LS:=AN ⟨2,[0,1,6],[(.t 6,1,.int)],[2,3],[4,5],[1,2,3]⟩ 28 [0,1,6] 4133 (pD [.ro .lock,.int,.bor 1]) [.root .int] (fun m x k=>E6 n m x.1.1.2 x.1.2.1 x.2.1 (fun w0=>k .ret (eS 28 [4,5] [.bor 1,.bool true] 4133 [.root .int w0 .ok])) (fun w0=>k .ret (eS 28 [4,5] [.nil,.bool false] 4133 [.root .int w0 .ok])))
theorem R4(n:Nat):RO (i8 n):=
 rL ⟨Go.Proofs.Tryz.f149,⟨[(1,[(1,.slot 0 .int)]),(2,[(2,cl 2 .int 0)]),(6,[(2,cl 2 .bool 0)]),(8,[(2,.slot 2 .int),(3,.slot 3 .int)])],[],[]⟩,4⟩ [py n] n (ec (G6 n) (ec (L8 n) en)) Go.Proofs.Tryz.func149 (by kernel_rfl) ⟨AO (fun m x k=>by kernel_rfl) (fun _ _=>rfl),trivial⟩ (fun x=>by kernel_rfl)
def E3{α:Type}(n:Nat):Nat→List Lock→List Int→List Lock→Int→Int→List Int→Int→Int→(List Int→Option α)→(List Int→Option α)→Option α|0,_,_,_,_,_,_,_,_,_,_=>none|m1+1,v10,v11,v12,v13,v14,v15,v16,v17,k1_0,k1_1=>cond (decide (v17<v16)) (cond (decide (0≤v17)&&decide (v17<(v15.length:Int))) ((Iw (List.getD v15 (Int.toNat v17) (Kd.dflt .int))).bind fun r18=>cond (!r18.1) (k1_0 v11) ((GK n v11 (List.getD v15 (Int.toNat v17) (Kd.dflt .int))).bind fun r19=>cond r19.1 (k1_0 v11) (let e20:=([(List.getD v15 (Int.toNat v17) (Kd.dflt .int))]:List Int);cond (decide ((v11).length+(e20).length≤lim)) (E3 n m1 v10 (v11++e20) v12 v13 v14 v15 v16 (w64 (v17+1)) k1_0 k1_1) none))) none) (k1_1 v11)
def DW{α:Type}(n:Nat):Nat→List Lock→List Int→List Lock→Int→Int→(List Int→Option α)→(List Int→Option α)→(List Int→Option α)→Option α|0,_,_,_,_,_,_,_,_=>none|m0+1,v1,v2,v3,v4,v5,k0_0,k0_1,k0_2=>cond (decide (v5<v4)) (cond (decide (0≤v5)&&decide (v5<(v3.length:Int))) ((BA ((List.getD v3 (Int.toNat v5) (Kd.dflt .lock)).Owner) 0 1000).bind fun r6=>cond (!r6.1) (k0_0 v2) (let e7:=(decide ((List.getD v3 (Int.toNat v5) (Kd.dflt .lock)).Owner=0));cond e7 (let e8:=(((List.getD v3 (Int.toNat v5) (Kd.dflt .lock)).Waits).length:Int);cond (decide (0<e8)) (k0_0 v2) (let e9:=(((List.getD v3 (Int.toNat v5) (Kd.dflt .lock)).Waits).length:Int);E3 n n v1 v2 v3 v4 v5 ((List.getD v3 (Int.toNat v5) (Kd.dflt .lock)).Waits) e9 0 (fun w21=>k0_1 w21) (fun w22=>DW n m0 v1 w22 v3 v4 (w64 (v5+1)) k0_0 k0_1 k0_2))) (let e23:=(((List.getD v3 (Int.toNat v5) (Kd.dflt .lock)).Waits).length:Int);E3 n n v1 v2 v3 v4 v5 ((List.getD v3 (Int.toNat v5) (Kd.dflt .lock)).Waits) e23 0 (fun w24=>k0_1 w24) (fun w25=>DW n m0 v1 w25 v3 v4 (w64 (v5+1)) k0_0 k0_1 k0_2)))) none) (k0_2 v2)
def Ht{α:Type}(n:Nat):Nat→List Lock→List Int→Int→Int→(Option α)→(Option α)→Option α|0,_,_,_,_,_,_=>none|m2+1,v29,v30,v31,v32,k2_0,k2_1=>cond (decide (v32<v31)) (cond (decide (0≤v32)&&decide (v32<(v30.length:Int))) ((Iu n v29 (List.getD v30 (Int.toNat v32) (Kd.dflt .int))).bind fun r33=>cond (!r33.1.2.1) k2_0 (Ht n m2 v29 v30 v31 (w64 (v32+1)) k2_0 k2_1)) none) k2_1
def GF(n:Nat)(a0:List Lock):Option (Bool×Unit):=DW n n a0 ([]:List Int) a0 (a0.length:Int) 0 (fun w26=>some (false,())) (fun w27=>some (false,())) (fun w28=>Ht n n a0 w28 (w28.length:Int) 0 (some (false,())) (some ((decide ((a0.length:Int)≤5)),())))
def gc(n:Nat):Rw:=⟨76,pV [.ro .lock],pS [.bool],fun x=>GF n x.1.2⟩
def pd(n:Nat):LS:=AN ⟨3,([0,3,13,14,15]),[(.t 3,1,.int)],[2,3,4,5],[0,2,3],[1,3,4,5]⟩ 73 [0,3,13,14,15] 413333 (pD [.ro .lock,.bor 1,.ro .lock,.int,.int]) [.root .int] (fun m x k=>DW n m x.1.1.2 x.2.1 x.1.2.2.1.2 x.1.2.2.2.1 x.1.2.2.2.2.1 (fun w0=>k .ret (eS 73 [0,2,3] [.ro x.1.1.1 .lock x.1.1.2,.bool false,.bor 1] 414133 [.root .int w0 .ok,.fresh])) (fun w0=>k .ret (eS 73 [0,2,3] [.ro x.1.1.1 .lock x.1.1.2,.bool false,.bor 3] 414133 [.dead,.root .int w0 .ok])) (fun w0=>k (.exit 0) (eS 73 [0,3] [.ro x.1.1.1 .lock x.1.1.2,.bor 1] 414133 [.root .int w0 .ok,.fresh])))
def pe(n:Nat):LS:=AN ⟨8,([0,3,13,14,15,35,36,37]),[(.t 3,3,.int)],[4,5],([0,2,3,13,14,15]),[3,4,5]⟩ 73 [0,3,13,14,15,35,36,37] 444133 (pD [.ro .lock,.bor 3,.ro .lock,.int,.int,.ro .int,.int,.int]) [.root .int] (fun m x k=>E3 n m x.1.1.2 x.2.1 x.1.2.2.1.2 x.1.2.2.2.1 x.1.2.2.2.2.1 x.1.2.2.2.2.2.1.2 x.1.2.2.2.2.2.2.1 x.1.2.2.2.2.2.2.2.1 (fun w0=>k .ret (eS 73 [0,2,3,13,14,15] [.ro x.1.1.1 .lock x.1.1.2,.bool false,.bor 3,.ro x.1.2.2.1.1 .lock x.1.2.2.1.2,.int x.1.2.2.2.1,.int x.1.2.2.2.2.1] 444133 [.root .int w0 .ok])) (fun w0=>k (.exit 2) (eS 73 [0,3,13,14,15] [.ro x.1.1.1 .lock x.1.1.2,.bor 3,.ro x.1.2.2.1.1 .lock x.1.2.2.1.2,.int x.1.2.2.2.1,.int x.1.2.2.2.2.1] 444133 [.root .int w0 .ok])))
def pf(n:Nat):LS:=AN ⟨16,([0,55,56,57]),[],[],[0,2],[3,4,5]⟩ 73 [0,55,56,57] 414333 (pD [.ro .lock,.bor 1,.int,.int]) [.root .int] (fun m x k=>Ht n m x.1.1.2 x.2.1 x.1.2.2.1 x.1.2.2.2.1 (k .ret (eS 73 [0,2] [.ro x.1.1.1 .lock x.1.1.2,.bool false] 444333 [])) (k (.exit 4) (eS 73 [0] [.ro x.1.1.1 .lock x.1.1.2] 444333 [])))
theorem L4(n:Nat):RO (gc n):=
 rL ⟨Go.Proofs.Tryz.f76,⟨[(1,[(0,.slot 0 .int)]),(4,[(2,.slot 2 .int)]),(5,[(2,cl 3 .bool 0)]),(10,[(1,cl 1 .bool 0),(6,cl 2 .bool 0)]),(12,[(2,.slot 4 .int),(3,.slot 5 .int)]),(18,[(2,q13)])],[],[]⟩,6⟩ [pd n,pe n,pf n] n (ec CI (ec R6 (ec (L8 n) (ec (R4 n) en)))) Go.Proofs.Tryz.func76 (by kernel_rfl) ⟨AO (fun m x k=>by kernel_rfl) (fun _ _=>rfl),AO (fun m x k=>by kernel_rfl) (fun _ _=>rfl),AO (fun m x k=>by kernel_rfl) (fun _ _=>rfl),trivial⟩ (fun x=>by kernel_rfl)
def QQ(a0:Task)(a1_0:Int):Option (Bool×Unit):=some ((decide (a0.No=a1_0)),())
def ic:Rw:=⟨98,pV [Au,.rp (pD [.int]) 0],pS [.bool],fun x=>QQ (AC x.1) x.2.1.1⟩
theorem ie:RO (ic):=
 rE ⟨Go.Proofs.Tryz.f98,⟨[(0,[(0,.slot 0 .int)])],[],[]⟩,1⟩ 0 en Go.Proofs.Tryz.func98 (by kernel_rfl) (fun x=>by kernel_rfl)
def Jb{α:Type}(n:Nat):Nat→List Task→Int→Int→Int→(Int→Option α)→(Option α)→Option α|0,_,_,_,_,_,_=>none|m0+1,v1,v2,v3,v4,k0_0,k0_1=>cond (decide (v4<v3)) (cond (decide (0≤v4)&&decide (v4<(v1.length:Int))) ((QQ (List.getD v1 (Int.toNat v4) (Kd.dflt .task)) v2).bind fun r5=>cond r5.1 (k0_0 v4) (Jb n m0 v1 v2 v3 (w64 (v4+1)) k0_0 k0_1)) none) k0_1
def Nm(n:Nat)(a0:List Task)(a1_0_0:Int):Option (Int×Unit):=Jb n n a0 a1_0_0 (a0.length:Int) 0 (fun w6=>some (w6,())) (some ((-1),()))
def ll(n:Nat):Rw:=⟨97,pV [.ro .task,.clo 98 (pD [.rp (pD [.int]) 0])],pS [.int],fun x=>Nm n x.1.2 x.2.1.1.1⟩
def qY(n:Nat):LS:=AN ⟨2,[0,1,7,8],[],[],[4],[]⟩ 19 [0,1,7,8] 0 (pD [.ro .task,.clo 98 (pD [.rp (pD [.int]) 0]),.int,.int]) [] (fun m x k=>Jb n m x.1.1.2 x.1.2.1.1.1 x.1.2.2.1 x.1.2.2.2.1 (fun w0=>k .ret (eS 19 [4] [.int w0] 0 [])) (k (.exit 0) (eS 19 [] [] 0 [])))
theorem lm(n:Nat):RO (ll n):=
 rL ⟨Go.Proofs.Tryz.f97,⟨[(4,[(5,cl 1 .bool 0)])],[],[]⟩,0⟩ [qY n] n (ec ie en) Go.Proofs.Tryz.func97 (by kernel_rfl) ⟨AO (fun m x k=>by kernel_rfl) (fun _ _=>rfl),trivial⟩ (fun x=>by kernel_rfl)
def Bu(n:Nat)(a0:List Task)(a1:Int):Option (Int×Unit):=(Nm n a0 a1).bind fun r1=>some (r1.1,())
def ib(n:Nat):Rw:=⟨22,pV [.ro .task,.int],pS [.int],fun x=>Bu n x.1.2 x.2.1⟩
theorem DM(n:Nat):RO (ib n):=
 rE ⟨Go.Proofs.Tryz.f22,⟨[(0,[(0,.slot 0 .int)]),(1,[(2,cl 2 .int 0)])],[],[]⟩,1⟩ n (ec (lm n) en) Go.Proofs.Tryz.func22 (by kernel_rfl) (fun x=>by kernel_rfl)
def E8{α:Type}(n:Nat):Nat→List Task→Int→List Int→Int→Int→(Option α)→(Option α)→Option α|0,_,_,_,_,_,_,_=>none|m0+1,v1,v2,v3,v4,v5,k0_0,k0_1=>cond (decide (v5<v4)) (cond (decide (0≤v5)&&decide (v5<(v3.length:Int))) (cond (decide ((List.getD v3 (Int.toNat v5) (Kd.dflt .int))=0)) (E8 n m0 v1 v2 v3 v4 (w64 (v5+1)) k0_0 k0_1) ((Bu n v1 (List.getD v3 (Int.toNat v5) (Kd.dflt .int))).bind fun r6=>cond (decide (r6.1<0)) k0_0 (cond (decide (0≤v2)) (cond (decide (0≤r6.1)&&decide (r6.1<(v1.length:Int))) (let e7:=(!(decide ((List.getD v1 (Int.toNat r6.1) (Kd.dflt .task)).Cpu=v2)));cond e7 k0_0 (cond (decide (0≤r6.1)&&decide (r6.1<(v1.length:Int))) (E8 n m0 v1 ((List.getD v1 (Int.toNat r6.1) (Kd.dflt .task)).Cpu) v3 v4 (w64 (v5+1)) k0_0 k0_1) none)) none) (cond (decide (0≤r6.1)&&decide (r6.1<(v1.length:Int))) (E8 n m0 v1 ((List.getD v1 (Int.toNat r6.1) (Kd.dflt .task)).Cpu) v3 v4 (w64 (v5+1)) k0_0 k0_1) none)))) none) k0_1
def NK(n:Nat)(a0:List Task)(a1:Lock):Option (Bool×Unit):=cond (decide ((([a1.Owner]:List Int)).length+(a1.Waits).length≤lim)) (E8 n n a0 (-1) (([a1.Owner]:List Int)++a1.Waits) (((([a1.Owner]:List Int)++a1.Waits)).length:Int) 0 (some (false,())) (some (true,()))) none
def jV(n:Nat):Rw:=⟨79,pV [.ro .task,KK],pS [.bool],fun x=>NK n x.1.2 (Ld x.2.1)⟩
def p9(n:Nat):LS:=AN ⟨3,([0,5,14,15,16]),[],[],[4],[]⟩ 46 [0,5,14,15,16] 441 (pD [.ro .task,.int,.bor 2,.int,.int]) [.root .int] (fun m x k=>E8 n m x.1.1.2 x.1.2.1 x.2.1 x.1.2.2.2.1 x.1.2.2.2.2.1 (k .ret (eS 46 [4] [.bool false] 444 [])) (k (.exit 0) (eS 46 [] [] 444 [])))
theorem jW(n:Nat):RO (jV n):=
 rL ⟨Go.Proofs.Tryz.f79,⟨[(0,[(0,.slot 0 .int)]),(2,[(2,.slot 1 .int),(5,.slot 2 .int)]),(6,[(2,cl 2 .int 0)])],[],[]⟩,3⟩ [p9 n] n (ec (DM n) en) Go.Proofs.Tryz.func79 (by kernel_rfl) ⟨AO (fun m x k=>by kernel_rfl) (fun _ _=>rfl),trivial⟩ (fun x=>by kernel_rfl)
def QN(n:Nat)(a0:Lock)(a1:Sys):Option (Bool×Unit):=(NK n a1.Tasks a0).bind fun r1=>some ((!r1.1),())
def iB(n:Nat):Rw:=⟨78,pV [KK,.rp Ah 0],pS [.bool],fun x=>QN n (Ld x.1) (AS x.2.1)⟩
theorem iC(n:Nat):RO (iB n):=
 rE ⟨Go.Proofs.Tryz.f78,⟨[(0,[(0,.slot 0 .int)]),(1,[(3,cl 2 .bool 0)])],[],[]⟩,1⟩ n (ec (jW n) en) Go.Proofs.Tryz.func78 (by kernel_rfl) (fun x=>by kernel_rfl)
def JV{α:Type}(n:Nat):Nat→List Lock→Sys→Int→Int→(Int→Option α)→(Option α)→Option α|0,_,_,_,_,_,_=>none|m0+1,v1,v2,v3,v4,k0_0,k0_1=>cond (decide (v4<v3)) (cond (decide (0≤v4)&&decide (v4<(v1.length:Int))) ((QN n (List.getD v1 (Int.toNat v4) (Kd.dflt .lock)) v2).bind fun r5=>cond r5.1 (k0_0 v4) (JV n m0 v1 v2 v3 (w64 (v4+1)) k0_0 k0_1)) none) k0_1
def Qa(n:Nat)(a0:List Lock)(a1_0:Sys):Option (Int×Unit):=JV n n a0 a1_0 (a0.length:Int) 0 (fun w6=>some (w6,())) (some ((-1),()))
def lV(n:Nat):Rw:=⟨94,pV [.ro .lock,.clo 78 (pD [.rp Ah 0])],pS [.int],fun x=>Qa n x.1.2 (AS x.2.1.1)⟩
def qS(n:Nat):LS:=AN ⟨2,[0,1,7,8],[],[],[4],[]⟩ 19 [0,1,7,8] 0 (pD [.ro .lock,.clo 78 (pD [.rp Ah 0]),.int,.int]) [] (fun m x k=>JV n m x.1.1.2 (AS x.1.2.1.1) x.1.2.2.1 x.1.2.2.2.1 (fun w0=>k .ret (eS 19 [4] [.int w0] 0 [])) (k (.exit 0) (eS 19 [] [] 0 [])))
theorem lW(n:Nat):RO (lV n):=
 rL ⟨Go.Proofs.Tryz.f94,⟨[(4,[(5,cl 1 .bool 0)])],[],[]⟩,0⟩ [qS n] n (ec (iC n) en) Go.Proofs.Tryz.func94 (by kernel_rfl) ⟨AO (fun m x k=>by kernel_rfl) (fun _ _=>rfl),trivial⟩ (fun x=>by kernel_rfl)
def Nc(n:Nat)(a0:List Lock)(a1_0:Sys):Option (Bool×Unit):=(Qa n a0 a1_0).bind fun r1=>some ((decide (0≤r1.1)),())
def kp(n:Nat):Rw:=⟨77,pV [.ro .lock,.clo 78 (pD [.rp Ah 0])],pS [.bool],fun x=>Nc n x.1.2 (AS x.2.1.1)⟩
theorem kq(n:Nat):RO (kp n):=
 rE ⟨Go.Proofs.Tryz.f77,⟨[(1,[(2,cl 2 .int 0)])],[],[]⟩,0⟩ n (ec (lW n) en) Go.Proofs.Tryz.func77 (by kernel_rfl) (fun x=>by kernel_rfl)
def NJ(a0:Ghost)(a1:Int):Option (Bool×Unit):=(BA a0.Cpu 0 (w64 (a1-1))).bind fun r1=>cond r1.1 ((GI a0.S).bind fun r2=>cond r2.1 ((Ix a0.Until).bind fun r3=>some (r3.1,())) (some (false,()))) (some (false,()))
def jL:Rw:=⟨82,pV [Ph,.int],pS [.bool],fun x=>NJ (Mg x.1) x.2.1⟩
theorem jM:RO (jL):=
 rE ⟨Go.Proofs.Tryz.f82,⟨[(0,[(0,.slot 0 .int)]),(1,[(4,cl 3 .bool 0),(8,cl 1 .bool 0),(13,cl 1 .bool 0)])],[],[]⟩,1⟩ 0 (ec CI (ec O6 (ec XG en))) Go.Proofs.Tryz.func82 (by kernel_rfl) (fun x=>by kernel_rfl)
def QO(a0:Ghost)(a1:Sys):Option (Bool×Unit):=(NJ a0 a1.Cpus).bind fun r1=>some ((!r1.1),())
def iD:Rw:=⟨81,pV [Ph,.rp Ah 0],pS [.bool],fun x=>QO (Mg x.1) (AS x.2.1)⟩
theorem iE:RO (iD):=
 rE ⟨Go.Proofs.Tryz.f81,⟨[(0,[(0,.slot 0 .int)]),(1,[(3,cl 2 .bool 0)])],[],[]⟩,1⟩ 0 (ec jM en) Go.Proofs.Tryz.func81 (by kernel_rfl) (fun x=>by kernel_rfl)
def JS{α:Type}(n:Nat):Nat→List Ghost→Sys→Int→Int→(Int→Option α)→(Option α)→Option α|0,_,_,_,_,_,_=>none|m0+1,v1,v2,v3,v4,k0_0,k0_1=>cond (decide (v4<v3)) (cond (decide (0≤v4)&&decide (v4<(v1.length:Int))) ((QO (List.getD v1 (Int.toNat v4) (Kd.dflt .ghost)) v2).bind fun r5=>cond r5.1 (k0_0 v4) (JS n m0 v1 v2 v3 (w64 (v4+1)) k0_0 k0_1)) none) k0_1
def QZ(n:Nat)(a0:List Ghost)(a1_0:Sys):Option (Int×Unit):=JS n n a0 a1_0 (a0.length:Int) 0 (fun w6=>some (w6,())) (some ((-1),()))
def lP(n:Nat):Rw:=⟨150,pV [.ro .ghost,.clo 81 (pD [.rp Ah 0])],pS [.int],fun x=>QZ n x.1.2 (AS x.2.1.1)⟩
def qP(n:Nat):LS:=AN ⟨2,[0,1,7,8],[],[],[4],[]⟩ 19 [0,1,7,8] 0 (pD [.ro .ghost,.clo 81 (pD [.rp Ah 0]),.int,.int]) [] (fun m x k=>JS n m x.1.1.2 (AS x.1.2.1.1) x.1.2.2.1 x.1.2.2.2.1 (fun w0=>k .ret (eS 19 [4] [.int w0] 0 [])) (k (.exit 0) (eS 19 [] [] 0 [])))
theorem lQ(n:Nat):RO (lP n):=
 rL ⟨Go.Proofs.Tryz.f150,⟨[(4,[(5,cl 1 .bool 0)])],[],[]⟩,0⟩ [qP n] n (ec iE en) Go.Proofs.Tryz.func150 (by kernel_rfl) ⟨AO (fun m x k=>by kernel_rfl) (fun _ _=>rfl),trivial⟩ (fun x=>by kernel_rfl)
def Nb(n:Nat)(a0:List Ghost)(a1_0:Sys):Option (Bool×Unit):=(QZ n a0 a1_0).bind fun r1=>some ((decide (0≤r1.1)),())
def kj(n:Nat):Rw:=⟨80,pV [.ro .ghost,.clo 81 (pD [.rp Ah 0])],pS [.bool],fun x=>Nb n x.1.2 (AS x.2.1.1)⟩
theorem kl(n:Nat):RO (kj n):=
 rE ⟨Go.Proofs.Tryz.f80,⟨[(1,[(2,cl 2 .int 0)])],[],[]⟩,0⟩ n (ec (lQ n) en) Go.Proofs.Tryz.func80 (by kernel_rfl) (fun x=>by kernel_rfl)
def Ga{α:Type}(n:Nat):Nat→Int→Sys→List Share→List Task→Int→Int→(List Share→Option α)→Option α|0,_,_,_,_,_,_,_=>none|m0+1,v1,v2,v3,v4,v5,v6,k0_0=>cond (decide (v6<v5)) (cond (decide (0≤v6)&&decide (v6<(v4.length:Int))) (let e7:=(decide ((List.getD v4 (Int.toNat v6) (Kd.dflt .task)).Class=1));cond e7 (let e8:=(decide ((List.getD v4 (Int.toNat v6) (Kd.dflt .task)).Cpu=v1));cond e8 (let e9:=([(⟨(List.getD v4 (Int.toNat v6) (Kd.dflt .task)).Q,(List.getD v4 (Int.toNat v6) (Kd.dflt .task)).P⟩:Share)]:List Share);cond (decide ((v3).length+(e9).length≤lim)) (Ga n m0 v1 v2 (v3++e9) v4 v5 (w64 (v6+1)) k0_0) none) (Ga n m0 v1 v2 v3 v4 v5 (w64 (v6+1)) k0_0)) (Ga n m0 v1 v2 v3 v4 v5 (w64 (v6+1)) k0_0)) none) (k0_0 v3)
def Fk{α:Type}(n:Nat):Nat→Int→List Share→List Ghost→Int→Int→(List Share→Option α)→Option α|0,_,_,_,_,_,_=>none|m1+1,v11,v12,v13,v14,v15,k1_0=>cond (decide (v15<v14)) (cond (decide (0≤v15)&&decide (v15<(v13.length:Int))) (let e16:=(decide ((List.getD v13 (Int.toNat v15) (Kd.dflt .ghost)).Cpu=v11));cond e16 (let e17:=([(List.getD v13 (Int.toNat v15) (Kd.dflt .ghost)).S]:List Share);cond (decide ((v12).length+(e17).length≤lim)) (Fk n m1 v11 (v12++e17) v13 v14 (w64 (v15+1)) k1_0) none) (Fk n m1 v11 v12 v13 v14 (w64 (v15+1)) k1_0)) none) (k1_0 v12)
def HU(n:Nat)(a0:Sys)(a1:Int):Option (List Share×Unit):=Ga n n a1 a0 ([]:List Share) a0.Tasks (a0.Tasks.length:Int) 0 (fun w10=>Fk n n a1 w10 a0.Ghosts (a0.Ghosts.length:Int) 0 (fun w18=>some (w18,())))
def gt(n:Nat):Rw:=⟨21,pV [Aq,.int],q15,fun x=>HU n (AS x.1) x.2.1⟩
def pg(n:Nat):LS:=AN ⟨3,WU,[(.t 5,2,.share)],[3,4,5],[1,2,5],WV⟩ 54 [1,2,5,12,13,14] 1413333333 (pD [.int,.ptr 0 0,.bor 2,.ro .task,.int,.int]) [.box Ah,.root .share] (fun m x k=>Ga n m x.1.1 (AS x.2.1) x.2.2.1 x.1.2.2.2.1.2 x.1.2.2.2.2.1 x.1.2.2.2.2.2.1 (fun w0=>k (.exit 0) (eS 54 [1,2,5] [.int x.1.1,.ptr 0 0,.bor 2] 1413333333 [.box (Ah.make x.2.1),.root .share w0 .ok])))
def ph(n:Nat):LS:=AN ⟨9,WW,[(.t 5,6,.share)],[7,8,9],[5],WX⟩ 54 [1,5,37,38,39] 4443331333 (pD [.int,.bor 6,.ro .ghost,.int,.int]) [.root .share] (fun m x k=>Fk n m x.1.1 x.2.1 x.1.2.2.1.2 x.1.2.2.2.1 x.1.2.2.2.2.1 (fun w0=>k (.exit 2) (eS 54 [5] [.bor 6] 4443331333 [.root .share w0 .ok])))
theorem R2(n:Nat):RO (gt n):=
 rL ⟨Go.Proofs.Tryz.f21,⟨[(0,[(0,.slot 0 .int)]),(1,[(0,.slot 1 .share)]),(4,[(2,.slot 3 .int)]),(6,[(6,.slot 4 .share),(7,.slot 5 .share)]),(10,[(2,.slot 7 .int)]),(12,[(3,.slot 8 .share),(4,.slot 9 .share)])],[],[]⟩,10⟩ [pg n,ph n] n en Go.Proofs.Tryz.func21 (by kernel_rfl) ⟨AO (fun m x k=>by kernel_rfl) (fun _ _=>rfl),AO (fun m x k=>by kernel_rfl) (fun _ _=>rfl),trivial⟩ (fun x=>by kernel_rfl)
def QL(a0:Share):Option (Bool×Unit):=(GI a0).bind fun r1=>some ((!r1.1),())
def g8:Rw:=⟨172,pV [Pi],pS [.bool],fun x=>QL (GC x.1)⟩
theorem g9:RO (g8):=
 rE ⟨Go.Proofs.Tryz.f172,⟨[(0,[(0,.slot 0 .int)]),(1,[(1,cl 1 .bool 0)])],[],[]⟩,1⟩ 0 (ec O6 en) Go.Proofs.Tryz.func172 (by kernel_rfl) (fun x=>by kernel_rfl)
def JX{α:Type}(n:Nat):Nat→List Share→Int→Int→(Int→Option α)→(Option α)→Option α|0,_,_,_,_,_=>none|m0+1,v1,v2,v3,k0_0,k0_1=>cond (decide (v3<v2)) (cond (decide (0≤v3)&&decide (v3<(v1.length:Int))) ((QL (List.getD v1 (Int.toNat v3) (Kd.dflt .share))).bind fun r4=>cond r4.1 (k0_0 v3) (JX n m0 v1 v2 (w64 (v3+1)) k0_0 k0_1)) none) k0_1
def Qb(n:Nat)(a0:List Share):Option (Int×Unit):=JX n n a0 (a0.length:Int) 0 (fun w5=>some (w5,())) (some ((-1),()))
def lZ(n:Nat):Rw:=⟨229,pV [.ro .share,.clo 172 .one],pS [.int],fun x=>Qb n x.1.2⟩
def qU(n:Nat):LS:=AN ⟨2,[0,1,7,8],[],[],[4],[]⟩ 19 [0,1,7,8] 0 (pD [.ro .share,.clo 172 .one,.int,.int]) [] (fun m x k=>JX n m x.1.1.2 x.1.2.2.1 x.1.2.2.2.1 (fun w0=>k .ret (eS 19 [4] [.int w0] 0 [])) (k (.exit 0) (eS 19 [] [] 0 [])))
theorem lc(n:Nat):RO (lZ n):=
 rL ⟨Go.Proofs.Tryz.f229,⟨[(4,[(5,cl 1 .bool 0)])],[],[]⟩,0⟩ [qU n] n (ec g9 en) Go.Proofs.Tryz.func229 (by kernel_rfl) ⟨AO (fun m x k=>by kernel_rfl) (fun _ _=>rfl),trivial⟩ (fun x=>by kernel_rfl)
def Nd(n:Nat)(a0:List Share):Option (Bool×Unit):=(Qb n a0).bind fun r1=>some ((decide (0≤r1.1)),())
def kr(n:Nat):Rw:=⟨171,pV [.ro .share,.clo 172 .one],pS [.bool],fun x=>Nd n x.1.2⟩
theorem kv(n:Nat):RO (kr n):=
 rE ⟨Go.Proofs.Tryz.f171,⟨[(1,[(2,cl 2 .int 0)])],[],[]⟩,0⟩ n (ec (lc n) en) Go.Proofs.Tryz.func171 (by kernel_rfl) (fun x=>by kernel_rfl)
def JM{α:Type}(n:Nat):Nat→Int→Int→(Int→Option α)→Option α|0,_,_,_=>none|m0+1,v1,v2,k0_0=>cond (!(decide (v2=0))) (cond (decide (v2=0)) none (JM n m0 v2 (Int.tmod v1 v2) k0_0)) (k0_0 v1)
def NI(n:Nat)(a0:Int)(a1:Int):Option (Int×Unit):=JM n n a0 a1 (fun w3=>some ((if(w64 (0-w3))>w3 then(w64 (0-w3))else w3),()))
def jJ(n:Nat):Rw:=⟨173,pV [.int,.int],pS [.int],fun x=>NI n x.1 x.2.1⟩
def p8(n:Nat):LS:=AN ⟨1,[0,1],[],[],[0],[]⟩ 15 [0,1] 0 (pD [.int,.int]) [] (fun m x k=>JM n m x.1.1 x.1.2.1 (fun w0=>k (.exit 0) (eS 15 [0] [.int w0] 0 [])))
theorem jK(n:Nat):RO (jJ n):=
 rL ⟨Go.Proofs.Tryz.f173,⟨[],[(2,dr 6 [])],[]⟩,0⟩ [p8 n] n en Go.Proofs.Tryz.func173 (by kernel_rfl) ⟨AO (fun m x k=>by kernel_rfl) (fun _ _=>rfl),trivial⟩ (fun x=>by kernel_rfl)
def JB{α:Type}(n:Nat):Nat→Int→Int→List Share→Int→Int→(Int→Int→Option α)→Option α|0,_,_,_,_,_,_=>none|m0+1,v2,v3,v4,v5,v6,k0_0=>cond (decide (v6<v5)) (cond (decide (0≤v6)&&decide (v6<(v4.length:Int))) (let e7:=(w64 (v2*(List.getD v4 (Int.toNat v6) (Kd.dflt .share)).P));let e8:=(w64 ((List.getD v4 (Int.toNat v6) (Kd.dflt .share)).Q*v3));let e9:=(w64 (v3*(List.getD v4 (Int.toNat v6) (Kd.dflt .share)).P));(NI n (w64 (e7+e8)) e9).bind fun r10=>cond (decide (r10.1=0)) none (cond (decide (r10.1=0)) none (JB n m0 (w64 (Int.tdiv (w64 (e7+e8)) r10.1)) (w64 (Int.tdiv e9 r10.1)) v4 v5 (w64 (v6+1)) k0_0))) none) (k0_0 v2 v3)
def M5(n:Nat)(a0:List Share):Option ((Int×Int×Bool×Unit)×Unit):=cond (decide (7<(a0.length:Int))) (some ((0,0,false,()),())) ((Nd n a0).bind fun r1=>cond r1.1 (some ((0,0,false,()),())) (JB n n 0 1 a0 (a0.length:Int) 0 (fun w11 w12=>some ((w11,w12,true,()),()))))
def g7(n:Nat):Rw:=⟨104,pV [.ro .share],q19,fun x=>M5 n x.1.2⟩
def pk(n:Nat):LS:=AN ⟨5,([5,6,17,18,19]),[],[0],[5,6],[0]⟩ 48 [5,6,17,18,19] 3 (pD [.int,.int,.ro .share,.int,.int]) [] (fun m x k=>JB n m x.1.1 x.1.2.1 x.1.2.2.1.2 x.1.2.2.2.1 x.1.2.2.2.2.1 (fun w0 w1=>k (.exit 0) (eS 48 [5,6] [.int w0,.int w1] 3 [])))
theorem hJ(n:Nat):RO (g7 n):=
 rL ⟨Go.Proofs.Tryz.f104,⟨[(1,[(5,cl 2 .bool 0)]),(6,[(2,.slot 0 .int)]),(8,[(2,cl 2 .int 0)])],[(7,dr 15 [(1,[0],[]),(2,[0],[]),(4,[0],[]),(5,[0],[]),(10,[0],[]),(11,[0],[])]),(9,dr 8 [])],[]⟩,1⟩ [pk n] n (ec (kv n) (ec (jK n) en)) Go.Proofs.Tryz.func104 (by kernel_rfl) ⟨AO (fun m x k=>by kernel_rfl) (fun _ _=>rfl),trivial⟩ (fun x=>by kernel_rfl)
def Iq(n:Nat)(a0:List Share):Option (Bool×Unit):=(M5 n a0).bind fun r1=>cond r1.1.2.2.1 (some ((decide (r1.1.1≤r1.1.2.1)),())) (some (false,()))
def gE(n:Nat):Rw:=⟨28,pV [.ro .share],pS [.bool],fun x=>Iq n x.1.2⟩
theorem Rx(n:Nat):RO (gE n):=
 rE ⟨Go.Proofs.Tryz.f28,⟨[(1,[(1,q21)])],[],[]⟩,0⟩ n (ec (hJ n) en) Go.Proofs.Tryz.func28 (by kernel_rfl) (fun x=>by kernel_rfl)
def QP(a0:Int):Option (Bool×Unit):=(BA a0 0 100000000).bind fun r1=>some ((!r1.1),())
def iF:Rw:=⟨84,pV [.int],pS [.bool],fun x=>QP x.1⟩
theorem iG:RO (iF):=
 rE ⟨Go.Proofs.Tryz.f84,⟨[(1,[(1,cl 3 .bool 0)])],[],[]⟩,0⟩ 0 (ec CI en) Go.Proofs.Tryz.func84 (by kernel_rfl) (fun x=>by kernel_rfl)
def Jd{α:Type}(n:Nat):Nat→List Int→Int→Int→(Int→Option α)→(Option α)→Option α|0,_,_,_,_,_=>none|m0+1,v1,v2,v3,k0_0,k0_1=>cond (decide (v3<v2)) (cond (decide (0≤v3)&&decide (v3<(v1.length:Int))) ((QP (List.getD v1 (Int.toNat v3) (Kd.dflt .int))).bind fun r4=>cond r4.1 (k0_0 v3) (Jd n m0 v1 v2 (w64 (v3+1)) k0_0 k0_1)) none) k0_1
def Qf(n:Nat)(a0:List Int):Option (Int×Unit):=Jd n n a0 (a0.length:Int) 0 (fun w5=>some (w5,())) (some ((-1),()))
def lq(n:Nat):Rw:=⟨153,pV [.ro .int,.clo 84 .one],pS [.int],fun x=>Qf n x.1.2⟩
def qa(n:Nat):LS:=AN ⟨2,[0,1,7,8],[],[],[4],[]⟩ 19 [0,1,7,8] 0 (pD [.ro .int,.clo 84 .one,.int,.int]) [] (fun m x k=>Jd n m x.1.1.2 x.1.2.2.1 x.1.2.2.2.1 (fun w0=>k .ret (eS 19 [4] [.int w0] 0 [])) (k (.exit 0) (eS 19 [] [] 0 [])))
theorem lr(n:Nat):RO (lq n):=
 rL ⟨Go.Proofs.Tryz.f153,⟨[(4,[(5,cl 1 .bool 0)])],[],[]⟩,0⟩ [qa n] n (ec iG en) Go.Proofs.Tryz.func153 (by kernel_rfl) ⟨AO (fun m x k=>by kernel_rfl) (fun _ _=>rfl),trivial⟩ (fun x=>by kernel_rfl)
def K3(n:Nat)(a0:List Int):Option (Bool×Unit):=(Qf n a0).bind fun r1=>some ((decide (0≤r1.1)),())
def lD(n:Nat):Rw:=⟨83,pV [.ro .int,.clo 84 .one],pS [.bool],fun x=>K3 n x.1.2⟩
theorem lE(n:Nat):RO (lD n):=
 rE ⟨Go.Proofs.Tryz.f83,⟨[(1,[(2,cl 2 .int 0)])],[],[]⟩,0⟩ n (ec (lr n) en) Go.Proofs.Tryz.func83 (by kernel_rfl) (fun x=>by kernel_rfl)
def JC{α:Type}(n:Nat):Nat→Sys→Int→Int→(Option α)→(Option α)→Option α|0,_,_,_,_,_=>none|m0+1,v8,v9,v10,k0_0,k0_1=>cond (decide (v10<v9)) ((HU n v8 v10).bind fun r11=>(Iq n r11.1).bind fun r12=>cond (!r12.1) k0_0 (JC n m0 v8 v9 (w64 (v10+1)) k0_0 k0_1)) k0_1
def CV(n:Nat)(a0:Sys):Option (Bool×Unit):=(GJ a0.Now).bind fun r1=>cond (!r1.1) (some (false,())) ((BA a0.Cpus 1 4).bind fun r2=>cond (!r2.1) (some (false,())) ((D3 n a0.Tasks).bind fun r3=>cond (!r3.1) (some (false,())) ((Ng n a0.Tasks a0).bind fun r4=>cond r4.1 (some (false,())) (cond (!(decide ((a0.Locks.length:Int)=5))) (some (false,())) ((GF n a0.Locks).bind fun r5=>cond (!r5.1) (some (false,())) ((Nc n a0.Locks a0).bind fun r6=>cond r6.1 (some (false,())) (cond (decide (12<(a0.Ghosts.length:Int))) (some (false,())) ((Nb n a0.Ghosts a0).bind fun r7=>cond r7.1 (some (false,())) (JC n n a0 a0.Cpus 0 (some (false,())) (cond (decide ((a0.Floors.length:Int)=a0.Cpus)) ((K3 n a0.Floors).bind fun r13=>cond (!r13.1) ((HX a0.Seq).bind fun r14=>cond r14.1 ((GJ a0.Missed).bind fun r15=>cond r15.1 (some ((decide ((a0.Trace.length:Int)≤400)),())) (some (false,()))) (some (false,()))) (some (false,()))) (some (false,()))))))))))))
def hY(n:Nat):Rw:=⟨16,pV [Aq],pS [.bool],fun x=>CV n (AS x.1)⟩
def pl(n:Nat):LS:=AN ⟨8,[1,53,54],[],[],[1,2],[0]⟩ 91 [1,53,54] 1 (pD [.ptr 0 0,.int,.int]) [.box Ah] (fun m x k=>JC n m (AS x.2.1) x.1.2.1 x.1.2.2.1 (k .ret (eS 91 [1,2] [.ptr 0 0,.bool false] 1 [.box (Ah.make x.2.1)])) (k (.exit 0) (eS 91 [1] [.ptr 0 0] 1 [.box (Ah.make x.2.1)])))
theorem C4(n:Nat):RO (hY n):=
 rL ⟨Go.Proofs.Tryz.f16,⟨[(0,[(0,.slot 0 .int)]),(1,[(2,cl 1 .bool 0),(7,cl 3 .bool 0),(13,cl 1 .bool 0),(20,cl 2 .bool 0)]),(3,[(7,cl 1 .bool 0),(14,cl 2 .bool 0)]),(5,[(8,cl 2 .bool 0)]),(10,[(2,q22),(3,cl 1 .bool 0)]),(13,[(9,cl 2 .bool 0),(15,cl 1 .bool 0),(20,cl 1 .bool 0)])],[],[]⟩,1⟩ [pl n] n (ec O9 (ec CI (ec (O7 n) (ec (lC n) (ec (L4 n) (ec (kq n) (ec (kl n) (ec (R2 n) (ec (Rx n) (ec (lE n) (ec R7 en))))))))))) Go.Proofs.Tryz.func16 (by kernel_rfl) ⟨AO (fun m x k=>by kernel_rfl) (fun _ _=>rfl),trivial⟩ (fun x=>by kernel_rfl)
end Go.Proofs.YthoholbeacojfaaGreat.VR
end
section
set_option linter.unusedVariables false
set_option maxRecDepth 100000
namespace Go.Proofs.YthoholbeacojfaaGreat.VR
open Go
def Kb(a0:Call):Option (Bool×Unit):=cond (decide (a0.Kind=1)) (let e1:=((decide (a0.Kind=a0.Kind))&&((decide (a0.No=a0.No))&&((decide (a0.Cpu=a0.Cpu))&&((decide (a0.A=a0.A))&&((decide (a0.B=a0.B))&&true)))));some (e1,())) (cond (decide (a0.Kind=2)) (let e2:=((decide (a0.Kind=a0.Kind))&&((decide (a0.No=a0.No))&&((decide (a0.Cpu=a0.Cpu))&&((decide (a0.A=a0.A))&&((decide (a0.B=a0.B))&&true)))));some (e2,())) (cond (decide (a0.Kind=3)) (let e3:=((decide (a0.Kind=a0.Kind))&&((decide (a0.No=a0.No))&&((decide (a0.Cpu=a0.Cpu))&&((decide (a0.A=a0.A))&&((decide (a0.B=0))&&true)))));some (e3,())) (cond (decide (a0.Kind=4)) (let e4:=((decide (a0.Kind=a0.Kind))&&((decide (a0.No=a0.No))&&((decide (a0.Cpu=0))&&((decide (a0.A=0))&&((decide (a0.B=0))&&true)))));some (e4,())) (cond (decide (a0.Kind=5)) (let e5:=((decide (a0.Kind=a0.Kind))&&((decide (a0.No=a0.No))&&((decide (a0.Cpu=0))&&((decide (a0.A=0))&&((decide (a0.B=0))&&true)))));some (e5,())) (cond (decide (a0.Kind=6)) (let e6:=((decide (a0.Kind=a0.Kind))&&((decide (a0.No=a0.No))&&((decide (a0.Cpu=0))&&((decide (a0.A=0))&&((decide (a0.B=0))&&true)))));some (e6,())) (cond (decide (a0.Kind=7)) (let e7:=((decide (a0.Kind=a0.Kind))&&((decide (a0.No=a0.No))&&((decide (a0.Cpu=0))&&((decide (a0.A=a0.A))&&((decide (a0.B=0))&&true)))));some (e7,())) (cond (decide (a0.Kind=8)) (let e8:=((decide (a0.Kind=a0.Kind))&&((decide (a0.No=a0.No))&&((decide (a0.Cpu=0))&&((decide (a0.A=a0.A))&&((decide (a0.B=0))&&true)))));some (e8,())) (cond (decide (a0.Kind=9)) (let e9:=((decide (a0.Kind=a0.Kind))&&((decide (a0.No=a0.No))&&((decide (a0.Cpu=0))&&((decide (a0.A=a0.A))&&((decide (a0.B=0))&&true)))));some (e9,())) (cond (decide (a0.Kind=10)) (let e10:=((decide (a0.Kind=a0.Kind))&&((decide (a0.No=a0.No))&&((decide (a0.Cpu=a0.Cpu))&&((decide (a0.A=0))&&((decide (a0.B=0))&&true)))));some (e10,())) (cond (decide (a0.Kind=11)) (let e11:=((decide (a0.Kind=a0.Kind))&&((decide (a0.No=0))&&((decide (a0.Cpu=0))&&((decide (a0.A=a0.A))&&((decide (a0.B=0))&&true)))));some (e11,())) (some (false,()))))))))))))
def fY:Rw:=⟨64,pV [Ca],pS [.bool],fun x=>Kb (Ar x.1)⟩
theorem Wv:RO (fY):=
 rE ⟨Go.Proofs.Tryz.f64,⟨[(0,[(0,.slot 0 .int)]),(1,[(5,.slot 1 .int)])],[(8,dr 8 [(0,[0],[]),(1,[0],[]),(2,[0],[]),(3,[0],[]),(4,[1],[]),(5,[1],[1]),(6,[1],[]),(7,[1],[1])])],[]⟩,2⟩ 0 en Go.Proofs.Tryz.func64 (by kernel_rfl) (fun x=>by kernel_rfl)
def QV(a0:List Task):Option (List Task×Unit):=cond (List.isEmpty a0) none (cond (decide ((([]:List Task)).length+(a0).length≤lim)) (some ((([]:List Task)++a0),())) none)
def kQ:Rw:=⟨176,pV [.ro .task],q42,fun x=>QV x.1.2⟩
theorem kR:RO (kQ):=
 rE ⟨Go.Proofs.Tryz.f176,⟨[(3,[(0,.slot 0 .task),(2,.slot 1 .task)])],[],[]⟩,2⟩ 0 en Go.Proofs.Tryz.func176 (by kernel_rfl) (fun x=>by kernel_rfl)
def bY:Option (List Task×Unit):=some ([],())
def kS:Rw:=⟨176,pV [.em true],q42,fun x=>bY⟩
theorem kT:RO (kS):=
 rE ⟨Go.Proofs.Tryz.f176,⟨[],[],[]⟩,0⟩ 0 en Go.Proofs.Tryz.func176 (by kernel_rfl) (fun x=>by kernel_rfl)
def bX:Option (List Task×Unit):=cond (decide ((([]:List Task)).length+(([]:List Task)).length≤lim)) (some ((([]:List Task)++([]:List Task)),())) none
def kO:Rw:=⟨176,pV [.em false],q42,fun x=>bX⟩
theorem kP:RO (kO):=
 rE ⟨Go.Proofs.Tryz.f176,⟨[(3,[(0,.slot 0 .task),(2,.slot 1 .task)])],[],[]⟩,2⟩ 0 en Go.Proofs.Tryz.func176 (by kernel_rfl) (fun x=>by kernel_rfl)
def C6(a0:List Task):Option (List Task×Unit):=cond (decide ((a0).length≤lim)) (some (a0,())) none
def kN:Rw:=⟨176,(.pair (.v (.ro .task)) .one),(.pair (.own .task) .one),fun x=>C6 x.1.2⟩
theorem PA:RwOk Go.Proofs.Tryz.prog tyK kN:=Mb (k:=.task) (g:=QV) kR kT kP (by intro xs h hl;simp[QV,h,hl]) rfl rfl
def QX(a0:List Int):Option (List Int×Unit):=cond (List.isEmpty a0) none (cond (decide ((([]:List Int)).length+(a0).length≤lim)) (some ((([]:List Int)++a0),())) none)
def kf:Rw:=⟨190,pV [.ro .int],q70,fun x=>QX x.1.2⟩
theorem kg:RO (kf):=
 rE ⟨Go.Proofs.Tryz.f190,⟨[(3,[(0,.slot 0 .int),(2,.slot 1 .int)])],[],[]⟩,2⟩ 0 en Go.Proofs.Tryz.func190 (by kernel_rfl) (fun x=>by kernel_rfl)
def bc:Option (List Int×Unit):=some ([],())
def kh:Rw:=⟨190,pV [.em true],q70,fun x=>bc⟩
theorem ki:RO (kh):=
 rE ⟨Go.Proofs.Tryz.f190,⟨[],[],[]⟩,0⟩ 0 en Go.Proofs.Tryz.func190 (by kernel_rfl) (fun x=>by kernel_rfl)
def bb:Option (List Int×Unit):=cond (decide ((([]:List Int)).length+(([]:List Int)).length≤lim)) (some ((([]:List Int)++([]:List Int)),())) none
def kc:Rw:=⟨190,pV [.em false],q70,fun x=>bb⟩
theorem ke:RO (kc):=
 rE ⟨Go.Proofs.Tryz.f190,⟨[(3,[(0,.slot 0 .int),(2,.slot 1 .int)])],[],[]⟩,2⟩ 0 en Go.Proofs.Tryz.func190 (by kernel_rfl) (fun x=>by kernel_rfl)
def HY(a0:List Int):Option (List Int×Unit):=cond (decide ((a0).length≤lim)) (some (a0,())) none
def kb:Rw:=⟨190,(.pair (.v (.ro .int)) .one),(.pair (.own .int) .one),fun x=>HY x.1.2⟩
theorem PB:RwOk Go.Proofs.Tryz.prog tyK kb:=Mb (k:=.int) (g:=QX) kg ki ke (by intro xs h hl;simp[QX,h,hl]) rfl rfl
def JJ{α:Type}(n:Nat):Nat→List Lock→List Lock→Int→Int→(List Lock→Option α)→Option α|0,_,_,_,_,_=>none|m0+1,v1,v2,v3,v4,k0_0=>cond (decide (v4<v3)) (cond (decide (0≤v4)&&decide (v4<(v2.length:Int))) ((HY ((List.getD v2 (Int.toNat v4) (Kd.dflt .lock)).Waits)).bind fun r5=>let e6:=([(⟨(List.getD v2 (Int.toNat v4) (Kd.dflt .lock)).Owner,r5.1⟩:Lock)]:List Lock);cond (decide ((v1).length+(e6).length≤lim)) (JJ n m0 (v1++e6) v2 v3 (w64 (v4+1)) k0_0) none) none) (k0_0 v1)
def NG(n:Nat)(a0:List Lock):Option (List Lock×Unit):=JJ n n ([]:List Lock) a0 (a0.length:Int) 0 (fun w7=>some (w7,()))
def i9(n:Nat):Rw:=⟨188,pV [.ro .lock],q24,fun x=>NG n x.1.2⟩
def pz(n:Nat):LS:=AN ⟨3,[3,6,7,8],[(.t 3,0,.lock)],[1,2,3,4],[3],Rp⟩ 23 [3,6,7,8] 13333 (pD [.bor 0,.ro .lock,.int,.int]) [.root .lock] (fun m x k=>JJ n m x.2.1 x.1.2.1.2 x.1.2.2.1 x.1.2.2.2.1 (fun w0=>k (.exit 0) (eS 23 [3] [.bor 0] 13333 [.root .lock w0 .ok])))
theorem jB(n:Nat):RO (i9 n):=
 rL ⟨Go.Proofs.Tryz.f188,⟨[(4,[(2,.slot 1 .int)]),(5,[(5,WY),(7,.slot 3 .lock),(8,.slot 4 .lock)])],[(5,dr 10 [(1,[1],[]),(2,[1],[]),(3,[1],[]),(4,[1],[]),(5,[2],[2]),(7,[2,3],[2,3]),(8,[0,3,4],[0,3,4])])],[]⟩,5⟩ [pz n] n (ec PB en) Go.Proofs.Tryz.func188 (by kernel_rfl) ⟨AO (fun m x k=>by kernel_rfl) (fun _ _=>rfl),trivial⟩ (fun x=>by kernel_rfl)
def QU(a0:List Ghost):Option (List Ghost×Unit):=cond (List.isEmpty a0) none (cond (decide ((([]:List Ghost)).length+(a0).length≤lim)) (some ((([]:List Ghost)++a0),())) none)
def kJ:Rw:=⟨189,pV [.ro .ghost],Oz,fun x=>QU x.1.2⟩
theorem kK:RO (kJ):=
 rE ⟨Go.Proofs.Tryz.f189,⟨[(3,[(0,.slot 0 .ghost),(2,.slot 1 .ghost)])],[],[]⟩,2⟩ 0 en Go.Proofs.Tryz.func189 (by kernel_rfl) (fun x=>by kernel_rfl)
def bW:Option (List Ghost×Unit):=some ([],())
def kL:Rw:=⟨189,pV [.em true],Oz,fun x=>bW⟩
theorem kM:RO (kL):=
 rE ⟨Go.Proofs.Tryz.f189,⟨[],[],[]⟩,0⟩ 0 en Go.Proofs.Tryz.func189 (by kernel_rfl) (fun x=>by kernel_rfl)
def bV:Option (List Ghost×Unit):=cond (decide ((([]:List Ghost)).length+(([]:List Ghost)).length≤lim)) (some ((([]:List Ghost)++([]:List Ghost)),())) none
def kH:Rw:=⟨189,pV [.em false],Oz,fun x=>bV⟩
theorem kI:RO (kH):=
 rE ⟨Go.Proofs.Tryz.f189,⟨[(3,[(0,.slot 0 .ghost),(2,.slot 1 .ghost)])],[],[]⟩,2⟩ 0 en Go.Proofs.Tryz.func189 (by kernel_rfl) (fun x=>by kernel_rfl)
def K1(a0:List Ghost):Option (List Ghost×Unit):=cond (decide ((a0).length≤lim)) (some (a0,())) none
def kG:Rw:=⟨189,(.pair (.v (.ro .ghost)) .one),(.pair (.own .ghost) .one),fun x=>K1 x.1.2⟩
theorem XK:RwOk Go.Proofs.Tryz.prog tyK kG:=Mb (k:=.ghost) (g:=QU) kK kM kI (by intro xs h hl;simp[QU,h,hl]) rfl rfl
def QW(a0:List Turn):Option (List Turn×Unit):=cond (List.isEmpty a0) none (cond (decide ((([]:List Turn)).length+(a0).length≤lim)) (some ((([]:List Turn)++a0),())) none)
def kX:Rw:=⟨122,pV [.ro .turn],O0,fun x=>QW x.1.2⟩
theorem kY:RO (kX):=
 rE ⟨Go.Proofs.Tryz.f122,⟨[(3,[(0,.slot 0 .turn),(2,.slot 1 .turn)])],[],[]⟩,2⟩ 0 en Go.Proofs.Tryz.func122 (by kernel_rfl) (fun x=>by kernel_rfl)
def ba:Option (List Turn×Unit):=some ([],())
def kZ:Rw:=⟨122,pV [.em true],O0,fun x=>ba⟩
theorem ka:RO (kZ):=
 rE ⟨Go.Proofs.Tryz.f122,⟨[],[],[]⟩,0⟩ 0 en Go.Proofs.Tryz.func122 (by kernel_rfl) (fun x=>by kernel_rfl)
def bZ:Option (List Turn×Unit):=cond (decide ((([]:List Turn)).length+(([]:List Turn)).length≤lim)) (some ((([]:List Turn)++([]:List Turn)),())) none
def kV:Rw:=⟨122,pV [.em false],O0,fun x=>bZ⟩
theorem kW:RO (kV):=
 rE ⟨Go.Proofs.Tryz.f122,⟨[(3,[(0,.slot 0 .turn),(2,.slot 1 .turn)])],[],[]⟩,2⟩ 0 en Go.Proofs.Tryz.func122 (by kernel_rfl) (fun x=>by kernel_rfl)
def Fa(a0:List Turn):Option (List Turn×Unit):=cond (decide ((a0).length≤lim)) (some (a0,())) none
def kU:Rw:=⟨122,(.pair (.v (.ro .turn)) .one),(.pair (.own .turn) .one),fun x=>Fa x.1.2⟩
theorem SB:RwOk Go.Proofs.Tryz.prog tyK kU:=Mb (k:=.turn) (g:=QW) kY ka kW (by intro xs h hl;simp[QW,h,hl]) rfl rfl
def Kw(n:Nat)(a0:Sys):Option (Ap×Unit):=(C6 a0.Tasks).bind fun r1=>(NG n a0.Locks).bind fun r2=>(K1 a0.Ghosts).bind fun r3=>(HY a0.Floors).bind fun r4=>(Fa a0.Trace).bind fun r5=>some ((AB (⟨a0.Now,a0.Cpus,r1.1,r2.1,r3.1,r4.1,a0.Seq,a0.Missed,r5.1⟩:Sys)),())
def jC(n:Nat):Rw:=⟨124,pV [Aq],Rr,fun x=>Kw n (AS x.1)⟩
theorem jE(n:Nat):RO (jC n):=
 rE ⟨Go.Proofs.Tryz.f124,⟨[(0,[(0,.slot 0 .int),(1,.slot 1 .int)]),(1,[(2,(cl 1 (.own .task) 1)),(5,q26),(8,(cl 1 (.own .ghost) 1)),(11,(cl 1 (.own .int) 1)),(14,Rq)])],[(1,dr 25 [(0,[0],[]),(1,[0],[]),(3,[0],[]),(4,[0],[]),(6,[0],[]),(7,[0],[]),(9,[0],[]),(10,[0],[]),(12,[0],[]),(13,[0],[]),(15,[0],[]),(16,[0],[0]),(17,[0],[]),(18,[0],[0]),(19,[0],[]),(20,[0],[0]),(21,[0],[]),(22,[0],[0]),(23,[0],[]),(24,[0],[0])])],[]⟩,2⟩ n (ec PA (ec (jB n) (ec XK (ec PB (ec SB en))))) Go.Proofs.Tryz.func124 (by kernel_rfl) (fun x=>by kernel_rfl)
def Ks(a0:Ghost)(a1_0:Sys):Option (Bool×Unit):=some ((decide (a0.Until≤a1_0.Now)),())
def iW:Rw:=⟨192,pV [Ph,.rp (pD [.rp (pD [.int,.int,.ro .task,.ro .lock,.junk,.ro .int,.int,.int,.ro .turn]) 0]) 0],pS [.bool],fun x=>Ks (Mg x.1) (⟨x.2.1.1.1,x.2.1.1.2.1,x.2.1.1.2.2.1.2,x.2.1.1.2.2.2.1.2,[],x.2.1.1.2.2.2.2.2.1.2,x.2.1.1.2.2.2.2.2.2.1,x.2.1.1.2.2.2.2.2.2.2.1,x.2.1.1.2.2.2.2.2.2.2.2.1.2⟩:Sys)⟩
theorem W8:RO (iW):=
 rE ⟨Go.Proofs.Tryz.f192,⟨[(0,[(0,.slot 0 .int)])],[(1,dr 8 [(0,[0],[]),(1,[0],[])])],[]⟩,1⟩ 0 en Go.Proofs.Tryz.func192 (by kernel_rfl) (fun x=>by kernel_rfl)
def JT{α:Type}(n:Nat):Nat→List Ghost→Sys→Int→Int→(Int→Option α)→(Option α)→Option α|0,_,_,_,_,_,_=>none|m0+1,v1,v2,v3,v4,k0_0,k0_1=>cond (decide (v4<v3)) (cond (decide (0≤v4)&&decide (v4<(v1.length:Int))) ((Ks (List.getD v1 (Int.toNat v4) (Kd.dflt .ghost)) (⟨v2.Now,v2.Cpus,v2.Tasks,v2.Locks,[],v2.Floors,v2.Seq,v2.Missed,v2.Trace⟩:Sys)).bind fun r5=>cond r5.1 (k0_0 v4) (JT n m0 v1 (⟨v2.Now,v2.Cpus,v2.Tasks,v2.Locks,[],v2.Floors,v2.Seq,v2.Missed,v2.Trace⟩:Sys) v3 (w64 (v4+1)) k0_0 k0_1)) none) k0_1
def Nj(n:Nat)(a0:List Ghost)(a1_0_0:Sys):Option (Int×Unit):=JT n n a0 (⟨a1_0_0.Now,a1_0_0.Cpus,a1_0_0.Tasks,a1_0_0.Locks,[],a1_0_0.Floors,a1_0_0.Seq,a1_0_0.Missed,a1_0_0.Trace⟩:Sys) (a0.length:Int) 0 (fun w6=>some (w6,())) (some ((-1),()))
def lR(n:Nat):Rw:=⟨150,pV [.ro .ghost,.clo 192 (pD [.rp (pD [.rp (pD [.int,.int,.ro .task,.ro .lock,.junk,.ro .int,.int,.int,.ro .turn]) 0]) 0])],pS [.int],fun x=>Nj n x.1.2 (⟨x.2.1.1.1.1,x.2.1.1.1.2.1,x.2.1.1.1.2.2.1.2,x.2.1.1.1.2.2.2.1.2,[],x.2.1.1.1.2.2.2.2.2.1.2,x.2.1.1.1.2.2.2.2.2.2.1,x.2.1.1.1.2.2.2.2.2.2.2.1,x.2.1.1.1.2.2.2.2.2.2.2.2.1.2⟩:Sys)⟩
def qQ(n:Nat):LS:=AN ⟨2,[0,1,7,8],[],[],[4],[]⟩ 19 [0,1,7,8] 0 (pD [.ro .ghost,.clo 192 (pD [.rp (pD [.rp (pD [.int,.int,.ro .task,.ro .lock,.junk,.ro .int,.int,.int,.ro .turn]) 0]) 0]),.int,.int]) [] (fun m x k=>JT n m x.1.1.2 (⟨x.1.2.1.1.1.1,x.1.2.1.1.1.2.1,x.1.2.1.1.1.2.2.1.2,x.1.2.1.1.1.2.2.2.1.2,[],x.1.2.1.1.1.2.2.2.2.2.1.2,x.1.2.1.1.1.2.2.2.2.2.2.1,x.1.2.1.1.1.2.2.2.2.2.2.2.1,x.1.2.1.1.1.2.2.2.2.2.2.2.2.1.2⟩:Sys) x.1.2.2.1 x.1.2.2.2.1 (fun w0=>k .ret (eS 19 [4] [.int w0] 0 [])) (k (.exit 0) (eS 19 [] [] 0 [])))
theorem lS(n:Nat):RO (lR n):=
 rL ⟨Go.Proofs.Tryz.f150,⟨[(4,[(5,cl 1 .bool 0)])],[],[]⟩,0⟩ [qQ n] n (ec W8 en) Go.Proofs.Tryz.func150 (by kernel_rfl) ⟨AO (fun m x k=>by kernel_rfl) (fun _ _=>rfl),trivial⟩ (fun x=>by kernel_rfl)
def FZ(a0:Task):Option (Bool×Unit):=cond (decide (a0.Class=1)) ((Em a0).bind fun r1=>some (r1.1,())) (some (false,()))
def jO:Rw:=⟨231,pV [Au],pS [.bool],fun x=>FZ (AC x.1)⟩
theorem O8:RO (jO):=
 rE ⟨Go.Proofs.Tryz.f231,⟨[(0,[(0,.slot 0 .int)]),(1,[(5,cl 1 .bool 0)])],[],[]⟩,1⟩ 0 (ec J1 en) Go.Proofs.Tryz.func231 (by kernel_rfl) (fun x=>by kernel_rfl)
def Kc(a0:Task)(a1:Int):Option (BW×Unit):=(FZ a0).bind fun r1=>cond r1.1 ((GJ a1).bind fun r2=>cond r2.1 (cond (decide (a0.Due≤a1)) (some ((AK (⟨a0.No,a0.Class,a0.Cpu,a0.State,a0.Idle,a0.Q,a0.P,a0.Q,(w64 (a0.Due+a0.P)),a0.Prio,a0.Round,a0.Seq,a0.Nice,a0.V⟩:Task)),())) (some ((AK a0),()))) (some ((AK a0),()))) (some ((AK a0),()))
def fh:Rw:=⟨193,pV [Au,.int],q37,fun x=>Kc (AC x.1) x.2.1⟩
theorem fi:RO (fh):=
 rE ⟨Go.Proofs.Tryz.f193,⟨[(0,[(0,.slot 0 .int),(1,.slot 1 .int)]),(1,[(1,cl 1 .bool 0),(4,cl 1 .bool 0)])],[],[]⟩,2⟩ 0 (ec O8 (ec O9 en)) Go.Proofs.Tryz.func193 (by kernel_rfl) (fun x=>by kernel_rfl)
def Hx{α:Type}(n:Nat):Nat→List Ghost→Sys→Int→Int→(Int→List Ghost→Option α)→Option α|0,_,_,_,_,_=>none|m0+1,v2,v3,v4,v5,k0_0=>cond (decide (v5<(v2.length:Int))) (cond (decide (0≤v5)&&decide (v5<(v2.length:Int))) ((Ks (List.getD v2 (Int.toNat v5) (Kd.dflt .ghost)) (⟨v3.Now,v3.Cpus,v3.Tasks,v3.Locks,[],v3.Floors,v3.Seq,v3.Missed,v3.Trace⟩:Sys)).bind fun r6=>cond (!r6.1) (cond (decide (0≤v4)&&decide (v4<(v2.length:Int))) (cond (decide ((Int.toNat v4)<(v2).length)) (let e7:=(List.set v2 (Int.toNat v4) (List.getD v2 (Int.toNat v5) (Kd.dflt .ghost)));Hx n m0 e7 (⟨v3.Now,v3.Cpus,v3.Tasks,v3.Locks,[],v3.Floors,v3.Seq,v3.Missed,v3.Trace⟩:Sys) (w64 (v4+1)) (w64 (v5+1)) k0_0) none) none) (Hx n m0 v2 (⟨v3.Now,v3.Cpus,v3.Tasks,v3.Locks,[],v3.Floors,v3.Seq,v3.Missed,v3.Trace⟩:Sys) v4 (w64 (v5+1)) k0_0)) none) (k0_0 v4 v2)
def Nh(n:Nat)(a0:List Ghost)(a1_0_0:Sys):Option (List Ghost×Unit):=(Nj n a0 (⟨a1_0_0.Now,a1_0_0.Cpus,a1_0_0.Tasks,a1_0_0.Locks,[],a1_0_0.Floors,a1_0_0.Seq,a1_0_0.Missed,a1_0_0.Trace⟩:Sys)).bind fun r1=>cond (decide (r1.1=(-1))) (some (a0,())) (Hx n n a0 (⟨a1_0_0.Now,a1_0_0.Cpus,a1_0_0.Tasks,a1_0_0.Locks,[],a1_0_0.Floors,a1_0_0.Seq,a1_0_0.Missed,a1_0_0.Trace⟩:Sys) r1.1 (w64 (r1.1+1)) (fun w8 w9=>cond ((decide (0≤w8)&&decide (w8≤(w9.length:Int)))&&(decide ((w9.length:Int)≤(w9.length:Int)))) (cond ((decide ((Int.toNat w8)<(Int.toNat (w9.length:Int))))&&(decide ((Int.toNat (w9.length:Int))≤(w9).length))) (let e10:=(A5 w9 (Int.toNat w8) (List.replicate ((Int.toNat (w9.length:Int))-(Int.toNat w8)) (Kd.dflt .ghost)));cond (decide (0≤w8)&&decide (w8≤(e10.length:Int))) (some ((List.take (Int.toNat w8) e10),())) none) none) none))
def lG(n:Nat):Rw:=⟨191,pA [.own .ghost,.v (.clo 192 (pD [.rp (pD [.rp (pD [.int,.int,.ro .task,.ro .lock,.junk,.ro .int,.int,.int,.ro .turn]) 0]) 0]))],Oz,fun x=>Nh n x.1 (⟨x.2.1.1.1.1,x.2.1.1.1.2.1,x.2.1.1.1.2.2.1.2,x.2.1.1.1.2.2.2.1.2,[],x.2.1.1.1.2.2.2.2.2.1.2,x.2.1.1.1.2.2.2.2.2.2.1,x.2.1.1.1.2.2.2.2.2.2.2.1,x.2.1.1.1.2.2.2.2.2.2.2.2.1.2⟩:Sys)⟩
def qN(n:Nat):LS:=AN ⟨5,[0,1,5,6],[],[1],[0,5],[0,1,2]⟩ 42 [0,1,5,6] 133 (pD [.bor 0,.clo 192 (pD [.rp (pD [.rp (pD [.int,.int,.ro .task,.ro .lock,.junk,.ro .int,.int,.int,.ro .turn]) 0]) 0]),.int,.int]) [.root .ghost] (fun m x k=>Hx n m x.2.1 (⟨x.1.2.1.1.1.1,x.1.2.1.1.1.2.1,x.1.2.1.1.1.2.2.1.2,x.1.2.1.1.1.2.2.2.1.2,[],x.1.2.1.1.1.2.2.2.2.2.1.2,x.1.2.1.1.1.2.2.2.2.2.2.1,x.1.2.1.1.1.2.2.2.2.2.2.2.1,x.1.2.1.1.1.2.2.2.2.2.2.2.2.1.2⟩:Sys) x.1.2.2.1 x.1.2.2.2.1 (fun w0 w1=>k (.exit 0) (eS 42 [0,5] [.bor 0,.int w0] 133 [.root .ghost w1 .ok])))
theorem lI(n:Nat):RO (lG n):=
 rL ⟨Go.Proofs.Tryz.f191,⟨[(1,[(2,cl 2 .int 0)]),(7,[(4,.slot 1 .int)]),(8,[(2,cl 1 .bool 0)]),(12,[(2,.slot 2 .ghost)])],[],[]⟩,3⟩ [qN n] n (ec (lS n) (ec W8 en)) Go.Proofs.Tryz.func191 (by kernel_rfl) ⟨AO (fun m x k=>by kernel_rfl) (fun _ _=>rfl),trivial⟩ (fun x=>by kernel_rfl)
def E4{α:Type}(n:Nat):Nat→Sys→Int→Int→(Int→List Task→Option α)→Option α|0,_,_,_,_=>none|m0+1,v2,v3,v4,k0_0=>cond (decide (v4<v3)) (cond (decide (0≤v4)&&decide (v4<(v2.Tasks.length:Int))) (let e5:=(!(decide ((List.getD v2.Tasks (Int.toNat v4) (Kd.dflt .task)).Class=1)));cond e5 (E4 n m0 v2 v3 (w64 (v4+1)) k0_0) (cond ((List.getD v2.Tasks (Int.toNat v4) (Kd.dflt .task)).Idle) (E4 n m0 v2 v3 (w64 (v4+1)) k0_0) (let e6:=(decide (v2.Now<(List.getD v2.Tasks (Int.toNat v4) (Kd.dflt .task)).Due));cond e6 (E4 n m0 v2 v3 (w64 (v4+1)) k0_0) (let e7:=(decide (0<(List.getD v2.Tasks (Int.toNat v4) (Kd.dflt .task)).Left));cond e7 (let e8:=(if(w64 (v2.Missed+1))<100000 then(w64 (v2.Missed+1))else 100000);(Kc (List.getD v2.Tasks (Int.toNat v4) (Kd.dflt .task)) v2.Now).bind fun r9=>cond (decide (0≤v4)&&decide (v4<(v2.Tasks.length:Int))) (cond (decide ((Int.toNat v4)<(v2.Tasks).length)) (E4 n m0 (⟨v2.Now,v2.Cpus,(List.set v2.Tasks (Int.toNat v4) (AC r9.1)),v2.Locks,v2.Ghosts,v2.Floors,v2.Seq,e8,v2.Trace⟩:Sys) v3 (w64 (v4+1)) k0_0) none) none) ((Kc (List.getD v2.Tasks (Int.toNat v4) (Kd.dflt .task)) v2.Now).bind fun r10=>cond (decide (0≤v4)&&decide (v4<(v2.Tasks.length:Int))) (cond (decide ((Int.toNat v4)<(v2.Tasks).length)) (E4 n m0 (⟨v2.Now,v2.Cpus,(List.set v2.Tasks (Int.toNat v4) (AC r10.1)),v2.Locks,v2.Ghosts,v2.Floors,v2.Seq,v2.Missed,v2.Trace⟩:Sys) v3 (w64 (v4+1)) k0_0) none) none))))) none) (k0_0 v2.Missed v2.Tasks)
def Kr(n:Nat)(a0:Sys):Option (Unit×Ap×Unit):=(Nh n a0.Ghosts (⟨a0.Now,a0.Cpus,a0.Tasks,a0.Locks,[],a0.Floors,a0.Seq,a0.Missed,a0.Trace⟩:Sys)).bind fun r1=>E4 n n (⟨a0.Now,a0.Cpus,a0.Tasks,a0.Locks,r1.1,a0.Floors,a0.Seq,a0.Missed,a0.Trace⟩:Sys) (a0.Tasks.length:Int) 0 (fun w11 w12=>some ((()),(AB (⟨a0.Now,a0.Cpus,w12,a0.Locks,r1.1,a0.Floors,a0.Seq,w11,a0.Trace⟩:Sys)),()))
def iV(n:Nat):Rw:=⟨125,pA [.box (pA [.v .int,.v .int,.own .task,.own .lock,.own .ghost,.own .int,.v .int,.v .int,.own .turn])],Rt,fun x=>Kr n (AA x.1)⟩
def pt(n:Nat):LS:=AN ⟨3,([1,16,17,18]),[],[8],[],([0,1,2,4,5,7,8])⟩ 64 [1,16,17,18] 111411113 (pD [.ptr 6 0,.bor 1,.int,.int]) [(.box (pD [.int,.int,.bor 1,.bor 2,.bor 7,.bor 4,.int,.int,.bor 5])),.root .task,.root .lock,.root .int,.root .turn,.box (pD [.ptr 0 0]),.root .ghost] (fun m x k=>E4 n m (⟨x.2.1.1,x.2.1.2.1,x.2.2.1,x.2.2.2.1,x.2.2.2.2.2.2.2.1,x.2.2.2.2.1,x.2.1.2.2.2.2.2.2.1,x.2.1.2.2.2.2.2.2.2.1,x.2.2.2.2.2.1⟩:Sys) x.1.2.2.1 x.1.2.2.2.1 (fun w0 w1=>k (.exit 0) (eS 64 [] [] 111411413 [.box [.int x.2.1.1,.int x.2.1.2.1,.bor 1,.bor 2,.bor 7,.bor 4,.int x.2.1.2.2.2.2.2.2.1,.int w0,.bor 5],.root .task w1 .ok,.root .lock x.2.2.2.1 .ok,.root .int x.2.2.2.2.1 .ok,.root .turn x.2.2.2.2.2.1 .ok,.root .ghost x.2.2.2.2.2.2.2.1 .ok])))
theorem W9(n:Nat):RO (iV n):=
 rL ⟨Go.Proofs.Tryz.f125,⟨[(0,[(0,.slot 6 .int)]),(1,[(6,(.call [.mv,.ro] (.own .ghost) [] [some 7]))]),(4,[(3,.slot 8 .int)]),(8,[(10,q41)])],[(1,dr 10 [(0,[6],[]),(1,[6],[]),(2,[0],[]),(3,[0],[]),(4,[0],[]),(6,[0,1,2,3,4,5,6,7],[3,7]),(7,[0],[]),(8,[0],[]),(9,[0,7],[0])]),(5,dr 16 [(0,[8],[]),(1,[8],[]),(4,[8],[]),(5,[8],[]),(8,[8],[]),(9,[8],[]),(10,[6],[]),(11,[0],[]),(12,[0],[]),(13,[0],[])]),(7,dr 10 [(0,[6],[]),(1,[6],[]),(2,[0],[]),(3,[0],[]),(4,[0],[]),(7,[0],[]),(8,[0],[]),(9,[0],[0])]),(8,dr 13 [(0,[6],[]),(1,[0],[]),(2,[0],[]),(3,[0],[]),(5,[8],[]),(6,[6],[]),(7,[0],[]),(8,[0],[]),(9,[0],[]),(11,[1],[]),(12,[1],[1])])],[]⟩,9⟩ [pt n] n (ec (lI n) (ec fi en)) Go.Proofs.Tryz.func125 (by kernel_rfl) ⟨AO (fun m x k=>by kernel_rfl) (fun _ _=>rfl),trivial⟩ (fun x=>by kernel_rfl)
def JK{α:Type}(n:Nat):Nat→List Lock→List Lock→Int→Int→(List Lock→Option α)→Option α|0,_,_,_,_,_=>none|m0+1,v1,v2,v3,v4,k0_0=>cond (decide (v4<v3)) (cond (decide (0≤v4)&&decide (v4<(v2.length:Int))) ((HY ((List.getD v2 (Int.toNat v4) (Kd.dflt .lock)).Waits)).bind fun r5=>let e6:=([(⟨(List.getD v2 (Int.toNat v4) (Kd.dflt .lock)).Owner,r5.1⟩:Lock)]:List Lock);cond (decide ((v1).length+(e6).length≤lim)) (JK n m0 (v1++e6) v2 v3 (w64 (v4+1)) k0_0) none) none) (k0_0 v1)
def Iv(n:Nat)(a0:List Lock):Option (List Lock×Unit):=JK n n ([]:List Lock) a0 (a0.length:Int) 0 (fun w7=>some (w7,()))
def jA(n:Nat):Rw:=⟨188,pV [.ro .lock],q24,fun x=>Iv n x.1.2⟩
def p0(n:Nat):LS:=AN ⟨3,[3,6,7,8],[(.t 3,0,.lock)],[1,2,3,4],[3],Rp⟩ 23 [3,6,7,8] 13333 (pD [.bor 0,.ro .lock,.int,.int]) [.root .lock] (fun m x k=>JK n m x.2.1 x.1.2.1.2 x.1.2.2.1 x.1.2.2.2.1 (fun w0=>k (.exit 0) (eS 23 [3] [.bor 0] 13333 [.root .lock w0 .ok])))
theorem R5(n:Nat):RO (jA n):=
 rL ⟨Go.Proofs.Tryz.f188,⟨[(4,[(2,.slot 1 .int)]),(5,[(5,WY),(7,.slot 3 .lock),(8,.slot 4 .lock)])],[(5,dr 10 [(1,[1],[]),(2,[1],[]),(3,[1],[]),(4,[1],[]),(5,[2],[2]),(7,[2,3],[2,3]),(8,[0,3,4],[0,3,4])])],[]⟩,5⟩ [p0 n] n (ec PB en) Go.Proofs.Tryz.func188 (by kernel_rfl) ⟨AO (fun m x k=>by kernel_rfl) (fun _ _=>rfl),trivial⟩ (fun x=>by kernel_rfl)
def Dl(n:Nat)(a0:Sys):Option (Ap×Unit):=(C6 a0.Tasks).bind fun r1=>(Iv n a0.Locks).bind fun r2=>(K1 a0.Ghosts).bind fun r3=>(HY a0.Floors).bind fun r4=>(Fa a0.Trace).bind fun r5=>some ((AB (⟨a0.Now,a0.Cpus,r1.1,r2.1,r3.1,r4.1,a0.Seq,a0.Missed,r5.1⟩:Sys)),())
def jD(n:Nat):Rw:=⟨124,pV [Aq],q40,fun x=>Dl n (AS x.1)⟩
theorem L6(n:Nat):RO (jD n):=
 rE ⟨Go.Proofs.Tryz.f124,⟨[(0,[(0,.slot 0 .int),(1,.slot 1 .int)]),(1,[(2,WZ),(5,(.call [.ro] (.own .lock) [] [some 3])),(8,(.call [.ro] (.own .ghost) [] [some 4])),(11,(.call [.ro] (.own .int) [] [some 5])),(14,(.call [.ro] (.own .turn) [] [some 6]))])],[(1,dr 25 [(0,[0],[]),(1,[0],[]),(2,[2],[2]),(3,[0],[]),(4,[0],[]),(5,[3],[3]),(6,[0],[]),(7,[0],[]),(8,[4],[4]),(9,[0],[]),(10,[0],[]),(11,[5],[5]),(12,[0],[]),(13,[0],[]),(14,[6],[6]),(15,[0],[]),(16,[0,2],[0]),(17,[0],[]),(18,[0,3],[0]),(19,[0],[]),(20,[0,4],[0]),(21,[0],[]),(22,[0,5],[0]),(23,[0],[]),(24,[0,6],[0])])],[]⟩,7⟩ n (ec PA (ec (R5 n) (ec XK (ec PB (ec SB en))))) Go.Proofs.Tryz.func124 (by kernel_rfl) (fun x=>by kernel_rfl)
def JL{α:Type}(n:Nat):Nat→List Task→List Int→List Int→Int→Int→(Option α)→(Option α)→Option α|0,_,_,_,_,_,_,_=>none|m0+1,v2,v3,v4,v5,v6,k0_0,k0_1=>cond (decide (v6<v5)) (cond (decide (0≤v6)&&decide (v6<(v4.length:Int))) ((Bu n v2 (List.getD v4 (Int.toNat v6) (Kd.dflt .int))).bind fun r7=>cond (decide (r7.1<0)) k0_0 (JL n m0 v2 v3 v4 v5 (w64 (v6+1)) k0_0 k0_1)) none) k0_1
def NH(n:Nat)(a0:List Task)(a1:List Lock)(a2:Int):Option (Int×Unit):=(Iu n a1 a2).bind fun r1=>JL n n a0 r1.1.1 r1.1.1 (r1.1.1.length:Int) 0 (some (0,())) (cond ((decide (0≤(w64 ((r1.1.1.length:Int)-1))))&&(decide ((w64 ((r1.1.1.length:Int)-1))<(r1.1.1.length:Int)))) (let e8:=(List.getD r1.1.1 (Int.toNat (w64 ((r1.1.1.length:Int)-1))) (Kd.dflt .int));some (e8,())) none)
def jG(n:Nat):Rw:=⟨99,pV [.ro .task,.ro .lock,.int],pS [.int],fun x=>NH n x.1.2 x.2.1.2 x.2.2.1⟩
def p6(n:Nat):LS:=AN ⟨3,([0,7,17,18,19]),[],[],[6,7],[]⟩ 34 [0,7,17,18,19] 0 (pD [.ro .task,.rog .int,.rog .int,.int,.int]) [] (fun m x k=>JL n m x.1.1.2 x.1.2.1 x.1.2.2.1 x.1.2.2.2.1 x.1.2.2.2.2.1 (k .ret (eS 34 [6,7] [.int 0,.ro true .int x.1.2.1] 0 [])) (k (.exit 0) (eS 34 [7] [.ro true .int x.1.2.1] 0 [])))
theorem jH(n:Nat):RO (jG n):=
 rL ⟨Go.Proofs.Tryz.f99,⟨[(1,[(2,q13)]),(5,[(2,cl 2 .int 0)])],[],[]⟩,0⟩ [p6 n] n (ec (R4 n) (ec (DM n) en)) Go.Proofs.Tryz.func99 (by kernel_rfl) ⟨AO (fun m x k=>by kernel_rfl) (fun _ _=>rfl),trivial⟩ (fun x=>by kernel_rfl)
def GD(n:Nat)(a0:List Task)(a1:List Lock)(a2:Int):Option (Int×Unit):=(D3 n a0).bind fun r1=>cond (!r1.1) (some (0,())) ((GF n a1).bind fun r2=>cond (!r2.1) (some (0,())) ((NH n a0 a1 a2).bind fun r3=>some (r3.1,())))
def fq(n:Nat):Rw:=⟨23,pV [.ro .task,.ro .lock,.int],pS [.int],fun x=>GD n x.1.2 x.2.1.2 x.2.2.1⟩
theorem Rv(n:Nat):RO (fq n):=
 rE ⟨Go.Proofs.Tryz.f23,⟨[(1,[(1,cl 1 .bool 0),(5,cl 1 .bool 0)]),(3,[(3,cl 3 .int 0)])],[],[]⟩,0⟩ n (ec (O7 n) (ec (L4 n) (ec (jH n) en))) Go.Proofs.Tryz.func23 (by kernel_rfl) (fun x=>by kernel_rfl)
def KZ(n:Nat)(a0:List Task)(a1:List Lock)(a2:Int):Option (Bool×Unit):=(GD n a0 a1 a2).bind fun r1=>cond (!(decide (r1.1=0))) ((Bu n a0 a2).bind fun r2=>cond (decide (0≤r2.1)&&decide (r2.1<(a0.length:Int))) (let e3:=(decide ((List.getD a0 (Int.toNat r2.1) (Kd.dflt .task)).State=1));cond e3 ((Bu n a0 r1.1).bind fun r4=>cond (decide (0≤r4.1)&&decide (r4.1<(a0.length:Int))) (let e5:=(decide ((List.getD a0 (Int.toNat r4.1) (Kd.dflt .task)).State=1));some (e5,())) none) (some (false,()))) none) (some (false,()))
def fV(n:Nat):Rw:=⟨56,pV [.ro .task,.ro .lock,.int],pS [.bool],fun x=>KZ n x.1.2 x.2.1.2 x.2.2.1⟩
theorem Ws(n:Nat):RO (fV n):=
 rE ⟨Go.Proofs.Tryz.f56,⟨[(1,[(3,cl 3 .int 0)]),(2,[(6,cl 2 .int 0),(16,cl 2 .int 0)])],[],[]⟩,0⟩ n (ec (Rv n) (ec (DM n) en)) Go.Proofs.Tryz.func56 (by kernel_rfl) (fun x=>by kernel_rfl)
def Mo(a0:Task)(a1:Int):Option (BW×Unit):=(FZ a0).bind fun r1=>cond (!r1.1) (some ((AK a0),())) ((GJ a1).bind fun r2=>cond (!r2.1) (some ((AK a0),())) (cond (decide (a0.Due≤a1)) (some ((AK (⟨a0.No,a0.Class,a0.Cpu,a0.State,a0.Idle,a0.Q,a0.P,a0.Q,(w64 (a1+a0.P)),a0.Prio,a0.Round,a0.Seq,a0.Nice,a0.V⟩:Task)),())) (let e3:=(decide ((w64 ((w64 (a0.Due-a1))*a0.Q))<(w64 (a0.Left*a0.P))));cond e3 (some ((AK (⟨a0.No,a0.Class,a0.Cpu,a0.State,a0.Idle,a0.Q,a0.P,a0.Q,(w64 (a1+a0.P)),a0.Prio,a0.Round,a0.Seq,a0.Nice,a0.V⟩:Task)),())) (some ((AK a0),())))))
def fm:Rw:=⟨195,pV [Au,.int],q37,fun x=>Mo (AC x.1) x.2.1⟩
theorem fp:RO (fm):=
 rE ⟨Go.Proofs.Tryz.f195,⟨[(0,[(0,.slot 0 .int),(1,.slot 1 .int)]),(1,[(1,cl 1 .bool 0),(5,cl 1 .bool 0)])],[],[]⟩,2⟩ 0 (ec O8 (ec O9 en)) Go.Proofs.Tryz.func195 (by kernel_rfl) (fun x=>by kernel_rfl)
def Eo(a0:Task):Option (Bool×Unit):=cond (decide (a0.Class=3)) ((Em a0).bind fun r1=>some (r1.1,())) (some (false,()))
def jP:Rw:=⟨230,pV [Au],pS [.bool],fun x=>Eo (AC x.1)⟩
theorem L7:RO (jP):=
 rE ⟨Go.Proofs.Tryz.f230,⟨[(0,[(0,.slot 0 .int)]),(1,[(5,cl 1 .bool 0)])],[],[]⟩,1⟩ 0 (ec J1 en) Go.Proofs.Tryz.func230 (by kernel_rfl) (fun x=>by kernel_rfl)
def Kz(a0:Task)(a1:Int):Option (BW×Unit):=(BA a1 0 100000000).bind fun r1=>cond r1.1 (some ((AK (⟨a0.No,a0.Class,a0.Cpu,a0.State,a0.Idle,a0.Q,a0.P,a0.Left,a0.Due,a0.Prio,a0.Round,a0.Seq,a0.Nice,a1⟩:Task)),())) (some ((AK a0),()))
def jk:Rw:=⟨234,pV [Au,.int],q37,fun x=>Kz (AC x.1) x.2.1⟩
theorem XI:RO (jk):=
 rE ⟨Go.Proofs.Tryz.f234,⟨[(0,[(0,.slot 0 .int),(1,.slot 1 .int)]),(1,[(1,cl 3 .bool 0)])],[],[]⟩,2⟩ 0 (ec CI en) Go.Proofs.Tryz.func234 (by kernel_rfl) (fun x=>by kernel_rfl)
def Mq(a0:Task)(a1:Int):Option (BW×Unit):=(Eo a0).bind fun r1=>cond (!r1.1) (some ((AK a0),())) (cond (decide (a1≤a0.V)) (some ((AK a0),())) ((Kz a0 a1).bind fun r2=>some ((AK (AC r2.1)),())))
def gC:Rw:=⟨194,pV [Au,.int],q37,fun x=>Mq (AC x.1) x.2.1⟩
theorem gD:RO (gC):=
 rE ⟨Go.Proofs.Tryz.f194,⟨[(0,[(0,.slot 0 .int),(1,.slot 1 .int)]),(1,[(1,cl 1 .bool 0)]),(3,[(2,q41)])],[],[]⟩,2⟩ 0 (ec L7 (ec XI en)) Go.Proofs.Tryz.func194 (by kernel_rfl) (fun x=>by kernel_rfl)
end Go.Proofs.YthoholbeacojfaaGreat.VR
end
section
set_option linter.unusedVariables false
set_option maxRecDepth 100000
namespace Go.Proofs.YthoholbeacojfaaGreat.VR
open Go
def JH{α:Type}(n:Nat):Nat→Sys→List Bool→Int→Int→(List Bool→Option α)→Option α|0,_,_,_,_,_=>none|m0+1,v1,v2,v3,v4,k0_0=>cond (decide (v4<v3)) (cond (decide (0≤v4)&&decide (v4<(v1.Tasks.length:Int))) ((KZ n v1.Tasks v1.Locks ((List.getD v1.Tasks (Int.toNat v4) (Kd.dflt .task)).No)).bind fun r5=>cond (decide ((v2).length+(([r5.1]:List Bool)).length≤lim)) (JH n m0 v1 (v2++([r5.1]:List Bool)) v3 (w64 (v4+1)) k0_0) none) none) (k0_0 v2)
def E5{α:Type}(n:Nat):Nat→Sys→List Bool→Int→Int→(List Task→Option α)→Option α|0,_,_,_,_,_=>none|m1+1,v7,v8,v9,v10,k1_0=>cond (decide (v10<v9)) (cond (decide (0≤v10)&&decide (v10<(v7.Tasks.length:Int))) (cond (decide (0≤v10)&&decide (v10<(v8.length:Int))) (cond (List.getD v8 (Int.toNat v10) (Kd.dflt .bool)) (cond ((List.getD v7.Tasks (Int.toNat v10) (Kd.dflt .task)).Idle) ((Mo (⟨(List.getD v7.Tasks (Int.toNat v10) (Kd.dflt .task)).No,(List.getD v7.Tasks (Int.toNat v10) (Kd.dflt .task)).Class,(List.getD v7.Tasks (Int.toNat v10) (Kd.dflt .task)).Cpu,(List.getD v7.Tasks (Int.toNat v10) (Kd.dflt .task)).State,false,(List.getD v7.Tasks (Int.toNat v10) (Kd.dflt .task)).Q,(List.getD v7.Tasks (Int.toNat v10) (Kd.dflt .task)).P,(List.getD v7.Tasks (Int.toNat v10) (Kd.dflt .task)).Left,(List.getD v7.Tasks (Int.toNat v10) (Kd.dflt .task)).Due,(List.getD v7.Tasks (Int.toNat v10) (Kd.dflt .task)).Prio,(List.getD v7.Tasks (Int.toNat v10) (Kd.dflt .task)).Round,(List.getD v7.Tasks (Int.toNat v10) (Kd.dflt .task)).Seq,(List.getD v7.Tasks (Int.toNat v10) (Kd.dflt .task)).Nice,(List.getD v7.Tasks (Int.toNat v10) (Kd.dflt .task)).V⟩:Task) v7.Now).bind fun r11=>cond ((decide (0≤(List.getD v7.Tasks (Int.toNat v10) (Kd.dflt .task)).Cpu))&&(decide ((List.getD v7.Tasks (Int.toNat v10) (Kd.dflt .task)).Cpu<(v7.Floors.length:Int)))) (let e12:=(List.getD v7.Floors (Int.toNat (List.getD v7.Tasks (Int.toNat v10) (Kd.dflt .task)).Cpu) (Kd.dflt .int));(Mq (AC r11.1) e12).bind fun r13=>cond (decide (0≤v10)&&decide (v10<(v7.Tasks.length:Int))) (cond (decide ((Int.toNat v10)<(v7.Tasks).length)) (E5 n m1 (⟨v7.Now,v7.Cpus,(List.set v7.Tasks (Int.toNat v10) (AC r13.1)),v7.Locks,v7.Ghosts,v7.Floors,v7.Seq,v7.Missed,v7.Trace⟩:Sys) v8 v9 (w64 (v10+1)) k1_0) none) none) none) (cond (decide (0≤v10)&&decide (v10<(v8.length:Int))) (cond (decide (0≤v10)&&decide (v10<(v7.Tasks.length:Int))) (cond (decide ((Int.toNat v10)<(v7.Tasks).length)) (let e14:=(List.set v7.Tasks (Int.toNat v10) (⟨(List.getD v7.Tasks (Int.toNat v10) (Kd.dflt .task)).No,(List.getD v7.Tasks (Int.toNat v10) (Kd.dflt .task)).Class,(List.getD v7.Tasks (Int.toNat v10) (Kd.dflt .task)).Cpu,(List.getD v7.Tasks (Int.toNat v10) (Kd.dflt .task)).State,(!(List.getD v8 (Int.toNat v10) (Kd.dflt .bool))),(List.getD v7.Tasks (Int.toNat v10) (Kd.dflt .task)).Q,(List.getD v7.Tasks (Int.toNat v10) (Kd.dflt .task)).P,(List.getD v7.Tasks (Int.toNat v10) (Kd.dflt .task)).Left,(List.getD v7.Tasks (Int.toNat v10) (Kd.dflt .task)).Due,(List.getD v7.Tasks (Int.toNat v10) (Kd.dflt .task)).Prio,(List.getD v7.Tasks (Int.toNat v10) (Kd.dflt .task)).Round,(List.getD v7.Tasks (Int.toNat v10) (Kd.dflt .task)).Seq,(List.getD v7.Tasks (Int.toNat v10) (Kd.dflt .task)).Nice,(List.getD v7.Tasks (Int.toNat v10) (Kd.dflt .task)).V⟩:Task));E5 n m1 (⟨v7.Now,v7.Cpus,e14,v7.Locks,v7.Ghosts,v7.Floors,v7.Seq,v7.Missed,v7.Trace⟩:Sys) v8 v9 (w64 (v10+1)) k1_0) none) none) none)) (cond (decide (0≤v10)&&decide (v10<(v8.length:Int))) (cond (decide (0≤v10)&&decide (v10<(v7.Tasks.length:Int))) (cond (decide ((Int.toNat v10)<(v7.Tasks).length)) (let e15:=(List.set v7.Tasks (Int.toNat v10) (⟨(List.getD v7.Tasks (Int.toNat v10) (Kd.dflt .task)).No,(List.getD v7.Tasks (Int.toNat v10) (Kd.dflt .task)).Class,(List.getD v7.Tasks (Int.toNat v10) (Kd.dflt .task)).Cpu,(List.getD v7.Tasks (Int.toNat v10) (Kd.dflt .task)).State,(!(List.getD v8 (Int.toNat v10) (Kd.dflt .bool))),(List.getD v7.Tasks (Int.toNat v10) (Kd.dflt .task)).Q,(List.getD v7.Tasks (Int.toNat v10) (Kd.dflt .task)).P,(List.getD v7.Tasks (Int.toNat v10) (Kd.dflt .task)).Left,(List.getD v7.Tasks (Int.toNat v10) (Kd.dflt .task)).Due,(List.getD v7.Tasks (Int.toNat v10) (Kd.dflt .task)).Prio,(List.getD v7.Tasks (Int.toNat v10) (Kd.dflt .task)).Round,(List.getD v7.Tasks (Int.toNat v10) (Kd.dflt .task)).Seq,(List.getD v7.Tasks (Int.toNat v10) (Kd.dflt .task)).Nice,(List.getD v7.Tasks (Int.toNat v10) (Kd.dflt .task)).V⟩:Task));E5 n m1 (⟨v7.Now,v7.Cpus,e15,v7.Locks,v7.Ghosts,v7.Floors,v7.Seq,v7.Missed,v7.Trace⟩:Sys) v8 v9 (w64 (v10+1)) k1_0) none) none) none)) none) none) (k1_0 v7.Tasks)
def Ku(n:Nat)(a0:Sys):Option (Unit×Ap×Unit):=JH n n a0 ([]:List Bool) (a0.Tasks.length:Int) 0 (fun w6=>E5 n n a0 w6 (a0.Tasks.length:Int) 0 (fun w16=>some ((()),(AB (⟨a0.Now,a0.Cpus,w16,a0.Locks,a0.Ghosts,a0.Floors,a0.Seq,a0.Missed,a0.Trace⟩:Sys)),())))
def ia(n:Nat):Rw:=⟨126,pA [.box (pA [.v .int,.v .int,.own .task,.own .lock,.own .ghost,.own .int,.v .int,.v .int,.own .turn])],Rt,fun x=>Ku n (AA x.1)⟩
def pu(n:Nat):LS:=AN ⟨2,([0,2,11,12,13]),[(.t 2,7,.bool)],[8,9,10],[0,2],([0,1,2,3,4,5,7,8,9,10,11])⟩ 85 [0,2,11,12,13] 111111413333 (pD [.ptr 0 0,.bor 7,.bor 1,.int,.int]) [O1,.root .task,.root .lock,.root .ghost,.root .int,.root .turn,.root .bool] (fun m x k=>JH n m (⟨x.2.1.1,x.2.1.2.1,x.2.2.1,x.2.2.2.1,x.2.2.2.2.1,x.2.2.2.2.2.1,x.2.1.2.2.2.2.2.2.1,x.2.1.2.2.2.2.2.2.2.1,x.2.2.2.2.2.2.1⟩:Sys) x.2.2.2.2.2.2.2.1 x.1.2.2.2.1 x.1.2.2.2.2.1 (fun w0=>k (.exit 0) (eS 85 [0,2] [.ptr 0 0,.bor 7] 111111413333 [DE.make O1 x.2.1,.root .task x.2.2.1 .ok,.root .lock x.2.2.2.1 .ok,.root .ghost x.2.2.2.2.1 .ok,.root .int x.2.2.2.2.2.1 .ok,.root .turn x.2.2.2.2.2.2.1 .ok,.root .bool w0 .ok])))
def pv(n:Nat):LS:=AN ⟨7,([0,2,35,36,37]),[],[11],[],([0,1,2,3,4,5,8,9,10,11])⟩ 85 [0,2,35,36,37] 111111413333 (pD [.ptr 0 0,.bor 7,.bor 1,.int,.int]) [O1,.root .task,.root .lock,.root .ghost,.root .int,.root .turn,.root .bool] (fun m x k=>E5 n m (⟨x.2.1.1,x.2.1.2.1,x.2.2.1,x.2.2.2.1,x.2.2.2.2.1,x.2.2.2.2.2.1,x.2.1.2.2.2.2.2.2.1,x.2.1.2.2.2.2.2.2.2.1,x.2.2.2.2.2.2.1⟩:Sys) x.2.2.2.2.2.2.2.1 x.1.2.2.2.1 x.1.2.2.2.2.1 (fun w0=>k (.exit 2) (eS 85 [] [] 111111443333 [DE.make O1 x.2.1,.root .task w0 .ok,.root .lock x.2.2.2.1 .ok,.root .ghost x.2.2.2.2.1 .ok,.root .int x.2.2.2.2.2.1 .ok,.root .turn x.2.2.2.2.2.2.1 .ok])))
theorem XB(n:Nat):RO (ia n):=
 rL ⟨Go.Proofs.Tryz.f126,⟨[(0,[(0,.slot 6 .bool)]),(3,[(2,.slot 8 .int)]),(4,[(11,cl 3 .bool 0),(12,.slot 9 .bool),(13,.slot 10 .bool)]),(8,[(3,.slot 11 .int)]),(11,[(10,q41),(19,q41)])],[(4,dr 15 [(2,[0],[]),(3,[0],[]),(4,[0],[]),(6,[0],[]),(7,[0],[]),(8,[0],[]),(9,[8],[]),(10,[8],[]),(11,[1,2],[]),(12,[9],[9]),(13,[7,9,10],[7,10])]),(11,dr 22 [(1,[0],[]),(2,[0],[]),(3,[0],[]),(5,[11],[]),(7,[0],[]),(8,[0],[]),(9,[0],[]),(12,[0],[]),(13,[0],[]),(14,[0],[]),(15,[11],[]),(16,[11],[]),(17,[4],[]),(18,[4],[]),(20,[1],[]),(21,[1],[1])]),(12,dr 13 [(1,[0],[]),(2,[0],[]),(3,[0],[]),(7,[7],[]),(8,[7],[]),(10,[1],[]),(11,[1],[]),(12,[1],[1])])],[]⟩,12⟩ [pu n,pv n] n (ec (Ws n) (ec fp (ec gD en))) Go.Proofs.Tryz.func126 (by kernel_rfl) ⟨AO (fun m x k=>by kernel_rfl) (fun _ _=>rfl),AO (fun m x k=>by kernel_rfl) (fun _ _=>rfl),trivial⟩ (fun x=>by kernel_rfl)
def Kv(a0:Task)(a1_0:Int):Option (Bool×Unit):=cond a0.Idle (some (true,())) (some ((!(decide (a0.Cpu=a1_0))),()))
def i5:Rw:=⟨177,pV [Au,.rp (pD [.int]) 0],pS [.bool],fun x=>Kv (AC x.1) x.2.1.1⟩
theorem XC:RO (i5):=
 rE ⟨Go.Proofs.Tryz.f177,⟨[(0,[(0,.slot 0 .int)])],[],[]⟩,1⟩ 0 en Go.Proofs.Tryz.func177 (by kernel_rfl) (fun x=>by kernel_rfl)
def Jc{α:Type}(n:Nat):Nat→List Task→Int→Int→Int→(Int→Option α)→(Option α)→Option α|0,_,_,_,_,_,_=>none|m0+1,v1,v2,v3,v4,k0_0,k0_1=>cond (decide (v4<v3)) (cond (decide (0≤v4)&&decide (v4<(v1.length:Int))) ((Kv (List.getD v1 (Int.toNat v4) (Kd.dflt .task)) v2).bind fun r5=>cond r5.1 (k0_0 v4) (Jc n m0 v1 v2 v3 (w64 (v4+1)) k0_0 k0_1)) none) k0_1
def Nn(n:Nat)(a0:List Task)(a1_0_0:Int):Option (Int×Unit):=Jc n n a0 a1_0_0 (a0.length:Int) 0 (fun w6=>some (w6,())) (some ((-1),()))
def ln(n:Nat):Rw:=⟨97,pV [.ro .task,.clo 177 (pD [.rp (pD [.int]) 0])],pS [.int],fun x=>Nn n x.1.2 x.2.1.1.1⟩
def qZ(n:Nat):LS:=AN ⟨2,[0,1,7,8],[],[],[4],[]⟩ 19 [0,1,7,8] 0 (pD [.ro .task,.clo 177 (pD [.rp (pD [.int]) 0]),.int,.int]) [] (fun m x k=>Jc n m x.1.1.2 x.1.2.1.1.1 x.1.2.2.1 x.1.2.2.2.1 (fun w0=>k .ret (eS 19 [4] [.int w0] 0 [])) (k (.exit 0) (eS 19 [] [] 0 [])))
theorem lp(n:Nat):RO (ln n):=
 rL ⟨Go.Proofs.Tryz.f97,⟨[(4,[(5,cl 1 .bool 0)])],[],[]⟩,0⟩ [qZ n] n (ec XC en) Go.Proofs.Tryz.func97 (by kernel_rfl) ⟨AO (fun m x k=>by kernel_rfl) (fun _ _=>rfl),trivial⟩ (fun x=>by kernel_rfl)
def Hy{α:Type}(n:Nat):Nat→List Task→Int→Int→Int→(Int→List Task→Option α)→Option α|0,_,_,_,_,_=>none|m0+1,v2,v3,v4,v5,k0_0=>cond (decide (v5<(v2.length:Int))) (cond (decide (0≤v5)&&decide (v5<(v2.length:Int))) ((Kv (List.getD v2 (Int.toNat v5) (Kd.dflt .task)) v3).bind fun r6=>cond (!r6.1) (cond (decide (0≤v4)&&decide (v4<(v2.length:Int))) (cond (decide ((Int.toNat v4)<(v2).length)) (let e7:=(List.set v2 (Int.toNat v4) (List.getD v2 (Int.toNat v5) (Kd.dflt .task)));Hy n m0 e7 v3 (w64 (v4+1)) (w64 (v5+1)) k0_0) none) none) (Hy n m0 v2 v3 v4 (w64 (v5+1)) k0_0)) none) (k0_0 v4 v2)
def Ni(n:Nat)(a0:List Task)(a1_0_0:Int):Option (List Task×Unit):=(Nn n a0 a1_0_0).bind fun r1=>cond (decide (r1.1=(-1))) (some (a0,())) (Hy n n a0 a1_0_0 r1.1 (w64 (r1.1+1)) (fun w8 w9=>cond ((decide (0≤w8)&&decide (w8≤(w9.length:Int)))&&(decide ((w9.length:Int)≤(w9.length:Int)))) (cond ((decide ((Int.toNat w8)<(Int.toNat (w9.length:Int))))&&(decide ((Int.toNat (w9.length:Int))≤(w9).length))) (let e10:=(A5 w9 (Int.toNat w8) (List.replicate ((Int.toNat (w9.length:Int))-(Int.toNat w8)) (Kd.dflt .task)));cond (decide (0≤w8)&&decide (w8≤(e10.length:Int))) (some ((List.take (Int.toNat w8) e10),())) none) none) none))
def lJ(n:Nat):Rw:=⟨175,pA [.own .task,.v (.clo 177 (pD [.rp (pD [.int]) 0]))],q42,fun x=>Ni n x.1 x.2.1.1.1⟩
def qO(n:Nat):LS:=AN ⟨5,[0,1,5,6],[],[1],[0,5],[0,1,2]⟩ 42 [0,1,5,6] 133 (pD [.bor 0,.clo 177 (pD [.rp (pD [.int]) 0]),.int,.int]) [.root .task] (fun m x k=>Hy n m x.2.1 x.1.2.1.1.1 x.1.2.2.1 x.1.2.2.2.1 (fun w0 w1=>k (.exit 0) (eS 42 [0,5] [.bor 0,.int w0] 133 [.root .task w1 .ok])))
theorem lK(n:Nat):RO (lJ n):=
 rL ⟨Go.Proofs.Tryz.f175,⟨[(1,[(2,cl 2 .int 0)]),(7,[(4,.slot 1 .int)]),(8,[(2,cl 1 .bool 0)]),(12,[(2,.slot 2 .task)])],[],[]⟩,3⟩ [qO n] n (ec (lp n) (ec XC en)) Go.Proofs.Tryz.func175 (by kernel_rfl) ⟨AO (fun m x k=>by kernel_rfl) (fun _ _=>rfl),trivial⟩ (fun x=>by kernel_rfl)
def It(n:Nat)(a0:Sys)(a1:Int):Option (List Task×Unit):=(C6 a0.Tasks).bind fun r1=>(Ni n r1.1 a1).bind fun r2=>some (r2.1,())
def i4(n:Nat):Rw:=⟨108,pV [Aq,.int],(pS [.ro .task]),fun x=>It n (AS x.1) x.2.1⟩
theorem R3(n:Nat):RO (i4 n):=
 rE ⟨Go.Proofs.Tryz.f108,⟨[(0,[(0,.slot 0 .int),(1,.slot 1 .int)]),(1,[(2,WZ),(4,(.call [.mv,.ro] (.own .task) [] [none]))])],[],[]⟩,3⟩ n (ec PA (ec (lK n) en)) Go.Proofs.Tryz.func108 (by kernel_rfl) (fun x=>by kernel_rfl)
def E7{α:Type}(n:Nat):Nat→Int→Int→Bool→List Task→Int→Int→(Int→Int→Bool→Option α)→Option α|0,_,_,_,_,_,_,_=>none|m0+1,v1,v2,v3,v4,v5,v6,k0_0=>cond (decide (v6<v5)) (cond (decide (0≤v6)&&decide (v6<(v4.length:Int))) ((Eo (List.getD v4 (Int.toNat v6) (Kd.dflt .task))).bind fun r7=>cond (!r7.1) (E7 n m0 v1 v2 v3 v4 v5 (w64 (v6+1)) k0_0) (cond (!v3) (let e8:=(if(List.getD v4 (Int.toNat v6) (Kd.dflt .task)).V<(List.getD v4 (Int.toNat v6) (Kd.dflt .task)).V then(List.getD v4 (Int.toNat v6) (Kd.dflt .task)).V else(List.getD v4 (Int.toNat v6) (Kd.dflt .task)).V);let e9:=(if(List.getD v4 (Int.toNat v6) (Kd.dflt .task)).V>(List.getD v4 (Int.toNat v6) (Kd.dflt .task)).V then(List.getD v4 (Int.toNat v6) (Kd.dflt .task)).V else(List.getD v4 (Int.toNat v6) (Kd.dflt .task)).V);E7 n m0 e8 e9 true v4 v5 (w64 (v6+1)) k0_0) (let e10:=(if(List.getD v4 (Int.toNat v6) (Kd.dflt .task)).V<v1 then(List.getD v4 (Int.toNat v6) (Kd.dflt .task)).V else v1);let e11:=(if(List.getD v4 (Int.toNat v6) (Kd.dflt .task)).V>v2 then(List.getD v4 (Int.toNat v6) (Kd.dflt .task)).V else v2);E7 n m0 e10 e11 v3 v4 v5 (w64 (v6+1)) k0_0))) none) (k0_0 v1 v2 v3)
def Kx(n:Nat)(a0:List Task):Option ((Int×Int×Bool×Unit)×Unit):=E7 n n 0 0 false a0 (a0.length:Int) 0 (fun w12 w13 w14=>some ((w12,w13,w14,()),()))
def jF(n:Nat):Rw:=⟨174,pV [.ro .task],q19,fun x=>Kx n x.1.2⟩
def p5(n:Nat):LS:=AN ⟨3,([5,6,7,10,11,12]),[],[0],[5,6,7],[0]⟩ 37 [5,6,7,10,11,12] 3 (pD [.int,.int,.bool,.ro .task,.int,.int]) [] (fun m x k=>E7 n m x.1.1 x.1.2.1 x.1.2.2.1 x.1.2.2.2.1.2 x.1.2.2.2.2.1 x.1.2.2.2.2.2.1 (fun w0 w1 w2=>k (.exit 0) (eS 37 [5,6,7] [.int w0,.int w1,.bool w2] 3 [])))
theorem XD(n:Nat):RO (jF n):=
 rL ⟨Go.Proofs.Tryz.f174,⟨[(4,[(2,.slot 0 .int)]),(5,[(1,cl 1 .bool 0)])],[(7,dr 7 [(0,[0],[]),(1,[0],[]),(2,[0],[]),(3,[0],[])]),(8,dr 10 [(1,[0],[]),(2,[0],[]),(5,[0],[]),(6,[0],[])])],[]⟩,1⟩ [p5 n] n (ec L7 en) Go.Proofs.Tryz.func174 (by kernel_rfl) ⟨AO (fun m x k=>by kernel_rfl) (fun _ _=>rfl),trivial⟩ (fun x=>by kernel_rfl)
def Kf(n:Nat)(a0:List Task)(a1:Int):Option (Int×Unit):=(Kx n a0).bind fun r1=>cond (!r1.1.2.2.1) (some (a1,())) (some ((if r1.1.1>a1 then r1.1.1 else a1),()))
def fu(n:Nat):Rw:=⟨127,pV [.ro .task,.int],pS [.int],fun x=>Kf n x.1.2 x.2.1⟩
theorem Ww(n:Nat):RO (fu n):=
 rE ⟨Go.Proofs.Tryz.f127,⟨[(1,[(1,q21)])],[],[]⟩,0⟩ n (ec (XD n) en) Go.Proofs.Tryz.func127 (by kernel_rfl) (fun x=>by kernel_rfl)
def Mm(n:Nat)(a0:List Task)(a1:List Lock)(a2:Int):Option (Bool×Unit):=(KZ n a0 a1 a2).bind fun r1=>cond (!r1.1) (some (false,())) ((Bu n a0 a2).bind fun r2=>cond (decide (0≤r2.1)&&decide (r2.1<(a0.length:Int))) (let e3:=(!(decide ((List.getD a0 (Int.toNat r2.1) (Kd.dflt .task)).Class=1)));cond e3 (some (true,())) (let e4:=(decide (0<(List.getD a0 (Int.toNat r2.1) (Kd.dflt .task)).Left));some (e4,()))) none)
def fZ(n:Nat):Rw:=⟨179,pV [.ro .task,.ro .lock,.int],pS [.bool],fun x=>Mm n x.1.2 x.2.1.2 x.2.2.1⟩
theorem fc(n:Nat):RO (fZ n):=
 rE ⟨Go.Proofs.Tryz.f179,⟨[(1,[(3,cl 3 .bool 0)]),(3,[(3,cl 2 .int 0),(6,.slot 0 .int)])],[],[]⟩,1⟩ n (ec (Ws n) (ec (DM n) en)) Go.Proofs.Tryz.func179 (by kernel_rfl) (fun x=>by kernel_rfl)
def Gf{α:Type}(n:Nat):Nat→List Task→List Lock→Int→List Task→List Task→Int→Int→(List Task→Option α)→Option α|0,_,_,_,_,_,_,_,_=>none|m0+1,v1,v2,v3,v4,v5,v6,v7,k0_0=>cond (decide (v7<v6)) (cond (decide (0≤v7)&&decide (v7<(v5.length:Int))) (let e8:=(decide ((List.getD v5 (Int.toNat v7) (Kd.dflt .task)).Cpu=v3));cond e8 ((Mm n v1 v2 ((List.getD v5 (Int.toNat v7) (Kd.dflt .task)).No)).bind fun r9=>cond r9.1 (let e10:=([(List.getD v5 (Int.toNat v7) (Kd.dflt .task))]:List Task);cond (decide ((v4).length+(e10).length≤lim)) (Gf n m0 v1 v2 v3 (v4++e10) v5 v6 (w64 (v7+1)) k0_0) none) (Gf n m0 v1 v2 v3 v4 v5 v6 (w64 (v7+1)) k0_0)) (Gf n m0 v1 v2 v3 v4 v5 v6 (w64 (v7+1)) k0_0)) none) (k0_0 v4)
def Ky(n:Nat)(a0:List Task)(a1:List Lock)(a2:Int):Option (List Task×Unit):=Gf n n a0 a1 a2 ([]:List Task) a0 (a0.length:Int) 0 (fun w11=>some (w11,()))
def jf(n:Nat):Rw:=⟨113,pV [.ro .task,.ro .lock,.int],q42,fun x=>Ky n x.1.2 x.2.1.2 x.2.2.1⟩
def qA(n:Nat):LS:=AN ⟨3,([0,1,2,7,11,12,13]),[(.t 7,1,.task)],[2,3,4],[7],[1,2,3,4]⟩ 34 [0,1,2,7,11,12,13] 41333 (pD [.ro .task,.ro .lock,.int,.bor 1,.ro .task,.int,.int]) [.root .task] (fun m x k=>Gf n m x.1.1.2 x.1.2.1.2 x.1.2.2.1 x.2.1 x.1.2.2.2.2.1.2 x.1.2.2.2.2.2.1 x.1.2.2.2.2.2.2.1 (fun w0=>k (.exit 0) (eS 34 [7] [.bor 1] 41333 [.root .task w0 .ok])))
theorem XH(n:Nat):RO (jf n):=
 rL ⟨Go.Proofs.Tryz.f113,⟨[(1,[(0,.slot 0 .task)]),(4,[(2,.slot 2 .int)]),(5,[(9,cl 3 .bool 0)]),(6,[(2,.slot 3 .task),(3,.slot 4 .task)])],[],[]⟩,5⟩ [qA n] n (ec (fc n) en) Go.Proofs.Tryz.func113 (by kernel_rfl) ⟨AO (fun m x k=>by kernel_rfl) (fun _ _=>rfl),trivial⟩ (fun x=>by kernel_rfl)
def QH(a0:Task)(a1:Task):Option (Bool×Unit):=(FZ a0).bind fun r1=>cond r1.1 ((FZ a1).bind fun r2=>cond r2.1 (cond (decide (a0.Due<a1.Due)) (some (true,())) (cond (decide (a0.Due=a1.Due)) (some ((decide (a0.No<a1.No)),())) (some (false,())))) (some (false,()))) (some (false,()))
def ff:Rw:=⟨180,pV [Au,Au],pS [.bool],fun x=>QH (AC x.1) (AC x.2.1)⟩
theorem fg:RO (ff):=
 rE ⟨Go.Proofs.Tryz.f180,⟨[(0,[(0,.slot 0 .int),(1,.slot 1 .int)]),(1,[(1,cl 1 .bool 0),(4,cl 1 .bool 0)])],[],[]⟩,2⟩ 0 (ec O8 en) Go.Proofs.Tryz.func180 (by kernel_rfl) (fun x=>by kernel_rfl)
def HW(a0:Task):Option (Bool×Unit):=cond (decide (a0.Class=2)) ((Em a0).bind fun r1=>some (r1.1,())) (some (false,()))
def jQ:Rw:=⟨232,pV [Au],pS [.bool],fun x=>HW (AC x.1)⟩
theorem XF:RO (jQ):=
 rE ⟨Go.Proofs.Tryz.f232,⟨[(0,[(0,.slot 0 .int)]),(1,[(5,cl 1 .bool 0)])],[],[]⟩,1⟩ 0 (ec J1 en) Go.Proofs.Tryz.func232 (by kernel_rfl) (fun x=>by kernel_rfl)
def QJ(a0:Task)(a1:Task):Option (Bool×Unit):=(HW a0).bind fun r1=>cond (!r1.1) (some (false,())) ((HW a1).bind fun r2=>cond (!r2.1) (some (false,())) (cond (!(decide (a0.Prio=a1.Prio))) (some ((decide (a1.Prio<a0.Prio)),())) (cond (!(decide (a0.Seq=a1.Seq))) (some ((decide (a0.Seq<a1.Seq)),())) (some ((decide (a0.No<a1.No)),())))))
def gF:Rw:=⟨181,pV [Au,Au],pS [.bool],fun x=>QJ (AC x.1) (AC x.2.1)⟩
theorem gG:RO (gF):=
 rE ⟨Go.Proofs.Tryz.f181,⟨[(0,[(0,.slot 0 .int),(1,.slot 1 .int)]),(1,[(1,cl 1 .bool 0),(5,cl 1 .bool 0)])],[],[]⟩,2⟩ 0 (ec XF en) Go.Proofs.Tryz.func181 (by kernel_rfl) (fun x=>by kernel_rfl)
def QI(a0:Task)(a1:Task):Option (Bool×Unit):=(Eo a0).bind fun r1=>cond r1.1 ((Eo a1).bind fun r2=>cond r2.1 (cond (decide (a0.V<a1.V)) (some (true,())) (cond (decide (a0.V=a1.V)) (some ((decide (a0.No<a1.No)),())) (some (false,())))) (some (false,()))) (some (false,()))
def fr:Rw:=⟨182,pV [Au,Au],pS [.bool],fun x=>QI (AC x.1) (AC x.2.1)⟩
theorem ft:RO (fr):=
 rE ⟨Go.Proofs.Tryz.f182,⟨[(0,[(0,.slot 0 .int),(1,.slot 1 .int)]),(1,[(1,cl 1 .bool 0),(4,cl 1 .bool 0)])],[],[]⟩,2⟩ 0 (ec L7 en) Go.Proofs.Tryz.func182 (by kernel_rfl) (fun x=>by kernel_rfl)
def HS(a0:Task)(a1:Task):Option (Bool×Unit):=(Em a0).bind fun r1=>cond (!r1.1) (some (false,())) ((Em a1).bind fun r2=>cond (!r2.1) (some (false,())) (cond (decide (a0.Class<a1.Class)) (some (true,())) ((QH a0 a1).bind fun r3=>cond r3.1 (some (true,())) ((QJ a0 a1).bind fun r4=>cond r4.1 (some (true,())) ((QI a0 a1).bind fun r5=>some (r5.1,()))))))
def fW:Rw:=⟨116,pV [Au,Au],pS [.bool],fun x=>HS (AC x.1) (AC x.2.1)⟩
theorem Wt:RO (fW):=
 rE ⟨Go.Proofs.Tryz.f116,⟨[(0,[(0,.slot 0 .int),(1,.slot 1 .int)]),(1,[(1,cl 1 .bool 0),(5,cl 1 .bool 0)]),(3,[(8,cl 2 .bool 0),(13,cl 2 .bool 0),(18,cl 2 .bool 0)])],[],[]⟩,2⟩ 0 (ec J1 (ec fg (ec gG (ec ft en)))) Go.Proofs.Tryz.func116 (by kernel_rfl) (fun x=>by kernel_rfl)
def Ge{α:Type}(n:Nat):Nat→Task→List Task→Int→Int→(Task→Option α)→Option α|0,_,_,_,_,_=>none|m0+1,v1,v2,v3,v4,k0_0=>cond (decide (v4<v3)) (cond (decide (0≤v4)&&decide (v4<(v2.length:Int))) (cond (decide (v1.No=0)) (Ge n m0 (List.getD v2 (Int.toNat v4) (Kd.dflt .task)) v2 v3 (w64 (v4+1)) k0_0) ((HS (List.getD v2 (Int.toNat v4) (Kd.dflt .task)) v1).bind fun r5=>cond r5.1 (Ge n m0 (List.getD v2 (Int.toNat v4) (Kd.dflt .task)) v2 v3 (w64 (v4+1)) k0_0) (Ge n m0 v1 v2 v3 (w64 (v4+1)) k0_0))) none) (k0_0 v1)
def HV(n:Nat)(a0:List Task):Option (Int×Unit):=Ge n n (⟨0,0,0,0,false,0,0,0,0,0,0,0,0,0⟩:Task) a0 (a0.length:Int) 0 (fun w6=>some (w6.No,()))
def jI(n:Nat):Rw:=⟨102,pV [.ro .task],pS [.int],fun x=>HV n x.1.2⟩
def p7(n:Nat):LS:=AN ⟨3,[3,7,8,9],[],[1],[3],[0,1]⟩ 25 [3,7,8,9] 13 (pD [.ptr 0 0,.ro .task,.int,.int]) [.box Ib] (fun m x k=>Ge n m (AC x.2.1) x.1.2.1.2 x.1.2.2.1 x.1.2.2.2.1 (fun w0=>k (.exit 0) (eS 25 [3] [.ptr 0 0] 13 [.box [.int w0.No,.int w0.Class,.int w0.Cpu,.int w0.State,.bool w0.Idle,.int w0.Q,.int w0.P,.int w0.Left,.int w0.Due,.int w0.Prio,.int w0.Round,.int w0.Seq,.int w0.Nice,.int w0.V]])))
theorem XE(n:Nat):RO (jI n):=
 rL ⟨Go.Proofs.Tryz.f102,⟨[(1,[(1,.slot 0 .int)]),(4,[(2,.slot 1 .int)]),(5,[(6,cl 2 .bool 0)])],[],[]⟩,2⟩ [p7 n] n (ec Wt en) Go.Proofs.Tryz.func102 (by kernel_rfl) ⟨AO (fun m x k=>by kernel_rfl) (fun _ _=>rfl),trivial⟩ (fun x=>by kernel_rfl)
def Is(n:Nat)(a0:List Task)(a1:List Lock)(a2:Int):Option ((Int×Int×Unit)×Unit):=(Ky n a0 a1 a2).bind fun r1=>(HV n r1.1).bind fun r2=>cond (decide (r2.1=0)) (some ((0,0,()),())) ((GD n a0 a1 r2.1).bind fun r3=>some ((r2.1,r3.1,()),()))
def gn(n:Nat):Rw:=⟨114,pV [.ro .task,.ro .lock,.int],Wb,fun x=>Is n x.1.2 x.2.1.2 x.2.2.1⟩
theorem Rz(n:Nat):RO (gn n):=
 rE ⟨Go.Proofs.Tryz.f114,⟨[(1,[(3,Wa),(4,cl 1 .int 0)]),(4,[(4,cl 3 .int 0)])],[],[]⟩,0⟩ n (ec (XH n) (ec (XE n) (ec (Rv n) en))) Go.Proofs.Tryz.func114 (by kernel_rfl) (fun x=>by kernel_rfl)
def Mr(a0:Task)(a1:Int):Option ((BW×Bool×Unit)×Unit):=(HW a0).bind fun r1=>cond (!r1.1) (some (((AK a0),false,()),())) (cond (decide (a0.Round=0)) (some (((AK a0),false,()),())) (cond (decide (1<a0.Left)) (some (((AK (⟨a0.No,a0.Class,a0.Cpu,a0.State,a0.Idle,a0.Q,a0.P,(w64 (a0.Left-1)),a0.Due,a0.Prio,a0.Round,a0.Seq,a0.Nice,a0.V⟩:Task)),false,()),())) ((HX a1).bind fun r2=>cond (!r2.1) (some (((AK a0),false,()),())) (some (((AK (⟨a0.No,a0.Class,a0.Cpu,a0.State,a0.Idle,a0.Q,a0.P,a0.Round,a0.Due,a0.Prio,a0.Round,a1,a0.Nice,a0.V⟩:Task)),true,()),())))))
def gH:Rw:=⟨196,pV [Au,.int],q31,fun x=>Mr (AC x.1) x.2.1⟩
theorem gI:RO (gH):=
 rE ⟨Go.Proofs.Tryz.f196,⟨[(0,[(0,.slot 0 .int),(1,.slot 1 .int)]),(1,[(1,cl 1 .bool 0)]),(6,[(1,cl 1 .bool 0)])],[],[]⟩,2⟩ 0 (ec XF (ec R7 en)) Go.Proofs.Tryz.func196 (by kernel_rfl) (fun x=>by kernel_rfl)
def Ke(a0:Task):Option (BW×Unit):=(FZ a0).bind fun r1=>cond r1.1 (cond (decide (0<a0.Left)) (some ((AK (⟨a0.No,a0.Class,a0.Cpu,a0.State,a0.Idle,a0.Q,a0.P,(w64 (a0.Left-1)),a0.Due,a0.Prio,a0.Round,a0.Seq,a0.Nice,a0.V⟩:Task)),())) (some ((AK a0),()))) (some ((AK a0),()))
def fj:Rw:=⟨198,pV [Au],q37,fun x=>Ke (AC x.1)⟩
theorem fk:RO (fj):=
 rE ⟨Go.Proofs.Tryz.f198,⟨[(0,[(0,.slot 0 .int),(1,.slot 1 .int)]),(1,[(1,cl 1 .bool 0)])],[],[]⟩,2⟩ 0 (ec O8 en) Go.Proofs.Tryz.func198 (by kernel_rfl) (fun x=>by kernel_rfl)
def UG(a0:Int):Option (Int×Unit):=(GG a0).bind fun r1=>cond (!r1.1) (some (0,())) (cond ((decide (0≤(w64 (4-a0))))&&(decide ((w64 (4-a0))<((([1,2,3,4,6,8,12,16,24]:List Int)).length:Int)))) (let e2:=(List.getD ([1,2,3,4,6,8,12,16,24]:List Int) (Int.toNat (w64 (4-a0))) (Kd.dflt .int));some (e2,())) none)
def iz:Rw:=⟨250,pV [.int],pS [.int],fun x=>UG x.1⟩
theorem i3:RO (iz):=
 rE ⟨Go.Proofs.Tryz.f250,⟨[(1,[(1,cl 1 .bool 0)]),(3,[(0,.slot 0 .int)])],[],[]⟩,1⟩ 0 (ec O5 en) Go.Proofs.Tryz.func250 (by kernel_rfl) (fun x=>by kernel_rfl)
def M4(a0:Int):Option (Int×Unit):=(GG a0).bind fun r1=>cond (!r1.1) (some (0,())) ((UG a0).bind fun r2=>cond (decide (r2.1=0)) none (some ((w64 (Int.tdiv 48 r2.1)),())))
def g5:Rw:=⟨235,pV [.int],pS [.int],fun x=>M4 x.1⟩
theorem g6:RO (g5):=
 rE ⟨Go.Proofs.Tryz.f235,⟨[(1,[(1,cl 1 .bool 0)]),(3,[(1,cl 1 .int 0)])],[],[]⟩,0⟩ 0 (ec O5 (ec i3 en)) Go.Proofs.Tryz.func235 (by kernel_rfl) (fun x=>by kernel_rfl)
def Kh(a0:Task):Option (BW×Unit):=(Eo a0).bind fun r1=>cond (!r1.1) (some ((AK a0),())) ((M4 a0.Nice).bind fun r2=>(Kz a0 (w64 (a0.V+r2.1))).bind fun r3=>some ((AK (AC r3.1)),()))
def f0:Rw:=⟨197,pV [Au],q37,fun x=>Kh (AC x.1)⟩
theorem f9:RO (f0):=
 rE ⟨Go.Proofs.Tryz.f197,⟨[(0,[(0,.slot 0 .int),(1,.slot 1 .int)]),(1,[(1,cl 1 .bool 0)]),(3,[(5,cl 1 .int 0),(7,q41)])],[(3,dr 9 [(0,[0],[]),(1,[0],[]),(2,[0],[]),(3,[0],[]),(4,[0],[]),(8,[1],[1])])],[]⟩,2⟩ 0 (ec L7 (ec g6 (ec XI en))) Go.Proofs.Tryz.func197 (by kernel_rfl) (fun x=>by kernel_rfl)
def Kt(n:Nat)(a0:Sys)(a1:Int):Option (Unit×Ap×Unit):=(Is n a0.Tasks a0.Locks a1).bind fun r1=>cond (decide ((a0.Trace).length+(([(⟨a1,r1.1.1,r1.1.2.1⟩:Turn)]:List Turn)).length≤lim)) (let e2:=(a0.Trace++([(⟨a1,r1.1.1,r1.1.2.1⟩:Turn)]:List Turn));cond (decide (r1.1.1=0)) (some ((()),(AB (⟨a0.Now,a0.Cpus,a0.Tasks,a0.Locks,a0.Ghosts,a0.Floors,a0.Seq,a0.Missed,e2⟩:Sys)),())) ((Bu n a0.Tasks r1.1.1).bind fun r3=>cond (decide (0≤r3.1)&&decide (r3.1<(a0.Tasks.length:Int))) ((Mr (List.getD a0.Tasks (Int.toNat r3.1) (Kd.dflt .task)) (w64 (a0.Seq+1))).bind fun r4=>cond r4.1.2.1 ((Ke (AC r4.1.1)).bind fun r5=>(Kh (AC r5.1)).bind fun r6=>cond (decide (0≤r3.1)&&decide (r3.1<(a0.Tasks.length:Int))) (cond (decide ((Int.toNat r3.1)<(a0.Tasks).length)) (some ((()),(AB (⟨a0.Now,a0.Cpus,(List.set a0.Tasks (Int.toNat r3.1) (AC r6.1)),a0.Locks,a0.Ghosts,a0.Floors,(w64 (a0.Seq+1)),a0.Missed,e2⟩:Sys)),())) none) none) ((Ke (AC r4.1.1)).bind fun r7=>(Kh (AC r7.1)).bind fun r8=>cond (decide (0≤r3.1)&&decide (r3.1<(a0.Tasks.length:Int))) (cond (decide ((Int.toNat r3.1)<(a0.Tasks).length)) (some ((()),(AB (⟨a0.Now,a0.Cpus,(List.set a0.Tasks (Int.toNat r3.1) (AC r8.1)),a0.Locks,a0.Ghosts,a0.Floors,a0.Seq,a0.Missed,e2⟩:Sys)),())) none) none)) none)) none
def iZ(n:Nat):Rw:=⟨128,pA [.box (pA [.v .int,.v .int,.own .task,.own .lock,.own .ghost,.own .int,.v .int,.v .int,.own .turn]),.v .int],Rt,fun x=>Kt n (AA x.1) x.2.1⟩
theorem XA(n:Nat):RO (iZ n):=
 rE ⟨Go.Proofs.Tryz.f128,⟨[(0,[(9,O2)]),(1,[(9,.slot 6 .turn),(10,.slot 7 .turn)]),(3,[(5,cl 2 .int 0)]),(4,[(12,q49),(16,.slot 8 .int)]),(7,[(6,q48),(7,q48)])],[(0,dr 15 [(1,[0],[]),(2,[0],[]),(3,[0],[]),(5,[0],[]),(6,[0],[]),(7,[0],[]),(9,[1,2],[])]),(4,dr 19 [(1,[0],[]),(2,[0],[]),(3,[0],[]),(5,[1],[]),(6,[1],[]),(8,[0],[]),(9,[0],[]),(10,[0],[]),(16,[8],[8]),(17,[8],[8])]),(7,dr 10 [(1,[0],[]),(2,[0],[]),(3,[0],[]),(5,[8],[]),(8,[1],[]),(9,[1],[1])])],[]⟩,9⟩ n (ec (Rz n) (ec (DM n) (ec gI (ec fk (ec f9 en))))) Go.Proofs.Tryz.func128 (by kernel_rfl) (fun x=>by kernel_rfl)
def JD{α:Type}(n:Nat):Nat→Sys→Sys→Int→Int→(List Int→Option α)→Option α|0,_,_,_,_,_=>none|m0+1,v5,v6,v7,v8,k0_0=>cond (decide (v8<v7)) ((It n v6 v8).bind fun r9=>cond (decide (0≤v8)&&decide (v8<(v6.Floors.length:Int))) ((Kf n r9.1 (List.getD v6.Floors (Int.toNat v8) (Kd.dflt .int))).bind fun r10=>cond (decide (0≤v8)&&decide (v8<(v6.Floors.length:Int))) (cond (decide ((Int.toNat v8)<(v6.Floors).length)) (JD n m0 (⟨v5.Now,v5.Cpus,[],[],[],[],v5.Seq,v5.Missed,[]⟩:Sys) (⟨v6.Now,v6.Cpus,v6.Tasks,v6.Locks,v6.Ghosts,(List.set v6.Floors (Int.toNat v8) r10.1),v6.Seq,v6.Missed,v6.Trace⟩:Sys) v7 (w64 (v8+1)) k0_0) none) none) none) (k0_0 v6.Floors)
def Gc{α:Type}(n:Nat):Nat→Sys→Sys→Int→Int→(Int→Int→Int→Int→List Task→List Lock→List Ghost→List Int→List Turn→Option α)→Option α|0,_,_,_,_,_=>none|m1+1,v12,v13,v14,v15,k1_0=>cond (decide (v15<v14)) ((Kt n v13 v15).bind fun r16=>Gc n m1 (⟨v12.Now,v12.Cpus,[],[],[],[],v12.Seq,v12.Missed,[]⟩:Sys) (AA r16.2.1) v14 (w64 (v15+1)) k1_0) (k1_0 v13.Now v13.Cpus v13.Seq v13.Missed v13.Tasks v13.Locks v13.Ghosts v13.Floors v13.Trace)
def Kp(n:Nat)(a0:Sys):Option ((Ap×Bool×Unit)×Unit):=(CV n a0).bind fun r1=>cond (!r1.1) (some (((AB (⟨0,0,[],[],[],[],0,0,[]⟩:Sys)),false,()),())) ((Dl n a0).bind fun r2=>cond (decide (a0.Now=100000)) (some (((AB (AA r2.1)),false,()),())) (cond (decide (900000<a0.Seq)) (some (((AB (AA r2.1)),false,()),())) (cond (decide (400<(w64 ((a0.Trace.length:Int)+a0.Cpus)))) (some (((AB (AA r2.1)),false,()),())) ((Kr n (AA r2.1)).bind fun r3=>(Ku n (AA r3.2.1)).bind fun r4=>JD n n (⟨0,0,[],[],[],[],0,0,[]⟩:Sys) (AA r4.2.1) (((AA r4.2.1).Floors).length:Int) 0 (fun w11=>Gc n n (⟨0,0,[],[],[],[],0,0,[]⟩:Sys) (⟨(AA r4.2.1).Now,(AA r4.2.1).Cpus,(AA r4.2.1).Tasks,(AA r4.2.1).Locks,(AA r4.2.1).Ghosts,w11,(AA r4.2.1).Seq,(AA r4.2.1).Missed,(AA r4.2.1).Trace⟩:Sys) ((AA r4.2.1).Cpus) 0 (fun w17 w18 w19 w20 w21 w22 w23 w24 w25=>some (((AB (⟨(w64 (w17+1)),w18,w21,w22,w23,w24,w19,w20,w25⟩:Sys)),true,()),())))))))
def iH(n:Nat):Rw:=⟨51,pV [Aq],q54,fun x=>Kp n (AS x.1)⟩
def pm(n:Nat):LS:=AN ⟨9,Wf,[],[],[2,4],Wg⟩ 66 [2,4,35,36] 4144444144444111113333333333 (pD [.ptr 1 0,.ptr 7 0,.int,.int]) [q45,Lz,.root .task,.root .lock,.root .ghost,.root .int,.root .turn] (fun m x k=>JD n m (⟨x.2.1.1,x.2.1.2.1,[],[],[],[],x.2.1.2.2.2.2.2.2.1,x.2.1.2.2.2.2.2.2.2.1,[]⟩:Sys) (⟨x.2.2.1.1,x.2.2.1.2.1,x.2.2.2.1,x.2.2.2.2.1,x.2.2.2.2.2.1,x.2.2.2.2.2.2.1,x.2.2.1.2.2.2.2.2.2.1,x.2.2.1.2.2.2.2.2.2.2.1,x.2.2.2.2.2.2.2.1⟩:Sys) x.1.2.2.1 x.1.2.2.2.1 (fun w0=>k (.exit 0) (eS 66 [2,4] [.ptr 1 0,.ptr 7 0] 4144444144444111113333333333 [DE.make q45 x.2.1,DE.make Lz x.2.2.1,.root .task x.2.2.2.1 .ok,.root .lock x.2.2.2.2.1 .ok,.root .ghost x.2.2.2.2.2.1 .ok,.root .int w0 .ok,.root .turn x.2.2.2.2.2.2.2.1 .ok])))
def pn(n:Nat):LS:=AN ⟨14,Wh,[(.c 7 2,18,.task),(.c 7 3,19,.lock),(.c 7 4,20,.ghost),(.c 7 5,21,.int),(.c 7 8,22,.turn)],Wi,[2,4],Wj⟩ 66 [2,4,54,55] 4144444144444444441111133333 (pD [.ptr 1 0,.ptr 7 0,.int,.int]) [q45,Wk,.root .task,.root .lock,.root .ghost,.root .int,.root .turn] (fun m x k=>Gc n m (⟨x.2.1.1,x.2.1.2.1,[],[],[],[],x.2.1.2.2.2.2.2.2.1,x.2.1.2.2.2.2.2.2.2.1,[]⟩:Sys) (⟨x.2.2.1.1,x.2.2.1.2.1,x.2.2.2.1,x.2.2.2.2.1,x.2.2.2.2.2.1,x.2.2.2.2.2.2.1,x.2.2.1.2.2.2.2.2.2.1,x.2.2.1.2.2.2.2.2.2.2.1,x.2.2.2.2.2.2.2.1⟩:Sys) x.1.2.2.1 x.1.2.2.2.1 (fun w0 w1 w2 w3 w4 w5 w6 w7 w8=>k (.exit 2) (eS 66 [2,4] [.ptr 1 0,.ptr 7 0] 4144444144444444441111133333 [DE.make q45 x.2.1,.box [.int w0,.int w1,.bor 18,.bor 19,.bor 20,.bor 21,.int w2,.int w3,.bor 22],.root .task w4 .ok,.root .lock w5 .ok,.root .ghost w6 .ok,.root .int w7 .ok,.root .turn w8 .ok])))
theorem W6(n:Nat):RO (iH n):=
 rL ⟨Go.Proofs.Tryz.f51,⟨[(0,[(0,.slot 0 .int),(1,.slot 1 .int)]),(1,[(1,cl 1 .bool 0)]),(3,[(1,q43),(2,.slot 7 .int)]),(6,[(0,Wc)]),(7,[(0,Wd)]),(11,[(5,Ru),(11,cl 2 .int 0)]),(16,[(1,We)])],[(11,dr 14 [(0,[7],[]),(1,[7],[]),(3,[7],[]),(5,[13,14,15,16,17],[]),(6,[7],[]),(7,[7],[]),(9,[16],[]),(10,[16],[]),(12,[16],[]),(13,[16],[16])])],[]⟩,28⟩ [pm n,pn n] n (ec (C4 n) (ec (L6 n) (ec (W9 n) (ec (XB n) (ec (R3 n) (ec (Ww n) (ec (XA n) en))))))) Go.Proofs.Tryz.func51 (by kernel_rfl) ⟨AO (fun m x k=>by kernel_rfl) (fun _ _=>rfl),AO (fun m x k=>by kernel_rfl) (fun _ _=>rfl),trivial⟩ (fun x=>by kernel_rfl)
end Go.Proofs.YthoholbeacojfaaGreat.VR
end
section
set_option linter.unusedVariables false
set_option linter.unusedSimpArgs false
namespace Go.Proofs.YthoholbeacojfaaGreat.VR
open Go
theorem Bx(a b c:Int):BA a b c=some (decide (b≤a∧a≤c),()):=by
 simp only[BA,D0];exact DO (by simp[CC])
theorem BV(a b c:Int):Ay a b c=some (decide (b≤a∧a≤c),()):=by
 simp only[Ay,D0];exact DO (by simp[CC])
theorem Lk(a:Int):Iw a=some (decide (1≤a∧a≤1000),()):=by simp only[Iw,Bx,Option.bind_some]
theorem Og(a:Int):GJ a=some (decide (0≤a∧a≤100000),()):=by simp only[GJ,Bx,Option.bind_some]
theorem U7(a:Int):Ix a=some (decide (0≤a∧a≤100040),()):=by simp only[Ix,Bx,Option.bind_some]
theorem RD(a:Int):HX a=some (decide (0≤a∧a≤1000000),()):=by simp only[HX,Bx,Option.bind_some]
theorem Q5(a:Int):GG a=some (decide (Ci a),()):=by simp only[GG,Bx,Option.bind_some,Ci]
theorem SX(a:Int):GS a=some (decide (Ci a),()):=by simp only[GS,BV,Option.bind_some,Ci]
theorem Oc(s:Share):GI s=some (decide (A9 s),()):=by
 simp only[GI,Bx,Option.bind_some,D0];exact DO (by simp[CC,A9])
theorem MI(s:Share):Hb s=some (decide (A9 s),()):=by
 simp only[Hb,BV,Option.bind_some,D0];exact DO (by simp[CC,A9])
theorem Yd(a b:Int):He a b=some (if a<b then a else b,()):=by
 simp only[He,BT];split<;>rfl
theorem Ez(t:Task):Em t=some (decide (TaskOk t),()):=by
 simp only[Em,Lk,Bx,Oc,U7,RD,Q5,Option.bind_some,D0];refine DO ?_;rw[Sp,P9,Qt,Qn]
 by_cases s1:t.State=1<;>by_cases s2:t.State=2
 ·omega
 all_goals
  by_cases h1:t.Class=1
  ·simp[CC,h1,s1,s2]<;>(try simp only[A9])<;>first|omega|(intros;trivial)
  · by_cases h2:t.Class=2
    · by_cases hr:t.Round<1
      ·simp[CC,h2,s1,s2,hr]<;>omega
      ·simp[CC,h2,s1,s2,hr]<;>omega
    · by_cases h3:t.Class=3
      ·simp[CC,h3,s1,s2]<;>(try simp only[Ci])<;>first|omega|(intros;trivial)
      ·simp[CC,h1,h2,h3,s1,s2]<;>omega
theorem s5(t:Task):OS t=some (decide (
 (t.Class=1→t.Prio=0∧t.Round=0∧t.Seq=0∧t.Nice=0∧t.V=0)∧(t.Class=2→t.Q=0∧t.P=0∧t.Due=0∧t.Nice=0∧t.V=0)∧
 (t.Class≠1→t.Class≠2→t.Q=0∧t.P=0∧t.Due=0∧t.Prio=0∧t.Round=0∧t.Seq=0∧t.Left=0)),()):=by
 simp only[OS,D0];refine DO ?_
 by_cases h1:t.Class=1
 ·by_cases a:t.Prio=0<;>by_cases b:t.Round=0<;>by_cases c:t.Nice=0<;>by_cases d:t.Q=0<;>by_cases e:t.P=0<;>simp[CC,h1,a,b,c,d,e]
 · by_cases h2:t.Class=2
   ·by_cases a:t.Prio=0<;>by_cases b:t.Round=0<;>by_cases c:t.Nice=0<;>by_cases d:t.Q=0<;>by_cases e:t.P=0<;>simp[CC,h2,a,b,c,d,e]
   ·by_cases a:t.Prio=0<;>by_cases b:t.Round=0<;>by_cases c:t.Nice=0<;>by_cases d:t.Q=0<;>by_cases e:t.P=0<;>simp[CC,h1,h2,a,b,c,d,e]
theorem FP(t:Task):Er t=some (decide (TaskOk t),()):=by
 simp only[Er,BV,MI,SX,s5,Yd,Option.bind_some,D0];refine DO ?_;rw[Sp,P9,Qt,Qn]
 by_cases s1:t.State=1<;>by_cases s2:t.State=2
 ·omega
 all_goals
  by_cases h1:t.Class=1
  ·simp[CC,h1,s1,s2]<;>(try simp only[A9])<;>first|omega|(intros;trivial)
  · by_cases h2:t.Class=2
    · by_cases hr:t.Round<1
      ·simp[CC,h2,s1,s2,hr]<;>omega
      ·simp[CC,h2,s1,s2,hr]<;>omega
    · by_cases h3:t.Class=3
      ·simp[CC,h3,s1,s2]<;>(try simp only[Ci])<;>first|omega|(intros;trivial)
      ·simp[CC,h1,h2,h3,s1,s2]<;>omega
theorem Us(a b:Task):HS a b=some (decide (Before a b),()):=by
 by_cases ha:TaskOk a
 · by_cases hb:TaskOk b
   · simp only[HS,QH,QJ,QI,FZ,HW,Eo,Ez,ha,hb,decide_true,Bool.not_true,cond_false,Option.bind_some,D0]
     refine DO ?_;rw[F8];rcases ha.class with h1|h1|h1<;>rcases hb.class with h2|h2|h2<;>simp[CC,ha,hb,h1,h2]<;>
      first|omega|(by_cases e1:a.Prio=b.Prio<;>by_cases e2:a.Seq=b.Seq<;>simp[e1,e2]<;>omega)|(intros;trivial)
   ·simp[HS,Ez,F8,hb]
 ·simp[HS,Ez,F8,ha]
theorem SV(a b:Task):GO a b=some (decide (Before a b),()):=by
 by_cases ha:TaskOk a
 · by_cases hb:TaskOk b
   · simp only[GO,Qg,Qi,Qh,Fe,Hg,ES,FP,ha,hb,decide_true,Bool.not_true,cond_false,cond_true,Option.bind_some,D0]
     refine DO ?_;rw[F8];rcases ha.class with h1|h1|h1<;>rcases hb.class with h2|h2|h2<;>simp[CC,ha,hb,h1,h2]<;>
      first|omega|(by_cases e1:a.Prio=b.Prio<;>by_cases e2:a.Seq=b.Seq<;>simp[e1,e2]<;>omega)|(intros;trivial)
   ·simp[GO,FP,F8,hb]
 ·simp[GO,FP,F8,ha]
end Go.Proofs.YthoholbeacojfaaGreat.VR
end
section
set_option linter.unusedVariables false
set_option linter.unusedSimpArgs false
namespace Go.Proofs.YthoholbeacojfaaGreat.VR
open Go
end Go.Proofs.YthoholbeacojfaaGreat.VR
end
section
set_option linter.unusedVariables false
set_option linter.unusedSimpArgs false
namespace Go.Proofs.YthoholbeacojfaaGreat.VR
open Go
theorem ML{xs:List Int}{x:Int}{n:Nat}(hn:xs.length<n)(hb:xs.length≤lim):Et n xs x=some (decide (x∈xs),()):=by
 unfold Et
 by_cases hx:x∈xs
 · rw[decide_eq_true hx]
   refine Ak (l:=fun m i=>Fq n m xs x (i:Int) (some (true,())) (some (false,()))) (len:=xs.length) (fun i=>x∉xs.take i) (by simp) (fun m hI=> ?_) (fun m i hi hI=> ?_) hn
   ·rw[List.take_length]at hI;exact absurd hx hI
   · by_cases e:xs[i]=x
     · right
       simp only[Fq,AG hi,AI,Bool.and_self,cond_true,AH hi,decide_eq_true e]
     · left
       refine⟨?_,?_⟩
       ·simp only[Fq,AG hi,AI,Bool.and_self,cond_true,AH hi,decide_eq_false e,cond_false,AL (Nat.lt_trans hi (AY hb))]
       · rw[List.take_succ_eq_append_getElem hi,List.mem_append,not_or]
         exact⟨hI,by simpa using fun h=>e h.symm⟩
 · rw[decide_eq_false hx]
   refine Ak (l:=fun m i=>Fq n m xs x (i:Int) (some (true,())) (some (false,()))) (len:=xs.length) (fun _=>True) trivial (fun m _=> ?_) (fun m i hi _=>.inl ⟨?_,trivial⟩) hn
   ·simp only[Fq,AW,cond_false]
   · have e: ¬xs[i]=x:=fun e=>hx (e▸List.getElem_mem hi)
     simp only[Fq,AG hi,AI,Bool.and_self,cond_true,AH hi,decide_eq_false e,cond_false,AL (Nat.lt_trans hi (AY hb))]
theorem YL{xs:List Int}{x:Int}{n:Nat}(hn:xs.length<n)(hb:xs.length≤lim):K5 n xs x=some (idx (xs.findIdx? fun y=>decide (x=y)),()):=by
 unfold K5;have:=C0 (l:=fun m i=>Je n m xs x (xs.length:Int) i (fun w5=>some (w5,())) (some (-1,()))) (xs:=xs) (p:=fun y=>decide (x=y)) (k0:=fun w5=>some (w5,())) (k1:=some (-1,()))
  (fun m=>by simp only[Je,AW,cond_false])
  (fun m i hi=>by simp only[Je,AG hi,AI,Bool.and_self,cond_true,AH hi,AL (Nat.lt_trans hi (AY hb))]) (m:=n) hn
 refine this.trans ?_;cases xs.findIdx? fun y=>decide (x=y)<;>rfl
theorem IK{xs:List Int}{x:Int}{n:Nat}(hn:xs.length<n)(hb:xs.length≤lim):GK n xs x=some (decide (x∈xs),()):=by
 simp only[GK,YL hn hb,Option.bind_some,GY];refine congrArg (fun b=>some (b,())) (QE ?_)
 rw[List.findIdx?_isSome];simp
theorem FQ{l:List Lock}{no:Int}{B n:Nat}(h:LSmall B l)(hn:B<n)(hb:B≤lim):Dn n l no=some (idx (BS l no),()):=by
 unfold Dn BS;have:=C0 (l:=fun m i=>Jl n m l no i (fun w5=>some (w5,())) (some (-1,()))) (xs:=l) (p:=fun k=>decide (no∈k.Waits)) (k0:=fun w5=>some (w5,())) (k1:=some (-1,()))
  (fun m=>by simp only[Jl,AW,cond_false])
  (fun m i hi=>by
    have hw:=h.waits _ (List.getElem_mem hi);have hl:=h.len;have e:=ML (xs:=l[i].Waits) (x:=no) (n:=n) (by omega) (by omega)
    simp only[Jl,AG hi,AI,Bool.and_self,cond_true,AH hi,e,Option.bind_some,AL (Nat.lt_trans hi (AY (Nat.le_trans hl hb)))]) (m:=n) (by have:=h.len;omega)
 refine this.trans ?_;cases l.findIdx? fun k=>decide (no∈k.Waits)<;>rfl
theorem D6{l:List Lock}{no:Int}{B n:Nat}(h:LSmall B l)(hn:B<n)(hb:B≤lim):Dk n l no=some (idx (BS l no),()):=by
 have:Nl n l no=some (idx (BS l no),()):=by
  unfold Nl BS;have:=C0 (l:=fun m i=>JW n m l no (l.length:Int) i (fun w5=>some (w5,())) (some (-1,()))) (xs:=l) (p:=fun k=>decide (no∈k.Waits)) (k0:=fun w5=>some (w5,())) (k1:=some (-1,()))
   (fun m=>by simp only[JW,AW,cond_false])
   (fun m i hi=>by
     have hw:=h.waits _ (List.getElem_mem hi);have hl:=h.len;have e:=IK (xs:=l[i].Waits) (x:=no) (n:=n) (by omega) (by omega)
     simp only[JW,QT,AG hi,AI,Bool.and_self,cond_true,AH hi,e,Option.bind_some,AL (Nat.lt_trans hi (AY (Nat.le_trans hl hb)))]) (m:=n) (by have:=h.len;omega)
  refine this.trans ?_;cases l.findIdx? fun k=>decide (no∈k.Waits)<;>rfl
 simp only[Dk,this,Option.bind_some]
theorem Tm{α:Type}{l:List Lock}{B n:Nat}(hl:LSmall B l)(hn:B+1<n)(hb:B+1≤lim){k0 k1:List Int→Option α}{a0:Int}:
 ∀(c t:List Int) (no:Int) (m:Nat),BD l a0=some (t++c)→BD l no=some c→c.length<m→E6 n m l no (a0::t) k0 k1=k0 (a0::(t++c))
 | [],t,no,m,h1,h2,hm=>by
   obtain⟨m,rfl⟩: ∃q,m=q+1:=⟨m-1,by simp at hm;omega⟩
   rcases G1 l no with⟨e1,e2⟩|⟨i,e1,hi,e2⟩
   ·simp only[E6,D6 hl (show B<n by omega) (show B≤lim by omega),Option.bind_some,e1,DU,Option.isNone_none,cond_true,List.append_nil]
   · rw[KU e2]at h2
     obtain⟨_,_,h⟩:=Option.map_eq_some_iff.1 h2;cases h
 |o::c,t,no,m,h1,h2,hm=>by
  obtain⟨m,rfl⟩: ∃q,m=q+1:=⟨m-1,by simp at hm;omega⟩
  rcases G1 l no with⟨e1,e2⟩|⟨i,e1,hi,e2⟩
  ·rw[MY e2]at h2;cases h2
  · rw[KU e2]at h2
    obtain⟨c',h3,h4⟩:=Option.map_eq_some_iff.1 h2;injection h4 with h4 h5
    subst h5;have hnd:=MZ h1;have hsh:=HO h1;have hlen:=hl.len;have hnot: ¬o∈a0::t:=by
     intro hm;rw[show a0::(t++o::c')=(a0::t)++o::c' by rfl,List.nodup_append]at hnd
     exact hnd.2.2 o hm o (List.mem_cons_self ..) rfl
    simp at hsh;have e3:=IK (xs:=a0::t) (x:=l[i].Owner) (n:=n) (by simp;omega) (by simp;omega)
    have e4:decide ((a0::t).length+[l[i].Owner].length≤lim)=true:=decide_eq_true (by simp;omega)
    rw[h4]at e3 e4;have e5:=Tm hl hn hb c' (t++[o]) o m (by rw[List.append_assoc];exact h1) (by rw[←h4];exact h3) (by simp at hm;omega) (k0:=k0) (k1:=k1)
    simp only[E6,D6 hl (show B<n by omega) (show B≤lim by omega),Option.bind_some,e1,DU,Option.isNone_some,cond_false,EA,idx,AI,AG hi,Bool.and_self,cond_true,AH hi,h4,e3,decide_eq_false hnot,e4]
    rw[show(a0::t)++[o]=a0::(t++[o]) by rfl,e5,List.append_assoc];rfl
theorem aS{α:Type}{l:List Lock}{B n:Nat}(hl:LSmall B l)(hn:B+1<n)(hb:B+1≤lim){k0 k1:List Int→Option α}{a0:Int}:
 ∀(d:Nat) (t:List Int) (no:Int) (m:Nat),t.length+d=l.length→BD l no=none→(a0::t).Nodup→(∀x∈t,x∈l.map (·.Owner))→d<m→ ∃w,E6 n m l no (a0::t) k0 k1=k1 w:=by
 intro d
 induction d with
 |zero=>
  intro t no m hd h2 hnd hs hm;obtain⟨m,rfl⟩: ∃q,m=q+1:=⟨m-1,by omega⟩
  rcases G1 l no with⟨e1,e2⟩|⟨i,e1,hi,e2⟩
  ·rw[MY e2]at h2;cases h2
  · have hlen:=hl.len
    have hin:l[i].Owner∈a0::t:=by
     apply Classical.byContradiction;intro hno;have h3:=Ou (c:=l[i].Owner::t) (L:=l.map (·.Owner)) (List.nodup_cons.2 ⟨fun h=>hno (List.mem_cons_of_mem _ h),(List.nodup_cons.1 hnd).2⟩) (fun x hx=>by
      rcases List.mem_cons.1 hx with rfl|hx
      ·exact Rf e2
      ·exact hs x hx)
     simp at h3;omega
    have e3:=IK (xs:=a0::t) (x:=l[i].Owner) (n:=n) (by simp;omega) (by simp;omega)
    refine⟨a0::t,?_⟩;simp only[E6,D6 hl (show B<n by omega) (show B≤lim by omega),Option.bind_some,e1,DU,Option.isNone_some,cond_false,EA,idx,AI,AG hi,Bool.and_self,cond_true,AH hi,e3,decide_eq_true hin]
 |succ d ih=>
  intro t no m hd h2 hnd hs hm;obtain⟨m,rfl⟩: ∃q,m=q+1:=⟨m-1,by omega⟩
  rcases G1 l no with⟨e1,e2⟩|⟨i,e1,hi,e2⟩
  ·rw[MY e2]at h2;cases h2
  · have hlen:=hl.len
    have e3:=IK (xs:=a0::t) (x:=l[i].Owner) (n:=n) (by simp;omega) (by simp;omega)
    by_cases hin:l[i].Owner∈a0::t
    · refine⟨a0::t,?_⟩
      simp only[E6,D6 hl (show B<n by omega) (show B≤lim by omega),Option.bind_some,e1,DU,Option.isNone_some,cond_false,EA,idx,AI,AG hi,Bool.and_self,cond_true,AH hi,e3,decide_eq_true hin]
    · have h3:BD l l[i].Owner=none:=by
       rw[KU e2]at h2;exact Option.map_eq_none_iff.1 h2
      have e4:decide ((a0::t).length+[l[i].Owner].length≤lim)=true:=decide_eq_true (by simp;omega)
      obtain⟨w,hw⟩:=ih (t++[l[i].Owner]) l[i].Owner m (by simp;omega) h3 (by
       rw[show a0::(t++[l[i].Owner])=(a0::t)++[l[i].Owner] by rfl,List.nodup_append]
       exact⟨hnd,by simp,fun x hx y hy e=>by simp at hy;subst hy;subst e;exact hin hx⟩) (fun x hx=>by
       rcases List.mem_append.1 hx with hx|hx
       ·exact hs x hx
       ·simp at hx;subst hx;exact Rf e2) (by omega)
      refine⟨w,?_⟩;simp only[E6,D6 hl (show B<n by omega) (show B≤lim by omega),Option.bind_some,e1,DU,Option.isNone_some,cond_false,EA,idx,AI,AG hi,Bool.and_self,cond_true,AH hi,e3,decide_eq_false hin,e4]
      exact hw
theorem Q9{l:List Lock}{no:Int}{B n:Nat}(hl:LSmall B l)(hn:B+1<n)(hb:B+1≤lim):Iu n l no=some (match BD l no with|some c=>(no::c,true,())|none=>([],false,()),()):=by
 unfold Iu;have hlen:=hl.len;cases e:BD l no with
 |some c=>
  have hs:=HO e;exact Tm hl hn hb c [] no n e e (by omega)
 |none=>
  obtain⟨w,hw⟩:=aS hl hn hb (k0:=fun w7=>some ((w7,true,()),())) (k1:=fun w8=>some (([],false,()),())) (a0:=no) l.length [] no n (by simp) e (by simp) (fun x hx=>by cases hx) (by omega)
  exact hw
theorem YX{α:Type}{l:List Lock}{B n:Nat}(hl:LSmall B l)(hn:B+1<n)(hb:B+2≤lim){k0 k1:List Int→Option α}:
 ∀(d i:Nat) (no:Int) (out:List Int) (m:Nat),i+d=l.length+1→out.length=i+1→d<m→(∀c,Ao l d no=some c→EY n m l no out (i:Int) k0 k1=k0 (out++c))∧(Ao l d no=none→ ∃w,EY n m l no out (i:Int) k0 k1=k1 w):=by
 intro d
 induction d with
 |zero=>
  intro i no out m hd ho hm;obtain⟨m,rfl⟩: ∃q,m=q+1:=⟨m-1,by omega⟩
  refine⟨fun c h=>(by cases h),fun _=>⟨out,?_⟩⟩
  have:decide ((i:Int)≤(l.length:Int))=false:=decide_eq_false (by omega)
  simp only[EY,this,cond_false]
 |succ d ih=>
  intro i no out m hd ho hm;obtain⟨m,rfl⟩: ∃q,m=q+1:=⟨m-1,by omega⟩
  have hlen:=hl.len;have h0:decide ((i:Int)≤(l.length:Int))=true:=decide_eq_true (by omega)
  rcases G1 l no with⟨e1,e2⟩|⟨j,e1,hj,e2⟩
  · have h3:Ao l (d+1) no=some []:=by unfold Ao;rw[e2]
    have h4:EY n (m+1) l no out (i:Int) k0 k1=k0 out:=by
     simp only[EY,h0,cond_true,FQ hl (show B<n by omega) (show B≤lim by omega),Option.bind_some,e1,DU,Option.isNone_none]
    refine⟨fun c h=> ?_,fun h=>by rw[h3]at h;cases h⟩
    rw[h3]at h;injection h with h;subst h
    rw[h4,List.append_nil]
  · have h3:Ao l (d+1) no=(Ao l d l[j].Owner).map (l[j].Owner:: ·):=by
     show(match next l no with|none=>some []|some o=>(Ao l d o).map (o:: ·))=_
     rw[e2]
    have e4:decide (out.length+[l[j].Owner].length≤lim)=true:=decide_eq_true (by simp;omega)
    have h4:EY n (m+1) l no out (i:Int) k0 k1=EY n m l l[j].Owner (out++[l[j].Owner]) ((i+1:Nat):Int) k0 k1:=by
     have hi:i<Ab:=by unfold lim at hb;unfold Ab;omega
     simp only[EY,h0,cond_true,FQ hl (show B<n by omega) (show B≤lim by omega),Option.bind_some,e1,DU,Option.isNone_some,cond_false,EA,idx,AI,AG hj,Bool.and_self,AH hj,e4,AL hi]
    obtain⟨g1,g2⟩:=ih (i+1) l[j].Owner (out++[l[j].Owner]) m (by omega) (by simp;omega) (by omega)
    rw[h3,h4];refine⟨fun c h=> ?_,fun h=>g2 (Option.map_eq_none_iff.1 h)⟩
    obtain⟨c',h5,rfl⟩:=Option.map_eq_some_iff.1 h;rw[g1 c' h5,List.append_assoc];rfl
theorem PO{l:List Lock}{no:Int}{B n:Nat}(hl:LSmall B l)(hn:B+2<n)(hb:B+2≤lim){c:List Int}(h:BD l no=some c):Hh n l no=some ((no::c,true,()),()):=by
 have hlen:=hl.len;exact(YX hl (show B+1<n by omega) hb (l.length+1) 0 no [no] n (by omega) rfl (by omega)).1 c h
theorem Sc{l:List Lock}{no:Int}{B n:Nat}(hl:LSmall B l)(hn:B+2<n)(hb:B+2≤lim)(h:BD l no=none): ∃w,Hh n l no=some ((w,false,()),()):=by
 have hlen:=hl.len;exact(YX hl (show B+1<n by omega) hb (k0:=fun w7=>some ((w7,true,()),())) (k1:=fun w8=>some ((w8,false,()),())) (l.length+1) 0 no [no] n (by omega) rfl (by omega)).2 h
end Go.Proofs.YthoholbeacojfaaGreat.VR
end
section
set_option linter.unusedVariables false
set_option linter.unusedSimpArgs false
namespace Go.Proofs.YthoholbeacojfaaGreat.VR
open Go
theorem Pm(p q:Prop)[Decidable p][Decidable q]:(cond (decide q) (some (decide p,())) (some (false,())):Option (Bool×Unit))=some (decide (p∧q),()):=by
 by_cases h1:p<;>by_cases h2:q<;>simp[h1,h2]
theorem Po(p q:Prop)[Decidable p][Decidable q]:(cond (decide p) (some (decide q,())) (some (false,())):Option (Bool×Unit))=some (decide (p∧q),()):=by
 by_cases h1:p<;>by_cases h2:q<;>simp[h1,h2]
theorem RC(t:Task):FZ t=some (decide (TaskOk t∧t.Class=1),()):=by simp only[FZ,Ez,Option.bind_some];exact Pm _ _
theorem Sb(t:Task):Fe t=some (decide (TaskOk t∧t.Class=1),()):=by simp only[Fe,FP,Option.bind_some];exact Po _ _
theorem cu(t:Task):HW t=some (decide (TaskOk t∧t.Class=2),()):=by simp only[HW,Ez,Option.bind_some];exact Pm _ _
theorem s6(t:Task):Hg t=some (decide (TaskOk t∧t.Class=2),()):=by simp only[Hg,FP,Option.bind_some];exact Po _ _
theorem Of(t:Task):Eo t=some (BR t,()):=by simp only[Eo,Ez,Option.bind_some,BR];exact Pm _ _
theorem MJ(t:Task):ES t=some (BR t,()):=by simp only[ES,FP,Option.bind_some,BR];exact Po _ _
theorem Mi{t:Task}(h:TaskOk t∧t.Class=1):w64 (t.Due+t.P)=t.Due+t.P∧w64 (t.Left-1)=t.Left-1:=by
 have d:=h.1.due h.2;have h1:=d.due;have h2:=d.share;have h3:=d.left;exact⟨AV (by omega) (by omega),AV (by omega) (by omega)⟩
theorem cI(t:Task)(now:Int):Kc t now=some (AK (FW t now),()):=by
 simp only[Kc,RC,Og,Option.bind_some,BT,FW]
 by_cases h:TaskOk t∧t.Class=1
 ·by_cases h1:0≤now∧now≤100000<;>by_cases h2:t.Due≤now<;>simp[h,h1,h2,(Mi h).1]
 ·simp[h]
theorem YO(t:Task)(now:Int):Ha t now=some (AK (FW t now),()):=by
 simp only[Ha,Sb,BV,Option.bind_some,BT,FW,DK]
 by_cases h:TaskOk t∧t.Class=1
 · by_cases h1:0≤now∧now≤100000
   · by_cases h2:t.Due≤now
     · have h3: ¬now<t.Due:=by omega
       simp[h,h1,h2,h3,(Mi h).1]
     · have h3:now<t.Due:=by omega
       simp[h,h1,h2,h3]
   ·simp[h,h1]
 ·simp[h]
theorem ZV{t:Task}{now:Int}(h:TaskOk t∧t.Class=1)(h1:0≤now∧now≤100000):w64 (now+t.P)=now+t.P∧w64 (w64 (t.Due-now)*t.Q)=(t.Due-now)*t.Q∧w64 (t.Left*t.P)=t.Left*t.P:=by
 have d:=h.1.due h.2;have h4:=d.due;have h2:=d.share;have h3:=d.left;have e:w64 (t.Due-now)=t.Due-now:=AV (by omega) (by omega)
 have m: ∀a b:Int,-1000000≤a→a≤1000000→0≤b→b≤40→ -40000000≤a*b∧a*b≤40000000:=fun a b h1 h2 h3 h4=>by
  have q1:=Int.mul_le_mul_of_nonneg_right h2 h3;have q2:=Int.mul_le_mul_of_nonneg_right h1 h3;omega
 have m1:=m (t.Due-now) t.Q (by omega) (by omega) (by omega) (by omega)
 have m2:=m t.Left t.P (by omega) (by omega) (by omega) (by omega)
 rw[e];exact⟨AV (by omega) (by omega),AV (by omega) (by omega),AV (by omega) (by omega)⟩
theorem cK(t:Task)(now:Int):Mo t now=some (AK (CD t now),()):=by
 simp only[Mo,RC,Og,Option.bind_some,BT,CD,DK]
 by_cases h:TaskOk t∧t.Class=1
 · by_cases h1:0≤now∧now≤100000
   · obtain⟨e1,e2,e3⟩:=ZV h h1
     rw[e1,e2,e3]
     by_cases h2:t.Due≤now<;>by_cases h3:(t.Due-now)*t.Q<t.Left*t.P<;>simp[h,h1,h2,h3]
   ·simp[h,h1]
 ·simp[h]
theorem sK(t:Task)(now:Int):Nx t now=some (AK (CD t now),()):=by
 simp only[Nx,Sb,BV,Option.bind_some,BT,CD,DK]
 by_cases h:TaskOk t∧t.Class=1
 · by_cases h1:0≤now∧now≤100000
   · obtain⟨e1,e2,e3⟩:=ZV h h1
     rw[e1,e2,e3]
     by_cases h2:t.Due≤now<;>by_cases h3:(t.Due-now)*t.Q<t.Left*t.P<;>simp[h,h1,h2,h3]
   ·simp[h,h1]
 ·simp[h]
theorem cJ(t:Task):Ke t=some (AK (BZ t),()):=by
 simp only[Ke,RC,Option.bind_some,BT,BZ]
 by_cases h:TaskOk t∧t.Class=1
 ·by_cases h1:0<t.Left<;>simp[h,h1,(Mi h).2]
 ·simp[h]
theorem sJ(t:Task):Nw t=some (AK (BZ t),()):=by
 simp only[Nw,Sb,Option.bind_some,BT,BZ]
 by_cases h:TaskOk t∧t.Class=1
 ·by_cases h1:0<t.Left<;>simp[h,h1,(Mi h).2]
 ·simp[h]
theorem UU{t:Task}(h:TaskOk t∧t.Class=2):w64 (t.Left-1)=t.Left-1:=by
 have d:=h.1.fixed h.2;have h1:=d.left;have h2:=d.round;exact AV (by omega) (by omega)
theorem cP(t:Task)(seq:Int):Mr t seq=some ((AK (Ba t seq).1,(Ba t seq).2,()),()):=by
 simp only[Mr,cu,RD,Option.bind_some,BT,Ba,DK]
 by_cases h:TaskOk t∧t.Class=2
 ·by_cases h1:t.Round=0<;>by_cases h2:1<t.Left<;>by_cases h3:0≤seq∧seq≤1000000<;>simp[h,h1,h2,h3,UU h]
 ·simp[h]
theorem sP(t:Task)(seq:Int):N2 t seq=some ((AK (Ba t seq).1,(Ba t seq).2,()),()):=by
 simp only[N2,s6,BV,Option.bind_some,BT,Ba,DK]
 by_cases h:TaskOk t∧t.Class=2
 ·by_cases h1:t.Round=0<;>by_cases h2:1<t.Left<;>by_cases h3:0≤seq∧seq≤1000000<;>simp[h,h1,h2,h3,UU h]
 ·simp[h]
theorem Rg{n:Int}(h:Ci n):n= -4∨n= -3∨n= -2∨n= -1∨n=0∨n=1∨n=2∨n=3∨n=4:=by unfold Ci at h;omega
theorem Sl{n:Int}(h: ¬Ci n):EG n=0:=by
 unfold Ci at h;unfold EG;simp only[show n≠ -4 by omega,show n≠ -3 by omega,show n≠ -2 by omega,show n≠ -1 by omega,show n≠0 by omega,show n≠1 by omega,show n≠2 by omega,show n≠3 by omega,show n≠4 by omega,if_false]
theorem tM(n:Int):0≤EG n∧EG n≤48:=by
 by_cases h:Ci n
 ·rcases Rg h with rfl|rfl|rfl|rfl|rfl|rfl|rfl|rfl|rfl<;>decide
 ·rw[Sl h];decide
theorem ca(n:Int):M4 n=some (EG n,()):=by
 by_cases h:Ci n
 ·rcases Rg h with rfl|rfl|rfl|rfl|rfl|rfl|rfl|rfl|rfl<;>kernel_rfl
 ·simp only[M4,Q5,Option.bind_some,decide_eq_false h,Bool.not_false,cond_true,Sl h]
theorem sf(n:Int):OH n=some (EG n,()):=by
 by_cases h:Ci n
 ·rcases Rg h with rfl|rfl|rfl|rfl|rfl|rfl|rfl|rfl|rfl<;>kernel_rfl
 ·simp only[OH,SX,Option.bind_some,decide_eq_false h,Bool.not_false,cond_true,Sl h]
theorem VD(t:Task)(v:Int):Kz t v=some (AK (Cw t v),()):=by
 simp only[Kz,Bx,Option.bind_some,BT,Cw];split<;>rfl
theorem Yf(t:Task)(v:Int):LT t v=some (AK (Cw t v),()):=by
 simp only[LT,BV,Option.bind_some,BT,Cw];split<;>rfl
theorem Yl{t:Task}(h:BR t=true):w64 (t.V+EG t.Nice)=t.V+EG t.Nice:=by
 rw[C9]at h;have:=(h.1.fair h.2).v;have:=tM t.Nice;exact AV (by omega) (by omega)
theorem cM(t:Task):Kh t=some (AK (CM t),()):=by
 simp only[Kh,Of,ca,VD,Option.bind_some,dnTask_up,CM];cases h:BR t with
 |false=>rfl
 |true=>rw[Yl h];rfl
theorem sM(t:Task):Nz t=some (AK (CM t),()):=by
 simp only[Nz,MJ,sf,Yf,Option.bind_some,dnTask_up,CM];cases h:BR t with
 |false=>rfl
 |true=>rw[Yl h];rfl
theorem ui{t:Task}(h:BR t=true):Cw t t.V=t:=by
 rw[C9]at h;have:=(h.1.fair h.2).v;unfold Cw;rw[if_pos this]
theorem cO(t:Task)(f:Int):Mq t f=some (AK (CF t f),()):=by
 simp only[Mq,Of,VD,Option.bind_some,dnTask_up,CF,BT,DK];cases h:BR t with
 |false=>rfl
 |true=>
  by_cases h1:f≤t.V
  ·rw[if_pos h1,Int.max_eq_left h1,ui h];rfl
  ·rw[if_neg h1,Int.max_eq_right (by omega)];rfl
theorem KB(a b:Int):C7 a b=some (max a b,()):=by
 simp only[C7,BT]
 by_cases h:b<a
 ·rw[if_pos h,Int.max_eq_left (by omega)]
 ·rw[if_neg h,Int.max_eq_right (by omega)]
theorem sO(t:Task)(f:Int):N1 t f=some (AK (CF t f),()):=by
 simp only[N1,MJ,KB,Yf,Option.bind_some,dnTask_up,CF,DK];cases h:BR t<;>rfl
end Go.Proofs.YthoholbeacojfaaGreat.VR
end
