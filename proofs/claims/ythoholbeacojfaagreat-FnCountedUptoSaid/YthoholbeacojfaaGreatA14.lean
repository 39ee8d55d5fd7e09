/- Functions, printed by program (wip/gen/emit.py). -/
import Derived.Test.YthoholbeacojfaaGreatA13
set_option linter.unusedVariables false
set_option linter.unusedSimpArgs false
set_option linter.unusedSectionVars false
section
set_option linter.unusedVariables false
set_option maxRecDepth 100000
namespace Go.Proofs.YthoholbeacojfaaGreat.VR
open Go
def JF{α:Type}(n:Nat):Nat→Int→Sys→Sys→Int→(Int→Sys→Sys→Option α)→(Sys→Option α)→Option α|0,_,_,_,_,_,_=>none|m0+1,v4,v5,v6,v7,k0_0,k0_1=>cond (decide (v7<v4)) ((Kp n v6).bind fun r8=>cond (!r8.1.2.1) (k0_0 v7 v6 v6) (JF n m0 v4 (⟨v5.Now,v5.Cpus,[],[],[],[],v5.Seq,v5.Missed,[]⟩:Sys) (AA r8.1.1) (w64 (v7+1)) k0_0 k0_1)) (k0_1 v6)
def FY(n:Nat)(a0:Sys)(a1:Int):Option ((Ap×Int×Unit)×Unit):=(CV n a0).bind fun r1=>cond (!r1.1) (cond (decide (0<a1)) (some (((AB (⟨0,0,[],[],[],[],0,0,[]⟩:Sys)),0,()),())) ((Kw n a0).bind fun r2=>some (((AB (AA r2.1)),0,()),()))) ((Kw n a0).bind fun r3=>JF n n a1 (⟨0,0,[],[],[],[],0,0,[]⟩:Sys) (AA r3.1) 0 (fun w9 w10 w11=>some (((AB w10),w9,()),())) (fun w12=>some (((AB w12),(if a1>0 then a1 else 0),()),())))
def iK(n:Nat):Rw:=⟨59,pV [Aq,.int],q67,fun x=>FY n (AS x.1) x.2.1⟩
def pq(n:Nat):LS:=AN ⟨7,[1,4,6,7],[],[3],[1,4,5,6],[1,2]⟩ 38 [1,4,6,7] 4113 (pD [.int,.ptr 1 0,.ptr 2 0,.int]) [q45,q68] (fun m x k=>JF n m x.1.1 (⟨x.2.1.1,x.2.1.2.1,[],[],[],[],x.2.1.2.2.2.2.2.2.1,x.2.1.2.2.2.2.2.2.2.1,[]⟩:Sys) (AA x.2.2.1) x.1.2.2.2.1 (fun w0 w1 w2=>k .ret (eS 38 [1,4,5,6] [.int x.1.1,.ptr 1 0,.int w0,.ptr 2 0] 4114 [.box [.int w1.Now,.int w1.Cpus,.ro true .task w1.Tasks,.ro true .lock w1.Locks,.ro true .ghost w1.Ghosts,.ro true .int w1.Floors,.int w1.Seq,.int w1.Missed,.ro true .turn w1.Trace],.box [.int w2.Now,.int w2.Cpus,.ro true .task w2.Tasks,.ro true .lock w2.Locks,.ro true .ghost w2.Ghosts,.ro true .int w2.Floors,.int w2.Seq,.int w2.Missed,.ro true .turn w2.Trace]])) (fun w0=>k (.exit 0) (eS 38 [1,4,6] [.int x.1.1,.ptr 1 0,.ptr 2 0] 4114 [DE.make q45 x.2.1,.box [.int w0.Now,.int w0.Cpus,.ro true .task w0.Tasks,.ro true .lock w0.Locks,.ro true .ghost w0.Ghosts,.ro true .int w0.Floors,.int w0.Seq,.int w0.Missed,.ro true .turn w0.Trace]])))
theorem W7(n:Nat):RO (iK n):=
 rL ⟨Go.Proofs.Tryz.f59,⟨[(0,[(0,.slot 0 .int),(1,.slot 1 .int)]),(1,[(1,cl 1 .bool 0)]),(4,[(1,O3)]),(5,[(1,O3),(2,.slot 2 .int)]),(9,[(1,q64),(5,.slot 3 .int)])],[],[]⟩,4⟩ [pq n] n (ec (C4 n) (ec (jE n) (ec (W6 n) en))) Go.Proofs.Tryz.func59 (by kernel_rfl) ⟨AO (fun m x k=>by kernel_rfl) (fun _ _=>rfl),trivial⟩ (fun x=>by kernel_rfl)
def Iy(a0:Task):Option ((BW×Bool×Unit)×Unit):=(Em a0).bind fun r1=>cond (!r1.1) (some (((AK (⟨0,0,0,0,false,0,0,0,0,0,0,0,0,0⟩:Task)),false,()),())) (some (((AK a0),true,()),()))
def jX:Rw:=⟨252,pV [Au],q31,fun x=>Iy (AC x.1)⟩
theorem R8:RO (jX):=
 rE ⟨Go.Proofs.Tryz.f252,⟨[(0,[(0,.slot 0 .int),(1,.slot 1 .int)]),(1,[(1,cl 1 .bool 0)])],[],[]⟩,2⟩ 0 (ec J1 en) Go.Proofs.Tryz.func252 (by kernel_rfl) (fun x=>by kernel_rfl)
def Mw(a0:Int)(a1:Int)(a2:Int)(a3:Int)(a4:Int):Option ((BW×Bool×Unit)×Unit):=(GJ a4).bind fun r1=>cond (!r1.1) (some (((AK (⟨0,0,0,0,false,0,0,0,0,0,0,0,0,0⟩:Task)),false,()),())) ((GI (⟨a2,a3⟩:Share)).bind fun r2=>cond (!r2.1) (some (((AK (⟨0,0,0,0,false,0,0,0,0,0,0,0,0,0⟩:Task)),false,()),())) ((Iy (⟨a0,1,a1,1,false,a2,a3,a2,(w64 (a4+a3)),0,0,0,0,0⟩:Task)).bind fun r3=>some (((AK (AC r3.1.1)),r3.1.2.1,()),())))
def gd:Rw:=⟨238,pV [.int,.int,.int,.int,.int],q31,fun x=>Mw x.1 x.2.1 x.2.2.1 x.2.2.2.1 x.2.2.2.2.1⟩
theorem ge:RO (gd):=
 rE ⟨Go.Proofs.Tryz.f238,⟨[(0,[(0,.slot 0 .int)]),(1,[(1,cl 1 .bool 0),(7,cl 1 .bool 0)]),(3,[(9,q32)])],[],[]⟩,1⟩ 0 (ec O9 (ec O6 (ec R8 en))) Go.Proofs.Tryz.func238 (by kernel_rfl) (fun x=>by kernel_rfl)
def My(a0:Int)(a1:Int)(a2:Int)(a3:Int)(a4:Int):Option ((BW×Bool×Unit)×Unit):=(Iy (⟨a0,2,a1,1,false,0,0,a3,0,a2,a3,a4,0,0⟩:Task)).bind fun r1=>some (((AK (AC r1.1.1)),r1.1.2.1,()),())
def gh:Rw:=⟨239,pV [.int,.int,.int,.int,.int],q31,fun x=>My x.1 x.2.1 x.2.2.1 x.2.2.2.1 x.2.2.2.2.1⟩
theorem gi:RO (gh):=
 rE ⟨Go.Proofs.Tryz.f239,⟨[(0,[(0,.slot 0 .int)]),(1,[(7,q32)])],[],[]⟩,1⟩ 0 (ec R8 en) Go.Proofs.Tryz.func239 (by kernel_rfl) (fun x=>by kernel_rfl)
def GE(a0:Sys)(a1:Int):Option (Int×Unit):=(BA a1 0 (w64 ((a0.Floors.length:Int)-1))).bind fun r1=>cond (!r1.1) (some (0,())) (cond (decide (0≤a1)&&decide (a1<(a0.Floors.length:Int))) (some ((List.getD a0.Floors (Int.toNat a1) (Kd.dflt .int)),())) none)
def gJ:Rw:=⟨54,pV [Aq,.int],pS [.int],fun x=>GE (AS x.1) x.2.1⟩
theorem Wx:RO (gJ):=
 rE ⟨Go.Proofs.Tryz.f54,⟨[(0,[(0,.slot 0 .int)]),(1,[(5,cl 3 .bool 0)])],[],[]⟩,1⟩ 0 (ec CI en) Go.Proofs.Tryz.func54 (by kernel_rfl) (fun x=>by kernel_rfl)
def Mx(a0:Int)(a1:Int)(a2:Int)(a3:Int):Option ((BW×Bool×Unit)×Unit):=(Iy (⟨a0,3,a1,1,false,0,0,0,0,0,0,0,a2,a3⟩:Task)).bind fun r1=>some (((AK (AC r1.1.1)),r1.1.2.1,()),())
def gf:Rw:=⟨240,pV [.int,.int,.int,.int],q31,fun x=>Mx x.1 x.2.1 x.2.2.1 x.2.2.2.1⟩
theorem gg:RO (gf):=
 rE ⟨Go.Proofs.Tryz.f240,⟨[(0,[(0,.slot 0 .int)]),(1,[(5,q32)])],[],[]⟩,1⟩ 0 (ec R8 en) Go.Proofs.Tryz.func240 (by kernel_rfl) (fun x=>by kernel_rfl)
def NL(a0:Sys)(a1:Call):Option ((BW×Bool×Unit)×Unit):=cond (decide (a1.Kind=1)) ((Mw a1.No a1.Cpu a1.A a1.B a0.Now).bind fun r1=>some (((AK (AC r1.1.1)),r1.1.2.1,()),())) (cond (decide (a1.Kind=2)) ((My a1.No a1.Cpu a1.A a1.B (w64 (a0.Seq+1))).bind fun r2=>some (((AK (AC r2.1.1)),r2.1.2.1,()),())) ((GE a0 a1.Cpu).bind fun r3=>(Mx a1.No a1.Cpu a1.A r3.1).bind fun r4=>some (((AK (AC r4.1.1)),r4.1.2.1,()),())))
def jY:Rw:=⟨214,pV [Aq,Ca],q31,fun x=>NL (AS x.1) (Ar x.2.1)⟩
theorem jZ:RO (jY):=
 rE ⟨Go.Proofs.Tryz.f214,⟨[(0,[(0,.slot 0 .int),(1,.slot 1 .int),(2,.slot 2 .int)]),(3,[(10,q79)]),(5,[(11,q79)]),(6,[(9,cl 2 .int 0),(10,q78)])],[(6,dr 15 [(0,[1],[]),(1,[1],[]),(2,[1],[]),(3,[1],[]),(4,[1],[]),(5,[1],[]),(6,[0],[]),(7,[1],[]),(8,[1],[]),(13,[2],[2])])],[]⟩,3⟩ 0 (ec ge (ec gi (ec Wx (ec gg en)))) Go.Proofs.Tryz.func214 (by kernel_rfl) (fun x=>by kernel_rfl)
def Gb{α:Type}(n:Nat):Nat→Int→Sys→List Share→List Task→Int→Int→(List Share→Option α)→Option α|0,_,_,_,_,_,_,_=>none|m0+1,v1,v2,v3,v4,v5,v6,k0_0=>cond (decide (v6<v5)) (cond (decide (0≤v6)&&decide (v6<(v4.length:Int))) (let e7:=(decide ((List.getD v4 (Int.toNat v6) (Kd.dflt .task)).Class=1));cond e7 (let e8:=(decide ((List.getD v4 (Int.toNat v6) (Kd.dflt .task)).Cpu=v1));cond e8 (let e9:=([(⟨(List.getD v4 (Int.toNat v6) (Kd.dflt .task)).Q,(List.getD v4 (Int.toNat v6) (Kd.dflt .task)).P⟩:Share)]:List Share);cond (decide ((v3).length+(e9).length≤lim)) (Gb n m0 v1 v2 (v3++e9) v4 v5 (w64 (v6+1)) k0_0) none) (Gb n m0 v1 v2 v3 v4 v5 (w64 (v6+1)) k0_0)) (Gb n m0 v1 v2 v3 v4 v5 (w64 (v6+1)) k0_0)) none) (k0_0 v3)
def Fl{α:Type}(n:Nat):Nat→Int→List Share→List Ghost→Int→Int→(List Share→Option α)→Option α|0,_,_,_,_,_,_=>none|m1+1,v11,v12,v13,v14,v15,k1_0=>cond (decide (v15<v14)) (cond (decide (0≤v15)&&decide (v15<(v13.length:Int))) (let e16:=(decide ((List.getD v13 (Int.toNat v15) (Kd.dflt .ghost)).Cpu=v11));cond e16 (let e17:=([(List.getD v13 (Int.toNat v15) (Kd.dflt .ghost)).S]:List Share);cond (decide ((v12).length+(e17).length≤lim)) (Fl n m1 v11 (v12++e17) v13 v14 (w64 (v15+1)) k1_0) none) (Fl n m1 v11 v12 v13 v14 (w64 (v15+1)) k1_0)) none) (k1_0 v12)
def M0(n:Nat)(a0:Sys)(a1:Int):Option (List Share×Unit):=Gb n n a1 a0 ([]:List Share) a0.Tasks (a0.Tasks.length:Int) 0 (fun w10=>Fl n n a1 w10 a0.Ghosts (a0.Ghosts.length:Int) 0 (fun w18=>some (w18,())))
def gu(n:Nat):Rw:=⟨21,pV [Aq,.int],q15,fun x=>M0 n (AS x.1) x.2.1⟩
def pi(n:Nat):LS:=AN ⟨3,WU,[(.t 5,2,.share)],[3,4,5],[1,2,5],WV⟩ 54 [1,2,5,12,13,14] 1413333333 (pD [.int,.ptr 0 0,.bor 2,.ro .task,.int,.int]) [.box Ah,.root .share] (fun m x k=>Gb n m x.1.1 (AS x.2.1) x.2.2.1 x.1.2.2.2.1.2 x.1.2.2.2.2.1 x.1.2.2.2.2.2.1 (fun w0=>k (.exit 0) (eS 54 [1,2,5] [.int x.1.1,.ptr 0 0,.bor 2] 1413333333 [.box (Ah.make x.2.1),.root .share w0 .ok])))
def pj(n:Nat):LS:=AN ⟨9,WW,[(.t 5,6,.share)],[7,8,9],[5],WX⟩ 54 [1,5,37,38,39] 4443331333 (pD [.int,.bor 6,.ro .ghost,.int,.int]) [.root .share] (fun m x k=>Fl n m x.1.1 x.2.1 x.1.2.2.1.2 x.1.2.2.2.1 x.1.2.2.2.2.1 (fun w0=>k (.exit 2) (eS 54 [5] [.bor 6] 4443331333 [.root .share w0 .ok])))
theorem gv(n:Nat):RO (gu n):=
 rL ⟨Go.Proofs.Tryz.f21,⟨[(0,[(0,.slot 0 .int)]),(1,[(0,.slot 1 .share)]),(4,[(2,.slot 3 .int)]),(6,[(6,.slot 4 .share),(7,.slot 5 .share)]),(10,[(2,.slot 7 .int)]),(12,[(3,.slot 8 .share),(4,.slot 9 .share)])],[],[]⟩,10⟩ [pi n,pj n] n en Go.Proofs.Tryz.func21 (by kernel_rfl) ⟨AO (fun m x k=>by kernel_rfl) (fun _ _=>rfl),AO (fun m x k=>by kernel_rfl) (fun _ _=>rfl),trivial⟩ (fun x=>by kernel_rfl)
def JI{α:Type}(n:Nat):Nat→List Task→Task→Int→(Int→Option α)→Option α|0,_,_,_,_=>none|m0+1,v2,v3,v4,k0_0=>cond (decide (v4<(v2.length:Int))) (cond (decide (0≤v4)&&decide (v4<(v2.length:Int))) (let e5:=(decide ((List.getD v2 (Int.toNat v4) (Kd.dflt .task)).No<v3.No));cond e5 (JI n m0 v2 v3 (w64 (v4+1)) k0_0) (k0_0 v4)) none) (k0_0 v4)
def NC(n:Nat)(a0:List Task)(a1:Task):Option ((List Task×Bool×Unit)×Unit):=(D3 n a0).bind fun r1=>cond (!r1.1) (some (([],false,()),())) (JI n n a0 a1 0 (fun w6=>(C6 a0).bind fun r7=>(GM r7.1 w6 ([a1]:List Task)).bind fun r8=>(D3 n r8.1).bind fun r9=>cond (!r9.1) ((C6 a0).bind fun r10=>some ((r10.1,false,()),())) (some ((r8.1,true,()),()))))
def ii(n:Nat):Rw:=⟨215,pV [.ro .task,Au],q34,fun x=>NC n x.1.2 (AC x.2.1)⟩
def pw(n:Nat):LS:=AN ⟨4,[0,3,6],[],[],[0,3,6],Rp⟩ 39 [0,3,6] 13333 (pD [.ro .task,.ptr 0 0,.int]) [.box Ib] (fun m x k=>JI n m x.1.1.2 (AC x.2.1) x.1.2.2.1 (fun w0=>k (.exit 0) (eS 39 [0,3,6] [.ro x.1.1.1 .task x.1.1.2,.ptr 0 0,.int w0] 13333 [.box (Ib.make x.2.1)])))
theorem ij(n:Nat):RO (ii n):=
 rL ⟨Go.Proofs.Tryz.f215,⟨[(0,[(0,.slot 0 .int)]),(1,[(1,cl 1 .bool 0)]),(6,[(1,(.call [.ro] (.own .task) [] [some 1])),(4,.slot 2 .task),(5,(.call [.mv,.ro,.mv] (.own .task) [] [some 3]))]),(7,[(1,cl 1 .bool 0)]),(8,[(1,(.call [.ro] (.own .task) [] [some 4]))])],[(4,dr 14 [(10,[0],[]),(11,[0],[])]),(6,dr 7 [(1,[1],[1]),(3,[0],[]),(4,[2],[2]),(5,[1,2,3],[1,2,3])])],[]⟩,5⟩ [pw n] n (ec (O7 n) (ec PA (ec lx en))) Go.Proofs.Tryz.func215 (by kernel_rfl) ⟨AO (fun m x k=>by kernel_rfl) (fun _ _=>rfl),trivial⟩ (fun x=>by kernel_rfl)
def NA(n:Nat)(a0:Sys)(a1:Call):Option (Int×Ap×Unit):=(NL a0 a1).bind fun r1=>cond (decide (a0.Cpus≤a1.Cpu)) (some (1,(AB a0),())) (cond (!r1.1.2.1) (some (1,(AB a0),())) ((Bu n a0.Tasks a1.No).bind fun r2=>cond (decide (0≤r2.1)) (some (3,(AB a0),())) ((NC n a0.Tasks (AC r1.1.1)).bind fun r3=>cond (!r3.1.2.1) (some (4,(AB a0),())) (cond (decide (a1.Kind=1)) ((M0 n a0 a1.Cpu).bind fun r4=>cond (decide ((r4.1).length+(([(⟨a1.A,a1.B⟩:Share)]:List Share)).length≤lim)) ((Iq n (r4.1++([(⟨a1.A,a1.B⟩:Share)]:List Share))).bind fun r5=>cond (!r5.1) (some (4,(AB a0),())) (cond (decide (a1.Kind=2)) (cond (decide (900000<a0.Seq)) (some (4,(AB a0),())) (cond (decide (a1.Kind=2)) (some (0,(AB (⟨a0.Now,a0.Cpus,r3.1.1,a0.Locks,a0.Ghosts,a0.Floors,(w64 (a0.Seq+1)),a0.Missed,a0.Trace⟩:Sys)),())) (some (0,(AB (⟨a0.Now,a0.Cpus,r3.1.1,a0.Locks,a0.Ghosts,a0.Floors,a0.Seq,a0.Missed,a0.Trace⟩:Sys)),())))) (cond (decide (a1.Kind=2)) (some (0,(AB (⟨a0.Now,a0.Cpus,r3.1.1,a0.Locks,a0.Ghosts,a0.Floors,(w64 (a0.Seq+1)),a0.Missed,a0.Trace⟩:Sys)),())) (some (0,(AB (⟨a0.Now,a0.Cpus,r3.1.1,a0.Locks,a0.Ghosts,a0.Floors,a0.Seq,a0.Missed,a0.Trace⟩:Sys)),()))))) none) (cond (decide (a1.Kind=2)) (cond (decide (900000<a0.Seq)) (some (4,(AB a0),())) (cond (decide (a1.Kind=2)) (some (0,(AB (⟨a0.Now,a0.Cpus,r3.1.1,a0.Locks,a0.Ghosts,a0.Floors,(w64 (a0.Seq+1)),a0.Missed,a0.Trace⟩:Sys)),())) (some (0,(AB (⟨a0.Now,a0.Cpus,r3.1.1,a0.Locks,a0.Ghosts,a0.Floors,a0.Seq,a0.Missed,a0.Trace⟩:Sys)),())))) (cond (decide (a1.Kind=2)) (some (0,(AB (⟨a0.Now,a0.Cpus,r3.1.1,a0.Locks,a0.Ghosts,a0.Floors,(w64 (a0.Seq+1)),a0.Missed,a0.Trace⟩:Sys)),())) (some (0,(AB (⟨a0.Now,a0.Cpus,r3.1.1,a0.Locks,a0.Ghosts,a0.Floors,a0.Seq,a0.Missed,a0.Trace⟩:Sys)),()))))))))
def iT(n:Nat):Rw:=⟨159,pA [.box (pA [.v .int,.v .int,.own .task,.own .lock,.own .ghost,.own .int,.v .int,.v .int,.own .turn]),.v Ca],L0,fun x=>NA n (AA x.1) (Ar x.2.1)⟩
theorem iU(n:Nat):RO (iT n):=
 rE ⟨Go.Proofs.Tryz.f159,⟨[(0,[(0,.slot 6 .int)]),(1,[(4,q49),(8,.slot 7 .int)]),(4,[(6,cl 2 .int 0)]),(6,[(5,(.call [.ro,.ro] (.tup q33) [] [some 8]))]),(9,[(9,(.call [.ro,.ro] (.own .share) [] [some 9])),(15,.slot 10 .share),(16,.slot 11 .share),(17,cl 1 .bool 0)])],[(1,dr 11 [(1,[0],[]),(2,[0],[]),(3,[6],[]),(4,[1,2,3,4,5],[]),(8,[7],[7]),(9,[7],[7])]),(2,dr 12 [(0,[6],[]),(1,[6],[]),(3,[0],[]),(4,[0],[]),(5,[0],[])]),(4,dr 9 [(1,[0],[]),(2,[0],[]),(3,[0],[]),(4,[6],[]),(5,[6],[]),(6,[1],[])]),(6,dr 11 [(1,[0],[]),(2,[0],[]),(3,[0],[]),(4,[7],[]),(5,[1,8],[8])]),(9,dr 21 [(0,[6],[]),(1,[6],[]),(5,[0],[]),(6,[0],[]),(7,[6],[]),(8,[6],[]),(9,[1,2,3,4,5,9],[9]),(10,[6],[]),(11,[6],[]),(12,[6],[]),(13,[6],[]),(15,[10],[10]),(16,[9,10,11],[9,11]),(17,[11],[])])],[]⟩,12⟩ n (ec jZ (ec (DM n) (ec (ij n) (ec (gv n) (ec (Rx n) en))))) Go.Proofs.Tryz.func159 (by kernel_rfl) (fun x=>by kernel_rfl)
def QK(a0:Lock)(a1_0:Int):Option (Bool×Unit):=some ((decide (a0.Owner=a1_0)),())
def gl:Rw:=⟨93,pV [KK,.rp (pD [.int]) 0],pS [.bool],fun x=>QK (Ld x.1) x.2.1.1⟩
theorem gm:RO (gl):=
 rE ⟨Go.Proofs.Tryz.f93,⟨[(0,[(0,.slot 0 .int)])],[],[]⟩,1⟩ 0 en Go.Proofs.Tryz.func93 (by kernel_rfl) (fun x=>by kernel_rfl)
def JU{α:Type}(n:Nat):Nat→List Lock→Int→Int→Int→(Int→Option α)→(Option α)→Option α|0,_,_,_,_,_,_=>none|m0+1,v1,v2,v3,v4,k0_0,k0_1=>cond (decide (v4<v3)) (cond (decide (0≤v4)&&decide (v4<(v1.length:Int))) ((QK (List.getD v1 (Int.toNat v4) (Kd.dflt .lock)) v2).bind fun r5=>cond r5.1 (k0_0 v4) (JU n m0 v1 v2 v3 (w64 (v4+1)) k0_0 k0_1)) none) k0_1
def Nk(n:Nat)(a0:List Lock)(a1_0_0:Int):Option (Int×Unit):=JU n n a0 a1_0_0 (a0.length:Int) 0 (fun w6=>some (w6,())) (some ((-1),()))
def lT(n:Nat):Rw:=⟨94,pV [.ro .lock,.clo 93 (pD [.rp (pD [.int]) 0])],pS [.int],fun x=>Nk n x.1.2 x.2.1.1.1⟩
def qR(n:Nat):LS:=AN ⟨2,[0,1,7,8],[],[],[4],[]⟩ 19 [0,1,7,8] 0 (pD [.ro .lock,.clo 93 (pD [.rp (pD [.int]) 0]),.int,.int]) [] (fun m x k=>JU n m x.1.1.2 x.1.2.1.1.1 x.1.2.2.1 x.1.2.2.2.1 (fun w0=>k .ret (eS 19 [4] [.int w0] 0 [])) (k (.exit 0) (eS 19 [] [] 0 [])))
theorem lU(n:Nat):RO (lT n):=
 rL ⟨Go.Proofs.Tryz.f94,⟨[(4,[(5,cl 1 .bool 0)])],[],[]⟩,0⟩ [qR n] n (ec gm en) Go.Proofs.Tryz.func94 (by kernel_rfl) ⟨AO (fun m x k=>by kernel_rfl) (fun _ _=>rfl),trivial⟩ (fun x=>by kernel_rfl)
def QY(n:Nat)(a0:List Lock)(a1_0_0:Int):Option (Bool×Unit):=(Nk n a0 a1_0_0).bind fun r1=>some ((decide (0≤r1.1)),())
def km(n:Nat):Rw:=⟨77,pV [.ro .lock,.clo 93 (pD [.rp (pD [.int]) 0])],pS [.bool],fun x=>QY n x.1.2 x.2.1.1.1⟩
theorem kn(n:Nat):RO (km n):=
 rE ⟨Go.Proofs.Tryz.f77,⟨[(1,[(2,cl 2 .int 0)])],[],[]⟩,0⟩ n (ec (lU n) en) Go.Proofs.Tryz.func77 (by kernel_rfl) (fun x=>by kernel_rfl)
def GH(n:Nat)(a0:List Lock)(a1:Int):Option (Bool×Unit):=cond (!(decide (a1=0))) ((QY n a0 a1).bind fun r1=>some (r1.1,())) (some (false,()))
def gk(n:Nat):Rw:=⟨19,pV [.ro .lock,.int],pS [.bool],fun x=>GH n x.1.2 x.2.1⟩
theorem Ry(n:Nat):RO (gk n):=
 rE ⟨Go.Proofs.Tryz.f19,⟨[(0,[(0,.slot 0 .int)]),(1,[(5,cl 2 .bool 0)])],[],[]⟩,1⟩ n (ec (kn n) en) Go.Proofs.Tryz.func19 (by kernel_rfl) (fun x=>by kernel_rfl)
def M8(n:Nat)(a0:Sys)(a1:Int):Option (Int×Ap×Unit):=cond (decide (0≤a1)&&decide (a1<(a0.Tasks.length:Int))) (let e1:=(decide ((List.getD a0.Tasks (Int.toNat a1) (Kd.dflt .task)).Class=1));cond e1 (let e2:=(decide (a0.Now<(List.getD a0.Tasks (Int.toNat a1) (Kd.dflt .task)).Due));(GH n a0.Locks ((List.getD a0.Tasks (Int.toNat a1) (Kd.dflt .task)).No)).bind fun r3=>cond r3.1 (some (5,(AB a0),())) ((Dk n a0.Locks ((List.getD a0.Tasks (Int.toNat a1) (Kd.dflt .task)).No)).bind fun r4=>cond (decide (0≤r4.1)) (some (5,(AB a0),())) (cond e2 (cond (decide (12≤(a0.Ghosts.length:Int))) (some (4,(AB a0),())) (cond e2 (let e5:=([(⟨(List.getD a0.Tasks (Int.toNat a1) (Kd.dflt .task)).Cpu,⟨(List.getD a0.Tasks (Int.toNat a1) (Kd.dflt .task)).Q,(List.getD a0.Tasks (Int.toNat a1) (Kd.dflt .task)).P⟩,(List.getD a0.Tasks (Int.toNat a1) (Kd.dflt .task)).Due⟩:Ghost)]:List Ghost);cond (decide ((a0.Ghosts).length+(e5).length≤lim)) ((GL a0.Tasks a1 (w64 (a1+1))).bind fun r6=>some (0,(AB (⟨a0.Now,a0.Cpus,r6.1,a0.Locks,(a0.Ghosts++e5),a0.Floors,a0.Seq,a0.Missed,a0.Trace⟩:Sys)),())) none) ((GL a0.Tasks a1 (w64 (a1+1))).bind fun r7=>some (0,(AB (⟨a0.Now,a0.Cpus,r7.1,a0.Locks,a0.Ghosts,a0.Floors,a0.Seq,a0.Missed,a0.Trace⟩:Sys)),())))) (cond e2 (let e8:=([(⟨(List.getD a0.Tasks (Int.toNat a1) (Kd.dflt .task)).Cpu,⟨(List.getD a0.Tasks (Int.toNat a1) (Kd.dflt .task)).Q,(List.getD a0.Tasks (Int.toNat a1) (Kd.dflt .task)).P⟩,(List.getD a0.Tasks (Int.toNat a1) (Kd.dflt .task)).Due⟩:Ghost)]:List Ghost);cond (decide ((a0.Ghosts).length+(e8).length≤lim)) ((GL a0.Tasks a1 (w64 (a1+1))).bind fun r9=>some (0,(AB (⟨a0.Now,a0.Cpus,r9.1,a0.Locks,(a0.Ghosts++e8),a0.Floors,a0.Seq,a0.Missed,a0.Trace⟩:Sys)),())) none) ((GL a0.Tasks a1 (w64 (a1+1))).bind fun r10=>some (0,(AB (⟨a0.Now,a0.Cpus,r10.1,a0.Locks,a0.Ghosts,a0.Floors,a0.Seq,a0.Missed,a0.Trace⟩:Sys)),())))))) ((GH n a0.Locks ((List.getD a0.Tasks (Int.toNat a1) (Kd.dflt .task)).No)).bind fun r11=>cond r11.1 (some (5,(AB a0),())) ((Dk n a0.Locks ((List.getD a0.Tasks (Int.toNat a1) (Kd.dflt .task)).No)).bind fun r12=>cond (decide (0≤r12.1)) (some (5,(AB a0),())) ((GL a0.Tasks a1 (w64 (a1+1))).bind fun r13=>some (0,(AB (⟨a0.Now,a0.Cpus,r13.1,a0.Locks,a0.Ghosts,a0.Floors,a0.Seq,a0.Missed,a0.Trace⟩:Sys)),()))))) none
def iN(n:Nat):Rw:=⟨216,pA [.box (pA [.v .int,.v .int,.own .task,.own .lock,.own .ghost,.own .int,.v .int,.v .int,.own .turn]),.v .int],L0,fun x=>M8 n (AA x.1) x.2.1⟩
theorem iO(n:Nat):RO (iN n):=
 rE ⟨Go.Proofs.Tryz.f216,⟨[(1,[(7,.slot 6 .int)]),(3,[(6,cl 2 .bool 0),(14,cl 2 .int 0)]),(8,[(15,.slot 7 .ghost),(16,.slot 8 .ghost)]),(9,[(8,(.call [.mv,.ro,.ro] (.own .task) [] [some 9]))])],[(2,dr 13 [(0,[6],[]),(1,[6],[]),(4,[6],[]),(5,[6],[]),(7,[0],[]),(8,[0],[]),(9,[0],[])]),(3,dr 18 [(1,[0],[]),(2,[0],[]),(3,[0],[]),(4,[6],[]),(5,[6],[]),(6,[2],[]),(9,[0],[]),(10,[0],[]),(11,[0],[]),(12,[6],[]),(13,[6],[]),(14,[2],[])]),(8,dr 20 [(2,[0],[]),(3,[0],[]),(4,[0],[]),(5,[6],[]),(6,[6],[]),(7,[6],[]),(8,[6],[]),(9,[6],[]),(10,[6],[]),(12,[6],[]),(13,[6],[]),(15,[7],[7]),(16,[3,7,8],[3,8]),(17,[0],[]),(18,[0],[]),(19,[0,8],[0])])],[]⟩,10⟩ n (ec (Ry n) (ec (G6 n) (ec lM en))) Go.Proofs.Tryz.func216 (by kernel_rfl) (fun x=>by kernel_rfl)
def Hr{α:Type}(n:Nat):Nat→List Task→List Task→List Int→Int→Int→(List Task→Option α)→Option α|0,_,_,_,_,_,_=>none|m0+1,v2,v3,v4,v5,v6,k0_0=>cond (decide (v6<v5)) (cond (decide (0≤v6)&&decide (v6<(v4.length:Int))) ((Bu n v2 (List.getD v4 (Int.toNat v6) (Kd.dflt .int))).bind fun r7=>cond (decide (0≤r7.1)) (cond (decide (0≤r7.1)&&decide (r7.1<(v2.length:Int))) (let e8:=([(List.getD v2 (Int.toNat r7.1) (Kd.dflt .task))]:List Task);cond (decide ((v3).length+(e8).length≤lim)) (Hr n m0 v2 (v3++e8) v4 v5 (w64 (v6+1)) k0_0) none) none) (Hr n m0 v2 v3 v4 v5 (w64 (v6+1)) k0_0)) none) (k0_0 v3)
def Ka(n:Nat)(a0:List Task)(a1:List Int):Option (Int×Unit):=(D3 n a0).bind fun r1=>cond (!r1.1) (some (0,())) (Hr n n a0 ([]:List Task) a1 (a1.length:Int) 0 (fun w9=>(HV n w9).bind fun r10=>some (r10.1,())))
def fX(n:Nat):Rw:=⟨25,pV [.ro .task,.ro .int],pS [.int],fun x=>Ka n x.1.2 x.2.1.2⟩
def pZ(n:Nat):LS:=AN ⟨5,([0,5,13,14,15]),[(.t 5,1,.task)],[2,3],[5],[1,2,3]⟩ 34 [0,5,13,14,15] 4133 (pD [.ro .task,.bor 1,.ro .int,.int,.int]) [.root .task] (fun m x k=>Hr n m x.1.1.2 x.2.1 x.1.2.2.1.2 x.1.2.2.2.1 x.1.2.2.2.2.1 (fun w0=>k (.exit 0) (eS 34 [5] [.bor 1] 4133 [.root .task w0 .ok])))
theorem Wu(n:Nat):RO (fX n):=
 rL ⟨Go.Proofs.Tryz.f25,⟨[(1,[(1,cl 1 .bool 0)]),(3,[(0,.slot 0 .task)]),(7,[(2,cl 2 .int 0)]),(9,[(5,.slot 2 .task),(6,.slot 3 .task)]),(11,[(1,cl 1 .int 0)])],[],[]⟩,4⟩ [pZ n] n (ec (O7 n) (ec (DM n) (ec (XE n) en))) Go.Proofs.Tryz.func25 (by kernel_rfl) ⟨AO (fun m x k=>by kernel_rfl) (fun _ _=>rfl),trivial⟩ (fun x=>by kernel_rfl)
def Mz(n:Nat)(a0:Sys)(a1:Int)(a2:Int):Option (Bool×Unit):=(Bu n a0.Tasks a2).bind fun r1=>(BA a1 0 (w64 ((a0.Locks.length:Int)-1))).bind fun r2=>cond (!r2.1) (some (false,())) (cond (decide (r1.1<0)) (some (false,())) (cond (decide (0≤a1)&&decide (a1<(a0.Locks.length:Int))) (let e3:=(decide ((List.getD a0.Locks (Int.toNat a1) (Kd.dflt .lock)).Owner=0));cond e3 (some (true,())) ((Bu n a0.Tasks ((List.getD a0.Locks (Int.toNat a1) (Kd.dflt .lock)).Owner)).bind fun r4=>cond (decide (0≤r4.1)) (cond (decide (0≤r4.1)&&decide (r4.1<(a0.Tasks.length:Int))) (cond (decide (0≤r1.1)&&decide (r1.1<(a0.Tasks.length:Int))) (let e5:=(decide ((List.getD a0.Tasks (Int.toNat r4.1) (Kd.dflt .task)).Cpu=(List.getD a0.Tasks (Int.toNat r1.1) (Kd.dflt .task)).Cpu));some (e5,())) none) none) (some (false,())))) none))
def gp(n:Nat):Rw:=⟨244,pV [Aq,.int,.int],pS [.bool],fun x=>Mz n (AS x.1) x.2.1 x.2.2.1⟩
theorem gq(n:Nat):RO (gp n):=
 rE ⟨Go.Proofs.Tryz.f244,⟨[(0,[(0,.slot 0 .int)]),(1,[(3,cl 2 .int 0)]),(2,[(5,cl 3 .bool 0)]),(7,[(3,cl 2 .int 0)])],[(8,dr 18 [(3,[0],[]),(4,[0],[]),(9,[0],[]),(10,[0],[])])],[]⟩,1⟩ n (ec (DM n) (ec CI en)) Go.Proofs.Tryz.func244 (by kernel_rfl) (fun x=>by kernel_rfl)
def Mn(n:Nat)(a0:List Lock)(a1:Int):Option (List Int×Unit):=(GF n a0).bind fun r1=>cond (!r1.1) (some ([],())) ((Iu n a0 a1).bind fun r2=>some (r2.1.1,()))
def fd(n:Nat):Rw:=⟨256,pV [.ro .lock,.int],pS [.ro .int],fun x=>Mn n x.1.2 x.2.1⟩
theorem fe(n:Nat):RO (fd n):=
 rE ⟨Go.Proofs.Tryz.f256,⟨[(1,[(1,cl 1 .bool 0)]),(3,[(2,q13)])],[],[]⟩,0⟩ n (ec (L4 n) (ec (R4 n) en)) Go.Proofs.Tryz.func256 (by kernel_rfl) (fun x=>by kernel_rfl)
def Mv(n:Nat)(a0:List Lock)(a1:Int)(a2:Int)(a3:Int):Option ((List Lock×Bool×Unit)×Unit):=(GF n a0).bind fun r1=>cond (!r1.1) (some (([],false,()),())) ((Iv n a0).bind fun r2=>(BA a1 0 (w64 ((a0.length:Int)-1))).bind fun r3=>cond (!r3.1) (some ((r2.1,false,()),())) (cond (decide (a2=0)) (some ((r2.1,false,()),())) (cond (decide (0≤a1)&&decide (a1<(a0.length:Int))) (let e4:=(!(decide ((List.getD a0 (Int.toNat a1) (Kd.dflt .lock)).Owner=a2)));cond e4 (some ((r2.1,false,()),())) (cond (decide (0≤a1)&&decide (a1<(a0.length:Int))) ((K5 n ((List.getD a0 (Int.toNat a1) (Kd.dflt .lock)).Waits) a3).bind fun r5=>cond (decide (r5.1<0)) (cond (!(decide (a3=0))) (some ((r2.1,false,()),())) (cond (decide (0≤a1)&&decide (a1<(a0.length:Int))) (let e6:=(((List.getD a0 (Int.toNat a1) (Kd.dflt .lock)).Waits).length:Int);cond (decide (0<e6)) (some ((r2.1,false,()),())) (cond (decide (0≤a1)&&decide (a1<(r2.1.length:Int))) (cond (decide ((Int.toNat a1)<(r2.1).length)) (let e7:=(List.set r2.1 (Int.toNat a1) (⟨a3,(List.getD r2.1 (Int.toNat a1) (Kd.dflt .lock)).Waits⟩:Lock));cond (decide (0≤r5.1)) (cond (decide (0≤a1)&&decide (a1<(e7.length:Int))) ((K4 ((List.getD e7 (Int.toNat a1) (Kd.dflt .lock)).Waits) r5.1 (w64 (r5.1+1))).bind fun r8=>cond (decide (0≤a1)&&decide (a1<(e7.length:Int))) (cond (decide ((Int.toNat a1)<(e7).length)) (cond (((decide ((Int.toNat a1)=(Int.toNat a1)))&&true)&&true) (let e9:=(List.set e7 (Int.toNat a1) (⟨(List.getD e7 (Int.toNat a1) (Kd.dflt .lock)).Owner,r8.1⟩:Lock));some ((e9,true,()),())) none) none) none) none) (some ((e7,true,()),()))) none) none)) none)) (cond (decide (0≤a1)&&decide (a1<(r2.1.length:Int))) (cond (decide ((Int.toNat a1)<(r2.1).length)) (let e10:=(List.set r2.1 (Int.toNat a1) (⟨a3,(List.getD r2.1 (Int.toNat a1) (Kd.dflt .lock)).Waits⟩:Lock));cond (decide (0≤r5.1)) (cond (decide (0≤a1)&&decide (a1<(e10.length:Int))) ((K4 ((List.getD e10 (Int.toNat a1) (Kd.dflt .lock)).Waits) r5.1 (w64 (r5.1+1))).bind fun r11=>cond (decide (0≤a1)&&decide (a1<(e10.length:Int))) (cond (decide ((Int.toNat a1)<(e10).length)) (cond (((decide ((Int.toNat a1)=(Int.toNat a1)))&&true)&&true) (let e12:=(List.set e10 (Int.toNat a1) (⟨(List.getD e10 (Int.toNat a1) (Kd.dflt .lock)).Owner,r11.1⟩:Lock));some ((e12,true,()),())) none) none) none) none) (some ((e10,true,()),()))) none) none)) none)) none)))
def gZ(n:Nat):Rw:=⟨243,pV [.ro .lock,.int,.int,.int],q77,fun x=>Mv n x.1.2 x.2.1 x.2.2.1 x.2.2.2.1⟩
theorem ga(n:Nat):RO (gZ n):=
 rE ⟨Go.Proofs.Tryz.f243,⟨[(1,[(1,cl 1 .bool 0)]),(3,[(1,Wl)]),(4,[(4,cl 3 .bool 0)]),(6,[(6,cl 2 .int 0)]),(11,[(10,(.call [.mv,.ro,.ro] (.own .int) [] [some 1]))])],[],[]⟩,2⟩ n (ec (L4 n) (ec (R5 n) (ec CI (ec (XL n) (ec lO en))))) Go.Proofs.Tryz.func243 (by kernel_rfl) (fun x=>by kernel_rfl)
def Mu(n:Nat)(a0:List Lock)(a1:Int)(a2:Int):Option ((List Lock×Int×Unit)×Unit):=(GF n a0).bind fun r1=>cond (!r1.1) (some (([],2,()),())) ((Iv n a0).bind fun r2=>(BA a1 0 (w64 ((a0.length:Int)-1))).bind fun r3=>cond (!r3.1) (some ((r2.1,2,()),())) ((Iw a2).bind fun r4=>cond (!r4.1) (some ((r2.1,2,()),())) ((Dk n a0 a2).bind fun r5=>cond (decide (0≤r5.1)) (some ((r2.1,2,()),())) (cond (decide (0≤a1)&&decide (a1<(a0.length:Int))) (let e6:=(decide ((List.getD a0 (Int.toNat a1) (Kd.dflt .lock)).Owner=a2));cond e6 (some ((r2.1,3,()),())) (cond (decide (0≤a1)&&decide (a1<(a0.length:Int))) (let e7:=(decide ((List.getD a0 (Int.toNat a1) (Kd.dflt .lock)).Owner=0));cond e7 (cond (decide (0≤a1)&&decide (a1<(r2.1.length:Int))) (cond (decide ((Int.toNat a1)<(r2.1).length)) (let e8:=(List.set r2.1 (Int.toNat a1) (⟨a2,(List.getD r2.1 (Int.toNat a1) (Kd.dflt .lock)).Waits⟩:Lock));some ((e8,0,()),())) none) none) (cond (decide (0≤a1)&&decide (a1<(a0.length:Int))) ((Mn n a0 ((List.getD a0 (Int.toNat a1) (Kd.dflt .lock)).Owner)).bind fun r9=>(GK n r9.1 a2).bind fun r10=>cond r10.1 (some ((r2.1,4,()),())) (cond (decide (0≤a1)&&decide (a1<(r2.1.length:Int))) (cond (decide (((List.getD r2.1 (Int.toNat a1) (Kd.dflt .lock)).Waits).length+(([a2]:List Int)).length≤lim)) (let e11:=((List.getD r2.1 (Int.toNat a1) (Kd.dflt .lock)).Waits++([a2]:List Int));cond (decide (0≤a1)&&decide (a1<(r2.1.length:Int))) (cond (decide ((Int.toNat a1)<(r2.1).length)) (cond (((decide ((Int.toNat a1)=(Int.toNat a1)))&&true)&&true) (let e12:=(List.set r2.1 (Int.toNat a1) (⟨(List.getD r2.1 (Int.toNat a1) (Kd.dflt .lock)).Owner,e11⟩:Lock));some ((e12,1,()),())) none) none) none) none) none)) none)) none)) none))))
def gX(n:Nat):Rw:=⟨245,pV [.ro .lock,.int,.int],q74,fun x=>Mu n x.1.2 x.2.1 x.2.2.1⟩
theorem gY(n:Nat):RO (gX n):=
 rE ⟨Go.Proofs.Tryz.f245,⟨[(1,[(1,cl 1 .bool 0)]),(3,[(1,Wl)]),(4,[(4,cl 3 .bool 0),(8,cl 1 .bool 0),(14,cl 2 .int 0)]),(11,[(6,(cl 2 (.ro .int) 0)),(8,cl 2 .bool 0)]),(13,[(8,.slot 1 .int),(9,.slot 2 .int)])],[],[]⟩,3⟩ n (ec (L4 n) (ec (R5 n) (ec CI (ec R6 (ec (G6 n) (ec (fe n) (ec (L8 n) en))))))) Go.Proofs.Tryz.func245 (by kernel_rfl) (fun x=>by kernel_rfl)
end Go.Proofs.YthoholbeacojfaaGreat.VR
end
section
set_option linter.unusedVariables false
set_option maxRecDepth 100000
namespace Go.Proofs.YthoholbeacojfaaGreat.VR
open Go
def Kq(n:Nat)(a0:Sys)(a1:Call)(a2:Task):Option (Int×Ap×Unit):=(BA a1.A 0 (w64 ((a0.Locks.length:Int)-1))).bind fun r1=>cond (!r1.1) (some (2,(AB a0),())) (cond (decide (0≤a1.A)&&decide (a1.A<(a0.Locks.length:Int))) (let e2:=(decide ((List.getD a0.Locks (Int.toNat a1.A) (Kd.dflt .lock)).Owner=a2.No));cond (decide (a2.State=2)) (some (5,(AB a0),())) ((Dk n a0.Locks a2.No).bind fun r3=>cond (decide (0≤r3.1)) (some (5,(AB a0),())) (cond (!(e2==(decide (a1.Kind=8)))) (some (5,(AB a0),())) (cond (decide (a1.Kind=8)) (cond (decide (0≤a1.A)&&decide (a1.A<(a0.Locks.length:Int))) ((Ka n a0.Tasks ((List.getD a0.Locks (Int.toNat a1.A) (Kd.dflt .lock)).Waits)).bind fun r4=>(Mv n a0.Locks a1.A a2.No r4.1).bind fun r5=>some (0,(AB (⟨a0.Now,a0.Cpus,a0.Tasks,r5.1.1,a0.Ghosts,a0.Floors,a0.Seq,a0.Missed,a0.Trace⟩:Sys)),())) none) ((Mz n a0 a1.A a2.No).bind fun r6=>cond (!r6.1) (some (5,(AB a0),())) ((Mu n a0.Locks a1.A a2.No).bind fun r7=>cond (decide (r7.1.2.1=4)) (some (6,(AB a0),())) (some (0,(AB (⟨a0.Now,a0.Cpus,a0.Tasks,r7.1.1,a0.Ghosts,a0.Floors,a0.Seq,a0.Missed,a0.Trace⟩:Sys)),())))))))) none)
def iR(n:Nat):Rw:=⟨217,pA [.box (pA [.v .int,.v .int,.own .task,.own .lock,.own .ghost,.own .int,.v .int,.v .int,.own .turn]),.v Ca,.v Au],L0,fun x=>Kq n (AA x.1) (Ar x.2.1) (AC x.2.2.1)⟩
theorem iS(n:Nat):RO (iR n):=
 rE ⟨Go.Proofs.Tryz.f217,⟨[(0,[(0,.slot 6 .int),(1,.slot 7 .int)]),(1,[(8,cl 3 .bool 0)]),(4,[(10,cl 2 .int 0)]),(7,[(22,cl 2 .int 0),(23,q92)]),(9,[(7,cl 3 .bool 0)]),(11,[(8,(.call [.ro,.ro,.ro] (.tup q73) [] [some 9]))])],[(1,dr 10 [(0,[6],[]),(1,[6],[]),(3,[0],[]),(4,[0],[]),(5,[0],[]),(6,[2],[])]),(3,dr 13 [(1,[0],[]),(2,[0],[]),(3,[0],[]),(4,[6],[]),(5,[6],[]),(6,[2],[]),(7,[2],[]),(8,[2],[]),(9,[7],[]),(10,[7],[])]),(4,dr 20 [(0,[7],[]),(1,[7],[]),(5,[0],[]),(6,[0],[]),(7,[0],[]),(8,[7],[]),(9,[7],[]),(10,[2],[]),(15,[6],[]),(16,[6],[])]),(7,dr 30 [(2,[0],[]),(3,[0],[]),(4,[0],[]),(5,[6],[]),(6,[6],[]),(7,[7],[]),(8,[7],[]),(10,[0],[]),(11,[0],[]),(12,[0],[]),(14,[0],[]),(15,[0],[]),(16,[0],[]),(17,[6],[]),(18,[6],[]),(19,[2],[]),(20,[2],[]),(21,[2],[]),(22,[1,2],[]),(23,[2,8],[8]),(27,[0],[]),(28,[0],[]),(29,[0,8],[0])]),(9,dr 9 [(1,[0],[]),(2,[0],[]),(3,[6],[]),(4,[6],[]),(5,[7],[]),(6,[7],[]),(7,[1,2,3,4,5],[])]),(11,dr 14 [(1,[0],[]),(2,[0],[]),(3,[0],[]),(4,[6],[]),(5,[6],[]),(6,[7],[]),(7,[7],[]),(8,[2,9],[9])])],[]⟩,10⟩ n (ec CI (ec (G6 n) (ec (Wu n) (ec (ga n) (ec (gq n) (ec (gY n) en)))))) Go.Proofs.Tryz.func217 (by kernel_rfl) (fun x=>by kernel_rfl)
def Kg(a0:Task)(a1:Int)(a2:Int)(a3:Int):Option (BW×Unit):=(Eo a0).bind fun r1=>cond (!r1.1) (some ((AK a0),())) ((BA a1 0 3).bind fun r2=>cond (!r2.1) (some ((AK a0),())) ((BA a2 0 100000000).bind fun r3=>cond (!r3.1) (some ((AK a0),())) ((BA a3 0 100000000).bind fun r4=>cond (!r4.1) (some ((AK a0),())) (let e5:=(w64 (a3+(if(w64 (a0.V-a2))>0 then(w64 (a0.V-a2))else 0)));cond (decide (100000000<e5)) (some ((AK a0),())) (some ((AK (⟨a0.No,a0.Class,a1,a0.State,a0.Idle,a0.Q,a0.P,a0.Left,a0.Due,a0.Prio,a0.Round,a0.Seq,a0.Nice,e5⟩:Task)),()))))))
def fv:Rw:=⟨246,pV [Au,.int,.int,.int],q37,fun x=>Kg (AC x.1) x.2.1 x.2.2.1 x.2.2.2.1⟩
theorem fw:RO (fv):=
 rE ⟨Go.Proofs.Tryz.f246,⟨[(0,[(0,.slot 0 .int),(1,.slot 1 .int)]),(1,[(1,cl 1 .bool 0),(5,cl 3 .bool 0),(10,cl 3 .bool 0),(15,cl 3 .bool 0)])],[],[]⟩,2⟩ 0 (ec L7 (ec CI en)) Go.Proofs.Tryz.func246 (by kernel_rfl) (fun x=>by kernel_rfl)
def M9(n:Nat)(a0:Sys)(a1:Call)(a2:Int):Option (Int×Ap×Unit):=cond (decide (0≤a2)&&decide (a2<(a0.Tasks.length:Int))) (let e1:=(!(decide ((List.getD a0.Tasks (Int.toNat a2) (Kd.dflt .task)).Class=3)));cond e1 (some (5,(AB a0),())) (cond (decide (a1.Kind=9)) ((GG a1.A).bind fun r2=>cond (!r2.1) (some (1,(AB a0),())) (cond (decide (a1.Kind=9)) (cond (decide (0≤a2)&&decide (a2<(a0.Tasks.length:Int))) (cond (decide ((Int.toNat a2)<(a0.Tasks).length)) (let e3:=(List.set a0.Tasks (Int.toNat a2) (⟨(List.getD a0.Tasks (Int.toNat a2) (Kd.dflt .task)).No,(List.getD a0.Tasks (Int.toNat a2) (Kd.dflt .task)).Class,(List.getD a0.Tasks (Int.toNat a2) (Kd.dflt .task)).Cpu,(List.getD a0.Tasks (Int.toNat a2) (Kd.dflt .task)).State,(List.getD a0.Tasks (Int.toNat a2) (Kd.dflt .task)).Idle,(List.getD a0.Tasks (Int.toNat a2) (Kd.dflt .task)).Q,(List.getD a0.Tasks (Int.toNat a2) (Kd.dflt .task)).P,(List.getD a0.Tasks (Int.toNat a2) (Kd.dflt .task)).Left,(List.getD a0.Tasks (Int.toNat a2) (Kd.dflt .task)).Due,(List.getD a0.Tasks (Int.toNat a2) (Kd.dflt .task)).Prio,(List.getD a0.Tasks (Int.toNat a2) (Kd.dflt .task)).Round,(List.getD a0.Tasks (Int.toNat a2) (Kd.dflt .task)).Seq,a1.A,(List.getD a0.Tasks (Int.toNat a2) (Kd.dflt .task)).V⟩:Task));some (0,(AB (⟨a0.Now,a0.Cpus,e3,a0.Locks,a0.Ghosts,a0.Floors,a0.Seq,a0.Missed,a0.Trace⟩:Sys)),())) none) none) ((GH n a0.Locks ((List.getD a0.Tasks (Int.toNat a2) (Kd.dflt .task)).No)).bind fun r4=>cond r4.1 (some (5,(AB a0),())) ((Dk n a0.Locks ((List.getD a0.Tasks (Int.toNat a2) (Kd.dflt .task)).No)).bind fun r5=>cond (decide (0≤r5.1)) (some (5,(AB a0),())) ((BA a1.Cpu 0 (w64 (a0.Cpus-1))).bind fun r6=>cond (!r6.1) (some (1,(AB a0),())) ((GE a0 ((List.getD a0.Tasks (Int.toNat a2) (Kd.dflt .task)).Cpu)).bind fun r7=>(GE a0 a1.Cpu).bind fun r8=>(Kg (List.getD a0.Tasks (Int.toNat a2) (Kd.dflt .task)) a1.Cpu r7.1 r8.1).bind fun r9=>cond (decide (0≤a2)&&decide (a2<(a0.Tasks.length:Int))) (cond (decide ((Int.toNat a2)<(a0.Tasks).length)) (some (0,(AB (⟨a0.Now,a0.Cpus,(List.set a0.Tasks (Int.toNat a2) (AC r9.1)),a0.Locks,a0.Ghosts,a0.Floors,a0.Seq,a0.Missed,a0.Trace⟩:Sys)),())) none) none)))))) (cond (decide (a1.Kind=9)) (cond (decide (0≤a2)&&decide (a2<(a0.Tasks.length:Int))) (cond (decide ((Int.toNat a2)<(a0.Tasks).length)) (let e10:=(List.set a0.Tasks (Int.toNat a2) (⟨(List.getD a0.Tasks (Int.toNat a2) (Kd.dflt .task)).No,(List.getD a0.Tasks (Int.toNat a2) (Kd.dflt .task)).Class,(List.getD a0.Tasks (Int.toNat a2) (Kd.dflt .task)).Cpu,(List.getD a0.Tasks (Int.toNat a2) (Kd.dflt .task)).State,(List.getD a0.Tasks (Int.toNat a2) (Kd.dflt .task)).Idle,(List.getD a0.Tasks (Int.toNat a2) (Kd.dflt .task)).Q,(List.getD a0.Tasks (Int.toNat a2) (Kd.dflt .task)).P,(List.getD a0.Tasks (Int.toNat a2) (Kd.dflt .task)).Left,(List.getD a0.Tasks (Int.toNat a2) (Kd.dflt .task)).Due,(List.getD a0.Tasks (Int.toNat a2) (Kd.dflt .task)).Prio,(List.getD a0.Tasks (Int.toNat a2) (Kd.dflt .task)).Round,(List.getD a0.Tasks (Int.toNat a2) (Kd.dflt .task)).Seq,a1.A,(List.getD a0.Tasks (Int.toNat a2) (Kd.dflt .task)).V⟩:Task));some (0,(AB (⟨a0.Now,a0.Cpus,e10,a0.Locks,a0.Ghosts,a0.Floors,a0.Seq,a0.Missed,a0.Trace⟩:Sys)),())) none) none) ((GH n a0.Locks ((List.getD a0.Tasks (Int.toNat a2) (Kd.dflt .task)).No)).bind fun r11=>cond r11.1 (some (5,(AB a0),())) ((Dk n a0.Locks ((List.getD a0.Tasks (Int.toNat a2) (Kd.dflt .task)).No)).bind fun r12=>cond (decide (0≤r12.1)) (some (5,(AB a0),())) ((BA a1.Cpu 0 (w64 (a0.Cpus-1))).bind fun r13=>cond (!r13.1) (some (1,(AB a0),())) ((GE a0 ((List.getD a0.Tasks (Int.toNat a2) (Kd.dflt .task)).Cpu)).bind fun r14=>(GE a0 a1.Cpu).bind fun r15=>(Kg (List.getD a0.Tasks (Int.toNat a2) (Kd.dflt .task)) a1.Cpu r14.1 r15.1).bind fun r16=>cond (decide (0≤a2)&&decide (a2<(a0.Tasks.length:Int))) (cond (decide ((Int.toNat a2)<(a0.Tasks).length)) (some (0,(AB (⟨a0.Now,a0.Cpus,(List.set a0.Tasks (Int.toNat a2) (AC r16.1)),a0.Locks,a0.Ghosts,a0.Floors,a0.Seq,a0.Missed,a0.Trace⟩:Sys)),())) none) none))))))) none
def iP(n:Nat):Rw:=⟨218,pA [.box (pA [.v .int,.v .int,.own .task,.own .lock,.own .ghost,.own .int,.v .int,.v .int,.own .turn]),.v Ca,.v .int],L0,fun x=>M9 n (AA x.1) (Ar x.2.1) x.2.2.1⟩
theorem iQ(n:Nat):RO (iP n):=
 rE ⟨Go.Proofs.Tryz.f218,⟨[(0,[(0,.slot 6 .int)]),(1,[(7,.slot 7 .int)]),(4,[(6,cl 1 .bool 0)]),(9,[(6,cl 2 .bool 0),(14,cl 2 .int 0)]),(11,[(7,cl 3 .bool 0)]),(13,[(13,cl 2 .int 0),(19,cl 2 .int 0),(20,q93)])],[(7,dr 10 [(1,[0],[]),(2,[0],[]),(3,[0],[]),(5,[6],[]),(6,[6],[]),(7,[1],[]),(8,[1],[]),(9,[1],[1])]),(9,dr 18 [(1,[0],[]),(2,[0],[]),(3,[0],[]),(4,[7],[]),(5,[7],[]),(6,[2],[]),(9,[0],[]),(10,[0],[]),(11,[0],[]),(12,[7],[]),(13,[7],[]),(14,[2],[])]),(11,dr 10 [(0,[6],[]),(1,[6],[]),(3,[0],[]),(4,[0],[]),(5,[0],[])]),(13,dr 23 [(1,[0],[]),(2,[0],[]),(3,[0],[]),(5,[7],[]),(6,[6],[]),(7,[6],[]),(9,[0],[]),(10,[0],[]),(11,[7],[]),(12,[7],[]),(13,[1,2,3,4,5],[]),(15,[0],[]),(16,[0],[]),(17,[6],[]),(18,[6],[]),(19,[1,2,3,4,5],[]),(21,[1],[]),(22,[1],[1])])],[]⟩,8⟩ n (ec O5 (ec (Ry n) (ec (G6 n) (ec CI (ec Wx (ec fw en)))))) Go.Proofs.Tryz.func218 (by kernel_rfl) (fun x=>by kernel_rfl)
def NB(n:Nat)(a0:Sys)(a1:Call)(a2:Int):Option (Int×Ap×Unit):=cond (decide (0≤a2)&&decide (a2<(a0.Tasks.length:Int))) (cond (decide (a1.Kind=4)) (let e1:=(decide ((List.getD a0.Tasks (Int.toNat a2) (Kd.dflt .task)).State=2));cond e1 (some (5,(AB a0),())) ((Dk n a0.Locks ((List.getD a0.Tasks (Int.toNat a2) (Kd.dflt .task)).No)).bind fun r2=>cond (decide (0≤r2.1)) (some (5,(AB a0),())) (cond (decide (0≤a2)&&decide (a2<(a0.Tasks.length:Int))) (cond (decide ((Int.toNat a2)<(a0.Tasks).length)) (let e3:=(List.set a0.Tasks (Int.toNat a2) (⟨(List.getD a0.Tasks (Int.toNat a2) (Kd.dflt .task)).No,(List.getD a0.Tasks (Int.toNat a2) (Kd.dflt .task)).Class,(List.getD a0.Tasks (Int.toNat a2) (Kd.dflt .task)).Cpu,2,(List.getD a0.Tasks (Int.toNat a2) (Kd.dflt .task)).Idle,(List.getD a0.Tasks (Int.toNat a2) (Kd.dflt .task)).Q,(List.getD a0.Tasks (Int.toNat a2) (Kd.dflt .task)).P,(List.getD a0.Tasks (Int.toNat a2) (Kd.dflt .task)).Left,(List.getD a0.Tasks (Int.toNat a2) (Kd.dflt .task)).Due,(List.getD a0.Tasks (Int.toNat a2) (Kd.dflt .task)).Prio,(List.getD a0.Tasks (Int.toNat a2) (Kd.dflt .task)).Round,(List.getD a0.Tasks (Int.toNat a2) (Kd.dflt .task)).Seq,(List.getD a0.Tasks (Int.toNat a2) (Kd.dflt .task)).Nice,(List.getD a0.Tasks (Int.toNat a2) (Kd.dflt .task)).V⟩:Task));some (0,(AB (⟨a0.Now,a0.Cpus,e3,a0.Locks,a0.Ghosts,a0.Floors,a0.Seq,a0.Missed,a0.Trace⟩:Sys)),())) none) none))) (cond (decide (a1.Kind=5)) (let e4:=(!(decide ((List.getD a0.Tasks (Int.toNat a2) (Kd.dflt .task)).State=2)));cond e4 (some (5,(AB a0),())) (cond (decide (0≤a2)&&decide (a2<(a0.Tasks.length:Int))) (cond (decide ((Int.toNat a2)<(a0.Tasks).length)) (let e5:=(List.set a0.Tasks (Int.toNat a2) (⟨(List.getD a0.Tasks (Int.toNat a2) (Kd.dflt .task)).No,(List.getD a0.Tasks (Int.toNat a2) (Kd.dflt .task)).Class,(List.getD a0.Tasks (Int.toNat a2) (Kd.dflt .task)).Cpu,1,(List.getD a0.Tasks (Int.toNat a2) (Kd.dflt .task)).Idle,(List.getD a0.Tasks (Int.toNat a2) (Kd.dflt .task)).Q,(List.getD a0.Tasks (Int.toNat a2) (Kd.dflt .task)).P,(List.getD a0.Tasks (Int.toNat a2) (Kd.dflt .task)).Left,(List.getD a0.Tasks (Int.toNat a2) (Kd.dflt .task)).Due,(List.getD a0.Tasks (Int.toNat a2) (Kd.dflt .task)).Prio,(List.getD a0.Tasks (Int.toNat a2) (Kd.dflt .task)).Round,(List.getD a0.Tasks (Int.toNat a2) (Kd.dflt .task)).Seq,(List.getD a0.Tasks (Int.toNat a2) (Kd.dflt .task)).Nice,(List.getD a0.Tasks (Int.toNat a2) (Kd.dflt .task)).V⟩:Task));some (0,(AB (⟨a0.Now,a0.Cpus,e5,a0.Locks,a0.Ghosts,a0.Floors,a0.Seq,a0.Missed,a0.Trace⟩:Sys)),())) none) none)) (cond (decide (a1.Kind=6)) ((M8 n a0 a2).bind fun r6=>some (r6.1,(AB (AA r6.2.1)),())) (cond (decide (a1.Kind=7)) ((Kq n a0 a1 (List.getD a0.Tasks (Int.toNat a2) (Kd.dflt .task))).bind fun r7=>some (r7.1,(AB (AA r7.2.1)),())) (cond (decide (a1.Kind=8)) ((Kq n a0 a1 (List.getD a0.Tasks (Int.toNat a2) (Kd.dflt .task))).bind fun r8=>some (r8.1,(AB (AA r8.2.1)),())) ((M9 n a0 a1 a2).bind fun r9=>some (r9.1,(AB (AA r9.2.1)),()))))))) none
def iX(n:Nat):Rw:=⟨160,pA [.box (pA [.v .int,.v .int,.own .task,.own .lock,.own .ghost,.own .int,.v .int,.v .int,.own .turn]),.v Ca,.v .int],L0,fun x=>NB n (AA x.1) (Ar x.2.1) x.2.2.1⟩
theorem iY(n:Nat):RO (iX n):=
 rE ⟨Go.Proofs.Tryz.f160,⟨[(0,[(0,.slot 6 .int)]),(1,[(7,.slot 7 .int)]),(4,[(10,cl 2 .int 0)]),(14,[(2,(.call [.mv,.ro] .int [.box q39] [some 8,some 9,some 10,some 11,some 12]))]),(17,[(3,(.call [.mv,.ro,.ro] .int [.box q39] [some 13,some 14,some 15,some 16,some 17]))]),(18,[(3,(.call [.mv,.ro,.ro] .int [.box q39] [some 18,some 19,some 20,some 21,some 22]))])],[(4,dr 13 [(0,[7],[]),(1,[7],[]),(5,[0],[]),(6,[0],[]),(7,[0],[]),(8,[7],[]),(9,[7],[]),(10,[2],[])])],[]⟩,23⟩ n (ec (G6 n) (ec (iO n) (ec (iS n) (ec (iQ n) en)))) Go.Proofs.Tryz.func160 (by kernel_rfl) (fun x=>by kernel_rfl)
def JE{α:Type}(n:Nat):Nat→Sys→Sys→Int→Int→(List Int→Option α)→Option α|0,_,_,_,_,_=>none|m0+1,v5,v6,v7,v8,k0_0=>cond (decide (v8<v7)) ((It n v6 v8).bind fun r9=>cond (decide (0≤v8)&&decide (v8<(v6.Floors.length:Int))) ((Kf n r9.1 (List.getD v6.Floors (Int.toNat v8) (Kd.dflt .int))).bind fun r10=>cond (decide (0≤v8)&&decide (v8<(v6.Floors.length:Int))) (cond (decide ((Int.toNat v8)<(v6.Floors).length)) (JE n m0 (⟨v5.Now,v5.Cpus,[],[],[],[],v5.Seq,v5.Missed,[]⟩:Sys) (⟨v6.Now,v6.Cpus,v6.Tasks,v6.Locks,v6.Ghosts,(List.set v6.Floors (Int.toNat v8) r10.1),v6.Seq,v6.Missed,v6.Trace⟩:Sys) v7 (w64 (v8+1)) k0_0) none) none) none) (k0_0 v6.Floors)
def Gd{α:Type}(n:Nat):Nat→Sys→Sys→Int→Int→(Int→Int→Int→Int→List Task→List Lock→List Ghost→List Int→List Turn→Option α)→Option α|0,_,_,_,_,_=>none|m1+1,v12,v13,v14,v15,k1_0=>cond (decide (v15<v14)) ((Kt n v13 v15).bind fun r16=>Gd n m1 (⟨v12.Now,v12.Cpus,[],[],[],[],v12.Seq,v12.Missed,[]⟩:Sys) (AA r16.2.1) v14 (w64 (v15+1)) k1_0) (k1_0 v13.Now v13.Cpus v13.Seq v13.Missed v13.Tasks v13.Locks v13.Ghosts v13.Floors v13.Trace)
def M6(n:Nat)(a0:Sys):Option ((Ap×Bool×Unit)×Unit):=(CV n a0).bind fun r1=>cond (!r1.1) (some (((AB (⟨0,0,[],[],[],[],0,0,[]⟩:Sys)),false,()),())) ((Dl n a0).bind fun r2=>cond (decide (a0.Now=100000)) (some (((AB (AA r2.1)),false,()),())) (cond (decide (900000<a0.Seq)) (some (((AB (AA r2.1)),false,()),())) (cond (decide (400<(w64 ((a0.Trace.length:Int)+a0.Cpus)))) (some (((AB (AA r2.1)),false,()),())) ((Kr n (AA r2.1)).bind fun r3=>(Ku n (AA r3.2.1)).bind fun r4=>JE n n (⟨0,0,[],[],[],[],0,0,[]⟩:Sys) (AA r4.2.1) (((AA r4.2.1).Floors).length:Int) 0 (fun w11=>Gd n n (⟨0,0,[],[],[],[],0,0,[]⟩:Sys) (⟨(AA r4.2.1).Now,(AA r4.2.1).Cpus,(AA r4.2.1).Tasks,(AA r4.2.1).Locks,(AA r4.2.1).Ghosts,w11,(AA r4.2.1).Seq,(AA r4.2.1).Missed,(AA r4.2.1).Trace⟩:Sys) ((AA r4.2.1).Cpus) 0 (fun w17 w18 w19 w20 w21 w22 w23 w24 w25=>some (((AB (⟨(w64 (w17+1)),w18,w21,w22,w23,w24,w19,w20,w25⟩:Sys)),true,()),())))))))
def iI(n:Nat):Rw:=⟨51,pV [Aq],q54,fun x=>M6 n (AS x.1)⟩
def po(n:Nat):LS:=AN ⟨9,Wf,[],[],[2,4],Wg⟩ 66 [2,4,35,36] 4144444144444111113333333333 (pD [.ptr 1 0,.ptr 7 0,.int,.int]) [q45,Lz,.root .task,.root .lock,.root .ghost,.root .int,.root .turn] (fun m x k=>JE n m (⟨x.2.1.1,x.2.1.2.1,[],[],[],[],x.2.1.2.2.2.2.2.2.1,x.2.1.2.2.2.2.2.2.2.1,[]⟩:Sys) (⟨x.2.2.1.1,x.2.2.1.2.1,x.2.2.2.1,x.2.2.2.2.1,x.2.2.2.2.2.1,x.2.2.2.2.2.2.1,x.2.2.1.2.2.2.2.2.2.1,x.2.2.1.2.2.2.2.2.2.2.1,x.2.2.2.2.2.2.2.1⟩:Sys) x.1.2.2.1 x.1.2.2.2.1 (fun w0=>k (.exit 0) (eS 66 [2,4] [.ptr 1 0,.ptr 7 0] 4144444144444111113333333333 [DE.make q45 x.2.1,DE.make Lz x.2.2.1,.root .task x.2.2.2.1 .ok,.root .lock x.2.2.2.2.1 .ok,.root .ghost x.2.2.2.2.2.1 .ok,.root .int w0 .ok,.root .turn x.2.2.2.2.2.2.2.1 .ok])))
def pp(n:Nat):LS:=AN ⟨14,Wh,[(.c 7 2,18,.task),(.c 7 3,19,.lock),(.c 7 4,20,.ghost),(.c 7 5,21,.int),(.c 7 8,22,.turn)],Wi,[2,4],Wj⟩ 66 [2,4,54,55] 4144444144444444441111133333 (pD [.ptr 1 0,.ptr 7 0,.int,.int]) [q45,Wk,.root .task,.root .lock,.root .ghost,.root .int,.root .turn] (fun m x k=>Gd n m (⟨x.2.1.1,x.2.1.2.1,[],[],[],[],x.2.1.2.2.2.2.2.2.1,x.2.1.2.2.2.2.2.2.2.1,[]⟩:Sys) (⟨x.2.2.1.1,x.2.2.1.2.1,x.2.2.2.1,x.2.2.2.2.1,x.2.2.2.2.2.1,x.2.2.2.2.2.2.1,x.2.2.1.2.2.2.2.2.2.1,x.2.2.1.2.2.2.2.2.2.2.1,x.2.2.2.2.2.2.2.1⟩:Sys) x.1.2.2.1 x.1.2.2.2.1 (fun w0 w1 w2 w3 w4 w5 w6 w7 w8=>k (.exit 2) (eS 66 [2,4] [.ptr 1 0,.ptr 7 0] 4144444144444444441111133333 [DE.make q45 x.2.1,.box [.int w0,.int w1,.bor 18,.bor 19,.bor 20,.bor 21,.int w2,.int w3,.bor 22],.root .task w4 .ok,.root .lock w5 .ok,.root .ghost w6 .ok,.root .int w7 .ok,.root .turn w8 .ok])))
theorem iJ(n:Nat):RO (iI n):=
 rL ⟨Go.Proofs.Tryz.f51,⟨[(0,[(0,.slot 0 .int),(1,.slot 1 .int)]),(1,[(1,cl 1 .bool 0)]),(3,[(1,q43),(2,.slot 7 .int)]),(6,[(0,Wc)]),(7,[(0,Wd)]),(11,[(5,Ru),(11,cl 2 .int 0)]),(16,[(1,We)])],[(11,dr 14 [(0,[7],[]),(1,[7],[]),(3,[7],[]),(5,[13,14,15,16,17],[]),(6,[7],[]),(7,[7],[]),(9,[16],[]),(10,[16],[]),(12,[16],[]),(13,[16],[16])])],[]⟩,28⟩ [po n,pp n] n (ec (C4 n) (ec (L6 n) (ec (W9 n) (ec (XB n) (ec (R3 n) (ec (Ww n) (ec (XA n) en))))))) Go.Proofs.Tryz.func51 (by kernel_rfl) ⟨AO (fun m x k=>by kernel_rfl) (fun _ _=>rfl),AO (fun m x k=>by kernel_rfl) (fun _ _=>rfl),trivial⟩ (fun x=>by kernel_rfl)
def JG{α:Type}(n:Nat):Nat→Int→Sys→Sys→Int→(Int→Int→Int→Int→Int→Int→Int→Int→Int→List Task→List Lock→List Ghost→List Int→List Turn→Option α)→(Int→Int→Int→Int→List Task→List Lock→List Ghost→List Int→List Turn→Option α)→Option α|0,_,_,_,_,_,_=>none|m0+1,v4,v5,v6,v7,k0_0,k0_1=>cond (decide (v7<v4)) ((M6 n v6).bind fun r8=>cond (!r8.1.2.1) (k0_0 v7 v6.Now v6.Cpus v6.Seq v6.Missed v6.Now v6.Cpus v6.Seq v6.Missed v6.Tasks v6.Locks v6.Ghosts v6.Floors v6.Trace) (JG n m0 v4 (⟨v5.Now,v5.Cpus,[],[],[],[],v5.Seq,v5.Missed,[]⟩:Sys) (AA r8.1.1) (w64 (v7+1)) k0_0 k0_1)) (k0_1 v6.Now v6.Cpus v6.Seq v6.Missed v6.Tasks v6.Locks v6.Ghosts v6.Floors v6.Trace)
def M7(n:Nat)(a0:Sys)(a1:Int):Option ((Ap×Int×Unit)×Unit):=(CV n a0).bind fun r1=>cond (!r1.1) (cond (decide (0<a1)) (some (((AB (⟨0,0,[],[],[],[],0,0,[]⟩:Sys)),0,()),())) ((Dl n a0).bind fun r2=>some (((AB (AA r2.1)),0,()),()))) ((Dl n a0).bind fun r3=>JG n n a1 (⟨0,0,[],[],[],[],0,0,[]⟩:Sys) (AA r3.1) 0 (fun w9 w10 w11 w12 w13 w14 w15 w16 w17 w18 w19 w20 w21 w22=>some (((AB (⟨w10,w11,w18,w19,w20,w21,w12,w13,w22⟩:Sys)),w9,()),())) (fun w23 w24 w25 w26 w27 w28 w29 w30 w31=>some (((AB (⟨w23,w24,w27,w28,w29,w30,w25,w26,w31⟩:Sys)),(if a1>0 then a1 else 0),()),())))
def iL(n:Nat):Rw:=⟨59,pV [Aq,.int],q83,fun x=>M7 n (AS x.1) x.2.1⟩
def pr(n:Nat):LS:=AN ⟨7,[1,4,6,7],[(.c 12 2,13,.task),(.c 12 3,14,.lock),(.c 12 4,15,.ghost),(.c 12 5,16,.int),(.c 12 8,17,.turn)],([18,19,20,21,22,23]),[1,4,5,6],([1,2,3,4,5,6,12,13,14,15,16,17])⟩ 38 [1,4,6,7] 413333344444111111333333 (pD [.int,.ptr 1 0,.ptr 12 0,.int]) [q45,Lz,.root .task,.root .lock,.root .ghost,.root .int,.root .turn] (fun m x k=>JG n m x.1.1 (⟨x.2.1.1,x.2.1.2.1,[],[],[],[],x.2.1.2.2.2.2.2.2.1,x.2.1.2.2.2.2.2.2.2.1,[]⟩:Sys) (⟨x.2.2.1.1,x.2.2.1.2.1,x.2.2.2.1,x.2.2.2.2.1,x.2.2.2.2.2.1,x.2.2.2.2.2.2.1,x.2.2.1.2.2.2.2.2.2.1,x.2.2.1.2.2.2.2.2.2.2.1,x.2.2.2.2.2.2.2.1⟩:Sys) x.1.2.2.2.1 (fun w0 w1 w2 w3 w4 w5 w6 w7 w8 w9 w10 w11 w12 w13=>k .ret (eS 38 [1,4,5,6] [.int x.1.1,.ptr 1 0,.int w0,.ptr 12 0] 413333344444111111444444 [.box [.int w1,.int w2,.bor 13,.bor 14,.bor 15,.bor 16,.int w3,.int w4,.bor 17],.box [.int w5,.int w6,.bor 13,.bor 14,.bor 15,.bor 16,.int w7,.int w8,.bor 17],.root .task w9 .ok,.root .lock w10 .ok,.root .ghost w11 .ok,.root .int w12 .ok,.root .turn w13 .ok])) (fun w0 w1 w2 w3 w4 w5 w6 w7 w8=>k (.exit 0) (eS 38 [1,4,6] [.int x.1.1,.ptr 1 0,.ptr 12 0] 413333344444111111444444 [DE.make q45 x.2.1,.box [.int w0,.int w1,.bor 13,.bor 14,.bor 15,.bor 16,.int w2,.int w3,.bor 17],.root .task w4 .ok,.root .lock w5 .ok,.root .ghost w6 .ok,.root .int w7 .ok,.root .turn w8 .ok])))
theorem iM(n:Nat):RO (iL n):=
 rL ⟨Go.Proofs.Tryz.f59,⟨[(0,[(0,.slot 0 .int),(1,.slot 1 .int)]),(1,[(1,cl 1 .bool 0)]),(4,[(1,q43)]),(5,[(1,(.call [.ro] (.agg q39) [] [some 7,some 8,some 9,some 10,some 11])),(2,.slot 12 .int)]),(9,[(1,(.call [.ro] (.tup q53) [] [some 18,some 19,some 20,some 21,some 22])),(5,.slot 23 .int)])],[],[]⟩,24⟩ [pr n] n (ec (C4 n) (ec (L6 n) (ec (iJ n) en))) Go.Proofs.Tryz.func59 (by kernel_rfl) ⟨AO (fun m x k=>by kernel_rfl) (fun _ _=>rfl),trivial⟩ (fun x=>by kernel_rfl)
def NM(n:Nat)(a0:Sys)(a1:Int):Option ((Ap×Int×Unit)×Unit):=(BA a1 1 50).bind fun r1=>cond (!r1.1) ((Dl n a0).bind fun r2=>some (((AB (AA r2.1)),1,()),())) ((M7 n a0 a1).bind fun r3=>cond (decide (r3.1.2.1<a1)) ((Dl n a0).bind fun r4=>some (((AB (AA r4.1)),4,()),())) (some (((AB (AA r3.1.1)),0,()),())))
def jd(n:Nat):Rw:=⟨158,pV [Aq,.int],q83,fun x=>NM n (AS x.1) x.2.1⟩
theorem je(n:Nat):RO (jd n):=
 rE ⟨Go.Proofs.Tryz.f158,⟨[(0,[(0,.slot 0 .int),(1,.slot 1 .int)]),(1,[(1,cl 3 .bool 0)]),(2,[(1,q43)]),(3,[(2,(.call [.ro,.ro] (.tup q82) [] [some 7,some 8,some 9,some 10,some 11])),(6,.slot 12 .int)]),(5,[(1,(.call [.ro] (.agg q39) [] [some 13,some 14,some 15,some 16,some 17]))])],[],[]⟩,18⟩ n (ec CI (ec (L6 n) (ec (iM n) en))) Go.Proofs.Tryz.func158 (by kernel_rfl) (fun x=>by kernel_rfl)
def NF(n:Nat)(a0:Sys)(a1:Call):Option ((Ap×Int×Unit)×Unit):=cond (decide (a1.Kind=11)) ((NM n a0 a1.A).bind fun r1=>some (((AB (AA r1.1.1)),r1.1.2.1,()),())) ((Dl n a0).bind fun r2=>(BA a1.Kind 1 3).bind fun r3=>cond r3.1 ((NA n (AA r2.1) a1).bind fun r4=>cond (!(decide (r4.1=0))) ((Dl n a0).bind fun r5=>some (((AB (AA r5.1)),r4.1,()),())) (some (((AB (AA r4.2.1)),0,()),()))) ((Bu n a0.Tasks a1.No).bind fun r6=>cond (decide (0≤r6.1)) ((NB n (AA r2.1) a1 r6.1).bind fun r7=>cond (!(decide (r7.1=0))) ((Dl n a0).bind fun r8=>some (((AB (AA r8.1)),r7.1,()),())) (some (((AB (AA r7.2.1)),0,()),()))) ((Dl n a0).bind fun r9=>some (((AB (AA r9.1)),2,()),()))))
def i6(n:Nat):Rw:=⟨92,pV [Aq,Ca],q83,fun x=>NF n (AS x.1) (Ar x.2.1)⟩
theorem i7(n:Nat):RO (i6 n):=
 rE ⟨Go.Proofs.Tryz.f92,⟨[(0,[(0,.slot 0 .int),(1,.slot 1 .int),(2,.slot 2 .int)]),(2,[(3,(.call [.ro,.ro] (.tup q82) [] [some 3,some 4,some 5,some 6,some 7]))]),(3,[(1,(.call [.ro] (.agg q39) [] [some 8,some 9,some 10,some 11,some 12])),(2,.slot 13 .int)]),(5,[(2,cl 3 .bool 0)]),(6,[(1,(.call [.mv,.ro] .int [.box q39] [some 14,some 15,some 16,some 17,some 18]))]),(7,[(4,cl 2 .int 0)]),(9,[(2,(.call [.mv,.ro,.ro] .int [.box q39] [some 24,some 25,some 26,some 27,some 28]))]),(11,[(1,(.call [.ro] (.agg q39) [] [some 19,some 20,some 21,some 22,some 23]))])],[],[]⟩,29⟩ n (ec (je n) (ec (L6 n) (ec CI (ec (iU n) (ec (DM n) (ec (iY n) en)))))) Go.Proofs.Tryz.func92 (by kernel_rfl) (fun x=>by kernel_rfl)
def D2(n:Nat)(a0:Sys)(a1:Call):Option ((Ap×Int×Unit)×Unit):=(CV n a0).bind fun r1=>cond (!r1.1) (some (((AB (⟨0,0,[],[],[],[],0,0,[]⟩:Sys)),1,()),())) ((Kb a1).bind fun r2=>cond (!r2.1) (some (((AB (⟨0,0,[],[],[],[],0,0,[]⟩:Sys)),1,()),())) ((NF n a0 a1).bind fun r3=>some (((AB (AA r3.1.1)),r3.1.2.1,()),())))
def hO(n:Nat):Rw:=⟨18,pV [Aq,Ca],q67,fun x=>D2 n (AS x.1) (Ar x.2.1)⟩
theorem L5(n:Nat):RO (hO n):=
 rE ⟨Go.Proofs.Tryz.f18,⟨[(0,[(0,.slot 0 .int),(1,.slot 1 .int),(2,.slot 2 .int)]),(1,[(1,cl 1 .bool 0),(5,cl 1 .bool 0)]),(3,[(2,(cl 2 (.tup q82) 5))])],[],[]⟩,3⟩ n (ec (C4 n) (ec Wv (ec (i7 n) en))) Go.Proofs.Tryz.func18 (by kernel_rfl) (fun x=>by kernel_rfl)
def DX{α:Type}(n:Nat):Nat→Sys→Int→(Option α)→(Option α)→Option α|0,_,_,_,_=>none|m0+1,v5,v6,k0_0,k0_1=>cond (decide (v6<(v5.Tasks.length:Int))) ((Bf n v5).bind fun r7=>cond r7.1 (cond (decide (0≤v6)&&decide (v6<(v5.Tasks.length:Int))) (let e8:=(!(decide ((List.getD v5.Tasks (Int.toNat v6) (Kd.dflt .task)).Class=1)));cond e8 (DX n m0 v5 (w64 (v6+1)) k0_0 k0_1) ((D2 n v5 (⟨6,(List.getD v5.Tasks (Int.toNat v6) (Kd.dflt .task)).No,0,0,0⟩:Call)).bind fun r9=>cond (!(decide (r9.1.2.1=0))) ((GH n v5.Locks ((List.getD v5.Tasks (Int.toNat v6) (Kd.dflt .task)).No)).bind fun r10=>cond (!r10.1) ((Dk n v5.Locks ((List.getD v5.Tasks (Int.toNat v6) (Kd.dflt .task)).No)).bind fun r11=>cond (decide (r11.1<0)) (cond (decide ((v5.Ghosts.length:Int)<12)) k0_0 (DX n m0 v5 (w64 (v6+1)) k0_0 k0_1)) (DX n m0 v5 (w64 (v6+1)) k0_0 k0_1)) (DX n m0 v5 (w64 (v6+1)) k0_0 k0_1)) ((HU n v5 ((List.getD v5.Tasks (Int.toNat v6) (Kd.dflt .task)).Cpu)).bind fun r12=>(HU n (AA r9.1.1) ((List.getD v5.Tasks (Int.toNat v6) (Kd.dflt .task)).Cpu)).bind fun r13=>let e14:=(decide (v5.Now<(List.getD v5.Tasks (Int.toNat v6) (Kd.dflt .task)).Due));cond e14 (let e15:=(!(decide ((r13.1.length:Int)=(r12.1.length:Int))));cond e15 k0_0 (let e16:=(decide ((List.getD v5.Tasks (Int.toNat v6) (Kd.dflt .task)).Due≤v5.Now));cond e16 (let e17:=(!(decide ((r13.1.length:Int)=(w64 ((r12.1.length:Int)-1)))));cond e17 k0_0 ((Bu n ((AA r9.1.1).Tasks) ((List.getD v5.Tasks (Int.toNat v6) (Kd.dflt .task)).No)).bind fun r18=>cond (decide (0≤r18.1)) k0_0 (DX n m0 v5 (w64 (v6+1)) k0_0 k0_1))) ((Bu n ((AA r9.1.1).Tasks) ((List.getD v5.Tasks (Int.toNat v6) (Kd.dflt .task)).No)).bind fun r19=>cond (decide (0≤r19.1)) k0_0 (DX n m0 v5 (w64 (v6+1)) k0_0 k0_1)))) (let e20:=(decide ((List.getD v5.Tasks (Int.toNat v6) (Kd.dflt .task)).Due≤v5.Now));cond e20 (let e21:=(!(decide ((r13.1.length:Int)=(w64 ((r12.1.length:Int)-1)))));cond e21 k0_0 ((Bu n ((AA r9.1.1).Tasks) ((List.getD v5.Tasks (Int.toNat v6) (Kd.dflt .task)).No)).bind fun r22=>cond (decide (0≤r22.1)) k0_0 (DX n m0 v5 (w64 (v6+1)) k0_0 k0_1))) ((Bu n ((AA r9.1.1).Tasks) ((List.getD v5.Tasks (Int.toNat v6) (Kd.dflt .task)).No)).bind fun r23=>cond (decide (0≤r23.1)) k0_0 (DX n m0 v5 (w64 (v6+1)) k0_0 k0_1)))))) none) k0_1) k0_1
def NR(n:Nat)(a0:List Int):Option (Bool×Unit):=(Dm a0).bind fun r1=>cond r1.1 (some (true,())) ((GP n a0).bind fun r2=>(CV n (AA r2.1.1)).bind fun r3=>(Bf n (AA r2.1.1)).bind fun r4=>cond (!(r3.1==r4.1)) (some (false,())) (DX n n (AA r2.1.1) 0 (some (false,())) (some (true,()))))
def jp(n:Nat):Rw:=⟨3,pV [.rog .u8],pS [.bool],fun x=>NR n x.1⟩
def qF(n:Nat):LS:=AN ⟨7,[3,5],[],[2,3],[2],[]⟩ 113 [3,5] 1433 (pD [.ptr 0 0,.int]) [q68] (fun m x k=>DX n m (AA x.2.1) x.1.2.1 (k .ret (eS 113 [2] [.bool false] 4444 [])) (k (.exit 0) (eS 113 [] [] 4444 [])))
theorem jq(n:Nat):RO (jp n):=
 rL ⟨Go.Proofs.Tryz.f3,⟨[(1,[(1,cl 1 .bool 0)]),(3,[(1,L3),(5,.slot 0 .int),(6,.slot 1 .int)]),(4,[(1,cl 1 .bool 0),(3,cl 1 .bool 0)]),(7,[(7,cl 1 .bool 0)]),(9,[(5,.slot 2 .int)]),(11,[(4,C3),(8,.slot 3 .int)]),(13,[(4,cl 2 .bool 0),(11,cl 2 .int 0)]),(15,[(3,q22)]),(16,[(3,q22)]),(17,[(28,cl 2 .int 0)])],[(4,dr 5 [(0,[0],[]),(2,[0],[])])],[]⟩,4⟩ [qF n] n (ec FM (ec (L9 n) (ec (C4 n) (ec (CY n) (ec (L5 n) (ec (Ry n) (ec (G6 n) (ec (R2 n) (ec (DM n) en))))))))) Go.Proofs.Tryz.func3 (by kernel_rfl) ⟨AO (fun m x k=>by kernel_rfl) (fun _ _=>rfl),trivial⟩ (fun x=>by kernel_rfl)
def Hw{α:Type}(n:Nat):Nat→Sys→Int→Lock→Int→(Option α)→(Option α)→Option α|0,_,_,_,_,_,_=>none|m1+1,v8,v9,v10,v11,k1_0,k1_1=>cond (decide (v11<(v10.Waits.length:Int))) (cond (decide (0≤v11)&&decide (v11<(v10.Waits.length:Int))) ((GD n v8.Tasks v8.Locks (List.getD v10.Waits (Int.toNat v11) (Kd.dflt .int))).bind fun r12=>cond (decide (0≤v11)&&decide (v11<(v10.Waits.length:Int))) (let e13:=(decide (r12.1=(List.getD v10.Waits (Int.toNat v11) (Kd.dflt .int))));cond e13 k1_0 ((GD n v8.Tasks v8.Locks v10.Owner).bind fun r14=>cond (!(decide (r12.1=r14.1))) k1_0 (Hw n m1 v8 v9 v10 (w64 (v11+1)) k1_0 k1_1))) none) none) k1_1
def Gh{α:Type}(n:Nat):Nat→Sys→Int→(Option α)→(Option α)→Option α|0,_,_,_,_=>none|m0+1,v6,v7,k0_0,k0_1=>cond (decide (v7<(v6.Locks.length:Int))) (cond (decide (0≤v7)&&decide (v7<(v6.Locks.length:Int))) (Hw n n v6 v7 (List.getD v6.Locks (Int.toNat v7) (Kd.dflt .lock)) 0 k0_0 (let e15:=(decide ((List.getD v6.Locks (Int.toNat v7) (Kd.dflt .lock)).Owner=0));cond e15 (Gh n m0 v6 (w64 (v7+1)) k0_0 k0_1) ((D2 n v6 (⟨8,(List.getD v6.Locks (Int.toNat v7) (Kd.dflt .lock)).Owner,0,v7,0⟩:Call)).bind fun r16=>(Hc n v6 (⟨8,(List.getD v6.Locks (Int.toNat v7) (Kd.dflt .lock)).Owner,0,v7,0⟩:Call)).bind fun r17=>cond (!(decide (r16.1.2.1=r17.1.2.1))) k0_0 (cond (decide (r16.1.2.1=0)) (cond ((decide (0≤v7))&&(decide (v7<(((AA r16.1.1).Locks).length:Int)))) (let e18:=(List.getD (AA r16.1.1).Locks (Int.toNat v7) (Kd.dflt .lock)).Owner;(Ka n v6.Tasks ((List.getD v6.Locks (Int.toNat v7) (Kd.dflt .lock)).Waits)).bind fun r19=>cond (!(decide (e18=r19.1))) k0_0 (Gh n m0 v6 (w64 (v7+1)) k0_0 k0_1)) none) (Gh n m0 v6 (w64 (v7+1)) k0_0 k0_1))))) none) k0_1
def NU(n:Nat)(a0:List Int):Option (Bool×Unit):=(Dm a0).bind fun r1=>cond r1.1 (some (true,())) ((GP n a0).bind fun r2=>(CV n (AA r2.1.1)).bind fun r3=>(Bf n (AA r2.1.1)).bind fun r4=>cond (!(r3.1==r4.1)) (some (false,())) ((Bf n (AA r2.1.1)).bind fun r5=>cond (!r5.1) (some (true,())) (Gh n n (AA r2.1.1) 0 (some (false,())) (some (true,())))))
def jv(n:Nat):Rw:=⟨4,pV [.rog .u8],pS [.bool],fun x=>NU n x.1⟩
def qG(n:Nat):LS:=AN ⟨9,[3,5],[],[2,3,4],[2],[]⟩ 117 [3,5] 14333 (pD [.ptr 0 0,.int]) [q68] (fun m x k=>Gh n m (AA x.2.1) x.1.2.1 (k .ret (eS 117 [2] [.bool false] 44444 [])) (k (.exit 0) (eS 117 [] [] 44444 [])))
def qH(n:Nat):LS:=AN ⟨13,[3,5,6,7],[],[],[2,3,5,6],[0,2,3,4]⟩ 117 [3,5,6,7] 14133 (pD [.ptr 0 0,.int,.ptr 2 0,.int]) [q68,.box (pD [.int,.rog .int])] (fun m x k=>Hw n m (AA x.2.1) x.1.2.1 (Ty x.2.2.1) x.1.2.2.2.1 (k .ret (eS 117 [2,3,5,6] [.bool false,.ptr 0 0,.int x.1.2.1,.ptr 2 0] 14133 [DE.make q68 x.2.1,.box [.int x.2.2.1.1,.ro true .int x.2.2.1.2.1]])) (k (.exit 2) (eS 117 [3,5,6] [.ptr 0 0,.int x.1.2.1,.ptr 2 0] 14133 [DE.make q68 x.2.1,.box [.int x.2.2.1.1,.ro true .int x.2.2.1.2.1]])))
theorem jw(n:Nat):RO (jv n):=
 rL ⟨Go.Proofs.Tryz.f4,⟨[(1,[(1,cl 1 .bool 0)]),(3,[(1,L3),(5,.slot 0 .int),(6,.slot 1 .int)]),(4,[(1,cl 1 .bool 0),(3,cl 1 .bool 0)]),(6,[(1,cl 1 .bool 0)]),(11,[(5,.slot 2 .int)]),(15,[(9,cl 3 .int 0)]),(16,[(15,cl 3 .int 0)]),(19,[(5,C3),(9,.slot 3 .int)]),(20,[(5,C3),(9,.slot 4 .int)]),(21,[(17,cl 2 .int 0)])],[(4,dr 5 [(0,[0],[]),(2,[0],[])]),(15,dr 11 [(0,[0],[]),(1,[0],[]),(2,[0],[]),(3,[0],[]),(4,[2],[]),(5,[2],[])]),(21,dr 21 [(7,[3],[]),(8,[3],[]),(13,[0],[]),(14,[0],[]),(15,[2],[]),(16,[2],[])])],[]⟩,5⟩ [qG n,qH n] n (ec FM (ec (L9 n) (ec (C4 n) (ec (CY n) (ec (Rv n) (ec (L5 n) (ec (PD n) (ec (Wu n) en)))))))) Go.Proofs.Tryz.func4 (by kernel_rfl) ⟨AO (fun m x k=>by kernel_rfl) (fun _ _=>rfl),AO (fun m x k=>by kernel_rfl) (fun _ _=>rfl),trivial⟩ (fun x=>by kernel_rfl)
def Ns(n:Nat)(a0:List Int):Option ((Ap×Int×Unit)×Unit):=(Es n a0).bind fun r1=>(EQ n (AD r1.1) a0).bind fun r2=>(AU (AD r2.2.1) 5).bind fun r3=>some (((AB (AA r2.1)),(w64 (r3.1-1)),()),())
def mA(n:Nat):Rw:=⟨26,pV [.rog .u8],q67,fun x=>Ns n x.1⟩
theorem mB(n:Nat):RO (mA n):=
 rE ⟨Go.Proofs.Tryz.f26,⟨[(0,[(0,.slot 0 .int)]),(1,[(1,J0)]),(2,[(2,Jz),(3,.slot 2 .int)]),(3,[(2,q3)])],[(3,dr 6 [(0,[2],[]),(2,[1],[1]),(4,[0],[0])])],[]⟩,3⟩ n (ec (IH n) (ec (J4 n) (ec Ct en))) Go.Proofs.Tryz.func26 (by kernel_rfl) (fun x=>by kernel_rfl)
end Go.Proofs.YthoholbeacojfaaGreat.VR
end
section
set_option linter.unusedVariables false
set_option maxRecDepth 100000
namespace Go.Proofs.YthoholbeacojfaaGreat.VR
open Go
def OE(n:Nat)(a0:Sys)(a1:Int):Option (List Share×Unit):=(LY n a0 a1).bind fun r1=>some (r1.1,())
def nJ(n:Nat):Rw:=⟨27,pV [Aq,.int],(pS [.ro .share]),fun x=>OE n (AS x.1) x.2.1⟩
theorem nK(n:Nat):RO (nJ n):=
 rE ⟨Go.Proofs.Tryz.f27,⟨[(0,[(0,.slot 0 .int)]),(1,[(2,q22)])],[],[]⟩,1⟩ n (ec (Xs n) en) Go.Proofs.Tryz.func27 (by kernel_rfl) (fun x=>by kernel_rfl)
def Fm{α:Type}(n:Nat):Nat→Sys→Int→List Share→Int→Int→(Int→Option α)→(Int→Option α)→Option α|0,_,_,_,_,_,_,_=>none|m0+1,v7,v8,v9,v10,v11,k0_0,k0_1=>cond (decide (v11<(v7.Tasks.length:Int))) (cond (decide (0≤v11)&&decide (v11<(v7.Tasks.length:Int))) (let e12:=(decide ((List.getD v7.Tasks (Int.toNat v11) (Kd.dflt .task)).Class=1));cond e12 (let e13:=(decide ((List.getD v7.Tasks (Int.toNat v11) (Kd.dflt .task)).Cpu=v8));cond e13 (cond (decide ((v9.length:Int)≤v10)) (k0_0 v10) (cond (decide (0≤v10)&&decide (v10<(v9.length:Int))) (let e14:=(!((decide ((List.getD v9 (Int.toNat v10) (Kd.dflt .share)).Q=(List.getD v7.Tasks (Int.toNat v11) (Kd.dflt .task)).Q))&&((decide ((List.getD v9 (Int.toNat v10) (Kd.dflt .share)).P=(List.getD v7.Tasks (Int.toNat v11) (Kd.dflt .task)).P))&&true)));cond e14 (k0_0 v10) (Fm n m0 v7 v8 v9 (w64 (v10+1)) (w64 (v11+1)) k0_0 k0_1)) none)) (Fm n m0 v7 v8 v9 v10 (w64 (v11+1)) k0_0 k0_1)) (Fm n m0 v7 v8 v9 v10 (w64 (v11+1)) k0_0 k0_1)) none) (k0_1 v10)
def Gg{α:Type}(n:Nat):Nat→Sys→Int→List Share→Int→Int→(Int→Option α)→(Int→Option α)→Option α|0,_,_,_,_,_,_,_=>none|m1+1,v17,v18,v19,v20,v21,k1_0,k1_1=>cond (decide (v21<(v17.Ghosts.length:Int))) (cond (decide (0≤v21)&&decide (v21<(v17.Ghosts.length:Int))) (let e22:=(decide ((List.getD v17.Ghosts (Int.toNat v21) (Kd.dflt .ghost)).Cpu=v18));cond e22 (cond (decide ((v19.length:Int)≤v20)) (k1_0 v20) (cond (decide (0≤v20)&&decide (v20<(v19.length:Int))) (cond (decide (0≤v21)&&decide (v21<(v17.Ghosts.length:Int))) (let e23:=(!((decide ((List.getD v19 (Int.toNat v20) (Kd.dflt .share)).Q=(List.getD v17.Ghosts (Int.toNat v21) (Kd.dflt .ghost)).S.Q))&&((decide ((List.getD v19 (Int.toNat v20) (Kd.dflt .share)).P=(List.getD v17.Ghosts (Int.toNat v21) (Kd.dflt .ghost)).S.P))&&true)));cond e23 (k1_0 v20) (Gg n m1 v17 v18 v19 (w64 (v20+1)) (w64 (v21+1)) k1_0 k1_1)) none) none)) (Gg n m1 v17 v18 v19 v20 (w64 (v21+1)) k1_0 k1_1)) none) (k1_1 v20)
def NQ(n:Nat)(a0:List Int):Option (Bool×Unit):=(Dm a0).bind fun r1=>cond r1.1 (some (true,())) ((Ns n a0).bind fun r2=>(HU n (AA r2.1.1) r2.1.2.1).bind fun r3=>(OE n (AA r2.1.1) r2.1.2.1).bind fun r4=>cond (!(decide ((r3.1.length:Int)=(r4.1.length:Int)))) (some (false,())) ((CV n (AA r2.1.1)).bind fun r5=>(Bf n (AA r2.1.1)).bind fun r6=>cond (!(r5.1==r6.1)) (some (false,())) (Fm n n (AA r2.1.1) r2.1.2.1 r3.1 0 0 (fun w15=>some (false,())) (fun w16=>Gg n n (AA r2.1.1) r2.1.2.1 r3.1 w16 0 (fun w24=>some (false,())) (fun w25=>cond (decide (w25=(r3.1.length:Int))) ((Bf n (AA r2.1.1)).bind fun r26=>cond (!r26.1) (some (true,())) (cond (decide (r2.1.2.1<0)) (some (true,())) (cond (decide ((AA r2.1.1).Cpus≤r2.1.2.1)) (some (true,())) ((Iq n r3.1).bind fun r27=>some (r27.1,()))))) (some (false,())))))))
def jn(n:Nat):Rw:=⟨5,pV [.rog .u8],pS [.bool],fun x=>NQ n x.1⟩
def qD(n:Nat):LS:=AN ⟨10,([3,4,5,7,8]),[],[1],Wm,[0]⟩ 132 [3,4,5,7,8] 13 (pD [.ptr 0 0,.int,.rog .share,.int,.int]) [q68] (fun m x k=>Fm n m (AA x.2.1) x.1.2.1 x.1.2.2.1 x.1.2.2.2.1 x.1.2.2.2.2.1 (fun w0=>k .ret (eS 132 [2,3,4,5,7] [.bool false,.ptr 0 0,.int x.1.2.1,.ro true .share x.1.2.2.1,.int w0] 14 [DE.make q68 x.2.1])) (fun w0=>k (.exit 0) (eS 132 [3,4,5,7] [.ptr 0 0,.int x.1.2.1,.ro true .share x.1.2.2.1,.int w0] 14 [DE.make q68 x.2.1])))
def qE(n:Nat):LS:=AN ⟨18,([3,4,5,7,10]),[],[],Wm,[0]⟩ 132 [3,4,5,7,10] 14 (pD [.ptr 0 0,.int,.rog .share,.int,.int]) [q68] (fun m x k=>Gg n m (AA x.2.1) x.1.2.1 x.1.2.2.1 x.1.2.2.2.1 x.1.2.2.2.2.1 (fun w0=>k .ret (eS 132 [2,3,4,5,7] [.bool false,.ptr 0 0,.int x.1.2.1,.ro true .share x.1.2.2.1,.int w0] 14 [DE.make q68 x.2.1])) (fun w0=>k (.exit 2) (eS 132 [3,4,5,7] [.ptr 0 0,.int x.1.2.1,.ro true .share x.1.2.2.1,.int w0] 14 [DE.make q68 x.2.1])))
theorem jo(n:Nat):RO (jn n):=
 rL ⟨Go.Proofs.Tryz.f5,⟨[(1,[(1,cl 1 .bool 0)]),(3,[(1,O4),(5,.slot 0 .int)]),(4,[(2,q22)]),(5,[(2,(cl 2 (.ro .share) 0))]),(6,[(7,cl 1 .bool 0),(9,cl 1 .bool 0)]),(12,[(5,.slot 1 .int)]),(24,[(6,cl 1 .bool 0),(20,cl 1 .bool 0)])],[(6,dr 12 [(6,[0],[]),(8,[0],[])]),(14,dr 16 [(9,[1],[]),(10,[1],[]),(11,[1],[]),(12,[1],[])]),(21,dr 17 [(9,[0],[]),(10,[0],[])])],[]⟩,2⟩ [qD n,qE n] n (ec FM (ec (mB n) (ec (R2 n) (ec (nK n) (ec (C4 n) (ec (CY n) (ec (Rx n) en))))))) Go.Proofs.Tryz.func5 (by kernel_rfl) ⟨AO (fun m x k=>by kernel_rfl) (fun _ _=>rfl),AO (fun m x k=>by kernel_rfl) (fun _ _=>rfl),trivial⟩ (fun x=>by kernel_rfl)
def Nt(n:Nat)(a0:List Int):Option ((Ap×Int×Unit)×Unit):=(Es n a0).bind fun r1=>(EQ n (AD r1.1) a0).bind fun r2=>(LM (AD r2.2.1) (AA r2.1)).bind fun r3=>some (((AB (AA r2.1)),r3.1,()),())
def mC(n:Nat):Rw:=⟨29,pV [.rog .u8],q67,fun x=>Nt n x.1⟩
theorem mD(n:Nat):RO (mC n):=
 rE ⟨Go.Proofs.Tryz.f29,⟨[(0,[(0,.slot 0 .int)]),(1,[(1,J0)]),(2,[(2,Jz),(3,.slot 2 .int)]),(3,[(3,q3)])],[(3,dr 6 [(0,[2],[]),(2,[2],[]),(3,[1],[1]),(4,[0],[0])])],[]⟩,3⟩ n (ec (IH n) (ec (J4 n) (ec Xf en))) Go.Proofs.Tryz.func29 (by kernel_rfl) (fun x=>by kernel_rfl)
def M3(n:Nat)(a0:Sys)(a1:Int):Option ((Int×Bool×Unit)×Unit):=(Bu n a0.Tasks a1).bind fun r1=>(CV n a0).bind fun r2=>cond (!r2.1) (some ((0,false,()),())) (cond (decide (r1.1<0)) (some ((0,false,()),())) (cond (decide (0≤r1.1)&&decide (r1.1<(a0.Tasks.length:Int))) (let e3:=(!(decide ((List.getD a0.Tasks (Int.toNat r1.1) (Kd.dflt .task)).Class=1)));cond e3 (some ((0,false,()),())) (cond (decide (0≤r1.1)&&decide (r1.1<(a0.Tasks.length:Int))) (cond (decide (0≤r1.1)&&decide (r1.1<(a0.Tasks.length:Int))) (let e4:=(w64 ((List.getD a0.Tasks (Int.toNat r1.1) (Kd.dflt .task)).Due-a0.Now));let e5:=(w64 ((List.getD a0.Tasks (Int.toNat r1.1) (Kd.dflt .task)).Left-e4));some ((e5,true,()),())) none) none)) none))
def gw(n:Nat):Rw:=⟨30,pV [Aq,.int],Wo,fun x=>M3 n (AS x.1) x.2.1⟩
theorem gx(n:Nat):RO (gw n):=
 rE ⟨Go.Proofs.Tryz.f30,⟨[(0,[(0,.slot 0 .int)]),(1,[(3,cl 2 .int 0)]),(2,[(1,cl 1 .bool 0)])],[(4,dr 18 [(0,[0],[]),(1,[0],[]),(6,[0],[]),(7,[0],[]),(12,[0],[]),(13,[0],[])])],[]⟩,1⟩ n (ec (DM n) (ec (C4 n) en)) Go.Proofs.Tryz.func30 (by kernel_rfl) (fun x=>by kernel_rfl)
def OF(n:Nat)(a0:Sys)(a1:Int):Option ((Int×Bool×Unit)×Unit):=(Cm n a0.Tasks a1).bind fun r1=>(Bf n a0).bind fun r2=>cond (!r2.1) (some ((0,false,()),())) (cond (decide (r1.1<0)) (some ((0,false,()),())) (cond (decide (0≤r1.1)&&decide (r1.1<(a0.Tasks.length:Int))) (let e3:=(!(decide ((List.getD a0.Tasks (Int.toNat r1.1) (Kd.dflt .task)).Class=1)));cond e3 (some ((0,false,()),())) (cond (decide (0≤r1.1)&&decide (r1.1<(a0.Tasks.length:Int))) (let e4:=(w64 ((List.getD a0.Tasks (Int.toNat r1.1) (Kd.dflt .task)).Due-a0.Now));let e5:=(w64 ((List.getD a0.Tasks (Int.toNat r1.1) (Kd.dflt .task)).Left-e4));some ((e5,true,()),())) none)) none))
def nL(n:Nat):Rw:=⟨31,pV [Aq,.int],Wo,fun x=>OF n (AS x.1) x.2.1⟩
theorem nM(n:Nat):RO (nL n):=
 rE ⟨Go.Proofs.Tryz.f31,⟨[(0,[(0,.slot 0 .int)]),(1,[(3,cl 2 .int 0)]),(2,[(1,cl 1 .bool 0)]),(4,[(5,.slot 1 .int)])],[],[]⟩,2⟩ n (ec (Fw n) (ec (CY n) en)) Go.Proofs.Tryz.func31 (by kernel_rfl) (fun x=>by kernel_rfl)
def Nu(n:Nat)(a0:List Int):Option ((Ap×Int×Unit)×Unit):=(Es n a0).bind fun r1=>(EQ n (AD r1.1) a0).bind fun r2=>(AU (AD r2.2.1) 5).bind fun r3=>some (((AB (AA r2.1)),(w64 (r3.1-1)),()),())
def mE(n:Nat):Rw:=⟨32,pV [.rog .u8],q67,fun x=>Nu n x.1⟩
theorem mF(n:Nat):RO (mE n):=
 rE ⟨Go.Proofs.Tryz.f32,⟨[(0,[(0,.slot 0 .int)]),(1,[(1,J0)]),(2,[(2,Jz),(3,.slot 2 .int)]),(3,[(2,q3)])],[(3,dr 6 [(0,[2],[]),(2,[1],[1]),(4,[0],[0])])],[]⟩,3⟩ n (ec (IH n) (ec (J4 n) (ec Ct en))) Go.Proofs.Tryz.func32 (by kernel_rfl) (fun x=>by kernel_rfl)
def Mp(n:Nat)(a0:List Task):Option (Int×Unit):=(Kx n a0).bind fun r1=>some ((w64 (r1.1.2.1-r1.1.1)),())
def gA(n:Nat):Rw:=⟨107,pV [.ro .task],pS [.int],fun x=>Mp n x.1.2⟩
theorem gB(n:Nat):RO (gA n):=
 rE ⟨Go.Proofs.Tryz.f107,⟨[(1,[(1,q21)])],[],[]⟩,0⟩ n (ec (XD n) en) Go.Proofs.Tryz.func107 (by kernel_rfl) (fun x=>by kernel_rfl)
def Ko(n:Nat)(a0:Sys)(a1:Int):Option (Int×Unit):=(CV n a0).bind fun r1=>cond (!r1.1) (some (0,())) ((It n a0 a1).bind fun r2=>(Mp n r2.1).bind fun r3=>some (r3.1,()))
def gy(n:Nat):Rw:=⟨33,pV [Aq,.int],pS [.int],fun x=>Ko n (AS x.1) x.2.1⟩
theorem gz(n:Nat):RO (gy n):=
 rE ⟨Go.Proofs.Tryz.f33,⟨[(0,[(0,.slot 0 .int)]),(1,[(1,cl 1 .bool 0)]),(3,[(2,Ru),(3,cl 1 .int 0)])],[],[]⟩,1⟩ n (ec (C4 n) (ec (R3 n) (ec (gB n) en))) Go.Proofs.Tryz.func33 (by kernel_rfl) (fun x=>by kernel_rfl)
def Fp{α:Type}(n:Nat):Nat→List Task→Int→Int→Int→(Int→Int→Option α)→Option α|0,_,_,_,_,_=>none|m0+1,v1,v2,v3,v4,k0_0=>cond (decide (v4<(v1.length:Int))) (cond (decide (0≤v4)&&decide (v4<(v1.length:Int))) ((ES (List.getD v1 (Int.toNat v4) (Kd.dflt .task))).bind fun r5=>cond (!r5.1) (Fp n m0 v1 v2 v3 (w64 (v4+1)) k0_0) (cond (decide (v2<0)) (cond (decide (0≤v4)&&decide (v4<(v1.length:Int))) (cond (decide (0≤v4)&&decide (v4<(v1.length:Int))) ((C7 v3 ((List.getD v1 (Int.toNat v4) (Kd.dflt .task)).V)).bind fun r6=>Fp n m0 v1 ((List.getD v1 (Int.toNat v4) (Kd.dflt .task)).V) r6.1 (w64 (v4+1)) k0_0) none) none) (cond (decide (0≤v4)&&decide (v4<(v1.length:Int))) (let e7:=(decide ((List.getD v1 (Int.toNat v4) (Kd.dflt .task)).V<v2));cond e7 (cond (decide (0≤v4)&&decide (v4<(v1.length:Int))) (cond (decide (0≤v4)&&decide (v4<(v1.length:Int))) ((C7 v3 ((List.getD v1 (Int.toNat v4) (Kd.dflt .task)).V)).bind fun r8=>Fp n m0 v1 ((List.getD v1 (Int.toNat v4) (Kd.dflt .task)).V) r8.1 (w64 (v4+1)) k0_0) none) none) (cond (decide (0≤v4)&&decide (v4<(v1.length:Int))) ((C7 v3 ((List.getD v1 (Int.toNat v4) (Kd.dflt .task)).V)).bind fun r9=>Fp n m0 v1 v2 r9.1 (w64 (v4+1)) k0_0) none)) none))) none) (k0_0 v2 v3)
def N0(n:Nat)(a0:List Task):Option (Int×Unit):=Fp n n a0 (-1) (-1) 0 (fun w10 w11=>some ((w64 (w11-w10)),()))
def mX(n:Nat):Rw:=⟨109,pV [.ro .task],pS [.int],fun x=>N0 n x.1.2⟩
def qe(n:Nat):LS:=AN ⟨3,[0,3,4,5],[],[],[3,4],[]⟩ 44 [0,3,4,5] 0 (pD [.ro .task,.int,.int,.int]) [] (fun m x k=>Fp n m x.1.1.2 x.1.2.1 x.1.2.2.1 x.1.2.2.2.1 (fun w0 w1=>k (.exit 0) (eS 44 [3,4] [.int w0,.int w1] 0 [])))
theorem mY(n:Nat):RO (mX n):=
 rL ⟨Go.Proofs.Tryz.f109,⟨[(5,[(4,cl 1 .bool 0)]),(8,[(6,cl 2 .int 0)])],[],[]⟩,0⟩ [qe n] n (ec J6 (ec IG en)) Go.Proofs.Tryz.func109 (by kernel_rfl) ⟨AO (fun m x k=>by kernel_rfl) (fun _ _=>rfl),trivial⟩ (fun x=>by kernel_rfl)
def OG(n:Nat)(a0:Sys)(a1:Int):Option (Int×Unit):=(Bf n a0).bind fun r1=>cond (!r1.1) (some (0,())) ((I0 n a0 a1).bind fun r2=>(N0 n r2.1).bind fun r3=>some (r3.1,()))
def nN(n:Nat):Rw:=⟨34,pV [Aq,.int],pS [.int],fun x=>OG n (AS x.1) x.2.1⟩
theorem nO(n:Nat):RO (nN n):=
 rE ⟨Go.Proofs.Tryz.f34,⟨[(0,[(0,.slot 0 .int)]),(1,[(1,cl 1 .bool 0)]),(3,[(2,q51),(3,cl 1 .int 0)])],[],[]⟩,1⟩ n (ec (CY n) (ec (SE n) (ec (mY n) en))) Go.Proofs.Tryz.func34 (by kernel_rfl) (fun x=>by kernel_rfl)
def NW(n:Nat)(a0:List Int):Option (Bool×Unit):=(Dm a0).bind fun r1=>cond r1.1 (some (true,())) ((Nt n a0).bind fun r2=>(M3 n (AA r2.1.1) r2.1.2.1).bind fun r3=>(OF n (AA r2.1.1) r2.1.2.1).bind fun r4=>cond (!(decide (r3.1.1=r4.1.1))) (some (false,())) (cond (!(r3.1.2.1==r4.1.2.1)) (some (false,())) ((Nu n a0).bind fun r5=>(Ko n (AA r5.1.1) r5.1.2.1).bind fun r6=>(OG n (AA r5.1.1) r5.1.2.1).bind fun r7=>cond (!(decide (r6.1=r7.1))) (some (false,())) ((Ko n (AA r5.1.1) r5.1.2.1).bind fun r8=>cond (decide (r8.1<0)) (some (false,())) (cond (!r3.1.2.1) (some ((decide (r3.1.1=0)),())) ((Bu n ((AA r2.1.1).Tasks) r2.1.2.1).bind fun r9=>cond ((decide (0≤r9.1))&&(decide (r9.1<(((AA r2.1.1).Tasks).length:Int)))) (let e10:=(List.getD (AA r2.1.1).Tasks (Int.toNat r9.1) (Kd.dflt .task)).Class;cond (decide (e10=1)) (let e11:=(List.getD (AA r2.1.1).Tasks (Int.toNat r9.1) (Kd.dflt .task)).Due;let e12:=(List.getD (AA r2.1.1).Tasks (Int.toNat r9.1) (Kd.dflt .task)).Left;let e13:=(decide ((w64 (r3.1.1+e11))=(w64 (e12+(AA r2.1.1).Now))));some (e13,())) (some (false,()))) none))))))
def jz(n:Nat):Rw:=⟨6,pV [.rog .u8],pS [.bool],fun x=>NW n x.1⟩
theorem j3(n:Nat):RO (jz n):=
 rE ⟨Go.Proofs.Tryz.f6,⟨[(1,[(1,cl 1 .bool 0)]),(3,[(1,O4),(5,.slot 0 .int)]),(4,[(2,Wp)]),(5,[(2,Wp)]),(8,[(1,O4),(5,.slot 1 .int)]),(9,[(2,cl 2 .int 0),(5,cl 2 .int 0),(10,cl 2 .int 0)]),(13,[(5,cl 2 .int 0),(8,.slot 2 .int)])],[(9,dr 13 [(0,[1],[]),(3,[1],[]),(8,[1],[])]),(13,dr 10 [(0,[0],[]),(1,[0],[]),(2,[0],[]),(3,[0],[]),(8,[2],[2]),(9,[2],[2])])],[]⟩,3⟩ n (ec FM (ec (mD n) (ec (gx n) (ec (nM n) (ec (mF n) (ec (gz n) (ec (nO n) (ec (DM n) en)))))))) Go.Proofs.Tryz.func6 (by kernel_rfl) (fun x=>by kernel_rfl)
def Lo{α:Type}(n:Nat):Nat→Cur→Sys→Sys→(Cur→List Turn→Option α)→Option α|0,_,_,_,_=>none|m0+1,v13,v14,v15,k0_0=>(AU v13 2).bind fun r16=>cond (decide ((v15.Trace.length:Int)<(w64 (400+r16.1)))) (cond (decide ((v15.Trace).length+(([(⟨0,0,0⟩:Turn)]:List Turn)).length≤lim)) (Lo n m0 (AD r16.2.1) (⟨v14.Now,v14.Cpus,[],[],[],[],v14.Seq,v14.Missed,[]⟩:Sys) (⟨v15.Now,v15.Cpus,v15.Tasks,v15.Locks,v15.Ghosts,v15.Floors,v15.Seq,v15.Missed,(v15.Trace++([(⟨0,0,0⟩:Turn)]:List Turn))⟩:Sys) k0_0) none) (k0_0 (AD r16.2.1) v15.Trace)
def OO(n:Nat)(a0:Cur)(a1:List Int):Option (Ap×B5×Unit):=(LP a1 30 80).bind fun r1=>(LH n a0 r1.1).bind fun r2=>(AU (AD r2.2.1) 40).bind fun r3=>cond (decide (r3.1=0)) ((CL (AD r3.2.1) ([(-1),100000,99999,100001]:List Int)).bind fun r4=>some ((AB (⟨r4.1,(AA r2.1.2.2.1).Cpus,(AA r2.1.2.2.1).Tasks,(AA r2.1.2.2.1).Locks,(AA r2.1.2.2.1).Ghosts,(AA r2.1.2.2.1).Floors,(AA r2.1.2.2.1).Seq,(AA r2.1.2.2.1).Missed,(AA r2.1.2.2.1).Trace⟩:Sys)),(AP (AD r4.2.1)),())) (cond (decide (r3.1=1)) ((LQ n (AD r3.2.1)).bind fun r5=>some ((AB (⟨(AA r2.1.2.2.1).Now,(AA r2.1.2.2.1).Cpus,r5.1,(AA r2.1.2.2.1).Locks,(AA r2.1.2.2.1).Ghosts,(AA r2.1.2.2.1).Floors,(AA r2.1.2.2.1).Seq,(AA r2.1.2.2.1).Missed,(AA r2.1.2.2.1).Trace⟩:Sys)),(AP (AD r5.2.1)),())) (cond (decide (r3.1=2)) ((LU n (AD r3.2.1)).bind fun r6=>some ((AB (⟨(AA r2.1.2.2.1).Now,(AA r2.1.2.2.1).Cpus,(AA r2.1.2.2.1).Tasks,r6.1,(AA r2.1.2.2.1).Ghosts,(AA r2.1.2.2.1).Floors,(AA r2.1.2.2.1).Seq,(AA r2.1.2.2.1).Missed,(AA r2.1.2.2.1).Trace⟩:Sys)),(AP (AD r6.2.1)),())) (cond (decide (r3.1=3)) ((AU (AD r3.2.1) 4).bind fun r7=>(LO (AD r7.2.1)).bind fun r8=>(AU (AD r8.2.1) 40).bind fun r9=>let e10:=([(⟨r7.1,⟨(GC r8.1).Q,(GC r8.1).P⟩,r9.1⟩:Ghost)]:List Ghost);cond (decide (((AA r2.1.2.2.1).Ghosts).length+(e10).length≤lim)) (some ((AB (⟨(AA r2.1.2.2.1).Now,(AA r2.1.2.2.1).Cpus,(AA r2.1.2.2.1).Tasks,(AA r2.1.2.2.1).Locks,((AA r2.1.2.2.1).Ghosts++e10),(AA r2.1.2.2.1).Floors,(AA r2.1.2.2.1).Seq,(AA r2.1.2.2.1).Missed,(AA r2.1.2.2.1).Trace⟩:Sys)),(AP (AD r9.2.1)),())) none) (cond (decide (r3.1=4)) (cond (decide (((AA r2.1.2.2.1).Floors).length+(([0]:List Int)).length≤lim)) (some ((AB (⟨(AA r2.1.2.2.1).Now,(AA r2.1.2.2.1).Cpus,(AA r2.1.2.2.1).Tasks,(AA r2.1.2.2.1).Locks,(AA r2.1.2.2.1).Ghosts,((AA r2.1.2.2.1).Floors++([0]:List Int)),(AA r2.1.2.2.1).Seq,(AA r2.1.2.2.1).Missed,(AA r2.1.2.2.1).Trace⟩:Sys)),(AP (AD r3.2.1)),())) none) (cond (decide (r3.1=5)) ((CL (AD r3.2.1) ([(-1),900000,900001,1000001]:List Int)).bind fun r11=>some ((AB (⟨(AA r2.1.2.2.1).Now,(AA r2.1.2.2.1).Cpus,(AA r2.1.2.2.1).Tasks,(AA r2.1.2.2.1).Locks,(AA r2.1.2.2.1).Ghosts,(AA r2.1.2.2.1).Floors,r11.1,(AA r2.1.2.2.1).Missed,(AA r2.1.2.2.1).Trace⟩:Sys)),(AP (AD r11.2.1)),())) (cond (decide (r3.1=6)) ((CL (AD r3.2.1) ([(-1),5,100000]:List Int)).bind fun r12=>some ((AB (⟨(AA r2.1.2.2.1).Now,(AA r2.1.2.2.1).Cpus,(AA r2.1.2.2.1).Tasks,(AA r2.1.2.2.1).Locks,(AA r2.1.2.2.1).Ghosts,(AA r2.1.2.2.1).Floors,(AA r2.1.2.2.1).Seq,r12.1,(AA r2.1.2.2.1).Trace⟩:Sys)),(AP (AD r12.2.1)),())) (cond (decide (r3.1=7)) (Lo n n (AD r3.2.1) (⟨0,0,[],[],[],[],0,0,[]⟩:Sys) (AA r2.1.2.2.1) (fun w17 w18=>some ((AB (⟨(AA r2.1.2.2.1).Now,(AA r2.1.2.2.1).Cpus,(AA r2.1.2.2.1).Tasks,(AA r2.1.2.2.1).Locks,(AA r2.1.2.2.1).Ghosts,(AA r2.1.2.2.1).Floors,(AA r2.1.2.2.1).Seq,(AA r2.1.2.2.1).Missed,w18⟩:Sys)),(AP w17),()))) (cond (decide (r3.1=8)) ((AU (AD r3.2.1) 6).bind fun r19=>some ((AB (⟨(AA r2.1.2.2.1).Now,r19.1,(AA r2.1.2.2.1).Tasks,(AA r2.1.2.2.1).Locks,(AA r2.1.2.2.1).Ghosts,(AA r2.1.2.2.1).Floors,(AA r2.1.2.2.1).Seq,(AA r2.1.2.2.1).Missed,(AA r2.1.2.2.1).Trace⟩:Sys)),(AP (AD r19.2.1)),())) (cond (decide (r3.1=9)) (cond (decide (0<(((AA r2.1.2.2.1).Tasks).length:Int))) ((AU (AD r3.2.1) (((AA r2.1.2.2.1).Tasks).length:Int)).bind fun r20=>(GV (AD r20.2.1)).bind fun r21=>cond ((decide (0≤r20.1))&&(decide (r20.1<(((AA r2.1.2.2.1).Tasks).length:Int)))) (cond (decide ((Int.toNat r20.1)<((AA r2.1.2.2.1).Tasks).length)) (let e22:=(List.set (AA r2.1.2.2.1).Tasks (Int.toNat r20.1) (AC r21.1));some ((AB (⟨(AA r2.1.2.2.1).Now,(AA r2.1.2.2.1).Cpus,e22,(AA r2.1.2.2.1).Locks,(AA r2.1.2.2.1).Ghosts,(AA r2.1.2.2.1).Floors,(AA r2.1.2.2.1).Seq,(AA r2.1.2.2.1).Missed,(AA r2.1.2.2.1).Trace⟩:Sys)),(AP (AD r21.2.1)),())) none) none) (some ((AB (AA r2.1.2.2.1)),(AP (AD r3.2.1)),()))) (some ((AB (AA r2.1.2.2.1)),(AP (AD r3.2.1)),())))))))))))
def n8(n:Nat):Rw:=⟨68,pA [.box (pV [.rog .u8,.int,.int]),.v (.rog .u8)],WR,fun x=>OO n (AD x.1) x.2.1⟩
def rO(n:Nat):LS:=AN ⟨18,[0,4,7],[(.c 8 8,18,.turn)],[19,20],[4,7],WS⟩ 104 [0,4,7] 111111441333333333133 (pD [.ptr 0 0,.ptr 1 0,.ptr 8 0]) [.box Ia,q45,.root .task,.root .lock,.root .ghost,.root .int,Oy,.root .turn] (fun m x k=>Lo n m (AD x.2.1) (⟨x.2.2.1.1,x.2.2.1.2.1,[],[],[],[],x.2.2.1.2.2.2.2.2.2.1,x.2.2.1.2.2.2.2.2.2.2.1,[]⟩:Sys) (⟨x.2.2.2.2.2.2.2.1.1,x.2.2.2.2.2.2.2.1.2.1,x.2.2.2.1,x.2.2.2.2.1,x.2.2.2.2.2.1,x.2.2.2.2.2.2.1,x.2.2.2.2.2.2.2.1.2.2.2.2.2.2.1,x.2.2.2.2.2.2.2.1.2.2.2.2.2.2.2.1,x.2.2.2.2.2.2.2.2.1⟩:Sys) (fun w0 w1=>k (.exit 1) (eS 104 [4,7] [.ptr 1 0,.ptr 8 0] 111111441333333333133 [.box [.ro true .u8 w0.b,.int w0.i,.int w0.h],DE.make q45 x.2.2.1,.root .task x.2.2.2.1 .ok,.root .lock x.2.2.2.2.1 .ok,.root .ghost x.2.2.2.2.2.1 .ok,.root .int x.2.2.2.2.2.2.1 .ok,DE.make Oy x.2.2.2.2.2.2.2.1,.root .turn w1 .ok])))
theorem n9(n:Nat):RO (n8 n):=
 rL ⟨Go.Proofs.Tryz.f68,⟨[(0,[(0,.slot 1 .int)]),(1,[(2,cl 3 .int 0),(3,WN),(8,.slot 7 .int),(9,.slot 8 .int)]),(2,[(1,q3)]),(4,[(1,.slot 9 .int),(2,q3)]),(6,[(1,WO)]),(8,[(1,WP)]),(10,[(3,q3),(5,WQ),(7,q3),(9,.slot 12 .ghost),(10,.slot 13 .ghost)]),(12,[(2,.slot 14 .int),(3,.slot 15 .int)]),(14,[(1,.slot 16 .int),(2,q3)]),(16,[(1,.slot 17 .int),(2,q3)]),(18,[(4,q3)]),(19,[(3,.slot 19 .turn),(4,.slot 20 .turn)]),(21,[(1,q3)]),(24,[(6,q3),(8,Ly)])],[(10,dr 13 [(0,[8],[]),(1,[8],[]),(3,[0],[0]),(5,[0],[0]),(7,[0],[0]),(9,[12],[12]),(10,[4,12,13],[4,13]),(11,[8],[]),(12,[8,13],[8])]),(18,dr 7 [(0,[8],[]),(1,[8],[]),(2,[18],[]),(4,[0],[0])]),(24,dr 11 [(0,[8],[]),(1,[8],[]),(3,[8],[]),(4,[8],[]),(5,[2],[]),(6,[0],[0]),(8,[0],[0]),(9,[2],[]),(10,[2],[2])])],[]⟩,21⟩ [rO n] n (ec Xi (ec (Xa n) (ec Ct (ec J5 (ec (Xj n) (ec (Xo n) (ec Xh (ec SG en)))))))) Go.Proofs.Tryz.func68 (by kernel_rfl) ⟨AO (fun m x k=>by kernel_rfl) (fun _ _=>rfl),trivial⟩ (fun x=>by kernel_rfl)
def H7{α:Type}(n:Nat):Nat→Sys→Sys→Int→(List Task→Option α)→Option α|0,_,_,_,_=>none|m0+1,v8,v9,v10,k0_0=>cond (decide (v10<(v9.Tasks.length:Int))) (cond (decide (0≤v10)&&decide (v10<(v9.Tasks.length:Int))) (let e11:=(decide ((List.getD v9.Tasks (Int.toNat v10) (Kd.dflt .task)).Class=3));cond e11 (cond (decide (0≤v10)&&decide (v10<(v9.Tasks.length:Int))) (let e12:=(w64 ((List.getD v9.Tasks (Int.toNat v10) (Kd.dflt .task)).V+30));cond (decide (0≤v10)&&decide (v10<(v9.Tasks.length:Int))) (cond (decide ((Int.toNat v10)<(v9.Tasks).length)) (let e13:=(List.set v9.Tasks (Int.toNat v10) (⟨(List.getD v9.Tasks (Int.toNat v10) (Kd.dflt .task)).No,(List.getD v9.Tasks (Int.toNat v10) (Kd.dflt .task)).Class,(List.getD v9.Tasks (Int.toNat v10) (Kd.dflt .task)).Cpu,(List.getD v9.Tasks (Int.toNat v10) (Kd.dflt .task)).State,(List.getD v9.Tasks (Int.toNat v10) (Kd.dflt .task)).Idle,(List.getD v9.Tasks (Int.toNat v10) (Kd.dflt .task)).Q,(List.getD v9.Tasks (Int.toNat v10) (Kd.dflt .task)).P,(List.getD v9.Tasks (Int.toNat v10) (Kd.dflt .task)).Left,(List.getD v9.Tasks (Int.toNat v10) (Kd.dflt .task)).Due,(List.getD v9.Tasks (Int.toNat v10) (Kd.dflt .task)).Prio,(List.getD v9.Tasks (Int.toNat v10) (Kd.dflt .task)).Round,(List.getD v9.Tasks (Int.toNat v10) (Kd.dflt .task)).Seq,(List.getD v9.Tasks (Int.toNat v10) (Kd.dflt .task)).Nice,e12⟩:Task));H7 n m0 (⟨v8.Now,v8.Cpus,[],[],[],[],v8.Seq,v8.Missed,[]⟩:Sys) (⟨v9.Now,v9.Cpus,e13,v9.Locks,v9.Ghosts,v9.Floors,v9.Seq,v9.Missed,v9.Trace⟩:Sys) (w64 (v10+1)) k0_0) none) none) none) (H7 n m0 (⟨v8.Now,v8.Cpus,[],[],[],[],v8.Seq,v8.Missed,[]⟩:Sys) v9 (w64 (v10+1)) k0_0)) none) (k0_0 v9.Tasks)
def OQ(n:Nat)(a0:List Int):Option (Ap×Unit):=(Es n a0).bind fun r1=>(OO n (AD r1.1) a0).bind fun r2=>(AU (AD r2.2.1) 8).bind fun r3=>cond (decide (r3.1=0)) (some ((AB (⟨(AA r2.1).Now,(AA r2.1).Cpus,(AA r2.1).Tasks,(AA r2.1).Locks,(AA r2.1).Ghosts,(AA r2.1).Floors,(AA r2.1).Seq,1,(AA r2.1).Trace⟩:Sys)),())) (cond (decide (r3.1=1)) (cond (decide (0<(((AA r2.1).Trace).length:Int))) ((AU (AD r3.2.1) (((AA r2.1).Trace).length:Int)).bind fun r4=>(AU (AD r4.2.1) 2).bind fun r5=>(AU (AD r5.2.1) 3).bind fun r6=>cond ((decide (0≤r4.1))&&(decide (r4.1<(((AA r2.1).Trace).length:Int)))) (cond (decide ((Int.toNat r4.1)<((AA r2.1).Trace).length)) (let e7:=(List.set (AA r2.1).Trace (Int.toNat r4.1) (⟨r5.1,r6.1,0⟩:Turn));some ((AB (⟨(AA r2.1).Now,(AA r2.1).Cpus,(AA r2.1).Tasks,(AA r2.1).Locks,(AA r2.1).Ghosts,(AA r2.1).Floors,(AA r2.1).Seq,(AA r2.1).Missed,e7⟩:Sys)),())) none) none) (some ((AB (AA r2.1)),()))) (cond (decide (r3.1=2)) (H7 n n (⟨0,0,[],[],[],[],0,0,[]⟩:Sys) (AA r2.1) 0 (fun w14=>some ((AB (⟨(AA r2.1).Now,(AA r2.1).Cpus,w14,(AA r2.1).Locks,(AA r2.1).Ghosts,(AA r2.1).Floors,(AA r2.1).Seq,(AA r2.1).Missed,(AA r2.1).Trace⟩:Sys)),()))) (some ((AB (AA r2.1)),()))))
def oI(n:Nat):Rw:=⟨111,pV [.rog .u8],q40,fun x=>OQ n x.1⟩
def rQ(n:Nat):LS:=AN ⟨11,[2,4,5],[],[],[2,4],([0,2,3,4,5,6,7])⟩ 64 [2,4,5] 14111111 (pD [.ptr 0 0,.ptr 7 0,.int]) [q45,.root .task,.root .lock,.root .ghost,.root .int,.root .turn,q46] (fun m x k=>H7 n m (⟨x.2.1.1,x.2.1.2.1,[],[],[],[],x.2.1.2.2.2.2.2.2.1,x.2.1.2.2.2.2.2.2.2.1,[]⟩:Sys) (⟨x.2.2.2.2.2.2.2.1.1,x.2.2.2.2.2.2.2.1.2.1,x.2.2.1,x.2.2.2.1,x.2.2.2.2.1,x.2.2.2.2.2.1,x.2.2.2.2.2.2.2.1.2.2.2.2.2.2.1,x.2.2.2.2.2.2.2.1.2.2.2.2.2.2.2.1,x.2.2.2.2.2.2.1⟩:Sys) x.1.2.2.1 (fun w0=>k (.exit 1) (eS 64 [2,4] [.ptr 0 0,.ptr 7 0] 14111111 [DE.make q45 x.2.1,.root .task w0 .ok,.root .lock x.2.2.2.1 .ok,.root .ghost x.2.2.2.2.1 .ok,.root .int x.2.2.2.2.2.1 .ok,.root .turn x.2.2.2.2.2.2.1 .ok,DE.make q46 x.2.2.2.2.2.2.2.1])))
theorem oJ(n:Nat):RO (oI n):=
 rL ⟨Go.Proofs.Tryz.f111,⟨[(0,[(0,.slot 0 .int)]),(1,[(1,J0)]),(2,[(2,(.call [.mv,.ro] (.agg q39) [.box q0] [some 2,some 3,some 4,some 5,some 6])),(3,.slot 7 .int)]),(3,[(1,q3)]),(8,[(6,q3),(8,q3),(10,q3)])],[(8,dr 14 [(0,[7],[]),(1,[7],[]),(3,[7],[]),(4,[7],[]),(5,[6],[]),(6,[1],[1]),(8,[1],[1]),(10,[1],[1]),(12,[6],[]),(13,[6],[6])]),(14,dr 13 [(0,[7],[]),(1,[7],[]),(3,[7],[]),(4,[7],[]),(6,[2],[]),(7,[2],[]),(8,[2],[]),(10,[2],[]),(11,[2],[]),(12,[2],[2])])],[]⟩,8⟩ [rQ n] n (ec (IH n) (ec (n9 n) (ec Ct en))) Go.Proofs.Tryz.func111 (by kernel_rfl) ⟨AO (fun m x k=>by kernel_rfl) (fun _ _=>rfl),trivial⟩ (fun x=>by kernel_rfl)
def Nq(n:Nat)(a0:List Int):Option (Ap×Unit):=(OQ n a0).bind fun r1=>some ((AB (AA r1.1)),())
def l6(n:Nat):Rw:=⟨35,pV [.rog .u8],Rr,fun x=>Nq n x.1⟩
theorem l7(n:Nat):RO (l6 n):=
 rE ⟨Go.Proofs.Tryz.f35,⟨[(0,[(0,.slot 0 .int)]),(1,[(1,(cl 1 (.agg q39) 5))])],[],[]⟩,1⟩ n (ec (oJ n) en) Go.Proofs.Tryz.func35 (by kernel_rfl) (fun x=>by kernel_rfl)
def JA{α:Type}(n:Nat):Nat→Sys→List Turn→Int→Int→(Option α)→(Option α)→Option α|0,_,_,_,_,_,_=>none|m0+1,v3,v4,v5,v6,k0_0,k0_1=>cond (decide (v6<v5)) (cond (decide (0≤v6)&&decide (v6<(v4.length:Int))) (cond (decide (v3.Cpus=0)) none (let e7:=(!(decide ((List.getD v4 (Int.toNat v6) (Kd.dflt .turn)).Cpu=(Int.tmod v6 v3.Cpus))));cond e7 k0_0 (let e8:=(decide ((List.getD v4 (Int.toNat v6) (Kd.dflt .turn)).Executor=0));let e9:=(decide ((List.getD v4 (Int.toNat v6) (Kd.dflt .turn)).Context=0));cond (!(e8==e9)) k0_0 (JA n m0 v3 v4 v5 (w64 (v6+1)) k0_0 k0_1)))) none) k0_1
def Kn(n:Nat)(a0:Sys):Option (Bool×Unit):=(CV n a0).bind fun r1=>cond (!r1.1) (some (false,())) (cond (decide (a0.Cpus=0)) none (let e2:=(!(decide ((Int.tmod (a0.Trace.length:Int) a0.Cpus)=0)));cond e2 (some (false,())) (JA n n a0 a0.Trace (a0.Trace.length:Int) 0 (some (false,())) (some (true,())))))
def gU(n:Nat):Rw:=⟨36,pV [Aq],pS [.bool],fun x=>Kn n (AS x.1)⟩
def pc(n:Nat):LS:=AN ⟨4,([1,18,19,20]),[],[1],[2],[]⟩ 42 [1,18,19,20] 13 (pD [.ptr 0 0,.ro .turn,.int,.int]) [.box Ah] (fun m x k=>JA n m (AS x.2.1) x.1.2.1.2 x.1.2.2.1 x.1.2.2.2.1 (k .ret (eS 42 [2] [.bool false] 44 [])) (k (.exit 0) (eS 42 [] [] 44 [])))
theorem W5(n:Nat):RO (gU n):=
 rL ⟨Go.Proofs.Tryz.f36,⟨[(0,[(0,.slot 0 .int)]),(1,[(1,cl 1 .bool 0)]),(5,[(3,.slot 1 .int)])],[(6,dr 16 [(0,[1],[]),(1,[1],[]),(3,[0],[]),(4,[0],[]),(8,[1],[]),(9,[1],[]),(11,[1],[]),(12,[1],[])])],[]⟩,2⟩ [pc n] n (ec (C4 n) en) Go.Proofs.Tryz.func36 (by kernel_rfl) ⟨AO (fun m x k=>by kernel_rfl) (fun _ _=>rfl),trivial⟩ (fun x=>by kernel_rfl)
def Kl(n:Nat)(a0:Sys):Option (Bool×Unit):=(CV n a0).bind fun r1=>cond r1.1 (some ((decide (a0.Missed=0)),())) (some (false,()))
def gQ(n:Nat):Rw:=⟨37,pV [Aq],pS [.bool],fun x=>Kl n (AS x.1)⟩
theorem W0(n:Nat):RO (gQ n):=
 rE ⟨Go.Proofs.Tryz.f37,⟨[(0,[(0,.slot 0 .int)]),(1,[(1,cl 1 .bool 0)])],[],[]⟩,1⟩ n (ec (C4 n) en) Go.Proofs.Tryz.func37 (by kernel_rfl) (fun x=>by kernel_rfl)
def Mt(a0:Task)(a1:Sys):Option (Bool×Unit):=cond (decide (a0.Class=3)) (cond (!a0.Idle) (cond (decide (0≤a0.Cpu)&&decide (a0.Cpu<(a1.Floors.length:Int))) (cond (decide (0≤a0.Cpu)&&decide (a0.Cpu<(a1.Floors.length:Int))) (let e1:=(w64 ((List.getD a1.Floors (Int.toNat a0.Cpu) (Kd.dflt .int))+48));(BA a0.V (List.getD a1.Floors (Int.toNat a0.Cpu) (Kd.dflt .int)) e1).bind fun r2=>some ((!r2.1),())) none) none) (some (false,()))) (some (false,()))
def gS:Rw:=⟨112,pV [Au,.rp Ah 0],pS [.bool],fun x=>Mt (AC x.1) (AS x.2.1)⟩
theorem gT:RO (gS):=
 rE ⟨Go.Proofs.Tryz.f112,⟨[(0,[(0,.slot 0 .int)]),(1,[(24,cl 3 .bool 0)])],[(1,dr 28 [(0,[0],[]),(1,[0],[]),(4,[0],[]),(5,[0],[]),(9,[0],[]),(10,[0],[]),(13,[0],[]),(14,[0],[]),(19,[0],[]),(20,[0],[])])],[]⟩,1⟩ 0 (ec CI en) Go.Proofs.Tryz.func112 (by kernel_rfl) (fun x=>by kernel_rfl)
def JZ{α:Type}(n:Nat):Nat→List Task→Sys→Int→Int→(Int→Option α)→(Option α)→Option α|0,_,_,_,_,_,_=>none|m0+1,v1,v2,v3,v4,k0_0,k0_1=>cond (decide (v4<v3)) (cond (decide (0≤v4)&&decide (v4<(v1.length:Int))) ((Mt (List.getD v1 (Int.toNat v4) (Kd.dflt .task)) v2).bind fun r5=>cond r5.1 (k0_0 v4) (JZ n m0 v1 v2 v3 (w64 (v4+1)) k0_0 k0_1)) none) k0_1
def Qd(n:Nat)(a0:List Task)(a1_0:Sys):Option (Int×Unit):=JZ n n a0 a1_0 (a0.length:Int) 0 (fun w6=>some (w6,())) (some ((-1),()))
def lg(n:Nat):Rw:=⟨97,pV [.ro .task,.clo 112 (pD [.rp Ah 0])],pS [.int],fun x=>Qd n x.1.2 (AS x.2.1.1)⟩
def qW(n:Nat):LS:=AN ⟨2,[0,1,7,8],[],[],[4],[]⟩ 19 [0,1,7,8] 0 (pD [.ro .task,.clo 112 (pD [.rp Ah 0]),.int,.int]) [] (fun m x k=>JZ n m x.1.1.2 (AS x.1.2.1.1) x.1.2.2.1 x.1.2.2.2.1 (fun w0=>k .ret (eS 19 [4] [.int w0] 0 [])) (k (.exit 0) (eS 19 [] [] 0 [])))
theorem lh(n:Nat):RO (lg n):=
 rL ⟨Go.Proofs.Tryz.f97,⟨[(4,[(5,cl 1 .bool 0)])],[],[]⟩,0⟩ [qW n] n (ec gT en) Go.Proofs.Tryz.func97 (by kernel_rfl) ⟨AO (fun m x k=>by kernel_rfl) (fun _ _=>rfl),trivial⟩ (fun x=>by kernel_rfl)
def Nf(n:Nat)(a0:List Task)(a1_0:Sys):Option (Bool×Unit):=(Qd n a0 a1_0).bind fun r1=>some ((decide (0≤r1.1)),())
def kz(n:Nat):Rw:=⟨74,pV [.ro .task,.clo 112 (pD [.rp Ah 0])],pS [.bool],fun x=>Nf n x.1.2 (AS x.2.1.1)⟩
theorem lA(n:Nat):RO (kz n):=
 rE ⟨Go.Proofs.Tryz.f74,⟨[(1,[(2,cl 2 .int 0)])],[],[]⟩,0⟩ n (ec (lh n) en) Go.Proofs.Tryz.func74 (by kernel_rfl) (fun x=>by kernel_rfl)
def Km(n:Nat)(a0:Sys):Option (Bool×Unit):=(CV n a0).bind fun r1=>cond r1.1 ((Nf n a0.Tasks a0).bind fun r2=>some ((!r2.1),())) (some (false,()))
def gR(n:Nat):Rw:=⟨38,pV [Aq],pS [.bool],fun x=>Km n (AS x.1)⟩
theorem W4(n:Nat):RO (gR n):=
 rE ⟨Go.Proofs.Tryz.f38,⟨[(0,[(0,.slot 0 .int)]),(1,[(1,cl 1 .bool 0),(6,cl 2 .bool 0)])],[],[]⟩,1⟩ n (ec (C4 n) (ec (lA n) en)) Go.Proofs.Tryz.func38 (by kernel_rfl) (fun x=>by kernel_rfl)
end Go.Proofs.YthoholbeacojfaaGreat.VR
end
section
set_option linter.unusedVariables false
set_option linter.unusedSimpArgs false
namespace Go.Proofs.YthoholbeacojfaaGreat.VR
open Go
def KW{β:Type}(d:β)(w8:Int)(w9:List β):Option (List β×Unit):=
 cond (((decide (0≤w8))&&(decide (w8≤((w9).length:Int))))&&(decide (((w9).length:Int)≤((w9).length:Int))))
  (cond ((decide ((Int.toNat w8)<(Int.toNat ((w9).length:Int))))&&(decide ((Int.toNat ((w9).length:Int))≤(w9).length)))
    (let e10:=(A5 w9 (Int.toNat w8) (List.replicate ((Int.toNat ((w9).length:Int))-(Int.toNat w8)) d))
     cond ((decide (0≤w8))&&(decide (w8≤((e10).length:Int))))
      (some ((List.take (Int.toNat w8) e10),()))
      (none))
    (none))
  (none)
theorem aY{β:Type}(d:β){i:Nat}{ys:List β}(h:i<ys.length):KW d (i:Int) ys=some (ys.take i,()):=by
 have e:(A5 ys i (List.replicate (ys.length-i) d)).length=ys.length:=by rw[EF];rw[List.length_replicate];omega
 unfold KW;simp only[Int.toNat_natCast,e,show(0:Int)≤(i:Int) by omega,show(i:Int)≤(ys.length:Int) by omega,Int.le_refl,Nat.le_refl,h,decide_true,Bool.and_self,cond_true]
 congr 2
 unfold A5;rw[List.append_assoc,List.take_append_of_le_length (by rw[List.length_take];omega),List.take_take,Nat.min_self]
theorem Tw{β:Type}{l:Nat→List β→Int→Int→Option (List β×Unit)}{xs:List β}{p:β→Bool}(d:β){n:Nat}(hn:xs.length<n)(hb:xs.length≤lim)
 (hend: ∀m ys (i:Nat),ys.length=xs.length→l (m+1) ys (i:Int) (xs.length:Int)=KW d (i:Int) ys)
 (hstep: ∀m ys (i j:Nat) (hj:j<xs.length) (hl:ys.length=xs.length),i<j→ys[j]'(by omega)=xs[j]→
   l (m+1) ys (i:Int) (j:Int)=cond (p xs[j]) (l m ys (i:Int) ((j+1:Nat):Int)) (l m (ys.set i xs[j]) ((i+1:Nat):Int) ((j+1:Nat):Int))):
 ((some (idx (xs.findIdx? p),()):Option (Int×Unit)).bind fun r1=>cond (decide (r1.1=(-1))) (some (xs,())) (l n xs r1.1 (w64 (r1.1+1))))=some (xs.filter (fun x=> !p x),()):=by
 simp only[Option.bind_some];cases hf:xs.findIdx? p with
 |none=>
  rw[List.findIdx?_eq_none_iff]at hf;simp only[idx,decide_true,cond_true];rw[List.filter_eq_self.2 fun x hx=>by rw[hf x hx];rfl]
 |some i0=>
  rw[List.findIdx?_eq_some_iff_getElem]at hf;obtain⟨h0,hp,hlt⟩:=hf;have hpre0:(xs.take i0).filter (fun x=> !p x)=xs.take i0:=List.filter_eq_self.2 fun x hx=>by
   obtain⟨j,hj,rfl⟩:=List.getElem_of_mem hx;rw[List.length_take]at hj;rw[List.getElem_take];simpa using hlt j (by omega)
  have hpre:(xs.take (i0+1)).filter (fun x=> !p x)=xs.take i0:=by rw[Ev _ h0,hp,hpre0];simp
  have hne: ¬((i0:Int)= -1):=by omega
  simp only[idx,hne,decide_false,cond_false];rw[AL (Nat.lt_trans h0 (AY hb))];obtain⟨ys,h1,h2,h3,h4⟩:=ac (l:=l) (xs:=xs) (p:=p) hend hstep i0 h0 (by rw[hpre,List.length_take];omega) hpre hn
  rw[h4,aY d (by omega),h3]
theorem b7{xs:List Ghost}{s:Sys}{n:Nat}(hn:xs.length<n)(hb:xs.length≤lim):Nh n xs s=some (xs.filter (fun g=>decide (s.Now<g.Until)),()):=by
 have hx: ∀t:Sys,Nj n xs t=some (idx (xs.findIdx? fun g=>decide (g.Until≤t.Now)),()):=fun t=>by
  unfold Nj;have:=C0 (l:=fun m i=>JT n m xs ⟨t.Now,t.Cpus,t.Tasks,t.Locks,[],t.Floors,t.Seq,t.Missed,t.Trace⟩ (xs.length:Int) i (fun w6=>some (w6,())) (some (-1,()))) (xs:=xs) (p:=fun g=>decide (g.Until≤t.Now)) (k0:=fun w6=>some (w6,())) (k1:=some (-1,()))
   (fun m=>by simp only[JT,AW,cond_false])
   (fun m i hi=>by simp only[JT,Ks,Option.bind_some,AG hi,AI,Bool.and_self,cond_true,AH hi,AL (Nat.lt_trans hi (AY hb))]) (m:=n) hn
  refine this.trans ?_;cases xs.findIdx? fun g=>decide (g.Until≤t.Now)<;>rfl
 unfold Nh;rw[hx];have:=Tw (l:=fun m ys i j=>Hx n m ys ⟨s.Now,s.Cpus,s.Tasks,s.Locks,[],s.Floors,s.Seq,s.Missed,s.Trace⟩ i j (KW (Kd.dflt .ghost))) (xs:=xs) (p:=fun g=>decide (g.Until≤s.Now)) (Kd.dflt .ghost) hn hb
  (fun m ys i hl=>by simp only[Hx,hl,AW,cond_false])
  (fun m ys i j hj hl hij hy=>by
    have hi:i<ys.length:=by omega
    have hj':j<ys.length:=by omega
    simp only[Hx,Ks,Option.bind_some,hl,AG hj,AG (show i<xs.length by omega),AI,Bool.and_self,cond_true,Af hj',hy,Int.toNat_natCast,decide_eq_true (show i<xs.length by omega),AL (Nat.lt_trans hj (AY hb)),AL (Nat.lt_trans (show i<xs.length by omega) (AY hb))]
    cases decide (xs[j].Until≤s.Now)<;>rfl)
 refine this.trans ?_
 congr 2
 apply List.filter_congr;intro g _
 by_cases h:g.Until≤s.Now
 ·rw[decide_eq_true h,decide_eq_false (by omega)];rfl
 ·rw[decide_eq_false h,decide_eq_true (by omega)];rfl
theorem tU{xs:List Task}{cpu:Int}{n:Nat}(hn:xs.length<n)(hb:xs.length≤lim):Ni n xs cpu=some (BK xs cpu,()):=by
 have hx:Nn n xs cpu=some (idx (xs.findIdx? fun t=>t.Idle|| !decide (t.Cpu=cpu)),()):=by
  unfold Nn;have:=C0 (l:=fun m i=>Jc n m xs cpu (xs.length:Int) i (fun w6=>some (w6,())) (some (-1,()))) (xs:=xs) (p:=fun t=>t.Idle|| !decide (t.Cpu=cpu)) (k0:=fun w6=>some (w6,())) (k1:=some (-1,()))
   (fun m=>by simp only[Jc,AW,cond_false])
   (fun m i hi=>by
     simp only[Jc,Kv,AG hi,AI,Bool.and_self,cond_true,AH hi,AL (Nat.lt_trans hi (AY hb))];cases xs[i].Idle<;>rfl) (m:=n) hn
  refine this.trans ?_;cases xs.findIdx? fun t=>t.Idle|| !decide (t.Cpu=cpu)<;>rfl
 unfold Ni;rw[hx];have:=Tw (l:=fun m ys i j=>Hy n m ys cpu i j (KW (Kd.dflt .task))) (xs:=xs) (p:=fun t=>t.Idle|| !decide (t.Cpu=cpu)) (Kd.dflt .task) hn hb
  (fun m ys i hl=>by simp only[Hy,hl,AW,cond_false])
  (fun m ys i j hj hl hij hy=>by
    have hi:i<ys.length:=by omega
    have hj':j<ys.length:=by omega
    simp only[Hy,Kv,hl,AG hj,AG (show i<xs.length by omega),AI,Bool.and_self,cond_true,Af hj',hy,Int.toNat_natCast,decide_eq_true (show i<xs.length by omega),AL (Nat.lt_trans hj (AY hb)),AL (Nat.lt_trans (show i<xs.length by omega) (AY hb))]
    cases xs[j].Idle with
    |true=>rfl
    |false=>
     simp only[cond_false,Option.bind_some,Bool.false_or];cases decide (xs[j].Cpu=cpu)<;>rfl)
 refine this.trans ?_
 congr 2
 unfold BK;apply List.filter_congr;intro t _;cases t.Idle<;>cases decide (t.Cpu=cpu)<;>rfl
theorem Mc{xs:List Task}(h:xs.length≤lim):C6 xs=some (xs,()):=by unfold C6;rw[decide_eq_true h];rfl
theorem Tr{xs:List Ghost}(h:xs.length≤lim):K1 xs=some (xs,()):=by unfold K1;rw[decide_eq_true h];rfl
theorem Ma{xs:List Int}(h:xs.length≤lim):HY xs=some (xs,()):=by unfold HY;rw[decide_eq_true h];rfl
theorem Tt{xs:List Turn}(h:xs.length≤lim):Fa xs=some (xs,()):=by unfold Fa;rw[decide_eq_true h];rfl
theorem Q8{s:Sys}{cpu:Int}{n:Nat}(hn:s.Tasks.length<n)(hb:s.Tasks.length≤lim):It n s cpu=some (BK s.Tasks cpu,()):=by
 simp only[It,Mc hb,Option.bind_some,tU hn hb]
theorem SZ{s:Sys}{cpu:Int}{n:Nat}(hn:s.Tasks.length<n)(hb:s.Tasks.length≤lim):I0 n s cpu=some (BK s.Tasks cpu,()):=by
 unfold I0;refine Ak (l:=fun m i=>Gq n m cpu s (BK (s.Tasks.take i) cpu) (i:Int) (fun w7=>some (w7,()))) (len:=s.Tasks.length) (fun _=>True) trivial (fun m _=> ?_) (fun m i hi _=>.inl ⟨?_,trivial⟩) hn
 ·simp only[Gq,AW,cond_false,List.take_length]
 · have ef:BK (s.Tasks.take (i+1)) cpu=BK (s.Tasks.take i) cpu++cond (decide (s.Tasks[i].Cpu=cpu)&& !s.Tasks[i].Idle) [s.Tasks[i]] []:=Ev _ hi
   have hlen:(BK (s.Tasks.take i) cpu).length≤i:=Nat.le_trans (List.length_filter_le _ _) (List.length_take_le _ _);rw[ef];simp only[Gq,AG hi,AI,Bool.and_self,cond_true,AH hi,AL (Nat.lt_trans hi (AY hb)),CB (show(BK (s.Tasks.take i) cpu).length<s.Tasks.length by omega) hb]
   cases decide (s.Tasks[i].Cpu=cpu)<;>cases s.Tasks[i].Idle<;>simp
theorem UL{t:Task}(h:BR t=true):0≤t.V∧t.V≤100000000:=by
 rw[C9]at h;exact(h.1.fair h.2).v
theorem Qm{xs:List Task}{i:Nat}(hi:i<xs.length):Bm (xs.take (i+1))=Ck (Bm (xs.take i)) xs[i]:=by
 unfold Bm;rw[List.take_succ_eq_append_getElem hi,List.foldl_append];rfl
theorem I4(xs:List Task): ∀a b,Bm xs=some (a,b)→0≤a∧a≤b∧b≤100000000:=by
 have: ∀(xs:List Task) (o:Option (Int×Int)),(∀a b,o=some (a,b)→0≤a∧a≤b∧b≤100000000)→ ∀a b,xs.foldl Ck o=some (a,b)→0≤a∧a≤b∧b≤100000000:=by
  intro xs
  induction xs with
  |nil=>intro o ho a b h;exact ho a b h
  |cons t xs ih=>
   intro o ho a b h;refine ih (Ck o t) (fun a b e=> ?_) a b h
   unfold Ck at e;split at e
   · rename_i hf
     have hv:=UL hf;split at e
     ·injection e with e;injection e with e1 e2;omega
     · rename_i a0 b0
       have:=ho a0 b0 rfl;injection e with e;injection e with e1 e2
       omega
   ·exact ho a b e
 exact this xs none (fun a b h=>by cases h)
def FX:Option (Int×Int)→Int×Int×Bool
 |none=>(0,0,false)
 |some (a,b)=>(a,b,true)
theorem dk(a b:Int)[d:Decidable (b<a)]:(@ite Int (b<a) d b a)=min a b:=by split<;>omega
theorem Vk(a b:Int)[d:Decidable (b>a)]:(@ite Int (b>a) d b a)=max a b:=by split<;>omega
theorem U5{xs:List Task}{n:Nat}(hn:xs.length<n)(hb:xs.length≤lim):Kx n xs=some (((FX (Bm xs)).1,(FX (Bm xs)).2.1,(FX (Bm xs)).2.2,()),()):=by
 unfold Kx;refine Ak (l:=fun m i=>E7 n m (FX (Bm (xs.take i))).1 (FX (Bm (xs.take i))).2.1 (FX (Bm (xs.take i))).2.2 xs (xs.length:Int) (i:Int) (fun w12 w13 w14=>some ((w12,w13,w14,()),()))) (len:=xs.length) (fun _=>True) trivial (fun m _=> ?_) (fun m i hi _=>.inl ⟨?_,trivial⟩) hn
 ·simp only[E7,AW,cond_false,List.take_length]
 · rw[Qm hi]
   simp only[E7,AG hi,AI,Bool.and_self,cond_true,AH hi,Of,Option.bind_some,AL (Nat.lt_trans hi (AY hb)),Ck];cases hf:BR xs[i]with
   |false=>simp[FX]
   |true=>
    cases Bm (xs.take i)with
    |none=>simp[FX]
    |some p=>
     obtain⟨a,b⟩:=p
     change E7 n m (if xs[i].V<a then xs[i].V else a) (if xs[i].V>b then xs[i].V else b) true xs (xs.length:Int) ((i+1:Nat):Int) _=E7 n m (min a xs[i].V) (max b xs[i].V) true xs (xs.length:Int) ((i+1:Nat):Int) _
     rw[dk,Vk]
theorem Uv{xs:List Task}{f:Int}{n:Nat}(hn:xs.length<n)(hb:xs.length≤lim):Kf n xs f=some (B6 xs f,()):=by
 simp only[Kf,U5 hn hb,Option.bind_some,B6];cases Bm xs with
 |none=>rfl
 |some p=>
  change (some ((if p.1>f then p.1 else f),()):Option (Int×Unit))=some (max f p.1,())
  rw[Vk]
theorem cN{xs:List Task}{n:Nat}(hn:xs.length<n)(hb:xs.length≤lim):Mp n xs=some (Hl xs,()):=by
 simp only[Mp,U5 hn hb,Option.bind_some,Hl];cases h:Bm xs with
 |none=>rfl
 |some p=>
  have:=I4 xs p.1 p.2 h;simp only[FX];rw[AV (by omega) (by omega)]
def D1:Option (Int×Int)→Int
 |none=> -1
 |some (a,_)=>a
def QC:Option (Int×Int)→Int
 |none=> -1
 |some (_,b)=>b
theorem YP{xs:List Task}{f:Int}{n:Nat}(hn:xs.length<n)(hb:xs.length≤lim):K7 n xs f=some (B6 xs f,()):=by
 unfold K7;refine Ak (l:=fun m i=>Fo n m xs f (D1 (Bm (xs.take i))) (i:Int) (fun w7=>cond (decide (w7<0)) (some (f,())) ((C7 f w7).bind fun r8=>some (r8.1,())))) (len:=xs.length) (fun _=>True) trivial (fun m _=> ?_) (fun m i hi _=>.inl ⟨?_,trivial⟩) hn
 · simp only[Fo,AW,cond_false,List.take_length,KB,Option.bind_some,B6]
   cases h:Bm xs with
   |none=>rfl
   |some p=>
    have:=I4 xs p.1 p.2 h;rw[decide_eq_false (show¬D1 (some p)<0 from(by omega: ¬p.1<0))];rfl
 · rw[Qm hi]
   simp only[Fo,AG hi,AI,Bool.and_self,cond_true,AH hi,MJ,Option.bind_some,AL (Nat.lt_trans hi (AY hb)),Ck];cases hf:BR xs[i]with
   |false=>simp
   |true=>
    cases h:Bm (xs.take i)with
    |none=>simp[D1]
    |some p=>
     have:=I4 _ p.1 p.2 h;simp only[if_true,cond_true];rw[decide_eq_false (show¬D1 (some p)<0 from(by omega: ¬p.1<0))]
     simp only[cond_false]
     by_cases h2:xs[i].V<p.1
     ·rw[decide_eq_true (show xs[i].V<D1 (some p)from h2),show min p.1 xs[i].V=xs[i].V by omega];rfl
     ·rw[decide_eq_false (show¬xs[i].V<D1 (some p)from h2),show min p.1 xs[i].V=p.1 by omega];rfl
theorem sN{xs:List Task}{n:Nat}(hn:xs.length<n)(hb:xs.length≤lim):N0 n xs=some (Hl xs,()):=by
 unfold N0;refine Ak (l:=fun m i=>Fp n m xs (D1 (Bm (xs.take i))) (QC (Bm (xs.take i))) (i:Int) (fun w10 w11=>some ((w64 (w11-w10)),()))) (len:=xs.length) (fun _=>True) trivial (fun m _=> ?_) (fun m i hi _=>.inl ⟨?_,trivial⟩) hn
 · simp only[Fp,AW,cond_false,List.take_length,Hl]
   cases h:Bm xs with
   |none=>rfl
   |some p=>
    have:=I4 xs p.1 p.2 h;simp only[D1,QC];rw[AV (by omega) (by omega)]
 · rw[Qm hi]
   simp only[Fp,AG hi,AI,Bool.and_self,cond_true,AH hi,MJ,KB,Option.bind_some,AL (Nat.lt_trans hi (AY hb)),Ck];cases hf:BR xs[i]with
   |false=>simp
   |true=>
    have hv:=UL hf;cases h:Bm (xs.take i)with
    |none=>simp[D1,QC,show max (-1) xs[i].V=xs[i].V by omega]
    |some p=>
     have:=I4 _ p.1 p.2 h;simp only[if_true,cond_true,Bool.not_true,cond_false];rw[decide_eq_false (show¬D1 (some p)<0 from(by omega: ¬p.1<0))]
     simp only[cond_false]
     by_cases h2:xs[i].V<p.1
     ·rw[decide_eq_true (show xs[i].V<D1 (some p)from h2),show min p.1 xs[i].V=xs[i].V by omega];rfl
     ·rw[decide_eq_false (show¬xs[i].V<D1 (some p)from h2),show min p.1 xs[i].V=p.1 by omega];rfl
end Go.Proofs.YthoholbeacojfaaGreat.VR
end
section
set_option linter.unusedVariables false
set_option linter.unusedSimpArgs false
namespace Go.Proofs.YthoholbeacojfaaGreat.VR
open Go
theorem F1{ts:List Task}{no:Int}{n:Nat}(hn:ts.length<n)(hb:ts.length≤lim):Cm n ts no=some (idx (AR ts no),()):=by
 unfold Cm AR;have:=C0 (l:=fun m i=>Jk n m ts no i (fun w5=>some (w5,())) (some (-1,()))) (xs:=ts) (p:=fun t=>decide (t.No=no)) (k0:=fun w5=>some (w5,())) (k1:=some (-1,()))
  (fun m=>by simp only[Jk,AW,cond_false])
  (fun m i hi=>by simp only[Jk,AG hi,AI,Bool.and_self,cond_true,AH hi,AL (Nat.lt_trans hi (AY hb))]) (m:=n) hn
 refine this.trans ?_;cases ts.findIdx? fun t=>decide (t.No=no)<;>rfl
theorem C1{ts:List Task}{no:Int}{n:Nat}(hn:ts.length<n)(hb:ts.length≤lim):Bu n ts no=some (idx (AR ts no),()):=by
 have:Nm n ts no=some (idx (AR ts no),()):=by
  unfold Nm AR;have:=C0 (l:=fun m i=>Jb n m ts no (ts.length:Int) i (fun w5=>some (w5,())) (some (-1,()))) (xs:=ts) (p:=fun t=>decide (t.No=no)) (k0:=fun w5=>some (w5,())) (k1:=some (-1,()))
   (fun m=>by simp only[Jb,AW,cond_false])
   (fun m i hi=>by simp only[Jb,QQ,Option.bind_some,AG hi,AI,Bool.and_self,cond_true,AH hi,AL (Nat.lt_trans hi (AY hb))]) (m:=n) hn
  refine this.trans ?_;cases ts.findIdx? fun t=>decide (t.No=no)<;>rfl
 simp only[Bu,this,Option.bind_some]
theorem Li{ts:List Task}{n:Nat}(hn:ts.length<n)(hb:ts.length≤lim):D3 n ts=some (decide (TasksOk ts),()):=by
 unfold D3;have hstep: ∀(R k0 k1:Option (Bool×Unit)) (m i:Nat),i<ts.length→D8 n (m+1) ts ts (ts.length:Int) (i:Int) k0 k1=if DN ts i then D8 n m ts ts (ts.length:Int) ((i+1:Nat):Int) k0 k1 else k0:=by
  intro R k0 k1 m i hi;have hil:=Nat.lt_trans hi (AY hb)
  by_cases ht:TaskOk ts[i]
  · by_cases h0:0<i
    · have hp:i-1<ts.length:=by omega
      have h0':decide (0<(i:Int))=true:=decide_eq_true (by omega)
      simp only[D8,AG hi,AG hp,AI,Bool.and_self,cond_true,AH hi,AH hp,Ez,Option.bind_some,decide_eq_true ht,Bool.not_true,cond_false,h0',ZZ hil h0,AL hil,BT]
      by_cases hno:ts[i].No≤ts[i-1].No
      · rw[if_pos hno,if_neg]
        rintro⟨_,_,h2⟩;obtain⟨_,h3⟩:=h2 h0;omega
      · rw[if_neg hno,if_pos]
        exact⟨hi,ht,fun _=>⟨hp,by omega⟩⟩
    · have h0':decide (0<(i:Int))=false:=decide_eq_false (by omega)
      have hr:DN ts i:=⟨hi,ht,fun h=>absurd h h0⟩
      simp only[D8,AG hi,AI,Bool.and_self,cond_true,AH hi,Ez,Option.bind_some,decide_eq_true ht,Bool.not_true,cond_false,h0',AL hil,if_pos hr]
  · have hr: ¬DN ts i:=fun⟨_,h,_⟩=>ht h
    simp only[D8,AG hi,AI,Bool.and_self,cond_true,AH hi,Ez,Option.bind_some,decide_eq_false ht,Bool.not_false,if_neg hr]
 rw[X0]
 by_cases hall: ∀i,i<ts.length→DN ts i
 · have hd:decide (TasksOk ts)=decide (ts.length≤12):=decide_eq_decide.2 ((Sr ts).trans ⟨fun h=>h.2.2,fun h=>⟨(J9.1 hall).1,(J9.1 hall).2,h⟩⟩)
   rw[hd];refine Ak (l:=fun m i=>D8 n m ts ts (ts.length:Int) (i:Int) (some (false,())) (some (decide (ts.length≤12),()))) (len:=ts.length) (fun _=>True) trivial (fun m _=> ?_) (fun m i hi _=>.inl ⟨?_,trivial⟩) hn
   ·simp only[D8,AW,cond_false]
   ·rw[hstep none _ _ m i hi,if_pos (hall i hi)]
 · have hd: ¬TasksOk ts:=fun h=>hall (J9.2 ⟨h.each,h.sorted⟩)
   rw[decide_eq_false hd];refine Ak (l:=fun m i=>D8 n m ts ts (ts.length:Int) (i:Int) (some (false,())) (some (decide (ts.length≤12),()))) (len:=ts.length) (fun i=> ∀j,j<i→DN ts j) (fun j h=>absurd h (Nat.not_lt_zero j)) (fun m hI=>absurd hI hall) (fun m i hi hI=> ?_) hn
   rw[hstep none _ _ m i hi]
   by_cases hr:DN ts i
   · rw[if_pos hr]
     exact .inl ⟨rfl,fun j hj=>by
      by_cases e:j=i
      ·subst e;exact hr
      ·exact hI j (by omega)⟩
   ·rw[if_neg hr];exact .inr rfl
theorem IM{ts:List Task}{n:Nat}(hn:ts.length<n)(hb:ts.length≤lim):EP n ts=some (decide (TasksOk ts),()):=by
 unfold EP;have hstep: ∀(R k0 k1:Option (Bool×Unit)) (m i:Nat),i<ts.length→D9 n (m+1) ts (i:Int) k0 k1=if DN ts i then D9 n m ts ((i+1:Nat):Int) k0 k1 else k0:=by
  intro R k0 k1 m i hi;have hil:=Nat.lt_trans hi (AY hb)
  by_cases ht:TaskOk ts[i]
  · by_cases h0:0<i
    · have hp:i-1<ts.length:=by omega
      have h0':decide (0<(i:Int))=true:=decide_eq_true (by omega)
      simp only[D9,AG hi,AG hp,AI,Bool.and_self,cond_true,AH hi,AH hp,FP,Option.bind_some,decide_eq_true ht,Bool.not_true,cond_false,h0',ZZ hil h0,AL hil,BT]
      by_cases hno:ts[i].No≤ts[i-1].No
      · rw[if_pos hno,if_neg]
        rintro⟨_,_,h2⟩;obtain⟨_,h3⟩:=h2 h0;omega
      · rw[if_neg hno,if_pos]
        exact⟨hi,ht,fun _=>⟨hp,by omega⟩⟩
    · have h0':decide (0<(i:Int))=false:=decide_eq_false (by omega)
      have hr:DN ts i:=⟨hi,ht,fun h=>absurd h h0⟩
      simp only[D9,AG hi,AI,Bool.and_self,cond_true,AH hi,FP,Option.bind_some,decide_eq_true ht,Bool.not_true,cond_false,h0',AL hil,if_pos hr]
  · have hr: ¬DN ts i:=fun⟨_,h,_⟩=>ht h
    simp only[D9,AG hi,AI,Bool.and_self,cond_true,AH hi,FP,Option.bind_some,decide_eq_false ht,Bool.not_false,if_neg hr]
 rw[X0]
 by_cases hall: ∀i,i<ts.length→DN ts i
 · have hd:decide (TasksOk ts)=decide (ts.length≤12):=decide_eq_decide.2 ((Sr ts).trans ⟨fun h=>h.2.2,fun h=>⟨(J9.1 hall).1,(J9.1 hall).2,h⟩⟩)
   rw[hd];refine Ak (l:=fun m i=>D9 n m ts (i:Int) (some (false,())) (some (decide (ts.length≤12),()))) (len:=ts.length) (fun _=>True) trivial (fun m _=> ?_) (fun m i hi _=>.inl ⟨?_,trivial⟩) hn
   ·simp only[D9,AW,cond_false]
   ·rw[hstep none _ _ m i hi,if_pos (hall i hi)]
 · have hd: ¬TasksOk ts:=fun h=>hall (J9.2 ⟨h.each,h.sorted⟩)
   rw[decide_eq_false hd];refine Ak (l:=fun m i=>D9 n m ts (i:Int) (some (false,())) (some (decide (ts.length≤12),()))) (len:=ts.length) (fun i=> ∀j,j<i→DN ts j) (fun j h=>absurd h (Nat.not_lt_zero j)) (fun m hI=>absurd hI hall) (fun m i hi hI=> ?_) hn
   rw[hstep none _ _ m i hi]
   by_cases hr:DN ts i
   · rw[if_pos hr]
     exact .inl ⟨rfl,fun j hj=>by
      by_cases e:j=i
      ·subst e;exact hr
      ·exact hI j (by omega)⟩
   ·rw[if_neg hr];exact .inr rfl
theorem sQ{s:Sys}{cpu:Int}(hb:s.Floors.length≤lim):N3 s cpu=some (Bw s cpu,()):=by
 simp only[N3,BV,Option.bind_some];exact UX hb
theorem Uw{s:Sys}{cpu:Int}(hb:s.Floors.length≤lim):GE s cpu=some (Bw s cpu,()):=by
 simp only[GE,Bx,Option.bind_some];exact UX hb
end Go.Proofs.YthoholbeacojfaaGreat.VR
end
section
set_option linter.unusedVariables false
set_option linter.unusedSimpArgs false
namespace Go.Proofs.YthoholbeacojfaaGreat.VR
open Go
theorem ct{α:Type}{l v12:List Lock}{W ys:List Int}{a b:Int}{n:Nat}{k0 k1:List Int→Option α}{K:Option α}(hk: ∀w,k0 w=K)(hW:W.Nodup)(hn:(W++ys).length<n)(hb:(W++ys).length+1≤lim):
 E3 n n l W v12 a b ys (ys.length:Int) 0 k0 k1=if F7 W ys then k1 (W++ys)else K:=by
 have hlen:(W++ys).length=W.length+ys.length:=List.length_append;have:=Ak (l:=fun m j=>E3 n m l (W++ys.take j) v12 a b ys (ys.length:Int) (j:Int) k0 k1) (len:=ys.length)
  (r:=if F7 W ys then k1 (W++ys)else K) (fun j=>(∀y∈ys.take j,1≤y∧y≤1000)∧(W++ys.take j).Nodup) (by simpa using hW) (fun m hI=> ?_) (fun m j hj hI=> ?_) (m:=n) (by omega)
 ·simpa using this
 · rw[List.take_length]at hI
   rw[if_pos (show F7 W ys from hI)]
   simp only[E3,AW,cond_false,List.take_length]
 · have hjl:j<Ab:=Nat.lt_trans hj (AY (by omega))
   have htl:(ys.take j).length=j:=by simp;omega
   have e3:=IK (xs:=W++ys.take j) (x:=ys[j]) (n:=n) (by rw[List.length_append,htl];omega) (by rw[List.length_append,htl];omega)
   by_cases h1:1≤ys[j]∧ys[j]≤1000
   · by_cases h2:ys[j]∈W++ys.take j
     · right
       rw[if_neg]
       ·simp only[E3,AG hj,AI,Bool.and_self,cond_true,AH hj,Lk,Option.bind_some,decide_eq_true h1,Bool.not_true,cond_false,e3,decide_eq_true h2,hk]
       · rintro⟨_,h3⟩
         have e:W++ys=(W++ys.take j)++ys[j]::ys.drop (j+1):=by
          rw[List.append_assoc,←List.drop_eq_getElem_cons hj,List.take_append_drop]
         rw[e,List.nodup_append]at h3;exact h3.2.2 _ h2 _ (List.mem_cons_self ..) rfl
     · left
       have e4:decide ((W++ys.take j).length+[ys[j]].length≤lim)=true:=decide_eq_true (by rw[List.length_append,htl];simp;omega)
       refine⟨?_,?_,?_⟩
       · simp only[E3,AG hj,AI,Bool.and_self,cond_true,AH hj,Lk,Option.bind_some,decide_eq_true h1,Bool.not_true,cond_false,e3,decide_eq_false h2,e4,AL hjl]
         rw[List.take_succ_eq_append_getElem hj,List.append_assoc]
       · intro y hy
         rw[List.take_succ_eq_append_getElem hj]at hy;rcases List.mem_append.1 hy with hy|hy
         ·exact hI.1 y hy
         ·simp at hy;subst hy;exact h1
       · rw[List.take_succ_eq_append_getElem hj,←List.append_assoc,List.nodup_append]
         exact⟨hI.2,by simp,fun x hx y hy e=>by simp at hy;subst hy;subst e;exact h2 hx⟩
   · right
     rw[if_neg (fun h=>h1 (h.1 _ (List.getElem_mem hj)))]
     simp only[E3,AG hj,AI,Bool.and_self,cond_true,AH hj,Lk,Option.bind_some,decide_eq_false h1,Bool.not_false,hk]
theorem Lh{l:List Lock}{B n:Nat}(hl:LBound B l)(hn:B+2<n)(hb:B+2≤lim):GF n l=some (decide (LocksOk l),()):=by
 unfold GF;have hlen:=hl.len;have hall:=hl.all;have key: ∀k2:List Int→Option (Bool×Unit),DW n n l ([]:List Int) l (l.length:Int) 0 (fun w26=>some (false,())) (fun w27=>some (false,())) k2=if LPre l then k2 (AT l)else some (false,()):=by
  intro k2;have:=Ak (l:=fun m i=>DW n m l (AT (l.take i)) l (l.length:Int) (i:Int) (fun w26=>some (false,())) (fun w27=>some (false,())) k2) (len:=l.length)
   (r:=if LPre l then k2 (AT l)else some (false,())) (fun i=>LPre (l.take i)) ⟨fun k hk=>by simp at hk,fun x hx=>by simp[AT]at hx,by simp[AT]⟩ (fun m hI=> ?_) (fun m i hi hI=> ?_) (m:=n) (by omega)
  ·simpa[AT]using this
  · rw[List.take_length]at hI
    rw[if_pos hI];simp only[DW,AW,cond_false,List.take_length]
  · have hil:=Nat.lt_trans hi (AY (show l.length≤lim by omega))
    have htw:=Y1 (l:=l) (i+1);rw[HG hi]at htw;have hin:=ct (l:=l) (v12:=l) (W:=AT (l.take i)) (ys:=l[i].Waits) (a:=(l.length:Int)) (b:=(i:Int)) (n:=n) (k0:=fun w=>some (false,())) (K:=some (false,()))
     (k1:=fun w22=>DW n m l w22 l (l.length:Int) ((i+1:Nat):Int) (fun w26=>some (false,())) (fun w27=>some (false,())) k2) (fun _=>rfl) hI.nodup (by omega) (by omega)
    have hno: ¬LPre (l.take (i+1))→ ¬LPre l:=fun h hp=>h (hp.take _)
    by_cases ho:0≤l[i].Owner∧l[i].Owner≤1000
    · by_cases hz:l[i].Owner=0
      · by_cases hw:l[i].Waits=[]
        · left
          refine⟨?_,(Jt hi).2 ⟨hI,⟨ho,fun _=>hw⟩,(by rw[hw];intro y hy;cases hy),(by rw[hw,List.append_nil];exact hI.nodup)⟩⟩
          have h0: ¬0<(l[i].Waits.length:Int):=by rw[hw];simp
          simp only[DW,AG hi,AI,Bool.and_self,cond_true,AH hi,Bx,Option.bind_some,decide_eq_true ho,Bool.not_true,cond_false,decide_eq_true hz,decide_eq_false h0,AL hil];rw[hin,if_pos (show F7 _ _ from⟨(by rw[hw];intro y hy;cases hy),(by rw[hw,List.append_nil];exact hI.nodup)⟩),HG hi]
        · right
          have h0:0<(l[i].Waits.length:Int):=by have:=List.length_pos_iff.2 hw;omega
          rw[if_neg (hno fun hp=>hw (((Jt hi).1 hp).2.1.2 hz))]
          simp only[DW,AG hi,AI,Bool.and_self,cond_true,AH hi,Bx,Option.bind_some,decide_eq_true ho,Bool.not_true,cond_false,decide_eq_true hz,decide_eq_true h0]
      · have e:DW n (m+1) l (AT (l.take i)) l (l.length:Int) (i:Int) (fun w26=>some (false,())) (fun w27=>some (false,())) k2=
         if F7 (AT (l.take i)) l[i].Waits then DW n m l (AT (l.take i)++l[i].Waits) l (l.length:Int) ((i+1:Nat):Int) (fun w26=>some (false,())) (fun w27=>some (false,())) k2 else some (false,()):=by
         rw[←hin];simp only[DW,AG hi,AI,Bool.and_self,cond_true,AH hi,Bx,Option.bind_some,decide_eq_true ho,Bool.not_true,cond_false,decide_eq_false hz,AL hil]
        rw[e]
        by_cases hc:F7 (AT (l.take i)) l[i].Waits
        · left
          rw[if_pos hc,HG hi];exact⟨rfl,(Jt hi).2 ⟨hI,⟨ho,fun h=>absurd h hz⟩,hc.1,hc.2⟩⟩
        · right
          rw[if_neg hc,if_neg (hno fun hp=>hc ⟨((Jt hi).1 hp).2.2.1,((Jt hi).1 hp).2.2.2⟩)]
    · right
      rw[if_neg (hno fun hp=>ho ((Jt hi).1 hp).2.1.1)]
      simp only[DW,AG hi,AI,Bool.and_self,cond_true,AH hi,Bx,Option.bind_some,decide_eq_false ho,Bool.not_false]
 rw[key];have hlast: ∀w:List Int,w.length≤B→Ht n n l w (w.length:Int) 0 (some (false,())) (some ((decide ((l.length:Int)≤5)),()))=cond (w.all fun x=>(BD l x).isSome) (some ((decide ((l.length:Int)≤5)),())) (some (false,())):=by
  intro w hw;have:=Du (l:=fun m i=>Ht n m l w (w.length:Int) i (some (false,())) (some ((decide ((l.length:Int)≤5)),()))) (xs:=w) (p:=fun x=>(BD l x).isSome) (k0:=some (false,())) (k1:=some ((decide ((l.length:Int)≤5)),()))
   (fun m=>by simp only[Ht,AW,cond_false]) (fun m i hi=>by
     have e:=Q9 (l:=l) (no:=w[i]) hl.small (show B+1<n by omega) (show B+1≤lim by omega)
     simp only[Ht,AG hi,AI,Bool.and_self,cond_true,AH hi,e,Option.bind_some,AL (Nat.lt_trans hi (AY (show w.length≤lim by omega)))]
     cases BD l w[i]<;>rfl) (m:=n) (by omega)
  exact this
 by_cases hp:LPre l
 · rw[if_pos hp,hlast _ hall,D0]
   refine DO ?_;rw[CC,Gy];simp only[List.all_eq_true,decide_eq_true_eq,Bool.false_eq_true,and_false,or_false];constructor
   · rintro⟨h1,h2⟩
     exact⟨by omega,hp.own,hp.nos,hp.nodup,h1⟩
   · rintro⟨h1,_,_,_,h5⟩
     exact⟨h5,by omega⟩
 · rw[if_neg hp,decide_eq_false]
   intro h;exact hp ⟨h.own,h.nos,h.nodup⟩
theorem uC{α:Type}{l:List Lock}{x:Int}{i:Nat}{B n c:Nat}(hi:i<l.length)(hl:LBound B l)(hn:B<n)(hb:B≤lim)(hc:c≤B){k:Int→Option α}:
 Gv n n l x (c:Int) (i:Int) 0 k=k ((c+CT x l[i].Waits:Nat):Int):=by
 have hw:=Nat.le_trans (Dd (List.getElem_mem hi)) hl.all;have:=Ak (l:=fun m j=>Gv n m l x ((c+CT x (l[i].Waits.take j):Nat):Int) (i:Int) (j:Int) k) (len:=l[i].Waits.length) (r:=k ((c+CT x l[i].Waits:Nat):Int)) (fun _=>True) trivial (fun m _=> ?_) (fun m j hj _=>.inl ⟨?_,trivial⟩) (m:=n) (by omega)
 ·simpa[CT]using this
 ·simp only[Gv,AG hi,AI,Bool.and_self,cond_true,AH hi,AW,cond_false,List.take_length]
 · have hcl:=P5 (fun y:Int=>decide (y=x)) l[i].Waits j
   have hlm:c+CT x (l[i].Waits.take j)<Ab:=by unfold CT;unfold lim at hb;unfold Ab;omega
   have e:CT x (l[i].Waits.take (j+1))=CT x (l[i].Waits.take j)+cond (decide (l[i].Waits[j]=x)) 1 0:=P6 _ hj;simp only[Gv,AG hi,AI,Bool.and_self,cond_true,AH hi,AG hj,AH hj,AL (Nat.lt_trans hj (AY (show l[i].Waits.length≤lim by omega))),AL hlm,e]
   cases decide (l[i].Waits[j]=x)<;>rfl
theorem tA{l:List Lock}{x:Int}{B n:Nat}(hl:LBound B l)(hn:B<n)(hb:B≤lim):OV n l x=some (((CT x (AT l):Nat):Int),()):=by
 unfold OV;have hlen:=hl.len;have hall:=hl.all;have:=Ak (l:=fun m i=>Jp n m l x ((CT x (AT (l.take i)):Nat):Int) (i:Int) (fun w13=>some (w13,()))) (len:=l.length) (r:=some (((CT x (AT l):Nat):Int),())) (fun _=>True) trivial (fun m _=> ?_) (fun m i hi _=>.inl ⟨?_,trivial⟩) (m:=n) (by omega)
 ·simpa[CT,AT]using this
 ·simp only[Jp,AW,cond_false,List.take_length]
 · have hle:CT x (AT (l.take i))≤B:=Nat.le_trans List.countP_le_length (Nat.le_trans (Y1 i) hall)
   simp only[Jp,AG hi,cond_true,uC hi hl hn hb hle,AL (Nat.lt_trans hi (AY (show l.length≤lim by omega)))]
   rw[HG hi];unfold CT;rw[List.countP_append]
theorem YZ{α:Type}{l:List Lock}{i:Nat}{B n:Nat}(hi:i<l.length)(hl:LBound B l)(hn:B+2<n)(hb:B+2≤lim){k0 k1:Option α}:
 EV n n l (i:Int) 0 k0 k1=cond (l[i].Waits.all fun x=>decide (FJ l x)) k1 k0:=by
 have hw:=Nat.le_trans (Dd (List.getElem_mem hi)) hl.all;have:=Du (l:=fun m j=>EV n m l (i:Int) j k0 k1) (xs:=l[i].Waits) (p:=fun x=>decide (FJ l x)) (k0:=k0) (k1:=k1)
  (fun m=>by simp only[EV,AG hi,AI,Bool.and_self,cond_true,AH hi,AW,cond_false]) (fun m j hj=> ?_) (m:=n) (by omega)
 ·exact this
 · have e2:=tA (x:=l[i].Waits[j]) hl (show B<n by omega) (show B≤lim by omega)
   have hjl:=Nat.lt_trans hj (AY (show l[i].Waits.length≤lim by omega))
   by_cases h1:1≤l[i].Waits[j]∧l[i].Waits[j]≤1000
   · by_cases h2:CT l[i].Waits[j] (AT l)=1
     · have h2':((CT l[i].Waits[j] (AT l):Nat):Int)=1:=by omega
       cases e:BD l l[i].Waits[j]with
       |some c=>
        have ho:FJ l l[i].Waits[j]:=⟨h1,h2,by rw[e];rfl⟩
        simp only[EV,AG hi,AI,Bool.and_self,cond_true,AH hi,AG hj,AH hj,PO hl.small hn hb e,Option.bind_some,BV,decide_eq_true h1,Bool.not_true,cond_false,e2,decide_eq_true h2',AL hjl,decide_eq_true ho]
       |none=>
        have ho: ¬FJ l l[i].Waits[j]:=fun h=>by have:=h.2.2;rw[e]at this;cases this
        obtain⟨w,hc⟩:=Sc hl.small hn hb e;simp only[EV,AG hi,AI,Bool.and_self,cond_true,AH hi,AG hj,AH hj,hc,Option.bind_some,BV,decide_eq_true h1,Bool.not_true,cond_false,e2,decide_eq_true h2',Bool.not_false,decide_eq_false ho]
     · have h2': ¬((CT l[i].Waits[j] (AT l):Nat):Int)=1:=by omega
       have ho: ¬FJ l l[i].Waits[j]:=fun h=>h2 h.2.1
       obtain⟨w,b,hc⟩: ∃w b,Hh n l l[i].Waits[j]=some ((w,b,()),()):=by
        cases e:BD l l[i].Waits[j]with
        |some c=>exact⟨_,_,PO hl.small hn hb e⟩
        |none=>obtain⟨w,hc⟩:=Sc hl.small hn hb e;exact⟨w,_,hc⟩
       simp only[EV,AG hi,AI,Bool.and_self,cond_true,AH hi,AG hj,AH hj,hc,Option.bind_some,BV,decide_eq_true h1,Bool.not_true,cond_false,e2,decide_eq_false h2',Bool.not_false,decide_eq_false ho,cond_false]
   · have ho: ¬FJ l l[i].Waits[j]:=fun h=>h1 h.1
     obtain⟨w,b,hc⟩: ∃w b,Hh n l l[i].Waits[j]=some ((w,b,()),()):=by
      cases e:BD l l[i].Waits[j]with
      |some c=>exact⟨_,_,PO hl.small hn hb e⟩
      |none=>obtain⟨w,hc⟩:=Sc hl.small hn hb e;exact⟨w,_,hc⟩
     simp only[EV,AG hi,AI,Bool.and_self,cond_true,AH hi,AG hj,AH hj,hc,Option.bind_some,BV,decide_eq_false h1,Bool.not_false,decide_eq_false ho,cond_false]
theorem IL{l:List Lock}{B n:Nat}(hl:LBound B l)(hn:B+2<n)(hb:B+2≤lim):Fb n l=some (decide (LocksOk l),()):=by
 unfold Fb;have hlen:=hl.len
 by_cases h5:5<(l.length:Int)
 · rw[decide_eq_true h5,cond_true,decide_eq_false]
   intro h;have:=h.len;omega
 rw[decide_eq_false h5,cond_false];have:=Du (l:=fun m i=>FA n m l i (some (false,())) (some (true,()))) (xs:=l) (p:=fun k=>decide (FK k)&&k.Waits.all fun x=>decide (FJ l x)) (k0:=some (false,())) (k1:=some (true,()))
  (fun m=>by simp only[FA,AW,cond_false]) (fun m i hi=> ?_) (m:=n) (by omega)
 · refine this.trans ?_
   rw[D0];refine DO ?_;rw[CC,Gy];simp only[List.all_eq_true,Bool.and_eq_true,decide_eq_true_eq,Bool.false_eq_true,and_false,or_false,and_true];constructor
   · intro h
     have hx: ∀x∈AT l,FJ l x:=fun x hx=>by
      obtain⟨k,hk,hx⟩:=List.mem_flatMap.1 hx;exact(h k hk).2 x hx
     exact⟨by omega,fun k hk=>(h k hk).1,fun x hx'=>(hx x hx').1,Vs.2 fun x hx'=>(hx x hx').2.1,fun x hx'=>(hx x hx').2.2⟩
   · rintro⟨h1,h2,h3,h4,h6⟩ k hk
     refine⟨h2 k hk,fun x hx=> ?_⟩
     have hx':x∈AT l:=List.mem_flatMap.2 ⟨k,hk,hx⟩;exact⟨h3 x hx',Vs.1 h4 x hx',h6 x hx'⟩
 · have hil:=Nat.lt_trans hi (AY (show l.length≤lim by omega))
   by_cases ho:0≤l[i].Owner∧l[i].Owner≤1000
   · by_cases hz:l[i].Owner=0
     · by_cases hw:l[i].Waits=[]
       · have hown:FK l[i]:=⟨ho,fun _=>hw⟩
         have h0: ¬0<(l[i].Waits.length:Int):=by rw[hw];simp
         simp only[FA,AG hi,AI,Bool.and_self,cond_true,AH hi,BV,Option.bind_some,decide_eq_true ho,Bool.not_true,cond_false,decide_eq_true hz,decide_eq_false h0,AL hil,YZ hi hl hn hb,decide_eq_true hown,Bool.true_and]
       · have hown: ¬FK l[i]:=fun h=>hw (h.2 hz)
         have h0:0<(l[i].Waits.length:Int):=by have:=List.length_pos_iff.2 hw;omega
         simp only[FA,AG hi,AI,Bool.and_self,cond_true,AH hi,BV,Option.bind_some,decide_eq_true ho,Bool.not_true,cond_false,decide_eq_true hz,decide_eq_true h0,decide_eq_false hown,Bool.false_and]
     · have hown:FK l[i]:=⟨ho,fun h=>absurd h hz⟩
       simp only[FA,AG hi,AI,Bool.and_self,cond_true,AH hi,BV,Option.bind_some,decide_eq_true ho,Bool.not_true,cond_false,decide_eq_false hz,AL hil,YZ hi hl hn hb,decide_eq_true hown,Bool.true_and]
   · have hown: ¬FK l[i]:=fun h=>ho h.1
     simp only[FA,AG hi,AI,Bool.and_self,cond_true,AH hi,BV,Option.bind_some,decide_eq_false ho,Bool.not_false,decide_eq_false hown,Bool.false_and,cond_false]
end Go.Proofs.YthoholbeacojfaaGreat.VR
end
