/- Functions, printed by program (wip/gen/emit.py). -/
import Derived.Test.YthoholbeacojfaaGreatA14
set_option linter.unusedVariables false
set_option linter.unusedSimpArgs false
set_option linter.unusedSectionVars false
section
set_option linter.unusedVariables false
set_option maxRecDepth 100000
namespace Go.Proofs.YthoholbeacojfaaGreat.VR
open Go
def Ms(a0:Task)(a1:Sys)(a2_0:Int):Option (Bool×Unit):=cond (decide (0≤a2_0)&&decide (a2_0<(a1.Tasks.length:Int))) ((HS a0 (List.getD a1.Tasks (Int.toNat a2_0) (Kd.dflt .task))).bind fun r1=>some (r1.1,())) none
def gO:Rw:=⟨115,pV [Au,.rp Ah 0,.rp (pD [.int]) 0],pS [.bool],fun x=>Ms (AC x.1) (AS x.2.1) x.2.2.1.1⟩
theorem gP:RO (gO):=
 rE ⟨Go.Proofs.Tryz.f115,⟨[(0,[(0,.slot 0 .int)]),(1,[(6,cl 2 .bool 0)])],[(1,dr 8 [(0,[0],[])])],[]⟩,1⟩ 0 (ec Wt en) Go.Proofs.Tryz.func115 (by kernel_rfl) (fun x=>by kernel_rfl)
def JY{α:Type}(n:Nat):Nat→List Task→Sys→Int→Int→Int→(Int→Option α)→(Option α)→Option α|0,_,_,_,_,_,_,_=>none|m0+1,v1,v2,v3,v4,v5,k0_0,k0_1=>cond (decide (v5<v4)) (cond (decide (0≤v5)&&decide (v5<(v1.length:Int))) ((Ms (List.getD v1 (Int.toNat v5) (Kd.dflt .task)) v2 v3).bind fun r6=>cond r6.1 (k0_0 v5) (JY n m0 v1 v2 v3 v4 (w64 (v5+1)) k0_0 k0_1)) none) k0_1
def Qc(n:Nat)(a0:List Task)(a1_0:Sys)(a1_1_0:Int):Option (Int×Unit):=JY n n a0 a1_0 a1_1_0 (a0.length:Int) 0 (fun w7=>some (w7,())) (some ((-1),()))
def ld(n:Nat):Rw:=⟨97,pV [.ro .task,.clo 115 (pD [.rp Ah 0,.rp (pD [.int]) 0])],pS [.int],fun x=>Qc n x.1.2 (AS x.2.1.1) x.2.1.2.1.1⟩
def qV(n:Nat):LS:=AN ⟨2,[0,1,7,8],[],[],[4],[]⟩ 19 [0,1,7,8] 0 (pD [.ro .task,.clo 115 (pD [.rp Ah 0,.rp (pD [.int]) 0]),.int,.int]) [] (fun m x k=>JY n m x.1.1.2 (AS x.1.2.1.1) x.1.2.1.2.1.1 x.1.2.2.1 x.1.2.2.2.1 (fun w0=>k .ret (eS 19 [4] [.int w0] 0 [])) (k (.exit 0) (eS 19 [] [] 0 [])))
theorem lf(n:Nat):RO (ld n):=
 rL ⟨Go.Proofs.Tryz.f97,⟨[(4,[(5,cl 1 .bool 0)])],[],[]⟩,0⟩ [qV n] n (ec gP en) Go.Proofs.Tryz.func97 (by kernel_rfl) ⟨AO (fun m x k=>by kernel_rfl) (fun _ _=>rfl),trivial⟩ (fun x=>by kernel_rfl)
def K2(n:Nat)(a0:List Task)(a1_0:Sys)(a1_1_0:Int):Option (Bool×Unit):=(Qc n a0 a1_0 a1_1_0).bind fun r1=>some ((decide (0≤r1.1)),())
def kw(n:Nat):Rw:=⟨74,pV [.ro .task,.clo 115 (pD [.rp Ah 0,.rp (pD [.int]) 0])],pS [.bool],fun x=>K2 n x.1.2 (AS x.2.1.1) x.2.1.2.1.1⟩
theorem kx(n:Nat):RO (kw n):=
 rE ⟨Go.Proofs.Tryz.f74,⟨[(1,[(2,cl 2 .int 0)])],[],[]⟩,0⟩ n (ec (lf n) en) Go.Proofs.Tryz.func74 (by kernel_rfl) (fun x=>by kernel_rfl)
def Fj{α:Type}(n:Nat):Nat→Sys→Int→Int→(Option α)→(Option α)→Option α|0,_,_,_,_,_=>none|m0+1,v2,v3,v4,k0_0,k0_1=>cond (decide (v4<v3)) ((Ky n v2.Tasks v2.Locks v4).bind fun r5=>(Is n v2.Tasks v2.Locks v4).bind fun r6=>cond (decide (r6.1.1=0)) (cond (decide (0<(r5.1.length:Int))) k0_0 ((Bu n v2.Tasks r6.1.1).bind fun r7=>cond (decide (0≤r7.1)) ((K2 n r5.1 v2 r7.1).bind fun r8=>cond r8.1 k0_0 (Fj n m0 v2 v3 (w64 (v4+1)) k0_0 k0_1)) (Fj n m0 v2 v3 (w64 (v4+1)) k0_0 k0_1))) ((Bu n v2.Tasks r6.1.1).bind fun r9=>cond (decide (0≤r9.1)) ((K2 n r5.1 v2 r9.1).bind fun r10=>cond r10.1 k0_0 (Fj n m0 v2 v3 (w64 (v4+1)) k0_0 k0_1)) (Fj n m0 v2 v3 (w64 (v4+1)) k0_0 k0_1))) k0_1
def Kk(n:Nat)(a0:Sys):Option (Bool×Unit):=(CV n a0).bind fun r1=>cond (!r1.1) (some (false,())) (Fj n n a0 a0.Cpus 0 (some (false,())) (some (true,())))
def gN(n:Nat):Rw:=⟨39,pV [Aq],pS [.bool],fun x=>Kk n (AS x.1)⟩
def pb(n:Nat):LS:=AN ⟨4,[1,12,13],[],[1],[2],[]⟩ 50 [1,12,13] 13 (pD [.ptr 0 0,.int,.int]) [.box Ah] (fun m x k=>Fj n m (AS x.2.1) x.1.2.1 x.1.2.2.1 (k .ret (eS 50 [2] [.bool false] 44 [])) (k (.exit 0) (eS 50 [] [] 44 [])))
theorem Wz(n:Nat):RO (gN n):=
 rL ⟨Go.Proofs.Tryz.f39,⟨[(0,[(0,.slot 0 .int)]),(1,[(1,cl 1 .bool 0)]),(6,[(5,Wa)]),(7,[(5,O2)]),(10,[(3,cl 2 .int 0),(4,.slot 1 .int)]),(11,[(5,cl 2 .bool 0)])],[],[]⟩,2⟩ [pb n] n (ec (C4 n) (ec (XH n) (ec (Rz n) (ec (DM n) (ec (kx n) en))))) Go.Proofs.Tryz.func39 (by kernel_rfl) ⟨AO (fun m x k=>by kernel_rfl) (fun _ _=>rfl),trivial⟩ (fun x=>by kernel_rfl)
def Hs{α:Type}(n:Nat):Nat→Sys→List Int→Int→Int→(Option α)→(Option α)→Option α|0,_,_,_,_,_,_=>none|m0+1,v2,v3,v4,v5,k0_0,k0_1=>cond (decide (v5<v4)) ((Is n v2.Tasks v2.Locks v5).bind fun r6=>cond (!(decide (r6.1.2.1=0))) ((GK n v3 r6.1.2.1).bind fun r7=>cond r7.1 k0_0 (cond (decide ((v3).length+(([r6.1.2.1]:List Int)).length≤lim)) (Hs n m0 v2 (v3++([r6.1.2.1]:List Int)) v4 (w64 (v5+1)) k0_0 k0_1) none)) (cond (decide ((v3).length+(([r6.1.2.1]:List Int)).length≤lim)) (Hs n m0 v2 (v3++([r6.1.2.1]:List Int)) v4 (w64 (v5+1)) k0_0 k0_1) none)) k0_1
def Kj(n:Nat)(a0:Sys):Option (Bool×Unit):=(CV n a0).bind fun r1=>cond (!r1.1) (some (false,())) (Hs n n a0 ([]:List Int) a0.Cpus 0 (some (false,())) (some (true,())))
def gM(n:Nat):Rw:=⟨40,pV [Aq],pS [.bool],fun x=>Kj n (AS x.1)⟩
def pa(n:Nat):LS:=AN ⟨5,([1,3,12,13]),[(.t 3,2,.int)],[3,4],[2],[3,4]⟩ 37 [1,3,12,13] 14133 (pD [.ptr 0 0,.bor 2,.int,.int]) [.box Ah,.root .int] (fun m x k=>Hs n m (AS x.2.1) x.2.2.1 x.1.2.2.1 x.1.2.2.2.1 (k .ret (eS 37 [2] [.bool false] 44433 [])) (k (.exit 0) (eS 37 [] [] 44433 [])))
theorem Wy(n:Nat):RO (gM n):=
 rL ⟨Go.Proofs.Tryz.f40,⟨[(0,[(0,.slot 0 .int)]),(1,[(1,cl 1 .bool 0)]),(3,[(0,.slot 1 .int)]),(7,[(5,O2)]),(8,[(5,cl 2 .bool 0)]),(10,[(2,.slot 3 .int),(3,.slot 4 .int)])],[],[]⟩,5⟩ [pa n] n (ec (C4 n) (ec (Rz n) (ec (L8 n) en))) Go.Proofs.Tryz.func40 (by kernel_rfl) ⟨AO (fun m x k=>by kernel_rfl) (fun _ _=>rfl),trivial⟩ (fun x=>by kernel_rfl)
def Jf{α:Type}(n:Nat):Nat→Sys→Int→(Option α)→(Option α)→Option α|0,_,_,_,_=>none|m0+1,v3,v4,k0_0,k0_1=>cond (decide (v4<(v3.Trace.length:Int))) (cond (decide (0≤v4)&&decide (v4<(v3.Trace.length:Int))) (cond (decide (v3.Cpus=0)) none (let e5:=(!(decide ((List.getD v3.Trace (Int.toNat v4) (Kd.dflt .turn)).Cpu=(Int.tmod v4 v3.Cpus))));cond e5 k0_0 (let e6:=(decide ((List.getD v3.Trace (Int.toNat v4) (Kd.dflt .turn)).Context=0));let e7:=(decide ((List.getD v3.Trace (Int.toNat v4) (Kd.dflt .turn)).Executor=0));cond (!(e6==e7)) k0_0 (Jf n m0 v3 (w64 (v4+1)) k0_0 k0_1)))) none) k0_1
def N8(n:Nat)(a0:Sys):Option (Bool×Unit):=(Bf n a0).bind fun r1=>cond (!r1.1) (some (false,())) (cond (decide (a0.Cpus=0)) none (let e2:=(!(decide ((Int.tmod (a0.Trace.length:Int) a0.Cpus)=0)));cond e2 (some (false,())) (Jf n n a0 0 (some (false,())) (some (true,())))))
def mr(n:Nat):Rw:=⟨41,pV [Aq],pS [.bool],fun x=>N8 n (AS x.1)⟩
def qi(n:Nat):LS:=AN ⟨4,[1,3],[],[1],[2],[]⟩ 45 [1,3] 13 (pD [.ptr 0 0,.int]) [.box Ah] (fun m x k=>Jf n m (AS x.2.1) x.1.2.1 (k .ret (eS 45 [2] [.bool false] 44 [])) (k (.exit 0) (eS 45 [] [] 44 [])))
theorem mt(n:Nat):RO (mr n):=
 rL ⟨Go.Proofs.Tryz.f41,⟨[(0,[(0,.slot 0 .int)]),(1,[(1,cl 1 .bool 0)]),(6,[(5,.slot 1 .int)])],[(7,dr 16 [(0,[1],[]),(1,[1],[]),(3,[0],[]),(4,[0],[]),(8,[1],[]),(9,[1],[]),(11,[1],[]),(12,[1],[])])],[]⟩,2⟩ [qi n] n (ec (CY n) en) Go.Proofs.Tryz.func41 (by kernel_rfl) ⟨AO (fun m x k=>by kernel_rfl) (fun _ _=>rfl),trivial⟩ (fun x=>by kernel_rfl)
def N6(n:Nat)(a0:Sys):Option (Bool×Unit):=(Bf n a0).bind fun r1=>cond r1.1 (some ((decide (a0.Missed=0)),())) (some (false,()))
def mn(n:Nat):Rw:=⟨42,pV [Aq],pS [.bool],fun x=>N6 n (AS x.1)⟩
theorem mo(n:Nat):RO (mn n):=
 rE ⟨Go.Proofs.Tryz.f42,⟨[(0,[(0,.slot 0 .int)]),(1,[(1,cl 1 .bool 0)])],[],[]⟩,1⟩ n (ec (CY n) en) Go.Proofs.Tryz.func42 (by kernel_rfl) (fun x=>by kernel_rfl)
def Gi{α:Type}(n:Nat):Nat→Sys→Int→(Option α)→(Option α)→Option α|0,_,_,_,_=>none|m0+1,v2,v3,k0_0,k0_1=>cond (decide (v3<(v2.Tasks.length:Int))) (cond (decide (0≤v3)&&decide (v3<(v2.Tasks.length:Int))) (let e4:=(decide ((List.getD v2.Tasks (Int.toNat v3) (Kd.dflt .task)).Class=3));cond e4 (cond (!(List.getD v2.Tasks (Int.toNat v3) (Kd.dflt .task)).Idle) (cond ((decide (0≤(List.getD v2.Tasks (Int.toNat v3) (Kd.dflt .task)).Cpu))&&(decide ((List.getD v2.Tasks (Int.toNat v3) (Kd.dflt .task)).Cpu<(v2.Floors.length:Int)))) (let e5:=(List.getD v2.Floors (Int.toNat (List.getD v2.Tasks (Int.toNat v3) (Kd.dflt .task)).Cpu) (Kd.dflt .int));let e6:=(w64 ((List.getD v2.Tasks (Int.toNat v3) (Kd.dflt .task)).V-e5));(Ay e6 0 48).bind fun r7=>cond (!r7.1) k0_0 (Gi n m0 v2 (w64 (v3+1)) k0_0 k0_1)) none) (Gi n m0 v2 (w64 (v3+1)) k0_0 k0_1)) (Gi n m0 v2 (w64 (v3+1)) k0_0 k0_1)) none) k0_1
def N7(n:Nat)(a0:Sys):Option (Bool×Unit):=(Bf n a0).bind fun r1=>cond (!r1.1) (some (false,())) (Gi n n a0 0 (some (false,())) (some (true,())))
def mp(n:Nat):Rw:=⟨43,pV [Aq],pS [.bool],fun x=>N7 n (AS x.1)⟩
def qh(n:Nat):LS:=AN ⟨4,[1,3],[],[1],[2],[]⟩ 41 [1,3] 13 (pD [.ptr 0 0,.int]) [.box Ah] (fun m x k=>Gi n m (AS x.2.1) x.1.2.1 (k .ret (eS 41 [2] [.bool false] 44 [])) (k (.exit 0) (eS 41 [] [] 44 [])))
theorem mq(n:Nat):RO (mp n):=
 rL ⟨Go.Proofs.Tryz.f43,⟨[(0,[(0,.slot 0 .int)]),(1,[(1,cl 1 .bool 0)]),(6,[(5,.slot 1 .int)]),(7,[(18,cl 3 .bool 0)])],[(7,dr 21 [(0,[1],[]),(1,[1],[]),(4,[1],[]),(5,[1],[]),(9,[1],[]),(10,[1],[]),(11,[0],[]),(12,[0],[]),(13,[1],[]),(14,[1],[])])],[]⟩,2⟩ [qh n] n (ec (CY n) (ec Bz en)) Go.Proofs.Tryz.func43 (by kernel_rfl) ⟨AO (fun m x k=>by kernel_rfl) (fun _ _=>rfl),trivial⟩ (fun x=>by kernel_rfl)
def H4{α:Type}(n:Nat):Nat→Sys→Int→(Option α)→(Option α)→Option α|0,_,_,_,_=>none|m0+1,v2,v3,k0_0,k0_1=>cond (decide (v3<(v2.Tasks.length:Int))) (cond (decide (0≤v3)&&decide (v3<(v2.Tasks.length:Int))) ((I3 n v2.Tasks v2.Locks ((List.getD v2.Tasks (Int.toNat v3) (Kd.dflt .task)).Cpu)).bind fun r4=>(LW n v2.Tasks v2.Locks ((List.getD v2.Tasks (Int.toNat v3) (Kd.dflt .task)).No)).bind fun r5=>cond r5.1 (cond (decide (r4.1<0)) k0_0 (cond (decide (0≤r4.1)&&decide (r4.1<(v2.Tasks.length:Int))) ((GO (List.getD v2.Tasks (Int.toNat v3) (Kd.dflt .task)) (List.getD v2.Tasks (Int.toNat r4.1) (Kd.dflt .task))).bind fun r6=>cond r6.1 k0_0 (H4 n m0 v2 (w64 (v3+1)) k0_0 k0_1)) none)) (H4 n m0 v2 (w64 (v3+1)) k0_0 k0_1)) none) k0_1
def N5(n:Nat)(a0:Sys):Option (Bool×Unit):=(Bf n a0).bind fun r1=>cond (!r1.1) (some (false,())) (H4 n n a0 0 (some (false,())) (some (true,())))
def ml(n:Nat):Rw:=⟨44,pV [Aq],pS [.bool],fun x=>N5 n (AS x.1)⟩
def qg(n:Nat):LS:=AN ⟨4,[1,3],[],[1],[2],[]⟩ 48 [1,3] 13 (pD [.ptr 0 0,.int]) [.box Ah] (fun m x k=>H4 n m (AS x.2.1) x.1.2.1 (k .ret (eS 48 [2] [.bool false] 44 [])) (k (.exit 0) (eS 48 [] [] 44 [])))
theorem mm(n:Nat):RO (ml n):=
 rL ⟨Go.Proofs.Tryz.f44,⟨[(0,[(0,.slot 0 .int)]),(1,[(1,cl 1 .bool 0)]),(6,[(5,.slot 1 .int)]),(7,[(6,cl 3 .int 0)]),(8,[(6,cl 3 .bool 0),(17,cl 2 .bool 0)])],[(8,dr 20 [(0,[0],[]),(1,[0],[]),(2,[0],[]),(3,[0],[]),(4,[1],[]),(5,[1],[]),(11,[1],[]),(12,[0],[]),(13,[0],[])])],[]⟩,2⟩ [qg n] n (ec (CY n) (ec (SJ n) (ec (Xq n) (ec SC en)))) Go.Proofs.Tryz.func44 (by kernel_rfl) ⟨AO (fun m x k=>by kernel_rfl) (fun _ _=>rfl),trivial⟩ (fun x=>by kernel_rfl)
def OC(n:Nat)(a0:List Task)(a1:List Lock)(a2:Int):Option ((Int×Int×Unit)×Unit):=(EP n a0).bind fun r1=>cond (!r1.1) (some ((0,0,()),())) ((Fb n a1).bind fun r2=>cond (!r2.1) (some ((0,0,()),())) ((I3 n a0 a1 a2).bind fun r3=>cond (decide (r3.1<0)) (some ((0,0,()),())) (cond (decide (0≤r3.1)&&decide (r3.1<(a0.length:Int))) (cond (decide (0≤r3.1)&&decide (r3.1<(a0.length:Int))) ((I2 n a0 a1 ((List.getD a0 (Int.toNat r3.1) (Kd.dflt .task)).No)).bind fun r4=>some (((List.getD a0 (Int.toNat r3.1) (Kd.dflt .task)).No,r4.1,()),())) none) none)))
def nE(n:Nat):Rw:=⟨120,pV [.ro .task,.ro .lock,.int],Wb,fun x=>OC n x.1.2 x.2.1.2 x.2.2.1⟩
theorem nF(n:Nat):RO (nE n):=
 rE ⟨Go.Proofs.Tryz.f120,⟨[(1,[(1,cl 1 .bool 0),(5,cl 1 .bool 0)]),(3,[(3,cl 3 .int 0)]),(6,[(12,cl 3 .int 0)])],[(6,dr 15 [])],[]⟩,0⟩ n (ec (PE n) (ec (J2 n) (ec (SJ n) (ec (SI n) en)))) Go.Proofs.Tryz.func120 (by kernel_rfl) (fun x=>by kernel_rfl)
def Hz{α:Type}(n:Nat):Nat→Sys→List Int→Int→(Option α)→(Option α)→Option α|0,_,_,_,_,_=>none|m0+1,v2,v3,v4,k0_0,k0_1=>cond (decide (v4<v2.Cpus)) ((OC n v2.Tasks v2.Locks v4).bind fun r5=>cond (decide (0<r5.1.2.1)) ((Et n v3 r5.1.2.1).bind fun r6=>cond r6.1 k0_0 (cond (decide ((v3).length+(([r5.1.2.1]:List Int)).length≤lim)) (Hz n m0 v2 (v3++([r5.1.2.1]:List Int)) (w64 (v4+1)) k0_0 k0_1) none)) (cond (decide ((v3).length+(([r5.1.2.1]:List Int)).length≤lim)) (Hz n m0 v2 (v3++([r5.1.2.1]:List Int)) (w64 (v4+1)) k0_0 k0_1) none)) k0_1
def N4(n:Nat)(a0:Sys):Option (Bool×Unit):=(Bf n a0).bind fun r1=>cond (!r1.1) (some (false,())) (Hz n n a0 ([]:List Int) 0 (some (false,())) (some (true,())))
def mi(n:Nat):Rw:=⟨45,pV [Aq],pS [.bool],fun x=>N4 n (AS x.1)⟩
def qf(n:Nat):LS:=AN ⟨5,[1,3,4],[(.t 3,2,.int)],[3,4],[2],[3,4]⟩ 37 [1,3,4] 14133 (pD [.ptr 0 0,.bor 2,.int]) [.box Ah,.root .int] (fun m x k=>Hz n m (AS x.2.1) x.2.2.1 x.1.2.2.1 (k .ret (eS 37 [2] [.bool false] 44433 [])) (k (.exit 0) (eS 37 [] [] 44433 [])))
theorem mj(n:Nat):RO (mi n):=
 rL ⟨Go.Proofs.Tryz.f45,⟨[(0,[(0,.slot 0 .int)]),(1,[(1,cl 1 .bool 0)]),(3,[(0,.slot 1 .int)]),(7,[(5,O2)]),(8,[(5,cl 2 .bool 0)]),(10,[(2,.slot 3 .int),(3,.slot 4 .int)])],[],[]⟩,5⟩ [qf n] n (ec (CY n) (ec (nF n) (ec (J7 n) en))) Go.Proofs.Tryz.func45 (by kernel_rfl) ⟨AO (fun m x k=>by kernel_rfl) (fun _ _=>rfl),trivial⟩ (fun x=>by kernel_rfl)
def Ki(n:Nat)(a0:Sys):Option (Bool×Unit):=(Kn n a0).bind fun r1=>cond r1.1 ((Kl n a0).bind fun r2=>cond r2.1 ((Km n a0).bind fun r3=>cond r3.1 ((Kk n a0).bind fun r4=>cond r4.1 ((Kj n a0).bind fun r5=>some (r5.1,())) (some (false,()))) (some (false,()))) (some (false,()))) (some (false,()))
def gK(n:Nat):Rw:=⟨46,pV [Aq],pS [.bool],fun x=>Ki n (AS x.1)⟩
theorem gL(n:Nat):RO (gK n):=
 rE ⟨Go.Proofs.Tryz.f46,⟨[(0,[(0,.slot 0 .int)]),(1,[(1,cl 1 .bool 0),(4,cl 1 .bool 0),(8,cl 1 .bool 0),(12,cl 1 .bool 0),(16,cl 1 .bool 0)])],[],[]⟩,1⟩ n (ec (W5 n) (ec (W0 n) (ec (W4 n) (ec (Wz n) (ec (Wy n) en))))) Go.Proofs.Tryz.func46 (by kernel_rfl) (fun x=>by kernel_rfl)
def NS(n:Nat)(a0:List Int):Option (Bool×Unit):=(Dm a0).bind fun r1=>cond r1.1 (some (true,())) ((Nq n a0).bind fun r2=>(Kn n (AA r2.1)).bind fun r3=>(Kl n (AA r2.1)).bind fun r4=>(Km n (AA r2.1)).bind fun r5=>(Kk n (AA r2.1)).bind fun r6=>(Kj n (AA r2.1)).bind fun r7=>(N8 n (AA r2.1)).bind fun r8=>cond (!(r3.1==r8.1)) (some (false,())) ((N6 n (AA r2.1)).bind fun r9=>cond (!(r4.1==r9.1)) (some (false,())) ((N7 n (AA r2.1)).bind fun r10=>cond (!(r5.1==r10.1)) (some (false,())) ((N5 n (AA r2.1)).bind fun r11=>cond (!(r6.1==r11.1)) (some (false,())) ((N4 n (AA r2.1)).bind fun r12=>cond (!(r7.1==r12.1)) (some (false,())) ((Bf n (AA r2.1)).bind fun r13=>cond (!r13.1) (cond (!r3.1) (cond (!r4.1) (cond (!r5.1) (cond (!r6.1) (cond (!r7.1) ((Ki n (AA r2.1)).bind fun r14=>some ((!r14.1),())) (some (false,()))) (some (false,()))) (some (false,()))) (some (false,()))) (some (false,()))) ((Ki n (AA r2.1)).bind fun r15=>cond r3.1 (cond r4.1 (cond r5.1 (cond r6.1 (cond (r15.1==r7.1) (cond r6.1 (some (r7.1,())) (some (false,()))) (some (false,()))) (cond (r15.1==false) (cond r6.1 (some (r7.1,())) (some (false,()))) (some (false,())))) (cond (r15.1==false) (cond r6.1 (some (r7.1,())) (some (false,()))) (some (false,())))) (cond (r15.1==false) (cond r6.1 (some (r7.1,())) (some (false,()))) (some (false,())))) (cond (r15.1==false) (cond r6.1 (some (r7.1,())) (some (false,()))) (some (false,()))))))))))
def jr(n:Nat):Rw:=⟨7,pV [.rog .u8],pS [.bool],fun x=>NS n x.1⟩
theorem js(n:Nat):RO (jr n):=
 rE ⟨Go.Proofs.Tryz.f7,⟨[(1,[(1,cl 1 .bool 0)]),(3,[(1,O3),(2,.slot 0 .int)]),(4,[(1,cl 1 .bool 0),(3,cl 1 .bool 0),(5,cl 1 .bool 0),(7,cl 1 .bool 0),(9,cl 1 .bool 0)]),(5,[(2,cl 1 .bool 0),(7,cl 1 .bool 0),(13,cl 1 .bool 0),(19,cl 1 .bool 0),(25,cl 1 .bool 0)]),(7,[(1,cl 1 .bool 0)]),(8,[(20,cl 1 .bool 0)]),(9,[(1,cl 1 .bool 0)])],[(4,dr 15 [(0,[0],[]),(2,[0],[]),(4,[0],[]),(6,[0],[]),(8,[0],[])])],[]⟩,1⟩ n (ec FM (ec (l7 n) (ec (W5 n) (ec (W0 n) (ec (W4 n) (ec (Wz n) (ec (Wy n) (ec (mt n) (ec (mo n) (ec (mq n) (ec (mm n) (ec (mj n) (ec (CY n) (ec (gL n) en)))))))))))))) Go.Proofs.Tryz.func7 (by kernel_rfl) (fun x=>by kernel_rfl)
def Nr(n:Nat)(a0:List Int):Option (Ap×Unit):=(Es n a0).bind fun r1=>(EQ n (AD r1.1) a0).bind fun r2=>some ((AB (AA r2.1)),())
def l8(n:Nat):Rw:=⟨47,pV [.rog .u8],Rr,fun x=>Nr n x.1⟩
theorem l9(n:Nat):RO (l8 n):=
 rE ⟨Go.Proofs.Tryz.f47,⟨[(0,[(0,.slot 0 .int)]),(1,[(1,J0),(3,Jz)])],[],[]⟩,2⟩ n (ec (IH n) (ec (J4 n) en)) Go.Proofs.Tryz.func47 (by kernel_rfl) (fun x=>by kernel_rfl)
def Ir(a0:Sys):Option (List Turn×Unit):=cond (decide (a0.Cpus<1)) (some ([],())) (let e1:=(if(w64 ((a0.Trace.length:Int)-a0.Cpus))>0 then(w64 ((a0.Trace.length:Int)-a0.Cpus))else 0);cond ((decide (0≤e1)&&decide (e1≤(a0.Trace.length:Int)))&&(decide ((a0.Trace.length:Int)≤(a0.Trace.length:Int)))) ((Fa (List.drop (Int.toNat e1) (List.take (Int.toNat (a0.Trace.length:Int)) a0.Trace))).bind fun r2=>some (r2.1,())) none)
def gV:Rw:=⟨48,pV [Aq],(pS [.ro .turn]),fun x=>Ir (AS x.1)⟩
theorem gW:RO (gV):=
 rE ⟨Go.Proofs.Tryz.f48,⟨[(0,[(0,.slot 0 .int)]),(3,[(10,Rq)])],[],[]⟩,1⟩ 0 (ec SB en) Go.Proofs.Tryz.func48 (by kernel_rfl) (fun x=>by kernel_rfl)
def N9(a0:Sys):Option (List Turn×Unit):=(C7 a0.Cpus 0).bind fun r1=>(C7 (w64 ((a0.Trace.length:Int)-r1.1)) 0).bind fun r2=>cond ((decide (0≤r2.1)&&decide (r2.1≤(a0.Trace.length:Int)))&&(decide ((a0.Trace.length:Int)≤(a0.Trace.length:Int)))) (cond (decide ((([]:List Turn)).length+((List.drop (Int.toNat r2.1) (List.take (Int.toNat (a0.Trace.length:Int)) a0.Trace))).length≤lim)) (let e3:=(([]:List Turn)++(List.drop (Int.toNat r2.1) (List.take (Int.toNat (a0.Trace.length:Int)) a0.Trace)));some (e3,())) none) none
def mu:Rw:=⟨50,pV [Aq],O0,fun x=>N9 (AS x.1)⟩
theorem mw:RO (mu):=
 rE ⟨Go.Proofs.Tryz.f50,⟨[(0,[(0,.slot 0 .int)]),(1,[(5,cl 2 .int 0),(7,cl 2 .int 0)]),(2,[(0,.slot 1 .turn),(5,.slot 2 .turn)])],[(1,dr 9 [(0,[0],[]),(1,[0],[]),(3,[0],[]),(4,[0],[])])],[]⟩,3⟩ 0 (ec IG en) Go.Proofs.Tryz.func50 (by kernel_rfl) (fun x=>by kernel_rfl)
def JR{α:Type}(n:Nat):Nat→List Turn→List Turn→Int→(Option α)→(Option α)→Option α|0,_,_,_,_,_=>none|m0+1,v1,v2,v3,k0_0,k0_1=>cond (decide (v3<(v1.length:Int))) (cond (decide (0≤v3)&&decide (v3<(v1.length:Int))) (cond (decide (0≤v3)&&decide (v3<(v2.length:Int))) (let e4:=(!((decide ((List.getD v1 (Int.toNat v3) (Kd.dflt .turn)).Cpu=(List.getD v2 (Int.toNat v3) (Kd.dflt .turn)).Cpu))&&((decide ((List.getD v1 (Int.toNat v3) (Kd.dflt .turn)).Context=(List.getD v2 (Int.toNat v3) (Kd.dflt .turn)).Context))&&((decide ((List.getD v1 (Int.toNat v3) (Kd.dflt .turn)).Executor=(List.getD v2 (Int.toNat v3) (Kd.dflt .turn)).Executor))&&true))));cond e4 k0_0 (JR n m0 v1 v2 (w64 (v3+1)) k0_0 k0_1)) none) none) k0_1
def Ep(n:Nat)(a0:List Turn)(a1:List Turn):Option (Bool×Unit):=cond (!(decide ((a0.length:Int)=(a1.length:Int)))) (some (false,())) (JR n n a0 a1 0 (some (false,())) (some (true,())))
def kF(n:Nat):Rw:=⟨49,pV [.ro .turn,.ro .turn],pS [.bool],fun x=>Ep n x.1.2 x.2.1.2⟩
def qM(n:Nat):LS:=AN ⟨4,[0,1,5],[],[],[4],[]⟩ 26 [0,1,5] 0 (pD [.ro .turn,.ro .turn,.int]) [] (fun m x k=>JR n m x.1.1.2 x.1.2.1.2 x.1.2.2.1 (k .ret (eS 26 [4] [.bool false] 0 [])) (k (.exit 0) (eS 26 [] [] 0 [])))
theorem SA(n:Nat):RO (kF n):=
 rL ⟨Go.Proofs.Tryz.f49,⟨[],[(6,dr 9 [])],[]⟩,0⟩ [qM n] n en Go.Proofs.Tryz.func49 (by kernel_rfl) ⟨AO (fun m x k=>by kernel_rfl) (fun _ _=>rfl),trivial⟩ (fun x=>by kernel_rfl)
def NT(n:Nat)(a0:List Int):Option (Bool×Unit):=(Dm a0).bind fun r1=>cond r1.1 (some (true,())) ((Nr n a0).bind fun r2=>(Ir (AA r2.1)).bind fun r3=>(N9 (AA r2.1)).bind fun r4=>(Ep n r3.1 r4.1).bind fun r5=>cond (!r5.1) (some (false,())) (let e6:=(decide ((((AA r2.1).Trace).length:Int)<(r3.1.length:Int)));cond e6 (some (false,())) ((Kp n (AA r2.1)).bind fun r7=>(Bf n (AA r2.1)).bind fun r8=>cond (!(r7.1.2.1==r8.1)) (cond r7.1.2.1 (some (false,())) (let e9:=(w64 ((((AA r2.1).Trace).length:Int)-(r3.1.length:Int)));cond (((decide (0≤e9))&&(decide (e9≤(((AA r2.1).Trace).length:Int))))&&(decide ((((AA r2.1).Trace).length:Int)≤(((AA r2.1).Trace).length:Int)))) ((Ep n r3.1 (List.drop (Int.toNat e9) (List.take (Int.toNat (((AA r2.1).Trace).length:Int)) (AA r2.1).Trace))).bind fun r10=>cond r10.1 (cond (!r7.1.2.1) (some (true,())) ((Ir (AA r7.1.1)).bind fun r11=>some ((decide ((r11.1.length:Int)=(AA r2.1).Cpus)),()))) (some (false,()))) none)) (let e12:=(w64 ((((AA r2.1).Trace).length:Int)-(r3.1.length:Int)));cond (((decide (0≤e12))&&(decide (e12≤(((AA r2.1).Trace).length:Int))))&&(decide ((((AA r2.1).Trace).length:Int)≤(((AA r2.1).Trace).length:Int)))) ((Ep n r3.1 (List.drop (Int.toNat e12) (List.take (Int.toNat (((AA r2.1).Trace).length:Int)) (AA r2.1).Trace))).bind fun r13=>cond r13.1 (cond (!r7.1.2.1) (some (true,())) ((Ir (AA r7.1.1)).bind fun r14=>some ((decide ((r14.1.length:Int)=(AA r2.1).Cpus)),()))) (some (false,()))) none))))
def jt(n:Nat):Rw:=⟨8,pV [.rog .u8],pS [.bool],fun x=>NT n x.1⟩
theorem ju(n:Nat):RO (jt n):=
 rE ⟨Go.Proofs.Tryz.f8,⟨[(1,[(1,cl 1 .bool 0)]),(3,[(1,O3),(2,.slot 0 .int)]),(4,[(1,Wq)]),(5,[(2,Rq),(3,cl 2 .bool 0)]),(7,[(1,q64),(5,.slot 1 .int)]),(8,[(2,cl 1 .bool 0)]),(10,[(10,cl 2 .bool 0),(16,Wq)])],[(10,dr 24 [(1,[0],[]),(2,[0],[]),(3,[0],[]),(4,[0],[]),(15,[1],[]),(18,[0],[]),(19,[0],[])])],[]⟩,2⟩ n (ec FM (ec (l9 n) (ec gW (ec mw (ec (SA n) (ec (W6 n) (ec (CY n) en))))))) Go.Proofs.Tryz.func8 (by kernel_rfl) (fun x=>by kernel_rfl)
def Nv(n:Nat)(a0:List Int):Option ((Ap×Int×Unit)×Unit):=(Es n a0).bind fun r1=>(EQ n (AD r1.1) a0).bind fun r2=>(AU (AD r2.2.1) 12).bind fun r3=>some (((AB (AA r2.1)),(w64 (r3.1-1)),()),())
def mH(n:Nat):Rw:=⟨58,pV [.rog .u8],q67,fun x=>Nv n x.1⟩
theorem mI(n:Nat):RO (mH n):=
 rE ⟨Go.Proofs.Tryz.f58,⟨[(0,[(0,.slot 0 .int)]),(1,[(1,J0)]),(2,[(2,Jz),(3,.slot 2 .int)]),(3,[(2,q3)])],[(3,dr 6 [(0,[2],[]),(2,[1],[1]),(4,[0],[0])])],[]⟩,3⟩ n (ec (IH n) (ec (J4 n) (ec Ct en))) Go.Proofs.Tryz.func58 (by kernel_rfl) (fun x=>by kernel_rfl)
def K0(a0:List Int)(a1:Int):Option (Int×Unit):=cond (decide (a1<(a0.length:Int))) (cond (decide (0≤a1)&&decide (a1<(a0.length:Int))) (some ((w64 (List.getD a0 (Int.toNat a1) (Kd.dflt .u8))),())) none) (some ((Int.tmod (w64 ((w64 (a1*7))+(a0.length:Int))) 256),()))
def j8:Rw:=⟨61,pV [.rog .u8,.int],pS [.int],fun x=>K0 x.1 x.2.1⟩
theorem XJ:RO (j8):=
 rE ⟨Go.Proofs.Tryz.f61,⟨[],[],[]⟩,0⟩ 0 en Go.Proofs.Tryz.func61 (by kernel_rfl) (fun x=>by kernel_rfl)
def JQ{α:Type}(n:Nat):Nat→List Task→List Task→Int→(Option α)→(Option α)→Option α|0,_,_,_,_,_=>none|m0+1,v1,v2,v3,k0_0,k0_1=>cond (decide (v3<(v1.length:Int))) (cond (decide (0≤v3)&&decide (v3<(v1.length:Int))) (cond (decide (0≤v3)&&decide (v3<(v2.length:Int))) (let e4:=(!((decide ((List.getD v1 (Int.toNat v3) (Kd.dflt .task)).No=(List.getD v2 (Int.toNat v3) (Kd.dflt .task)).No))&&((decide ((List.getD v1 (Int.toNat v3) (Kd.dflt .task)).Class=(List.getD v2 (Int.toNat v3) (Kd.dflt .task)).Class))&&((decide ((List.getD v1 (Int.toNat v3) (Kd.dflt .task)).Cpu=(List.getD v2 (Int.toNat v3) (Kd.dflt .task)).Cpu))&&((decide ((List.getD v1 (Int.toNat v3) (Kd.dflt .task)).State=(List.getD v2 (Int.toNat v3) (Kd.dflt .task)).State))&&(((List.getD v1 (Int.toNat v3) (Kd.dflt .task)).Idle==(List.getD v2 (Int.toNat v3) (Kd.dflt .task)).Idle)&&((decide ((List.getD v1 (Int.toNat v3) (Kd.dflt .task)).Q=(List.getD v2 (Int.toNat v3) (Kd.dflt .task)).Q))&&((decide ((List.getD v1 (Int.toNat v3) (Kd.dflt .task)).P=(List.getD v2 (Int.toNat v3) (Kd.dflt .task)).P))&&((decide ((List.getD v1 (Int.toNat v3) (Kd.dflt .task)).Left=(List.getD v2 (Int.toNat v3) (Kd.dflt .task)).Left))&&((decide ((List.getD v1 (Int.toNat v3) (Kd.dflt .task)).Due=(List.getD v2 (Int.toNat v3) (Kd.dflt .task)).Due))&&((decide ((List.getD v1 (Int.toNat v3) (Kd.dflt .task)).Prio=(List.getD v2 (Int.toNat v3) (Kd.dflt .task)).Prio))&&((decide ((List.getD v1 (Int.toNat v3) (Kd.dflt .task)).Round=(List.getD v2 (Int.toNat v3) (Kd.dflt .task)).Round))&&((decide ((List.getD v1 (Int.toNat v3) (Kd.dflt .task)).Seq=(List.getD v2 (Int.toNat v3) (Kd.dflt .task)).Seq))&&((decide ((List.getD v1 (Int.toNat v3) (Kd.dflt .task)).Nice=(List.getD v2 (Int.toNat v3) (Kd.dflt .task)).Nice))&&((decide ((List.getD v1 (Int.toNat v3) (Kd.dflt .task)).V=(List.getD v2 (Int.toNat v3) (Kd.dflt .task)).V))&&true)))))))))))))));cond e4 k0_0 (JQ n m0 v1 v2 (w64 (v3+1)) k0_0 k0_1)) none) none) k0_1
def Iz(n:Nat)(a0:List Task)(a1:List Task):Option (Bool×Unit):=cond (!(decide ((a0.length:Int)=(a1.length:Int)))) (some (false,())) (JQ n n a0 a1 0 (some (false,())) (some (true,())))
def kE(n:Nat):Rw:=⟨62,pV [.ro .task,.ro .task],pS [.bool],fun x=>Iz n x.1.2 x.2.1.2⟩
def qL(n:Nat):LS:=AN ⟨4,[0,1,5],[],[],[4],[]⟩ 26 [0,1,5] 0 (pD [.ro .task,.ro .task,.int]) [] (fun m x k=>JQ n m x.1.1.2 x.1.2.1.2 x.1.2.2.1 (k .ret (eS 26 [4] [.bool false] 0 [])) (k (.exit 0) (eS 26 [] [] 0 [])))
theorem R9(n:Nat):RO (kE n):=
 rL ⟨Go.Proofs.Tryz.f62,⟨[],[(6,dr 9 [])],[]⟩,0⟩ [qL n] n en Go.Proofs.Tryz.func62 (by kernel_rfl) ⟨AO (fun m x k=>by kernel_rfl) (fun _ _=>rfl),trivial⟩ (fun x=>by kernel_rfl)
def NY(n:Nat)(a0:List Int):Option (Bool×Unit):=(Dm a0).bind fun r1=>cond r1.1 (some (true,())) ((Nv n a0).bind fun r2=>(FY n (AA r2.1.1) r2.1.2.1).bind fun r3=>(Fc n (AA r2.1.1) r2.1.2.1).bind fun r4=>cond (!(decide (r3.1.2.1=r4.1.2.1))) (some (false,())) (cond (decide (r3.1.2.1=0)) (let e5:=(decide ((((AA r3.1.1).Trace).length:Int)=(((AA r2.1.1).Trace).length:Int)));cond e5 (some (true,())) (some ((decide ((((AA r3.1.1).Trace).length:Int)=0)),()))) ((K0 a0 1).bind fun r6=>cond (decide ((w64 (r3.1.2.1+1))=0)) none ((FY n (AA r2.1.1) (Int.tmod r6.1 (w64 (r3.1.2.1+1)))).bind fun r7=>(FY n (AA r7.1.1) (w64 (r3.1.2.1-(Int.tmod r6.1 (w64 (r3.1.2.1+1)))))).bind fun r8=>cond (decide (r7.1.2.1=(Int.tmod r6.1 (w64 (r3.1.2.1+1))))) (let e9:=(decide (r8.1.2.1=(w64 (r3.1.2.1-(Int.tmod r6.1 (w64 (r3.1.2.1+1)))))));cond e9 (cond (decide ((AA r8.1.1).Now=(AA r3.1.1).Now)) ((Ep n ((AA r8.1.1).Trace) ((AA r3.1.1).Trace)).bind fun r10=>cond r10.1 ((Iz n ((AA r8.1.1).Tasks) ((AA r3.1.1).Tasks)).bind fun r11=>cond r11.1 (let e12:=(decide ((AA r3.1.1).Now=(w64 ((AA r2.1.1).Now+r3.1.2.1))));some (e12,())) (some (false,()))) (some (false,()))) (some (false,()))) (some (false,()))) (some (false,()))))))
def j6(n:Nat):Rw:=⟨10,pV [.rog .u8],pS [.bool],fun x=>NY n x.1⟩
theorem j7(n:Nat):RO (j6 n):=
 rE ⟨Go.Proofs.Tryz.f10,⟨[(1,[(1,cl 1 .bool 0)]),(3,[(1,O4),(5,.slot 0 .int)]),(4,[(2,C3),(6,.slot 1 .int)]),(5,[(2,C3),(6,.slot 2 .int)]),(10,[(1,cl 2 .int 0)]),(11,[(2,C3),(6,.slot 3 .int)]),(12,[(4,C3),(8,.slot 4 .int)]),(13,[(22,cl 2 .bool 0),(29,cl 2 .bool 0)])],[],[]⟩,5⟩ n (ec FM (ec (mI n) (ec (W7 n) (ec (ng n) (ec XJ (ec (SA n) (ec (R9 n) en))))))) Go.Proofs.Tryz.func10 (by kernel_rfl) (fun x=>by kernel_rfl)
end Go.Proofs.YthoholbeacojfaaGreat.VR
end
section
set_option linter.unusedVariables false
set_option linter.unusedSimpArgs false
namespace Go.Proofs.YthoholbeacojfaaGreat.VR
open Go
theorem cm{ts:List Task}{ls:List Lock}{no:Int}{B n:Nat}(h:TLB B ts ls)(hn:B+2<n)(hb:B+2≤lim)(hl:LocksOk ls):NH n ts ls no=some (BH ts ls no,()):=by
 obtain⟨c,hc⟩:=F9 hl no;have hs:=HO hc;have ht:=h.tasks;have hlk:=h.locks.len;simp only[NH,Q9 h.locks.small (show B+1<n by omega) (show B+1≤lim by omega),hc,Option.bind_some,BH]
 rw[VP no c (by omega)]
 have:=Du (l:=fun m i=>JL n m ts (no::c) (no::c) ((no::c).length:Int) i (some (0,())) (some (DY no c,()))) (xs:=no::c) (p:=fun x=>(AR ts x).isSome) (k0:=some (0,())) (k1:=some (DY no c,()))
  (fun m=>by simp only[JL,AW,cond_false]) (fun m i hi=>by
    simp only[JL,AG hi,AI,Bool.and_self,cond_true,AH hi,C1 (show ts.length<n by omega) (show ts.length≤lim by omega),Option.bind_some,DU,AL (Nat.lt_trans hi (AY (show(no::c).length≤lim by simp;omega)))]
    cases AR ts (no::c)[i]<;>rfl) (m:=n) (by simp;omega)
 refine this.trans ?_;cases (no::c).all fun x=>(AR ts x).isSome<;>rfl
theorem Sd{ts:List Task}{ls:List Lock}{no:Int}{B n:Nat}(h:TLB B ts ls)(hn:B+2<n)(hb:B+2≤lim)(hl:LocksOk ls):I2 n ts ls no=some (BH ts ls no,()):=by
 obtain⟨c,hc⟩:=F9 hl no;have hs:=HO hc;have ht:=h.tasks;have hlk:=h.locks.len;simp only[I2,PO h.locks.small hn hb hc,hc,Option.bind_some,BH];rw[VP no c (by omega)]
 have:=Du (l:=fun m i=>Jq n m ts (no::c) i (some (0,())) (some (DY no c,()))) (xs:=no::c) (p:=fun x=>(AR ts x).isSome) (k0:=some (0,())) (k1:=some (DY no c,()))
  (fun m=>by simp only[Jq,AW,cond_false]) (fun m i hi=>by
    simp only[Jq,AG hi,AI,Bool.and_self,cond_true,AH hi,F1 (show ts.length<n by omega) (show ts.length≤lim by omega),Option.bind_some,DU,AL (Nat.lt_trans hi (AY (show(no::c).length≤lim by simp;omega)))]
    cases AR ts (no::c)[i]<;>rfl) (m:=n) (by simp;omega)
 refine this.trans ?_;cases (no::c).all fun x=>(AR ts x).isSome<;>rfl
theorem Q3{ts:List Task}{ls:List Lock}{no:Int}{B n:Nat}(h:TLB B ts ls)(hn:B+2<n)(hb:B+2≤lim):GD n ts ls no=some (if TasksOk ts∧LocksOk ls then BH ts ls no else 0,()):=by
 have ht:=h.tasks;simp only[GD,Li (show ts.length<n by omega) (show ts.length≤lim by omega),Lh h.locks hn hb,Option.bind_some]
 by_cases h1:TasksOk ts
 · by_cases h2:LocksOk ls
   ·simp only[decide_eq_true h1,decide_eq_true h2,Bool.not_true,cond_false,cm h hn hb h2,Option.bind_some,if_pos (And.intro h1 h2)]
   · have h3: ¬(TasksOk ts∧LocksOk ls):=fun h=>h2 h.2
     simp only[decide_eq_true h1,decide_eq_false h2,Bool.not_true,Bool.not_false,cond_false,cond_true,if_neg h3]
 · have h3: ¬(TasksOk ts∧LocksOk ls):=fun h=>h1 h.1
   simp only[decide_eq_false h1,Bool.not_false,cond_true,if_neg h3]
theorem Ur{ts:List Task}{ls:List Lock}{no:Int}{B n:Nat}(h:TLB B ts ls)(hn:B+2<n)(hb:B+2≤lim):KZ n ts ls no=some (KN ts ls no,()):=by
 have ht:=h.tasks;simp only[KZ,Q3 h hn hb,Option.bind_some,KN]
 by_cases h3:TasksOk ts∧LocksOk ls
 · simp only[if_pos h3,decide_eq_true h3,Bool.true_and,BX]
   by_cases he:BH ts ls no=0
   ·simp only[decide_eq_true he,Bool.not_true,cond_false,ne_eq,he,not_true_eq_false,decide_true,decide_false,Bool.not_true,cond_false,Bool.false_and]
   · obtain⟨⟨i,hi⟩,j,hj⟩:=Ml he
     have:=TL hi hj;simp only[decide_eq_false he,Bool.not_false,cond_true,C1 (show ts.length<n by omega) (show ts.length≤lim by omega),decide_eq_true (show BH ts ls no≠0 from he),Bool.true_and]
     exact this
 ·simp only[if_neg h3,decide_eq_false h3,Bool.false_and,decide_true,Bool.not_true,cond_false]
theorem Yg{ts:List Task}{ls:List Lock}{no:Int}{B n:Nat}(h:TLB B ts ls)(hn:B+2<n)(hb:B+2≤lim)(hl:LocksOk ls):LV n ts ls no=some (BX ts ls no,()):=by
 have ht:=h.tasks;simp only[LV,Sd h hn hb hl,Option.bind_some,BX]
 by_cases he:BH ts ls no=0
 ·simp only[decide_eq_true he,Bool.not_true,cond_false,ne_eq,he,not_true_eq_false,decide_true,decide_false,Bool.not_true,cond_false,Bool.false_and]
 · obtain⟨⟨i,hi⟩,j,hj⟩:=Ml he
   have:=TL hi hj;simp only[decide_eq_false he,Bool.not_false,cond_true,F1 (show ts.length<n by omega) (show ts.length≤lim by omega),decide_eq_true (show BH ts ls no≠0 from he),Bool.true_and]
   exact this
theorem cG{ts:List Task}{ls:List Lock}{no:Int}{B n:Nat}(h:TLB B ts ls)(hn:B+2<n)(hb:B+2≤lim):Mm n ts ls no=some (BQ ts ls no,()):=by
 have ht:=h.tasks;simp only[Mm,Ur h hn hb,Option.bind_some,BQ,Dh,KN]
 by_cases h3:TasksOk ts∧LocksOk ls
 · simp only[decide_eq_true h3,Bool.true_and]
   cases ha:BX ts ls no with
   |false=>simp only[Bool.not_false,cond_true,Bool.false_and]
   |true=>
    obtain⟨i,hi⟩:=TM ha;have:=Tf hi;simp only[Bool.not_true,cond_false,C1 (show ts.length<n by omega) (show ts.length≤lim by omega),Bool.true_and]
    exact this
 ·simp only[decide_eq_false h3,Bool.false_and,Bool.not_false,cond_true]
theorem Yh{ts:List Task}{ls:List Lock}{no:Int}{B n:Nat}(h:TLB B ts ls)(hn:B+2<n)(hb:B+2≤lim)(hl:LocksOk ls):LW n ts ls no=some (Dh ts ls no,()):=by
 have ht:=h.tasks;simp only[LW,Yg h hn hb hl,Option.bind_some,Dh];cases ha:BX ts ls no with
 |false=>simp only[Bool.not_false,cond_true,Bool.false_and]
 |true=>
  obtain⟨i,hi⟩:=TM ha;have:=Tf hi;simp only[Bool.not_true,cond_false,F1 (show ts.length<n by omega) (show ts.length≤lim by omega),Bool.true_and]
  exact this
theorem VB{ts:List Task}{ls:List Lock}{cpu:Int}{B n:Nat}(h:TLB B ts ls)(hn:B+2<n)(hb:B+2≤lim):Ky n ts ls cpu=some (Ag ts ls cpu,()):=by
 have ht:=h.tasks;unfold Ky Ag;have:=Ak (l:=fun m i=>Gf n m ts ls cpu ((ts.take i).filter fun t=>decide (t.Cpu=cpu)&&BQ ts ls t.No) ts (ts.length:Int) (i:Int) (fun w11=>some (w11,()))) (len:=ts.length)
  (r:=some (ts.filter fun t=>decide (t.Cpu=cpu)&&BQ ts ls t.No,())) (fun _=>True) trivial (fun m _=> ?_) (fun m i hi _=>.inl ⟨?_,trivial⟩) (m:=n) (by omega)
 ·simpa using this
 ·simp only[Gf,AW,cond_false,List.take_length]
 · have hfl:((ts.take i).filter fun t=>decide (t.Cpu=cpu)&&BQ ts ls t.No).length≤i:=Nat.le_trans (List.length_filter_le _ _) (List.length_take_le _ _)
   have e4:decide (((ts.take i).filter fun t=>decide (t.Cpu=cpu)&&BQ ts ls t.No).length+[ts[i]].length≤lim)=true:=decide_eq_true (by simp only[List.length_cons,List.length_nil];omega)
   simp only[Gf,AG hi,AI,Bool.and_self,cond_true,AH hi,cG h hn hb,Option.bind_some,e4,AL (Nat.lt_trans hi (AY (show ts.length≤lim by omega)))]
   rw[Ev _ hi];cases decide (ts[i].Cpu=cpu)with
   |false=>simp
   |true=>cases BQ ts ls ts[i].No<;>simp
theorem RB{l:List Task}{n:Nat}(hn:l.length<n)(hb:l.length≤lim)(hl: ∀t∈l,TaskOk t):HV n l=some (FI (Ai l),()):=by
 unfold HV;have hok: ∀(i:Nat) t,(l.take i).foldl B1 none=some t→TaskOk t:=by
  have: ∀(xs:List Task) (b:Option Task),(∀t∈xs,TaskOk t)→(∀t,b=some t→TaskOk t)→ ∀t,xs.foldl B1 b=some t→TaskOk t:=by
   intro xs
   induction xs with
   |nil=>intro b _ hb t h;exact hb t h
   |cons x xs ih=>
    intro b hx hb t h;refine ih (B1 b x) (fun t ht=>hx t (List.mem_cons_of_mem _ ht)) (fun t ht=> ?_) t h
    unfold B1 at ht;split at ht
    ·injection ht with ht;subst ht;exact hx _ (List.mem_cons_self ..)
    · split at ht<;>injection ht with ht<;>subst ht
      ·exact hx _ (List.mem_cons_self ..)
      ·exact hb _ rfl
  exact fun i t h=>this (l.take i) none (fun t ht=>hl t (List.mem_of_mem_take ht)) (fun t h=>by cases h) t h
 have:=Ak (l:=fun m i=>Ge n m (RL ((l.take i).foldl B1 none)) l (l.length:Int) (i:Int) (fun w6=>some (w6.No,()))) (len:=l.length)
  (r:=some (FI (Ai l),())) (fun _=>True) trivial (fun m _=> ?_) (fun m i hi _=>.inl ⟨?_,trivial⟩) (m:=n) hn
 ·rw[List.take_zero]at this;exact this
 · simp only[Ge,AW,cond_false,List.take_length,Ai]
   cases l.foldl B1 none<;>rfl
 · simp only[Ge,AG hi,AI,Bool.and_self,cond_true,AH hi,Us,Option.bind_some,AL (Nat.lt_trans hi (AY hb))]
   rw[List.take_succ_eq_append_getElem hi,List.foldl_append];cases e:(l.take i).foldl B1 none with
   |none=>simp[RL,B1]
   |some b=>
    have h0: ¬b.No=0:=by have:=(hok i b e).no;omega
    simp only[RL,decide_eq_false h0,cond_false,List.foldl_cons,List.foldl_nil,B1]
    by_cases hbf:Before l[i] b
    ·simp[hbf,h0]
    ·simp[hbf,h0]
theorem Q7{ts:List Task}{ls:List Lock}{cpu:Int}{B n:Nat}(h:TLB B ts ls)(hn:B+2<n)(hb:B+2≤lim):Is n ts ls cpu=some (((pick ts ls cpu).1,(pick ts ls cpu).2,()),()):=by
 have ht:=h.tasks;have hsub: ∀t∈Ag ts ls cpu,t∈ts:=fun t ht=>(List.mem_filter.1 ht).1
 have hlen:(Ag ts ls cpu).length≤B:=Nat.le_trans (List.length_filter_le _ _) ht;simp only[Is,VB h hn hb,Option.bind_some]
 by_cases h3:TasksOk ts∧LocksOk ls
 · rw[RB (by omega) (by omega) fun t ht=>h3.1.each t (hsub t ht)]
   simp only[Option.bind_some,pick];cases e:Ai (Ag ts ls cpu)with
   |none=>simp[FI]
   |some t=>
    have hm:=EN _ _ _ e;have hmt:t∈ts:=by
     rcases hm with hm|hm
     ·exact hsub t hm
     ·cases hm
    have h0: ¬t.No=0:=by have:=(h3.1.each t hmt).no;omega
    simp only[FI,Q3 h hn hb,if_pos h3,Option.bind_some];simp only[h0,decide_false,cond_false]
 · have e:Ag ts ls cpu=[]:=Sz h3
   rw[e,RB (by simp;omega) (by simp) (fun t ht=>by cases ht)]
   simp[pick,e,Ai,FI]
theorem Se{ts:List Task}{ls:List Lock}{cpu:Int}{B n:Nat}(h:TLB B ts ls)(hn:B+2<n)(hb:B+2≤lim)(h3:TasksOk ts)(h4:LocksOk ls):I3 n ts ls cpu=some (Bi ts (Ai (Ag ts ls cpu)),()):=by
 have ht:=h.tasks;unfold I3;have hcan: ∀no,BQ ts ls no=Dh ts ls no:=fun no=>by unfold BQ;rw[decide_eq_true (And.intro h3 h4),Bool.true_and]
 have:=Ak (l:=fun m i=>FE n m ts ls cpu (Bi ts (Ai ((ts.take i).filter fun t=>decide (t.Cpu=cpu)&&BQ ts ls t.No))) (i:Int) (fun w9=>some (w9,()))) (len:=ts.length)
  (r:=some (Bi ts (Ai (Ag ts ls cpu)),())) (fun _=>True) trivial (fun m _=> ?_) (fun m i hi _=>.inl ⟨?_,trivial⟩) (m:=n) (by omega)
 ·simpa[Ai,Bi]using this
 ·simp only[FE,AW,cond_false,List.take_length,Ag]
 · have hil:=Nat.lt_trans hi (AY (show ts.length≤lim by omega))
   rw[Ev _ hi,hcan];have hmem:=EN ((ts.take i).filter fun t=>decide (t.Cpu=cpu)&&BQ ts ls t.No) none
   have happ: ∀c,Ai (((ts.take i).filter fun t=>decide (t.Cpu=cpu)&&BQ ts ls t.No)++cond c [ts[i]] [])=cond c (B1 (Ai ((ts.take i).filter fun t=>decide (t.Cpu=cpu)&&BQ ts ls t.No)) ts[i]) (Ai ((ts.take i).filter fun t=>decide (t.Cpu=cpu)&&BQ ts ls t.No)):=fun c=>by
    cases c
    ·simp only[cond_false,List.append_nil]
    ·simp only[cond_true,Ai,List.foldl_append,List.foldl_cons,List.foldl_nil]
   have hh: ∀c:Bool,(if c=true then[ts[i]]else[])=cond c [ts[i]] []:=fun c=>by cases c<;>rfl
   have happ2: ∀c:Bool,Ai (((ts.take i).filter fun t=>decide (t.Cpu=cpu)&&BQ ts ls t.No)++(if c=true then[ts[i]]else[]))=_:=fun c=>(congrArg (fun z=>Ai (_++z)) (hh c)).trans (happ c)
   try rw[happ]
   try rw[happ2]
   change∀t,Ai ((ts.take i).filter fun t=>decide (t.Cpu=cpu)&&BQ ts ls t.No)=some t→_ at hmem
   revert hmem
   generalize he:Ai ((ts.take i).filter fun t=>decide (t.Cpu=cpu)&&BQ ts ls t.No)=ob
   clear he happ happ2;intro hmem;simp only[FE,AG hi,AI,Bool.and_self,cond_true,AH hi,Yh h hn hb h4,Option.bind_some,AL hil,SV]
   by_cases hc:ts[i].Cpu=cpu
   · cases hk:Dh ts ls ts[i].No with
     |false=>simp[hc,hk]
     |true=>
      simp only[decide_eq_true hc,cond_true,Bool.and_self]
      match ob,hmem with
      |none,_=>
       have:decide (Bi ts none<0)=true:=by simp[Bi]
       rw[this,cond_true];simp only[B1,Bi,KF h3 hi,idx]
      |some b,hmem=>
       have hb2:b∈ts:=by
        rcases hmem _ rfl with hm|hm
        ·exact List.mem_of_mem_take (List.mem_filter.1 hm).1
        ·cases hm
       obtain⟨j,hj,hbj,hji⟩:=Cq h3 hb2;simp only[Bi,hji,idx,EA,cond_false,AI,AG hj,Bool.and_self,cond_true,AH hj,hbj,B1]
       by_cases hbf:Before ts[i] b
       ·simp[hbf,KF h3 hi,idx]
       ·simp[hbf,hji,idx]
   ·simp[hc]
theorem sa{ts:List Task}{ls:List Lock}{cpu:Int}{B n:Nat}(h:TLB B ts ls)(hn:B+2<n)(hb:B+2≤lim):OC n ts ls cpu=some (((pick ts ls cpu).1,(pick ts ls cpu).2,()),()):=by
 have ht:=h.tasks;simp only[OC,IM (show ts.length<n by omega) (show ts.length≤lim by omega),IL h.locks hn hb,Option.bind_some]
 by_cases h1:TasksOk ts
 · by_cases h2:LocksOk ls
   · simp only[decide_eq_true h1,decide_eq_true h2,Bool.not_true,cond_false,Se h hn hb h1 h2,Option.bind_some,pick]
     cases e:Ai (Ag ts ls cpu)with
     |none=>simp[Bi]
     |some t=>
      have hmt:t∈ts:=by
       rcases EN _ _ _ e with hm|hm
       ·exact(List.mem_filter.1 hm).1
       ·cases hm
      obtain⟨j,hj,hbj,hji⟩:=Cq h1 hmt;simp only[Bi,hji,idx,EA,cond_false,AI,AG hj,Bool.and_self,cond_true,AH hj,hbj,Sd h hn hb h2,Option.bind_some]
   · have h3: ¬(TasksOk ts∧LocksOk ls):=fun h=>h2 h.2
     simp[decide_eq_true h1,decide_eq_false h2,pick,Sz h3,Ai]
 · have h3: ¬(TasksOk ts∧LocksOk ls):=fun h=>h1 h.1
   simp[decide_eq_false h1,pick,Sz h3,Ai]
end Go.Proofs.YthoholbeacojfaaGreat.VR
end
section
set_option linter.unusedVariables false
set_option linter.unusedSimpArgs false
namespace Go.Proofs.YthoholbeacojfaaGreat.VR
open Go
theorem U6{α:Type}(n:Nat)(k:Int→Option α): ∀(m a b:Nat),b<m→JM n m (a:Int) (b:Int) k=k ((Nat.gcd a b:Nat):Int)
 |0,a,b,h=>absurd h (Nat.not_lt_zero _)
 |m+1,a,b,h=>by
  by_cases hb:b=0
  ·subst hb;simp[JM]
  · have h1: ¬((b:Int)=0):=by omega
    have h2:a % b<m:=by have:=Nat.mod_lt a (Nat.pos_of_ne_zero hb);omega
    simp only[JM,h1,decide_false,Bool.not_false,cond_true,cond_false,ZP];rw[U6 n k m b (a % b) h2,←Uh]
theorem YY{α:Type}(n:Nat)(k:Int→Option α): ∀(m a b:Nat),b<m→Jm n m (a:Int) (b:Int) k=k ((Nat.gcd a b:Nat):Int)
 |0,a,b,h=>absurd h (Nat.not_lt_zero _)
 |m+1,a,b,h=>by
  by_cases hb:b=0
  ·subst hb;simp[Jm]
  · have h1: ¬((b:Int)=0):=by omega
    have h3:0<(b:Int):=by omega
    have h2:a % b<m:=by have:=Nat.mod_lt a (Nat.pos_of_ne_zero hb);omega
    simp only[Jm,h1,h3,decide_false,decide_true,cond_true,cond_false,ZP];rw[YY n k m b (a % b) h2,←Uh]
theorem cq{n a b:Nat}(h:b<n)(ha:a≤4000000000000000000)(hb:b≤4000000000000000000):NI n (a:Int) (b:Int)=some (((Nat.gcd a b:Nat):Int),()):=by
 unfold NI;rw[U6 n _ n a b h];have hg:Nat.gcd a b≤4000000000000000000:=by
  rcases Nat.eq_zero_or_pos b with e|e
  ·subst e;simpa using ha
  ·exact Nat.le_trans (Nat.gcd_le_right a e) hb
 rw[AV (by omega) (by omega),if_neg (by omega)]
theorem s4{n a b:Nat}(h:b<n):OR n (a:Int) (b:Int)=some (((Nat.gcd a b:Nat):Int),()):=by
 unfold OR;rw[YY n _ n a b h]
theorem cd{l:List Share}{n:Nat}(hn:GN+l.length<n)(hb:l.length≤lim):M5 n l=some (HC l,()):=by
 have hc:Nd n l=some (!decide (∀s∈l,A9 s),()):=by
  unfold Nd Qb;have:=C0 (l:=fun m i=>JX n m l (l.length:Int) i (fun w5=>some (w5,())) (some (-1,()))) (xs:=l) (p:=fun s=> !decide (A9 s)) (k0:=fun w5=>some (w5,())) (k1:=some (-1,()))
   (fun m=>by simp only[JX,AW,cond_false])
   (fun m i hi=>by simp only[JX,AG hi,AI,Bool.and_self,cond_true,AH hi,QL,Oc,Option.bind_some,AL (Nat.lt_trans hi (AY hb))]) (m:=n) (by omega)
  rw[this];cases e:l.findIdx? fun s=> !decide (A9 s)with
  |none=>
   rw[List.findIdx?_eq_none_iff]at e;have: ∀s∈l,A9 s:=fun s hs=>by simpa using e s hs
   simp only[Option.bind_some,decide_eq_true this];rfl
  |some i=>
   rw[List.findIdx?_eq_some_iff_getElem]at e;obtain⟨hi,h1,_⟩:=e;have: ¬ ∀s∈l,A9 s:=fun h=>by have:=h l[i] (List.getElem_mem hi);simp[this]at h1
   simp only[Option.bind_some,decide_eq_false this,AI];rfl
 unfold M5 HC
 by_cases h7:l.length≤7
 · have h7': ¬(7<(l.length:Int)):=by omega
   rw[decide_eq_false h7',cond_false,hc,Option.bind_some]
   by_cases ha: ∀s∈l,A9 s
   · rw[if_pos ⟨h7,ha⟩]
     simp only[decide_eq_true ha,Bool.not_true,cond_false];have:=Ak (l:=fun m i=>JB n m ((A7 (l.take i)).1:Int) ((A7 (l.take i)).2:Int) l (l.length:Int) (i:Int) (fun w11 w12=>some ((w11,w12,true,()),()))) (len:=l.length)
      (r:=some ((((A7 l).1:Int),((A7 l).2:Int),true,()),())) (fun _=>True) trivial (fun m _=> ?_) (fun m i hi _=>.inl ⟨?_,trivial⟩) (m:=n) (by omega)
     ·exact this
     ·simp only[JB,AW,cond_false,List.take_length]
     · have hinv:=Yu (l:=l.take i) (fun s hs=>ha s (List.mem_of_mem_take hs))
       rw[List.length_take,Nat.min_eq_left (Nat.le_of_lt hi)]at hinv;have hsi:=ha l[i] (List.getElem_mem hi);obtain⟨e1,e2,e3,e4,b1,b2,b3,b4⟩:=Yx hinv hsi (by omega)
       have hg0: ¬(((Nat.gcd ((A7 (l.take i)).1*l[i].P.toNat+l[i].Q.toNat*(A7 (l.take i)).2) ((A7 (l.take i)).2*l[i].P.toNat):Nat):Int)=0):=by omega
       simp only[JB,AG hi,AI,Bool.and_self,cond_true,AH hi,e1,e2,e3,e4,cq (Nat.lt_of_lt_of_le b3 (show GN≤n by omega)) b1 b2,Option.bind_some,hg0,decide_false,cond_false,Mf b1,Mf b2,AL (Nat.lt_trans hi (AY hb))]
       rw[Yw hi];rfl
   · rw[if_neg (fun h=>ha h.2)]
     simp only[decide_eq_false ha,Bool.not_false,cond_true]
 · have h7':(7<(l.length:Int)):=by omega
   rw[decide_eq_true h7',cond_true,if_neg (fun h=>h7 h.1)]
theorem sg{l:List Share}{n:Nat}(hn:GN+l.length<n)(hb:l.length≤lim):OI n l=some (HC l,()):=by
 unfold OI HC
 by_cases h7:l.length≤7
 · have h7': ¬(7<(l.length:Int)):=by omega
   rw[decide_eq_false h7',cond_false];have hstep: ∀m i (hi:i<l.length),(∀j (hj:j<i),A9 (l[j]'(Nat.lt_trans hj hi)))→FC n (m+1) l ((A7 (l.take i)).1:Int) ((A7 (l.take i)).2:Int) (i:Int) (fun _ _=>some ((0,0,false,()),())) (fun w12 w13=>some ((w12,w13,true,()),()))=
    if A9 l[i]then FC n m l ((A7 (l.take (i+1))).1:Int) ((A7 (l.take (i+1))).2:Int) ((i+1:Nat):Int) (fun _ _=>some ((0,0,false,()),())) (fun w12 w13=>some ((w12,w13,true,()),()))else some ((0,0,false,()),()):=by
    intro m i hi hI
    by_cases hsi:A9 l[i]
    · have hinv:=Yu (l:=l.take i) (fun s hs=>by
       obtain⟨j,hj,rfl⟩:=List.getElem_of_mem hs;rw[List.length_take]at hj;rw[List.getElem_take];exact hI j (by omega))
      rw[List.length_take,Nat.min_eq_left (Nat.le_of_lt hi)]at hinv;obtain⟨e1,e2,e3,e4,b1,b2,b3,b4⟩:=Yx hinv hsi (by omega)
      have hg0: ¬(((Nat.gcd ((A7 (l.take i)).1*l[i].P.toNat+l[i].Q.toNat*(A7 (l.take i)).2) ((A7 (l.take i)).2*l[i].P.toNat):Nat):Int)=0):=by omega
      simp only[FC,AG hi,AI,Bool.and_self,cond_true,AH hi,MI,decide_eq_true hsi,Bool.not_true,e1,e2,e3,e4,s4 (Nat.lt_of_lt_of_le b3 (show GN≤n by omega)),Option.bind_some,hg0,decide_false,cond_false,Mf b1,Mf b2,AL (Nat.lt_trans hi (AY hb)),if_pos hsi]
      rw[Yw hi];rfl
    ·simp only[FC,AG hi,AI,Bool.and_self,cond_true,AH hi,MI,decide_eq_false hsi,Bool.not_false,Option.bind_some,if_neg hsi]
   by_cases ha: ∀s∈l,A9 s
   · rw[if_pos ⟨h7,ha⟩]
     have:=Ak (l:=fun m i=>FC n m l ((A7 (l.take i)).1:Int) ((A7 (l.take i)).2:Int) (i:Int) (fun _ _=>some ((0,0,false,()),())) (fun w12 w13=>some ((w12,w13,true,()),()))) (len:=l.length)
      (r:=some ((((A7 l).1:Int),((A7 l).2:Int),true,()),())) (fun _=>True) trivial (fun m _=> ?_) (fun m i hi _=>.inl ⟨?_,trivial⟩) (m:=n) (by omega)
     ·exact this
     ·simp only[FC,AW,cond_false,List.take_length]
     ·rw[hstep m i hi (fun j hj=>ha _ (List.getElem_mem _)),if_pos (ha _ (List.getElem_mem _))]
   · rw[if_neg (fun h=>ha h.2)]
     have hall: ¬ ∀j (hj:j<l.length),A9 l[j]:=fun h=>ha fun s hs=>by
      obtain⟨j,hj,rfl⟩:=List.getElem_of_mem hs;exact h j hj
     have:=Ak (l:=fun m i=>FC n m l ((A7 (l.take i)).1:Int) ((A7 (l.take i)).2:Int) (i:Int) (fun _ _=>some ((0,0,false,()),())) (fun w12 w13=>some ((w12,w13,true,()),()))) (len:=l.length)
      (r:=some ((0,0,false,()),())) (fun i=> ∀j (hj:j<l.length),j<i→A9 l[j]) (fun j _ h=>absurd h (Nat.not_lt_zero j)) (fun m hI=>absurd (fun j hj=>hI j hj hj) hall) (fun m i hi hI=> ?_) (m:=n) (by omega)
     ·exact this
     · rw[hstep m i hi (fun j hj=>hI j _ hj)]
       by_cases hr:A9 l[i]
       · rw[if_pos hr]
         exact .inl ⟨rfl,fun j hj hji=>by
          by_cases e:j=i
          ·subst e;exact hr
          ·exact hI j hj (by omega)⟩
       ·rw[if_neg hr];exact .inr rfl
 · have h7':(7<(l.length:Int)):=by omega
   rw[decide_eq_true h7',cond_true,if_neg (fun h=>h7 h.1)]
theorem Q4{l:List Share}{n:Nat}(hn:GN+l.length<n)(hb:l.length≤lim):Iq n l=some (Bg l,()):=by
 simp only[Iq,cd hn hb,Option.bind_some,US]
theorem YQ{l:List Share}{n:Nat}(hn:GN+l.length<n)(hb:l.length≤lim):GQ n l=some (Bg l,()):=by
 simp only[GQ,sg hn hb,Option.bind_some,US]
theorem Yi{s:Sys}{cpu:Int}{n:Nat}(hn:s.Tasks.length+s.Ghosts.length<n)(hb:s.Tasks.length+s.Ghosts.length≤lim):LY n s cpu=some (Aj s cpu,()):=by
 unfold LY;have h1:=Ak (l:=fun m i=>Gw n m cpu s (Ac (s.Tasks.take i) cpu) (i:Int) (fun w8=>Fs n n cpu s w8 0 (fun w15=>some (w15,())))) (len:=s.Tasks.length)
  (r:=Fs n n cpu s (Ac s.Tasks cpu) 0 (fun w15=>some (w15,()))) (fun _=>True) trivial (fun m _=> ?_) (fun m i hi _=>.inl ⟨?_,trivial⟩) (m:=n) (by omega)
 · refine h1.trans ?_
   have h2:=Ak (l:=fun m i=>Fs n m cpu s (Ac s.Tasks cpu++A3 (s.Ghosts.take i) cpu) (i:Int) (fun w15=>some (w15,()))) (len:=s.Ghosts.length)
    (r:=some (Aj s cpu,())) (fun _=>True) trivial (fun m _=> ?_) (fun m i hi _=>.inl ⟨?_,trivial⟩) (m:=n) (by omega)
   · rw[List.take_zero]at h2
     rw[show A3 [] cpu=[]from rfl,List.append_nil]at h2;exact h2
   ·simp only[Fs,AW,cond_false,List.take_length];rfl
   · have hl1:=F4 s.Tasks cpu s.Tasks.length
     rw[List.take_length]at hl1;have hl2:=Lf s.Ghosts cpu i;have hl:(Ac s.Tasks cpu++A3 (s.Ghosts.take i) cpu).length<lim:=by rw[List.length_append];omega
     simp only[Fs,AG hi,AI,Bool.and_self,cond_true,AH hi,CB hl (Nat.le_refl _),AL (Nat.lt_trans hi (AY (show s.Ghosts.length≤lim by omega)))]
     rw[Oa hi];cases decide (s.Ghosts[i].Cpu=cpu)with
     |false=>simp only[cond_false,List.append_nil]
     |true=>simp only[cond_true,List.append_assoc]
 ·simp only[Gw,AW,cond_false,List.take_length]
 · have hl:=F4 s.Tasks cpu i
   have hl3:(Ac (s.Tasks.take i) cpu).length<lim:=by omega
   simp only[Gw,AG hi,AI,Bool.and_self,cond_true,AH hi,CB hl3 (Nat.le_refl _),AL (Nat.lt_trans hi (AY (show s.Tasks.length≤lim by omega)))]
   rw[PT hi];cases decide (s.Tasks[i].Cpu=cpu)<;>cases decide (s.Tasks[i].Class=1)<;>simp only[cond_false,cond_true,Bool.and_true,Bool.and_false,Bool.false_and,Bool.true_and,List.append_nil]
theorem Od{s:Sys}{cpu:Int}{n:Nat}(hn:s.Tasks.length+s.Ghosts.length<n)(hb:s.Tasks.length+s.Ghosts.length≤lim):HU n s cpu=some (Aj s cpu,()):=by
 unfold HU;have h1:=Ak (l:=fun m i=>Ga n m cpu s (Ac (s.Tasks.take i) cpu) s.Tasks (s.Tasks.length:Int) (i:Int) (fun w10=>Fk n n cpu w10 s.Ghosts (s.Ghosts.length:Int) 0 (fun w18=>some (w18,())))) (len:=s.Tasks.length)
  (r:=Fk n n cpu (Ac s.Tasks cpu) s.Ghosts (s.Ghosts.length:Int) 0 (fun w18=>some (w18,()))) (fun _=>True) trivial (fun m _=> ?_) (fun m i hi _=>.inl ⟨?_,trivial⟩) (m:=n) (by omega)
 · refine h1.trans ?_
   have h2:=Ak (l:=fun m i=>Fk n m cpu (Ac s.Tasks cpu++A3 (s.Ghosts.take i) cpu) s.Ghosts (s.Ghosts.length:Int) (i:Int) (fun w15=>some (w15,()))) (len:=s.Ghosts.length)
    (r:=some (Aj s cpu,())) (fun _=>True) trivial (fun m _=> ?_) (fun m i hi _=>.inl ⟨?_,trivial⟩) (m:=n) (by omega)
   · rw[List.take_zero]at h2
     rw[show A3 [] cpu=[]from rfl,List.append_nil]at h2;exact h2
   ·simp only[Fk,AW,cond_false,List.take_length];rfl
   · have hl1:=F4 s.Tasks cpu s.Tasks.length
     rw[List.take_length]at hl1;have hl2:=Lf s.Ghosts cpu i;have hl:(Ac s.Tasks cpu++A3 (s.Ghosts.take i) cpu).length<lim:=by rw[List.length_append];omega
     simp only[Fk,AG hi,AI,Bool.and_self,cond_true,AH hi,CB hl (Nat.le_refl _),AL (Nat.lt_trans hi (AY (show s.Ghosts.length≤lim by omega)))]
     rw[Oa hi];cases decide (s.Ghosts[i].Cpu=cpu)with
     |false=>simp only[cond_false,List.append_nil]
     |true=>simp only[cond_true,List.append_assoc]
 ·simp only[Ga,AW,cond_false,List.take_length]
 · have hl:=F4 s.Tasks cpu i
   have hl3:(Ac (s.Tasks.take i) cpu).length<lim:=by omega
   simp only[Ga,AG hi,AI,Bool.and_self,cond_true,AH hi,CB hl3 (Nat.le_refl _),AL (Nat.lt_trans hi (AY (show s.Tasks.length≤lim by omega)))]
   rw[PT hi];cases decide (s.Tasks[i].Cpu=cpu)<;>cases decide (s.Tasks[i].Class=1)<;>simp only[cond_false,cond_true,Bool.and_true,Bool.and_false,Bool.false_and,Bool.true_and,List.append_nil]
theorem cX{s:Sys}{cpu:Int}{n:Nat}(hn:s.Tasks.length+s.Ghosts.length<n)(hb:s.Tasks.length+s.Ghosts.length≤lim):M0 n s cpu=some (Aj s cpu,()):=by
 unfold M0;have h1:=Ak (l:=fun m i=>Gb n m cpu s (Ac (s.Tasks.take i) cpu) s.Tasks (s.Tasks.length:Int) (i:Int) (fun w10=>Fl n n cpu w10 s.Ghosts (s.Ghosts.length:Int) 0 (fun w18=>some (w18,())))) (len:=s.Tasks.length)
  (r:=Fl n n cpu (Ac s.Tasks cpu) s.Ghosts (s.Ghosts.length:Int) 0 (fun w18=>some (w18,()))) (fun _=>True) trivial (fun m _=> ?_) (fun m i hi _=>.inl ⟨?_,trivial⟩) (m:=n) (by omega)
 · refine h1.trans ?_
   have h2:=Ak (l:=fun m i=>Fl n m cpu (Ac s.Tasks cpu++A3 (s.Ghosts.take i) cpu) s.Ghosts (s.Ghosts.length:Int) (i:Int) (fun w15=>some (w15,()))) (len:=s.Ghosts.length)
    (r:=some (Aj s cpu,())) (fun _=>True) trivial (fun m _=> ?_) (fun m i hi _=>.inl ⟨?_,trivial⟩) (m:=n) (by omega)
   · rw[List.take_zero]at h2
     rw[show A3 [] cpu=[]from rfl,List.append_nil]at h2;exact h2
   ·simp only[Fl,AW,cond_false,List.take_length];rfl
   · have hl1:=F4 s.Tasks cpu s.Tasks.length
     rw[List.take_length]at hl1;have hl2:=Lf s.Ghosts cpu i;have hl:(Ac s.Tasks cpu++A3 (s.Ghosts.take i) cpu).length<lim:=by rw[List.length_append];omega
     simp only[Fl,AG hi,AI,Bool.and_self,cond_true,AH hi,CB hl (Nat.le_refl _),AL (Nat.lt_trans hi (AY (show s.Ghosts.length≤lim by omega)))]
     rw[Oa hi];cases decide (s.Ghosts[i].Cpu=cpu)with
     |false=>simp only[cond_false,List.append_nil]
     |true=>simp only[cond_true,List.append_assoc]
 ·simp only[Gb,AW,cond_false,List.take_length]
 · have hl:=F4 s.Tasks cpu i
   have hl3:(Ac (s.Tasks.take i) cpu).length<lim:=by omega
   simp only[Gb,AG hi,AI,Bool.and_self,cond_true,AH hi,CB hl3 (Nat.le_refl _),AL (Nat.lt_trans hi (AY (show s.Tasks.length≤lim by omega)))]
   rw[PT hi];cases decide (s.Tasks[i].Cpu=cpu)<;>cases decide (s.Tasks[i].Class=1)<;>simp only[cond_false,cond_true,Bool.and_true,Bool.and_false,Bool.false_and,Bool.true_and,List.append_nil]
end Go.Proofs.YthoholbeacojfaaGreat.VR
end
section
set_option linter.unusedVariables false
set_option linter.unusedSimpArgs false
namespace Go.Proofs.YthoholbeacojfaaGreat.VR
open Go
theorem Oo{n:Nat}(h:n≤lim):n<Ab:=by unfold lim at h;unfold Ab;omega
end Go.Proofs.YthoholbeacojfaaGreat.VR
end
section
set_option linter.unusedVariables false
set_option linter.unusedSimpArgs false
namespace Go.Proofs.YthoholbeacojfaaGreat.VR
open Go
end Go.Proofs.YthoholbeacojfaaGreat.VR
end
section
set_option linter.unusedVariables false
set_option linter.unusedSimpArgs false
namespace Go.Proofs.YthoholbeacojfaaGreat.VR
open Go
theorem cw{ts:List Task}{k:Lock}{n:Nat}(hn:ts.length<n)(hb:ts.length≤lim)(hw:k.Waits.length+1<n)(hwb:k.Waits.length+1≤lim)(hc: ∀t∈ts,0≤t.Cpu)(h0:k.Owner=0→k.Waits=[])(hnz: ∀y∈k.Waits,y≠0):NK n ts k=some (B8 ts k,()):=by
 unfold NK B8;have e0:decide (([k.Owner]:List Int).length+(k.Waits).length≤lim)=true:=decide_eq_true (by simp;omega)
 rw[e0,cond_true];obtain⟨m,rfl⟩: ∃m,n=m+1:=⟨n-1,by omega⟩
 have hL:(([k.Owner]:List Int)++k.Waits)=k.Owner::k.Waits:=rfl;have hlen:(k.Owner::k.Waits).length=k.Waits.length+1:=rfl;have hz:decide ((0:Int)<((k.Owner::k.Waits).length:Int))=true:=decide_eq_true (by rw[hlen];omega)
 have hz2:decide ((0:Int)≤0)=true:=by decide
 rw[hL]
 by_cases ho:k.Owner=0
 · rw[decide_eq_true ho,Bool.true_or,h0 ho,ho]
   obtain⟨q,rfl⟩: ∃q,m=q+1:=⟨m-1,by omega⟩
   simp[E8,AV]
 · rw[decide_eq_false ho,Bool.false_or]
   rw[E8,hz,hz2,cond_true,Bool.and_self,cond_true];have hg:List.getD (k.Owner::k.Waits) (Int.toNat 0) (Kd.dflt .int)=k.Owner:=rfl;rw[hg,decide_eq_false ho,cond_false,C1 hn hb,Option.bind_some];cases e:AR ts k.Owner with
   |none=>rfl
   |some i=>
    obtain⟨hi,_⟩:=Bj e;have n1:decide ((0:Int)≤ -1)=false:=by decide
    have w1:w64 (0+1)=1:=AV (by omega) (by omega)
    have z1: ¬((i:Int)<0):=by omega
    have z2:(0:Int)≤(i:Int):=by omega
    have z3:(i:Int)<(ts.length:Int):=by omega
    simp only[idx,z1,z2,z3,decide_true,decide_false,cond_false,n1,Bool.and_self,cond_true,w1,Int.toNat_natCast,Option.isSome_some,Bool.true_and];rw[←KG e];have:=Du (l:=fun m' j=>E8 (m+1) m' ts (Az ts k.Owner).Cpu (k.Owner::k.Waits) ((k.Owner::k.Waits).length:Int) (j+1) (some (false,())) (some (true,()))) (xs:=k.Waits)
     (p:=fun y=>(AR ts y).isSome&&decide ((Az ts y).Cpu=(Az ts k.Owner).Cpu)) (k0:=some (false,())) (k1:=some (true,()))
     (fun m'=>by
       have:decide ((k.Waits.length:Int)+1<((k.Owner::k.Waits).length:Int))=false:=decide_eq_false (by rw[hlen];omega)
       simp only[E8,this,cond_false])
     (fun m' j hj=>by
       have hj1:((j:Int)+1)=((j+1:Nat):Int):=rfl;have hj2:j+1<(k.Owner::k.Waits).length:=by rw[hlen];omega
       have hy: ¬k.Waits[j]=0:=hnz _ (List.getElem_mem hj);have hget:(k.Owner::k.Waits)[j+1]=k.Waits[j]:=rfl;have hcp:decide (0≤(Az ts k.Owner).Cpu)=true:=decide_eq_true (hc _ (tT e));simp only[E8,hj1,AG hj2,AI,Bool.and_self,cond_true,AH hj2,hget,decide_eq_false hy,cond_false,C1 hn hb,Option.bind_some,hcp,AL (Nat.lt_trans hj2 (AY (show(k.Owner::k.Waits).length≤lim by rw[hlen];omega)))]
       cases e2:AR ts k.Waits[j]with
       |none=>rfl
       |some q=>
        obtain⟨hq,_⟩:=Bj e2;have z1: ¬((q:Int)<0):=by omega
        have z2:(0:Int)≤(q:Int):=by omega
        have z3:(q:Int)<(ts.length:Int):=by omega
        simp only[idx,z1,z2,z3,decide_true,decide_false,cond_false,Bool.and_self,cond_true,Int.toNat_natCast,Option.isSome_some,Bool.true_and];simp only[←KG e2]
        by_cases hcc:(Az ts k.Waits[j]).Cpu=(Az ts k.Owner).Cpu
        ·simp only[hcc,decide_true,Bool.not_true,cond_false,cond_true];rfl
        ·simp only[hcc,decide_false,Bool.not_false,cond_false,cond_true]) (m:=m) (by omega)
    have e01:((0:Int)+1)=1:=rfl;simp only[e01]at this;rw[this];cases k.Waits.all fun y=>(AR ts y).isSome&&decide ((Az ts y).Cpu=(Az ts k.Owner).Cpu)<;>rfl
theorem tC{s:Sys}{B n:Nat}(h:TLB B s.Tasks s.Locks)(hn:B+2<n)(hb:B+2≤lim):OX n s=some (decide (FT s),()):=by
 have ht:=h.tasks;have hlk:=h.locks.len;unfold OX;refine CO (P:=((s.Locks.length:Int)=5)) (fun q=>by have:=q.1;omega) fun h5=> ?_
 rw[IL h.locks hn hb,Option.bind_some];refine CO (P:=LocksOk s.Locks) (fun q=>q.2.1) fun hl=> ?_
 have:=Du (l:=fun m i=>Fr n m s i (some (false,())) (some (true,()))) (xs:=s.Locks) (p:=B8 s.Tasks) (k0:=some (false,())) (k1:=some (true,()))
  (fun m=>by simp only[Fr,AW,cond_false])
  (fun m i hi=>by
    have hw:=h.locks.small.waits s.Locks[i] (List.getElem_mem hi);simp only[Fr,AG hi,AI,Bool.and_self,cond_true,AH hi,F1 (show s.Tasks.length<n by omega) (show s.Tasks.length≤lim by omega),Option.bind_some,AL (Nat.lt_trans hi (AY (show s.Locks.length≤lim by omega)))]
    unfold B8
    by_cases ho:s.Locks[i].Owner=0
    ·rw[decide_eq_true ho];rfl
    · rw[decide_eq_false ho,cond_false,Bool.false_or]
      cases e:AR s.Tasks s.Locks[i].Owner with
      |none=>rfl
      |some q=>
       obtain⟨hq,_⟩:=Bj e;have y1: ¬((q:Int)<0):=by omega
       simp only[idx,y1,decide_false,cond_false,Option.isSome_some,Bool.true_and];have:=Du (l:=fun m' j=>Js n m' s (i:Int) s.Locks[i] (q:Int) j (some (false,())) (Fr n m s ((i+1:Nat):Int) (some (false,())) (some (true,())))) (xs:=s.Locks[i].Waits)
        (p:=fun y=>(AR s.Tasks y).isSome&&decide ((Az s.Tasks y).Cpu=(Az s.Tasks s.Locks[i].Owner).Cpu)) (k0:=some (false,())) (k1:=Fr n m s ((i+1:Nat):Int) (some (false,())) (some (true,())))
        (fun m'=>by simp only[Js,AW,cond_false])
        (fun m' j hj=>by
          simp only[Js,AG hj,AI,Bool.and_self,cond_true,AH hj,F1 (show s.Tasks.length<n by omega) (show s.Tasks.length≤lim by omega),Option.bind_some,AL (Nat.lt_trans hj (AY (show s.Locks[i].Waits.length≤lim by omega)))]
          cases e2:AR s.Tasks s.Locks[i].Waits[j]with
          |none=>rfl
          |some r=>
           obtain⟨hr,_⟩:=Bj e2;have z1: ¬((r:Int)<0):=by omega
           have z2:(0:Int)≤(r:Int):=by omega
           have z3:(r:Int)<(s.Tasks.length:Int):=by omega
           have z4:(0:Int)≤(q:Int):=by omega
           have z5:(q:Int)<(s.Tasks.length:Int):=by omega
           simp only[idx,z1,z2,z3,z4,z5,decide_true,decide_false,cond_false,Bool.and_self,cond_true,Int.toNat_natCast,Option.isSome_some,Bool.true_and];simp only[←KG e2,←KG e]
           by_cases hcc:(Az s.Tasks s.Locks[i].Waits[j]).Cpu=(Az s.Tasks s.Locks[i].Owner).Cpu
           ·simp only[hcc,decide_true,Bool.not_true,cond_false,cond_true]
           ·simp only[hcc,decide_false,Bool.not_false,cond_false,cond_true]) (m:=n) (by omega)
       exact this) (m:=n) (by omega)
 rw[this];cases e:s.Locks.all (B8 s.Tasks)with
 |true=>rw[decide_eq_true (p:=FT s) ⟨by omega,hl,List.all_eq_true.1 e⟩];rfl
 |false=>rw[decide_eq_false (p:=FT s) (fun q=>by rw[List.all_eq_true.2 q.2.2]at e;cases e)];rfl
theorem cr{g:Ghost}{c:Int}(hc:1≤c∧c≤4):NJ g c=some (decide (DG c g),()):=by
 have e:w64 (c-1)=c-1:=AV (by omega) (by omega)
 simp only[NJ,e,Bx,Oc,U7,Option.bind_some,D0];exact DO (by simp[CC,DG])
theorem tB{s:Sys}{n:Nat}(hc:1≤s.Cpus∧s.Cpus≤4)(hn:s.Ghosts.length<n)(hb:s.Ghosts.length≤lim):OW n s=some (decide (F6 s),()):=by
 have e:w64 (s.Cpus-1)=s.Cpus-1:=AV (by omega) (by omega)
 unfold OW;have:=Du (l:=fun m i=>Jr n m s i (some (false,())) (some ((decide ((s.Ghosts.length:Int)≤12)),()))) (xs:=s.Ghosts) (p:=fun g=>decide (DG s.Cpus g)) (k0:=some (false,())) (k1:=some ((decide ((s.Ghosts.length:Int)≤12)),()))
  (fun m=>by simp only[Jr,AW,cond_false])
  (fun m i hi=>by
    simp only[Jr,AG hi,AI,Bool.and_self,cond_true,AH hi,BV,MI,e,Option.bind_some,AL (Nat.lt_trans hi (AY hb))]
    by_cases h1:0≤s.Ghosts[i].Cpu∧s.Ghosts[i].Cpu≤s.Cpus-1
    · by_cases h2:A9 s.Ghosts[i].S
      · by_cases h3:0≤s.Ghosts[i].Until∧s.Ghosts[i].Until≤100040
        ·rw[decide_eq_true h1,decide_eq_true h2,decide_eq_true h3,decide_eq_true (p:=DG s.Cpus s.Ghosts[i]) ⟨h1,h2,h3⟩];rfl
        ·rw[decide_eq_true h1,decide_eq_true h2,decide_eq_false h3,decide_eq_false (p:=DG s.Cpus s.Ghosts[i]) (fun q=>h3 q.2.2)];rfl
      ·rw[decide_eq_true h1,decide_eq_false h2,decide_eq_false (p:=DG s.Cpus s.Ghosts[i]) (fun q=>h2 q.2.1)];rfl
    ·rw[decide_eq_false h1,decide_eq_false (p:=DG s.Cpus s.Ghosts[i]) (fun q=>h1 q.1)];rfl) (m:=n) hn
 rw[this];cases e:s.Ghosts.all fun g=>decide (DG s.Cpus g)with
 |true=>
  have h1: ∀g∈s.Ghosts,DG s.Cpus g:=fun g hg=>by simpa using List.all_eq_true.1 e g hg
  rw[cond_true];exact DO (by rw[decide_eq_true_iff];exact⟨fun h=>⟨by omega,h1⟩,fun h=>by have:=h.1;omega⟩)
 |false=>
  rw[decide_eq_false (p:=F6 s) (fun q=>by rw[List.all_eq_true.2 (fun g hg=>decide_eq_true (q.2 g hg))]at e;cases e)];rfl
theorem B3{s:Sys}{n:Nat}(h:SysB s)(hn:SN n):Bf n s=some (decide (SysOk s),()):=by
 have e1:big=1048576:=rfl;have e2:10000000≤lim:=by unfold lim;omega
 have ht:=h.small.tasks;have hg:=h.small.ghosts;have hf:=h.small.floors;unfold SN at hn;simp only[Bf,BV,Option.bind_some];refine CO (P:=0≤s.Now∧s.Now≤100000) (fun q=>q.now) fun h1=> ?_
 refine CO (P:=1≤s.Cpus∧s.Cpus≤4) (fun q=>q.cpus) fun h2=> ?_
 rw[IM (show s.Tasks.length<n by omega) (show s.Tasks.length≤lim by omega),Option.bind_some]
 refine CO (P:=TasksOk s.Tasks) (fun q=>q.tasks) fun h3=> ?_
 rw[tC h.tl (by omega) (by omega),Option.bind_some]
 refine CO (P:=FT s) (fun q=>q.locks) fun h4=> ?_
 rw[tB h2 (by omega) (by omega),Option.bind_some]
 refine CO (P:=F6 s) (fun q=>q.ghosts) fun h5=> ?_
 refine CO (P:=(s.Floors.length:Int)=s.Cpus) (fun q=>q.flen) fun h6=> ?_
 refine CO (P:=0≤s.Seq∧s.Seq≤1000000) (fun q=>q.seq) fun h7=> ?_
 refine CO (P:=0≤s.Missed∧s.Missed≤100000) (fun q=>q.missed) fun h8=> ?_
 refine Uf (P:=(400:Int)<(s.Trace.length:Int)) (fun q=>by have:=q.trace;omega) fun h9=> ?_
 have q1:=Du (l:=fun m i=>Jg n m s i (some (false,())) (Gj n n s 0 (some (false,())) (some (true,())))) (xs:=s.Tasks) (p:=fun t=> !decide (s.Cpus≤t.Cpu)) (k0:=some (false,())) (k1:=Gj n n s 0 (some (false,())) (some (true,())))
  (fun m=>by simp only[Jg,AW,cond_false])
  (fun m i hi=>by
    simp only[Jg,AG hi,AI,Bool.and_self,cond_true,AH hi,AL (Nat.lt_trans hi (AY (show s.Tasks.length≤lim by omega)))]
    cases decide (s.Cpus≤s.Tasks[i].Cpu)<;>rfl) (m:=n) (by omega)
 refine q1.trans ?_;have q2:=IA (l:=fun m i=>Gj n m s (i:Int) (some (false,())) (some (true,()))) (len:=s.Floors.length) (P:=fun i=>(0≤s.Floors.getD i 0∧s.Floors.getD i 0≤100000000)∧Bg (Aj s (i:Int))=true) (k0:=some (false,())) (k1:=some (true,()))
  (fun m=>by
    have: ¬((s.Floors.length:Int)<s.Cpus):=by omega
    simp only[Gj,decide_eq_false this,cond_false])
  (fun m i hi=>by
    have hlt:(i:Int)<s.Cpus:=by omega
    have hsl:=G9 s (i:Int);simp only[Gj,decide_eq_true hlt,AG hi,AI,Bool.and_self,cond_true,AH hi,BV,Yi (show s.Tasks.length+s.Ghosts.length<n by omega) (show s.Tasks.length+s.Ghosts.length≤lim by omega),Option.bind_some,
     YQ (l:=Aj s (i:Int)) (n:=n) (by omega) (by omega),AL (Nat.lt_trans hi (AY (show s.Floors.length≤lim by omega))),Af hi]
    by_cases c1:0≤s.Floors[i]∧s.Floors[i]≤100000000
    · rw[decide_eq_true c1]
      cases c2:Bg (Aj s (i:Int))with
      |true=>rw[if_pos ⟨c1,rfl⟩];rfl
      |false=>rw[if_neg (fun q=>by cases q.2)];rfl
    ·rw[decide_eq_false c1,if_neg (fun q=>c1 q.1)];rfl) (m:=n) (by omega)
 cases ea:s.Tasks.all fun t=> !decide (s.Cpus≤t.Cpu)with
 |false=>
  rw[decide_eq_false (fun q:SysOk s=>by
   rw[List.all_eq_true.2 (fun t ht=>by have:=q.tcpu t ht;simp;omega)]at ea;cases ea)];rfl
 |true=>
  have ha: ∀t∈s.Tasks,t.Cpu<s.Cpus:=fun t ht=>by have:=List.all_eq_true.1 ea t ht;simp at this;omega
  rw[cond_true];refine q2.trans ?_
  by_cases hall: ∀i,i<s.Floors.length→(0≤s.Floors.getD i 0∧s.Floors.getD i 0≤100000000)∧Bg (Aj s (i:Int))=true
  · rw[if_pos hall,decide_eq_true (⟨h1,h2,h3,ha,h4,h5,fun c hc=>(hall c (by omega)).2,h6,fun f hf=>by
     obtain⟨i,hi,rfl⟩:=List.getElem_of_mem hf;have:=(hall i hi).1;rw[Af hi]at this;exact this,h7,h8,by omega⟩:SysOk s)]
  ·rw[if_neg hall,decide_eq_false (fun q:SysOk s=>hall fun i hi=>⟨by rw[Af hi];exact q.floors _ (List.getElem_mem hi),q.fits i (by omega)⟩)]
theorem Cr{s:Sys}{n:Nat}(h:SysB s)(hn:SN n):CV n s=some (decide (SysOk s),()):=by
 have e1:big=1048576:=rfl;have e2:10000000≤lim:=by unfold lim;omega
 have ht:=h.small.tasks;have hg:=h.small.ghosts;have hf:=h.small.floors;have hlk:=h.small.locks;unfold SN at hn;have c1:Ng n s.Tasks s=some (s.Tasks.any fun t=>decide (s.Cpus≤t.Cpu),()):=by
  unfold Ng Qe;have:=C0 (l:=fun m i=>Ja n m s.Tasks s (s.Tasks.length:Int) i (fun w5=>some (w5,())) (some (-1,()))) (xs:=s.Tasks) (p:=fun t=>decide (s.Cpus≤t.Cpu)) (k0:=fun w5=>some (w5,())) (k1:=some (-1,()))
   (fun m=>by simp only[Ja,AW,cond_false])
   (fun m i hi=>by simp only[Ja,AG hi,AI,Bool.and_self,cond_true,AH hi,QM,Option.bind_some,AL (Nat.lt_trans hi (AY (show s.Tasks.length≤lim by omega)))]) (m:=n) (by omega)
  rw[this];exact In _ _
 have c4:K3 n s.Floors=some (s.Floors.any fun f=> !decide (0≤f∧f≤100000000),()):=by
  unfold K3 Qf;have:=C0 (l:=fun m i=>Jd n m s.Floors (s.Floors.length:Int) i (fun w5=>some (w5,())) (some (-1,()))) (xs:=s.Floors) (p:=fun f=> !decide (0≤f∧f≤100000000)) (k0:=fun w5=>some (w5,())) (k1:=some (-1,()))
   (fun m=>by simp only[Jd,AW,cond_false])
   (fun m i hi=>by simp only[Jd,AG hi,AI,Bool.and_self,cond_true,AH hi,QP,Bx,Option.bind_some,AL (Nat.lt_trans hi (AY (show s.Floors.length≤lim by omega)))]) (m:=n) (by omega)
  rw[this];exact In _ _
 simp only[CV,Og,RD,Bx,Option.bind_some];refine CO (P:=0≤s.Now∧s.Now≤100000) (fun q=>q.now) fun h1=> ?_
 refine CO (P:=1≤s.Cpus∧s.Cpus≤4) (fun q=>q.cpus) fun h2=> ?_
 rw[Li (show s.Tasks.length<n by omega) (show s.Tasks.length≤lim by omega),Option.bind_some]
 refine CO (P:=TasksOk s.Tasks) (fun q=>q.tasks) fun h3=> ?_
 rw[c1,Option.bind_some];refine Q0 (fun q=>by
  rw[List.any_eq_false];intro t ht;have:=q.tcpu t ht;simp;omega) fun h4=> ?_
 have ha: ∀t∈s.Tasks,t.Cpu<s.Cpus:=fun t ht=>by
  rw[List.any_eq_false]at h4;have:=h4 t ht;simp at this;omega
 refine CO (P:=(s.Locks.length:Int)=5) (fun q=>by have:=q.locks.1;omega) fun h5=> ?_
 rw[Lh h.tl.locks (show big+2<n by omega) (by omega),Option.bind_some]
 refine CO (P:=LocksOk s.Locks) (fun q=>q.locks.2.1) fun h6=> ?_
 have c2:Nc n s.Locks s=some (s.Locks.any fun k=> !B8 s.Tasks k,()):=by
  unfold Nc Qa;have:=C0 (l:=fun m i=>JV n m s.Locks s (s.Locks.length:Int) i (fun w5=>some (w5,())) (some (-1,()))) (xs:=s.Locks) (p:=fun k=> !B8 s.Tasks k) (k0:=fun w5=>some (w5,())) (k1:=some (-1,()))
   (fun m=>by simp only[JV,AW,cond_false])
   (fun m i hi=>by
     have hk:=List.getElem_mem hi;have hw:=h.small.waits _ hk;simp only[JV,AG hi,AI,Bool.and_self,cond_true,AH hi,QN,
      cw (ts:=s.Tasks) (k:=s.Locks[i]) (n:=n) (by omega) (by omega) (by omega) (by omega) (fun t ht=>(h3.each t ht).cpu.1) (h6.own _ hk).2 (fun y hy=>by have:=(h6.nos y (List.mem_flatMap.2 ⟨_,hk,hy⟩)).1;omega),
      Option.bind_some,AL (Nat.lt_trans hi (AY (show s.Locks.length≤lim by omega)))]) (m:=n) (by omega)
  rw[this];exact In _ _
 rw[c2,Option.bind_some];refine Q0 (fun q=>by
  rw[List.any_eq_false];intro k hk;have:=q.locks.2.2 k hk;simp[this]) fun h7=> ?_
 have hlo:FT s:=⟨by omega,h6,fun k hk=>by
  rw[List.any_eq_false]at h7;have:=h7 k hk;simpa using this⟩
 refine Uf (P:=(12:Int)<(s.Ghosts.length:Int)) (fun q=>by have:=q.ghosts.1;omega) fun h8=> ?_
 have c3:Nb n s.Ghosts s=some (s.Ghosts.any fun g=> !decide (DG s.Cpus g),()):=by
  unfold Nb QZ;have:=C0 (l:=fun m i=>JS n m s.Ghosts s (s.Ghosts.length:Int) i (fun w5=>some (w5,())) (some (-1,()))) (xs:=s.Ghosts) (p:=fun g=> !decide (DG s.Cpus g)) (k0:=fun w5=>some (w5,())) (k1:=some (-1,()))
   (fun m=>by simp only[JS,AW,cond_false])
   (fun m i hi=>by simp only[JS,AG hi,AI,Bool.and_self,cond_true,AH hi,QO,cr h2,Option.bind_some,AL (Nat.lt_trans hi (AY (show s.Ghosts.length≤lim by omega)))]) (m:=n) (by omega)
  rw[this];exact In _ _
 rw[c3,Option.bind_some];refine Q0 (fun q=>by
  rw[List.any_eq_false];intro k hk;have:=q.ghosts.2 k hk;simp[this]) fun h9=> ?_
 have hgo:F6 s:=⟨by omega,fun k hk=>by
  rw[List.any_eq_false]at h9;have:=h9 k hk;simpa using this⟩
 obtain⟨c,hc⟩: ∃c:Nat,s.Cpus=(c:Int):=⟨s.Cpus.toNat,by omega⟩
 have q2:=IA (l:=fun m i=>JC n m s s.Cpus (i:Int) (some (false,())) (cond (decide (((s.Floors).length:Int)=s.Cpus))
              ((K3 n s.Floors).bind fun r13=>
               cond (!r13.1)
                (cond (decide (0≤s.Seq∧s.Seq≤1000000))
                  (cond (decide (0≤s.Missed∧s.Missed≤100000))
                    (some ((decide (((s.Trace).length:Int)≤400)),()))
                    (some (false,())))
                  (some (false,())))
                (some (false,())))
              (some (false,())))) (len:=c) (P:=fun i=>Bg (Aj s (i:Int))=true) (k0:=some (false,()))
  (fun m=>by
    have: ¬((c:Int)<s.Cpus):=by omega
    simp only[JC,decide_eq_false this,cond_false];rfl)
  (fun m i hi=>by
    have hlt:(i:Int)<s.Cpus:=by omega
    have hsl:=G9 s (i:Int);simp only[JC,decide_eq_true hlt,cond_true,Od (show s.Tasks.length+s.Ghosts.length<n by omega) (show s.Tasks.length+s.Ghosts.length≤lim by omega),Option.bind_some,
     Q4 (l:=Aj s (i:Int)) (n:=n) (by omega) (by omega),AL (show i<Ab by unfold Ab;omega)]
    cases Bg (Aj s (i:Int))<;>rfl) (m:=n) (by omega)
 refine q2.trans ?_
 by_cases hall: ∀i,i<c→Bg (Aj s (i:Int))=true
 · rw[if_pos hall,c4,Option.bind_some]
   by_cases h10:(s.Floors.length:Int)=s.Cpus
   · rw[decide_eq_true h10,cond_true]
     refine bv (fun q=>by
      rw[List.any_eq_false];intro k hk;have:=q.floors k hk;simp[this]) fun h11=> ?_
     refine Ug (P:=0≤s.Seq∧s.Seq≤1000000) (fun q=>q.seq) fun h12=> ?_
     refine Ug (P:=0≤s.Missed∧s.Missed≤100000) (fun q=>q.missed) fun h13=> ?_
     refine DO ?_;rw[decide_eq_true_iff];exact⟨fun h14=>⟨h1,h2,h3,ha,hlo,hgo,fun i hi=>hall i (by omega),h10,fun f hf=>by
      rw[List.any_eq_false]at h11;have:=h11 f hf;simpa using this,h12,h13,by omega⟩,fun q=>by have:=q.trace;omega⟩
   ·rw[decide_eq_false h10,decide_eq_false (fun q:SysOk s=>h10 q.flen)];rfl
 ·rw[if_neg hall,decide_eq_false (fun q:SysOk s=>hall fun i hi=>q.fits i (by omega))]
end Go.Proofs.YthoholbeacojfaaGreat.VR
end
section
set_option linter.unusedVariables false
set_option linter.unusedSimpArgs false
namespace Go.Proofs.YthoholbeacojfaaGreat.VR
open Go
theorem F0{β:Type}{ys:List β}{i:Nat}(hi:i<ys.length){x:β}(h:ys[i]=x):ys.set i x=ys:=by subst h;exact List.set_getElem_self hi
def Dc(s:Sys):Sys:=⟨s.Now,s.Cpus,s.Tasks.map (B9 s.Now),s.Locks,s.Ghosts.filter (fun g=>decide (s.Now<g.Until)),s.Floors,s.Seq,s.Tasks.foldl (CQ s.Now) s.Missed,s.Trace⟩
theorem RY{now m:Int}(t:Task)(h:0≤m∧m≤100000):0≤CQ now m t∧CQ now m t≤100000:=by
 unfold CQ;split<;>omega
theorem U9{s:Sys}{n:Nat}(hn:s.Tasks.length<n)(hb:s.Tasks.length≤lim)(hn2:s.Ghosts.length<n)(hb2:s.Ghosts.length≤lim)(hm:0≤s.Missed∧s.Missed≤100000):Kr n s=some ((),AB (Dc s),()):=by
 unfold Kr;rw[b7 hn2 hb2];simp only[Option.bind_some];generalize hG:s.Ghosts.filter (fun g=>decide (s.Now<g.Until))=gs
 have:=PM (l:=fun m i ys ms=>E4 n m ⟨s.Now,s.Cpus,ys,s.Locks,gs,s.Floors,s.Seq,ms,s.Trace⟩ (s.Tasks.length:Int) i (fun w11 w12=>some ((()),(AB (⟨s.Now,s.Cpus,w12,s.Locks,gs,s.Floors,s.Seq,w11,s.Trace⟩:Sys)),())))
  (xs:=s.Tasks) (g:=fun _ t=>B9 s.Now t) (f:=CQ s.Now) (k:=fun ys ms=>some ((()),(AB (⟨s.Now,s.Cpus,ys,s.Locks,gs,s.Floors,s.Seq,ms,s.Trace⟩:Sys)),()))
  (fun _ ms=>0≤ms∧ms≤100000) (fun m ys ms hl=>by simp only[E4,AW,cond_false]) (fun m i ys ms hi hl hI hy=>by
    have hi':i<ys.length:=by omega
    refine⟨?_,RY _ hI⟩;simp only[E4,AG hi,AG hi',AI,Bool.and_self,cond_true,AH hi',Af hi',hy,cI,dnTask_up,Option.bind_some,Int.toNat_natCast,decide_eq_true hi',AL (Nat.lt_trans hi (AY hb)),DK,BT];unfold B9 CQ;generalize xs_i:s.Tasks[i]=t at*
    by_cases h1:t.Class=1
    · cases h2:t.Idle with
      |true=>simp[h1,F0 hi' hy]
      |false=>
       by_cases h3:t.Due≤s.Now
       · have h4: ¬s.Now<t.Due:=by omega
         have e:w64 (ms+1)=ms+1:=AV (by omega) (by omega)
         by_cases h5:0<t.Left
         · have e2:(if ms+1<100000 then ms+1 else 100000)=min (ms+1) 100000:=by omega
           simp[h1,h3,h4,h5,e,e2]
         ·simp[h1,h3,h4,h5]
       · have h4:s.Now<t.Due:=by omega
         simp[h1,h3,h4,F0 hi' hy]
    ·simp[h1,F0 hi' hy])
  (fun xs _=>xs.map (B9 s.Now)) (fun _=>rfl) (fun _ _ _=>rfl) (m:=n) (s:=s.Missed) hm hn
 refine this.trans ?_;unfold Dc;rw[←hG]
def KI(s:Sys):Sys:=⟨s.Now,s.Cpus,s.Tasks.map (B4 s.Tasks s.Locks s.Floors s.Now),s.Locks,s.Ghosts,s.Floors,s.Seq,s.Missed,s.Trace⟩
structure TickB(s:Sys):Prop where
 tl:TLB big s.Tasks s.Locks
 tasks:TasksOk s.Tasks
 locks:LocksOk s.Locks
 cpu: ∀t∈s.Tasks,t.Cpu<(s.Floors.length:Int)
theorem Zh{s:Sys}(h:TickB s)(no:Int):KN s.Tasks s.Locks no=BX s.Tasks s.Locks no:=by
 unfold KN;rw[decide_eq_true ⟨h.tasks,h.locks⟩];rfl
theorem VC{s:Sys}{n:Nat}(h:TickB s)(hn:big+2<n):Ku n s=some ((),AB (KI s),()):=by
 have hb2:big+2≤lim:=EO;have ht:s.Tasks.length≤big:=h.tl.tasks;unfold Ku;have h1:=Ak (l:=fun m i=>JH n m s ((s.Tasks.take i).map fun t=>BX s.Tasks s.Locks t.No) (s.Tasks.length:Int) (i:Int)
  (fun w6=>E5 n n s w6 ((s.Tasks).length:Int) 0 (fun w16=>some ((()),(AB (⟨s.Now,s.Cpus,w16,s.Locks,s.Ghosts,s.Floors,s.Seq,s.Missed,s.Trace⟩:Sys)),())))) (len:=s.Tasks.length)
  (r:=E5 n n s (s.Tasks.map fun t=>BX s.Tasks s.Locks t.No) ((s.Tasks).length:Int) 0 (fun w16=>some ((()),(AB (⟨s.Now,s.Cpus,w16,s.Locks,s.Ghosts,s.Floors,s.Seq,s.Missed,s.Trace⟩:Sys)),())))
  (fun _=>True) trivial (fun m _=>by simp only[JH,AW,cond_false,List.take_length]) (fun m i hi _=>.inl ⟨?_,trivial⟩) (m:=n) (by omega)
 · refine h1.trans ?_
   have:=Vj (l:=fun m i ys=>E5 n m ⟨s.Now,s.Cpus,ys,s.Locks,s.Ghosts,s.Floors,s.Seq,s.Missed,s.Trace⟩ (s.Tasks.map fun t=>BX s.Tasks s.Locks t.No) (s.Tasks.length:Int) i (fun w16=>some ((()),(AB (⟨s.Now,s.Cpus,w16,s.Locks,s.Ghosts,s.Floors,s.Seq,s.Missed,s.Trace⟩:Sys)),())))
    (xs:=s.Tasks) (g:=B4 s.Tasks s.Locks s.Floors s.Now) (k:=fun ys=>some ((()),(AB (⟨s.Now,s.Cpus,ys,s.Locks,s.Ghosts,s.Floors,s.Seq,s.Missed,s.Trace⟩:Sys)),()))
    (fun m ys hl=>by simp only[E5,AW,cond_false]) (fun m i ys hi hl hy=>by
      have hi':i<ys.length:=by omega
      have hia:i<(s.Tasks.map fun t=>BX s.Tasks s.Locks t.No).length:=by rw[List.length_map];exact hi
      have hcp:=(h.tasks.each _ (List.getElem_mem hi)).cpu;have hcf:=h.cpu _ (List.getElem_mem hi);simp only[E5,AG hi,AG hi',AG hia,AI,Bool.and_self,cond_true,AH hi',Af hi',AH hia,Af hia,List.getElem_map,hy,cK,cO,dnTask_up,Option.bind_some,Int.toNat_natCast,decide_eq_true hi',AL (show i<Ab by unfold Ab;unfold big at ht;omega)]
      unfold B4;generalize s.Tasks[i]=t at*;rw[decide_eq_true hcp.1,decide_eq_true hcf];cases ha:BX s.Tasks s.Locks t.No with
      |false=>simp
      |true=>
       cases hid:t.Idle with
       |true=>simp[Kd.dflt]
       |false=>
        have e:(⟨t.No,t.Class,t.Cpu,t.State,false,t.Q,t.P,t.Left,t.Due,t.Prio,t.Round,t.Seq,t.Nice,t.V⟩:Task)=t:=by rw[←hid]
        simp[e]) (m:=n) (by omega)
   exact this
 · simp only[JH,AG hi,AI,Bool.and_self,cond_true,AH hi,Ur h.tl hn hb2,Zh h,Option.bind_some,AL (show i<Ab by unfold Ab;unfold big at ht;omega),dh _ hi]
   rw[CB (B:=s.Tasks.length) (by rw[List.length_map,List.length_take];omega) (by omega)]
   rfl
theorem VA{s:Sys}{n:Nat}{cpu:Int}(h:TickB s)(hn:big+2<n)(htr:s.Trace.length+1≤lim)(hseq:0≤s.Seq∧s.Seq≤1000000):
 Kt n s cpu=some ((),AB ⟨s.Now,s.Cpus,(Bk s.Locks ⟨s.Tasks,s.Seq,s.Trace⟩ cpu).ts,s.Locks,s.Ghosts,s.Floors,(Bk s.Locks ⟨s.Tasks,s.Seq,s.Trace⟩ cpu).seq,s.Missed,(Bk s.Locks ⟨s.Tasks,s.Seq,s.Trace⟩ cpu).tr⟩,()):=by
 have hb2:big+2≤lim:=EO;have ht:s.Tasks.length≤big:=h.tl.tasks;have e:w64 (s.Seq+1)=s.Seq+1:=AV (by omega) (by omega)
 unfold Kt Bk;rw[Q7 h.tl hn hb2];unfold pick;simp only[Option.bind_some];rw[decide_eq_true (show s.Trace.length+[_].length≤lim by simpa using htr)]
 cases hbt:Ai (Ag s.Tasks s.Locks cpu)with
 |none=>rfl
 |some t=>
  have hm:=(EN _ none t hbt).resolve_right (fun h=>by cases h)
  have htm:t∈s.Tasks:=(List.mem_filter.1 hm).1;obtain⟨i,hi,e1,e2⟩:=Cq h.tasks htm;have hno:=(h.tasks.each t htm).no;have h0: ¬t.No=0:=by omega
  simp only[cond_true,decide_eq_false h0,cond_false,C1 (show s.Tasks.length<n by omega) (show s.Tasks.length≤lim by omega),e2,idx,Option.bind_some,AI,AG hi,Bool.and_self,AH hi,Af hi,e1,cP,cJ,cM,dnTask_up,Int.toNat_natCast,decide_eq_true hi,e,Option.getD_some]
  cases (Ba t (s.Seq+1)).2<;>rfl
end Go.Proofs.YthoholbeacojfaaGreat.VR
end
section
set_option linter.unusedVariables false
set_option linter.unusedSimpArgs false
namespace Go.Proofs.YthoholbeacojfaaGreat.VR
open Go
theorem Ob{R β:Type}{l:Nat→Int→List β→R}{xs:List β}{g:Nat→β→β}(d:β){k:List β→R}(hend: ∀m ys,ys.length=xs.length→l (m+1) (xs.length:Int) ys=k ys)
 (hstep: ∀m (i:Nat) ys (hi:i<xs.length) (hl:ys.length=xs.length),ys[i]'(by omega)=xs[i]→l (m+1) (i:Int) ys=l m ((i+1:Nat):Int) (ys.set i (g i xs[i]))) {m:Nat} (hm:xs.length<m):
 l m 0 xs=k ((List.range xs.length).map fun i=>g i (xs.getD i d)):=by
 have hlen: ∀i,i≤xs.length→(((List.range i).map fun i=>g i (xs.getD i d))++xs.drop i).length=xs.length:=fun i hi=>by
  rw[List.length_append,List.length_map,List.length_range,List.length_drop];omega
 have:=Ak (l:=fun m i=>l m (i:Int) (((List.range i).map fun i=>g i (xs.getD i d))++xs.drop i)) (len:=xs.length) (r:=k ((List.range xs.length).map fun i=>g i (xs.getD i d))) (fun _=>True) trivial
  (fun m _=>by rw[hend _ _ (hlen _ (Nat.le_refl _)),List.drop_length,List.append_nil]) (fun m i hi _=>.inl ⟨?_,trivial⟩) hm
 ·simpa using this
 · have hl:=hlen i (by omega)
   have hA:((List.range i).map fun i=>g i (xs.getD i d)).length=i:=by simp
   rw[hstep m i _ hi hl (by
    rw[List.getElem_append_right (by omega)]
    simp[hA])]
   congr 1
   rw[List.range_succ,List.map_append,List.drop_eq_getElem_cons hi,List.set_append_right _ _ (by omega),hA,Nat.sub_self,List.set_cons_zero,List.append_assoc]
   simp only[List.map_cons,List.map_nil,Af hi];rfl
theorem TickB.keeps{s:Sys}{ts:List Task}(h:TickB s)(hk:KeepsL s.Tasks ts)(a b c d e f:Int)(gs:List Ghost)(fs:List Int)(tr:List Turn)(hf:fs.length=s.Floors.length):TickB ⟨a,b,ts,s.Locks,gs,fs,c,d,tr⟩:=
 ⟨⟨by rw[hk.len];exact h.tl.tasks,h.tl.locks⟩,hk.tasksOk h.tasks,h.locks,fun t ht=>by
  obtain⟨t0,h0,hk0⟩:=hk.mem ht;show t.Cpu<(fs.length:Int);rw[hk0.cpu,hf];exact h.cpu t0 h0⟩
theorem tE(t:Task)(seq:Int):Ba (CM (BZ t)) seq=(CM (BZ (Ba t seq).1),(Ba t seq).2):=by
 have no1: ∀{x:Task},¬(TaskOk x∧x.Class=1)→BZ x=x:=fun h=>by unfold BZ;rw[if_neg (fun q=>h q.1)]
 have no2: ∀{x:Task},¬(TaskOk x∧x.Class=2)→Ba x seq=(x,false):=fun h=>by unfold Ba;rw[if_neg (fun q=>h q.1)]
 have no3: ∀{x:Task},¬(TaskOk x∧x.Class=3)→CM x=x:=fun{x} h=>by
  unfold CM;rw[if_neg];rw[C9];exact h
 have k1:=T5 t;have k2:=UT t seq;have k3:=UJ t
 by_cases h1:TaskOk t∧t.Class=1
 ·rw[no2 (x:=t) (by rw[h1.2];simp),no3 (x:=BZ t) (by rw[k1.cls,h1.2];simp),no2 (x:=BZ t) (by rw[k1.cls,h1.2];simp)]
 · rw[no1 h1]
   by_cases h2:TaskOk t∧t.Class=2
   ·rw[no3 (x:=t) (by rw[h2.2];simp),no1 (x:=(Ba t seq).1) (by rw[k2.cls,h2.2];simp),no3 (x:=(Ba t seq).1) (by rw[k2.cls,h2.2];simp)]
   · rw[no2 h2]
     dsimp only;rw[no1 h1]
     by_cases h3:TaskOk t∧t.Class=3
     ·rw[no2 (x:=CM t) (by rw[k3.cls,h3.2];simp)]
     ·rw[no3 h3,no2 h2]
theorem Ye(a b:Int):He a b=some (min a b,()):=by
 rw[Yd]
 congr 2
 split<;>omega
theorem ck{ls:List Lock}{n:Nat}(hn:ls.length<n)(hb:ls.length≤lim)(hw: ∀k∈ls,k.Waits.length≤lim):NG n ls=some (ls,()):=by
 unfold NG;refine Ak (l:=fun m i=>JJ n m (ls.take i) ls (ls.length:Int) (i:Int) (fun w7=>some (w7,()))) (len:=ls.length) (fun _=>True) trivial (fun m _=> ?_) (fun m i hi _=>.inl ⟨?_,trivial⟩) hn
 ·simp only[JJ,AW,cond_false,List.take_length]
 · simp only[JJ,AG hi,AI,Bool.and_self,cond_true,AH hi,Ma (hw _ (List.getElem_mem hi)),Option.bind_some,AL (Nat.lt_trans hi (AY hb))]
   rw[CB (B:=ls.length) (by rw[List.length_take];omega) hb,List.take_succ_eq_append_getElem hi]
   rfl
theorem RA{ls:List Lock}{n:Nat}(hn:ls.length<n)(hb:ls.length≤lim)(hw: ∀k∈ls,k.Waits.length≤lim):Iv n ls=some (ls,()):=by
 unfold Iv;refine Ak (l:=fun m i=>JK n m (ls.take i) ls (ls.length:Int) (i:Int) (fun w7=>some (w7,()))) (len:=ls.length) (fun _=>True) trivial (fun m _=> ?_) (fun m i hi _=>.inl ⟨?_,trivial⟩) hn
 ·simp only[JK,AW,cond_false,List.take_length]
 · simp only[JK,AG hi,AI,Bool.and_self,cond_true,AH hi,Ma (hw _ (List.getElem_mem hi)),Option.bind_some,AL (Nat.lt_trans hi (AY hb))]
   rw[CB (B:=ls.length) (by rw[List.length_take];omega) hb,List.take_succ_eq_append_getElem hi]
   rfl
theorem s8{ls:List Lock}{n:Nat}(hn:ls.length<n)(hb:ls.length≤lim)(hw: ∀k∈ls,k.Waits.length≤lim):OT n ls=some (ls,()):=by
 unfold OT;refine Ak (l:=fun m i=>Jn n m ls (ls.take i) (i:Int) (fun w7=>some (w7,()))) (len:=ls.length) (fun _=>True) trivial (fun m _=> ?_) (fun m i hi _=>.inl ⟨?_,trivial⟩) hn
 ·simp only[Jn,AW,cond_false,List.take_length]
 · have hw':decide ((([]:List Int)).length+ls[i].Waits.length≤lim)=true:=decide_eq_true (by have:=hw _ (List.getElem_mem hi);simpa using this)
   simp only[Jn,AG hi,AI,Bool.and_self,cond_true,AH hi,hw',AL (Nat.lt_trans hi (AY hb)),List.nil_append];rw[CB (B:=ls.length) (by rw[List.length_take];omega) hb,List.take_succ_eq_append_getElem hi]
   rfl
theorem MK{ls:List Lock}{n:Nat}(hn:ls.length<n)(hb:ls.length≤lim)(hw: ∀k∈ls,k.Waits.length≤lim):Hi n ls=some (ls,()):=by
 unfold Hi;refine Ak (l:=fun m i=>Jo n m ls (ls.take i) (i:Int) (fun w7=>some (w7,()))) (len:=ls.length) (fun _=>True) trivial (fun m _=> ?_) (fun m i hi _=>.inl ⟨?_,trivial⟩) hn
 ·simp only[Jo,AW,cond_false,List.take_length]
 · have hw':decide ((([]:List Int)).length+ls[i].Waits.length≤lim)=true:=decide_eq_true (by have:=hw _ (List.getElem_mem hi);simpa using this)
   simp only[Jo,AG hi,AI,Bool.and_self,cond_true,AH hi,hw',AL (Nat.lt_trans hi (AY hb)),List.nil_append];rw[CB (B:=ls.length) (by rw[List.length_take];omega) hb,List.take_succ_eq_append_getElem hi]
   rfl
theorem U4{s:Sys}{n B:Nat}(h:Small B s)(hn:B<n)(hb:B≤lim):Kw n s=some (AB s,()):=by
 have h1:=h.tasks;have h2:=h.locks;have h3:=h.ghosts;have h4:=h.floors;have h5:=h.trace;simp only[Kw,Mc (show s.Tasks.length≤lim by omega),ck (ls:=s.Locks) (n:=n) (by omega) (by omega) (fun k hk=>Nat.le_trans (h.waits k hk) hb),Tr (show s.Ghosts.length≤lim by omega),Ma (show s.Floors.length≤lim by omega),Tt (show s.Trace.length≤lim by omega),Option.bind_some]
theorem Lj{s:Sys}{n B:Nat}(h:Small B s)(hn:B<n)(hb:B≤lim):Dl n s=some (AB s,()):=by
 have h1:=h.tasks;have h2:=h.locks;have h3:=h.ghosts;have h4:=h.floors;have h5:=h.trace;simp only[Dl,Mc (show s.Tasks.length≤lim by omega),RA (ls:=s.Locks) (n:=n) (by omega) (by omega) (fun k hk=>Nat.le_trans (h.waits k hk) hb),Tr (show s.Ghosts.length≤lim by omega),Ma (show s.Floors.length≤lim by omega),Tt (show s.Trace.length≤lim by omega),Option.bind_some]
theorem Sf{s:Sys}{n B:Nat}(h:Small B s)(hn:B<n)(hb:B≤lim):LX n s=some (AB s,()):=by
 have h1:=h.tasks;have h2:=h.locks;have h3:=h.ghosts;have h4:=h.floors;have h5:=h.trace;have e1:decide ((([]:List Task)).length+s.Tasks.length≤lim)=true:=decide_eq_true (by simp;omega)
 have e3:decide ((([]:List Ghost)).length+s.Ghosts.length≤lim)=true:=decide_eq_true (by simp;omega)
 have e4:decide ((([]:List Int)).length+s.Floors.length≤lim)=true:=decide_eq_true (by simp;omega)
 have e5:decide ((([]:List Turn)).length+s.Trace.length≤lim)=true:=decide_eq_true (by simp;omega)
 simp only[LX,e1,e3,e4,e5,s8 (ls:=s.Locks) (n:=n) (by omega) (by omega) (fun k hk=>Nat.le_trans (h.waits k hk) hb),cond_true,Option.bind_some,List.nil_append]
theorem KC{s:Sys}{n B:Nat}(h:Small B s)(hn:B<n)(hb:B≤lim):Eu n s=some (AB s,()):=by
 have h1:=h.tasks;have h2:=h.locks;have h3:=h.ghosts;have h4:=h.floors;have h5:=h.trace;have e1:decide ((([]:List Task)).length+s.Tasks.length≤lim)=true:=decide_eq_true (by simp;omega)
 have e3:decide ((([]:List Ghost)).length+s.Ghosts.length≤lim)=true:=decide_eq_true (by simp;omega)
 have e4:decide ((([]:List Int)).length+s.Floors.length≤lim)=true:=decide_eq_true (by simp;omega)
 have e5:decide ((([]:List Turn)).length+s.Trace.length≤lim)=true:=decide_eq_true (by simp;omega)
 simp only[Eu,e1,e3,e4,e5,MK (ls:=s.Locks) (n:=n) (by omega) (by omega) (fun k hk=>Nat.le_trans (h.waits k hk) hb),cond_true,Option.bind_some,List.nil_append]
theorem Ya{s:Sys}{n:Nat}{cpu:Int}(h:TickB s)(hn:big+2<n)(htr:s.Trace.length+1≤lim)(hseq:0≤s.Seq∧s.Seq≤1000000):
 LE n s cpu=some (AB ⟨s.Now,s.Cpus,(Bk s.Locks ⟨s.Tasks,s.Seq,s.Trace⟩ cpu).ts,s.Locks,s.Ghosts,s.Floors,(Bk s.Locks ⟨s.Tasks,s.Seq,s.Trace⟩ cpu).seq,s.Missed,(Bk s.Locks ⟨s.Tasks,s.Seq,s.Trace⟩ cpu).tr⟩,()):=by
 have hb2:big+2≤lim:=EO;have ht:s.Tasks.length≤big:=h.tl.tasks;have e:w64 (s.Seq+1)=s.Seq+1:=AV (by omega) (by omega)
 have htr': ∀u:Turn,decide (s.Trace.length+[u].length≤lim)=true:=fun u=>decide_eq_true (by simpa using htr)
 unfold LE Bk;rw[Se h.tl hn hb2 h.tasks h.locks];simp only[Option.bind_some];cases hbt:Ai (Ag s.Tasks s.Locks cpu)with
 |none=>
  simp only[Bi];rw[htr'];rfl
 |some t=>
  have hm:=(EN _ none t hbt).resolve_right (fun h=>by cases h)
  have htm:t∈s.Tasks:=(List.mem_filter.1 hm).1;obtain⟨i,hi,e1,e2⟩:=Cq h.tasks htm;have hsc:=tE t (s.Seq+1);simp only[Bi,e2,idx,AI,cond_true,AG hi,Bool.and_self,AH hi,Af hi,e1,Sd h.tl hn hb2 h.locks,sJ,sM,sP,dnTask_up,Option.bind_some,e,hsc,Int.toNat_natCast,decide_eq_true hi,htr',Option.getD_some];cases (Ba t (s.Seq+1)).2<;>rfl
theorem Yb{s:Sys}{n:Nat}(h:TickB s)(hs:Small big s)(hn:big+2<n):Hd n s=some (AB (KI s),()):=by
 have hb2:big+2≤lim:=EO;have ht:s.Tasks.length≤big:=h.tl.tasks;unfold Hd;rw[KC hs (by omega) (by omega)]
 simp only[Option.bind_some,dnSys_up];have:=Vj (l:=fun m i ys=>Gr n m s (⟨0,0,[],[],[],[],0,0,[]⟩:Sys) ⟨s.Now,s.Cpus,ys,s.Locks,s.Ghosts,s.Floors,s.Seq,s.Missed,s.Trace⟩ i (fun w13=>some ((AB (⟨s.Now,s.Cpus,w13,s.Locks,s.Ghosts,s.Floors,s.Seq,s.Missed,s.Trace⟩:Sys)),())))
  (xs:=s.Tasks) (g:=B4 s.Tasks s.Locks s.Floors s.Now) (k:=fun ys=>some ((AB (⟨s.Now,s.Cpus,ys,s.Locks,s.Ghosts,s.Floors,s.Seq,s.Missed,s.Trace⟩:Sys)),()))
  (fun m ys hl=>by simp only[Gr,AW,cond_false]) (fun m i ys hi hl hy=>by
    have hi':i<ys.length:=by omega
    have hcp:=(h.tasks.each _ (List.getElem_mem hi)).cpu;have hcf:=h.cpu _ (List.getElem_mem hi);simp only[Gr,AG hi,AG hi',AI,Bool.and_self,cond_true,AH hi,Af hi,Yg h.tl hn hb2 h.locks,sK,sO,dnTask_up,Option.bind_some,Int.toNat_natCast,decide_eq_true hi',AL (show i<Ab by unfold Ab;unfold big at ht;omega)]
    unfold B4;generalize s.Tasks[i]=t at*;rw[decide_eq_true hcp.1,decide_eq_true hcf];cases ha:BX s.Tasks s.Locks t.No with
    |false=>simp
    |true=>
     cases hid:t.Idle with
     |true=>
      have hI: ∀x:Task,x.Idle=false→(⟨x.No,x.Class,x.Cpu,x.State,false,x.Q,x.P,x.Left,x.Due,x.Prio,x.Round,x.Seq,x.Nice,x.V⟩:Task)=x:=fun x hx=>by rw[←hx]
      have hw:(CF (CD {t with Idle:=false} s.Now) (s.Floors.getD t.Cpu.toNat 0)).Idle=false:=by
       have h1: ∀(x:Task) (v:Int),(Cw x v).Idle=x.Idle:=fun x v=>by unfold Cw;split<;>rfl
       unfold CF;split
       · rw[h1]
         unfold CD;split
         ·split<;>rfl
         ·rfl
       · unfold CD
         split
         ·split<;>rfl
         ·rfl
      simp[Kd.dflt];rw[show List.set ys i _=List.set ys i _ from rfl]
      congr 2
      exact congrArg (List.set ys i) (hI _ (by simpa[List.getD_eq_getElem?_getD]using hw))
     |false=>
      have e:(⟨t.No,t.Class,t.Cpu,t.State,false,t.Q,t.P,t.Left,t.Due,t.Prio,t.Round,t.Seq,t.Nice,t.V⟩:Task)=t:=by rw[←hid]
      simp[e]) (m:=n) (by omega)
 exact this
end Go.Proofs.YthoholbeacojfaaGreat.VR
end
section
set_option linter.unusedVariables false
set_option linter.unusedSimpArgs false
namespace Go.Proofs.YthoholbeacojfaaGreat.VR
open Go
theorem sU{s:Sys}{n:Nat}(h:SysB s)(hn:SN n):N6 n s=some (Fh s,()):=by
 simp only[N6,B3 h hn,Option.bind_some,Fh];cases decide (SysOk s)<;>rfl
theorem Uz{s:Sys}{n:Nat}(h:SysB s)(hn:SN n):Kl n s=some (Fh s,()):=by
 simp only[Kl,Cr h hn,Option.bind_some,Fh];cases decide (SysOk s)<;>rfl
theorem sd{s:Sys}{no:Int}{n:Nat}(h:SysB s)(hn:SN n):OF n s no=some (FO s no,()):=by
 obtain⟨h1,h2⟩:=hn.tasks h;simp only[OF,B3 h hn,F1 h1 h2,Option.bind_some,FO]
 by_cases hs:SysOk s
 · rw[decide_eq_true hs,if_pos hs,Bool.not_true,cond_false]
   cases e:AR s.Tasks no with
   |none=>rfl
   |some i=>
    obtain⟨hi,_⟩:=Bj e;have z1: ¬((i:Int)<0):=by omega
    have z2:(0:Int)≤(i:Int):=by omega
    have z3:(i:Int)<(s.Tasks.length:Int):=by omega
    simp only[idx,z1,z2,z3,decide_true,decide_false,cond_false,Bool.and_self,cond_true,Int.toNat_natCast]
    by_cases hc:(s.Tasks.getD i (Kd.dflt .task)).Class=1
    ·simp only[hc,decide_true,Bool.not_true,cond_false,if_true]
    ·simp only[hc,decide_false,Bool.not_false,cond_true,if_false]
 ·rw[decide_eq_false hs,if_neg hs];rfl
theorem cY{s:Sys}{no:Int}{n:Nat}(h:SysB s)(hn:SN n):M3 n s no=some (FO s no,()):=by
 obtain⟨h1,h2⟩:=hn.tasks h;simp only[M3,Cr h hn,C1 h1 h2,Option.bind_some,FO]
 by_cases hs:SysOk s
 · rw[decide_eq_true hs,if_pos hs,Bool.not_true,cond_false]
   cases e:AR s.Tasks no with
   |none=>rfl
   |some i=>
    obtain⟨hi,_⟩:=Bj e;have z1: ¬((i:Int)<0):=by omega
    have z2:(0:Int)≤(i:Int):=by omega
    have z3:(i:Int)<(s.Tasks.length:Int):=by omega
    simp only[idx,z1,z2,z3,decide_true,decide_false,cond_false,Bool.and_self,cond_true,Int.toNat_natCast]
    by_cases hc:(s.Tasks.getD i (Kd.dflt .task)).Class=1
    ·simp only[hc,decide_true,Bool.not_true,cond_false,if_true]
    ·simp only[hc,decide_false,Bool.not_false,cond_true,if_false]
 ·rw[decide_eq_false hs,if_neg hs];rfl
theorem sV{s:Sys}{n:Nat}(h:SysB s)(hn:SN n):N7 n s=some (Fi s,()):=by
 obtain⟨h1,h2⟩:=hn.tasks h;simp only[N7,B3 h hn,Option.bind_some,Fi]
 by_cases hs:SysOk s
 · rw[decide_eq_true hs,Bool.not_true,cond_false,Bool.true_and]
   have:=Du (l:=fun m i=>Gi n m s i (some (false,())) (some (true,()))) (xs:=s.Tasks) (p:=LZ s) (k0:=some (false,())) (k1:=some (true,()))
    (fun m=>by simp only[Gi,AW,cond_false])
    (fun m i hi=>by
      obtain⟨f1,f2,f3,f4⟩:=hs.floor (List.getElem_mem hi);simp only[Gi,AG hi,AI,Bool.and_self,cond_true,AH hi,AL (Nat.lt_trans hi (AY h2))];unfold LZ
      by_cases hc:s.Tasks[i].Class=3
      · have hv:=Sq (hs.tasks.each _ (List.getElem_mem hi)) hc
        have e:w64 (s.Tasks[i].V-List.getD s.Floors (Int.toNat s.Tasks[i].Cpu) (Kd.dflt .int))=s.Tasks[i].V-s.Floors.getD s.Tasks[i].Cpu.toNat 0:=AV (by change _≤s.Tasks[i].V-s.Floors.getD s.Tasks[i].Cpu.toNat 0;omega) (by change s.Tasks[i].V-s.Floors.getD s.Tasks[i].Cpu.toNat 0≤_;omega)
        rw[decide_eq_true hc,cond_true,decide_eq_true f1,decide_eq_true f2,Bool.and_self,cond_true,e];simp only[BV,Option.bind_some];cases s.Tasks[i].Idle with
        |true=>rfl
        |false=>cases decide (0≤s.Tasks[i].V-s.Floors.getD s.Tasks[i].Cpu.toNat 0∧s.Tasks[i].V-s.Floors.getD s.Tasks[i].Cpu.toNat 0≤48)<;>rfl
      ·rw[decide_eq_false hc];rfl) (m:=n) h1
   rw[this];cases s.Tasks.all (LZ s)<;>rfl
 ·rw[decide_eq_false hs];rfl
theorem U0{s:Sys}{n:Nat}(h:SysB s)(hn:SN n):Km n s=some (Fi s,()):=by
 obtain⟨h1,h2⟩:=hn.tasks h;simp only[Km,Cr h hn,Option.bind_some,Fi]
 by_cases hs:SysOk s
 · rw[decide_eq_true hs,cond_true,Bool.true_and]
   have c1:Nf n s.Tasks s=some (s.Tasks.any fun t=> !LZ s t,()):=by
    unfold Nf Qd;have:=C0 (l:=fun m i=>JZ n m s.Tasks s (s.Tasks.length:Int) i (fun w5=>some (w5,())) (some (-1,()))) (xs:=s.Tasks) (p:=fun t=> !LZ s t) (k0:=fun w5=>some (w5,())) (k1:=some (-1,()))
     (fun m=>by simp only[JZ,AW,cond_false])
     (fun m i hi=>by
       obtain⟨f1,f2,f3,f4⟩:=hs.floor (List.getElem_mem hi);have hf:Mt s.Tasks[i] s=some (!LZ s s.Tasks[i],()):=by
        unfold Mt LZ
        by_cases hc:s.Tasks[i].Class=3
        · have hv:=Sq (hs.tasks.each _ (List.getElem_mem hi)) hc
          have e:w64 (List.getD s.Floors (Int.toNat s.Tasks[i].Cpu) (Kd.dflt .int)+48)=s.Floors.getD s.Tasks[i].Cpu.toNat 0+48:=AV (by change _≤s.Floors.getD s.Tasks[i].Cpu.toNat 0+48;omega) (by change s.Floors.getD s.Tasks[i].Cpu.toNat 0+48≤_;omega)
          rw[decide_eq_true hc,cond_true,decide_eq_true f1,decide_eq_true f2,Bool.and_self,cond_true,cond_true,e];simp only[Bx,Option.bind_some];cases s.Tasks[i].Idle with
          |true=>rfl
          |false=>
           have:(decide (List.getD s.Floors (Int.toNat s.Tasks[i].Cpu) (Kd.dflt .int)≤s.Tasks[i].V∧s.Tasks[i].V≤s.Floors.getD s.Tasks[i].Cpu.toNat 0+48))=decide (0≤s.Tasks[i].V-s.Floors.getD s.Tasks[i].Cpu.toNat 0∧s.Tasks[i].V-s.Floors.getD s.Tasks[i].Cpu.toNat 0≤48):=by
            refine decide_eq_decide.2 ?_
            change (s.Floors.getD s.Tasks[i].Cpu.toNat 0≤s.Tasks[i].V∧_)↔_
            omega
           rw[this];rfl
        ·rw[decide_eq_false hc];rfl
       simp only[JZ,AG hi,AI,Bool.and_self,cond_true,AH hi,hf,Option.bind_some,AL (Nat.lt_trans hi (AY h2))]) (m:=n) h1
    rw[this];exact In _ _
   rw[c1,Option.bind_some]
   congr 2
   rw[Bool.eq_iff_iff];simp[List.any_eq_false]
 ·rw[decide_eq_false hs];rfl
theorem sW{s:Sys}{n:Nat}(h:SysB s)(hn:SN n):N8 n s=some (decide (Dt s),()):=by
 have e1:big=1048576:=rfl;have e2:10000000≤lim:=by unfold lim;omega
 have ht:=h.small.trace;simp only[N8,B3 h hn,Option.bind_some];unfold SN at hn;refine CO (P:=SysOk s) (fun q=>q.1) fun hs=> ?_
 have hc0: ¬s.Cpus=0:=by have:=hs.cpus;omega
 rw[decide_eq_false hc0,cond_false];refine CO (P:=Int.tmod (s.Trace.length:Int) s.Cpus=0) (fun q=>q.2.1) fun h0=> ?_
 have:=IA (l:=fun m i=>Jf n m s (i:Int) (some (false,())) (some (true,()))) (len:=s.Trace.length) (P:=fun i=>IS s i=true) (k0:=some (false,())) (k1:=some (true,()))
  (fun m=>by simp only[Jf,AW,cond_false])
  (fun m i hi=>by
    simp only[Jf,AG hi,AI,Bool.and_self,cond_true,decide_eq_false hc0,cond_false,Int.toNat_natCast,AL (Nat.lt_trans hi (AY (show s.Trace.length≤lim by omega)))]
    unfold IS;cases decide ((s.Trace.getD i (Kd.dflt .turn)).Cpu=Int.tmod (i:Int) s.Cpus)<;>cases decide ((s.Trace.getD i (Kd.dflt .turn)).Context=0)<;>cases decide ((s.Trace.getD i (Kd.dflt .turn)).Executor=0)<;>rfl) (m:=n) (by omega)
 refine this.trans ?_
 by_cases ha: ∀i,i<s.Trace.length→IS s i=true
 ·rw[if_pos ha,decide_eq_true (p:=Dt s) ⟨hs,h0,ha⟩]
 ·rw[if_neg ha,decide_eq_false (p:=Dt s) (fun q=>ha q.2.2)]
theorem U1{s:Sys}{n:Nat}(h:SysB s)(hn:SN n):Kn n s=some (decide (Dt s),()):=by
 have e1:big=1048576:=rfl;have e2:10000000≤lim:=by unfold lim;omega
 have ht:=h.small.trace;simp only[Kn,Cr h hn,Option.bind_some];unfold SN at hn;refine CO (P:=SysOk s) (fun q=>q.1) fun hs=> ?_
 have hc0: ¬s.Cpus=0:=by have:=hs.cpus;omega
 rw[decide_eq_false hc0,cond_false];refine CO (P:=Int.tmod (s.Trace.length:Int) s.Cpus=0) (fun q=>q.2.1) fun h0=> ?_
 have:=IA (l:=fun m i=>JA n m s s.Trace (s.Trace.length:Int) (i:Int) (some (false,())) (some (true,()))) (len:=s.Trace.length) (P:=fun i=>IS s i=true) (k0:=some (false,())) (k1:=some (true,()))
  (fun m=>by simp only[JA,AW,cond_false])
  (fun m i hi=>by
    simp only[JA,AG hi,AI,Bool.and_self,cond_true,decide_eq_false hc0,cond_false,Int.toNat_natCast,AL (Nat.lt_trans hi (AY (show s.Trace.length≤lim by omega)))]
    unfold IS;cases decide ((s.Trace.getD i (Kd.dflt .turn)).Cpu=Int.tmod (i:Int) s.Cpus)<;>cases decide ((s.Trace.getD i (Kd.dflt .turn)).Context=0)<;>cases decide ((s.Trace.getD i (Kd.dflt .turn)).Executor=0)<;>rfl) (m:=n) (by omega)
 refine this.trans ?_
 by_cases ha: ∀i,i<s.Trace.length→IS s i=true
 ·rw[if_pos ha,decide_eq_true (p:=Dt s) ⟨hs,h0,ha⟩]
 ·rw[if_neg ha,decide_eq_false (p:=Dt s) (fun q=>ha q.2.2)]
end Go.Proofs.YthoholbeacojfaaGreat.VR
end
section
set_option linter.unusedVariables false
set_option linter.unusedSimpArgs false
namespace Go.Proofs.YthoholbeacojfaaGreat.VR
open Go
theorem SN.two{n:Nat}(hn:SN n):big+2<n:=by unfold SN at hn;omega
theorem MP{s:Sys}(h:SysB s)(hs:SysOk s):TickB s:=⟨h.tl,hs.tasks,hs.locks.2.1,fun t ht=>by rw[hs.flen];exact hs.tcpu t ht⟩
def BI(s:Sys):List Ghost:=s.Ghosts.filter fun g=>decide (s.Now<g.Until)
def BU(s:Sys):Int:=s.Tasks.foldl (CQ s.Now) s.Missed
structure TickOk(s:Sys):Prop where
 ok:SysOk s
 can:Aw s
 b:SysB s
theorem TickOk.now{s:Sys}(h:TickOk s):s.Now<100000:=by have:=h.ok.now;have:=h.can.1;omega
theorem TickOk.woken{s:Sys}(h:TickOk s):KeepsL s.Tasks (AF s):=FS h.now
theorem TickOk.turns{s:Sys}(h:TickOk s)(fs:List Int)(hf:fs.length=s.Floors.length)(k:Nat)(hk:k≤s.Cpus.toNat):
 TickB ⟨s.Now,s.Cpus,(BG s.Locks ⟨AF s,s.Seq,s.Trace⟩ k).ts,s.Locks,BI s,fs,(BG s.Locks ⟨AF s,s.Seq,s.Trace⟩ k).seq,BU s,(BG s.Locks ⟨AF s,s.Seq,s.Trace⟩ k).tr⟩∧
 (0≤(BG s.Locks ⟨AF s,s.Seq,s.Trace⟩ k).seq∧(BG s.Locks ⟨AF s,s.Seq,s.Trace⟩ k).seq≤1000000)∧(BG s.Locks ⟨AF s,s.Seq,s.Trace⟩ k).tr.length+1≤lim:=by
 have hT:=MP h.b h.ok;have hc:=h.ok.cpus;have hq:=S1 s.Locks ⟨AF s,s.Seq,s.Trace⟩ k;have hr:=S2 s.Locks ⟨AF s,s.Seq,s.Trace⟩ k;have hs0:=h.ok.seq;have hs1:=h.can.2.1;have ht:=h.ok.trace;refine⟨hT.keeps (h.woken.trans (S0 s.Locks ⟨AF s,s.Seq,s.Trace⟩ (h.woken.tasksOk h.ok.tasks) k)) _ _ _ _ 0 0 _ _ _ hf,⟨?_,?_⟩,?_⟩
 · have:s.Seq≤(BG s.Locks ⟨AF s,s.Seq,s.Trace⟩ k).seq:=hq.1
   omega
 · have:(BG s.Locks ⟨AF s,s.Seq,s.Trace⟩ k).seq≤s.Seq+k:=hq.2
   omega
 · rw[hr]
   show s.Trace.length+k+1≤lim;unfold lim;omega
theorem OY(ts:List Task)(fs:List Int):(CN ts fs).length=fs.length:=by unfold CN;simp
theorem U3{s:Sys}{n:Nat}(h:SysB s)(hn:SN n):Kp n s=some ((AB (BM s).1,(BM s).2,()),()):=by
 have hn2:=hn.two;have hbl:=EO;have hsm:=h.small;unfold Kp;rw[Cr h hn];simp only[Option.bind_some];unfold BM
 by_cases hs: ¬SysOk s
 ·rw[decide_eq_false hs,if_neg hs];rfl
 have hs:SysOk s:=Decidable.not_not.1 hs;have hc:=hs.cpus;have htr:=hs.trace;rw[decide_eq_true hs,if_pos hs];simp only[Bool.not_true,cond_false,Lj hsm (show big<n by omega) (show big≤lim by omega),Option.bind_some,dnSys_up]
 have ew:w64 ((s.Trace.length:Int)+s.Cpus)=(s.Trace.length:Int)+s.Cpus:=AV (by omega) (by omega)
 rw[ew]
 by_cases h1:s.Now=100000
 ·rw[decide_eq_true h1,if_neg (fun q:Aw s=>q.1 h1)];rfl
 rw[decide_eq_false h1]
 by_cases h2:900000<s.Seq
 ·rw[decide_eq_true h2,if_neg (fun q:Aw s=>by have:=q.2.1;omega)];rfl
 rw[decide_eq_false h2]
 by_cases h3:400<(s.Trace.length:Int)+s.Cpus
 ·rw[decide_eq_true h3,if_neg (fun q:Aw s=>by have:=q.2.2;omega)];rfl
 rw[decide_eq_false h3];have hcan:Aw s:=⟨h1,by omega,by omega⟩
 have hT:TickOk s:=⟨hs,hcan,h⟩;rw[if_pos hcan];simp only[cond_false];have q1:=hsm.tasks;have q3:=hsm.ghosts;have q4:=hsm.floors;have hB:=MP h hs;have hts:TickB (Dc s):=hB.keeps (KeepsL.map _ fun t _=>G7 hT.now) _ _ _ _ 0 0 _ _ _ rfl
 have ewk:KI (Dc s)=⟨s.Now,s.Cpus,AF s,s.Locks,BI s,s.Floors,s.Seq,BU s,s.Trace⟩:=rfl;have htl:(AF s).length=s.Tasks.length:=hT.woken.len;rw[U9 (s:=s) (n:=n) (by omega) (by omega) (by omega) (by omega) hs.missed]
 simp only[Option.bind_some,dnSys_up];rw[VC hts hn2];simp only[Option.bind_some,dnSys_up,ewk];have hfl:=Ob (l:=fun m i fs=>JD n m (⟨0,0,[],[],[],[],0,0,[]⟩:Sys) ⟨s.Now,s.Cpus,AF s,s.Locks,BI s,fs,s.Seq,BU s,s.Trace⟩ (s.Floors.length:Int) i (fun w11=>Gc n n (⟨0,0,[],[],[],[],0,0,[]⟩:Sys) (⟨s.Now,s.Cpus,AF s,s.Locks,BI s,w11,s.Seq,BU s,s.Trace⟩:Sys) s.Cpus 0 (fun w17 w18 w19 w20 w21 w22 w23 w24 w25=>some (((AB (⟨(w64 (w17+1)),w18,w21,w22,w23,w24,w19,w20,w25⟩:Sys)),true,()),())))) (xs:=s.Floors) (g:=fun i x=>B6 (BK (AF s) (i:Int)) x) (Kd.dflt .int) (k:=(fun w11=>Gc n n (⟨0,0,[],[],[],[],0,0,[]⟩:Sys) (⟨s.Now,s.Cpus,AF s,s.Locks,BI s,w11,s.Seq,BU s,s.Trace⟩:Sys) s.Cpus 0 (fun w17 w18 w19 w20 w21 w22 w23 w24 w25=>some (((AB (⟨(w64 (w17+1)),w18,w21,w22,w23,w24,w19,w20,w25⟩:Sys)),true,()),()))))
  (fun m ys hl=>by simp only[JD,AW,cond_false]) (fun m i ys hi hl hy=>by
    have hi':i<ys.length:=by omega
    have hlen:(BK (AF s) (i:Int)).length≤s.Tasks.length:=by rw[←htl];exact List.length_filter_le _ _
    simp only[JD,AG hi,AG hi',AI,Bool.and_self,cond_true,AH hi',Af hi',hy,Int.toNat_natCast,decide_eq_true hi',Option.bind_some,AL (show i<Ab by unfold Ab;unfold big at q4;omega),
     Q8 (s:=⟨s.Now,s.Cpus,AF s,s.Locks,BI s,ys,s.Seq,BU s,s.Trace⟩) (cpu:=(i:Int)) (n:=n) (by rw[htl];omega) (by rw[htl];omega),Uv (xs:=BK (AF s) (i:Int)) (f:=s.Floors[i]) (n:=n) (by omega) (by omega)]) (m:=n) (by omega)
 refine hfl.trans ?_;have htn:=Ak (l:=fun m i=>Gc n m (⟨0,0,[],[],[],[],0,0,[]⟩:Sys) ⟨s.Now,s.Cpus,(BG s.Locks ⟨AF s,s.Seq,s.Trace⟩ i).ts,s.Locks,BI s,CN (AF s) s.Floors,(BG s.Locks ⟨AF s,s.Seq,s.Trace⟩ i).seq,BU s,(BG s.Locks ⟨AF s,s.Seq,s.Trace⟩ i).tr⟩ s.Cpus (i:Int) (fun w17 w18 w19 w20 w21 w22 w23 w24 w25=>some (((AB (⟨(w64 (w17+1)),w18,w21,w22,w23,w24,w19,w20,w25⟩:Sys)),true,()),()))) (len:=s.Cpus.toNat) (r:=some (((AB (⟨(w64 (s.Now+1)),s.Cpus,(CZ s).ts,s.Locks,BI s,CN (AF s) s.Floors,(CZ s).seq,BU s,(CZ s).tr⟩:Sys)),true,()),())) (fun _=>True) trivial
  (fun m _=>by
    simp only[Gc];rw[decide_eq_false (show¬(((s.Cpus.toNat:Nat):Int)<s.Cpus) by omega)]
    rfl)
  (fun m i hi _=>.inl ⟨by
    obtain⟨b1,b2,b3⟩:=hT.turns (CN (AF s) s.Floors) (OY _ _) i (by omega)
    simp only[Gc,decide_eq_true (show(i:Int)<s.Cpus by omega),cond_true,VA b1 hn2 b3 b2,Option.bind_some,dnSys_up,HF,AL (show i<Ab by unfold Ab;omega)],trivial⟩) (m:=n) (by unfold SN GN at hn;omega)
 refine htn.trans ?_;rw[AV (by have:=hs.now;omega) (by have:=hs.now;omega)]
 rfl
theorem ce{s:Sys}{n:Nat}(h:SysB s)(hn:SN n):M6 n s=some ((AB (BM s).1,(BM s).2,()),()):=by
 have hn2:=hn.two;have hbl:=EO;have hsm:=h.small;unfold M6;rw[Cr h hn];simp only[Option.bind_some];unfold BM
 by_cases hs: ¬SysOk s
 ·rw[decide_eq_false hs,if_neg hs];rfl
 have hs:SysOk s:=Decidable.not_not.1 hs;have hc:=hs.cpus;have htr:=hs.trace;rw[decide_eq_true hs,if_pos hs];simp only[Bool.not_true,cond_false,Lj hsm (show big<n by omega) (show big≤lim by omega),Option.bind_some,dnSys_up]
 have ew:w64 ((s.Trace.length:Int)+s.Cpus)=(s.Trace.length:Int)+s.Cpus:=AV (by omega) (by omega)
 rw[ew]
 by_cases h1:s.Now=100000
 ·rw[decide_eq_true h1,if_neg (fun q:Aw s=>q.1 h1)];rfl
 rw[decide_eq_false h1]
 by_cases h2:900000<s.Seq
 ·rw[decide_eq_true h2,if_neg (fun q:Aw s=>by have:=q.2.1;omega)];rfl
 rw[decide_eq_false h2]
 by_cases h3:400<(s.Trace.length:Int)+s.Cpus
 ·rw[decide_eq_true h3,if_neg (fun q:Aw s=>by have:=q.2.2;omega)];rfl
 rw[decide_eq_false h3];have hcan:Aw s:=⟨h1,by omega,by omega⟩
 have hT:TickOk s:=⟨hs,hcan,h⟩;rw[if_pos hcan];simp only[cond_false];have q1:=hsm.tasks;have q3:=hsm.ghosts;have q4:=hsm.floors;have hB:=MP h hs;have hts:TickB (Dc s):=hB.keeps (KeepsL.map _ fun t _=>G7 hT.now) _ _ _ _ 0 0 _ _ _ rfl
 have ewk:KI (Dc s)=⟨s.Now,s.Cpus,AF s,s.Locks,BI s,s.Floors,s.Seq,BU s,s.Trace⟩:=rfl;have htl:(AF s).length=s.Tasks.length:=hT.woken.len;rw[U9 (s:=s) (n:=n) (by omega) (by omega) (by omega) (by omega) hs.missed]
 simp only[Option.bind_some,dnSys_up];rw[VC hts hn2];simp only[Option.bind_some,dnSys_up,ewk];have hfl:=Ob (l:=fun m i fs=>JE n m (⟨0,0,[],[],[],[],0,0,[]⟩:Sys) ⟨s.Now,s.Cpus,AF s,s.Locks,BI s,fs,s.Seq,BU s,s.Trace⟩ (s.Floors.length:Int) i (fun w11=>Gd n n (⟨0,0,[],[],[],[],0,0,[]⟩:Sys) (⟨s.Now,s.Cpus,AF s,s.Locks,BI s,w11,s.Seq,BU s,s.Trace⟩:Sys) s.Cpus 0 (fun w17 w18 w19 w20 w21 w22 w23 w24 w25=>some (((AB (⟨(w64 (w17+1)),w18,w21,w22,w23,w24,w19,w20,w25⟩:Sys)),true,()),())))) (xs:=s.Floors) (g:=fun i x=>B6 (BK (AF s) (i:Int)) x) (Kd.dflt .int) (k:=(fun w11=>Gd n n (⟨0,0,[],[],[],[],0,0,[]⟩:Sys) (⟨s.Now,s.Cpus,AF s,s.Locks,BI s,w11,s.Seq,BU s,s.Trace⟩:Sys) s.Cpus 0 (fun w17 w18 w19 w20 w21 w22 w23 w24 w25=>some (((AB (⟨(w64 (w17+1)),w18,w21,w22,w23,w24,w19,w20,w25⟩:Sys)),true,()),()))))
  (fun m ys hl=>by simp only[JE,AW,cond_false]) (fun m i ys hi hl hy=>by
    have hi':i<ys.length:=by omega
    have hlen:(BK (AF s) (i:Int)).length≤s.Tasks.length:=by rw[←htl];exact List.length_filter_le _ _
    simp only[JE,AG hi,AG hi',AI,Bool.and_self,cond_true,AH hi',Af hi',hy,Int.toNat_natCast,decide_eq_true hi',Option.bind_some,AL (show i<Ab by unfold Ab;unfold big at q4;omega),
     Q8 (s:=⟨s.Now,s.Cpus,AF s,s.Locks,BI s,ys,s.Seq,BU s,s.Trace⟩) (cpu:=(i:Int)) (n:=n) (by rw[htl];omega) (by rw[htl];omega),Uv (xs:=BK (AF s) (i:Int)) (f:=s.Floors[i]) (n:=n) (by omega) (by omega)]) (m:=n) (by omega)
 refine hfl.trans ?_;have htn:=Ak (l:=fun m i=>Gd n m (⟨0,0,[],[],[],[],0,0,[]⟩:Sys) ⟨s.Now,s.Cpus,(BG s.Locks ⟨AF s,s.Seq,s.Trace⟩ i).ts,s.Locks,BI s,CN (AF s) s.Floors,(BG s.Locks ⟨AF s,s.Seq,s.Trace⟩ i).seq,BU s,(BG s.Locks ⟨AF s,s.Seq,s.Trace⟩ i).tr⟩ s.Cpus (i:Int) (fun w17 w18 w19 w20 w21 w22 w23 w24 w25=>some (((AB (⟨(w64 (w17+1)),w18,w21,w22,w23,w24,w19,w20,w25⟩:Sys)),true,()),()))) (len:=s.Cpus.toNat) (r:=some (((AB (⟨(w64 (s.Now+1)),s.Cpus,(CZ s).ts,s.Locks,BI s,CN (AF s) s.Floors,(CZ s).seq,BU s,(CZ s).tr⟩:Sys)),true,()),())) (fun _=>True) trivial
  (fun m _=>by
    simp only[Gd];rw[decide_eq_false (show¬(((s.Cpus.toNat:Nat):Int)<s.Cpus) by omega)]
    rfl)
  (fun m i hi _=>.inl ⟨by
    obtain⟨b1,b2,b3⟩:=hT.turns (CN (AF s) s.Floors) (OY _ _) i (by omega)
    simp only[Gd,decide_eq_true (show(i:Int)<s.Cpus by omega),cond_true,VA b1 hn2 b3 b2,Option.bind_some,dnSys_up,HF,AL (show i<Ab by unfold Ab;omega)],trivial⟩) (m:=n) (by unfold SN GN at hn;omega)
 refine htn.trans ?_;rw[AV (by have:=hs.now;omega) (by have:=hs.now;omega)]
 rfl
theorem sm{s:Sys}{n:Nat}(h:SysB s)(hn:SN n):OL n s=some ((AB (BM s).1,(BM s).2,()),()):=by
 have hn2:=hn.two;have hbl:=EO;have hsm:=h.small;unfold OL;rw[B3 h hn];simp only[Option.bind_some];unfold BM
 by_cases hs: ¬SysOk s
 ·rw[decide_eq_false hs,if_neg hs];rfl
 have hs:SysOk s:=Decidable.not_not.1 hs;have hc:=hs.cpus;have htr:=hs.trace;rw[decide_eq_true hs,if_pos hs];simp only[Bool.not_true,cond_false,KC hsm (show big<n by omega) (show big≤lim by omega),Option.bind_some,dnSys_up]
 have ew:w64 ((s.Trace.length:Int)+s.Cpus)=(s.Trace.length:Int)+s.Cpus:=AV (by omega) (by omega)
 rw[ew]
 by_cases h1:s.Now=100000
 ·rw[decide_eq_true h1,if_neg (fun q:Aw s=>q.1 h1)];rfl
 rw[decide_eq_false h1]
 by_cases h2:900000<s.Seq
 ·rw[decide_eq_true h2,if_neg (fun q:Aw s=>by have:=q.2.1;omega)];rfl
 rw[decide_eq_false h2]
 by_cases h3:400<(s.Trace.length:Int)+s.Cpus
 ·rw[decide_eq_true h3,if_neg (fun q:Aw s=>by have:=q.2.2;omega)];rfl
 rw[decide_eq_false h3];have hcan:Aw s:=⟨h1,by omega,by omega⟩
 have hT:TickOk s:=⟨hs,hcan,h⟩;rw[if_pos hcan];simp only[cond_false];have q1:=hsm.tasks;have q3:=hsm.ghosts;have q4:=hsm.floors;have hB:=MP h hs;have hts:TickB (Dc s):=hB.keeps (KeepsL.map _ fun t _=>G7 hT.now) _ _ _ _ 0 0 _ _ _ rfl
 have ewk:KI (Dc s)=⟨s.Now,s.Cpus,AF s,s.Locks,BI s,s.Floors,s.Seq,BU s,s.Trace⟩:=rfl;have htl:(AF s).length=s.Tasks.length:=hT.woken.len;have hgh: ∀k:List Ghost→Option ((Ap×Bool×Unit)×Unit),Gk n n s (⟨0,0,[],[],[],[],0,0,[]⟩:Sys) ⟨s.Now,s.Cpus,s.Tasks,s.Locks,[],s.Floors,s.Seq,s.Missed,s.Trace⟩ 0 k=k (BI s):=fun k=>Ak (l:=fun m i=>Gk n m s (⟨0,0,[],[],[],[],0,0,[]⟩:Sys) ⟨s.Now,s.Cpus,s.Tasks,s.Locks,(s.Ghosts.take i).filter (fun g=>decide (s.Now<g.Until)),s.Floors,s.Seq,s.Missed,s.Trace⟩ (i:Int) k) (len:=s.Ghosts.length) (r:=k (BI s)) (fun _=>True) trivial
  (fun m _=>by simp only[Gk,AW,cond_false,List.take_length];rfl) (fun m i hi _=>.inl ⟨by
    have hlen:((s.Ghosts.take i).filter (fun g=>decide (s.Now<g.Until))).length≤i:=Nat.le_trans (List.length_filter_le _ _) (List.length_take_le _ _)
    rw[Ev _ hi];simp only[Gk,AG hi,AI,Bool.and_self,cond_true,AH hi,AL (show i<Ab by unfold Ab;unfold big at q3;omega),CB (show((s.Ghosts.take i).filter (fun g=>decide (s.Now<g.Until))).length<s.Ghosts.length by omega) (show s.Ghosts.length≤lim by omega)]
    cases decide (s.Now<s.Ghosts[i].Until)<;>simp,trivial⟩) (m:=n) (by omega)
 refine(hgh _).trans ?_;have hrn: ∀k:List Task→Int→Option ((Ap×Bool×Unit)×Unit),EW n n s (⟨0,0,[],[],[],[],0,0,[]⟩:Sys) ⟨s.Now,s.Cpus,s.Tasks,s.Locks,BI s,s.Floors,s.Seq,s.Missed,s.Trace⟩ 0 k=k (F3 s) (BU s):=fun k=>PM (l:=fun m i ys ms=>EW n m s (⟨0,0,[],[],[],[],0,0,[]⟩:Sys) ⟨s.Now,s.Cpus,ys,s.Locks,BI s,s.Floors,s.Seq,ms,s.Trace⟩ i k)
  (xs:=s.Tasks) (g:=fun _ t=>B9 s.Now t) (f:=CQ s.Now) (k:=k)
  (fun _ ms=>0≤ms∧ms≤100000) (fun m ys ms hl=>by simp only[EW,hl,AW,cond_false]) (fun m i ys ms hi hl hI hy=>by
    have hi':i<ys.length:=by omega
    refine⟨?_,RY _ hI⟩;have e:w64 (ms+1)=ms+1:=AV (by omega) (by omega)
    simp only[EW,AG hi',AI,Bool.and_self,cond_true,AH hi',Af hi',hy,YO,Ye,dnTask_up,Option.bind_some,Int.toNat_natCast,decide_eq_true hi',AL (show i<Ab by unfold Ab;unfold big at q1;omega),DK,BT,e]
    unfold B9 CQ;generalize xs_i:s.Tasks[i]=t at*
    by_cases h1:t.Class=1
    · cases h2:t.Idle with
      |true=>simp[h1,F0 hi' hy]
      |false=>
       by_cases h3:t.Due≤s.Now
       · have h4: ¬s.Now<t.Due:=by omega
         by_cases h5:0<t.Left
         ·simp[h1,h3,h4,h5]
         ·simp[h1,h3,h4,h5]
       · have h4:s.Now<t.Due:=by omega
         simp[h1,h3,h4,F0 hi' hy]
    ·simp[h1,F0 hi' hy])
  (fun xs _=>xs.map (B9 s.Now)) (fun _=>rfl) (fun _ _ _=>rfl) (m:=n) (s:=s.Missed) hs.missed (by omega)
 refine(hrn _).trans ?_;have hws:=Yb hts (s:=Dc s) ⟨by show(s.Tasks.map _).length≤big;rw[List.length_map];exact q1,hsm.locks,hsm.waits,Nat.le_trans (List.length_filter_le _ _) q3,q4,hsm.trace⟩ hn2
 change (Hd n (Dc s)).bind _=_
 rw[hws];simp only[Option.bind_some,dnSys_up,ewk];have hfl:=Ob (l:=fun m i fs=>Ji n m (⟨0,0,[],[],[],[],0,0,[]⟩:Sys) ⟨s.Now,s.Cpus,AF s,s.Locks,BI s,fs,s.Seq,BU s,s.Trace⟩ i (fun w28=>Gn n n (⟨0,0,[],[],[],[],0,0,[]⟩:Sys) (⟨s.Now,s.Cpus,AF s,s.Locks,BI s,w28,s.Seq,BU s,s.Trace⟩:Sys) 0 (fun w17 w18 w19 w20 w21 w22 w23 w24 w25=>some (((AB (⟨(w64 (w17+1)),w18,w21,w22,w23,w24,w19,w20,w25⟩:Sys)),true,()),())))) (xs:=s.Floors) (g:=fun i x=>B6 (BK (AF s) (i:Int)) x) (Kd.dflt .int) (k:=(fun w28=>Gn n n (⟨0,0,[],[],[],[],0,0,[]⟩:Sys) (⟨s.Now,s.Cpus,AF s,s.Locks,BI s,w28,s.Seq,BU s,s.Trace⟩:Sys) 0 (fun w17 w18 w19 w20 w21 w22 w23 w24 w25=>some (((AB (⟨(w64 (w17+1)),w18,w21,w22,w23,w24,w19,w20,w25⟩:Sys)),true,()),()))))
  (fun m ys hl=>by simp only[Ji];rw[decide_eq_false (show¬((s.Floors.length:Int)<s.Cpus) by rw[hs.flen];omega)];rfl) (fun m i ys hi hl hy=>by
    have hi':i<ys.length:=by omega
    have hlen:(BK (AF s) (i:Int)).length≤s.Tasks.length:=by rw[←htl];exact List.length_filter_le _ _
    simp only[Ji,show decide ((i:Int)<s.Cpus)=true from decide_eq_true (by have:=hs.flen;omega),AG hi',AI,Bool.and_self,cond_true,AH hi',Af hi',hy,Int.toNat_natCast,decide_eq_true hi',Option.bind_some,AL (show i<Ab by unfold Ab;unfold big at q4;omega),
     SZ (s:=⟨s.Now,s.Cpus,AF s,s.Locks,BI s,ys,s.Seq,BU s,s.Trace⟩) (cpu:=(i:Int)) (n:=n) (by rw[htl];omega) (by rw[htl];omega),YP (xs:=BK (AF s) (i:Int)) (f:=s.Floors[i]) (n:=n) (by omega) (by omega)]) (m:=n) (by omega)
 refine hfl.trans ?_;have htn:=Ak (l:=fun m i=>Gn n m (⟨0,0,[],[],[],[],0,0,[]⟩:Sys) ⟨s.Now,s.Cpus,(BG s.Locks ⟨AF s,s.Seq,s.Trace⟩ i).ts,s.Locks,BI s,CN (AF s) s.Floors,(BG s.Locks ⟨AF s,s.Seq,s.Trace⟩ i).seq,BU s,(BG s.Locks ⟨AF s,s.Seq,s.Trace⟩ i).tr⟩ (i:Int) (fun w17 w18 w19 w20 w21 w22 w23 w24 w25=>some (((AB (⟨(w64 (w17+1)),w18,w21,w22,w23,w24,w19,w20,w25⟩:Sys)),true,()),()))) (len:=s.Cpus.toNat) (r:=some (((AB (⟨(w64 (s.Now+1)),s.Cpus,(CZ s).ts,s.Locks,BI s,CN (AF s) s.Floors,(CZ s).seq,BU s,(CZ s).tr⟩:Sys)),true,()),())) (fun _=>True) trivial
  (fun m _=>by
    simp only[Gn];rw[decide_eq_false (show¬(((s.Cpus.toNat:Nat):Int)<s.Cpus) by omega)]
    rfl)
  (fun m i hi _=>.inl ⟨by
    obtain⟨b1,b2,b3⟩:=hT.turns (CN (AF s) s.Floors) (OY _ _) i (by omega)
    simp only[Gn,decide_eq_true (show(i:Int)<s.Cpus by omega),cond_true,Ya b1 hn2 b3 b2,Option.bind_some,dnSys_up,HF,AL (show i<Ab by unfold Ab;omega)],trivial⟩) (m:=n) (by unfold SN GN at hn;omega)
 refine htn.trans ?_;rw[AV (by have:=hs.now;omega) (by have:=hs.now;omega)]
 rfl
theorem sk{s:Sys}{n:Nat}(h:SysB s)(hn:SN n):OM n s=some ((AB (BM s).1,(BM s).2,()),()):=by
 have hn2:=hn.two;have hbl:=EO;have hsm:=h.small;unfold OM;rw[B3 h hn];simp only[Option.bind_some];unfold BM
 by_cases hs: ¬SysOk s
 ·rw[decide_eq_false hs,if_neg hs];rfl
 have hs:SysOk s:=Decidable.not_not.1 hs;have hc:=hs.cpus;have htr:=hs.trace;rw[decide_eq_true hs,if_pos hs];simp only[Bool.not_true,cond_false,KC hsm (show big<n by omega) (show big≤lim by omega),Option.bind_some,dnSys_up]
 have ew:w64 ((s.Trace.length:Int)+s.Cpus)=(s.Trace.length:Int)+s.Cpus:=AV (by omega) (by omega)
 rw[ew]
 by_cases h1:s.Now=100000
 ·rw[decide_eq_true h1,if_neg (fun q:Aw s=>q.1 h1)];rfl
 rw[decide_eq_false h1]
 by_cases h2:900000<s.Seq
 ·rw[decide_eq_true h2,if_neg (fun q:Aw s=>by have:=q.2.1;omega)];rfl
 rw[decide_eq_false h2]
 by_cases h3:400<(s.Trace.length:Int)+s.Cpus
 ·rw[decide_eq_true h3,if_neg (fun q:Aw s=>by have:=q.2.2;omega)];rfl
 rw[decide_eq_false h3];have hcan:Aw s:=⟨h1,by omega,by omega⟩
 have hT:TickOk s:=⟨hs,hcan,h⟩;rw[if_pos hcan];simp only[cond_false];have q1:=hsm.tasks;have q3:=hsm.ghosts;have q4:=hsm.floors;have hB:=MP h hs;have hts:TickB (Dc s):=hB.keeps (KeepsL.map _ fun t _=>G7 hT.now) _ _ _ _ 0 0 _ _ _ rfl
 have ewk:KI (Dc s)=⟨s.Now,s.Cpus,AF s,s.Locks,BI s,s.Floors,s.Seq,BU s,s.Trace⟩:=rfl;have htl:(AF s).length=s.Tasks.length:=hT.woken.len;have hgh: ∀k:List Ghost→Option ((Ap×Bool×Unit)×Unit),Gl n n s (⟨0,0,[],[],[],[],0,0,[]⟩:Sys) ⟨s.Now,s.Cpus,s.Tasks,s.Locks,[],s.Floors,s.Seq,s.Missed,s.Trace⟩ 0 k=k (BI s):=fun k=>Ak (l:=fun m i=>Gl n m s (⟨0,0,[],[],[],[],0,0,[]⟩:Sys) ⟨s.Now,s.Cpus,s.Tasks,s.Locks,(s.Ghosts.take i).filter (fun g=>decide (s.Now<g.Until)),s.Floors,s.Seq,s.Missed,s.Trace⟩ (i:Int) k) (len:=s.Ghosts.length) (r:=k (BI s)) (fun _=>True) trivial
  (fun m _=>by simp only[Gl,AW,cond_false,List.take_length];rfl) (fun m i hi _=>.inl ⟨by
    have hlen:((s.Ghosts.take i).filter (fun g=>decide (s.Now<g.Until))).length≤i:=Nat.le_trans (List.length_filter_le _ _) (List.length_take_le _ _)
    rw[Ev _ hi];simp only[Gl,AG hi,AI,Bool.and_self,cond_true,AH hi,AL (show i<Ab by unfold Ab;unfold big at q3;omega),CB (show((s.Ghosts.take i).filter (fun g=>decide (s.Now<g.Until))).length<s.Ghosts.length by omega) (show s.Ghosts.length≤lim by omega)]
    cases decide (s.Now<s.Ghosts[i].Until)<;>simp,trivial⟩) (m:=n) (by omega)
 refine(hgh _).trans ?_;have hrn: ∀k:List Task→Int→Option ((Ap×Bool×Unit)×Unit),EX n n s (⟨0,0,[],[],[],[],0,0,[]⟩:Sys) ⟨s.Now,s.Cpus,s.Tasks,s.Locks,BI s,s.Floors,s.Seq,s.Missed,s.Trace⟩ 0 k=k (F3 s) (BU s):=fun k=>PM (l:=fun m i ys ms=>EX n m s (⟨0,0,[],[],[],[],0,0,[]⟩:Sys) ⟨s.Now,s.Cpus,ys,s.Locks,BI s,s.Floors,s.Seq,ms,s.Trace⟩ i k)
  (xs:=s.Tasks) (g:=fun _ t=>B9 s.Now t) (f:=CQ s.Now) (k:=k)
  (fun _ ms=>0≤ms∧ms≤100000) (fun m ys ms hl=>by simp only[EX,hl,AW,cond_false]) (fun m i ys ms hi hl hI hy=>by
    have hi':i<ys.length:=by omega
    refine⟨?_,RY _ hI⟩;have e:w64 (ms+1)=ms+1:=AV (by omega) (by omega)
    simp only[EX,AG hi',AI,Bool.and_self,cond_true,AH hi',Af hi',hy,YO,Ye,dnTask_up,Option.bind_some,Int.toNat_natCast,decide_eq_true hi',AL (show i<Ab by unfold Ab;unfold big at q1;omega),DK,BT,e]
    unfold B9 CQ;generalize xs_i:s.Tasks[i]=t at*
    by_cases h1:t.Class=1
    · cases h2:t.Idle with
      |true=>simp[h1,F0 hi' hy]
      |false=>
       by_cases h3:t.Due≤s.Now
       · have h4: ¬s.Now<t.Due:=by omega
         by_cases h5:0<t.Left
         ·simp[h1,h3,h4,h5]
         ·simp[h1,h3,h4,h5]
       · have h4:s.Now<t.Due:=by omega
         simp[h1,h3,h4,F0 hi' hy]
    ·simp[h1,F0 hi' hy])
  (fun xs _=>xs.map (B9 s.Now)) (fun _=>rfl) (fun _ _ _=>rfl) (m:=n) (s:=s.Missed) hs.missed (by omega)
 refine(hrn _).trans ?_;have hws:=Yb hts (s:=Dc s) ⟨by show(s.Tasks.map _).length≤big;rw[List.length_map];exact q1,hsm.locks,hsm.waits,Nat.le_trans (List.length_filter_le _ _) q3,q4,hsm.trace⟩ hn2
 change (Hd n (Dc s)).bind _=_
 rw[hws];simp only[Option.bind_some,dnSys_up,ewk];have hfl:=Ob (l:=fun m i fs=>Jh n m (⟨0,0,[],[],[],[],0,0,[]⟩:Sys) ⟨s.Now,s.Cpus,AF s,s.Locks,BI s,fs,s.Seq,BU s,s.Trace⟩ i (fun w28=>Gm n n (⟨0,0,[],[],[],[],0,0,[]⟩:Sys) (⟨s.Now,s.Cpus,AF s,s.Locks,BI s,w28,s.Seq,BU s,s.Trace⟩:Sys) 0 (fun w17 w18 w19 w20 w21 w22 w23 w24 w25=>some (((AB (⟨(w64 (w17+1)),w18,w21,w22,w23,w24,w19,w20,w25⟩:Sys)),true,()),())))) (xs:=s.Floors) (g:=fun i x=>B6 (BK (AF s) (i:Int)) x) (Kd.dflt .int) (k:=(fun w28=>Gm n n (⟨0,0,[],[],[],[],0,0,[]⟩:Sys) (⟨s.Now,s.Cpus,AF s,s.Locks,BI s,w28,s.Seq,BU s,s.Trace⟩:Sys) 0 (fun w17 w18 w19 w20 w21 w22 w23 w24 w25=>some (((AB (⟨(w64 (w17+1)),w18,w21,w22,w23,w24,w19,w20,w25⟩:Sys)),true,()),()))))
  (fun m ys hl=>by simp only[Jh];rw[decide_eq_false (show¬((s.Floors.length:Int)<s.Cpus) by rw[hs.flen];omega)];rfl) (fun m i ys hi hl hy=>by
    have hi':i<ys.length:=by omega
    have hlen:(BK (AF s) (i:Int)).length≤s.Tasks.length:=by rw[←htl];exact List.length_filter_le _ _
    simp only[Jh,show decide ((i:Int)<s.Cpus)=true from decide_eq_true (by have:=hs.flen;omega),AG hi',AI,Bool.and_self,cond_true,AH hi',Af hi',hy,Int.toNat_natCast,decide_eq_true hi',Option.bind_some,AL (show i<Ab by unfold Ab;unfold big at q4;omega),
     SZ (s:=⟨s.Now,s.Cpus,AF s,s.Locks,BI s,ys,s.Seq,BU s,s.Trace⟩) (cpu:=(i:Int)) (n:=n) (by rw[htl];omega) (by rw[htl];omega),YP (xs:=BK (AF s) (i:Int)) (f:=s.Floors[i]) (n:=n) (by omega) (by omega)]) (m:=n) (by omega)
 refine hfl.trans ?_;have htn:=Ak (l:=fun m i=>Gm n m (⟨0,0,[],[],[],[],0,0,[]⟩:Sys) ⟨s.Now,s.Cpus,(BG s.Locks ⟨AF s,s.Seq,s.Trace⟩ i).ts,s.Locks,BI s,CN (AF s) s.Floors,(BG s.Locks ⟨AF s,s.Seq,s.Trace⟩ i).seq,BU s,(BG s.Locks ⟨AF s,s.Seq,s.Trace⟩ i).tr⟩ (i:Int) (fun w17 w18 w19 w20 w21 w22 w23 w24 w25=>some (((AB (⟨(w64 (w17+1)),w18,w21,w22,w23,w24,w19,w20,w25⟩:Sys)),true,()),()))) (len:=s.Cpus.toNat) (r:=some (((AB (⟨(w64 (s.Now+1)),s.Cpus,(CZ s).ts,s.Locks,BI s,CN (AF s) s.Floors,(CZ s).seq,BU s,(CZ s).tr⟩:Sys)),true,()),())) (fun _=>True) trivial
  (fun m _=>by
    simp only[Gm];rw[decide_eq_false (show¬(((s.Cpus.toNat:Nat):Int)<s.Cpus) by omega)]
    rfl)
  (fun m i hi _=>.inl ⟨by
    obtain⟨b1,b2,b3⟩:=hT.turns (CN (AF s) s.Floors) (OY _ _) i (by omega)
    simp only[Gm,decide_eq_true (show(i:Int)<s.Cpus by omega),cond_true,Ya b1 hn2 b3 b2,Option.bind_some,dnSys_up,HF,AL (show i<Ab by unfold Ab;omega)],trivial⟩) (m:=n) (by unfold SN GN at hn;omega)
 refine htn.trans ?_;rw[AV (by have:=hs.now;omega) (by have:=hs.now;omega)]
 rfl
end Go.Proofs.YthoholbeacojfaaGreat.VR
end
section
set_option linter.unusedVariables false
set_option linter.unusedSimpArgs false
namespace Go.Proofs.YthoholbeacojfaaGreat.VR
open Go
theorem cW{s:Sys}{k no:Int}{n:Nat}(hn:s.Tasks.length<n)(hb:s.Tasks.length≤lim)(hl:s.Locks.length≤lim):Mz n s k no=some (Fz s k no,()):=by
 have e:w64 ((s.Locks.length:Int)-1)=(s.Locks.length:Int)-1:=by unfold lim at hl;exact AV (by omega) (by omega)
 simp only[Mz,C1 hn hb,Bx,Option.bind_some,e,Fz]
 by_cases hk:0≤k∧k≤(s.Locks.length:Int)-1
 · rw[decide_eq_true hk,Bool.not_true,cond_false]
   have hk2:k<(s.Locks.length:Int):=by omega
   cases e1:AR s.Tasks no with
   |none=>simp[idx]
   |some i=>
    obtain⟨hi,_⟩:=Bj e1;have n1: ¬((i:Int)<0):=by omega
    simp only[idx,n1,decide_false,cond_false,decide_eq_true hk.1,decide_eq_true hk2,Bool.and_self,cond_true,if_pos hk]
    by_cases ho:(s.Locks.getD k.toNat (Kd.dflt .lock)).Owner=0
    ·rw[decide_eq_true ho,cond_true,if_pos ho]
    · rw[decide_eq_false ho,cond_false,if_neg ho]
      cases e2:AR s.Tasks (s.Locks.getD k.toNat (Kd.dflt .lock)).Owner with
      |none=>simp
      |some j=>
       obtain⟨hj,_⟩:=Bj e2;have p1:(0:Int)≤(i:Int):=by omega
       have p2:(0:Int)≤(j:Int):=by omega
       have p3:(i:Int)<(s.Tasks.length:Int):=by omega
       have p4:(j:Int)<(s.Tasks.length:Int):=by omega
       simp only[p1,p2,p3,p4,decide_true,cond_true,Bool.and_self,Int.toNat_natCast]
       congr
 · rw[decide_eq_false hk,Bool.not_false,cond_true]
   simp only[if_neg hk];cases AR s.Tasks no<;>rfl
theorem sb{s:Sys}{k no:Int}{n:Nat}(hn:s.Tasks.length<n)(hb:s.Tasks.length≤lim)(hl:s.Locks.length≤lim):OD n s k no=some (Fz s k no,()):=by
 have e:w64 ((s.Locks.length:Int)-1)=(s.Locks.length:Int)-1:=by unfold lim at hl;exact AV (by omega) (by omega)
 simp only[OD,F1 hn hb,BV,Option.bind_some,e,Fz]
 by_cases hk:0≤k∧k≤(s.Locks.length:Int)-1
 · rw[decide_eq_true hk,Bool.not_true,cond_false]
   have hk2:k<(s.Locks.length:Int):=by omega
   cases e1:AR s.Tasks no with
   |none=>simp[idx]
   |some i=>
    obtain⟨hi,_⟩:=Bj e1;have n1: ¬((i:Int)<0):=by omega
    simp only[idx,n1,decide_false,cond_false,decide_eq_true hk.1,decide_eq_true hk2,Bool.and_self,cond_true,if_pos hk]
    by_cases ho:(s.Locks.getD k.toNat (Kd.dflt .lock)).Owner=0
    ·rw[decide_eq_true ho,cond_true,if_pos ho]
    · rw[decide_eq_false ho,cond_false,if_neg ho]
      cases e2:AR s.Tasks (s.Locks.getD k.toNat (Kd.dflt .lock)).Owner with
      |none=>simp
      |some j=>
       obtain⟨hj,_⟩:=Bj e2;have p1:(0:Int)≤(i:Int):=by omega
       have p2:(0:Int)≤(j:Int):=by omega
       have p3:(i:Int)<(s.Tasks.length:Int):=by omega
       have p4:(j:Int)<(s.Tasks.length:Int):=by omega
       simp only[p1,p2,p3,p4,decide_true,cond_true,Bool.and_self,Int.toNat_natCast]
       congr
 · rw[decide_eq_false hk,Bool.not_false,cond_true]
   simp only[if_neg hk];cases AR s.Tasks no<;>rfl
end Go.Proofs.YthoholbeacojfaaGreat.VR
end
section
set_option linter.unusedVariables false
set_option linter.unusedSimpArgs false
namespace Go.Proofs.YthoholbeacojfaaGreat.VR
open Go
theorem IU(t:BW):AK (AC t)=t:=rfl
theorem RE(t:Task):Iy t=some ((AK (CG t).1,(CG t).2,()),()):=by
 simp only[Iy,Ez,Option.bind_some,CG]
 by_cases h:TaskOk t
 ·rw[decide_eq_true h,if_pos h];rfl
 ·rw[decide_eq_false h,if_neg h];rfl
theorem cT(no cpu q p now:Int):Mw no cpu q p now=some ((AK (EB no cpu q p now).1,(EB no cpu q p now).2,()),()):=by
 simp only[Mw,Og,Oc,RE,Option.bind_some,EB,IU]
 by_cases h1:0≤now∧now≤100000
 · by_cases h2:A9 ⟨q,p⟩
   · have e:w64 (now+p)=now+p:=by
      have h3:1≤p∧p≤40:=h2.1;exact AV (by omega) (by omega)
     rw[decide_eq_true h1,decide_eq_true h2,if_pos ⟨h1,h2⟩,e];rfl
   ·rw[decide_eq_true h1,decide_eq_false h2,if_neg (fun h=>h2 h.2)];rfl
 ·rw[decide_eq_false h1,if_neg (fun h=>h1 h.1)];rfl
theorem cV(no cpu prio round seq:Int):My no cpu prio round seq=some ((AK (EC no cpu prio round seq).1,(EC no cpu prio round seq).2,()),()):=by
 simp only[My,RE,Option.bind_some,EC,IU]
theorem cU(no cpu nice v:Int):Mx no cpu nice v=some ((AK (Ea no cpu nice v).1,(Ea no cpu nice v).2,()),()):=by
 simp only[Mx,RE,Option.bind_some,Ea,IU]
theorem cy{s:Sys}{c:Call}(hb:s.Floors.length≤lim)(hs:0≤s.Seq∧s.Seq≤1000000):NL s c=some ((AK (Al s c).1,(Al s c).2,()),()):=by
 have e:w64 (s.Seq+1)=s.Seq+1:=AV (by omega) (by omega)
 simp only[NL,cT,cV,cU,Uw hb,Option.bind_some,IU,BT,Al,e]
 by_cases h1:c.Kind=1
 ·rw[if_pos h1,if_pos h1]
 · rw[if_neg h1,if_neg h1]
   by_cases h2:c.Kind=2
   ·rw[if_pos h2,if_pos h2]
   ·rw[if_neg h2,if_neg h2]
theorem WG{β:Type}(q:β→Bool)(t:β): ∀xs:List β,(match xs.findIdx? fun y=> !q y with|some i=>xs.take i++t::xs.drop i|none=>xs++[t])=xs.takeWhile q++t::xs.dropWhile q
 | []=>rfl
 |x::xs=>by
  have ih:=WG q t xs;rw[List.findIdx?_cons];cases hq:q x with
  |false=>simp[hq]
  |true=>
   simp only[Bool.not_true,Bool.false_eq_true,if_false,List.takeWhile_cons,hq,if_true,List.dropWhile_cons,List.cons_append];rw[←ih];cases xs.findIdx? fun y=> !q y<;>rfl
theorem dD{ts:List Task}{t:Task}{i:Nat}(h:i≤ts.length)(hb:ts.length+1≤lim):GM ts (i:Int) [t]=some (ts.take i++t::ts.drop i,()):=by
 unfold GM;rw[decide_eq_true (show(0:Int)≤(i:Int) by omega),decide_eq_true (show(i:Int)≤(ts.length:Int) by omega),decide_eq_true (show ts.length+[t].length≤lim by simpa using hb)]
 simp
theorem VF(ts:List Task)(t:Task):(insT ts t).length=ts.length+1:=by
 unfold insT;have:=congrArg List.length (List.takeWhile_append_dropWhile (p:=fun x:Task=>decide (x.No<t.No)) (l:=ts))
 simp only[List.length_append,List.length_cons]at this⊢;omega
theorem cg{ts:List Task}{t:Task}{n:Nat}(hn:ts.length+1<n)(hb:ts.length+1≤lim):
 NC n ts t=some (if TasksOk ts then(if TasksOk (insT ts t)then(insT ts t,true,())else(ts,false,()))else([],false,()),()):=by
 unfold NC;rw[Li (by omega) (by omega)]
 simp only[Option.bind_some]
 by_cases h: ¬TasksOk ts
 ·rw[decide_eq_false h,if_neg h];rfl
 have h:TasksOk ts:=Decidable.not_not.1 h;rw[decide_eq_true h,if_pos h];simp only[Bool.not_true,cond_false];have key: ∀i:Nat,i≤ts.length→ts.take i++t::ts.drop i=insT ts t→((C6 ts).bind fun r7=>
  (GM r7.1 (i:Int) ([t]:List Task)).bind fun r8=>
  (D3 n r8.1).bind fun r9=>
  cond (!r9.1)
   ((C6 ts).bind fun r10=>
    some ((r10.1,false,()),()))
   (some ((r8.1,true,()),())))=some (if TasksOk (insT ts t)then(insT ts t,true,())else(ts,false,()),()):=by
  intro i hi e;have hl:=VF ts t;rw[Mc (show ts.length≤lim by omega)]
  simp only[Option.bind_some,dD hi hb,e,Li (ts:=insT ts t) (n:=n) (by omega) (by omega)]
  by_cases h2:TasksOk (insT ts t)
  ·rw[decide_eq_true h2,if_pos h2];rfl
  ·rw[decide_eq_false h2,if_neg h2];rfl
 have hp:=WG (fun x:Task=>decide (x.No<t.No)) t ts
 have hf:=C0 (l:=fun m i=>JI n m ts t i (fun w6=>(C6 ts).bind fun r7=>
  (GM r7.1 w6 ([t]:List Task)).bind fun r8=>
  (D3 n r8.1).bind fun r9=>
  cond (!r9.1)
   ((C6 ts).bind fun r10=>
    some ((r10.1,false,()),()))
   (some ((r8.1,true,()),())))) (xs:=ts) (p:=fun x=> !decide (x.No<t.No)) (k0:=fun w6=>(C6 ts).bind fun r7=>
  (GM r7.1 w6 ([t]:List Task)).bind fun r8=>
  (D3 n r8.1).bind fun r9=>
  cond (!r9.1)
   ((C6 ts).bind fun r10=>
    some ((r10.1,false,()),()))
   (some ((r8.1,true,()),()))) (k1:=(C6 ts).bind fun r7=>
  (GM r7.1 (ts.length:Int) ([t]:List Task)).bind fun r8=>
  (D3 n r8.1).bind fun r9=>
  cond (!r9.1)
   ((C6 ts).bind fun r10=>
    some ((r10.1,false,()),()))
   (some ((r8.1,true,()),())))
  (fun m=>by simp only[JI,AW,cond_false])
  (fun m i hi=>by simp only[JI,AG hi,AI,Bool.and_self,cond_true,AH hi,AL (Nat.lt_trans hi (AY (show ts.length≤lim by omega))),DK]) (m:=n) (by omega)
 refine hf.trans ?_;cases e:ts.findIdx? fun x=> !decide (x.No<t.No)with
 |some i=>
  rw[e]at hp;have hi:i<ts.length:=by
   rw[List.findIdx?_eq_some_iff_getElem]at e;exact e.1
  exact key i (by omega) hp
 |none=>
  rw[e]at hp;refine key ts.length (Nat.le_refl _) ?_;rw[List.take_length,List.drop_length];exact hp
end Go.Proofs.YthoholbeacojfaaGreat.VR
end
