/- Functions, printed by program (wip/gen/emit.py). -/
import Derived.Test.YtbbgaleennfklaaGreatA15
section
set_option linter.unusedVariables false
set_option maxRecDepth 100000
namespace Go.Proofs.YtbbgaleennfklaaGreat.VR
open Go
def Le(n:Nat)(a0:Sys)(a1:Call):Option (Bool×Unit):=(GJ n a0 1048576).bind fun r1=>cond (decide (r1.1<0)) (some (true,())) ((CS n a0).bind fun r2=>(GK a1).bind fun r3=>(Jt n (AC r2.1) (Az r3.1)).bind fun r4=>(Jj n a0).bind fun r5=>(GK a1).bind fun r6=>(JJ n (AC r5.1) (Az r6.1)).bind fun r7=>(CD n (AC r7.1.1) (AC r4.1.1)).bind fun r8=>cond (!r8.1) (some (false,())) (cond (!(decide (r7.1.2.1=r4.1.2.1))) (some (false,())) ((CS n a0).bind fun r9=>(CD n (AC r5.1) (AC r9.1)).bind fun r10=>cond (!r10.1) (some (false,())) ((ET n (AC r5.1) 1).bind fun r11=>cond (decide (r11.1<0)) (some (false,())) ((CD n (AC r7.1.1) (AC r4.1.1)).bind fun r12=>cond (!r12.1) (some (false,())) (cond (!(decide (r7.1.2.1=r4.1.2.1))) (some (false,())) ((ET n (AC r7.1.1) 1).bind fun r13=>(ES n (⟨(AC r7.1.1).Now,(AC r7.1.1).Cpus,r13.2.1.2.2.1,r13.2.1.2.2.2.1,r13.2.1.2.2.2.2.1,r13.2.1.2.2.2.2.2.1,(AC r7.1.1).Seq,(AC r7.1.1).Missed,r13.2.1.2.2.2.2.2.2.2.2.1⟩:Sys) 1).bind fun r14=>cond (decide (r14.1<0)) (some (false,())) (cond (!(decide (r14.1=r13.1))) (some (false,())) ((CS n a0).bind fun r15=>(GK a1).bind fun r16=>(JI n (AC r15.1) (Az r16.1)).bind fun r17=>(CD n (AC r17.1.1) (AC r4.1.1)).bind fun r18=>cond (!r18.1) (some (false,())) (cond (!(decide (r17.1.2.1=r4.1.2.1))) (some (false,())) ((ES n (⟨(AC r7.1.1).Now,(AC r7.1.1).Cpus,r13.2.1.2.2.1,r13.2.1.2.2.2.1,r13.2.1.2.2.2.2.1,r13.2.1.2.2.2.2.2.1,(AC r7.1.1).Seq,(AC r7.1.1).Missed,r13.2.1.2.2.2.2.2.2.2.2.1⟩:Sys) 1).bind fun r19=>cond (decide (r19.1<0)) (some (false,())) (cond (!(decide (r19.1=r13.1))) (some (false,())) (some (true,()))))))))))))))
def dE(n:Nat):Rw:=⟨5,pV [Ae,Ba],pS [.bool],fun x=>Le n (AX x.1) (Az x.2.1)⟩
theorem dF(n:Nat):RO (dE n):=
 rE ⟨Go.Proofs.Tryz.f5,⟨[(0,[(0,.slot 0 .int),(1,.slot 1 .int)]),(2,[(2,cl 2 .int 0)]),(5,[(1,q54),(3,Ig),(4,M9),(8,.slot 2 .int)]),(6,[(1,Th),(2,.slot 8 .int)]),(7,[(2,Ig),(3,(.call [.ro,.ro] (.tup Cv) [] [some 9,some 10,some 11,some 12,some 13])),(7,.slot 14 .int)]),(8,[(2,cl 2 .bool 0)]),(10,[(2,q54),(3,cl 2 .bool 0)]),(13,[(2,If)]),(14,[(5,cl 2 .bool 0)]),(17,[(2,If)]),(19,[(2,cl 2 .int 0)]),(24,[(1,q54),(3,Ig),(4,M9),(8,.slot 15 .int)]),(25,[(2,cl 2 .bool 0)]),(28,[(2,cl 2 .int 0)])],[(5,dr 11 [(0,[0],[]),(2,[1],[]),(8,[2],[2]),(9,[2],[2])]),(7,dr 10 [(0,[8],[]),(1,[1],[]),(3,[3,4,5,6,7,9,10,11,12,13],[9,10,11,12,13]),(7,[14],[14]),(8,[9,10,11,12,13,14],[14])]),(10,dr 5 [(0,[8],[]),(1,[0],[]),(3,[3,4,5,6,7],[])]),(24,dr 11 [(0,[0],[]),(2,[1],[]),(8,[15],[15]),(9,[15],[15])])],[]⟩,16⟩ n (ec (NG n) (ec (NH n) (ec P0 (ec (UY n) (ec (P2 n) (ec (T5 n) (ec (NF n) (ec (Pz n) (ec (Px n) (ec (T6 n) en)))))))))) Go.Proofs.Tryz.func5 (by kernel_rfl) (fun x=>by kernel_rfl)
def OU(a0:List Call)(a1:Int):Option (Int×Unit):=cond (decide ((w64 (a1-(a0.length:Int)))<0)) (some ((-1),())) (some ((w64 (a1-(a0.length:Int))),()))
def eI:Rw:=⟨19,pV [.ro .call,.int],pS [.int],fun x=>OU x.1.2 x.2.1⟩
theorem eJ:RO (eI):=
 rE ⟨Go.Proofs.Tryz.f19,⟨[],[],[]⟩,0⟩ 0 en Go.Proofs.Tryz.func19 (by kernel_rfl) (fun x=>by kernel_rfl)
def Hy{α:Type}(n:Nat):Nat→List Call→List Call→Int→(List Call→Option α)→Option α|0,_,_,_,_=>none|m0+1,v1,v2,v3,k0_0=>cond (decide (v3<(v1.length:Int))) (cond (decide (0≤v3)&&decide (v3<(v1.length:Int))) ((GK (List.getD v1 (Int.toNat v3) (Kd.dflt .call))).bind fun r4=>cond (decide (0≤v3)&&decide (v3<(v2.length:Int))) (cond (decide ((Int.toNat v3)<(v2).length)) (Hy n m0 v1 (List.set v2 (Int.toNat v3) (Az r4.1)) (w64 (v3+1)) k0_0) none) none) none) (k0_0 v2)
def HS(n:Nat)(a0:List Call):Option (List Call×Unit):=cond (((decide ((a0.length:Int)=(a0.length:Int)))&&(decide (0≤(a0.length:Int))))&&(decide ((a0.length:Int)≤(lim:Int)))) (Hy n n a0 (List.replicate (Int.toNat (a0.length:Int)) (Kd.dflt .call)) 0 (fun w5=>some (w5,()))) none
def ed(n:Nat):Rw:=⟨21,pV [.ro .call],Tr,fun x=>HS n x.1.2⟩
def lP(n:Nat):LS:=AI ⟨3,[0,3,4],[],[],[3],[0]⟩ 23 [0,3,4] 1 (pD [.ro .call,.bor 0,.int]) [.root .call] (fun m x k=>Hy n m x.1.1.2 x.2.1 x.1.2.2.1 (fun w0=>k (.exit 0) (eS 23 [3] [.bor 0] 1 [.root .call w0 .ok])))
theorem eo(n:Nat):RO (ed n):=
 rL ⟨Go.Proofs.Tryz.f21,⟨[(1,[(2,.slot 0 .call)]),(5,[(6,Ig)])],[],[]⟩,1⟩ [lP n] n (ec P0 en) Go.Proofs.Tryz.func21 (by kernel_rfl) ⟨AJ (fun m x k=>by kernel_rfl) (fun _ _=>rfl),trivial⟩ (fun x=>by kernel_rfl)
def Gj{α:Type}(n:Nat):Nat→List Call→Sys→List Int→Sys→Int→(Sys→List Int→Option α)→Option α|0,_,_,_,_,_,_=>none|m0+1,v3,v4,v5,v6,v7,k0_0=>cond (decide (v7<(v3.length:Int))) (cond (decide (0≤v7)&&decide (v7<(v3.length:Int))) ((Jt n v6 (List.getD v3 (Int.toNat v7) (Kd.dflt .call))).bind fun r8=>cond (decide ((v5).length+(([r8.1.2.1]:List Int)).length≤lim)) (cond (decide (r8.1.2.1=0)) (Gj n m0 v3 (⟨v4.Now,v4.Cpus,[],[],[],[],v4.Seq,v4.Missed,[]⟩:Sys) (v5++([r8.1.2.1]:List Int)) (AC r8.1.1) (w64 (v7+1)) k0_0) (Gj n m0 v3 (⟨v4.Now,v4.Cpus,[],[],[],[],v4.Seq,v4.Missed,[]⟩:Sys) (v5++([r8.1.2.1]:List Int)) v6 (w64 (v7+1)) k0_0)) none) none) (k0_0 v6 v5)
def MS(n:Nat)(a0:Sys)(a1:List Call):Option ((Ah×List Int×Unit)×Unit):=(Jy n a0).bind fun r1=>(EU n a0).bind fun r2=>cond (!r2.1) (some (((AA (AC r1.1)),([]:List Int),()),())) (cond (decide (150<(a1.length:Int))) (some (((AA (AC r1.1)),([]:List Int),()),())) (Gj n n a1 (⟨0,0,[],[],[],[],0,0,[]⟩:Sys) ([]:List Int) (AC r1.1) 0 (fun w9 w10=>some (((AA w9),w10,()),()))))
def iv(n:Nat):Rw:=⟨20,pV [Ae,.ro .call],Tt,fun x=>MS n (AX x.1) x.2.1.2⟩
def l3(n:Nat):LS:=AI ⟨6,([1,4,6,7,8]),[(.t 6,4,.int)],[5,6,7],[4,6,7],([1,3,4,5,6,7])⟩ 48 [1,4,6,7,8] 41411333 (pD [.ro .call,.ptr 1 0,.bor 4,.ptr 3 0,.int]) [q64,Tu,.root .int] (fun m x k=>Gj n m x.1.1.2 (⟨x.2.1.1,x.2.1.2.1,[],[],[],[],x.2.1.2.2.2.2.2.2.1,x.2.1.2.2.2.2.2.2.2.1,[]⟩:Sys) x.2.2.2.1 (AC x.2.2.1) x.1.2.2.2.2.1 (fun w0 w1=>k (.exit 0) (eS 48 [4,6,7] [.ptr 1 0,.bor 4,.ptr 3 0] 41411333 [DE.make q64 x.2.1,.box [.int w0.Now,.int w0.Cpus,.ro true .task w0.Tasks,.ro true .lock w0.Locks,.ro true .ghost w0.Ghosts,.ro true .int w0.Floors,.int w0.Seq,.int w0.Missed,.ro true .turn w0.Trace],.root .int w1 .ok])))
theorem iw(n:Nat):RO (iv n):=
 rL ⟨Go.Proofs.Tryz.f20,⟨[(0,[(0,.slot 0 .int),(1,.slot 1 .int)]),(1,[(0,.slot 2 .int)]),(2,[(1,Ti),(2,.slot 3 .int)]),(3,[(1,cl 1 .bool 0)]),(8,[(5,M9),(9,.slot 5 .int)]),(9,[(2,.slot 6 .int),(3,.slot 7 .int)])],[(8,dr 12 [(0,[3],[]),(9,[5],[5]),(10,[5],[5])])],[]⟩,8⟩ [l3 n] n (ec (Ug n) (ec (Ik n) (ec (UY n) en))) Go.Proofs.Tryz.func20 (by kernel_rfl) ⟨AJ (fun m x k=>by kernel_rfl) (fun _ _=>rfl),trivial⟩ (fun x=>by kernel_rfl)
def Gf{α:Type}(n:Nat):Nat→Sys→Sys→List Int→List Call→Int→Int→(Sys→List Int→Option α)→Option α|0,_,_,_,_,_,_,_=>none|m0+1,v3,v4,v5,v6,v7,v8,k0_0=>cond (decide (v8<v7)) (cond (decide (0≤v8)&&decide (v8<(v6.length:Int))) ((JI n v4 (List.getD v6 (Int.toNat v8) (Kd.dflt .call))).bind fun r9=>cond (decide (r9.1.2.1=0)) (cond (decide ((v5).length+(([r9.1.2.1]:List Int)).length≤lim)) (Gf n m0 (⟨v3.Now,v3.Cpus,[],[],[],[],v3.Seq,v3.Missed,[]⟩:Sys) (AC r9.1.1) (v5++([r9.1.2.1]:List Int)) v6 v7 (w64 (v8+1)) k0_0) none) (cond (decide ((v5).length+(([r9.1.2.1]:List Int)).length≤lim)) (Gf n m0 (⟨v3.Now,v3.Cpus,[],[],[],[],v3.Seq,v3.Missed,[]⟩:Sys) v4 (v5++([r9.1.2.1]:List Int)) v6 v7 (w64 (v8+1)) k0_0) none)) none) (k0_0 v4 v5)
def LM(n:Nat)(a0:Sys)(a1:List Call):Option ((Ah×List Int×Unit)×Unit):=(LW n a0).bind fun r1=>(DT n a0).bind fun r2=>cond (!r2.1) (some (((AA (AC r1.1)),[],()),())) (cond (decide (150<(a1.length:Int))) (some (((AA (AC r1.1)),[],()),())) (Gf n n (⟨0,0,[],[],[],[],0,0,[]⟩:Sys) (AC r1.1) ([]:List Int) a1 (a1.length:Int) 0 (fun w10 w11=>some (((AA w10),w11,()),()))))
def bi(n:Nat):Rw:=⟨22,pV [Ae,.ro .call],Tt,fun x=>LM n (AX x.1) x.2.1.2⟩
def kX(n:Nat):LS:=AI ⟨6,Tv,[(.t 7,4,.int)],[5,6,7,8],[4,6,7],([1,2,4,5,6,7,8])⟩ 46 [4,6,7,24,25,26] 411413333 (pD [.ptr 1 0,.ptr 2 0,.bor 4,.ro .call,.int,.int]) [q64,Tu,.root .int] (fun m x k=>Gf n m (⟨x.2.1.1,x.2.1.2.1,[],[],[],[],x.2.1.2.2.2.2.2.2.1,x.2.1.2.2.2.2.2.2.2.1,[]⟩:Sys) (AC x.2.2.1) x.2.2.2.1 x.1.2.2.2.1.2 x.1.2.2.2.2.1 x.1.2.2.2.2.2.1 (fun w0 w1=>k (.exit 0) (eS 46 [4,6,7] [.ptr 1 0,.ptr 2 0,.bor 4] 411413333 [DE.make q64 x.2.1,.box [.int w0.Now,.int w0.Cpus,.ro true .task w0.Tasks,.ro true .lock w0.Locks,.ro true .ghost w0.Ghosts,.ro true .int w0.Floors,.int w0.Seq,.int w0.Missed,.ro true .turn w0.Trace],.root .int w1 .ok])))
theorem bl(n:Nat):RO (bi n):=
 rL ⟨Go.Proofs.Tryz.f22,⟨[(0,[(0,.slot 0 .int),(1,.slot 1 .int)]),(1,[(1,q54),(2,.slot 2 .int)]),(2,[(1,cl 1 .bool 0)]),(4,[(0,.slot 3 .int)]),(7,[(2,.slot 5 .int)]),(8,[(2,M9),(6,.slot 6 .int)]),(11,[(2,.slot 7 .int),(3,.slot 8 .int)])],[],[]⟩,9⟩ [kX n] n (ec (cd n) (ec (Fx n) (ec (T6 n) en))) Go.Proofs.Tryz.func22 (by kernel_rfl) ⟨AJ (fun m x k=>by kernel_rfl) (fun _ _=>rfl),trivial⟩ (fun x=>by kernel_rfl)
def Lh(a0:Call)(a1:Call):Option (Bool×Unit):=cond (!(decide (a0.Kind=a1.Kind))) (some (false,())) (cond (!(decide (a0.No=a1.No))) (some (false,())) (cond (!(decide (a0.Cpu=a1.Cpu))) (some (false,())) (cond (!(decide (a0.A=a1.A))) (some (false,())) (cond (!(decide (a0.B=a1.B))) (some (false,())) (some (true,()))))))
def dK:Rw:=⟨71,pV [Ba,Ba],pS [.bool],fun x=>Lh (Az x.1) (Az x.2.1)⟩
theorem dN:RO (dK):=
 rE ⟨Go.Proofs.Tryz.f71,⟨[(0,[(0,.slot 0 .int),(1,.slot 1 .int)])],[],[]⟩,2⟩ 0 en Go.Proofs.Tryz.func71 (by kernel_rfl) (fun x=>by kernel_rfl)
def Eb{α:Type}(n:Nat):Nat→List Call→List Call→Int→(Option α)→(Option α)→Option α|0,_,_,_,_,_=>none|m0+1,v1,v2,v3,k0_0,k0_1=>cond (decide (v3<(v1.length:Int))) (cond (decide (0≤v3)&&decide (v3<(v1.length:Int))) (cond (decide (0≤v3)&&decide (v3<(v2.length:Int))) ((Lh (List.getD v1 (Int.toNat v3) (Kd.dflt .call)) (List.getD v2 (Int.toNat v3) (Kd.dflt .call))).bind fun r4=>cond (!r4.1) k0_0 (Eb n m0 v1 v2 (w64 (v3+1)) k0_0 k0_1)) none) none) k0_1
def JW(n:Nat)(a0:List Call)(a1:List Call):Option (Bool×Unit):=cond (!(decide ((a0.length:Int)=(a1.length:Int)))) (some (false,())) (Eb n n a0 a1 0 (some (false,())) (some (true,())))
def dL(n:Nat):Rw:=⟨24,pV [.ro .call,.ro .call],pS [.bool],fun x=>JW n x.1.2 x.2.1.2⟩
def kw(n:Nat):LS:=AI ⟨4,[0,1,5],[],[],[4],[]⟩ 27 [0,1,5] 0 (pD [.ro .call,.ro .call,.int]) [] (fun m x k=>Eb n m x.1.1.2 x.1.2.1.2 x.1.2.2.1 (k .ret (eS 27 [4] [.bool false] 0 [])) (k (.exit 0) (eS 27 [] [] 0 [])))
theorem dM(n:Nat):RO (dL n):=
 rL ⟨Go.Proofs.Tryz.f24,⟨[(6,[(8,cl 2 .bool 0)])],[(6,dr 10 [])],[]⟩,0⟩ [kw n] n (ec dN en) Go.Proofs.Tryz.func24 (by kernel_rfl) ⟨AJ (fun m x k=>by kernel_rfl) (fun _ _=>rfl),trivial⟩ (fun x=>by kernel_rfl)
def FZ{α:Type}(n:Nat):Nat→List Call→Int→Int→(Int→List Call→Option α)→Option α|0,_,_,_,_=>none|m0+1,v1,v2,v3,k0_0=>cond (decide (v3<(v1.length:Int))) (cond (decide (0≤v3)&&decide (v3<(v1.length:Int))) (cond (decide ((Int.toNat v3)<(v1).length)) (let e4:=(List.set v1 (Int.toNat v3) (⟨v2,(List.getD v1 (Int.toNat v3) (Kd.dflt .call)).No,(List.getD v1 (Int.toNat v3) (Kd.dflt .call)).Cpu,(List.getD v1 (Int.toNat v3) (Kd.dflt .call)).A,(List.getD v1 (Int.toNat v3) (Kd.dflt .call)).B⟩:Call));cond (decide (0≤v3)&&decide (v3<(e4.length:Int))) (cond (decide ((Int.toNat v3)<(e4).length)) (let e5:=(List.set e4 (Int.toNat v3) (⟨(List.getD e4 (Int.toNat v3) (Kd.dflt .call)).Kind,(w64 (v2+1)),(List.getD e4 (Int.toNat v3) (Kd.dflt .call)).Cpu,(List.getD e4 (Int.toNat v3) (Kd.dflt .call)).A,(List.getD e4 (Int.toNat v3) (Kd.dflt .call)).B⟩:Call));cond (decide (0≤v3)&&decide (v3<(e5.length:Int))) (cond (decide ((Int.toNat v3)<(e5).length)) (let e6:=(List.set e5 (Int.toNat v3) (⟨(List.getD e5 (Int.toNat v3) (Kd.dflt .call)).Kind,(List.getD e5 (Int.toNat v3) (Kd.dflt .call)).No,(w64 ((w64 (v2+1))+1)),(List.getD e5 (Int.toNat v3) (Kd.dflt .call)).A,(List.getD e5 (Int.toNat v3) (Kd.dflt .call)).B⟩:Call));cond (decide (0≤v3)&&decide (v3<(e6.length:Int))) (cond (decide ((Int.toNat v3)<(e6).length)) (let e7:=(List.set e6 (Int.toNat v3) (⟨(List.getD e6 (Int.toNat v3) (Kd.dflt .call)).Kind,(List.getD e6 (Int.toNat v3) (Kd.dflt .call)).No,(List.getD e6 (Int.toNat v3) (Kd.dflt .call)).Cpu,(w64 ((w64 ((w64 (v2+1))+1))+1)),(List.getD e6 (Int.toNat v3) (Kd.dflt .call)).B⟩:Call));cond (decide (0≤v3)&&decide (v3<(e7.length:Int))) (cond (decide ((Int.toNat v3)<(e7).length)) (let e8:=(List.set e7 (Int.toNat v3) (⟨(List.getD e7 (Int.toNat v3) (Kd.dflt .call)).Kind,(List.getD e7 (Int.toNat v3) (Kd.dflt .call)).No,(List.getD e7 (Int.toNat v3) (Kd.dflt .call)).Cpu,(List.getD e7 (Int.toNat v3) (Kd.dflt .call)).A,(w64 ((w64 ((w64 ((w64 (v2+1))+1))+1))+1))⟩:Call));let e9:=(w64 ((w64 ((w64 ((w64 ((w64 (v2+1))+1))+1))+1))+1));FZ n m0 e8 e9 (w64 (v3+1)) k0_0) none) none) none) none) none) none) none) none) none) none) (k0_0 v2 v1)
def Lo(n:Nat)(a0:List Call)(a1:Int):Option (Int×List Call×Unit):=FZ n n a0 a1 0 (fun w10 w11=>some (w10,w11,()))
def d5(n:Nat):Rw:=⟨25,pA [.own .call,.v .int],(pS [.int,.own .call]),fun x=>Lo n x.1 x.2.1⟩
def lI(n:Nat):LS:=AI ⟨2,[0,1,5],[],[],[1],[0]⟩ 48 [0,1,5] 1 (pD [.bor 0,.int,.int]) [.root .call] (fun m x k=>FZ n m x.2.1 x.1.2.1 x.1.2.2.1 (fun w0 w1=>k (.exit 0) (eS 48 [1] [.int w0] 1 [.root .call w1 .ok])))
theorem d6(n:Nat):RO (d5 n):=
 rL ⟨Go.Proofs.Tryz.f25,⟨[],[],[]⟩,1⟩ [lI n] n en Go.Proofs.Tryz.func25 (by kernel_rfl) ⟨AJ (fun m x k=>by kernel_rfl) (fun _ _=>rfl),trivial⟩ (fun x=>by kernel_rfl)
def Hz{α:Type}(n:Nat):Nat→List Call→List Call→Int→(List Call→Option α)→Option α|0,_,_,_,_=>none|m0+1,v1,v2,v3,k0_0=>cond (decide (v3<(v1.length:Int))) (cond (decide (0≤v3)&&decide (v3<(v1.length:Int))) ((GK (List.getD v1 (Int.toNat v3) (Kd.dflt .call))).bind fun r4=>cond (decide (0≤v3)&&decide (v3<(v2.length:Int))) (cond (decide ((Int.toNat v3)<(v2).length)) (Hz n m0 v1 (List.set v2 (Int.toNat v3) (Az r4.1)) (w64 (v3+1)) k0_0) none) none) none) (k0_0 v2)
def Lt(n:Nat)(a0:List Call):Option (List Call×Unit):=cond (((decide ((a0.length:Int)=(a0.length:Int)))&&(decide (0≤(a0.length:Int))))&&(decide ((a0.length:Int)≤(lim:Int)))) (Hz n n a0 (List.replicate (Int.toNat (a0.length:Int)) (Kd.dflt .call)) 0 (fun w5=>some (w5,()))) none
def ee(n:Nat):Rw:=⟨21,pV [.ro .call],Tr,fun x=>Lt n x.1.2⟩
def lQ(n:Nat):LS:=AI ⟨3,[0,3,4],[],[],[3],[0]⟩ 23 [0,3,4] 1 (pD [.ro .call,.bor 0,.int]) [.root .call] (fun m x k=>Hz n m x.1.1.2 x.2.1 x.1.2.2.1 (fun w0=>k (.exit 0) (eS 23 [3] [.bor 0] 1 [.root .call w0 .ok])))
theorem ei(n:Nat):RO (ee n):=
 rL ⟨Go.Proofs.Tryz.f21,⟨[(1,[(2,.slot 0 .call)]),(5,[(6,Ig)])],[],[]⟩,1⟩ [lQ n] n (ec P0 en) Go.Proofs.Tryz.func21 (by kernel_rfl) ⟨AJ (fun m x k=>by kernel_rfl) (fun _ _=>rfl),trivial⟩ (fun x=>by kernel_rfl)
def Gg{α:Type}(n:Nat):Nat→Sys→Sys→List Int→List Call→Int→Int→(Int→Int→Int→Int→List Int→List Task→List Lock→List Ghost→List Int→List Turn→Option α)→Option α|0,_,_,_,_,_,_,_=>none|m0+1,v3,v4,v5,v6,v7,v8,k0_0=>cond (decide (v8<v7)) (cond (decide (0≤v8)&&decide (v8<(v6.length:Int))) ((JJ n v4 (List.getD v6 (Int.toNat v8) (Kd.dflt .call))).bind fun r9=>cond (decide (r9.1.2.1=0)) (cond (decide ((v5).length+(([r9.1.2.1]:List Int)).length≤lim)) (Gg n m0 (⟨v3.Now,v3.Cpus,[],[],[],[],v3.Seq,v3.Missed,[]⟩:Sys) (AC r9.1.1) (v5++([r9.1.2.1]:List Int)) v6 v7 (w64 (v8+1)) k0_0) none) (cond (decide ((v5).length+(([r9.1.2.1]:List Int)).length≤lim)) (Gg n m0 (⟨v3.Now,v3.Cpus,[],[],[],[],v3.Seq,v3.Missed,[]⟩:Sys) v4 (v5++([r9.1.2.1]:List Int)) v6 v7 (w64 (v8+1)) k0_0) none)) none) (k0_0 v4.Now v4.Cpus v4.Seq v4.Missed v5 v4.Tasks v4.Locks v4.Ghosts v4.Floors v4.Trace)
def LN(n:Nat)(a0:Sys)(a1:List Call):Option ((Ah×List Int×Unit)×Unit):=(B1 n a0).bind fun r1=>(DT n a0).bind fun r2=>cond (!r2.1) (some (((AA (AC r1.1)),[],()),())) (cond (decide (150<(a1.length:Int))) (some (((AA (AC r1.1)),[],()),())) (Gg n n (⟨0,0,[],[],[],[],0,0,[]⟩:Sys) (AC r1.1) ([]:List Int) a1 (a1.length:Int) 0 (fun w10 w11 w12 w13 w14 w15 w16 w17 w18 w19=>some (((AA (⟨w10,w11,w15,w16,w17,w18,w12,w13,w19⟩:Sys)),w14,()),()))))
def bj(n:Nat):Rw:=⟨22,pV [Ae,.ro .call],(pS [.tup Tw]),fun x=>LN n (AX x.1) x.2.1.2⟩
def kY(n:Nat):LS:=AI ⟨6,Tv,[(.t 7,9,.int),(.c 7 2,10,.task),(.c 7 3,11,.lock),(.c 7 4,12,.ghost),(.c 7 5,13,.int),(.c 7 8,14,.turn)],([15,16,17,18,19,20,21,22,23]),[4,6,7],([1,7,9,10,11,12,13,14,15,16,17,18,19,20,21,22,23])⟩ 46 [4,6,7,24,25,26] 414444414111111333333333 (pD [.ptr 1 0,.ptr 7 0,.bor 9,.ro .call,.int,.int]) [q64,(.box (pD [.int,.int,.bor 10,.bor 11,.bor 12,.bor 13,.int,.int,.bor 14])),.root .int,.root .task,.root .lock,.root .ghost,.root .int,.root .turn] (fun m x k=>Gg n m (⟨x.2.1.1,x.2.1.2.1,[],[],[],[],x.2.1.2.2.2.2.2.2.1,x.2.1.2.2.2.2.2.2.2.1,[]⟩:Sys) (⟨x.2.2.1.1,x.2.2.1.2.1,x.2.2.2.2.1,x.2.2.2.2.2.1,x.2.2.2.2.2.2.1,x.2.2.2.2.2.2.2.1,x.2.2.1.2.2.2.2.2.2.1,x.2.2.1.2.2.2.2.2.2.2.1,x.2.2.2.2.2.2.2.2.1⟩:Sys) x.2.2.2.1 x.1.2.2.2.1.2 x.1.2.2.2.2.1 x.1.2.2.2.2.2.1 (fun w0 w1 w2 w3 w4 w5 w6 w7 w8 w9=>k (.exit 0) (eS 46 [4,6,7] [.ptr 1 0,.ptr 7 0,.bor 9] 414444414111111333333333 [DE.make q64 x.2.1,.box [.int w0,.int w1,.bor 10,.bor 11,.bor 12,.bor 13,.int w2,.int w3,.bor 14],.root .int w4 .ok,.root .task w5 .ok,.root .lock w6 .ok,.root .ghost w7 .ok,.root .int w8 .ok,.root .turn w9 .ok])))
theorem bk(n:Nat):RO (bj n):=
 rL ⟨Go.Proofs.Tryz.f22,⟨[(0,[(0,.slot 0 .int),(1,.slot 1 .int)]),(1,[(1,q62),(2,.slot 7 .int)]),(2,[(1,cl 1 .bool 0)]),(4,[(0,.slot 8 .int)]),(7,[(2,.slot 15 .int)]),(8,[(2,(.call [.ro,.ro] (.tup Cv) [] [some 16,some 17,some 18,some 19,some 20])),(6,.slot 21 .int)]),(11,[(2,.slot 22 .int),(3,.slot 23 .int)])],[],[]⟩,24⟩ [kY n] n (ec (Gt n) (ec (Fx n) (ec (T5 n) en))) Go.Proofs.Tryz.func22 (by kernel_rfl) ⟨AJ (fun m x k=>by kernel_rfl) (fun _ _=>rfl),trivial⟩ (fun x=>by kernel_rfl)
def Lf(n:Nat)(a0:Sys)(a1:List Call):Option (Bool×Unit):=(GJ n a0 1048576).bind fun r1=>cond (decide (r1.1<0)) (some (true,())) ((OU a1 r1.1).bind fun r2=>cond (decide (r2.1<0)) (some (true,())) ((CS n a0).bind fun r3=>(HS n a1).bind fun r4=>(MS n (AC r3.1) r4.1).bind fun r5=>(Jj n a0).bind fun r6=>(Lt n a1).bind fun r7=>(LN n (AC r6.1) r7.1).bind fun r8=>(CD n (AC r8.1.1) (AC r5.1.1)).bind fun r9=>cond (!r9.1) (some (false,())) ((EQ n r8.1.2.1 r5.1.2.1).bind fun r10=>cond (!r10.1) (some (false,())) ((CS n a0).bind fun r11=>(CD n (AC r6.1) (AC r11.1)).bind fun r12=>cond (!r12.1) (some (false,())) ((HS n a1).bind fun r13=>(JW n r7.1 r13.1).bind fun r14=>cond (!r14.1) (some (false,())) ((ET n (AC r6.1) 1).bind fun r15=>(Lo n r7.1 r15.1).bind fun r16=>cond (decide (r16.1<0)) (some (false,())) ((CD n (AC r8.1.1) (AC r5.1.1)).bind fun r17=>cond (!r17.1) (some (false,())) ((EQ n r8.1.2.1 r5.1.2.1).bind fun r18=>cond (!r18.1) (some (false,())) ((ET n (AC r8.1.1) 1).bind fun r19=>(GI n r8.1.2.1 r19.1).bind fun r20=>(ES n (⟨(AC r8.1.1).Now,(AC r8.1.1).Cpus,r19.2.1.2.2.1,r19.2.1.2.2.2.1,r19.2.1.2.2.2.2.1,r19.2.1.2.2.2.2.2.1,(AC r8.1.1).Seq,(AC r8.1.1).Missed,r19.2.1.2.2.2.2.2.2.2.2.1⟩:Sys) 1).bind fun r21=>cond (decide (r21.1<0)) (some (false,())) ((FI n r20.2.1 r21.1).bind fun r22=>cond (decide (r22.1<0)) (some (false,())) (cond (!(decide (r22.1=r20.1))) (some (false,())) ((CS n a0).bind fun r23=>(HS n a1).bind fun r24=>(LM n (AC r23.1) r24.1).bind fun r25=>(CD n (AC r25.1.1) (AC r5.1.1)).bind fun r26=>cond (!r26.1) (some (false,())) ((EQ n r25.1.2.1 r5.1.2.1).bind fun r27=>cond (!r27.1) (some (false,())) ((ES n (⟨(AC r8.1.1).Now,(AC r8.1.1).Cpus,r19.2.1.2.2.1,r19.2.1.2.2.2.1,r19.2.1.2.2.2.2.1,r19.2.1.2.2.2.2.2.1,(AC r8.1.1).Seq,(AC r8.1.1).Missed,r19.2.1.2.2.2.2.2.2.2.2.1⟩:Sys) 1).bind fun r28=>cond (decide (r28.1<0)) (some (false,())) ((FI n r20.2.1 r28.1).bind fun r29=>cond (decide (r29.1<0)) (some (false,())) (cond (!(decide (r29.1=r20.1))) (some (false,())) (some (true,()))))))))))))))))))
def dG(n:Nat):Rw:=⟨6,pV [Ae,.ro .call],pS [.bool],fun x=>Lf n (AX x.1) x.2.1.2⟩
theorem dH(n:Nat):RO (dG n):=
 rE ⟨Go.Proofs.Tryz.f6,⟨[(0,[(0,.slot 0 .int)]),(2,[(2,cl 2 .int 0)]),(5,[(2,cl 2 .int 0)]),(8,[(1,q54),(3,Po),(4,Tx),(8,.slot 1 .int)]),(9,[(1,q62),(2,.slot 7 .int)]),(10,[(1,(.call [.ro] (.own .call) [] [some 8]))]),(11,[(2,(.call [.ro,.ro] (.tup Tw) [] [some 9,some 10,some 11,some 12,some 13,some 14])),(6,.slot 15 .int)]),(12,[(2,cl 2 .bool 0),(7,cl 2 .bool 0)]),(14,[(2,q54),(3,cl 2 .bool 0)]),(16,[(2,Po),(3,cl 2 .bool 0)]),(19,[(2,If)]),(20,[(2,(.call [.mv,.ro] .int [.own .call] []))]),(21,[(5,cl 2 .bool 0),(11,cl 2 .bool 0)]),(24,[(2,If)]),(25,[(2,TT)]),(27,[(2,cl 2 .int 0)]),(30,[(2,cl 2 .int 0)]),(35,[(1,q54),(3,Po),(4,Tx),(8,.slot 16 .int)]),(36,[(2,cl 2 .bool 0),(7,cl 2 .bool 0)]),(39,[(2,cl 2 .int 0)]),(42,[(2,cl 2 .int 0)])],[(14,dr 5 [(0,[7],[]),(1,[0],[]),(3,[2,3,4,5,6],[])])],[]⟩,17⟩ n (ec (NG n) (ec eJ (ec (NH n) (ec (eo n) (ec (iw n) (ec (P2 n) (ec (ei n) (ec (bk n) (ec (NF n) (ec (Pv n) (ec (dM n) (ec (Pz n) (ec (d6 n) (ec (Py n) (ec (Px n) (ec (Pw n) (ec (bl n) en))))))))))))))))) Go.Proofs.Tryz.func6 (by kernel_rfl) (fun x=>by kernel_rfl)
end Go.Proofs.YtbbgaleennfklaaGreat.VR
end
section
set_option linter.unusedVariables false
set_option linter.unusedSimpArgs false
namespace Go.Proofs.YtbbgaleennfklaaGreat.VR
open Go
structure Bd(s:Sys):Prop where
 tasks:s.Tasks.length≤20
 locks:s.Locks.length≤5
 waits:(AT s.Locks).length≤3000
 ghosts:s.Ghosts.length≤20
 floors:s.Floors.length≤4
 trace:s.Trace.length≤400
theorem Bd.b{s:Sys}(h:Bd s):SysB s:=by
 have h1:=h.tasks;have h2:=h.locks;have h3:=h.waits;have h4:=h.ghosts;have h5:=h.floors;have h6:=h.trace;have hb:(3000:Nat)≤big:=by unfold big;omega
 exact⟨⟨by omega,⟨by omega,by omega⟩⟩,⟨by omega,by omega,fun k hk=>by have:=F4 hk;omega,by omega,by omega,by omega⟩⟩
theorem SysOk.bd{s:Sys}(h:SysOk s):(s.Tasks.length≤12∧s.Ghosts.length≤12∧(AT s.Locks).length≤1000)∧Bd s:=by
 have h1:=h.tasks.len;have h2:=h.locks.1;have h3:=V7 h.locks.2.1;have h4:=h.ghosts.1;have h5:=h.flen;have h6:=h.cpus;have h7:=h.trace;exact⟨⟨h1,h4,h3⟩,⟨by omega,by omega,by omega,by omega,by omega,h7⟩⟩
theorem V6(k:Lock): ∀(l:List Lock) (i:Nat),(AT (l.set i k)).length≤(AT l).length+k.Waits.length
 | [],i=>by simp[AT]
 |x::l,0=>by simp only[List.set_cons_zero,AT,List.flatMap_cons,List.length_append];omega
 |x::l,i+1=>by
  have:=V6 k l i;simp only[List.set_cons_succ,AT,List.flatMap_cons,List.length_append]at this⊢;omega
theorem A9{p:Prop}[Decidable p]{a b:Sys×Int}(ha:Bd a.1)(hb:Bd b.1):Bd (if p then a else b).1:=by split<;>assumption
theorem Wo{s:Sys}(c:Call)(h:SysOk s):Bd (CO s c).1:=by
 obtain⟨⟨t1,g1,w1⟩,hb⟩:=h.bd;have ht: ∀ts:List Task,ts.length≤20→Bd {s with Tasks:=ts}:=fun ts h=>⟨h,hb.locks,hb.waits,hb.ghosts,hb.floors,hb.trace⟩
 have hg: ∀(i:Nat) (g:Ghost),Bd {s with Tasks:=s.Tasks.eraseIdx i,Ghosts:=s.Ghosts++[g]}:=fun i g=>
  ⟨Nat.le_trans (List.eraseIdx_sublist s.Tasks i).length_le (by omega),hb.locks,hb.waits,by simp;omega,hb.floors,hb.trace⟩
 have he: ∀(i:Nat),Bd {s with Tasks:=s.Tasks.eraseIdx i}:=fun i=>ht _ (Nat.le_trans (List.eraseIdx_sublist s.Tasks i).length_le (by omega))
 have hw: ∀(i:Nat) (o:Int) (ws:List Int),ws.length≤1001→Bd {s with Locks:=s.Locks.set i ⟨o,ws⟩}:=fun i o ws hws=>
  ⟨hb.tasks,by simp only[List.length_set];exact hb.locks,by have:=V6 ⟨o,ws⟩ s.Locks i;simp only at this;show(AT (s.Locks.set i ⟨o,ws⟩)).length≤3000;omega,hb.ghosts,hb.floors,hb.trace⟩
 have hwi: ∀i,(s.Locks.getD i (Kd.dflt .lock)).Waits.length≤1000:=fun i=>by
  by_cases hi:i<s.Locks.length
  ·rw[Ab hi];have:=F4 (List.getElem_mem hi);omega
  ·rw[List.getD_eq_getElem?_getD,List.getElem?_eq_none (by omega)];simp[Kd.dflt]
 unfold CO;refine A9 ?_ (A9 ?_ ?_)
 · unfold G1
   refine A9 (A9 hb ?_) hb;exact(V1 _ _ _ h).bd.2
 · unfold DC
   refine A9 hb (A9 hb (A9 hb (A9 hb (A9 (A9 hb ?_) ?_))))
   ·exact⟨by simp only[Mv];omega,hb.locks,hb.waits,hb.ghosts,hb.floors,hb.trace⟩
   ·exact ht _ (by rw[Mv];omega)
 · cases AY s.Tasks c.No with
   |none=>exact hb
   |some i=>
    unfold EI;have hset: ∀t,Bd {s with Tasks:=s.Tasks.set i t}:=fun t=>ht _ (by rw[List.length_set];omega)
    refine A9 (A9 hb (hset _)) (A9 (A9 hb (hset _)) (A9 ?_ (A9 ?_ ?_)))
    · unfold DS
      exact A9 hb (A9 (A9 hb (hg _ _)) (he _))
    · unfold Cr
      refine A9 hb (A9 hb (A9 ?_ (A9 hb (A9 hb ?_))))
      · unfold Ha
        exact hw _ _ _ (Nat.le_trans (List.length_filter_le _ _) (Nat.le_trans (hwi _) (by omega)))
      · unfold DP
        split
        ·exact hw _ _ _ (Nat.le_trans (hwi _) (by omega))
        · have hq: ∀(p:Prop) [Decidable p] (o:Int) (x:Int),Bd {s with Locks:=(if p then(s.Locks,false)else(s.Locks.set c.A.toNat ⟨o,(s.Locks.getD c.A.toNat (Kd.dflt .lock)).Waits++[x]⟩,true)).1}:=fun p _ o x=>by
           split
           ·exact hb
           ·exact hw _ _ _ (by rw[List.length_append];have:=hwi c.A.toNat;show _+1≤1001;omega)
          exact hq _ _ _
    · unfold C5
      exact A9 hb (A9 (A9 (hset _) hb) (A9 hb (A9 hb (hset _))))
theorem oz:Bd B7:=⟨by simp[B7],by simp[B7],by simp[B7,AT],by simp[B7],by simp[B7],by simp[B7]⟩
theorem QQ(s:Sys)(c:Call):Bd (Bj s c).1:=by
 unfold Bj;split
 ·rename_i h;exact Wo c h.1
 ·exact oz
theorem SX(s:Sys)(c:Call)(ha:A1 s.Now)(hb:A1 s.Cpus)(h1:wfL .task s.Tasks)(h2:wfL .lock s.Locks)(h3:wfL .ghost s.Ghosts)(h4:wfL .int s.Floors)(hc:A1 s.Seq)(hd:A1 s.Missed)(h5:wfL .turn s.Trace)
 (c1:A1 c.Kind) (c2:A1 c.No) (c3:A1 c.Cpu) (c4:A1 c.A) (c5:A1 c.B): ∃n,Le n s c=some (true,()):=by
 have hsn:SN (GN+big+big+4):=by unfold SN;omega
 have hlt:big<GN+big+big+4:=by omega
 refine⟨GN+big+big+4,?_⟩;obtain⟨r,e,hr⟩:=Nd (s:=s) ⟨ha,hb,h1,h2,h3,h4,hc,hd,h5⟩ hlt;simp only[Le,e,Option.bind_some];rcases hr with hr|⟨hr,hs⟩
 ·rw[decide_eq_true hr,cond_true]
 · rw[decide_eq_false hr,cond_false]
   have h:=(QQ s c).b.c;obtain⟨m1,m2,m3,m4,m5,m6⟩:=Fr h;obtain⟨k1,k2,k3,k4,k5,k6⟩:=Fr hs.c;have hp: ¬(Ad (Bj s c).1).r<0:=by omega
   have hp2: ¬(Ad s).r<0:=by omega
   have hB:big≤5000000:=by unfold big;omega
   simp only[KC hs.small hlt BM,QW hs.small hlt BM,PO,Option.bind_some,dnSys_up,dnCall_up,VA hs hsn,R9 hs hsn,R8 hs hsn,Gl h.small hlt BM,Gl hs.small hlt BM,decide_true,Bool.not_true,cond_false,beq_self_eq_true,
    Ia hs.c hlt hB,Ia h hlt hB,hp,hp2,decide_false]
   rw[O6 h hlt hB rfl rfl rfl rfl rfl];simp only[Option.bind_some,hp,decide_false,cond_false,Pb,decide_true,Bool.not_true]
end Go.Proofs.YtbbgaleennfklaaGreat.VR
end
