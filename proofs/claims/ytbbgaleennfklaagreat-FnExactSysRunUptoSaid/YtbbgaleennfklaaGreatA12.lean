/- Tasks that are woken, renewed, charged; what is awake; floors. -/
import Derived.Test.YtbbgaleennfklaaGreatA11
section
set_option linter.unusedVariables false
set_option linter.unusedSimpArgs false
namespace Go.Proofs.YtbbgaleennfklaaGreat.VR
open Go
theorem Nw(p q:Prop)[Decidable p][Decidable q]:(cond (decide q) (some (decide p,())) (some (false,())):Option (Bool×Unit))=some (decide (p∧q),()):=by
 by_cases h1:p<;>by_cases h2:q<;>simp[h1,h2]
theorem Nx(p q:Prop)[Decidable p][Decidable q]:(cond (decide p) (some (decide q,())) (some (false,())):Option (Bool×Unit))=some (decide (p∧q),()):=by
 by_cases h1:p<;>by_cases h2:q<;>simp[h1,h2]
theorem PC(t:Task):EP t=some (decide (TaskOk t∧t.Class=1),()):=by simp only[EP,Dw,Option.bind_some];exact Nw _ _
theorem QI(t:Task):EV t=some (decide (TaskOk t∧t.Class=1),()):=by simp only[EV,EH,Option.bind_some];exact Nx _ _
theorem Ye(t:Task):GG t=some (decide (TaskOk t∧t.Class=2),()):=by simp only[GG,Dw,Option.bind_some];exact Nw _ _
theorem nP(t:Task):GW t=some (decide (TaskOk t∧t.Class=2),()):=by simp only[GW,EH,Option.bind_some];exact Nx _ _
theorem Mq(t:Task):Do t=some (BN t,()):=by simp only[Do,Dw,Option.bind_some,BN];exact Nw _ _
theorem KY(t:Task):DX t=some (BN t,()):=by simp only[DX,EH,Option.bind_some,BN];exact Nx _ _
theorem Kz{t:Task}(h:TaskOk t∧t.Class=1):w64 (t.Due+t.P)=t.Due+t.P∧w64 (t.Left-1)=t.Left-1:=by
 have d:=h.1.due h.2;have h1:=d.due;have h2:=d.share;have h3:=d.left;exact⟨AO (by omega) (by omega),AO (by omega) (by omega)⟩
theorem Xx(t:Task)(now:Int):JB t now=some (AN (GC t now),()):=by
 simp only[JB,PC,Mr,Option.bind_some,BA,GC]
 by_cases h:TaskOk t∧t.Class=1
 ·by_cases h1:0≤now∧now≤100000<;>by_cases h2:t.Due≤now<;>simp[h,h1,h2,(Kz h).1]
 ·simp[h]
theorem U6(t:Task)(now:Int):GP t now=some (AN (GC t now),()):=by
 simp only[GP,QI,BI,Option.bind_some,BA,GC,CP]
 by_cases h:TaskOk t∧t.Class=1
 · by_cases h1:0≤now∧now≤100000
   · by_cases h2:t.Due≤now
     · have h3: ¬now<t.Due:=by omega
       simp[h,h1,h2,h3,(Kz h).1]
     · have h3:now<t.Due:=by omega
       simp[h,h1,h2,h3]
   ·simp[h,h1]
 ·simp[h]
theorem V8{t:Task}{now:Int}(h:TaskOk t∧t.Class=1)(h1:0≤now∧now≤100000):w64 (now+t.P)=now+t.P∧w64 (w64 (t.Due-now)*t.Q)=(t.Due-now)*t.Q∧w64 (t.Left*t.P)=t.Left*t.P:=by
 have d:=h.1.due h.2;have h4:=d.due;have h2:=d.share;have h3:=d.left;have e:w64 (t.Due-now)=t.Due-now:=AO (by omega) (by omega)
 have m: ∀a b:Int,-1000000≤a→a≤1000000→0≤b→b≤40→ -40000000≤a*b∧a*b≤40000000:=fun a b h1 h2 h3 h4=>by
  have q1:=Int.mul_le_mul_of_nonneg_right h2 h3;have q2:=Int.mul_le_mul_of_nonneg_right h1 h3;omega
 have m1:=m (t.Due-now) t.Q (by omega) (by omega) (by omega) (by omega)
 have m2:=m t.Left t.P (by omega) (by omega) (by omega) (by omega)
 rw[e];exact⟨AO (by omega) (by omega),AO (by omega) (by omega),AO (by omega) (by omega)⟩
theorem Xz(t:Task)(now:Int):K5 t now=some (AN (Dm t now),()):=by
 simp only[K5,PC,Mr,Option.bind_some,BA,Dm,CP]
 by_cases h:TaskOk t∧t.Class=1
 · by_cases h1:0≤now∧now≤100000
   · obtain⟨e1,e2,e3⟩:=V8 h h1
     rw[e1,e2,e3]
     by_cases h2:t.Due≤now<;>by_cases h3:(t.Due-now)*t.Q<t.Left*t.P<;>simp[h,h1,h2,h3]
   ·simp[h,h1]
 ·simp[h]
theorem mm(t:Task)(now:Int):MC t now=some (AN (Dm t now),()):=by
 simp only[MC,QI,BI,Option.bind_some,BA,Dm,CP]
 by_cases h:TaskOk t∧t.Class=1
 · by_cases h1:0≤now∧now≤100000
   · obtain⟨e1,e2,e3⟩:=V8 h h1
     rw[e1,e2,e3]
     by_cases h2:t.Due≤now<;>by_cases h3:(t.Due-now)*t.Q<t.Left*t.P<;>simp[h,h1,h2,h3]
   ·simp[h,h1]
 ·simp[h]
theorem Xy(t:Task):JC t=some (AN (Cb t),()):=by
 simp only[JC,PC,Option.bind_some,BA,Cb]
 by_cases h:TaskOk t∧t.Class=1
 ·by_cases h1:0<t.Left<;>simp[h,h1,(Kz h).2]
 ·simp[h]
theorem ml(t:Task):MB t=some (AN (Cb t),()):=by
 simp only[MB,QI,Option.bind_some,BA,Cb]
 by_cases h:TaskOk t∧t.Class=1
 ·by_cases h1:0<t.Left<;>simp[h,h1,(Kz h).2]
 ·simp[h]
theorem Rb{t:Task}(h:TaskOk t∧t.Class=2):w64 (t.Left-1)=t.Left-1:=by
 have d:=h.1.fixed h.2;have h1:=d.left;have h2:=d.round;exact AO (by omega) (by omega)
theorem YD(t:Task)(seq:Int):K8 t seq=some ((AN (Bg t seq).1,(Bg t seq).2,()),()):=by
 simp only[K8,Ye,PD,Option.bind_some,BA,Bg,CP]
 by_cases h:TaskOk t∧t.Class=2
 ·by_cases h1:t.Round=0<;>by_cases h2:1<t.Left<;>by_cases h3:0≤seq∧seq≤1000000<;>simp[h,h1,h2,h3,Rb h]
 ·simp[h]
theorem mr(t:Task)(seq:Int):MH t seq=some ((AN (Bg t seq).1,(Bg t seq).2,()),()):=by
 simp only[MH,nP,BI,Option.bind_some,BA,Bg,CP]
 by_cases h:TaskOk t∧t.Class=2
 ·by_cases h1:t.Round=0<;>by_cases h2:1<t.Left<;>by_cases h3:0≤seq∧seq≤1000000<;>simp[h,h1,h2,h3,Rb h]
 ·simp[h]
theorem Pe{n:Int}(h:Bz n):n= -4∨n= -3∨n= -2∨n= -1∨n=0∨n=1∨n=2∨n=3∨n=4:=by unfold Bz at h;omega
theorem QO{n:Int}(h: ¬Bz n):E4 n=0:=by
 unfold Bz at h;unfold E4;simp only[show n≠ -4 by omega,show n≠ -3 by omega,show n≠ -2 by omega,show n≠ -1 by omega,show n≠0 by omega,show n≠1 by omega,show n≠2 by omega,show n≠3 by omega,show n≠4 by omega,if_false]
theorem nf(n:Int):0≤E4 n∧E4 n≤48:=by
 by_cases h:Bz n
 ·rcases Pe h with rfl|rfl|rfl|rfl|rfl|rfl|rfl|rfl|rfl<;>decide
 ·rw[QO h];decide
theorem YO(n:Int):LK n=some (E4 n,()):=by
 by_cases h:Bz n
 ·rcases Pe h with rfl|rfl|rfl|rfl|rfl|rfl|rfl|rfl|rfl<;>kernel_rfl
 ·simp only[LK,O7,Option.bind_some,decide_eq_false h,Bool.not_false,cond_true,QO h]
theorem nA(n:Int):MQ n=some (E4 n,()):=by
 by_cases h:Bz n
 ·rcases Pe h with rfl|rfl|rfl|rfl|rfl|rfl|rfl|rfl|rfl<;>kernel_rfl
 ·simp only[MQ,QE,Option.bind_some,decide_eq_false h,Bool.not_false,cond_true,QO h]
theorem SJ(t:Task)(v:Int):JV t v=some (AN (DO t v),()):=by
 simp only[JV,BS,Option.bind_some,BA,DO];split<;>rfl
theorem VI(t:Task)(v:Int):Jv t v=some (AN (DO t v),()):=by
 simp only[Jv,BI,Option.bind_some,BA,DO];split<;>rfl
theorem VN{t:Task}(h:BN t=true):w64 (t.V+E4 t.Nice)=t.V+E4 t.Nice:=by
 rw[FR]at h;have:=(h.1.fair h.2).v;have:=nf t.Nice;exact AO (by omega) (by omega)
theorem YA(t:Task):JG t=some (AN (Cn t),()):=by
 simp only[JG,Mq,YO,SJ,Option.bind_some,dnTask_up,Cn];cases h:BN t with
 |false=>rfl
 |true=>rw[VN h];rfl
theorem mo(t:Task):ME t=some (AN (Cn t),()):=by
 simp only[ME,KY,nA,VI,Option.bind_some,dnTask_up,Cn];cases h:BN t with
 |false=>rfl
 |true=>rw[VN h];rfl
theorem oy{t:Task}(h:BN t=true):DO t t.V=t:=by
 rw[FR]at h;have:=(h.1.fair h.2).v;unfold DO;rw[if_pos this]
theorem YC(t:Task)(f:Int):K7 t f=some (AN (EW t f),()):=by
 simp only[K7,Mq,SJ,Option.bind_some,dnTask_up,EW,BA,CP];cases h:BN t with
 |false=>rfl
 |true=>
  by_cases h1:f≤t.V
  ·rw[if_pos h1,Int.max_eq_left h1,oy h];rfl
  ·rw[if_neg h1,Int.max_eq_right (by omega)];rfl
theorem NY(a b:Int):Dr a b=some (max a b,()):=by
 simp only[Dr,BA]
 by_cases h:b<a
 ·rw[if_pos h,Int.max_eq_left (by omega)]
 ·rw[if_neg h,Int.max_eq_right (by omega)]
theorem mq(t:Task)(f:Int):MG t f=some (AN (EW t f),()):=by
 simp only[MG,KY,NY,VI,Option.bind_some,dnTask_up,EW,CP];cases h:BN t<;>rfl
end Go.Proofs.YtbbgaleennfklaaGreat.VR
end
section
set_option linter.unusedVariables false
set_option linter.unusedSimpArgs false
namespace Go.Proofs.YtbbgaleennfklaaGreat.VR
open Go
def I7{β:Type}(d:β)(w8:Int)(w9:List β):Option (List β×Unit):=
 cond (((decide (0≤w8))&&(decide (w8≤((w9).length:Int))))&&(decide (((w9).length:Int)≤((w9).length:Int))))
  (cond ((decide ((Int.toNat w8)<(Int.toNat ((w9).length:Int))))&&(decide ((Int.toNat ((w9).length:Int))≤(w9).length)))
    (let e10:=(Aj w9 (Int.toNat w8) (List.replicate ((Int.toNat ((w9).length:Int))-(Int.toNat w8)) d))
     cond ((decide (0≤w8))&&(decide (w8≤((e10).length:Int))))
      (some ((List.take (Int.toNat w8) e10),()))
      (none))
    (none))
  (none)
theorem W7{β:Type}(d:β){i:Nat}{ys:List β}(h:i<ys.length):I7 d (i:Int) ys=some (ys.take i,()):=by
 have e:(Aj ys i (List.replicate (ys.length-i) d)).length=ys.length:=by rw[DJ];rw[List.length_replicate];omega
 unfold I7;simp only[Int.toNat_natCast,e,show(0:Int)≤(i:Int) by omega,show(i:Int)≤(ys.length:Int) by omega,Int.le_refl,Nat.le_refl,h,decide_true,Bool.and_self,cond_true]
 congr 2
 unfold Aj;rw[List.append_assoc,List.take_append_of_le_length (by rw[List.length_take];omega),List.take_take,Nat.min_self]
theorem RF{β:Type}{l:Nat→List β→Int→Int→Option (List β×Unit)}{xs:List β}{p:β→Bool}(d:β){n:Nat}(hn:xs.length<n)(hb:xs.length≤lim)
 (hend: ∀m ys (i:Nat),ys.length=xs.length→l (m+1) ys (i:Int) (xs.length:Int)=I7 d (i:Int) ys)
 (hstep: ∀m ys (i j:Nat) (hj:j<xs.length) (hl:ys.length=xs.length),i<j→ys[j]'(by omega)=xs[j]→
   l (m+1) ys (i:Int) (j:Int)=cond (p xs[j]) (l m ys (i:Int) ((j+1:Nat):Int)) (l m (ys.set i xs[j]) ((i+1:Nat):Int) ((j+1:Nat):Int))):
 ((some (idx (xs.findIdx? p),()):Option (Int×Unit)).bind fun r1=>cond (decide (r1.1=(-1))) (some (xs,())) (l n xs r1.1 (w64 (r1.1+1))))=some (xs.filter (fun x=> !p x),()):=by
 simp only[Option.bind_some];cases hf:xs.findIdx? p with
 |none=>
  rw[List.findIdx?_eq_none_iff]at hf;simp only[idx,decide_true,cond_true];rw[List.filter_eq_self.2 fun x hx=>by rw[hf x hx];rfl]
 |some i0=>
  rw[List.findIdx?_eq_some_iff_getElem]at hf;obtain⟨h0,hp,hlt⟩:=hf;have hpre0:(xs.take i0).filter (fun x=> !p x)=xs.take i0:=List.filter_eq_self.2 fun x hx=>by
   obtain⟨j,hj,rfl⟩:=List.getElem_of_mem hx;rw[List.length_take]at hj;rw[List.getElem_take];simpa using hlt j (by omega)
  have hpre:(xs.take (i0+1)).filter (fun x=> !p x)=xs.take i0:=by rw[Ds _ h0,hp,hpre0];simp
  have hne: ¬((i0:Int)= -1):=by omega
  simp only[idx,hne,decide_false,cond_false];rw[AG (Nat.lt_trans h0 (AQ hb))];obtain⟨ys,h1,h2,h3,h4⟩:=XA (l:=l) (xs:=xs) (p:=p) hend hstep i0 h0 (by rw[hpre,List.length_take];omega) hpre hn
  rw[h4,W7 d (by omega),h3]
theorem Xi{xs:List Ghost}{s:Sys}{n:Nat}(hn:xs.length<n)(hb:xs.length≤lim):Lz n xs s=some (xs.filter (fun g=>decide (s.Now<g.Until)),()):=by
 have hx: ∀t:Sys,L3 n xs t=some (idx (xs.findIdx? fun g=>decide (g.Until≤t.Now)),()):=fun t=>by
  unfold L3;have:=CT (l:=fun m i=>IA n m xs ⟨t.Now,t.Cpus,t.Tasks,t.Locks,[],t.Floors,t.Seq,t.Missed,t.Trace⟩ (xs.length:Int) i (fun w6=>some (w6,())) (some (-1,()))) (xs:=xs) (p:=fun g=>decide (g.Until≤t.Now)) (k0:=fun w6=>some (w6,())) (k1:=some (-1,()))
   (fun m=>by simp only[IA,AP,cond_false])
   (fun m i hi=>by simp only[IA,JO,Option.bind_some,AD hi,AF,Bool.and_self,cond_true,AE hi,AG (Nat.lt_trans hi (AQ hb))]) (m:=n) hn
  refine this.trans ?_;cases xs.findIdx? fun g=>decide (g.Until≤t.Now)<;>rfl
 unfold Lz;rw[hx];have:=RF (l:=fun m ys i j=>Gh n m ys ⟨s.Now,s.Cpus,s.Tasks,s.Locks,[],s.Floors,s.Seq,s.Missed,s.Trace⟩ i j (I7 (Kd.dflt .ghost))) (xs:=xs) (p:=fun g=>decide (g.Until≤s.Now)) (Kd.dflt .ghost) hn hb
  (fun m ys i hl=>by simp only[Gh,hl,AP,cond_false])
  (fun m ys i j hj hl hij hy=>by
    have hi:i<ys.length:=by omega
    have hj':j<ys.length:=by omega
    simp only[Gh,JO,Option.bind_some,hl,AD hj,AD (show i<xs.length by omega),AF,Bool.and_self,cond_true,Ab hj',hy,Int.toNat_natCast,decide_eq_true (show i<xs.length by omega),AG (Nat.lt_trans hj (AQ hb)),AG (Nat.lt_trans (show i<xs.length by omega) (AQ hb))]
    cases decide (xs[j].Until≤s.Now)<;>rfl)
 refine this.trans ?_
 congr 2
 apply List.filter_congr;intro g _
 by_cases h:g.Until≤s.Now
 ·rw[decide_eq_true h,decide_eq_false (by omega)];rfl
 ·rw[decide_eq_false h,decide_eq_true (by omega)];rfl
theorem nv{xs:List Task}{cpu:Int}{n:Nat}(hn:xs.length<n)(hb:xs.length≤lim):L0 n xs cpu=some (BF xs cpu,()):=by
 have hx:L7 n xs cpu=some (idx (xs.findIdx? fun t=>t.Idle|| !decide (t.Cpu=cpu)),()):=by
  unfold L7;have:=CT (l:=fun m i=>IH n m xs cpu (xs.length:Int) i (fun w6=>some (w6,())) (some (-1,()))) (xs:=xs) (p:=fun t=>t.Idle|| !decide (t.Cpu=cpu)) (k0:=fun w6=>some (w6,())) (k1:=some (-1,()))
   (fun m=>by simp only[IH,AP,cond_false])
   (fun m i hi=>by
     simp only[IH,JS,AD hi,AF,Bool.and_self,cond_true,AE hi,AG (Nat.lt_trans hi (AQ hb))];cases xs[i].Idle<;>rfl) (m:=n) hn
  refine this.trans ?_;cases xs.findIdx? fun t=>t.Idle|| !decide (t.Cpu=cpu)<;>rfl
 unfold L0;rw[hx];have:=RF (l:=fun m ys i j=>Gi n m ys cpu i j (I7 (Kd.dflt .task))) (xs:=xs) (p:=fun t=>t.Idle|| !decide (t.Cpu=cpu)) (Kd.dflt .task) hn hb
  (fun m ys i hl=>by simp only[Gi,hl,AP,cond_false])
  (fun m ys i j hj hl hij hy=>by
    have hi:i<ys.length:=by omega
    have hj':j<ys.length:=by omega
    simp only[Gi,JS,hl,AD hj,AD (show i<xs.length by omega),AF,Bool.and_self,cond_true,Ab hj',hy,Int.toNat_natCast,decide_eq_true (show i<xs.length by omega),AG (Nat.lt_trans hj (AQ hb)),AG (Nat.lt_trans (show i<xs.length by omega) (AQ hb))]
    cases xs[j].Idle with
    |true=>rfl
    |false=>
     simp only[cond_false,Option.bind_some,Bool.false_or];cases decide (xs[j].Cpu=cpu)<;>rfl)
 refine this.trans ?_
 congr 2
 unfold BF;apply List.filter_congr;intro t _;cases t.Idle<;>cases decide (t.Cpu=cpu)<;>rfl
theorem Ks{xs:List Task}(h:xs.length≤lim):CE xs=some (xs,()):=by unfold CE;rw[decide_eq_true h];rfl
theorem RB{xs:List Ghost}(h:xs.length≤lim):Jm xs=some (xs,()):=by unfold Jm;rw[decide_eq_true h];rfl
theorem Kq{xs:List Int}(h:xs.length≤lim):GL xs=some (xs,()):=by unfold GL;rw[decide_eq_true h];rfl
theorem RC{xs:List Turn}(h:xs.length≤lim):Jn xs=some (xs,()):=by unfold Jn;rw[decide_eq_true h];rfl
theorem O8{s:Sys}{cpu:Int}{n:Nat}(hn:s.Tasks.length<n)(hb:s.Tasks.length≤lim):HK n s cpu=some (BF s.Tasks cpu,()):=by
 simp only[HK,Ks hb,Option.bind_some,nv hn hb]
theorem QG{s:Sys}{cpu:Int}{n:Nat}(hn:s.Tasks.length<n)(hb:s.Tasks.length≤lim):HV n s cpu=some (BF s.Tasks cpu,()):=by
 unfold HV;refine AU (l:=fun m i=>Fl n m cpu s (BF (s.Tasks.take i) cpu) (i:Int) (fun w7=>some (w7,()))) (len:=s.Tasks.length) (fun _=>True) trivial (fun m _=> ?_) (fun m i hi _=>.inl ⟨?_,trivial⟩) hn
 ·simp only[Fl,AP,cond_false,List.take_length]
 · have ef:BF (s.Tasks.take (i+1)) cpu=BF (s.Tasks.take i) cpu++cond (decide (s.Tasks[i].Cpu=cpu)&& !s.Tasks[i].Idle) [s.Tasks[i]] []:=Ds _ hi
   have hlen:(BF (s.Tasks.take i) cpu).length≤i:=Nat.le_trans (List.length_filter_le _ _) (List.length_take_le _ _);rw[ef];simp only[Fl,AD hi,AF,Bool.and_self,cond_true,AE hi,AG (Nat.lt_trans hi (AQ hb)),BV (show(BF (s.Tasks.take i) cpu).length<s.Tasks.length by omega) hb]
   cases decide (s.Tasks[i].Cpu=cpu)<;>cases s.Tasks[i].Idle<;>simp
theorem RT{t:Task}(h:BN t=true):0≤t.V∧t.V≤100000000:=by
 rw[FR]at h;exact(h.1.fair h.2).v
theorem Oq{xs:List Task}{i:Nat}(hi:i<xs.length):BW (xs.take (i+1))=DR (BW (xs.take i)) xs[i]:=by
 unfold BW;rw[List.take_succ_eq_append_getElem hi,List.foldl_append];rfl
theorem Jz(xs:List Task): ∀a b,BW xs=some (a,b)→0≤a∧a≤b∧b≤100000000:=by
 have: ∀(xs:List Task) (o:Option (Int×Int)),(∀a b,o=some (a,b)→0≤a∧a≤b∧b≤100000000)→ ∀a b,xs.foldl DR o=some (a,b)→0≤a∧a≤b∧b≤100000000:=by
  intro xs
  induction xs with
  |nil=>intro o ho a b h;exact ho a b h
  |cons t xs ih=>
   intro o ho a b h;refine ih (DR o t) (fun a b e=> ?_) a b h
   unfold DR at e;split at e
   · rename_i hf
     have hv:=RT hf;split at e
     ·injection e with e;injection e with e1 e2;omega
     · rename_i a0 b0
       have:=ho a0 b0 rfl;injection e with e;injection e with e1 e2
       omega
   ·exact ho a b e
 exact this xs none (fun a b h=>by cases h)
def EO:Option (Int×Int)→Int×Int×Bool
 |none=>(0,0,false)
 |some (a,b)=>(a,b,true)
theorem ZT(a b:Int)[d:Decidable (b<a)]:(@ite Int (b<a) d b a)=min a b:=by split<;>omega
theorem Sn(a b:Int)[d:Decidable (b>a)]:(@ite Int (b>a) d b a)=max a b:=by split<;>omega
theorem SC{xs:List Task}{n:Nat}(hn:xs.length<n)(hb:xs.length≤lim):JT n xs=some (((EO (BW xs)).1,(EO (BW xs)).2.1,(EO (BW xs)).2.2,()),()):=by
 unfold JT;refine AU (l:=fun m i=>D2 n m (EO (BW (xs.take i))).1 (EO (BW (xs.take i))).2.1 (EO (BW (xs.take i))).2.2 xs (xs.length:Int) (i:Int) (fun w12 w13 w14=>some ((w12,w13,w14,()),()))) (len:=xs.length) (fun _=>True) trivial (fun m _=> ?_) (fun m i hi _=>.inl ⟨?_,trivial⟩) hn
 ·simp only[D2,AP,cond_false,List.take_length]
 · rw[Oq hi]
   simp only[D2,AD hi,AF,Bool.and_self,cond_true,AE hi,Mq,Option.bind_some,AG (Nat.lt_trans hi (AQ hb)),DR];cases hf:BN xs[i]with
   |false=>simp[EO]
   |true=>
    cases BW (xs.take i)with
    |none=>simp[EO]
    |some p=>
     obtain⟨a,b⟩:=p
     change D2 n m (if xs[i].V<a then xs[i].V else a) (if xs[i].V>b then xs[i].V else b) true xs (xs.length:Int) ((i+1:Nat):Int) _=D2 n m (min a xs[i].V) (max b xs[i].V) true xs (xs.length:Int) ((i+1:Nat):Int) _
     rw[ZT,Sn]
theorem R4{xs:List Task}{f:Int}{n:Nat}(hn:xs.length<n)(hb:xs.length≤lim):JE n xs f=some (Cm xs f,()):=by
 simp only[JE,SC hn hb,Option.bind_some,Cm];cases BW xs with
 |none=>rfl
 |some p=>
  change(some ((if p.1>f then p.1 else f),()):Option (Int×Unit))=some (max f p.1,())
  rw[Sn]
theorem YB{xs:List Task}{n:Nat}(hn:xs.length<n)(hb:xs.length≤lim):K6 n xs=some (J1 xs,()):=by
 simp only[K6,SC hn hb,Option.bind_some,J1];cases h:BW xs with
 |none=>rfl
 |some p=>
  have:=Jz xs p.1 p.2 h;simp only[EO];rw[AO (by omega) (by omega)]
def C3:Option (Int×Int)→Int
 |none=> -1
 |some (a,_)=>a
def OD:Option (Int×Int)→Int
 |none=> -1
 |some (_,b)=>b
theorem U7{xs:List Task}{f:Int}{n:Nat}(hn:xs.length<n)(hb:xs.length≤lim):Jr n xs f=some (Cm xs f,()):=by
 unfold Jr;refine AU (l:=fun m i=>Eh n m xs f (C3 (BW (xs.take i))) (i:Int) (fun w7=>cond (decide (w7<0)) (some (f,())) ((Dr f w7).bind fun r8=>some (r8.1,())))) (len:=xs.length) (fun _=>True) trivial (fun m _=> ?_) (fun m i hi _=>.inl ⟨?_,trivial⟩) hn
 · simp only[Eh,AP,cond_false,List.take_length,NY,Option.bind_some,Cm]
   cases h:BW xs with
   |none=>rfl
   |some p=>
    have:=Jz xs p.1 p.2 h;rw[decide_eq_false (show¬C3 (some p)<0 from(by omega: ¬p.1<0))];rfl
 · rw[Oq hi]
   simp only[Eh,AD hi,AF,Bool.and_self,cond_true,AE hi,KY,Option.bind_some,AG (Nat.lt_trans hi (AQ hb)),DR];cases hf:BN xs[i]with
   |false=>simp
   |true=>
    cases h:BW (xs.take i)with
    |none=>simp[C3]
    |some p=>
     have:=Jz _ p.1 p.2 h;simp only[if_true,cond_true];rw[decide_eq_false (show¬C3 (some p)<0 from(by omega: ¬p.1<0))]
     simp only[cond_false]
     by_cases h2:xs[i].V<p.1
     ·rw[decide_eq_true (show xs[i].V<C3 (some p)from h2),show min p.1 xs[i].V=xs[i].V by omega];rfl
     ·rw[decide_eq_false (show¬xs[i].V<C3 (some p)from h2),show min p.1 xs[i].V=p.1 by omega];rfl
theorem mp{xs:List Task}{n:Nat}(hn:xs.length<n)(hb:xs.length≤lim):MF n xs=some (J1 xs,()):=by
 unfold MF;refine AU (l:=fun m i=>Ei n m xs (C3 (BW (xs.take i))) (OD (BW (xs.take i))) (i:Int) (fun w10 w11=>some ((w64 (w11-w10)),()))) (len:=xs.length) (fun _=>True) trivial (fun m _=> ?_) (fun m i hi _=>.inl ⟨?_,trivial⟩) hn
 · simp only[Ei,AP,cond_false,List.take_length,J1]
   cases h:BW xs with
   |none=>rfl
   |some p=>
    have:=Jz xs p.1 p.2 h;simp only[C3,OD];rw[AO (by omega) (by omega)]
 · rw[Oq hi]
   simp only[Ei,AD hi,AF,Bool.and_self,cond_true,AE hi,KY,NY,Option.bind_some,AG (Nat.lt_trans hi (AQ hb)),DR];cases hf:BN xs[i]with
   |false=>simp
   |true=>
    have hv:=RT hf;cases h:BW (xs.take i)with
    |none=>simp[C3,OD,show max (-1) xs[i].V=xs[i].V by omega]
    |some p=>
     have:=Jz _ p.1 p.2 h;simp only[if_true,cond_true,Bool.not_true,cond_false];rw[decide_eq_false (show¬C3 (some p)<0 from(by omega: ¬p.1<0))]
     simp only[cond_false]
     by_cases h2:xs[i].V<p.1
     ·rw[decide_eq_true (show xs[i].V<C3 (some p)from h2),show min p.1 xs[i].V=xs[i].V by omega];rfl
     ·rw[decide_eq_false (show¬xs[i].V<C3 (some p)from h2),show min p.1 xs[i].V=p.1 by omega];rfl
end Go.Proofs.YtbbgaleennfklaaGreat.VR
end
section
set_option linter.unusedVariables false
set_option maxRecDepth 100000
namespace Go.Proofs.YtbbgaleennfklaaGreat.VR
open Go
def Fc{α:Type}(n:Nat):Nat→List Task→Int→Int→(Int→List Task→Option α)→Option α|0,_,_,_,_=>none|m0+1,v1,v2,v3,k0_0=>cond (decide (v3<(v1.length:Int))) (cond (decide (0≤v3)&&decide (v3<(v1.length:Int))) (cond (decide ((Int.toNat v3)<(v1).length)) (let e4:=(List.set v1 (Int.toNat v3) (⟨v2,(List.getD v1 (Int.toNat v3) (Kd.dflt .task)).Class,(List.getD v1 (Int.toNat v3) (Kd.dflt .task)).Cpu,(List.getD v1 (Int.toNat v3) (Kd.dflt .task)).State,(List.getD v1 (Int.toNat v3) (Kd.dflt .task)).Idle,(List.getD v1 (Int.toNat v3) (Kd.dflt .task)).Q,(List.getD v1 (Int.toNat v3) (Kd.dflt .task)).P,(List.getD v1 (Int.toNat v3) (Kd.dflt .task)).Left,(List.getD v1 (Int.toNat v3) (Kd.dflt .task)).Due,(List.getD v1 (Int.toNat v3) (Kd.dflt .task)).Prio,(List.getD v1 (Int.toNat v3) (Kd.dflt .task)).Round,(List.getD v1 (Int.toNat v3) (Kd.dflt .task)).Seq,(List.getD v1 (Int.toNat v3) (Kd.dflt .task)).Nice,(List.getD v1 (Int.toNat v3) (Kd.dflt .task)).V⟩:Task));cond (decide (0≤v3)&&decide (v3<(e4.length:Int))) (cond (decide ((Int.toNat v3)<(e4).length)) (let e5:=(List.set e4 (Int.toNat v3) (⟨(List.getD e4 (Int.toNat v3) (Kd.dflt .task)).No,(w64 (v2+1)),(List.getD e4 (Int.toNat v3) (Kd.dflt .task)).Cpu,(List.getD e4 (Int.toNat v3) (Kd.dflt .task)).State,(List.getD e4 (Int.toNat v3) (Kd.dflt .task)).Idle,(List.getD e4 (Int.toNat v3) (Kd.dflt .task)).Q,(List.getD e4 (Int.toNat v3) (Kd.dflt .task)).P,(List.getD e4 (Int.toNat v3) (Kd.dflt .task)).Left,(List.getD e4 (Int.toNat v3) (Kd.dflt .task)).Due,(List.getD e4 (Int.toNat v3) (Kd.dflt .task)).Prio,(List.getD e4 (Int.toNat v3) (Kd.dflt .task)).Round,(List.getD e4 (Int.toNat v3) (Kd.dflt .task)).Seq,(List.getD e4 (Int.toNat v3) (Kd.dflt .task)).Nice,(List.getD e4 (Int.toNat v3) (Kd.dflt .task)).V⟩:Task));cond (decide (0≤v3)&&decide (v3<(e5.length:Int))) (cond (decide ((Int.toNat v3)<(e5).length)) (let e6:=(List.set e5 (Int.toNat v3) (⟨(List.getD e5 (Int.toNat v3) (Kd.dflt .task)).No,(List.getD e5 (Int.toNat v3) (Kd.dflt .task)).Class,(w64 ((w64 (v2+1))+1)),(List.getD e5 (Int.toNat v3) (Kd.dflt .task)).State,(List.getD e5 (Int.toNat v3) (Kd.dflt .task)).Idle,(List.getD e5 (Int.toNat v3) (Kd.dflt .task)).Q,(List.getD e5 (Int.toNat v3) (Kd.dflt .task)).P,(List.getD e5 (Int.toNat v3) (Kd.dflt .task)).Left,(List.getD e5 (Int.toNat v3) (Kd.dflt .task)).Due,(List.getD e5 (Int.toNat v3) (Kd.dflt .task)).Prio,(List.getD e5 (Int.toNat v3) (Kd.dflt .task)).Round,(List.getD e5 (Int.toNat v3) (Kd.dflt .task)).Seq,(List.getD e5 (Int.toNat v3) (Kd.dflt .task)).Nice,(List.getD e5 (Int.toNat v3) (Kd.dflt .task)).V⟩:Task));cond (decide (0≤v3)&&decide (v3<(e6.length:Int))) (cond (decide ((Int.toNat v3)<(e6).length)) (let e7:=(List.set e6 (Int.toNat v3) (⟨(List.getD e6 (Int.toNat v3) (Kd.dflt .task)).No,(List.getD e6 (Int.toNat v3) (Kd.dflt .task)).Class,(List.getD e6 (Int.toNat v3) (Kd.dflt .task)).Cpu,(w64 ((w64 ((w64 (v2+1))+1))+1)),(List.getD e6 (Int.toNat v3) (Kd.dflt .task)).Idle,(List.getD e6 (Int.toNat v3) (Kd.dflt .task)).Q,(List.getD e6 (Int.toNat v3) (Kd.dflt .task)).P,(List.getD e6 (Int.toNat v3) (Kd.dflt .task)).Left,(List.getD e6 (Int.toNat v3) (Kd.dflt .task)).Due,(List.getD e6 (Int.toNat v3) (Kd.dflt .task)).Prio,(List.getD e6 (Int.toNat v3) (Kd.dflt .task)).Round,(List.getD e6 (Int.toNat v3) (Kd.dflt .task)).Seq,(List.getD e6 (Int.toNat v3) (Kd.dflt .task)).Nice,(List.getD e6 (Int.toNat v3) (Kd.dflt .task)).V⟩:Task));let e8:=(Int.tmod (w64 ((w64 ((w64 ((w64 (v2+1))+1))+1))+1)) 3);cond (decide (0≤v3)&&decide (v3<(e7.length:Int))) (cond (decide ((Int.toNat v3)<(e7).length)) (let e9:=(List.set e7 (Int.toNat v3) (⟨(List.getD e7 (Int.toNat v3) (Kd.dflt .task)).No,(List.getD e7 (Int.toNat v3) (Kd.dflt .task)).Class,(List.getD e7 (Int.toNat v3) (Kd.dflt .task)).Cpu,(List.getD e7 (Int.toNat v3) (Kd.dflt .task)).State,(decide (e8=0)),(List.getD e7 (Int.toNat v3) (Kd.dflt .task)).Q,(List.getD e7 (Int.toNat v3) (Kd.dflt .task)).P,(List.getD e7 (Int.toNat v3) (Kd.dflt .task)).Left,(List.getD e7 (Int.toNat v3) (Kd.dflt .task)).Due,(List.getD e7 (Int.toNat v3) (Kd.dflt .task)).Prio,(List.getD e7 (Int.toNat v3) (Kd.dflt .task)).Round,(List.getD e7 (Int.toNat v3) (Kd.dflt .task)).Seq,(List.getD e7 (Int.toNat v3) (Kd.dflt .task)).Nice,(List.getD e7 (Int.toNat v3) (Kd.dflt .task)).V⟩:Task));let e10:=(w64 ((w64 ((w64 ((w64 ((w64 (v2+1))+1))+1))+1))+1));cond (decide (0≤v3)&&decide (v3<(e9.length:Int))) (cond (decide ((Int.toNat v3)<(e9).length)) (let e11:=(List.set e9 (Int.toNat v3) (⟨(List.getD e9 (Int.toNat v3) (Kd.dflt .task)).No,(List.getD e9 (Int.toNat v3) (Kd.dflt .task)).Class,(List.getD e9 (Int.toNat v3) (Kd.dflt .task)).Cpu,(List.getD e9 (Int.toNat v3) (Kd.dflt .task)).State,(List.getD e9 (Int.toNat v3) (Kd.dflt .task)).Idle,e10,(List.getD e9 (Int.toNat v3) (Kd.dflt .task)).P,(List.getD e9 (Int.toNat v3) (Kd.dflt .task)).Left,(List.getD e9 (Int.toNat v3) (Kd.dflt .task)).Due,(List.getD e9 (Int.toNat v3) (Kd.dflt .task)).Prio,(List.getD e9 (Int.toNat v3) (Kd.dflt .task)).Round,(List.getD e9 (Int.toNat v3) (Kd.dflt .task)).Seq,(List.getD e9 (Int.toNat v3) (Kd.dflt .task)).Nice,(List.getD e9 (Int.toNat v3) (Kd.dflt .task)).V⟩:Task));cond (decide (0≤v3)&&decide (v3<(e11.length:Int))) (cond (decide ((Int.toNat v3)<(e11).length)) (let e12:=(List.set e11 (Int.toNat v3) (⟨(List.getD e11 (Int.toNat v3) (Kd.dflt .task)).No,(List.getD e11 (Int.toNat v3) (Kd.dflt .task)).Class,(List.getD e11 (Int.toNat v3) (Kd.dflt .task)).Cpu,(List.getD e11 (Int.toNat v3) (Kd.dflt .task)).State,(List.getD e11 (Int.toNat v3) (Kd.dflt .task)).Idle,(List.getD e11 (Int.toNat v3) (Kd.dflt .task)).Q,(w64 (e10+1)),(List.getD e11 (Int.toNat v3) (Kd.dflt .task)).Left,(List.getD e11 (Int.toNat v3) (Kd.dflt .task)).Due,(List.getD e11 (Int.toNat v3) (Kd.dflt .task)).Prio,(List.getD e11 (Int.toNat v3) (Kd.dflt .task)).Round,(List.getD e11 (Int.toNat v3) (Kd.dflt .task)).Seq,(List.getD e11 (Int.toNat v3) (Kd.dflt .task)).Nice,(List.getD e11 (Int.toNat v3) (Kd.dflt .task)).V⟩:Task));cond (decide (0≤v3)&&decide (v3<(e12.length:Int))) (cond (decide ((Int.toNat v3)<(e12).length)) (let e13:=(List.set e12 (Int.toNat v3) (⟨(List.getD e12 (Int.toNat v3) (Kd.dflt .task)).No,(List.getD e12 (Int.toNat v3) (Kd.dflt .task)).Class,(List.getD e12 (Int.toNat v3) (Kd.dflt .task)).Cpu,(List.getD e12 (Int.toNat v3) (Kd.dflt .task)).State,(List.getD e12 (Int.toNat v3) (Kd.dflt .task)).Idle,(List.getD e12 (Int.toNat v3) (Kd.dflt .task)).Q,(List.getD e12 (Int.toNat v3) (Kd.dflt .task)).P,(w64 ((w64 (e10+1))+1)),(List.getD e12 (Int.toNat v3) (Kd.dflt .task)).Due,(List.getD e12 (Int.toNat v3) (Kd.dflt .task)).Prio,(List.getD e12 (Int.toNat v3) (Kd.dflt .task)).Round,(List.getD e12 (Int.toNat v3) (Kd.dflt .task)).Seq,(List.getD e12 (Int.toNat v3) (Kd.dflt .task)).Nice,(List.getD e12 (Int.toNat v3) (Kd.dflt .task)).V⟩:Task));cond (decide (0≤v3)&&decide (v3<(e13.length:Int))) (cond (decide ((Int.toNat v3)<(e13).length)) (let e14:=(List.set e13 (Int.toNat v3) (⟨(List.getD e13 (Int.toNat v3) (Kd.dflt .task)).No,(List.getD e13 (Int.toNat v3) (Kd.dflt .task)).Class,(List.getD e13 (Int.toNat v3) (Kd.dflt .task)).Cpu,(List.getD e13 (Int.toNat v3) (Kd.dflt .task)).State,(List.getD e13 (Int.toNat v3) (Kd.dflt .task)).Idle,(List.getD e13 (Int.toNat v3) (Kd.dflt .task)).Q,(List.getD e13 (Int.toNat v3) (Kd.dflt .task)).P,(List.getD e13 (Int.toNat v3) (Kd.dflt .task)).Left,(w64 ((w64 ((w64 (e10+1))+1))+1)),(List.getD e13 (Int.toNat v3) (Kd.dflt .task)).Prio,(List.getD e13 (Int.toNat v3) (Kd.dflt .task)).Round,(List.getD e13 (Int.toNat v3) (Kd.dflt .task)).Seq,(List.getD e13 (Int.toNat v3) (Kd.dflt .task)).Nice,(List.getD e13 (Int.toNat v3) (Kd.dflt .task)).V⟩:Task));cond (decide (0≤v3)&&decide (v3<(e14.length:Int))) (cond (decide ((Int.toNat v3)<(e14).length)) (let e15:=(List.set e14 (Int.toNat v3) (⟨(List.getD e14 (Int.toNat v3) (Kd.dflt .task)).No,(List.getD e14 (Int.toNat v3) (Kd.dflt .task)).Class,(List.getD e14 (Int.toNat v3) (Kd.dflt .task)).Cpu,(List.getD e14 (Int.toNat v3) (Kd.dflt .task)).State,(List.getD e14 (Int.toNat v3) (Kd.dflt .task)).Idle,(List.getD e14 (Int.toNat v3) (Kd.dflt .task)).Q,(List.getD e14 (Int.toNat v3) (Kd.dflt .task)).P,(List.getD e14 (Int.toNat v3) (Kd.dflt .task)).Left,(List.getD e14 (Int.toNat v3) (Kd.dflt .task)).Due,(w64 ((w64 ((w64 ((w64 (e10+1))+1))+1))+1)),(List.getD e14 (Int.toNat v3) (Kd.dflt .task)).Round,(List.getD e14 (Int.toNat v3) (Kd.dflt .task)).Seq,(List.getD e14 (Int.toNat v3) (Kd.dflt .task)).Nice,(List.getD e14 (Int.toNat v3) (Kd.dflt .task)).V⟩:Task));let e16:=(w64 ((w64 ((w64 ((w64 ((w64 (e10+1))+1))+1))+1))+1));cond (decide (0≤v3)&&decide (v3<(e15.length:Int))) (cond (decide ((Int.toNat v3)<(e15).length)) (let e17:=(List.set e15 (Int.toNat v3) (⟨(List.getD e15 (Int.toNat v3) (Kd.dflt .task)).No,(List.getD e15 (Int.toNat v3) (Kd.dflt .task)).Class,(List.getD e15 (Int.toNat v3) (Kd.dflt .task)).Cpu,(List.getD e15 (Int.toNat v3) (Kd.dflt .task)).State,(List.getD e15 (Int.toNat v3) (Kd.dflt .task)).Idle,(List.getD e15 (Int.toNat v3) (Kd.dflt .task)).Q,(List.getD e15 (Int.toNat v3) (Kd.dflt .task)).P,(List.getD e15 (Int.toNat v3) (Kd.dflt .task)).Left,(List.getD e15 (Int.toNat v3) (Kd.dflt .task)).Due,(List.getD e15 (Int.toNat v3) (Kd.dflt .task)).Prio,e16,(List.getD e15 (Int.toNat v3) (Kd.dflt .task)).Seq,(List.getD e15 (Int.toNat v3) (Kd.dflt .task)).Nice,(List.getD e15 (Int.toNat v3) (Kd.dflt .task)).V⟩:Task));cond (decide (0≤v3)&&decide (v3<(e17.length:Int))) (cond (decide ((Int.toNat v3)<(e17).length)) (let e18:=(List.set e17 (Int.toNat v3) (⟨(List.getD e17 (Int.toNat v3) (Kd.dflt .task)).No,(List.getD e17 (Int.toNat v3) (Kd.dflt .task)).Class,(List.getD e17 (Int.toNat v3) (Kd.dflt .task)).Cpu,(List.getD e17 (Int.toNat v3) (Kd.dflt .task)).State,(List.getD e17 (Int.toNat v3) (Kd.dflt .task)).Idle,(List.getD e17 (Int.toNat v3) (Kd.dflt .task)).Q,(List.getD e17 (Int.toNat v3) (Kd.dflt .task)).P,(List.getD e17 (Int.toNat v3) (Kd.dflt .task)).Left,(List.getD e17 (Int.toNat v3) (Kd.dflt .task)).Due,(List.getD e17 (Int.toNat v3) (Kd.dflt .task)).Prio,(List.getD e17 (Int.toNat v3) (Kd.dflt .task)).Round,(w64 (e16+1)),(List.getD e17 (Int.toNat v3) (Kd.dflt .task)).Nice,(List.getD e17 (Int.toNat v3) (Kd.dflt .task)).V⟩:Task));cond (decide (0≤v3)&&decide (v3<(e18.length:Int))) (cond (decide ((Int.toNat v3)<(e18).length)) (let e19:=(List.set e18 (Int.toNat v3) (⟨(List.getD e18 (Int.toNat v3) (Kd.dflt .task)).No,(List.getD e18 (Int.toNat v3) (Kd.dflt .task)).Class,(List.getD e18 (Int.toNat v3) (Kd.dflt .task)).Cpu,(List.getD e18 (Int.toNat v3) (Kd.dflt .task)).State,(List.getD e18 (Int.toNat v3) (Kd.dflt .task)).Idle,(List.getD e18 (Int.toNat v3) (Kd.dflt .task)).Q,(List.getD e18 (Int.toNat v3) (Kd.dflt .task)).P,(List.getD e18 (Int.toNat v3) (Kd.dflt .task)).Left,(List.getD e18 (Int.toNat v3) (Kd.dflt .task)).Due,(List.getD e18 (Int.toNat v3) (Kd.dflt .task)).Prio,(List.getD e18 (Int.toNat v3) (Kd.dflt .task)).Round,(List.getD e18 (Int.toNat v3) (Kd.dflt .task)).Seq,(w64 ((w64 (e16+1))+1)),(List.getD e18 (Int.toNat v3) (Kd.dflt .task)).V⟩:Task));cond (decide (0≤v3)&&decide (v3<(e19.length:Int))) (cond (decide ((Int.toNat v3)<(e19).length)) (let e20:=(List.set e19 (Int.toNat v3) (⟨(List.getD e19 (Int.toNat v3) (Kd.dflt .task)).No,(List.getD e19 (Int.toNat v3) (Kd.dflt .task)).Class,(List.getD e19 (Int.toNat v3) (Kd.dflt .task)).Cpu,(List.getD e19 (Int.toNat v3) (Kd.dflt .task)).State,(List.getD e19 (Int.toNat v3) (Kd.dflt .task)).Idle,(List.getD e19 (Int.toNat v3) (Kd.dflt .task)).Q,(List.getD e19 (Int.toNat v3) (Kd.dflt .task)).P,(List.getD e19 (Int.toNat v3) (Kd.dflt .task)).Left,(List.getD e19 (Int.toNat v3) (Kd.dflt .task)).Due,(List.getD e19 (Int.toNat v3) (Kd.dflt .task)).Prio,(List.getD e19 (Int.toNat v3) (Kd.dflt .task)).Round,(List.getD e19 (Int.toNat v3) (Kd.dflt .task)).Seq,(List.getD e19 (Int.toNat v3) (Kd.dflt .task)).Nice,(w64 ((w64 ((w64 (e16+1))+1))+1))⟩:Task));Fc n m0 e20 (w64 ((w64 ((w64 ((w64 (e16+1))+1))+1))+1)) (w64 (v3+1)) k0_0) none) none) none) none) none) none) none) none) none) none) none) none) none) none) none) none) none) none) none) none) none) none) none) none) none) none) none) none) (k0_0 v2 v1)
def Lp(n:Nat)(a0:List Task)(a1:Int):Option (Int×List Task×Unit):=Fc n n a0 a1 0 (fun w21 w22=>some (w21,w22,()))
def eE(n:Nat):Rw:=⟨59,pA [.own .task,.v .int],(pS [.int,.own .task]),fun x=>Lp n x.1 x.2.1⟩
def lM(n:Nat):LS:=AI ⟨2,[0,1,5],[],[],[1],[0]⟩ 113 [0,1,5] 1 (pD [.bor 0,.int,.int]) [.root .task] (fun m x k=>Fc n m x.2.1 x.1.2.1 x.1.2.2.1 (fun w0 w1=>k (.exit 0) (eS 113 [1] [.int w0] 1 [.root .task w1 .ok])))
theorem eF(n:Nat):RO (eE n):=
 rL ⟨Go.Proofs.Tryz.f59,⟨[],[],[]⟩,1⟩ [lM n] n en Go.Proofs.Tryz.func59 (by kernel_rfl) ⟨AJ (fun m x k=>by kernel_rfl) (fun _ _=>rfl),trivial⟩ (fun x=>by kernel_rfl)
def Fb{α:Type}(n:Nat):Nat→List Int→Int→Int→(Int→List Int→Option α)→Option α|0,_,_,_,_=>none|m0+1,v1,v2,v3,k0_0=>cond (decide (v3<(v1.length:Int))) (cond (decide (0≤v3)&&decide (v3<(v1.length:Int))) (cond (decide ((Int.toNat v3)<(v1).length)) (Fb n m0 (List.set v1 (Int.toNat v3) v2) (w64 (v2+1)) (w64 (v3+1)) k0_0) none) none) (k0_0 v2 v1)
def GI(n:Nat)(a0:List Int)(a1:Int):Option (Int×List Int×Unit):=Fb n n a0 a1 0 (fun w4 w5=>some (w4,w5,()))
def d9(n:Nat):Rw:=⟨26,pA [.own .int,.v .int],q5,fun x=>GI n x.1 x.2.1⟩
def lK(n:Nat):LS:=AI ⟨2,[0,1,5],[],[],[1],[0]⟩ 19 [0,1,5] 1 (pD [.bor 0,.int,.int]) [.root .int] (fun m x k=>Fb n m x.2.1 x.1.2.1 x.1.2.2.1 (fun w0 w1=>k (.exit 0) (eS 19 [1] [.int w0] 1 [.root .int w1 .ok])))
theorem Py(n:Nat):RO (d9 n):=
 rL ⟨Go.Proofs.Tryz.f26,⟨[],[],[]⟩,1⟩ [lK n] n en Go.Proofs.Tryz.func26 (by kernel_rfl) ⟨AJ (fun m x k=>by kernel_rfl) (fun _ _=>rfl),trivial⟩ (fun x=>by kernel_rfl)
def Hw{α:Type}(n:Nat):Nat→List Lock→Int→Int→(Int→List Lock→Option α)→Option α|0,_,_,_,_=>none|m0+1,v1,v2,v3,k0_0=>cond (decide (v3<(v1.length:Int))) (cond (decide (0≤v3)&&decide (v3<(v1.length:Int))) (cond (decide ((Int.toNat v3)<(v1).length)) (let e4:=(List.set v1 (Int.toNat v3) (⟨v2,(List.getD v1 (Int.toNat v3) (Kd.dflt .lock)).Waits⟩:Lock));cond (decide (0≤v3)&&decide (v3<(e4.length:Int))) (cond ((decide ((Int.toNat v3)<(e4).length))&&true) ((GI n ((List.getD e4 (Int.toNat v3) (Kd.dflt .lock)).Waits) (w64 (v2+1))).bind fun r5=>let e6:=(List.set e4 (Int.toNat v3) (⟨(List.getD e4 (Int.toNat v3) (Kd.dflt .lock)).Owner,r5.2.1⟩:Lock));Hw n m0 e6 r5.1 (w64 (v3+1)) k0_0) none) none) none) none) (k0_0 v2 v1)
def Jf(n:Nat)(a0:List Lock)(a1:Int):Option (Int×List Lock×Unit):=Hw n n a0 a1 0 (fun w7 w8=>some (w7,w8,()))
def eB(n:Nat):Rw:=⟨60,pA [.own .lock,.v .int],(pS [.int,.own .lock]),fun x=>Jf n x.1 x.2.1⟩
def lL(n:Nat):LS:=AI ⟨2,[0,1,5],[],[],[1],[0]⟩ 27 [0,1,5] 1 (pD [.bor 0,.int,.int]) [.root .lock] (fun m x k=>Hw n m x.2.1 x.1.2.1 x.1.2.2.1 (fun w0 w1=>k (.exit 0) (eS 27 [1] [.int w0] 1 [.root .lock w1 .ok])))
theorem eC(n:Nat):RO (eB n):=
 rL ⟨Go.Proofs.Tryz.f60,⟨[(6,[(6,.nst)])],[],[]⟩,1⟩ [lL n] n (ec (Py n) en) Go.Proofs.Tryz.func60 (by kernel_rfl) ⟨AJ (fun m x k=>by kernel_rfl) (fun _ _=>rfl),trivial⟩ (fun x=>by kernel_rfl)
def Fa{α:Type}(n:Nat):Nat→List Ghost→Int→Int→(Int→List Ghost→Option α)→Option α|0,_,_,_,_=>none|m0+1,v1,v2,v3,k0_0=>cond (decide (v3<(v1.length:Int))) (cond (decide (0≤v3)&&decide (v3<(v1.length:Int))) (cond (decide ((Int.toNat v3)<(v1).length)) (let e4:=(List.set v1 (Int.toNat v3) (⟨v2,⟨(List.getD v1 (Int.toNat v3) (Kd.dflt .ghost)).S.Q,(List.getD v1 (Int.toNat v3) (Kd.dflt .ghost)).S.P⟩,(List.getD v1 (Int.toNat v3) (Kd.dflt .ghost)).Until⟩:Ghost));cond (decide (0≤v3)&&decide (v3<(e4.length:Int))) (cond (decide ((Int.toNat v3)<(e4).length)) (let e5:=(List.set e4 (Int.toNat v3) (⟨(List.getD e4 (Int.toNat v3) (Kd.dflt .ghost)).Cpu,⟨(w64 (v2+1)),(List.getD e4 (Int.toNat v3) (Kd.dflt .ghost)).S.P⟩,(List.getD e4 (Int.toNat v3) (Kd.dflt .ghost)).Until⟩:Ghost));cond (decide (0≤v3)&&decide (v3<(e5.length:Int))) (cond (decide ((Int.toNat v3)<(e5).length)) (let e6:=(List.set e5 (Int.toNat v3) (⟨(List.getD e5 (Int.toNat v3) (Kd.dflt .ghost)).Cpu,⟨(List.getD e5 (Int.toNat v3) (Kd.dflt .ghost)).S.Q,(w64 ((w64 (v2+1))+1))⟩,(List.getD e5 (Int.toNat v3) (Kd.dflt .ghost)).Until⟩:Ghost));cond (decide (0≤v3)&&decide (v3<(e6.length:Int))) (cond (decide ((Int.toNat v3)<(e6).length)) (let e7:=(List.set e6 (Int.toNat v3) (⟨(List.getD e6 (Int.toNat v3) (Kd.dflt .ghost)).Cpu,⟨(List.getD e6 (Int.toNat v3) (Kd.dflt .ghost)).S.Q,(List.getD e6 (Int.toNat v3) (Kd.dflt .ghost)).S.P⟩,(w64 ((w64 ((w64 (v2+1))+1))+1))⟩:Ghost));Fa n m0 e7 (w64 ((w64 ((w64 ((w64 (v2+1))+1))+1))+1)) (w64 (v3+1)) k0_0) none) none) none) none) none) none) none) none) (k0_0 v2 v1)
def Je(n:Nat)(a0:List Ghost)(a1:Int):Option (Int×List Ghost×Unit):=Fa n n a0 a1 0 (fun w8 w9=>some (w8,w9,()))
def d7(n:Nat):Rw:=⟨61,pA [.own .ghost,.v .int],(pS [.int,.own .ghost]),fun x=>Je n x.1 x.2.1⟩
def lJ(n:Nat):LS:=AI ⟨2,[0,1,5],[],[],[1],[0]⟩ 43 [0,1,5] 1 (pD [.bor 0,.int,.int]) [.root .ghost] (fun m x k=>Fa n m x.2.1 x.1.2.1 x.1.2.2.1 (fun w0 w1=>k (.exit 0) (eS 43 [1] [.int w0] 1 [.root .ghost w1 .ok])))
theorem d8(n:Nat):RO (d7 n):=
 rL ⟨Go.Proofs.Tryz.f61,⟨[],[],[]⟩,1⟩ [lJ n] n en Go.Proofs.Tryz.func61 (by kernel_rfl) ⟨AJ (fun m x k=>by kernel_rfl) (fun _ _=>rfl),trivial⟩ (fun x=>by kernel_rfl)
def Fe{α:Type}(n:Nat):Nat→List Turn→Int→Int→(Int→List Turn→Option α)→Option α|0,_,_,_,_=>none|m0+1,v1,v2,v3,k0_0=>cond (decide (v3<(v1.length:Int))) (cond (decide (0≤v3)&&decide (v3<(v1.length:Int))) (cond (decide ((Int.toNat v3)<(v1).length)) (let e4:=(List.set v1 (Int.toNat v3) (⟨v2,(List.getD v1 (Int.toNat v3) (Kd.dflt .turn)).Context,(List.getD v1 (Int.toNat v3) (Kd.dflt .turn)).Executor⟩:Turn));cond (decide (0≤v3)&&decide (v3<(e4.length:Int))) (cond (decide ((Int.toNat v3)<(e4).length)) (let e5:=(List.set e4 (Int.toNat v3) (⟨(List.getD e4 (Int.toNat v3) (Kd.dflt .turn)).Cpu,(w64 (v2+1)),(List.getD e4 (Int.toNat v3) (Kd.dflt .turn)).Executor⟩:Turn));cond (decide (0≤v3)&&decide (v3<(e5.length:Int))) (cond (decide ((Int.toNat v3)<(e5).length)) (let e6:=(List.set e5 (Int.toNat v3) (⟨(List.getD e5 (Int.toNat v3) (Kd.dflt .turn)).Cpu,(List.getD e5 (Int.toNat v3) (Kd.dflt .turn)).Context,(w64 ((w64 (v2+1))+1))⟩:Turn));Fe n m0 e6 (w64 ((w64 ((w64 (v2+1))+1))+1)) (w64 (v3+1)) k0_0) none) none) none) none) none) none) (k0_0 v2 v1)
def Jg(n:Nat)(a0:List Turn)(a1:Int):Option (Int×List Turn×Unit):=Fe n n a0 a1 0 (fun w7 w8=>some (w7,w8,()))
def eG(n:Nat):Rw:=⟨62,pA [.own .turn,.v .int],(pS [.int,.own .turn]),fun x=>Jg n x.1 x.2.1⟩
def lN(n:Nat):LS:=AI ⟨2,[0,1,5],[],[],[1],[0]⟩ 34 [0,1,5] 1 (pD [.bor 0,.int,.int]) [.root .turn] (fun m x k=>Fe n m x.2.1 x.1.2.1 x.1.2.2.1 (fun w0 w1=>k (.exit 0) (eS 34 [1] [.int w0] 1 [.root .turn w1 .ok])))
theorem eH(n:Nat):RO (eG n):=
 rL ⟨Go.Proofs.Tryz.f62,⟨[],[],[]⟩,1⟩ [lN n] n en Go.Proofs.Tryz.func62 (by kernel_rfl) ⟨AJ (fun m x k=>by kernel_rfl) (fun _ _=>rfl),trivial⟩ (fun x=>by kernel_rfl)
def ET(n:Nat)(a0:Sys)(a1:Int):Option (Int×(Unit×Unit×List Task×List Lock×List Ghost×List Int×Unit×Unit×List Turn×Unit)×Unit):=(Lp n a0.Tasks a1).bind fun r1=>(Jf n a0.Locks r1.1).bind fun r2=>(Je n a0.Ghosts r2.1).bind fun r3=>(GI n a0.Floors r3.1).bind fun r4=>(Jg n a0.Trace r4.1).bind fun r5=>some (r5.1,((),(),r1.2.1,r2.2.1,r3.2.1,r4.2.1,(),(),r5.2.1,()),())
def eD(n:Nat):Rw:=⟨14,pA [.agg (pA [.v .int,.v .int,.own .task,.own .lock,.own .ghost,.own .int,.v .int,.v .int,.own .turn]),.v .int],(pS [.int,.agg TU]),fun x=>ET n (AC x.1) x.2.1⟩
theorem Pz(n:Nat):RO (eD n):=
 rE ⟨Go.Proofs.Tryz.f14,⟨[(0,[(0,.slot 5 .int)]),(1,[(3,(.call [.mv,.ro] .int [.own .task] []))]),(2,[(3,(.call [.mv,.ro] .int [.own .lock] []))]),(3,[(3,(.call [.mv,.ro] .int [.own .ghost] []))]),(4,[(3,TT)]),(5,[(3,(.call [.mv,.ro] .int [.own .turn] []))])],[],[]⟩,6⟩ n (ec (eF n) (ec (eC n) (ec (d8 n) (ec (Py n) (ec (eH n) en))))) Go.Proofs.Tryz.func14 (by kernel_rfl) (fun x=>by kernel_rfl)
def Jj(n:Nat)(a0:Sys):Option (Ah×Unit):=(Jk n a0.Tasks).bind fun r1=>(Ji n a0.Locks).bind fun r2=>(Jh n a0.Ghosts).bind fun r3=>(HU n a0.Floors).bind fun r4=>(Jl n a0.Trace).bind fun r5=>some ((AA (⟨a0.Now,a0.Cpus,r1.1,r2.1,r3.1,r4.1,a0.Seq,a0.Missed,r5.1⟩:Sys)),())
def fK(n:Nat):Rw:=⟨9,pV [Ae],q60,fun x=>Jj n (AX x.1)⟩
theorem P2(n:Nat):RO (fK n):=
 rE ⟨Go.Proofs.Tryz.f9,⟨[(0,[(0,.slot 0 .int),(1,.slot 1 .int)]),(1,[(0,.slot 2 .int)]),(4,[(2,(.call [.ro] (.own .task) [] [some 3]))]),(5,[(2,q58)]),(6,[(2,(.call [.ro] (.own .ghost) [] [some 5]))]),(7,[(2,(.call [.ro] (.own .int) [] [some 6]))]),(10,[(2,(.call [.ro] (.own .turn) [] [some 7]))])],[],[]⟩,8⟩ n (ec (UO n) (ec (UN n) (ec (UM n) (ec (P1 n) (ec (UP n) en))))) Go.Proofs.Tryz.func9 (by kernel_rfl) (fun x=>by kernel_rfl)
def Hi{α:Type}(n:Nat):Nat→Sys→Sys→Int→Int→(List Int→Option α)→Option α|0,_,_,_,_,_=>none|m0+1,v5,v6,v7,v8,k0_0=>cond (decide (v8<v7)) ((HK n v6 v8).bind fun r9=>cond (decide (0≤v8)&&decide (v8<(v6.Floors.length:Int))) ((JE n r9.1 (List.getD v6.Floors (Int.toNat v8) (Kd.dflt .int))).bind fun r10=>cond (decide (0≤v8)&&decide (v8<(v6.Floors.length:Int))) (cond (decide ((Int.toNat v8)<(v6.Floors).length)) (Hi n m0 (⟨v5.Now,v5.Cpus,[],[],[],[],v5.Seq,v5.Missed,[]⟩:Sys) (⟨v6.Now,v6.Cpus,v6.Tasks,v6.Locks,v6.Ghosts,(List.set v6.Floors (Int.toNat v8) r10.1),v6.Seq,v6.Missed,v6.Trace⟩:Sys) v7 (w64 (v8+1)) k0_0) none) none) none) (k0_0 v6.Floors)
def FW{α:Type}(n:Nat):Nat→Sys→Sys→Int→Int→(Int→Int→Int→Int→List Task→List Lock→List Ghost→List Int→List Turn→Option α)→Option α|0,_,_,_,_,_=>none|m1+1,v12,v13,v14,v15,k1_0=>cond (decide (v15<v14)) ((JQ n v13 v15).bind fun r16=>FW n m1 (⟨v12.Now,v12.Cpus,[],[],[],[],v12.Seq,v12.Missed,[]⟩:Sys) (AC r16.2.1) v14 (w64 (v15+1)) k1_0) (k1_0 v13.Now v13.Cpus v13.Seq v13.Missed v13.Tasks v13.Locks v13.Ghosts v13.Floors v13.Trace)
def JK(n:Nat)(a0:Sys):Option ((Ah×Bool×Unit)×Unit):=(DT n a0).bind fun r1=>cond (!r1.1) (some (((AA (⟨0,0,[],[],[],[],0,0,[]⟩:Sys)),false,()),())) ((B1 n a0).bind fun r2=>cond (decide (a0.Now=100000)) (some (((AA (AC r2.1)),false,()),())) (cond (decide (900000<a0.Seq)) (some (((AA (AC r2.1)),false,()),())) (cond (decide (400<(w64 ((a0.Trace.length:Int)+a0.Cpus)))) (some (((AA (AC r2.1)),false,()),())) ((JN n (AC r2.1)).bind fun r3=>(JR n (AC r3.2.1)).bind fun r4=>Hi n n (⟨0,0,[],[],[],[],0,0,[]⟩:Sys) (AC r4.2.1) (((AC r4.2.1).Floors).length:Int) 0 (fun w11=>FW n n (⟨0,0,[],[],[],[],0,0,[]⟩:Sys) (⟨(AC r4.2.1).Now,(AC r4.2.1).Cpus,(AC r4.2.1).Tasks,(AC r4.2.1).Locks,(AC r4.2.1).Ghosts,w11,(AC r4.2.1).Seq,(AC r4.2.1).Missed,(AC r4.2.1).Trace⟩:Sys) ((AC r4.2.1).Cpus) 0 (fun w17 w18 w19 w20 w21 w22 w23 w24 w25=>some (((AA (⟨(w64 (w17+1)),w18,w21,w22,w23,w24,w19,w20,w25⟩:Sys)),true,()),())))))))
def bn(n:Nat):Rw:=⟨13,pV [Ae],q73,fun x=>JK n (AX x.1)⟩
def kb(n:Nat):LS:=AI ⟨9,TN,[],[],[2,4],TO⟩ 66 [2,4,35,36] 4144444144444111113333333333 (pD [.ptr 1 0,.ptr 7 0,.int,.int]) [q64,KM,.root .task,.root .lock,.root .ghost,.root .int,.root .turn] (fun m x k=>Hi n m (⟨x.2.1.1,x.2.1.2.1,[],[],[],[],x.2.1.2.2.2.2.2.2.1,x.2.1.2.2.2.2.2.2.2.1,[]⟩:Sys) (⟨x.2.2.1.1,x.2.2.1.2.1,x.2.2.2.1,x.2.2.2.2.1,x.2.2.2.2.2.1,x.2.2.2.2.2.2.1,x.2.2.1.2.2.2.2.2.2.1,x.2.2.1.2.2.2.2.2.2.2.1,x.2.2.2.2.2.2.2.1⟩:Sys) x.1.2.2.1 x.1.2.2.2.1 (fun w0=>k (.exit 0) (eS 66 [2,4] [.ptr 1 0,.ptr 7 0] 4144444144444111113333333333 [DE.make q64 x.2.1,DE.make KM x.2.2.1,.root .task x.2.2.2.1 .ok,.root .lock x.2.2.2.2.1 .ok,.root .ghost x.2.2.2.2.2.1 .ok,.root .int w0 .ok,.root .turn x.2.2.2.2.2.2.2.1 .ok])))
def kc(n:Nat):LS:=AI ⟨14,TP,[(.c 7 2,18,.task),(.c 7 3,19,.lock),(.c 7 4,20,.ghost),(.c 7 5,21,.int),(.c 7 8,22,.turn)],TQ,[2,4],TR⟩ 66 [2,4,54,55] 4144444144444444441111133333 (pD [.ptr 1 0,.ptr 7 0,.int,.int]) [q64,TS,.root .task,.root .lock,.root .ghost,.root .int,.root .turn] (fun m x k=>FW n m (⟨x.2.1.1,x.2.1.2.1,[],[],[],[],x.2.1.2.2.2.2.2.2.1,x.2.1.2.2.2.2.2.2.2.1,[]⟩:Sys) (⟨x.2.2.1.1,x.2.2.1.2.1,x.2.2.2.1,x.2.2.2.2.1,x.2.2.2.2.2.1,x.2.2.2.2.2.2.1,x.2.2.1.2.2.2.2.2.2.1,x.2.2.1.2.2.2.2.2.2.2.1,x.2.2.2.2.2.2.2.1⟩:Sys) x.1.2.2.1 x.1.2.2.2.1 (fun w0 w1 w2 w3 w4 w5 w6 w7 w8=>k (.exit 2) (eS 66 [2,4] [.ptr 1 0,.ptr 7 0] 4144444144444444441111133333 [DE.make q64 x.2.1,.box [.int w0,.int w1,.bor 18,.bor 19,.bor 20,.bor 21,.int w2,.int w3,.bor 22],.root .task w4 .ok,.root .lock w5 .ok,.root .ghost w6 .ok,.root .int w7 .ok,.root .turn w8 .ok])))
theorem T7(n:Nat):RO (bn n):=
 rL ⟨Go.Proofs.Tryz.f13,⟨[(0,[(0,.slot 0 .int),(1,.slot 1 .int)]),(1,[(1,cl 1 .bool 0)]),(3,[(1,q62),(2,.slot 7 .int)]),(6,[(0,TK)]),(7,[(0,TL)]),(11,[(5,q53),(11,cl 2 .int 0)]),(16,[(1,TM)])],[(11,dr 14 [(0,[7],[]),(1,[7],[]),(3,[7],[]),(5,[13,14,15,16,17],[]),(6,[7],[]),(7,[7],[]),(9,[16],[]),(10,[16],[]),(12,[16],[]),(13,[16],[16])])],[]⟩,28⟩ [kb n,kc n] n (ec (Fx n) (ec (Gt n) (ec (UA n) (ec (UD n) (ec (Pp n) (ec (T1 n) (ec (UC n) en))))))) Go.Proofs.Tryz.func13 (by kernel_rfl) ⟨AJ (fun m x k=>by kernel_rfl) (fun _ _=>rfl),AJ (fun m x k=>by kernel_rfl) (fun _ _=>rfl),trivial⟩ (fun x=>by kernel_rfl)
def Hu{α:Type}(n:Nat):Nat→List Task→Int→Int→(Int→Option α)→(Int→Option α)→Option α|0,_,_,_,_,_=>none|m0+1,v1,v2,v3,k0_0,k0_1=>cond (decide (v3<(v1.length:Int))) (cond (decide (0≤v3)&&decide (v3<(v1.length:Int))) (let e4:=(!(decide ((List.getD v1 (Int.toNat v3) (Kd.dflt .task)).No=v2)));cond e4 (k0_0 v2) (cond (decide (0≤v3)&&decide (v3<(v1.length:Int))) (let e5:=(!(decide ((List.getD v1 (Int.toNat v3) (Kd.dflt .task)).Class=(w64 (v2+1)))));cond e5 (k0_0 (w64 (v2+1))) (cond (decide (0≤v3)&&decide (v3<(v1.length:Int))) (let e6:=(!(decide ((List.getD v1 (Int.toNat v3) (Kd.dflt .task)).Cpu=(w64 ((w64 (v2+1))+1)))));cond e6 (k0_0 (w64 ((w64 (v2+1))+1))) (cond (decide (0≤v3)&&decide (v3<(v1.length:Int))) (let e7:=(!(decide ((List.getD v1 (Int.toNat v3) (Kd.dflt .task)).State=(w64 ((w64 ((w64 (v2+1))+1))+1)))));cond e7 (k0_0 (w64 ((w64 ((w64 (v2+1))+1))+1))) (cond (decide (0≤v3)&&decide (v3<(v1.length:Int))) (let e8:=(Int.tmod (w64 ((w64 ((w64 ((w64 (v2+1))+1))+1))+1)) 3);let e9:=(!((List.getD v1 (Int.toNat v3) (Kd.dflt .task)).Idle==(decide (e8=0))));cond e9 (k0_0 (w64 ((w64 ((w64 ((w64 (v2+1))+1))+1))+1))) (let e10:=(w64 ((w64 ((w64 ((w64 ((w64 (v2+1))+1))+1))+1))+1));cond (decide (0≤v3)&&decide (v3<(v1.length:Int))) (let e11:=(!(decide ((List.getD v1 (Int.toNat v3) (Kd.dflt .task)).Q=e10)));cond e11 (k0_0 e10) (cond (decide (0≤v3)&&decide (v3<(v1.length:Int))) (let e12:=(!(decide ((List.getD v1 (Int.toNat v3) (Kd.dflt .task)).P=(w64 (e10+1)))));cond e12 (k0_0 (w64 (e10+1))) (cond (decide (0≤v3)&&decide (v3<(v1.length:Int))) (let e13:=(!(decide ((List.getD v1 (Int.toNat v3) (Kd.dflt .task)).Left=(w64 ((w64 (e10+1))+1)))));cond e13 (k0_0 (w64 ((w64 (e10+1))+1))) (cond (decide (0≤v3)&&decide (v3<(v1.length:Int))) (let e14:=(!(decide ((List.getD v1 (Int.toNat v3) (Kd.dflt .task)).Due=(w64 ((w64 ((w64 (e10+1))+1))+1)))));cond e14 (k0_0 (w64 ((w64 ((w64 (e10+1))+1))+1))) (cond (decide (0≤v3)&&decide (v3<(v1.length:Int))) (let e15:=(!(decide ((List.getD v1 (Int.toNat v3) (Kd.dflt .task)).Prio=(w64 ((w64 ((w64 ((w64 (e10+1))+1))+1))+1)))));cond e15 (k0_0 (w64 ((w64 ((w64 ((w64 (e10+1))+1))+1))+1))) (let e16:=(w64 ((w64 ((w64 ((w64 ((w64 (e10+1))+1))+1))+1))+1));cond (decide (0≤v3)&&decide (v3<(v1.length:Int))) (let e17:=(!(decide ((List.getD v1 (Int.toNat v3) (Kd.dflt .task)).Round=e16)));cond e17 (k0_0 e16) (cond (decide (0≤v3)&&decide (v3<(v1.length:Int))) (let e18:=(!(decide ((List.getD v1 (Int.toNat v3) (Kd.dflt .task)).Seq=(w64 (e16+1)))));cond e18 (k0_0 (w64 (e16+1))) (cond (decide (0≤v3)&&decide (v3<(v1.length:Int))) (let e19:=(!(decide ((List.getD v1 (Int.toNat v3) (Kd.dflt .task)).Nice=(w64 ((w64 (e16+1))+1)))));cond e19 (k0_0 (w64 ((w64 (e16+1))+1))) (cond (decide (0≤v3)&&decide (v3<(v1.length:Int))) (let e20:=(!(decide ((List.getD v1 (Int.toNat v3) (Kd.dflt .task)).V=(w64 ((w64 ((w64 (e16+1))+1))+1)))));cond e20 (k0_0 (w64 ((w64 ((w64 (e16+1))+1))+1))) (Hu n m0 v1 (w64 ((w64 ((w64 ((w64 (e16+1))+1))+1))+1)) (w64 (v3+1)) k0_0 k0_1)) none)) none)) none)) none)) none)) none)) none)) none)) none)) none)) none)) none)) none)) none) (k0_1 v2)
def Ln(n:Nat)(a0:List Task)(a1:Int):Option (Int×Unit):=Hu n n a0 a1 0 (fun w21=>some ((-1),())) (fun w22=>some (w22,()))
def dw(n:Nat):Rw:=⟨63,pV [.ro .task,.int],pS [.int],fun x=>Ln n x.1.2 x.2.1⟩
def lF(n:Nat):LS:=AI ⟨2,[0,1,5],[],[],[1,4],[]⟩ 141 [0,1,5] 0 (pD [.ro .task,.int,.int]) [] (fun m x k=>Hu n m x.1.1.2 x.1.2.1 x.1.2.2.1 (fun w0=>k .ret (eS 141 [1,4] [.int w0,.int (-1)] 0 [])) (fun w0=>k (.exit 0) (eS 141 [1] [.int w0] 0 [])))
theorem dz(n:Nat):RO (dw n):=
 rL ⟨Go.Proofs.Tryz.f63,⟨[],[],[]⟩,0⟩ [lF n] n en Go.Proofs.Tryz.func63 (by kernel_rfl) ⟨AJ (fun m x k=>by kernel_rfl) (fun _ _=>rfl),trivial⟩ (fun x=>by kernel_rfl)
end Go.Proofs.YtbbgaleennfklaaGreat.VR
end
section
set_option linter.unusedVariables false
set_option maxRecDepth 100000
namespace Go.Proofs.YtbbgaleennfklaaGreat.VR
open Go
def Hs{α:Type}(n:Nat):Nat→List Int→Int→Int→(Int→Option α)→(Int→Option α)→Option α|0,_,_,_,_,_=>none|m0+1,v1,v2,v3,k0_0,k0_1=>cond (decide (v3<(v1.length:Int))) (cond (decide (0≤v3)&&decide (v3<(v1.length:Int))) (let e4:=(!(decide ((List.getD v1 (Int.toNat v3) (Kd.dflt .int))=v2)));cond e4 (k0_0 v2) (Hs n m0 v1 (w64 (v2+1)) (w64 (v3+1)) k0_0 k0_1)) none) (k0_1 v2)
def FI(n:Nat)(a0:List Int)(a1:Int):Option (Int×Unit):=Hs n n a0 a1 0 (fun w5=>some ((-1),())) (fun w6=>some (w6,()))
def dq(n:Nat):Rw:=⟨27,pV [.ro .int,.int],pS [.int],fun x=>FI n x.1.2 x.2.1⟩
def lD(n:Nat):LS:=AI ⟨2,[0,1,5],[],[],[1,4],[]⟩ 21 [0,1,5] 0 (pD [.ro .int,.int,.int]) [] (fun m x k=>Hs n m x.1.1.2 x.1.2.1 x.1.2.2.1 (fun w0=>k .ret (eS 21 [1,4] [.int w0,.int (-1)] 0 [])) (fun w0=>k (.exit 0) (eS 21 [1] [.int w0] 0 [])))
theorem Pw(n:Nat):RO (dq n):=
 rL ⟨Go.Proofs.Tryz.f27,⟨[],[],[]⟩,0⟩ [lD n] n en Go.Proofs.Tryz.func27 (by kernel_rfl) ⟨AJ (fun m x k=>by kernel_rfl) (fun _ _=>rfl),trivial⟩ (fun x=>by kernel_rfl)
def Ht{α:Type}(n:Nat):Nat→List Lock→Int→Int→(Int→Option α)→(Int→Option α)→Option α|0,_,_,_,_,_=>none|m0+1,v1,v2,v3,k0_0,k0_1=>cond (decide (v3<(v1.length:Int))) (cond (decide (0≤v3)&&decide (v3<(v1.length:Int))) (let e4:=(!(decide ((List.getD v1 (Int.toNat v3) (Kd.dflt .lock)).Owner=v2)));cond e4 (k0_0 v2) (cond (decide (0≤v3)&&decide (v3<(v1.length:Int))) ((FI n ((List.getD v1 (Int.toNat v3) (Kd.dflt .lock)).Waits) (w64 (v2+1))).bind fun r5=>cond (decide (r5.1<0)) (k0_0 r5.1) (Ht n m0 v1 r5.1 (w64 (v3+1)) k0_0 k0_1)) none)) none) (k0_1 v2)
def Jc(n:Nat)(a0:List Lock)(a1:Int):Option (Int×Unit):=Ht n n a0 a1 0 (fun w6=>some ((-1),())) (fun w7=>some (w7,()))
def dt(n:Nat):Rw:=⟨64,pV [.ro .lock,.int],pS [.int],fun x=>Jc n x.1.2 x.2.1⟩
def lE(n:Nat):LS:=AI ⟨2,[0,1,5],[],[],[1,4],[]⟩ 31 [0,1,5] 0 (pD [.ro .lock,.int,.int]) [] (fun m x k=>Ht n m x.1.1.2 x.1.2.1 x.1.2.2.1 (fun w0=>k .ret (eS 31 [1,4] [.int w0,.int (-1)] 0 [])) (fun w0=>k (.exit 0) (eS 31 [1] [.int w0] 0 [])))
theorem du(n:Nat):RO (dt n):=
 rL ⟨Go.Proofs.Tryz.f64,⟨[(7,[(6,cl 2 .int 0)])],[],[]⟩,0⟩ [lE n] n (ec (Pw n) en) Go.Proofs.Tryz.func64 (by kernel_rfl) ⟨AJ (fun m x k=>by kernel_rfl) (fun _ _=>rfl),trivial⟩ (fun x=>by kernel_rfl)
def Hr{α:Type}(n:Nat):Nat→List Ghost→Int→Int→(Int→Option α)→(Int→Option α)→Option α|0,_,_,_,_,_=>none|m0+1,v1,v2,v3,k0_0,k0_1=>cond (decide (v3<(v1.length:Int))) (cond (decide (0≤v3)&&decide (v3<(v1.length:Int))) (let e4:=(!(decide ((List.getD v1 (Int.toNat v3) (Kd.dflt .ghost)).Cpu=v2)));cond e4 (k0_0 v2) (cond (decide (0≤v3)&&decide (v3<(v1.length:Int))) (let e5:=(!(decide ((List.getD v1 (Int.toNat v3) (Kd.dflt .ghost)).S.Q=(w64 (v2+1)))));cond e5 (k0_0 (w64 (v2+1))) (cond (decide (0≤v3)&&decide (v3<(v1.length:Int))) (let e6:=(!(decide ((List.getD v1 (Int.toNat v3) (Kd.dflt .ghost)).S.P=(w64 ((w64 (v2+1))+1)))));cond e6 (k0_0 (w64 ((w64 (v2+1))+1))) (cond (decide (0≤v3)&&decide (v3<(v1.length:Int))) (let e7:=(!(decide ((List.getD v1 (Int.toNat v3) (Kd.dflt .ghost)).Until=(w64 ((w64 ((w64 (v2+1))+1))+1)))));cond e7 (k0_0 (w64 ((w64 ((w64 (v2+1))+1))+1))) (Hr n m0 v1 (w64 ((w64 ((w64 ((w64 (v2+1))+1))+1))+1)) (w64 (v3+1)) k0_0 k0_1)) none)) none)) none)) none) (k0_1 v2)
def Jb(n:Nat)(a0:List Ghost)(a1:Int):Option (Int×Unit):=Hr n n a0 a1 0 (fun w8=>some ((-1),())) (fun w9=>some (w9,()))
def dn(n:Nat):Rw:=⟨65,pV [.ro .ghost,.int],pS [.int],fun x=>Jb n x.1.2 x.2.1⟩
def lC(n:Nat):LS:=AI ⟨2,[0,1,5],[],[],[1,4],[]⟩ 51 [0,1,5] 0 (pD [.ro .ghost,.int,.int]) [] (fun m x k=>Hr n m x.1.1.2 x.1.2.1 x.1.2.2.1 (fun w0=>k .ret (eS 51 [1,4] [.int w0,.int (-1)] 0 [])) (fun w0=>k (.exit 0) (eS 51 [1] [.int w0] 0 [])))
theorem dp(n:Nat):RO (dn n):=
 rL ⟨Go.Proofs.Tryz.f65,⟨[],[],[]⟩,0⟩ [lC n] n en Go.Proofs.Tryz.func65 (by kernel_rfl) ⟨AJ (fun m x k=>by kernel_rfl) (fun _ _=>rfl),trivial⟩ (fun x=>by kernel_rfl)
def Hv{α:Type}(n:Nat):Nat→List Turn→Int→Int→(Int→Option α)→(Int→Option α)→Option α|0,_,_,_,_,_=>none|m0+1,v1,v2,v3,k0_0,k0_1=>cond (decide (v3<(v1.length:Int))) (cond (decide (0≤v3)&&decide (v3<(v1.length:Int))) (let e4:=(!(decide ((List.getD v1 (Int.toNat v3) (Kd.dflt .turn)).Cpu=v2)));cond e4 (k0_0 v2) (cond (decide (0≤v3)&&decide (v3<(v1.length:Int))) (let e5:=(!(decide ((List.getD v1 (Int.toNat v3) (Kd.dflt .turn)).Context=(w64 (v2+1)))));cond e5 (k0_0 (w64 (v2+1))) (cond (decide (0≤v3)&&decide (v3<(v1.length:Int))) (let e6:=(!(decide ((List.getD v1 (Int.toNat v3) (Kd.dflt .turn)).Executor=(w64 ((w64 (v2+1))+1)))));cond e6 (k0_0 (w64 ((w64 (v2+1))+1))) (Hv n m0 v1 (w64 ((w64 ((w64 (v2+1))+1))+1)) (w64 (v3+1)) k0_0 k0_1)) none)) none)) none) (k0_1 v2)
def Jd(n:Nat)(a0:List Turn)(a1:Int):Option (Int×Unit):=Hv n n a0 a1 0 (fun w7=>some ((-1),())) (fun w8=>some (w8,()))
def d3(n:Nat):Rw:=⟨66,pV [.ro .turn,.int],pS [.int],fun x=>Jd n x.1.2 x.2.1⟩
def lG(n:Nat):LS:=AI ⟨2,[0,1,5],[],[],[1,4],[]⟩ 40 [0,1,5] 0 (pD [.ro .turn,.int,.int]) [] (fun m x k=>Hv n m x.1.1.2 x.1.2.1 x.1.2.2.1 (fun w0=>k .ret (eS 40 [1,4] [.int w0,.int (-1)] 0 [])) (fun w0=>k (.exit 0) (eS 40 [1] [.int w0] 0 [])))
theorem d4(n:Nat):RO (d3 n):=
 rL ⟨Go.Proofs.Tryz.f66,⟨[],[],[]⟩,0⟩ [lG n] n en Go.Proofs.Tryz.func66 (by kernel_rfl) ⟨AJ (fun m x k=>by kernel_rfl) (fun _ _=>rfl),trivial⟩ (fun x=>by kernel_rfl)
def ES(n:Nat)(a0:Sys)(a1:Int):Option (Int×Unit):=(Ln n a0.Tasks a1).bind fun r1=>cond (decide (r1.1<0)) (some ((-1),())) ((Jc n a0.Locks r1.1).bind fun r2=>cond (decide (r2.1<0)) (some ((-1),())) ((Jb n a0.Ghosts r2.1).bind fun r3=>cond (decide (r3.1<0)) (some ((-1),())) ((FI n a0.Floors r3.1).bind fun r4=>cond (decide (r4.1<0)) (some ((-1),())) ((Jd n a0.Trace r4.1).bind fun r5=>cond (decide (r5.1<0)) (some ((-1),())) (some (r5.1,()))))))
def dv(n:Nat):Rw:=⟨15,pV [Ae,.int],pS [.int],fun x=>ES n (AX x.1) x.2.1⟩
theorem Px(n:Nat):RO (dv n):=
 rE ⟨Go.Proofs.Tryz.f15,⟨[(0,[(0,.slot 0 .int)]),(1,[(3,cl 2 .int 0)]),(4,[(3,cl 2 .int 0)]),(7,[(3,cl 2 .int 0)]),(10,[(3,cl 2 .int 0)]),(13,[(3,cl 2 .int 0)])],[],[]⟩,1⟩ n (ec (dz n) (ec (du n) (ec (dp n) (ec (Pw n) (ec (d4 n) en))))) Go.Proofs.Tryz.func15 (by kernel_rfl) (fun x=>by kernel_rfl)
def Lg(n:Nat)(a0:Sys):Option (Bool×Unit):=(GJ n a0 1048576).bind fun r1=>cond (decide (r1.1<0)) (some (true,())) ((CS n a0).bind fun r2=>(MT n (AC r2.1)).bind fun r3=>(Jj n a0).bind fun r4=>(JK n (AC r4.1)).bind fun r5=>(CD n (AC r5.1.1) (AC r3.1.1)).bind fun r6=>cond (!r6.1) (some (false,())) (cond (!(r5.1.2.1==r3.1.2.1)) (some (false,())) ((CS n a0).bind fun r7=>(CD n (AC r4.1) (AC r7.1)).bind fun r8=>cond (!r8.1) (some (false,())) ((ET n (AC r4.1) 1).bind fun r9=>cond (decide (r9.1<0)) (some (false,())) ((CD n (AC r5.1.1) (AC r3.1.1)).bind fun r10=>cond (!r10.1) (some (false,())) (cond (!(r5.1.2.1==r3.1.2.1)) (some (false,())) ((ET n (AC r5.1.1) 1).bind fun r11=>(ES n (⟨(AC r5.1.1).Now,(AC r5.1.1).Cpus,r11.2.1.2.2.1,r11.2.1.2.2.2.1,r11.2.1.2.2.2.2.1,r11.2.1.2.2.2.2.2.1,(AC r5.1.1).Seq,(AC r5.1.1).Missed,r11.2.1.2.2.2.2.2.2.2.2.1⟩:Sys) 1).bind fun r12=>cond (decide (r12.1<0)) (some (false,())) (cond (!(decide (r12.1=r11.1))) (some (false,())) ((CS n a0).bind fun r13=>(LO n (AC r13.1)).bind fun r14=>(CD n (AC r14.1.1) (AC r3.1.1)).bind fun r15=>cond (!r15.1) (some (false,())) (cond (!(r14.1.2.1==r3.1.2.1)) (some (false,())) ((ES n (⟨(AC r5.1.1).Now,(AC r5.1.1).Cpus,r11.2.1.2.2.1,r11.2.1.2.2.2.1,r11.2.1.2.2.2.2.1,r11.2.1.2.2.2.2.2.1,(AC r5.1.1).Seq,(AC r5.1.1).Missed,r11.2.1.2.2.2.2.2.2.2.2.1⟩:Sys) 1).bind fun r16=>cond (decide (r16.1<0)) (some (false,())) (cond (!(decide (r16.1=r11.1))) (some (false,())) (some (true,()))))))))))))))
def dI(n:Nat):Rw:=⟨4,pV [Ae],pS [.bool],fun x=>Lg n (AX x.1)⟩
theorem dJ(n:Nat):RO (dI n):=
 rE ⟨Go.Proofs.Tryz.f4,⟨[(0,[(0,.slot 0 .int)]),(2,[(2,cl 2 .int 0)]),(5,[(1,q54),(2,TV),(6,.slot 1 .int)]),(6,[(1,q62),(2,.slot 7 .int)]),(7,[(1,(.call [.ro] (.tup q72) [] [some 8,some 9,some 10,some 11,some 12])),(5,.slot 13 .int)]),(8,[(2,cl 2 .bool 0)]),(10,[(2,q54),(3,cl 2 .bool 0)]),(13,[(2,If)]),(14,[(5,cl 2 .bool 0)]),(17,[(2,If)]),(19,[(2,cl 2 .int 0)]),(24,[(1,q54),(2,TV),(6,.slot 14 .int)]),(25,[(2,cl 2 .bool 0)]),(28,[(2,cl 2 .int 0)])],[(10,dr 5 [(0,[7],[]),(1,[0],[]),(3,[2,3,4,5,6],[])])],[]⟩,15⟩ n (ec (NG n) (ec (NH n) (ec (i4 n) (ec (P2 n) (ec (T7 n) (ec (NF n) (ec (Pz n) (ec (Px n) (ec (bo n) en))))))))) Go.Proofs.Tryz.func4 (by kernel_rfl) (fun x=>by kernel_rfl)
def GK(a0:Call):Option (Kh×Unit):=some ((CK a0),())
def eZ:Rw:=⟨17,pV [Ba],TX,fun x=>GK (Az x.1)⟩
theorem P0:RO (eZ):=
 rE ⟨Go.Proofs.Tryz.f17,⟨[(0,[(0,.slot 0 .int),(1,.slot 1 .int)]),(1,[(0,.slot 2 .int)])],[],[]⟩,3⟩ 0 en Go.Proofs.Tryz.func17 (by kernel_rfl) (fun x=>by kernel_rfl)
def MW(a0:Call):Option (Kh×Unit):=cond (decide (a0.Kind=1)) (some ((CK a0),())) (cond (decide (a0.Kind=2)) (some ((CK a0),())) (cond (decide (a0.Kind=3)) (some ((CK (⟨a0.Kind,a0.No,a0.Cpu,a0.A,0⟩:Call)),())) (cond (decide (a0.Kind=4)) (some ((CK (⟨a0.Kind,a0.No,0,0,0⟩:Call)),())) (cond (decide (a0.Kind=5)) (some ((CK (⟨a0.Kind,a0.No,0,0,0⟩:Call)),())) (cond (decide (a0.Kind=6)) (some ((CK (⟨a0.Kind,a0.No,0,0,0⟩:Call)),())) (cond (decide (a0.Kind=7)) (some ((CK (⟨a0.Kind,a0.No,0,a0.A,0⟩:Call)),())) (cond (decide (a0.Kind=8)) (some ((CK (⟨a0.Kind,a0.No,0,a0.A,0⟩:Call)),())) (cond (decide (a0.Kind=9)) (some ((CK (⟨a0.Kind,a0.No,0,a0.A,0⟩:Call)),())) (cond (decide (a0.Kind=10)) (some ((CK (⟨a0.Kind,a0.No,a0.Cpu,0,0⟩:Call)),())) (cond (decide (a0.Kind=11)) (some ((CK (⟨a0.Kind,0,0,a0.A,0⟩:Call)),())) (some ((CK a0),()))))))))))))
def jI:Rw:=⟨135,pV [Ba],TX,fun x=>MW (Az x.1)⟩
theorem jJ:RO (jI):=
 rE ⟨Go.Proofs.Tryz.f135,⟨[(0,[(0,.slot 0 .int),(1,.slot 1 .int)])],[],[]⟩,2⟩ 0 en Go.Proofs.Tryz.func135 (by kernel_rfl) (fun x=>by kernel_rfl)
def L9(a0:Call):Option (Bool×Unit):=(Ag a0.Kind 1 11).bind fun r1=>cond r1.1 ((MW a0).bind fun r2=>let e3:=((decide (a0.Kind=(Az r2.1).Kind))&&((decide (a0.No=(Az r2.1).No))&&((decide (a0.Cpu=(Az r2.1).Cpu))&&((decide (a0.A=(Az r2.1).A))&&((decide (a0.B=(Az r2.1).B))&&true)))));some (e3,())) (some (false,()))
def gz:Rw:=⟨67,pV [Ba],pS [.bool],fun x=>L9 (Az x.1)⟩
theorem g5:RO (gz):=
 rE ⟨Go.Proofs.Tryz.f67,⟨[(0,[(0,.slot 0 .int)]),(1,[(2,cl 3 .bool 0),(6,Ig)])],[(1,dr 10 [(0,[0],[]),(1,[0],[]),(4,[0],[]),(5,[0],[])])],[]⟩,1⟩ 0 (ec Bi (ec jJ en)) Go.Proofs.Tryz.func67 (by kernel_rfl) (fun x=>by kernel_rfl)
def MI(a0:Sys)(a1:Int):Option (Int×Unit):=(Ag a1 0 (w64 ((a0.Floors.length:Int)-1))).bind fun r1=>cond (!r1.1) (some (0,())) (cond (decide (0≤a1)&&decide (a1<(a0.Floors.length:Int))) (some ((List.getD a0.Floors (Int.toNat a1) (Kd.dflt .int)),())) none)
def iQ:Rw:=⟨181,pV [Ae,.int],pS [.int],fun x=>MI (AX x.1) x.2.1⟩
theorem iR:RO (iQ):=
 rE ⟨Go.Proofs.Tryz.f181,⟨[(0,[(0,.slot 0 .int)]),(1,[(5,cl 3 .bool 0)])],[],[]⟩,1⟩ 0 (ec Bi en) Go.Proofs.Tryz.func181 (by kernel_rfl) (fun x=>by kernel_rfl)
def HW(a0:Task):Option ((A8×Bool×Unit)×Unit):=(Dp a0).bind fun r1=>cond (!r1.1) (some (((AN (⟨0,0,0,0,false,0,0,0,0,0,0,0,0,0⟩:Task)),false,()),())) (some (((AN a0),true,()),()))
def je:Rw:=⟨215,pV [Ac],q68,fun x=>HW (AK x.1)⟩
theorem P6:RO (je):=
 rE ⟨Go.Proofs.Tryz.f215,⟨[(0,[(0,.slot 0 .int),(1,.slot 1 .int)]),(1,[(1,cl 1 .bool 0)])],[],[]⟩,2⟩ 0 (ec Il en) Go.Proofs.Tryz.func215 (by kernel_rfl) (fun x=>by kernel_rfl)
def MM(a0:Int)(a1:Int)(a2:Int)(a3:Int):Option ((A8×Bool×Unit)×Unit):=(HW (⟨a0,3,a1,1,false,0,0,0,0,0,0,0,a2,a3⟩:Task)).bind fun r1=>some (((AN (AK r1.1.1)),r1.1.2.1,()),())
def iZ:Rw:=⟨180,pV [.int,.int,.int,.int],q68,fun x=>MM x.1 x.2.1 x.2.2.1 x.2.2.2.1⟩
theorem ia:RO (iZ):=
 rE ⟨Go.Proofs.Tryz.f180,⟨[(0,[(0,.slot 0 .int)]),(1,[(5,Ih)])],[],[]⟩,1⟩ 0 (ec P6 en) Go.Proofs.Tryz.func180 (by kernel_rfl) (fun x=>by kernel_rfl)
def ML(a0:Int)(a1:Int)(a2:Int)(a3:Int)(a4:Int):Option ((A8×Bool×Unit)×Unit):=(Ag a4 0 100000).bind fun r1=>cond (!r1.1) (some (((AN (⟨0,0,0,0,false,0,0,0,0,0,0,0,0,0⟩:Task)),false,()),())) ((GS (⟨a2,a3⟩:Share)).bind fun r2=>cond (!r2.1) (some (((AN (⟨0,0,0,0,false,0,0,0,0,0,0,0,0,0⟩:Task)),false,()),())) ((HW (⟨a0,1,a1,1,false,a2,a3,a2,(w64 (a4+a3)),0,0,0,0,0⟩:Task)).bind fun r3=>some (((AN (AK r3.1.1)),r3.1.2.1,()),())))
def iX:Rw:=⟨182,pV [.int,.int,.int,.int,.int],q68,fun x=>ML x.1 x.2.1 x.2.2.1 x.2.2.2.1 x.2.2.2.2.1⟩
theorem iY:RO (iX):=
 rE ⟨Go.Proofs.Tryz.f182,⟨[(0,[(0,.slot 0 .int)]),(1,[(1,cl 3 .bool 0),(7,cl 1 .bool 0)]),(3,[(9,Ih)])],[],[]⟩,1⟩ 0 (ec Bi (ec NN (ec P6 en))) Go.Proofs.Tryz.func182 (by kernel_rfl) (fun x=>by kernel_rfl)
def Fq{α:Type}(n:Nat):Nat→Int→Sys→List Share→Int→(List Share→Option α)→Option α|0,_,_,_,_,_=>none|m0+1,v1,v2,v3,v4,k0_0=>cond (decide (v4<(v2.Tasks.length:Int))) (cond (decide (0≤v4)&&decide (v4<(v2.Tasks.length:Int))) (let e5:=(decide ((List.getD v2.Tasks (Int.toNat v4) (Kd.dflt .task)).Cpu=v1));cond e5 (let e6:=(decide ((List.getD v2.Tasks (Int.toNat v4) (Kd.dflt .task)).Class=1));cond e6 (let e7:=([(⟨(List.getD v2.Tasks (Int.toNat v4) (Kd.dflt .task)).Q,(List.getD v2.Tasks (Int.toNat v4) (Kd.dflt .task)).P⟩:Share)]:List Share);cond (decide ((v3).length+(e7).length≤lim)) (Fq n m0 v1 v2 (v3++e7) (w64 (v4+1)) k0_0) none) (Fq n m0 v1 v2 v3 (w64 (v4+1)) k0_0)) (Fq n m0 v1 v2 v3 (w64 (v4+1)) k0_0)) none) (k0_0 v3)
def Em{α:Type}(n:Nat):Nat→Int→Sys→List Share→Int→(List Share→Option α)→Option α|0,_,_,_,_,_=>none|m1+1,v9,v10,v11,v12,k1_0=>cond (decide (v12<(v10.Ghosts.length:Int))) (cond (decide (0≤v12)&&decide (v12<(v10.Ghosts.length:Int))) (let e13:=(decide ((List.getD v10.Ghosts (Int.toNat v12) (Kd.dflt .ghost)).Cpu=v9));cond e13 (cond (decide (0≤v12)&&decide (v12<(v10.Ghosts.length:Int))) (let e14:=([(List.getD v10.Ghosts (Int.toNat v12) (Kd.dflt .ghost)).S]:List Share);cond (decide ((v11).length+(e14).length≤lim)) (Em n m1 v9 v10 (v11++e14) (w64 (v12+1)) k1_0) none) none) (Em n m1 v9 v10 v11 (w64 (v12+1)) k1_0)) none) (k1_0 v11)
def GZ(n:Nat)(a0:Sys)(a1:Int):Option (List Share×Unit):=Fq n n a1 a0 ([]:List Share) 0 (fun w8=>Em n n a1 a0 w8 0 (fun w15=>some (w15,())))
def kA(n:Nat):Rw:=⟨78,pV [Ae,.int],q30,fun x=>GZ n (AX x.1) x.2.1⟩
def ma(n:Nat):LS:=AI ⟨3,[1,2,5,6],[(.t 5,2,.share)],[3,4,5],[1,2,5],q31⟩ 64 [1,2,5,6] 141333333 (pD [.int,.ptr 0 0,.bor 2,.int]) [.box Af,.root .share] (fun m x k=>Fq n m x.1.1 (AX x.2.1) x.2.2.1 x.1.2.2.2.1 (fun w0=>k (.exit 0) (eS 64 [1,2,5] [.int x.1.1,.ptr 0 0,.bor 2] 141333333 [.box (Af.make x.2.1),.root .share w0 .ok])))
def mb(n:Nat):LS:=AI ⟨9,[1,2,5,8],[(.t 5,6,.share)],[7,8],[5],q32⟩ 64 [1,2,5,8] 144333133 (pD [.int,.ptr 0 0,.bor 6,.int]) [.box Af,.root .share] (fun m x k=>Em n m x.1.1 (AX x.2.1) x.2.2.1 x.1.2.2.2.1 (fun w0=>k (.exit 2) (eS 64 [5] [.bor 6] 444333133 [.root .share w0 .ok])))
theorem kB(n:Nat):RO (kA n):=
 rL ⟨Go.Proofs.Tryz.f78,⟨[(0,[(0,.slot 0 .int)]),(1,[(0,.slot 1 .share)]),(5,[(5,.slot 3 .int)]),(7,[(6,.slot 4 .share),(7,.slot 5 .share)]),(12,[(7,.slot 7 .share),(8,.slot 8 .share)])],[],[]⟩,9⟩ [ma n,mb n] n en Go.Proofs.Tryz.func78 (by kernel_rfl) ⟨AJ (fun m x k=>by kernel_rfl) (fun _ _=>rfl),AJ (fun m x k=>by kernel_rfl) (fun _ _=>rfl),trivial⟩ (fun x=>by kernel_rfl)
def MN(a0:Int)(a1:Int)(a2:Int)(a3:Int)(a4:Int):Option ((A8×Bool×Unit)×Unit):=(HW (⟨a0,2,a1,1,false,0,0,a3,0,a2,a3,a4,0,0⟩:Task)).bind fun r1=>some (((AN (AK r1.1.1)),r1.1.2.1,()),())
def ib:Rw:=⟨183,pV [.int,.int,.int,.int,.int],q68,fun x=>MN x.1 x.2.1 x.2.2.1 x.2.2.2.1 x.2.2.2.2.1⟩
theorem ic:RO (ib):=
 rE ⟨Go.Proofs.Tryz.f183,⟨[(0,[(0,.slot 0 .int)]),(1,[(7,Ih)])],[],[]⟩,1⟩ 0 (ec P6 en) Go.Proofs.Tryz.func183 (by kernel_rfl) (fun x=>by kernel_rfl)
def Fk{α:Type}(n:Nat):Nat→List Task→Task→List Task→Bool→Int→(Bool→List Task→Option α)→Option α|0,_,_,_,_,_,_=>none|m0+1,v2,v3,v4,v5,v6,k0_0=>cond (decide (v6<(v2.length:Int))) (cond (!v5) (cond (decide (0≤v6)&&decide (v6<(v2.length:Int))) (let e7:=(decide (v3.No≤(List.getD v2 (Int.toNat v6) (Kd.dflt .task)).No));cond e7 (cond (decide ((v4).length+(([v3]:List Task)).length≤lim)) (cond (decide (0≤v6)&&decide (v6<(v2.length:Int))) (let e8:=([(List.getD v2 (Int.toNat v6) (Kd.dflt .task))]:List Task);cond (decide (((v4++([v3]:List Task))).length+(e8).length≤lim)) (Fk n m0 v2 v3 ((v4++([v3]:List Task))++e8) true (w64 (v6+1)) k0_0) none) none) none) (cond (decide (0≤v6)&&decide (v6<(v2.length:Int))) (let e9:=([(List.getD v2 (Int.toNat v6) (Kd.dflt .task))]:List Task);cond (decide ((v4).length+(e9).length≤lim)) (Fk n m0 v2 v3 (v4++e9) v5 (w64 (v6+1)) k0_0) none) none)) none) (cond (decide (0≤v6)&&decide (v6<(v2.length:Int))) (let e10:=([(List.getD v2 (Int.toNat v6) (Kd.dflt .task))]:List Task);cond (decide ((v4).length+(e10).length≤lim)) (Fk n m0 v2 v3 (v4++e10) v5 (w64 (v6+1)) k0_0) none) none)) (k0_0 v5 v4)
def GT(n:Nat)(a0:List Task)(a1:Task):Option ((List Task×Bool×Unit)×Unit):=(Dq n a0).bind fun r1=>cond (!r1.1) (some ((([]:List Task),false,()),())) (Fk n n a0 a1 ([]:List Task) false 0 (fun w11 w12=>cond (!w11) (cond (decide ((w12).length+(([a1]:List Task)).length≤lim)) ((Dq n (w12++([a1]:List Task))).bind fun r13=>cond (!r13.1) (cond (decide ((([]:List Task)).length+(a0).length≤lim)) (some (((([]:List Task)++a0),false,()),())) none) (some (((w12++([a1]:List Task)),true,()),()))) none) ((Dq n w12).bind fun r14=>cond (!r14.1) (cond (decide ((([]:List Task)).length+(a0).length≤lim)) (some (((([]:List Task)++a0),false,()),())) none) (some ((w12,true,()),())))))
def i9(n:Nat):Rw:=⟨184,pV [.ro .task,Ac],TY,fun x=>GT n x.1.2 (AK x.2.1)⟩
def mE(n:Nat):LS:=AI ⟨6,([0,3,6,7,8]),[(.t 6,3,.task)],[4,5,6,7],[0,3,6,7],([0,1,3,4,5,6,7,8,9,10,11])⟩ 56 [0,3,6,7,8] 134133333333 (pD [.ro .task,.ptr 0 0,.bor 3,.bool,.int]) [.box G6,.root .task] (fun m x k=>Fk n m x.1.1.2 (AK x.2.1) x.2.2.1 x.1.2.2.2.1 x.1.2.2.2.2.1 (fun w0 w1=>k (.exit 0) (eS 56 [0,3,6,7] [.ro x.1.1.1 .task x.1.1.2,.ptr 0 0,.bor 3,.bool w0] 134133333333 [.box (G6.make x.2.1),.root .task w1 .ok])))
theorem jA(n:Nat):RO (i9 n):=
 rL ⟨Go.Proofs.Tryz.f184,⟨[(0,[(0,.slot 0 .int)]),(1,[(1,cl 1 .bool 0)]),(2,[(0,.slot 1 .task)]),(3,[(0,.slot 2 .task)]),(9,[(2,.slot 4 .task),(3,.slot 5 .task)]),(11,[(5,.slot 6 .task),(6,.slot 7 .task)]),(13,[(2,.slot 8 .task),(3,.slot 9 .task)]),(14,[(1,cl 1 .bool 0)]),(15,[(0,.slot 10 .task),(2,.slot 11 .task)])],[(8,dr 12 [(8,[0],[]),(9,[0],[])])],[]⟩,12⟩ [mE n] n (ec (P3 n) en) Go.Proofs.Tryz.func184 (by kernel_rfl) ⟨AJ (fun m x k=>by kernel_rfl) (fun _ _=>rfl),trivial⟩ (fun x=>by kernel_rfl)
def D6{α:Type}(n:Nat):Nat→List Lock→Int→Int→(Option α)→(Option α)→Option α|0,_,_,_,_,_=>none|m0+1,v1,v2,v3,k0_0,k0_1=>cond (decide (v3<(v1.length:Int))) (cond (!(decide (v2=0))) (cond (decide (0≤v3)&&decide (v3<(v1.length:Int))) (let e4:=(decide ((List.getD v1 (Int.toNat v3) (Kd.dflt .lock)).Owner=v2));cond e4 k0_0 (D6 n m0 v1 v2 (w64 (v3+1)) k0_0 k0_1)) none) (D6 n m0 v1 v2 (w64 (v3+1)) k0_0 k0_1)) k0_1
def Js(n:Nat)(a0:List Lock)(a1:Int):Option (Bool×Unit):=D6 n n a0 a1 0 (some (true,())) (some (false,()))
def ig(n:Nat):Rw:=⟨186,pV [.ro .lock,.int],pS [.bool],fun x=>Js n x.1.2 x.2.1⟩
def lw(n:Nat):LS:=AI ⟨2,[0,1,5],[],[],[4],[]⟩ 23 [0,1,5] 0 (pD [.ro .lock,.int,.int]) [] (fun m x k=>D6 n m x.1.1.2 x.1.2.1 x.1.2.2.1 (k .ret (eS 23 [4] [.bool true] 0 [])) (k (.exit 0) (eS 23 [] [] 0 [])))
theorem UX(n:Nat):RO (ig n):=
 rL ⟨Go.Proofs.Tryz.f186,⟨[],[],[]⟩,0⟩ [lw n] n en Go.Proofs.Tryz.func186 (by kernel_rfl) ⟨AJ (fun m x k=>by kernel_rfl) (fun _ _=>rfl),trivial⟩ (fun x=>by kernel_rfl)
def MO(n:Nat)(a0:Sys)(a1:Int)(a2:Int):Option (Bool×Unit):=(CF n a0.Tasks a2).bind fun r1=>(Ag a1 0 (w64 ((a0.Locks.length:Int)-1))).bind fun r2=>cond (!r2.1) (some (false,())) (cond (decide (r1.1<0)) (some (false,())) (cond (decide (0≤a1)&&decide (a1<(a0.Locks.length:Int))) ((CF n a0.Tasks ((List.getD a0.Locks (Int.toNat a1) (Kd.dflt .lock)).Owner)).bind fun r3=>cond (decide (0≤a1)&&decide (a1<(a0.Locks.length:Int))) (let e4:=(decide ((List.getD a0.Locks (Int.toNat a1) (Kd.dflt .lock)).Owner=0));cond e4 (some (true,())) (cond (decide (0≤r3.1)) (cond (decide (0≤r3.1)&&decide (r3.1<(a0.Tasks.length:Int))) (cond (decide (0≤r1.1)&&decide (r1.1<(a0.Tasks.length:Int))) (let e5:=(decide ((List.getD a0.Tasks (Int.toNat r3.1) (Kd.dflt .task)).Cpu=(List.getD a0.Tasks (Int.toNat r1.1) (Kd.dflt .task)).Cpu));some (e5,())) none) none) (some (false,())))) none) none))
def ii(n:Nat):Rw:=⟨187,pV [Ae,.int,.int],pS [.bool],fun x=>MO n (AX x.1) x.2.1 x.2.2.1⟩
theorem ij(n:Nat):RO (ii n):=
 rE ⟨Go.Proofs.Tryz.f187,⟨[(0,[(0,.slot 0 .int)]),(1,[(3,cl 2 .int 0)]),(2,[(5,cl 3 .bool 0)]),(4,[(8,cl 2 .int 0)])],[(4,dr 10 [(0,[0],[]),(1,[0],[]),(2,[0],[]),(3,[0],[])]),(5,dr 27 [(0,[0],[]),(1,[0],[]),(11,[0],[]),(12,[0],[]),(17,[0],[]),(18,[0],[])])],[]⟩,1⟩ n (ec (Gu n) (ec Bi en)) Go.Proofs.Tryz.func187 (by kernel_rfl) (fun x=>by kernel_rfl)
def Dd{α:Type}(n:Nat):Nat→List Lock→Int→List Int→Int→(List Int→Option α)→(List Int→Option α)→Option α|0,_,_,_,_,_,_=>none|m0+1,v1,v2,v3,v4,k0_0,k0_1=>cond (decide (v4≤(v1.length:Int))) ((DW n v1 v2).bind fun r5=>cond (decide (r5.1<0)) (k0_0 v3) (cond (decide (0≤r5.1)&&decide (r5.1<(v1.length:Int))) (let e6:=([(List.getD v1 (Int.toNat r5.1) (Kd.dflt .lock)).Owner]:List Int);cond (decide ((v3).length+(e6).length≤lim)) (Dd n m0 v1 ((List.getD v1 (Int.toNat r5.1) (Kd.dflt .lock)).Owner) (v3++e6) (w64 (v4+1)) k0_0 k0_1) none) none)) (k0_1 v3)
def Oo(n:Nat)(a0:List Lock)(a1:Int):Option ((List Int×Bool×Unit)×Unit):=Dd n n a0 a1 ([a1]:List Int) 0 (fun w7=>some ((w7,true,()),())) (fun w8=>some ((w8,false,()),()))
def jk(n:Nat):Rw:=⟨169,pV [.ro .lock,.int],q26,fun x=>Oo n x.1.2 x.2.1⟩
def mM(n:Nat):LS:=AI ⟨3,[0,1,6,7],[(.t 6,1,.int)],[2,3],[4,5,6],[1,2,3]⟩ 33 [0,1,6,7] 4133 (pD [.ro .lock,.int,.bor 1,.int]) [.root .int] (fun m x k=>Dd n m x.1.1.2 x.1.2.1 x.2.1 x.1.2.2.2.1 (fun w0=>k .ret (eS 33 [4,5,6] [.bor 1,.bool true,.bor 1] 4133 [.root .int w0 .ok])) (fun w0=>k (.exit 0) (eS 33 [6] [.bor 1] 4133 [.root .int w0 .ok])))
theorem jl(n:Nat):RO (jk n):=
 rL ⟨Go.Proofs.Tryz.f169,⟨[(1,[(1,.slot 0 .int)]),(5,[(2,cl 2 .int 0)]),(9,[(2,.slot 2 .int),(3,.slot 3 .int)])],[],[]⟩,4⟩ [mM n] n (ec (Fy n) en) Go.Proofs.Tryz.func169 (by kernel_rfl) ⟨AJ (fun m x k=>by kernel_rfl) (fun _ _=>rfl),trivial⟩ (fun x=>by kernel_rfl)
def MA(n:Nat)(a0:List Lock)(a1:Int):Option (List Int×Unit):=(GQ n a0).bind fun r1=>cond (!r1.1) (some (([]:List Int),())) ((Oo n a0 a1).bind fun r2=>some (r2.1.1,()))
def g6(n:Nat):Rw:=⟨216,pV [.ro .lock,.int],q3,fun x=>MA n x.1.2 x.2.1⟩
theorem g7(n:Nat):RO (g6 n):=
 rE ⟨Go.Proofs.Tryz.f216,⟨[(1,[(1,cl 1 .bool 0)]),(2,[(0,.slot 0 .int)]),(3,[(2,(.call [.ro,.ro] (.tup q25) [] [some 1]))])],[],[]⟩,2⟩ n (ec (NL n) (ec (jl n) en)) Go.Proofs.Tryz.func216 (by kernel_rfl) (fun x=>by kernel_rfl)
def MJ(n:Nat)(a0:List Lock)(a1:Int)(a2:Int):Option ((List Lock×Int×Unit)×Unit):=(GQ n a0).bind fun r1=>cond (!r1.1) (some ((([]:List Lock),2,()),())) ((HX n a0).bind fun r2=>(Ag a1 0 (w64 ((a0.length:Int)-1))).bind fun r3=>cond (!r3.1) (some ((r2.1,2,()),())) ((Ag a2 1 1000).bind fun r4=>cond (!r4.1) (some ((r2.1,2,()),())) ((DW n a0 a2).bind fun r5=>cond (decide (0≤r5.1)) (some ((r2.1,2,()),())) (cond (decide (0≤a1)&&decide (a1<(a0.length:Int))) (let e6:=(decide ((List.getD a0 (Int.toNat a1) (Kd.dflt .lock)).Owner=a2));cond e6 (some ((r2.1,3,()),())) (cond (decide (0≤a1)&&decide (a1<(a0.length:Int))) (let e7:=(decide ((List.getD a0 (Int.toNat a1) (Kd.dflt .lock)).Owner=0));cond e7 (cond (decide (0≤a1)&&decide (a1<(r2.1.length:Int))) (cond (decide ((Int.toNat a1)<(r2.1).length)) (let e8:=(List.set r2.1 (Int.toNat a1) (⟨a2,(List.getD r2.1 (Int.toNat a1) (Kd.dflt .lock)).Waits⟩:Lock));some ((e8,0,()),())) none) none) (cond (decide (0≤a1)&&decide (a1<(a0.length:Int))) ((MA n a0 ((List.getD a0 (Int.toNat a1) (Kd.dflt .lock)).Owner)).bind fun r9=>(FM n r9.1 a2).bind fun r10=>cond r10.1 (some ((r2.1,4,()),())) (cond (decide (0≤a1)&&decide (a1<(r2.1.length:Int))) (cond (decide (((List.getD r2.1 (Int.toNat a1) (Kd.dflt .lock)).Waits).length+(([a2]:List Int)).length≤lim)) (let e11:=((List.getD r2.1 (Int.toNat a1) (Kd.dflt .lock)).Waits++([a2]:List Int));cond (decide (0≤a1)&&decide (a1<(r2.1.length:Int))) (cond (decide ((Int.toNat a1)<(r2.1).length)) (cond (((decide ((Int.toNat a1)=(Int.toNat a1)))&&true)&&true) (let e12:=(List.set r2.1 (Int.toNat a1) (⟨(List.getD r2.1 (Int.toNat a1) (Kd.dflt .lock)).Owner,e11⟩:Lock));some ((e12,1,()),())) none) none) none) none) none)) none)) none)) none))))
def iS(n:Nat):Rw:=⟨188,pV [.ro .lock,.int,.int],Ta,fun x=>MJ n x.1.2 x.2.1 x.2.2.1⟩
theorem iT(n:Nat):RO (iS n):=
 rE ⟨Go.Proofs.Tryz.f188,⟨[(1,[(1,cl 1 .bool 0)]),(2,[(0,.slot 0 .lock)]),(3,[(1,TZ)]),(4,[(4,cl 3 .bool 0),(8,cl 3 .bool 0),(14,cl 2 .int 0)]),(11,[(6,(cl 2 (.own .int) 1)),(8,cl 2 .bool 0)]),(13,[(8,.slot 2 .int),(9,.slot 3 .int)])],[],[]⟩,4⟩ n (ec (NL n) (ec (P7 n) (ec Bi (ec (Fy n) (ec (g7 n) (ec (NQ n) en)))))) Go.Proofs.Tryz.func188 (by kernel_rfl) (fun x=>by kernel_rfl)
def D4{α:Type}(n:Nat):Nat→List Task→List Int→Int→Int→(Int→Option α)→Option α|0,_,_,_,_,_=>none|m0+1,v1,v2,v3,v4,k0_0=>cond (decide (v4<(v1.length:Int))) ((Dq n v1).bind fun r5=>cond r5.1 (cond (decide (0≤v4)&&decide (v4<(v1.length:Int))) ((FM n v2 ((List.getD v1 (Int.toNat v4) (Kd.dflt .task)).No)).bind fun r6=>cond r6.1 (cond (decide (v3<0)) (D4 n m0 v1 v2 v4 (w64 (v4+1)) k0_0) (cond (decide (0≤v4)&&decide (v4<(v1.length:Int))) (cond (decide (0≤v3)&&decide (v3<(v1.length:Int))) ((GO (List.getD v1 (Int.toNat v4) (Kd.dflt .task)) (List.getD v1 (Int.toNat v3) (Kd.dflt .task))).bind fun r7=>cond r7.1 (D4 n m0 v1 v2 v4 (w64 (v4+1)) k0_0) (D4 n m0 v1 v2 v3 (w64 (v4+1)) k0_0)) none) none)) (D4 n m0 v1 v2 v3 (w64 (v4+1)) k0_0)) none) (k0_0 v3)) (k0_0 v3)
def L8(n:Nat)(a0:List Task)(a1:List Int):Option (Int×Unit):=D4 n n a0 a1 (-1) 0 (fun w8=>cond (decide (w8<0)) (some (0,())) (cond (decide (0≤w8)&&decide (w8<(a0.length:Int))) (some ((List.getD a0 (Int.toNat w8) (Kd.dflt .task)).No,())) none))
def gx(n:Nat):Rw:=⟨190,pV [.ro .task,.ro .int],pS [.int],fun x=>L8 n x.1.2 x.2.1.2⟩
def ln(n:Nat):LS:=AI ⟨3,[0,1,5,6],[],[],[0,5],[]⟩ 47 [0,1,5,6] 0 (pD [.ro .task,.ro .int,.int,.int]) [] (fun m x k=>D4 n m x.1.1.2 x.1.2.1.2 x.1.2.2.1 x.1.2.2.2.1 (fun w0=>k (.exit 0) (eS 47 [0,5] [.ro x.1.1.1 .task x.1.1.2,.int w0] 0 [])))
theorem gy(n:Nat):RO (gx n):=
 rL ⟨Go.Proofs.Tryz.f190,⟨[(3,[(6,cl 1 .bool 0)]),(5,[(6,cl 2 .bool 0),(19,cl 2 .bool 0)])],[(5,dr 22 [])],[]⟩,0⟩ [ln n] n (ec (P3 n) (ec (NQ n) (ec UT en))) Go.Proofs.Tryz.func190 (by kernel_rfl) ⟨AJ (fun m x k=>by kernel_rfl) (fun _ _=>rfl),trivial⟩ (fun x=>by kernel_rfl)
def Gk{α:Type}(n:Nat):Nat→List Int→Int→List Int→Int→(List Int→Option α)→Option α|0,_,_,_,_,_=>none|m0+1,v1,v2,v3,v4,k0_0=>cond (decide (v4<(v1.length:Int))) (cond (decide (0≤v4)&&decide (v4<(v1.length:Int))) (let e5:=(!(decide ((List.getD v1 (Int.toNat v4) (Kd.dflt .int))=v2)));cond e5 (cond (decide (0≤v4)&&decide (v4<(v1.length:Int))) (cond (decide ((v3).length+(([(List.getD v1 (Int.toNat v4) (Kd.dflt .int))]:List Int)).length≤lim)) (let e6:=(v3++([(List.getD v1 (Int.toNat v4) (Kd.dflt .int))]:List Int));Gk n m0 v1 v2 e6 (w64 (v4+1)) k0_0) none) none) (Gk n m0 v1 v2 v3 (w64 (v4+1)) k0_0)) none) (k0_0 v3)
def GY(n:Nat)(a0:List Int)(a1:Int):Option (List Int×Unit):=Gk n n a0 a1 ([]:List Int) 0 (fun w7=>some (w7,()))
def jq(n:Nat):Rw:=⟨217,pV [.ro .int,.int],q3,fun x=>GY n x.1.2 x.2.1⟩
def mQ(n:Nat):LS:=AI ⟨3,[0,1,5,6],[(.t 5,1,.int)],[2,3],[5],[1,2,3]⟩ 28 [0,1,5,6] 4133 (pD [.ro .int,.int,.bor 1,.int]) [.root .int] (fun m x k=>Gk n m x.1.1.2 x.1.2.1 x.2.1 x.1.2.2.2.1 (fun w0=>k (.exit 0) (eS 28 [5] [.bor 1] 4133 [.root .int w0 .ok])))
theorem jr(n:Nat):RO (jq n):=
 rL ⟨Go.Proofs.Tryz.f217,⟨[(1,[(0,.slot 0 .int)]),(6,[(5,.slot 2 .int),(6,.slot 3 .int)])],[],[]⟩,4⟩ [mQ n] n en Go.Proofs.Tryz.func217 (by kernel_rfl) ⟨AJ (fun m x k=>by kernel_rfl) (fun _ _=>rfl),trivial⟩ (fun x=>by kernel_rfl)
end Go.Proofs.YtbbgaleennfklaaGreat.VR
end
section
set_option linter.unusedVariables false
set_option maxRecDepth 100000
namespace Go.Proofs.YtbbgaleennfklaaGreat.VR
open Go
def MK(n:Nat)(a0:List Lock)(a1:Int)(a2:Int)(a3:Int):Option ((List Lock×Bool×Unit)×Unit):=(GQ n a0).bind fun r1=>cond (!r1.1) (some ((([]:List Lock),false,()),())) ((HX n a0).bind fun r2=>(Ag a1 0 (w64 ((a0.length:Int)-1))).bind fun r3=>cond (!r3.1) (some ((r2.1,false,()),())) (cond (decide (a2=0)) (some ((r2.1,false,()),())) (cond (decide (0≤a1)&&decide (a1<(a0.length:Int))) (let e4:=(!(decide ((List.getD a0 (Int.toNat a1) (Kd.dflt .lock)).Owner=a2)));cond e4 (some ((r2.1,false,()),())) (cond (decide (0≤a1)&&decide (a1<(a0.length:Int))) (let e5:=(((List.getD a0 (Int.toNat a1) (Kd.dflt .lock)).Waits).length:Int);cond (decide (e5=0)) (cond (!(decide (a3=0))) (some ((r2.1,false,()),())) (let e6:=(((List.getD a0 (Int.toNat a1) (Kd.dflt .lock)).Waits).length:Int);cond (decide (0<e6)) ((FM n ((List.getD a0 (Int.toNat a1) (Kd.dflt .lock)).Waits) a3).bind fun r7=>cond (!r7.1) (some ((r2.1,false,()),())) ((GY n ((List.getD a0 (Int.toNat a1) (Kd.dflt .lock)).Waits) a3).bind fun r8=>cond (decide (0≤a1)&&decide (a1<(r2.1.length:Int))) (cond (decide ((Int.toNat a1)<(r2.1).length)) (some (((List.set r2.1 (Int.toNat a1) (⟨a3,r8.1⟩:Lock)),true,()),())) none) none)) ((GY n ((List.getD a0 (Int.toNat a1) (Kd.dflt .lock)).Waits) a3).bind fun r9=>cond (decide (0≤a1)&&decide (a1<(r2.1.length:Int))) (cond (decide ((Int.toNat a1)<(r2.1).length)) (some (((List.set r2.1 (Int.toNat a1) (⟨a3,r9.1⟩:Lock)),true,()),())) none) none))) (let e10:=(((List.getD a0 (Int.toNat a1) (Kd.dflt .lock)).Waits).length:Int);cond (decide (0<e10)) ((FM n ((List.getD a0 (Int.toNat a1) (Kd.dflt .lock)).Waits) a3).bind fun r11=>cond (!r11.1) (some ((r2.1,false,()),())) ((GY n ((List.getD a0 (Int.toNat a1) (Kd.dflt .lock)).Waits) a3).bind fun r12=>cond (decide (0≤a1)&&decide (a1<(r2.1.length:Int))) (cond (decide ((Int.toNat a1)<(r2.1).length)) (some (((List.set r2.1 (Int.toNat a1) (⟨a3,r12.1⟩:Lock)),true,()),())) none) none)) ((GY n ((List.getD a0 (Int.toNat a1) (Kd.dflt .lock)).Waits) a3).bind fun r13=>cond (decide (0≤a1)&&decide (a1<(r2.1.length:Int))) (cond (decide ((Int.toNat a1)<(r2.1).length)) (some (((List.set r2.1 (Int.toNat a1) (⟨a3,r13.1⟩:Lock)),true,()),())) none) none))) none)) none)))
def iU(n:Nat):Rw:=⟨189,pV [.ro .lock,.int,.int,.int],Td,fun x=>MK n x.1.2 x.2.1 x.2.2.1 x.2.2.2.1⟩
theorem iV(n:Nat):RO (iU n):=
 rE ⟨Go.Proofs.Tryz.f189,⟨[(1,[(1,cl 1 .bool 0)]),(2,[(0,.slot 0 .lock)]),(3,[(1,TZ)]),(4,[(4,cl 3 .bool 0)]),(7,[(14,cl 2 .bool 0)]),(9,[(5,(.call [.ro,.ro] (.own .int) [] [some 2]))])],[],[]⟩,3⟩ n (ec (NL n) (ec (P7 n) (ec Bi (ec (NQ n) (ec (jr n) en))))) Go.Proofs.Tryz.func189 (by kernel_rfl) (fun x=>by kernel_rfl)
def MD(a0:Task)(a1:Int)(a2:Int)(a3:Int):Option (A8×Unit):=(DX a0).bind fun r1=>cond (!r1.1) (some ((AN a0),())) ((Ag a1 0 3).bind fun r2=>cond (!r2.1) (some ((AN a0),())) ((Ag a2 0 100000000).bind fun r3=>cond (!r3.1) (some ((AN a0),())) ((Ag a3 0 100000000).bind fun r4=>cond (!r4.1) (some ((AN a0),())) ((Dr (w64 (a0.V-a2)) 0).bind fun r5=>cond (decide (100000000<(w64 (a3+r5.1)))) (some ((AN a0),())) (some ((AN (⟨a0.No,a0.Class,a1,a0.State,a0.Idle,a0.Q,a0.P,a0.Left,a0.Due,a0.Prio,a0.Round,a0.Seq,a0.Nice,(w64 (a3+r5.1))⟩:Task)),()))))))
def iD:Rw:=⟨191,pV [Ac,.int,.int,.int],pS [.agg q0],fun x=>MD (AK x.1) x.2.1 x.2.2.1 x.2.2.2.1⟩
theorem iE:RO (iD):=
 rE ⟨Go.Proofs.Tryz.f191,⟨[(0,[(0,.slot 0 .int),(1,.slot 1 .int)]),(1,[(1,cl 1 .bool 0),(5,cl 3 .bool 0),(10,cl 3 .bool 0),(15,cl 3 .bool 0)]),(3,[(5,cl 2 .int 0)])],[],[]⟩,2⟩ 0 (ec Im (ec Bi (ec NO en))) Go.Proofs.Tryz.func191 (by kernel_rfl) (fun x=>by kernel_rfl)
def Mb(n:Nat)(a0:Sys)(a1:Call):Option ((Ah×Int×Unit)×Unit):=(MI a0 a1.Cpu).bind fun r1=>(MM a1.No a1.Cpu a1.A r1.1).bind fun r2=>cond (decide (a1.Kind=1)) ((ML a1.No a1.Cpu a1.A a1.B a0.Now).bind fun r3=>cond (decide (a0.Cpus≤a1.Cpu)) (some (((AA a0),1,()),())) (cond (!r3.1.2.1) (some (((AA a0),1,()),())) ((CF n a0.Tasks a1.No).bind fun r4=>cond (decide (0≤r4.1)) (some (((AA a0),3,()),())) ((GT n a0.Tasks (AK r3.1.1)).bind fun r5=>cond (decide (a1.Kind=1)) (cond r5.1.2.1 ((GZ n a0 a1.Cpu).bind fun r6=>cond (decide ((r6.1).length+(([(⟨a1.A,a1.B⟩:Share)]:List Share)).length≤lim)) ((FL n (r6.1++([(⟨a1.A,a1.B⟩:Share)]:List Share))).bind fun r7=>cond (!r7.1) (some (((AA a0),4,()),())) (cond (decide (a1.Kind=2)) (cond (decide (900000<a0.Seq)) (some (((AA a0),4,()),())) (cond (decide (a1.Kind=2)) (some (((AA (⟨a0.Now,a0.Cpus,r5.1.1,a0.Locks,a0.Ghosts,a0.Floors,(w64 (a0.Seq+1)),a0.Missed,a0.Trace⟩:Sys)),0,()),())) (some (((AA (⟨a0.Now,a0.Cpus,r5.1.1,a0.Locks,a0.Ghosts,a0.Floors,a0.Seq,a0.Missed,a0.Trace⟩:Sys)),0,()),())))) (cond (decide (a1.Kind=2)) (some (((AA (⟨a0.Now,a0.Cpus,r5.1.1,a0.Locks,a0.Ghosts,a0.Floors,(w64 (a0.Seq+1)),a0.Missed,a0.Trace⟩:Sys)),0,()),())) (some (((AA (⟨a0.Now,a0.Cpus,r5.1.1,a0.Locks,a0.Ghosts,a0.Floors,a0.Seq,a0.Missed,a0.Trace⟩:Sys)),0,()),()))))) none) (some (((AA a0),4,()),()))) (cond (!r5.1.2.1) (some (((AA a0),4,()),())) (cond (decide (a1.Kind=2)) (cond (decide (900000<a0.Seq)) (some (((AA a0),4,()),())) (cond (decide (a1.Kind=2)) (some (((AA (⟨a0.Now,a0.Cpus,r5.1.1,a0.Locks,a0.Ghosts,a0.Floors,(w64 (a0.Seq+1)),a0.Missed,a0.Trace⟩:Sys)),0,()),())) (some (((AA (⟨a0.Now,a0.Cpus,r5.1.1,a0.Locks,a0.Ghosts,a0.Floors,a0.Seq,a0.Missed,a0.Trace⟩:Sys)),0,()),())))) (cond (decide (a1.Kind=2)) (some (((AA (⟨a0.Now,a0.Cpus,r5.1.1,a0.Locks,a0.Ghosts,a0.Floors,(w64 (a0.Seq+1)),a0.Missed,a0.Trace⟩:Sys)),0,()),())) (some (((AA (⟨a0.Now,a0.Cpus,r5.1.1,a0.Locks,a0.Ghosts,a0.Floors,a0.Seq,a0.Missed,a0.Trace⟩:Sys)),0,()),()))))))))) (cond (decide (a1.Kind=2)) ((MN a1.No a1.Cpu a1.A a1.B (w64 (a0.Seq+1))).bind fun r8=>cond (decide (a0.Cpus≤a1.Cpu)) (some (((AA a0),1,()),())) (cond (!r8.1.2.1) (some (((AA a0),1,()),())) ((CF n a0.Tasks a1.No).bind fun r9=>cond (decide (0≤r9.1)) (some (((AA a0),3,()),())) ((GT n a0.Tasks (AK r8.1.1)).bind fun r10=>cond (decide (a1.Kind=1)) (cond r10.1.2.1 ((GZ n a0 a1.Cpu).bind fun r11=>cond (decide ((r11.1).length+(([(⟨a1.A,a1.B⟩:Share)]:List Share)).length≤lim)) ((FL n (r11.1++([(⟨a1.A,a1.B⟩:Share)]:List Share))).bind fun r12=>cond (!r12.1) (some (((AA a0),4,()),())) (cond (decide (a1.Kind=2)) (cond (decide (900000<a0.Seq)) (some (((AA a0),4,()),())) (cond (decide (a1.Kind=2)) (some (((AA (⟨a0.Now,a0.Cpus,r10.1.1,a0.Locks,a0.Ghosts,a0.Floors,(w64 (a0.Seq+1)),a0.Missed,a0.Trace⟩:Sys)),0,()),())) (some (((AA (⟨a0.Now,a0.Cpus,r10.1.1,a0.Locks,a0.Ghosts,a0.Floors,a0.Seq,a0.Missed,a0.Trace⟩:Sys)),0,()),())))) (cond (decide (a1.Kind=2)) (some (((AA (⟨a0.Now,a0.Cpus,r10.1.1,a0.Locks,a0.Ghosts,a0.Floors,(w64 (a0.Seq+1)),a0.Missed,a0.Trace⟩:Sys)),0,()),())) (some (((AA (⟨a0.Now,a0.Cpus,r10.1.1,a0.Locks,a0.Ghosts,a0.Floors,a0.Seq,a0.Missed,a0.Trace⟩:Sys)),0,()),()))))) none) (some (((AA a0),4,()),()))) (cond (!r10.1.2.1) (some (((AA a0),4,()),())) (cond (decide (a1.Kind=2)) (cond (decide (900000<a0.Seq)) (some (((AA a0),4,()),())) (cond (decide (a1.Kind=2)) (some (((AA (⟨a0.Now,a0.Cpus,r10.1.1,a0.Locks,a0.Ghosts,a0.Floors,(w64 (a0.Seq+1)),a0.Missed,a0.Trace⟩:Sys)),0,()),())) (some (((AA (⟨a0.Now,a0.Cpus,r10.1.1,a0.Locks,a0.Ghosts,a0.Floors,a0.Seq,a0.Missed,a0.Trace⟩:Sys)),0,()),())))) (cond (decide (a1.Kind=2)) (some (((AA (⟨a0.Now,a0.Cpus,r10.1.1,a0.Locks,a0.Ghosts,a0.Floors,(w64 (a0.Seq+1)),a0.Missed,a0.Trace⟩:Sys)),0,()),())) (some (((AA (⟨a0.Now,a0.Cpus,r10.1.1,a0.Locks,a0.Ghosts,a0.Floors,a0.Seq,a0.Missed,a0.Trace⟩:Sys)),0,()),()))))))))) (cond (decide (a0.Cpus≤a1.Cpu)) (some (((AA a0),1,()),())) (cond (!r2.1.2.1) (some (((AA a0),1,()),())) ((CF n a0.Tasks a1.No).bind fun r13=>cond (decide (0≤r13.1)) (some (((AA a0),3,()),())) ((GT n a0.Tasks (AK r2.1.1)).bind fun r14=>cond (decide (a1.Kind=1)) (cond r14.1.2.1 ((GZ n a0 a1.Cpu).bind fun r15=>cond (decide ((r15.1).length+(([(⟨a1.A,a1.B⟩:Share)]:List Share)).length≤lim)) ((FL n (r15.1++([(⟨a1.A,a1.B⟩:Share)]:List Share))).bind fun r16=>cond (!r16.1) (some (((AA a0),4,()),())) (cond (decide (a1.Kind=2)) (cond (decide (900000<a0.Seq)) (some (((AA a0),4,()),())) (cond (decide (a1.Kind=2)) (some (((AA (⟨a0.Now,a0.Cpus,r14.1.1,a0.Locks,a0.Ghosts,a0.Floors,(w64 (a0.Seq+1)),a0.Missed,a0.Trace⟩:Sys)),0,()),())) (some (((AA (⟨a0.Now,a0.Cpus,r14.1.1,a0.Locks,a0.Ghosts,a0.Floors,a0.Seq,a0.Missed,a0.Trace⟩:Sys)),0,()),())))) (cond (decide (a1.Kind=2)) (some (((AA (⟨a0.Now,a0.Cpus,r14.1.1,a0.Locks,a0.Ghosts,a0.Floors,(w64 (a0.Seq+1)),a0.Missed,a0.Trace⟩:Sys)),0,()),())) (some (((AA (⟨a0.Now,a0.Cpus,r14.1.1,a0.Locks,a0.Ghosts,a0.Floors,a0.Seq,a0.Missed,a0.Trace⟩:Sys)),0,()),()))))) none) (some (((AA a0),4,()),()))) (cond (!r14.1.2.1) (some (((AA a0),4,()),())) (cond (decide (a1.Kind=2)) (cond (decide (900000<a0.Seq)) (some (((AA a0),4,()),())) (cond (decide (a1.Kind=2)) (some (((AA (⟨a0.Now,a0.Cpus,r14.1.1,a0.Locks,a0.Ghosts,a0.Floors,(w64 (a0.Seq+1)),a0.Missed,a0.Trace⟩:Sys)),0,()),())) (some (((AA (⟨a0.Now,a0.Cpus,r14.1.1,a0.Locks,a0.Ghosts,a0.Floors,a0.Seq,a0.Missed,a0.Trace⟩:Sys)),0,()),())))) (cond (decide (a1.Kind=2)) (some (((AA (⟨a0.Now,a0.Cpus,r14.1.1,a0.Locks,a0.Ghosts,a0.Floors,(w64 (a0.Seq+1)),a0.Missed,a0.Trace⟩:Sys)),0,()),())) (some (((AA (⟨a0.Now,a0.Cpus,r14.1.1,a0.Locks,a0.Ghosts,a0.Floors,a0.Seq,a0.Missed,a0.Trace⟩:Sys)),0,()),()))))))))))
def jS(n:Nat):Rw:=⟨136,pA [.agg (pA [.v .int,.v .int,.own .task,.own .lock,.own .ghost,.own .int,.v .int,.v .int,.own .turn]),.v Ba],DI,fun x=>Mb n (AC x.1) (Az x.2.1)⟩
theorem jT(n:Nat):RO (jS n):=
 rE ⟨Go.Proofs.Tryz.f136,⟨[(0,[(0,.slot 5 .int),(1,.slot 6 .int),(2,.slot 7 .int)]),(1,[(9,cl 2 .int 0),(10,Te),(14,.slot 8 .int)]),(4,[(10,M8)]),(6,[(11,M8)]),(9,[(4,cl 2 .int 0)]),(11,[(3,(.call [.ro,.ro] (.tup Pk) [] [some 9]))]),(13,[(5,(.call [.ro,.ro] (.own .share) [] [some 10])),(11,.slot 11 .share),(12,.slot 12 .share),(13,cl 1 .bool 0)])],[(1,dr 17 [(0,[6],[]),(1,[6],[]),(2,[6],[]),(3,[6],[]),(4,[6],[]),(5,[6],[]),(6,[5],[]),(7,[6],[]),(8,[6],[]),(9,[0,1,2,3,4],[]),(14,[8],[8]),(15,[8],[8])]),(13,dr 16 [(2,[5],[]),(3,[6],[]),(4,[6],[]),(5,[0,1,2,3,4,10],[10]),(6,[6],[]),(7,[6],[]),(8,[6],[]),(9,[6],[]),(11,[11],[11]),(12,[10,11,12],[10,12]),(13,[12],[])])],[]⟩,13⟩ n (ec iR (ec ia (ec iY (ec (Gu n) (ec (jA n) (ec (kB n) (ec (UW n) (ec ic en)))))))) Go.Proofs.Tryz.func136 (by kernel_rfl) (fun x=>by kernel_rfl)
def Fh{α:Type}(n:Nat):Nat→Sys→Sys→Sys→Int→(List Ghost→Option α)→Option α|0,_,_,_,_,_=>none|m0+1,v3,v4,v5,v6,k0_0=>cond (decide (v6<(v3.Ghosts.length:Int))) (cond (decide (0≤v6)&&decide (v6<(v3.Ghosts.length:Int))) (let e7:=(decide (v3.Now<(List.getD v3.Ghosts (Int.toNat v6) (Kd.dflt .ghost)).Until));cond e7 (cond (decide (0≤v6)&&decide (v6<(v3.Ghosts.length:Int))) (let e8:=([(List.getD v3.Ghosts (Int.toNat v6) (Kd.dflt .ghost))]:List Ghost);cond (decide ((v5.Ghosts).length+(e8).length≤lim)) (Fh n m0 v3 (⟨v4.Now,v4.Cpus,[],[],[],[],v4.Seq,v4.Missed,[]⟩:Sys) (⟨v5.Now,v5.Cpus,v5.Tasks,v5.Locks,(v5.Ghosts++e8),v5.Floors,v5.Seq,v5.Missed,v5.Trace⟩:Sys) (w64 (v6+1)) k0_0) none) none) (Fh n m0 v3 (⟨v4.Now,v4.Cpus,[],[],[],[],v4.Seq,v4.Missed,[]⟩:Sys) v5 (w64 (v6+1)) k0_0)) none) (k0_0 v5.Ghosts)
def Db{α:Type}(n:Nat):Nat→Sys→Sys→Sys→Int→(List Task→Int→Option α)→Option α|0,_,_,_,_,_=>none|m1+1,v10,v11,v12,v13,k1_0=>cond (decide (v13<(v12.Tasks.length:Int))) (cond (decide (0≤v13)&&decide (v13<(v12.Tasks.length:Int))) (let e14:=(!(decide ((List.getD v12.Tasks (Int.toNat v13) (Kd.dflt .task)).Class=1)));cond e14 (Db n m1 v10 (⟨v11.Now,v11.Cpus,[],[],[],[],v11.Seq,v11.Missed,[]⟩:Sys) v12 (w64 (v13+1)) k1_0) (cond ((List.getD v12.Tasks (Int.toNat v13) (Kd.dflt .task)).Idle) (Db n m1 v10 (⟨v11.Now,v11.Cpus,[],[],[],[],v11.Seq,v11.Missed,[]⟩:Sys) v12 (w64 (v13+1)) k1_0) (let e15:=(decide (v10.Now<(List.getD v12.Tasks (Int.toNat v13) (Kd.dflt .task)).Due));cond e15 (Db n m1 v10 (⟨v11.Now,v11.Cpus,[],[],[],[],v11.Seq,v11.Missed,[]⟩:Sys) v12 (w64 (v13+1)) k1_0) (let e16:=(decide (0<(List.getD v12.Tasks (Int.toNat v13) (Kd.dflt .task)).Left));cond e16 ((GV (w64 (v12.Missed+1)) 100000).bind fun r17=>(GP (List.getD v12.Tasks (Int.toNat v13) (Kd.dflt .task)) v10.Now).bind fun r18=>cond (decide (0≤v13)&&decide (v13<(v12.Tasks.length:Int))) (cond (decide ((Int.toNat v13)<(v12.Tasks).length)) (Db n m1 v10 (⟨v11.Now,v11.Cpus,[],[],[],[],v11.Seq,v11.Missed,[]⟩:Sys) (⟨v12.Now,v12.Cpus,(List.set v12.Tasks (Int.toNat v13) (AK r18.1)),v12.Locks,v12.Ghosts,v12.Floors,v12.Seq,r17.1,v12.Trace⟩:Sys) (w64 (v13+1)) k1_0) none) none) ((GP (List.getD v12.Tasks (Int.toNat v13) (Kd.dflt .task)) v10.Now).bind fun r19=>cond (decide (0≤v13)&&decide (v13<(v12.Tasks.length:Int))) (cond (decide ((Int.toNat v13)<(v12.Tasks).length)) (Db n m1 v10 (⟨v11.Now,v11.Cpus,[],[],[],[],v11.Seq,v11.Missed,[]⟩:Sys) (⟨v12.Now,v12.Cpus,(List.set v12.Tasks (Int.toNat v13) (AK r19.1)),v12.Locks,v12.Ghosts,v12.Floors,v12.Seq,v12.Missed,v12.Trace⟩:Sys) (w64 (v13+1)) k1_0) none) none))))) none) (k1_0 v12.Tasks v12.Missed)
def IL{α:Type}(n:Nat):Nat→Sys→Sys→Int→(List Int→Option α)→Option α|0,_,_,_,_=>none|m2+1,v23,v24,v25,k2_0=>cond (decide (v25<v24.Cpus)) ((HV n v24 v25).bind fun r26=>cond (decide (0≤v25)&&decide (v25<(v24.Floors.length:Int))) ((Jr n r26.1 (List.getD v24.Floors (Int.toNat v25) (Kd.dflt .int))).bind fun r27=>cond (decide (0≤v25)&&decide (v25<(v24.Floors.length:Int))) (cond (decide ((Int.toNat v25)<(v24.Floors).length)) (IL n m2 (⟨v23.Now,v23.Cpus,[],[],[],[],v23.Seq,v23.Missed,[]⟩:Sys) (⟨v24.Now,v24.Cpus,v24.Tasks,v24.Locks,v24.Ghosts,(List.set v24.Floors (Int.toNat v25) r27.1),v24.Seq,v24.Missed,v24.Trace⟩:Sys) (w64 (v25+1)) k2_0) none) none) none) (k2_0 v24.Floors)
def Fi{α:Type}(n:Nat):Nat→Sys→Sys→Int→(Int→Int→Int→Int→List Task→List Lock→List Ghost→List Int→List Turn→Option α)→Option α|0,_,_,_,_=>none|m3+1,v29,v30,v31,k3_0=>cond (decide (v31<v30.Cpus)) ((Ju n v30 v31).bind fun r32=>Fi n m3 (⟨v29.Now,v29.Cpus,[],[],[],[],v29.Seq,v29.Missed,[]⟩:Sys) (AC r32.1) (w64 (v31+1)) k3_0) (k3_0 v30.Now v30.Cpus v30.Seq v30.Missed v30.Tasks v30.Locks v30.Ghosts v30.Floors v30.Trace)
def MU(n:Nat)(a0:Sys):Option ((Ah×Bool×Unit)×Unit):=(EU n a0).bind fun r1=>cond (!r1.1) (some (((AA (⟨0,0,[],[],[],[],0,0,[]⟩:Sys)),false,()),())) ((FN n a0).bind fun r2=>cond (decide (a0.Now=100000)) (some (((AA (AC r2.1)),false,()),())) (cond (decide (900000<a0.Seq)) (some (((AA (AC r2.1)),false,()),())) (cond (decide (400<(w64 ((a0.Trace.length:Int)+a0.Cpus)))) (some (((AA (AC r2.1)),false,()),())) (Fh n n a0 (⟨0,0,[],[],[],[],0,0,[]⟩:Sys) (⟨(AC r2.1).Now,(AC r2.1).Cpus,(AC r2.1).Tasks,(AC r2.1).Locks,([]:List Ghost),(AC r2.1).Floors,(AC r2.1).Seq,(AC r2.1).Missed,(AC r2.1).Trace⟩:Sys) 0 (fun w9=>Db n n a0 (⟨0,0,[],[],[],[],0,0,[]⟩:Sys) (⟨(AC r2.1).Now,(AC r2.1).Cpus,(AC r2.1).Tasks,(AC r2.1).Locks,w9,(AC r2.1).Floors,(AC r2.1).Seq,(AC r2.1).Missed,(AC r2.1).Trace⟩:Sys) 0 (fun w20 w21=>(GU n (⟨(AC r2.1).Now,(AC r2.1).Cpus,w20,(AC r2.1).Locks,w9,(AC r2.1).Floors,(AC r2.1).Seq,w21,(AC r2.1).Trace⟩:Sys)).bind fun r22=>IL n n (⟨0,0,[],[],[],[],0,0,[]⟩:Sys) (AC r22.1) 0 (fun w28=>Fi n n (⟨0,0,[],[],[],[],0,0,[]⟩:Sys) (⟨(AC r22.1).Now,(AC r22.1).Cpus,(AC r22.1).Tasks,(AC r22.1).Locks,(AC r22.1).Ghosts,w28,(AC r22.1).Seq,(AC r22.1).Missed,(AC r22.1).Trace⟩:Sys) 0 (fun w33 w34 w35 w36 w37 w38 w39 w40 w41=>some (((AA (⟨(w64 (w33+1)),w34,w37,w38,w39,w40,w35,w36,w41⟩:Sys)),true,()),())))))))))
def iz(n:Nat):Rw:=⟨12,pV [Ae],q73,fun x=>MU n (AX x.1)⟩
def l6(n:Nat):LS:=AI ⟨8,[1,2,4,5],[(.c 7 4,8,.ghost)],[9,10],[1,2,4],q74⟩ 138 [1,2,4,5] 111141111333333333333333333 (pD [.ptr 0 0,.ptr 1 0,.ptr 7 0,.int]) [.box Af,q64,.root .task,.root .lock,.root .int,.root .turn,q75,.root .ghost] (fun m x k=>Fh n m (AX x.2.1) (⟨x.2.2.1.1,x.2.2.1.2.1,[],[],[],[],x.2.2.1.2.2.2.2.2.2.1,x.2.2.1.2.2.2.2.2.2.2.1,[]⟩:Sys) (⟨x.2.2.2.2.2.2.2.1.1,x.2.2.2.2.2.2.2.1.2.1,x.2.2.2.1,x.2.2.2.2.1,x.2.2.2.2.2.2.2.2.1,x.2.2.2.2.2.1,x.2.2.2.2.2.2.2.1.2.2.2.2.2.2.1,x.2.2.2.2.2.2.2.1.2.2.2.2.2.2.2.1,x.2.2.2.2.2.2.1⟩:Sys) x.1.2.2.2.1 (fun w0=>k (.exit 0) (eS 138 [1,2,4] [.ptr 0 0,.ptr 1 0,.ptr 7 0] 111141111333333333333333333 [.box (Af.make x.2.1),DE.make q64 x.2.2.1,.root .task x.2.2.2.1 .ok,.root .lock x.2.2.2.2.1 .ok,.root .int x.2.2.2.2.2.1 .ok,.root .turn x.2.2.2.2.2.2.1 .ok,DE.make q75 x.2.2.2.2.2.2.2.1,.root .ghost w0 .ok])))
def l7(n:Nat):LS:=AI ⟨13,[1,2,4,6],[],[11],[2,4],q76⟩ 138 [1,2,4,6] 111141111333333333333333333 (pD [.ptr 0 0,.ptr 1 0,.ptr 7 0,.int]) [.box Af,q64,.root .task,.root .lock,.root .int,.root .turn,q75,.root .ghost] (fun m x k=>Db n m (AX x.2.1) (⟨x.2.2.1.1,x.2.2.1.2.1,[],[],[],[],x.2.2.1.2.2.2.2.2.2.1,x.2.2.1.2.2.2.2.2.2.2.1,[]⟩:Sys) (⟨x.2.2.2.2.2.2.2.1.1,x.2.2.2.2.2.2.2.1.2.1,x.2.2.2.1,x.2.2.2.2.1,x.2.2.2.2.2.2.2.2.1,x.2.2.2.2.2.1,x.2.2.2.2.2.2.2.1.2.2.2.2.2.2.1,x.2.2.2.2.2.2.2.1.2.2.2.2.2.2.2.1,x.2.2.2.2.2.2.1⟩:Sys) x.1.2.2.2.1 (fun w0 w1=>k (.exit 2) (eS 138 [2,4] [.ptr 1 0,.ptr 7 0] 411141111333333333333333333 [DE.make q64 x.2.2.1,.root .task w0 .ok,.root .lock x.2.2.2.2.1 .ok,.root .int x.2.2.2.2.2.1 .ok,.root .turn x.2.2.2.2.2.2.1 .ok,.box [.int x.2.2.2.2.2.2.2.1.1,.int x.2.2.2.2.2.2.2.1.2.1,.bor 2,.bor 3,.bor 8,.bor 5,.int x.2.2.2.2.2.2.2.1.2.2.2.2.2.2.1,.int w1,.bor 6],.root .ghost x.2.2.2.2.2.2.2.2.1 .ok])))
def l8(n:Nat):LS:=AI ⟨22,[2,4,8],[],[],[2,4],q77⟩ 138 [2,4,8] 414444414333111113333333333 (pD [.ptr 1 0,.ptr 7 0,.int]) [q64,q78,.root .task,.root .lock,.root .ghost,.root .int,.root .turn] (fun m x k=>IL n m (⟨x.2.1.1,x.2.1.2.1,[],[],[],[],x.2.1.2.2.2.2.2.2.1,x.2.1.2.2.2.2.2.2.2.1,[]⟩:Sys) (⟨x.2.2.1.1,x.2.2.1.2.1,x.2.2.2.1,x.2.2.2.2.1,x.2.2.2.2.2.1,x.2.2.2.2.2.2.1,x.2.2.1.2.2.2.2.2.2.1,x.2.2.1.2.2.2.2.2.2.2.1,x.2.2.2.2.2.2.2.1⟩:Sys) x.1.2.2.1 (fun w0=>k (.exit 4) (eS 138 [2,4] [.ptr 1 0,.ptr 7 0] 414444414333111113333333333 [DE.make q64 x.2.1,DE.make q78 x.2.2.1,.root .task x.2.2.2.1 .ok,.root .lock x.2.2.2.2.1 .ok,.root .ghost x.2.2.2.2.2.1 .ok,.root .int w0 .ok,.root .turn x.2.2.2.2.2.2.2.1 .ok])))
def l9(n:Nat):LS:=AI ⟨26,[2,4,9],[(.c 7 2,17,.task),(.c 7 3,18,.lock),(.c 7 4,19,.ghost),(.c 7 5,20,.int),(.c 7 8,21,.turn)],q79,[2,4],q80⟩ 138 [2,4,9] 414444414333444441111133333 (pD [.ptr 1 0,.ptr 7 0,.int]) [q64,q81,.root .task,.root .lock,.root .ghost,.root .int,.root .turn] (fun m x k=>Fi n m (⟨x.2.1.1,x.2.1.2.1,[],[],[],[],x.2.1.2.2.2.2.2.2.1,x.2.1.2.2.2.2.2.2.2.1,[]⟩:Sys) (⟨x.2.2.1.1,x.2.2.1.2.1,x.2.2.2.1,x.2.2.2.2.1,x.2.2.2.2.2.1,x.2.2.2.2.2.2.1,x.2.2.1.2.2.2.2.2.2.1,x.2.2.1.2.2.2.2.2.2.2.1,x.2.2.2.2.2.2.2.1⟩:Sys) x.1.2.2.1 (fun w0 w1 w2 w3 w4 w5 w6 w7 w8=>k (.exit 6) (eS 138 [2,4] [.ptr 1 0,.ptr 7 0] 414444414333444441111133333 [DE.make q64 x.2.1,.box [.int w0,.int w1,.bor 17,.bor 18,.bor 19,.bor 20,.int w2,.int w3,.bor 21],.root .task w4 .ok,.root .lock w5 .ok,.root .ghost w6 .ok,.root .int w7 .ok,.root .turn w8 .ok])))
theorem i3(n:Nat):RO (iz n):=
 rL ⟨Go.Proofs.Tryz.f12,⟨[(0,[(0,.slot 0 .int),(1,.slot 1 .int)]),(1,[(1,cl 1 .bool 0)]),(3,[(1,q62),(2,.slot 7 .int)]),(11,[(7,.slot 9 .ghost),(8,.slot 10 .ghost)]),(15,[(5,.slot 11 .int)]),(18,[(3,cl 2 .int 0)]),(19,[(6,q61)]),(20,[(1,q70)]),(24,[(5,q38),(11,cl 2 .int 0)]),(28,[(2,q71)])],[(10,dr 9 [(0,[0],[]),(1,[0],[]),(6,[0],[]),(7,[0],[])]),(11,dr 11 [(0,[7],[]),(1,[7],[]),(2,[0],[]),(3,[0],[]),(7,[9],[9]),(8,[8,9,10],[8,10]),(9,[7],[]),(10,[7,10],[7])]),(19,dr 9 [(0,[7],[]),(1,[7],[]),(3,[11],[]),(4,[0],[]),(5,[0],[]),(7,[2],[]),(8,[2],[2])]),(24,dr 14 [(0,[7],[]),(1,[7],[]),(3,[7],[]),(5,[12,13,14,15,16],[]),(6,[7],[]),(7,[7],[]),(9,[15],[]),(10,[15],[]),(12,[15],[]),(13,[15],[15])])],[]⟩,27⟩ [l6 n,l7 n,l8 n,l9 n] n (ec (Ik n) (ec (KQ n) (ec P5 (ec UU (ec (Ua n) (ec (P4 n) (ec (UV n) (ec (UZ n) en)))))))) Go.Proofs.Tryz.func12 (by kernel_rfl) ⟨AJ (fun m x k=>by kernel_rfl) (fun _ _=>rfl),AJ (fun m x k=>by kernel_rfl) (fun _ _=>rfl),AJ (fun m x k=>by kernel_rfl) (fun _ _=>rfl),AJ (fun m x k=>by kernel_rfl) (fun _ _=>rfl),trivial⟩ (fun x=>by kernel_rfl)
def IN{α:Type}(n:Nat):Nat→Int→Sys→Sys→Int→(Int→Int→Int→Int→Int→Int→Int→Int→Int→Int→List Task→List Lock→List Ghost→List Int→List Turn→Option α)→(Int→Int→Int→Int→Int→List Task→List Lock→List Ghost→List Int→List Turn→Option α)→Option α|0,_,_,_,_,_,_=>none|m0+1,v3,v4,v5,v6,k0_0,k0_1=>cond (decide (v6<v3)) ((MU n v5).bind fun r7=>cond (!r7.1.2.1) (k0_0 v6 v6 v5.Now v5.Cpus v5.Seq v5.Missed v5.Now v5.Cpus v5.Seq v5.Missed v5.Tasks v5.Locks v5.Ghosts v5.Floors v5.Trace) (IN n m0 v3 (⟨v4.Now,v4.Cpus,[],[],[],[],v4.Seq,v4.Missed,[]⟩:Sys) (AC r7.1.1) (w64 (v6+1)) k0_0 k0_1)) (k0_1 v6 v5.Now v5.Cpus v5.Seq v5.Missed v5.Tasks v5.Locks v5.Ghosts v5.Floors v5.Trace)
def MV(n:Nat)(a0:Sys)(a1:Int):Option ((Ah×Int×Unit)×Unit):=(EU n a0).bind fun r1=>cond (!r1.1) (some (((AA (⟨0,0,[],[],[],[],0,0,[]⟩:Sys)),0,()),())) ((FN n a0).bind fun r2=>IN n n a1 (⟨0,0,[],[],[],[],0,0,[]⟩:Sys) (AC r2.1) 0 (fun w8 w9 w10 w11 w12 w13 w14 w15 w16 w17 w18 w19 w20 w21 w22=>some (((AA (⟨w10,w11,w18,w19,w20,w21,w12,w13,w22⟩:Sys)),w8,()),())) (fun w23 w24 w25 w26 w27 w28 w29 w30 w31 w32=>some (((AA (⟨w24,w25,w28,w29,w30,w31,w26,w27,w32⟩:Sys)),w23,()),())))
def i5(n:Nat):Rw:=⟨137,pV [Ae,.int],DI,fun x=>MV n (AX x.1) x.2.1⟩
def mC(n:Nat):LS:=AI ⟨5,[1,4,6,7],[(.c 7 2,8,.task),(.c 7 3,9,.lock),(.c 7 4,10,.ghost),(.c 7 5,11,.int),(.c 7 8,12,.turn)],([13,14,15,16,17,18]),[4,5,6,7],([1,7,8,9,10,11,12])⟩ 33 [1,4,6,7] 4144444111111333333 (pD [.int,.ptr 1 0,.ptr 7 0,.int]) [q64,(.box (pD [.int,.int,.bor 8,.bor 9,.bor 10,.bor 11,.int,.int,.bor 12])),.root .task,.root .lock,.root .ghost,.root .int,.root .turn] (fun m x k=>IN n m x.1.1 (⟨x.2.1.1,x.2.1.2.1,[],[],[],[],x.2.1.2.2.2.2.2.2.1,x.2.1.2.2.2.2.2.2.2.1,[]⟩:Sys) (⟨x.2.2.1.1,x.2.2.1.2.1,x.2.2.2.1,x.2.2.2.2.1,x.2.2.2.2.2.1,x.2.2.2.2.2.2.1,x.2.2.1.2.2.2.2.2.2.1,x.2.2.1.2.2.2.2.2.2.2.1,x.2.2.2.2.2.2.2.1⟩:Sys) x.1.2.2.2.1 (fun w0 w1 w2 w3 w4 w5 w6 w7 w8 w9 w10 w11 w12 w13 w14=>k .ret (eS 33 [4,5,6,7] [.ptr 1 0,.int w0,.ptr 7 0,.int w1] 4144444111111444444 [.box [.int w2,.int w3,.bor 8,.bor 9,.bor 10,.bor 11,.int w4,.int w5,.bor 12],.box [.int w6,.int w7,.bor 8,.bor 9,.bor 10,.bor 11,.int w8,.int w9,.bor 12],.root .task w10 .ok,.root .lock w11 .ok,.root .ghost w12 .ok,.root .int w13 .ok,.root .turn w14 .ok])) (fun w0 w1 w2 w3 w4 w5 w6 w7 w8 w9=>k (.exit 0) (eS 33 [4,6,7] [.ptr 1 0,.ptr 7 0,.int w0] 4144444111111444444 [DE.make q64 x.2.1,.box [.int w1,.int w2,.bor 8,.bor 9,.bor 10,.bor 11,.int w3,.int w4,.bor 12],.root .task w5 .ok,.root .lock w6 .ok,.root .ghost w7 .ok,.root .int w8 .ok,.root .turn w9 .ok])))
theorem i6(n:Nat):RO (i5 n):=
 rL ⟨Go.Proofs.Tryz.f137,⟨[(0,[(0,.slot 0 .int),(1,.slot 1 .int)]),(1,[(1,cl 1 .bool 0)]),(3,[(1,q62),(2,.slot 7 .int)]),(6,[(1,(.call [.ro] (.tup q72) [] [some 13,some 14,some 15,some 16,some 17])),(5,.slot 18 .int)])],[],[]⟩,19⟩ [mC n] n (ec (Ik n) (ec (KQ n) (ec (i3 n) en))) Go.Proofs.Tryz.func137 (by kernel_rfl) ⟨AJ (fun m x k=>by kernel_rfl) (fun _ _=>rfl),trivial⟩ (fun x=>by kernel_rfl)
def D8{α:Type}(n:Nat):Nat→Int→Sys→Sys→List Task→Int→(List Task→Option α)→Option α|0,_,_,_,_,_,_=>none|m0+1,v6,v7,v8,v9,v10,k0_0=>cond (decide (v10<(v7.Tasks.length:Int))) (cond (!(decide (v10=v6))) (cond (decide (0≤v10)&&decide (v10<(v7.Tasks.length:Int))) (let e11:=([(List.getD v7.Tasks (Int.toNat v10) (Kd.dflt .task))]:List Task);cond (decide ((v9).length+(e11).length≤lim)) (D8 n m0 v6 v7 (⟨v8.Now,v8.Cpus,[],[],[],[],v8.Seq,v8.Missed,[]⟩:Sys) (v9++e11) (w64 (v10+1)) k0_0) none) none) (D8 n m0 v6 v7 (⟨v8.Now,v8.Cpus,[],[],[],[],v8.Seq,v8.Missed,[]⟩:Sys) v9 (w64 (v10+1)) k0_0)) (k0_0 v9)
def MY(n:Nat)(a0:Sys)(a1:Int):Option ((Ah×Int×Unit)×Unit):=cond (decide (0≤a1)&&decide (a1<(a0.Tasks.length:Int))) ((Js n a0.Locks ((List.getD a0.Tasks (Int.toNat a1) (Kd.dflt .task)).No)).bind fun r1=>cond r1.1 (some (((AA a0),5,()),())) ((DW n a0.Locks ((List.getD a0.Tasks (Int.toNat a1) (Kd.dflt .task)).No)).bind fun r2=>cond (decide (0≤r2.1)) (some (((AA a0),5,()),())) (let e3:=(decide ((List.getD a0.Tasks (Int.toNat a1) (Kd.dflt .task)).Class=1));cond e3 (let e4:=(decide (a0.Now<(List.getD a0.Tasks (Int.toNat a1) (Kd.dflt .task)).Due));cond e4 (cond (decide ((a0.Ghosts.length:Int)=12)) (some (((AA a0),4,()),())) (let e5:=([(⟨(List.getD a0.Tasks (Int.toNat a1) (Kd.dflt .task)).Cpu,⟨(List.getD a0.Tasks (Int.toNat a1) (Kd.dflt .task)).Q,(List.getD a0.Tasks (Int.toNat a1) (Kd.dflt .task)).P⟩,(List.getD a0.Tasks (Int.toNat a1) (Kd.dflt .task)).Due⟩:Ghost)]:List Ghost);cond (decide ((a0.Ghosts).length+(e5).length≤lim)) (D8 n n a1 (⟨a0.Now,a0.Cpus,a0.Tasks,a0.Locks,(a0.Ghosts++e5),a0.Floors,a0.Seq,a0.Missed,a0.Trace⟩:Sys) (⟨0,0,[],[],[],[],0,0,[]⟩:Sys) ([]:List Task) 0 (fun w12=>some (((AA (⟨a0.Now,a0.Cpus,w12,a0.Locks,(a0.Ghosts++e5),a0.Floors,a0.Seq,a0.Missed,a0.Trace⟩:Sys)),0,()),()))) none)) (D8 n n a1 a0 (⟨0,0,[],[],[],[],0,0,[]⟩:Sys) ([]:List Task) 0 (fun w13=>some (((AA (⟨a0.Now,a0.Cpus,w13,a0.Locks,a0.Ghosts,a0.Floors,a0.Seq,a0.Missed,a0.Trace⟩:Sys)),0,()),())))) (D8 n n a1 a0 (⟨0,0,[],[],[],[],0,0,[]⟩:Sys) ([]:List Task) 0 (fun w14=>some (((AA (⟨a0.Now,a0.Cpus,w14,a0.Locks,a0.Ghosts,a0.Floors,a0.Seq,a0.Missed,a0.Trace⟩:Sys)),0,()),())))))) none
def jM(n:Nat):Rw:=⟨140,pA [.agg (pA [.v .int,.v .int,.own .task,.own .lock,.own .ghost,.own .int,.v .int,.v .int,.own .turn]),.v .int],DI,fun x=>MY n (AC x.1) x.2.1⟩
def mJ(n:Nat):LS:=AI ⟨10,([1,2,4,7,8]),[(.t 7,11,.task),(.c 5 4,12,.ghost)],[13,14],[2,4,7],([0,1,3,4,5,6,11,12,13,14])⟩ 80 [1,2,4,7,8] 114111144441133 (pD [.int,.ptr 5 0,.ptr 6 0,.bor 11,.int]) [.root .task,.root .lock,.root .int,.root .turn,(.box (pD [.int,.int,.bor 0,.bor 1,.bor 12,.bor 3,.int,.int,.bor 4])),q64,.root .task,.root .ghost] (fun m x k=>D8 n m x.1.1 (⟨x.2.2.2.2.2.1.1,x.2.2.2.2.2.1.2.1,x.2.1,x.2.2.1,x.2.2.2.2.2.2.2.2.1,x.2.2.2.1,x.2.2.2.2.2.1.2.2.2.2.2.2.1,x.2.2.2.2.2.1.2.2.2.2.2.2.2.1,x.2.2.2.2.1⟩:Sys) (⟨x.2.2.2.2.2.2.1.1,x.2.2.2.2.2.2.1.2.1,[],[],[],[],x.2.2.2.2.2.2.1.2.2.2.2.2.2.1,x.2.2.2.2.2.2.1.2.2.2.2.2.2.2.1,[]⟩:Sys) x.2.2.2.2.2.2.2.1 x.1.2.2.2.2.1 (fun w0=>k (.exit 0) (eS 80 [2,4,7] [.ptr 5 0,.ptr 6 0,.bor 11] 114111144441133 [.root .task x.2.1 .ok,.root .lock x.2.2.1 .ok,.root .int x.2.2.2.1 .ok,.root .turn x.2.2.2.2.1 .ok,DE.make (.box (pD [.int,.int,.bor 0,.bor 1,.bor 12,.bor 3,.int,.int,.bor 4])) x.2.2.2.2.2.1,DE.make q64 x.2.2.2.2.2.2.1,.root .task w0 .ok,.root .ghost x.2.2.2.2.2.2.2.2.1 .ok])))
theorem jN(n:Nat):RO (jM n):=
 rL ⟨Go.Proofs.Tryz.f140,⟨[(0,[(0,.slot 5 .int),(1,.slot 6 .int)]),(1,[(5,.slot 7 .int)]),(2,[(4,cl 2 .bool 0),(10,cl 2 .int 0)]),(7,[(12,.slot 8 .ghost),(13,.slot 9 .ghost)]),(8,[(0,.slot 10 .task)]),(13,[(6,.slot 13 .task),(7,.slot 14 .task)])],[],[]⟩,15⟩ [mJ n] n (ec (UX n) (ec (Fy n) en)) Go.Proofs.Tryz.func140 (by kernel_rfl) ⟨AJ (fun m x k=>by kernel_rfl) (fun _ _=>rfl),trivial⟩ (fun x=>by kernel_rfl)
def MZ(n:Nat)(a0:Sys)(a1:Call)(a2:Int):Option ((Ah×Int×Unit)×Unit):=(Ag a1.A 0 4).bind fun r1=>cond (!r1.1) (some (((AA a0),2,()),())) (cond (decide (0≤a2)&&decide (a2<(a0.Tasks.length:Int))) (let e2:=(decide ((List.getD a0.Tasks (Int.toNat a2) (Kd.dflt .task)).State=2));cond e2 (some (((AA a0),5,()),())) ((DW n a0.Locks a1.No).bind fun r3=>cond (decide (0≤r3.1)) (some (((AA a0),5,()),())) (cond (decide (0≤a1.A)&&decide (a1.A<(a0.Locks.length:Int))) (let e4:=(decide ((List.getD a0.Locks (Int.toNat a1.A) (Kd.dflt .lock)).Owner=a1.No));cond e4 (some (((AA a0),5,()),())) ((MO n a0 a1.A a1.No).bind fun r5=>cond (!r5.1) (some (((AA a0),5,()),())) ((MJ n a0.Locks a1.A a1.No).bind fun r6=>cond (decide (r6.1.2.1=4)) (some (((AA a0),6,()),())) (some (((AA (⟨a0.Now,a0.Cpus,a0.Tasks,r6.1.1,a0.Ghosts,a0.Floors,a0.Seq,a0.Missed,a0.Trace⟩:Sys)),0,()),()))))) none))) none)
def jO(n:Nat):Rw:=⟨141,pA [.agg (pA [.v .int,.v .int,.own .task,.own .lock,.own .ghost,.own .int,.v .int,.v .int,.own .turn]),.v Ba,.v .int],DI,fun x=>MZ n (AC x.1) (Az x.2.1) x.2.2.1⟩
theorem jP(n:Nat):RO (jO n):=
 rE ⟨Go.Proofs.Tryz.f141,⟨[(0,[(0,.slot 5 .int),(1,.slot 6 .int),(2,.slot 7 .int)]),(1,[(2,cl 3 .bool 0)]),(3,[(12,cl 2 .int 0),(33,cl 3 .bool 0)]),(5,[(6,(.call [.ro,.ro,.ro] (.tup Pl) [] [some 8]))])],[(3,dr 36 [(0,[5],[]),(1,[5],[]),(3,[0],[]),(4,[0],[]),(5,[0],[]),(8,[5],[]),(9,[5],[]),(10,[6],[]),(11,[6],[]),(12,[1],[]),(16,[5],[]),(17,[5],[]),(18,[6],[]),(19,[6],[]),(20,[1],[]),(21,[1],[]),(22,[1],[]),(23,[6],[]),(24,[6],[]),(28,[5],[]),(29,[6],[]),(30,[6],[]),(31,[6],[]),(32,[6],[]),(33,[0,1,2,3,4],[])])],[]⟩,9⟩ n (ec Bi (ec (Fy n) (ec (ij n) (ec (iT n) en)))) Go.Proofs.Tryz.func141 (by kernel_rfl) (fun x=>by kernel_rfl)
end Go.Proofs.YtbbgaleennfklaaGreat.VR
end
