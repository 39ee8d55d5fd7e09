/- A tick, so many ticks: the program's and the reference's are one. -/
import Derived.Test.YtbbgaleennfklaaGreatA13
section
set_option linter.unusedVariables false
set_option linter.unusedSimpArgs false
namespace Go.Proofs.YtbbgaleennfklaaGreat.VR
open Go
theorem SN.two{n:Nat}(hn:SN n):big+2<n:=by unfold SN at hn;omega
theorem Ke{s:Sys}(h:SysB s)(hs:SysOk s):TickB s:=⟨h.tl,hs.tasks,hs.locks.2.1,fun t ht=>by rw[hs.flen];exact hs.tcpu t ht⟩
def Ar(s:Sys):List Ghost:=s.Ghosts.filter fun g=>decide (s.Now<g.Until)
def A5(s:Sys):Int:=s.Tasks.foldl (CB s.Now) s.Missed
structure TickOk(s:Sys):Prop where
 ok:SysOk s
 can:BR s
 b:SysB s
theorem TickOk.now{s:Sys}(h:TickOk s):s.Now<100000:=by have:=h.ok.now;have:=h.can.1;omega
theorem TickOk.woken{s:Sys}(h:TickOk s):KeepsL s.Tasks (AS s):=Ng h.now
theorem TickOk.turns{s:Sys}(h:TickOk s)(fs:List Int)(hf:fs.length=s.Floors.length)(k:Nat)(hk:k≤s.Cpus.toNat):
 TickB ⟨s.Now,s.Cpus,(A3 s.Locks ⟨AS s,s.Seq,s.Trace⟩ k).ts,s.Locks,Ar s,fs,(A3 s.Locks ⟨AS s,s.Seq,s.Trace⟩ k).seq,A5 s,(A3 s.Locks ⟨AS s,s.Seq,s.Trace⟩ k).tr⟩∧
 (0≤(A3 s.Locks ⟨AS s,s.Seq,s.Trace⟩ k).seq∧(A3 s.Locks ⟨AS s,s.Seq,s.Trace⟩ k).seq≤1000000)∧(A3 s.Locks ⟨AS s,s.Seq,s.Trace⟩ k).tr.length+1≤lim:=by
 have hT:=Ke h.b h.ok;have hc:=h.ok.cpus;have hq:=QZ s.Locks ⟨AS s,s.Seq,s.Trace⟩ k;have hr:=Nk s.Locks ⟨AS s,s.Seq,s.Trace⟩ k;have hs0:=h.ok.seq;have hs1:=h.can.2.1;have ht:=h.ok.trace;refine⟨hT.keeps (h.woken.trans (QY s.Locks ⟨AS s,s.Seq,s.Trace⟩ (h.woken.tasksOk h.ok.tasks) k)) _ _ _ _ 0 0 _ _ _ hf,⟨?_,?_⟩,?_⟩
 · have:s.Seq≤(A3 s.Locks ⟨AS s,s.Seq,s.Trace⟩ k).seq:=hq.1
   omega
 · have:(A3 s.Locks ⟨AS s,s.Seq,s.Trace⟩ k).seq≤s.Seq+k:=hq.2
   omega
 · rw[hr]
   show s.Trace.length+k+1≤lim;unfold lim;omega
theorem J4(ts:List Task)(fs:List Int):(Bo ts fs).length=fs.length:=by unfold Bo;simp
theorem YS{s:Sys}{n:Nat}(h:SysB s)(hn:SN n):LO n s=some ((AA (BY s).1,(BY s).2,()),()):=by
 have hn2:=hn.two;have hbl:=DQ;have hsm:=h.small;unfold LO;rw[FQ h hn];simp only[Option.bind_some];unfold BY
 by_cases hs: ¬SysOk s
 ·rw[decide_eq_false hs,if_neg hs];rfl
 have hs:SysOk s:=Decidable.not_not.1 hs;have hc:=hs.cpus;have htr:=hs.trace;rw[decide_eq_true hs,if_pos hs];simp only[Bool.not_true,cond_false,Hb hsm (show big<n by omega) (show big≤lim by omega),Option.bind_some,dnSys_up]
 have ew:w64 ((s.Trace.length:Int)+s.Cpus)=(s.Trace.length:Int)+s.Cpus:=AO (by omega) (by omega)
 rw[ew]
 by_cases h1:s.Now=100000
 ·rw[decide_eq_true h1,if_neg (fun q:BR s=>q.1 h1)];rfl
 rw[decide_eq_false h1]
 by_cases h2:900000<s.Seq
 ·rw[decide_eq_true h2,if_neg (fun q:BR s=>by have:=q.2.1;omega)];rfl
 rw[decide_eq_false h2]
 by_cases h3:400<(s.Trace.length:Int)+s.Cpus
 ·rw[decide_eq_true h3,if_neg (fun q:BR s=>by have:=q.2.2;omega)];rfl
 rw[decide_eq_false h3];have hcan:BR s:=⟨h1,by omega,by omega⟩
 have hT:TickOk s:=⟨hs,hcan,h⟩;rw[if_pos hcan];simp only[cond_false];have q1:=hsm.tasks;have q3:=hsm.ghosts;have q4:=hsm.floors;have hB:=Ke h hs;have hts:TickB (Ck s):=hB.keeps (KeepsL.map _ fun t _=>KS hT.now) _ _ _ _ 0 0 _ _ _ rfl
 have ewk:Iv (Ck s)=⟨s.Now,s.Cpus,AS s,s.Locks,Ar s,s.Floors,s.Seq,A5 s,s.Trace⟩:=rfl;have htl:(AS s).length=s.Tasks.length:=hT.woken.len;rw[SG (s:=s) (n:=n) (by omega) (by omega) (by omega) (by omega) hs.missed]
 simp only[Option.bind_some,dnSys_up];rw[SI hts hn2];simp only[Option.bind_some,dnSys_up,ewk];have hfl:=Mo (l:=fun m i fs=>Hh n m (⟨0,0,[],[],[],[],0,0,[]⟩:Sys) ⟨s.Now,s.Cpus,AS s,s.Locks,Ar s,fs,s.Seq,A5 s,s.Trace⟩ (s.Floors.length:Int) i (fun w11=>FV n n (⟨0,0,[],[],[],[],0,0,[]⟩:Sys) (⟨s.Now,s.Cpus,AS s,s.Locks,Ar s,w11,s.Seq,A5 s,s.Trace⟩:Sys) s.Cpus 0 (fun w17 w18 w19 w20 w21 w22 w23 w24 w25=>some (((AA (⟨(w64 (w17+1)),w18,w21,w22,w23,w24,w19,w20,w25⟩:Sys)),true,()),())))) (xs:=s.Floors) (g:=fun i x=>Cm (BF (AS s) (i:Int)) x) (Kd.dflt .int) (k:=(fun w11=>FV n n (⟨0,0,[],[],[],[],0,0,[]⟩:Sys) (⟨s.Now,s.Cpus,AS s,s.Locks,Ar s,w11,s.Seq,A5 s,s.Trace⟩:Sys) s.Cpus 0 (fun w17 w18 w19 w20 w21 w22 w23 w24 w25=>some (((AA (⟨(w64 (w17+1)),w18,w21,w22,w23,w24,w19,w20,w25⟩:Sys)),true,()),()))))
  (fun m ys hl=>by simp only[Hh,AP,cond_false]) (fun m i ys hi hl hy=>by
    have hi':i<ys.length:=by omega
    have hlen:(BF (AS s) (i:Int)).length≤s.Tasks.length:=by rw[←htl];exact List.length_filter_le _ _
    simp only[Hh,AD hi,AD hi',AF,Bool.and_self,cond_true,AE hi',Ab hi',hy,Int.toNat_natCast,decide_eq_true hi',Option.bind_some,AG (show i<Aa by unfold Aa;unfold big at q4;omega),
     O8 (s:=⟨s.Now,s.Cpus,AS s,s.Locks,Ar s,ys,s.Seq,A5 s,s.Trace⟩) (cpu:=(i:Int)) (n:=n) (by rw[htl];omega) (by rw[htl];omega),R4 (xs:=BF (AS s) (i:Int)) (f:=s.Floors[i]) (n:=n) (by omega) (by omega)]) (m:=n) (by omega)
 refine hfl.trans ?_;have htn:=AU (l:=fun m i=>FV n m (⟨0,0,[],[],[],[],0,0,[]⟩:Sys) ⟨s.Now,s.Cpus,(A3 s.Locks ⟨AS s,s.Seq,s.Trace⟩ i).ts,s.Locks,Ar s,Bo (AS s) s.Floors,(A3 s.Locks ⟨AS s,s.Seq,s.Trace⟩ i).seq,A5 s,(A3 s.Locks ⟨AS s,s.Seq,s.Trace⟩ i).tr⟩ s.Cpus (i:Int) (fun w17 w18 w19 w20 w21 w22 w23 w24 w25=>some (((AA (⟨(w64 (w17+1)),w18,w21,w22,w23,w24,w19,w20,w25⟩:Sys)),true,()),()))) (len:=s.Cpus.toNat) (r:=some (((AA (⟨(w64 (s.Now+1)),s.Cpus,(Bq s).ts,s.Locks,Ar s,Bo (AS s) s.Floors,(Bq s).seq,A5 s,(Bq s).tr⟩:Sys)),true,()),())) (fun _=>True) trivial
  (fun m _=>by
    simp only[FV];rw[decide_eq_false (show¬(((s.Cpus.toNat:Nat):Int)<s.Cpus) by omega)]
    rfl)
  (fun m i hi _=>.inl ⟨by
    obtain⟨b1,b2,b3⟩:=hT.turns (Bo (AS s) s.Floors) (J4 _ _) i (by omega)
    simp only[FV,decide_eq_true (show(i:Int)<s.Cpus by omega),cond_true,SH b1 hn2 b3 b2,Option.bind_some,dnSys_up,Iu,AG (show i<Aa by unfold Aa;omega)],trivial⟩) (m:=n) (by unfold SN GN at hn;omega)
 refine htn.trans ?_;rw[AO (by have:=hs.now;omega) (by have:=hs.now;omega)]
 rfl
theorem SA{s:Sys}{n:Nat}(h:SysB s)(hn:SN n):JK n s=some ((AA (BY s).1,(BY s).2,()),()):=by
 have hn2:=hn.two;have hbl:=DQ;have hsm:=h.small;unfold JK;rw[FQ h hn];simp only[Option.bind_some];unfold BY
 by_cases hs: ¬SysOk s
 ·rw[decide_eq_false hs,if_neg hs];rfl
 have hs:SysOk s:=Decidable.not_not.1 hs;have hc:=hs.cpus;have htr:=hs.trace;rw[decide_eq_true hs,if_pos hs];simp only[Bool.not_true,cond_false,Hb hsm (show big<n by omega) (show big≤lim by omega),Option.bind_some,dnSys_up]
 have ew:w64 ((s.Trace.length:Int)+s.Cpus)=(s.Trace.length:Int)+s.Cpus:=AO (by omega) (by omega)
 rw[ew]
 by_cases h1:s.Now=100000
 ·rw[decide_eq_true h1,if_neg (fun q:BR s=>q.1 h1)];rfl
 rw[decide_eq_false h1]
 by_cases h2:900000<s.Seq
 ·rw[decide_eq_true h2,if_neg (fun q:BR s=>by have:=q.2.1;omega)];rfl
 rw[decide_eq_false h2]
 by_cases h3:400<(s.Trace.length:Int)+s.Cpus
 ·rw[decide_eq_true h3,if_neg (fun q:BR s=>by have:=q.2.2;omega)];rfl
 rw[decide_eq_false h3];have hcan:BR s:=⟨h1,by omega,by omega⟩
 have hT:TickOk s:=⟨hs,hcan,h⟩;rw[if_pos hcan];simp only[cond_false];have q1:=hsm.tasks;have q3:=hsm.ghosts;have q4:=hsm.floors;have hB:=Ke h hs;have hts:TickB (Ck s):=hB.keeps (KeepsL.map _ fun t _=>KS hT.now) _ _ _ _ 0 0 _ _ _ rfl
 have ewk:Iv (Ck s)=⟨s.Now,s.Cpus,AS s,s.Locks,Ar s,s.Floors,s.Seq,A5 s,s.Trace⟩:=rfl;have htl:(AS s).length=s.Tasks.length:=hT.woken.len;rw[SG (s:=s) (n:=n) (by omega) (by omega) (by omega) (by omega) hs.missed]
 simp only[Option.bind_some,dnSys_up];rw[SI hts hn2];simp only[Option.bind_some,dnSys_up,ewk];have hfl:=Mo (l:=fun m i fs=>Hi n m (⟨0,0,[],[],[],[],0,0,[]⟩:Sys) ⟨s.Now,s.Cpus,AS s,s.Locks,Ar s,fs,s.Seq,A5 s,s.Trace⟩ (s.Floors.length:Int) i (fun w11=>FW n n (⟨0,0,[],[],[],[],0,0,[]⟩:Sys) (⟨s.Now,s.Cpus,AS s,s.Locks,Ar s,w11,s.Seq,A5 s,s.Trace⟩:Sys) s.Cpus 0 (fun w17 w18 w19 w20 w21 w22 w23 w24 w25=>some (((AA (⟨(w64 (w17+1)),w18,w21,w22,w23,w24,w19,w20,w25⟩:Sys)),true,()),())))) (xs:=s.Floors) (g:=fun i x=>Cm (BF (AS s) (i:Int)) x) (Kd.dflt .int) (k:=(fun w11=>FW n n (⟨0,0,[],[],[],[],0,0,[]⟩:Sys) (⟨s.Now,s.Cpus,AS s,s.Locks,Ar s,w11,s.Seq,A5 s,s.Trace⟩:Sys) s.Cpus 0 (fun w17 w18 w19 w20 w21 w22 w23 w24 w25=>some (((AA (⟨(w64 (w17+1)),w18,w21,w22,w23,w24,w19,w20,w25⟩:Sys)),true,()),()))))
  (fun m ys hl=>by simp only[Hi,AP,cond_false]) (fun m i ys hi hl hy=>by
    have hi':i<ys.length:=by omega
    have hlen:(BF (AS s) (i:Int)).length≤s.Tasks.length:=by rw[←htl];exact List.length_filter_le _ _
    simp only[Hi,AD hi,AD hi',AF,Bool.and_self,cond_true,AE hi',Ab hi',hy,Int.toNat_natCast,decide_eq_true hi',Option.bind_some,AG (show i<Aa by unfold Aa;unfold big at q4;omega),
     O8 (s:=⟨s.Now,s.Cpus,AS s,s.Locks,Ar s,ys,s.Seq,A5 s,s.Trace⟩) (cpu:=(i:Int)) (n:=n) (by rw[htl];omega) (by rw[htl];omega),R4 (xs:=BF (AS s) (i:Int)) (f:=s.Floors[i]) (n:=n) (by omega) (by omega)]) (m:=n) (by omega)
 refine hfl.trans ?_;have htn:=AU (l:=fun m i=>FW n m (⟨0,0,[],[],[],[],0,0,[]⟩:Sys) ⟨s.Now,s.Cpus,(A3 s.Locks ⟨AS s,s.Seq,s.Trace⟩ i).ts,s.Locks,Ar s,Bo (AS s) s.Floors,(A3 s.Locks ⟨AS s,s.Seq,s.Trace⟩ i).seq,A5 s,(A3 s.Locks ⟨AS s,s.Seq,s.Trace⟩ i).tr⟩ s.Cpus (i:Int) (fun w17 w18 w19 w20 w21 w22 w23 w24 w25=>some (((AA (⟨(w64 (w17+1)),w18,w21,w22,w23,w24,w19,w20,w25⟩:Sys)),true,()),()))) (len:=s.Cpus.toNat) (r:=some (((AA (⟨(w64 (s.Now+1)),s.Cpus,(Bq s).ts,s.Locks,Ar s,Bo (AS s) s.Floors,(Bq s).seq,A5 s,(Bq s).tr⟩:Sys)),true,()),())) (fun _=>True) trivial
  (fun m _=>by
    simp only[FW];rw[decide_eq_false (show¬(((s.Cpus.toNat:Nat):Int)<s.Cpus) by omega)]
    rfl)
  (fun m i hi _=>.inl ⟨by
    obtain⟨b1,b2,b3⟩:=hT.turns (Bo (AS s) s.Floors) (J4 _ _) i (by omega)
    simp only[FW,decide_eq_true (show(i:Int)<s.Cpus by omega),cond_true,SH b1 hn2 b3 b2,Option.bind_some,dnSys_up,Iu,AG (show i<Aa by unfold Aa;omega)],trivial⟩) (m:=n) (by unfold SN GN at hn;omega)
 refine htn.trans ?_;rw[AO (by have:=hs.now;omega) (by have:=hs.now;omega)]
 rfl
theorem nE{s:Sys}{n:Nat}(h:SysB s)(hn:SN n):MT n s=some ((AA (BY s).1,(BY s).2,()),()):=by
 have hn2:=hn.two;have hbl:=DQ;have hsm:=h.small;unfold MT;rw[Is h hn];simp only[Option.bind_some];unfold BY
 by_cases hs: ¬SysOk s
 ·rw[decide_eq_false hs,if_neg hs];rfl
 have hs:SysOk s:=Decidable.not_not.1 hs;have hc:=hs.cpus;have htr:=hs.trace;rw[decide_eq_true hs,if_pos hs];simp only[Bool.not_true,cond_false,KZ hsm (show big<n by omega) (show big≤lim by omega),Option.bind_some,dnSys_up]
 have ew:w64 ((s.Trace.length:Int)+s.Cpus)=(s.Trace.length:Int)+s.Cpus:=AO (by omega) (by omega)
 rw[ew]
 by_cases h1:s.Now=100000
 ·rw[decide_eq_true h1,if_neg (fun q:BR s=>q.1 h1)];rfl
 rw[decide_eq_false h1]
 by_cases h2:900000<s.Seq
 ·rw[decide_eq_true h2,if_neg (fun q:BR s=>by have:=q.2.1;omega)];rfl
 rw[decide_eq_false h2]
 by_cases h3:400<(s.Trace.length:Int)+s.Cpus
 ·rw[decide_eq_true h3,if_neg (fun q:BR s=>by have:=q.2.2;omega)];rfl
 rw[decide_eq_false h3];have hcan:BR s:=⟨h1,by omega,by omega⟩
 have hT:TickOk s:=⟨hs,hcan,h⟩;rw[if_pos hcan];simp only[cond_false];have q1:=hsm.tasks;have q3:=hsm.ghosts;have q4:=hsm.floors;have hB:=Ke h hs;have hts:TickB (Ck s):=hB.keeps (KeepsL.map _ fun t _=>KS hT.now) _ _ _ _ 0 0 _ _ _ rfl
 have ewk:Iv (Ck s)=⟨s.Now,s.Cpus,AS s,s.Locks,Ar s,s.Floors,s.Seq,A5 s,s.Trace⟩:=rfl;have htl:(AS s).length=s.Tasks.length:=hT.woken.len;have hgh: ∀k:List Ghost→Option ((Ah×Bool×Unit)×Unit),Fg n n s (⟨0,0,[],[],[],[],0,0,[]⟩:Sys) ⟨s.Now,s.Cpus,s.Tasks,s.Locks,[],s.Floors,s.Seq,s.Missed,s.Trace⟩ 0 k=k (Ar s):=fun k=>AU (l:=fun m i=>Fg n m s (⟨0,0,[],[],[],[],0,0,[]⟩:Sys) ⟨s.Now,s.Cpus,s.Tasks,s.Locks,(s.Ghosts.take i).filter (fun g=>decide (s.Now<g.Until)),s.Floors,s.Seq,s.Missed,s.Trace⟩ (i:Int) k) (len:=s.Ghosts.length) (r:=k (Ar s)) (fun _=>True) trivial
  (fun m _=>by simp only[Fg,AP,cond_false,List.take_length];rfl) (fun m i hi _=>.inl ⟨by
    have hlen:((s.Ghosts.take i).filter (fun g=>decide (s.Now<g.Until))).length≤i:=Nat.le_trans (List.length_filter_le _ _) (List.length_take_le _ _)
    rw[Ds _ hi];simp only[Fg,AD hi,AF,Bool.and_self,cond_true,AE hi,AG (show i<Aa by unfold Aa;unfold big at q3;omega),BV (show((s.Ghosts.take i).filter (fun g=>decide (s.Now<g.Until))).length<s.Ghosts.length by omega) (show s.Ghosts.length≤lim by omega)]
    cases decide (s.Now<s.Ghosts[i].Until)<;>simp,trivial⟩) (m:=n) (by omega)
 refine(hgh _).trans ?_;have hrn: ∀k:List Task→Int→Option ((Ah×Bool×Unit)×Unit),Da n n s (⟨0,0,[],[],[],[],0,0,[]⟩:Sys) ⟨s.Now,s.Cpus,s.Tasks,s.Locks,Ar s,s.Floors,s.Seq,s.Missed,s.Trace⟩ 0 k=k (Nf s) (A5 s):=fun k=>NV (l:=fun m i ys ms=>Da n m s (⟨0,0,[],[],[],[],0,0,[]⟩:Sys) ⟨s.Now,s.Cpus,ys,s.Locks,Ar s,s.Floors,s.Seq,ms,s.Trace⟩ i k)
  (xs:=s.Tasks) (g:=fun _ t=>Cw s.Now t) (f:=CB s.Now) (k:=k)
  (fun _ ms=>0≤ms∧ms≤100000) (fun m ys ms hl=>by simp only[Da,hl,AP,cond_false]) (fun m i ys ms hi hl hI hy=>by
    have hi':i<ys.length:=by omega
    refine⟨?_,PW _ hI⟩;have e:w64 (ms+1)=ms+1:=AO (by omega) (by omega)
    simp only[Da,AD hi',AF,Bool.and_self,cond_true,AE hi',Ab hi',hy,U6,VH,dnTask_up,Option.bind_some,Int.toNat_natCast,decide_eq_true hi',AG (show i<Aa by unfold Aa;unfold big at q1;omega),CP,BA,e]
    unfold Cw CB;generalize xs_i:s.Tasks[i]=t at*
    by_cases h1:t.Class=1
    · cases h2:t.Idle with
      |true=>simp[h1,Ez hi' hy]
      |false=>
       by_cases h3:t.Due≤s.Now
       · have h4: ¬s.Now<t.Due:=by omega
         by_cases h5:0<t.Left
         ·simp[h1,h3,h4,h5]
         ·simp[h1,h3,h4,h5]
       · have h4:s.Now<t.Due:=by omega
         simp[h1,h3,h4,Ez hi' hy]
    ·simp[h1,Ez hi' hy])
  (fun xs _=>xs.map (Cw s.Now)) (fun _=>rfl) (fun _ _ _=>rfl) (m:=n) (s:=s.Missed) hs.missed (by omega)
 refine(hrn _).trans ?_;have hws:=VF hts (s:=Ck s) ⟨by show(s.Tasks.map _).length≤big;rw[List.length_map];exact q1,hsm.locks,hsm.waits,Nat.le_trans (List.length_filter_le _ _) q3,q4,hsm.trace⟩ hn2
 change(GU n (Ck s)).bind _=_
 rw[hws];simp only[Option.bind_some,dnSys_up,ewk];have hfl:=Mo (l:=fun m i fs=>IM n m (⟨0,0,[],[],[],[],0,0,[]⟩:Sys) ⟨s.Now,s.Cpus,AS s,s.Locks,Ar s,fs,s.Seq,A5 s,s.Trace⟩ i (fun w28=>Fj n n (⟨0,0,[],[],[],[],0,0,[]⟩:Sys) (⟨s.Now,s.Cpus,AS s,s.Locks,Ar s,w28,s.Seq,A5 s,s.Trace⟩:Sys) 0 (fun w17 w18 w19 w20 w21 w22 w23 w24 w25=>some (((AA (⟨(w64 (w17+1)),w18,w21,w22,w23,w24,w19,w20,w25⟩:Sys)),true,()),())))) (xs:=s.Floors) (g:=fun i x=>Cm (BF (AS s) (i:Int)) x) (Kd.dflt .int) (k:=(fun w28=>Fj n n (⟨0,0,[],[],[],[],0,0,[]⟩:Sys) (⟨s.Now,s.Cpus,AS s,s.Locks,Ar s,w28,s.Seq,A5 s,s.Trace⟩:Sys) 0 (fun w17 w18 w19 w20 w21 w22 w23 w24 w25=>some (((AA (⟨(w64 (w17+1)),w18,w21,w22,w23,w24,w19,w20,w25⟩:Sys)),true,()),()))))
  (fun m ys hl=>by simp only[IM];rw[decide_eq_false (show¬((s.Floors.length:Int)<s.Cpus) by rw[hs.flen];omega)];rfl) (fun m i ys hi hl hy=>by
    have hi':i<ys.length:=by omega
    have hlen:(BF (AS s) (i:Int)).length≤s.Tasks.length:=by rw[←htl];exact List.length_filter_le _ _
    simp only[IM,show decide ((i:Int)<s.Cpus)=true from decide_eq_true (by have:=hs.flen;omega),AD hi',AF,Bool.and_self,cond_true,AE hi',Ab hi',hy,Int.toNat_natCast,decide_eq_true hi',Option.bind_some,AG (show i<Aa by unfold Aa;unfold big at q4;omega),
     QG (s:=⟨s.Now,s.Cpus,AS s,s.Locks,Ar s,ys,s.Seq,A5 s,s.Trace⟩) (cpu:=(i:Int)) (n:=n) (by rw[htl];omega) (by rw[htl];omega),U7 (xs:=BF (AS s) (i:Int)) (f:=s.Floors[i]) (n:=n) (by omega) (by omega)]) (m:=n) (by omega)
 refine hfl.trans ?_;have htn:=AU (l:=fun m i=>Fj n m (⟨0,0,[],[],[],[],0,0,[]⟩:Sys) ⟨s.Now,s.Cpus,(A3 s.Locks ⟨AS s,s.Seq,s.Trace⟩ i).ts,s.Locks,Ar s,Bo (AS s) s.Floors,(A3 s.Locks ⟨AS s,s.Seq,s.Trace⟩ i).seq,A5 s,(A3 s.Locks ⟨AS s,s.Seq,s.Trace⟩ i).tr⟩ (i:Int) (fun w17 w18 w19 w20 w21 w22 w23 w24 w25=>some (((AA (⟨(w64 (w17+1)),w18,w21,w22,w23,w24,w19,w20,w25⟩:Sys)),true,()),()))) (len:=s.Cpus.toNat) (r:=some (((AA (⟨(w64 (s.Now+1)),s.Cpus,(Bq s).ts,s.Locks,Ar s,Bo (AS s) s.Floors,(Bq s).seq,A5 s,(Bq s).tr⟩:Sys)),true,()),())) (fun _=>True) trivial
  (fun m _=>by
    simp only[Fj];rw[decide_eq_false (show¬(((s.Cpus.toNat:Nat):Int)<s.Cpus) by omega)]
    rfl)
  (fun m i hi _=>.inl ⟨by
    obtain⟨b1,b2,b3⟩:=hT.turns (Bo (AS s) s.Floors) (J4 _ _) i (by omega)
    simp only[Fj,decide_eq_true (show(i:Int)<s.Cpus by omega),cond_true,VE b1 hn2 b3 b2,Option.bind_some,dnSys_up,Iu,AG (show i<Aa by unfold Aa;omega)],trivial⟩) (m:=n) (by unfold SN GN at hn;omega)
 refine htn.trans ?_;rw[AO (by have:=hs.now;omega) (by have:=hs.now;omega)]
 rfl
theorem nD{s:Sys}{n:Nat}(h:SysB s)(hn:SN n):MU n s=some ((AA (BY s).1,(BY s).2,()),()):=by
 have hn2:=hn.two;have hbl:=DQ;have hsm:=h.small;unfold MU;rw[Is h hn];simp only[Option.bind_some];unfold BY
 by_cases hs: ¬SysOk s
 ·rw[decide_eq_false hs,if_neg hs];rfl
 have hs:SysOk s:=Decidable.not_not.1 hs;have hc:=hs.cpus;have htr:=hs.trace;rw[decide_eq_true hs,if_pos hs];simp only[Bool.not_true,cond_false,KZ hsm (show big<n by omega) (show big≤lim by omega),Option.bind_some,dnSys_up]
 have ew:w64 ((s.Trace.length:Int)+s.Cpus)=(s.Trace.length:Int)+s.Cpus:=AO (by omega) (by omega)
 rw[ew]
 by_cases h1:s.Now=100000
 ·rw[decide_eq_true h1,if_neg (fun q:BR s=>q.1 h1)];rfl
 rw[decide_eq_false h1]
 by_cases h2:900000<s.Seq
 ·rw[decide_eq_true h2,if_neg (fun q:BR s=>by have:=q.2.1;omega)];rfl
 rw[decide_eq_false h2]
 by_cases h3:400<(s.Trace.length:Int)+s.Cpus
 ·rw[decide_eq_true h3,if_neg (fun q:BR s=>by have:=q.2.2;omega)];rfl
 rw[decide_eq_false h3];have hcan:BR s:=⟨h1,by omega,by omega⟩
 have hT:TickOk s:=⟨hs,hcan,h⟩;rw[if_pos hcan];simp only[cond_false];have q1:=hsm.tasks;have q3:=hsm.ghosts;have q4:=hsm.floors;have hB:=Ke h hs;have hts:TickB (Ck s):=hB.keeps (KeepsL.map _ fun t _=>KS hT.now) _ _ _ _ 0 0 _ _ _ rfl
 have ewk:Iv (Ck s)=⟨s.Now,s.Cpus,AS s,s.Locks,Ar s,s.Floors,s.Seq,A5 s,s.Trace⟩:=rfl;have htl:(AS s).length=s.Tasks.length:=hT.woken.len;have hgh: ∀k:List Ghost→Option ((Ah×Bool×Unit)×Unit),Fh n n s (⟨0,0,[],[],[],[],0,0,[]⟩:Sys) ⟨s.Now,s.Cpus,s.Tasks,s.Locks,[],s.Floors,s.Seq,s.Missed,s.Trace⟩ 0 k=k (Ar s):=fun k=>AU (l:=fun m i=>Fh n m s (⟨0,0,[],[],[],[],0,0,[]⟩:Sys) ⟨s.Now,s.Cpus,s.Tasks,s.Locks,(s.Ghosts.take i).filter (fun g=>decide (s.Now<g.Until)),s.Floors,s.Seq,s.Missed,s.Trace⟩ (i:Int) k) (len:=s.Ghosts.length) (r:=k (Ar s)) (fun _=>True) trivial
  (fun m _=>by simp only[Fh,AP,cond_false,List.take_length];rfl) (fun m i hi _=>.inl ⟨by
    have hlen:((s.Ghosts.take i).filter (fun g=>decide (s.Now<g.Until))).length≤i:=Nat.le_trans (List.length_filter_le _ _) (List.length_take_le _ _)
    rw[Ds _ hi];simp only[Fh,AD hi,AF,Bool.and_self,cond_true,AE hi,AG (show i<Aa by unfold Aa;unfold big at q3;omega),BV (show((s.Ghosts.take i).filter (fun g=>decide (s.Now<g.Until))).length<s.Ghosts.length by omega) (show s.Ghosts.length≤lim by omega)]
    cases decide (s.Now<s.Ghosts[i].Until)<;>simp,trivial⟩) (m:=n) (by omega)
 refine(hgh _).trans ?_;have hrn: ∀k:List Task→Int→Option ((Ah×Bool×Unit)×Unit),Db n n s (⟨0,0,[],[],[],[],0,0,[]⟩:Sys) ⟨s.Now,s.Cpus,s.Tasks,s.Locks,Ar s,s.Floors,s.Seq,s.Missed,s.Trace⟩ 0 k=k (Nf s) (A5 s):=fun k=>NV (l:=fun m i ys ms=>Db n m s (⟨0,0,[],[],[],[],0,0,[]⟩:Sys) ⟨s.Now,s.Cpus,ys,s.Locks,Ar s,s.Floors,s.Seq,ms,s.Trace⟩ i k)
  (xs:=s.Tasks) (g:=fun _ t=>Cw s.Now t) (f:=CB s.Now) (k:=k)
  (fun _ ms=>0≤ms∧ms≤100000) (fun m ys ms hl=>by simp only[Db,hl,AP,cond_false]) (fun m i ys ms hi hl hI hy=>by
    have hi':i<ys.length:=by omega
    refine⟨?_,PW _ hI⟩;have e:w64 (ms+1)=ms+1:=AO (by omega) (by omega)
    simp only[Db,AD hi',AF,Bool.and_self,cond_true,AE hi',Ab hi',hy,U6,VH,dnTask_up,Option.bind_some,Int.toNat_natCast,decide_eq_true hi',AG (show i<Aa by unfold Aa;unfold big at q1;omega),CP,BA,e]
    unfold Cw CB;generalize xs_i:s.Tasks[i]=t at*
    by_cases h1:t.Class=1
    · cases h2:t.Idle with
      |true=>simp[h1,Ez hi' hy]
      |false=>
       by_cases h3:t.Due≤s.Now
       · have h4: ¬s.Now<t.Due:=by omega
         by_cases h5:0<t.Left
         ·simp[h1,h3,h4,h5]
         ·simp[h1,h3,h4,h5]
       · have h4:s.Now<t.Due:=by omega
         simp[h1,h3,h4,Ez hi' hy]
    ·simp[h1,Ez hi' hy])
  (fun xs _=>xs.map (Cw s.Now)) (fun _=>rfl) (fun _ _ _=>rfl) (m:=n) (s:=s.Missed) hs.missed (by omega)
 refine(hrn _).trans ?_;have hws:=VF hts (s:=Ck s) ⟨by show(s.Tasks.map _).length≤big;rw[List.length_map];exact q1,hsm.locks,hsm.waits,Nat.le_trans (List.length_filter_le _ _) q3,q4,hsm.trace⟩ hn2
 change(GU n (Ck s)).bind _=_
 rw[hws];simp only[Option.bind_some,dnSys_up,ewk];have hfl:=Mo (l:=fun m i fs=>IL n m (⟨0,0,[],[],[],[],0,0,[]⟩:Sys) ⟨s.Now,s.Cpus,AS s,s.Locks,Ar s,fs,s.Seq,A5 s,s.Trace⟩ i (fun w28=>Fi n n (⟨0,0,[],[],[],[],0,0,[]⟩:Sys) (⟨s.Now,s.Cpus,AS s,s.Locks,Ar s,w28,s.Seq,A5 s,s.Trace⟩:Sys) 0 (fun w17 w18 w19 w20 w21 w22 w23 w24 w25=>some (((AA (⟨(w64 (w17+1)),w18,w21,w22,w23,w24,w19,w20,w25⟩:Sys)),true,()),())))) (xs:=s.Floors) (g:=fun i x=>Cm (BF (AS s) (i:Int)) x) (Kd.dflt .int) (k:=(fun w28=>Fi n n (⟨0,0,[],[],[],[],0,0,[]⟩:Sys) (⟨s.Now,s.Cpus,AS s,s.Locks,Ar s,w28,s.Seq,A5 s,s.Trace⟩:Sys) 0 (fun w17 w18 w19 w20 w21 w22 w23 w24 w25=>some (((AA (⟨(w64 (w17+1)),w18,w21,w22,w23,w24,w19,w20,w25⟩:Sys)),true,()),()))))
  (fun m ys hl=>by simp only[IL];rw[decide_eq_false (show¬((s.Floors.length:Int)<s.Cpus) by rw[hs.flen];omega)];rfl) (fun m i ys hi hl hy=>by
    have hi':i<ys.length:=by omega
    have hlen:(BF (AS s) (i:Int)).length≤s.Tasks.length:=by rw[←htl];exact List.length_filter_le _ _
    simp only[IL,show decide ((i:Int)<s.Cpus)=true from decide_eq_true (by have:=hs.flen;omega),AD hi',AF,Bool.and_self,cond_true,AE hi',Ab hi',hy,Int.toNat_natCast,decide_eq_true hi',Option.bind_some,AG (show i<Aa by unfold Aa;unfold big at q4;omega),
     QG (s:=⟨s.Now,s.Cpus,AS s,s.Locks,Ar s,ys,s.Seq,A5 s,s.Trace⟩) (cpu:=(i:Int)) (n:=n) (by rw[htl];omega) (by rw[htl];omega),U7 (xs:=BF (AS s) (i:Int)) (f:=s.Floors[i]) (n:=n) (by omega) (by omega)]) (m:=n) (by omega)
 refine hfl.trans ?_;have htn:=AU (l:=fun m i=>Fi n m (⟨0,0,[],[],[],[],0,0,[]⟩:Sys) ⟨s.Now,s.Cpus,(A3 s.Locks ⟨AS s,s.Seq,s.Trace⟩ i).ts,s.Locks,Ar s,Bo (AS s) s.Floors,(A3 s.Locks ⟨AS s,s.Seq,s.Trace⟩ i).seq,A5 s,(A3 s.Locks ⟨AS s,s.Seq,s.Trace⟩ i).tr⟩ (i:Int) (fun w17 w18 w19 w20 w21 w22 w23 w24 w25=>some (((AA (⟨(w64 (w17+1)),w18,w21,w22,w23,w24,w19,w20,w25⟩:Sys)),true,()),()))) (len:=s.Cpus.toNat) (r:=some (((AA (⟨(w64 (s.Now+1)),s.Cpus,(Bq s).ts,s.Locks,Ar s,Bo (AS s) s.Floors,(Bq s).seq,A5 s,(Bq s).tr⟩:Sys)),true,()),())) (fun _=>True) trivial
  (fun m _=>by
    simp only[Fi];rw[decide_eq_false (show¬(((s.Cpus.toNat:Nat):Int)<s.Cpus) by omega)]
    rfl)
  (fun m i hi _=>.inl ⟨by
    obtain⟨b1,b2,b3⟩:=hT.turns (Bo (AS s) s.Floors) (J4 _ _) i (by omega)
    simp only[Fi,decide_eq_true (show(i:Int)<s.Cpus by omega),cond_true,VE b1 hn2 b3 b2,Option.bind_some,dnSys_up,Iu,AG (show i<Aa by unfold Aa;omega)],trivial⟩) (m:=n) (by unfold SN GN at hn;omega)
 refine htn.trans ?_;rw[AO (by have:=hs.now;omega) (by have:=hs.now;omega)]
 rfl
end Go.Proofs.YtbbgaleennfklaaGreat.VR
end
section
set_option linter.unusedVariables false
set_option linter.unusedSimpArgs false
namespace Go.Proofs.YtbbgaleennfklaaGreat.VR
open Go
set_option maxHeartbeats 4000000 in
set_option maxHeartbeats 4000000 in
set_option maxHeartbeats 4000000 in
theorem ZR {α:Type} {n m:Nat} {A xs:List Turn} {k:Int} {i:Nat} {K:Int→List Turn→Option α} (hA:A.length=i) (hi:i<xs.length) (hl:xs.length≤lim) (h0:0≤k) (h1:k≤1099511627776):
 Fe n (m+1) (A++xs.drop i) k (i:Int) K=Fe n m ((A++[CX k])++xs.drop (i+1)) (k+3) ((i+1:Nat):Int) K:=by
 have hs:=fun x=>Iq hA hi x
 have hv:i<(A++xs.drop i).length:=by rw[DF hA (Nat.le_of_lt hi)];exact hi
 revert hs hv
 generalize A++xs.drop i=v;intro hs hv;have z1:(0:Int)≤(i:Int):=by omega
 have z2:(i:Int)<(v.length:Int):=by omega
 have w1:w64 (k+1)=k+1:=AO (by omega) (by omega)
 have w2:w64 (k+1+1)=k+1+1:=AO (by omega) (by omega)
 have w3:w64 (k+1+1+1)=k+1+1+1:=AO (by omega) (by omega)
 have wi:=AG (Nat.lt_trans hi (AQ hl));simp only[Fe,z1,z2,hv,Int.toNat_natCast,List.length_set,decide_true,Bool.and_self,cond_true,Ip hv,List.set_set,w1,w2,w3,wi];rw[hs];have e:k+1+1+1=k+3:=by omega
 rw[e]
 first|done|rfl
theorem ZQ{n:Nat}{xs:List Turn}{k:Int}(hn:xs.length<n)(hl:xs.length≤10000000)(h0:0≤k)(h1:k≤549755813888):Jg n xs k=some (k+3*(xs.length:Int),AZ CX 3 k xs.length,()):=by
 unfold Jg;have hlim:xs.length≤lim:=by unfold lim;omega
 have:=AU (l:=fun m i=>Fe n m (AZ CX 3 k i++xs.drop i) (k+3*(i:Int)) (i:Int) (fun w7 w8=>some (w7,w8,()))) (len:=xs.length)
  (r:=some (k+3*(xs.length:Int),AZ CX 3 k xs.length,())) (fun _=>True) trivial (fun m _=> ?_) (fun m i hi _=>.inl ⟨?_,trivial⟩) (m:=n) hn
 · have e:k+3*((0:Nat):Int)=k:=by omega
   simp only[e,List.drop_zero]at this;exact this
 · have hlen:(AZ CX 3 k xs.length++xs.drop xs.length).length=xs.length:=DF (B3 ..) (Nat.le_refl _)
   simp only[Fe,hlen,AP,cond_false];rw[List.drop_length,List.append_nil]
 · rw[ZR (B3 ..) hi hlim (by omega) (by omega),←KE]
   have e:k+3*(i:Int)+3=k+3*((i+1:Nat):Int):=by omega
   rw[e]
set_option maxHeartbeats 4000000 in
theorem Xp {n:Nat} {len:Nat} {k:Int} (hn:len<n) (hl:len≤10000000) (h0:0≤k) (h1:k≤549755813888):Jd n (AZ CX 3 k len) k=some (k+3*(len:Int),()):=by
 unfold Jd;have hlim:len≤lim:=by unfold lim;omega
 have:=AU (l:=fun m i=>Hv n m (AZ CX 3 k len) (k+3*(i:Int)) (i:Int) (fun _=>some ((-1),())) (fun w8=>some (w8,()))) (len:=len)
  (r:=some (k+3*(len:Int),())) (fun _=>True) trivial (fun m _=> ?_) (fun m i hi _=>.inl ⟨?_,trivial⟩) (m:=n) hn
 · have e:k+3*((0:Nat):Int)=k:=by omega
   simp only[e]at this;exact this
 ·simp only[Hv,B3,AP,cond_false]
 · have hv:i<(AZ CX 3 k len).length:=by rw[B3];exact hi
   have hg:List.getD (AZ CX 3 k len) (Int.toNat (i:Int)) (Kd.dflt .turn)=CX (k+3*(i:Int)):=by rw[AE hv,M3]
   have z1:(0:Int)≤(i:Int):=by omega
   have z2:(i:Int)<((AZ CX 3 k len).length:Int):=by omega
   have hq0:0≤k+3*(i:Int):=by omega
   have hq1:k+3*(i:Int)≤1099511627776:=by omega
   have e9:k+3*((i+1:Nat):Int)=k+3*(i:Int)+3:=by omega
   rw[e9]
   revert hg hq0 hq1
   generalize AZ CX 3 k len=v at z2⊢;generalize k+3*(i:Int)=q;intro hg hq0 hq1;have w1:w64 (q+1)=q+1:=AO (by omega) (by omega)
   have w2:w64 (q+1+1)=q+1+1:=AO (by omega) (by omega)
   have w3:w64 (q+1+1+1)=q+1+1+1:=AO (by omega) (by omega)
   have wi:=AG (Nat.lt_trans hi (AQ hlim));have e:q+1+1+1=q+3:=by omega
   simp only[Hv,z1,z2,decide_true,Bool.and_self,cond_true,hg,CX,w1,w2,w3,wi,Bool.not_true,cond_false,beq_self_eq_true]
   first|done|rw[e]
set_option maxHeartbeats 4000000 in
theorem ZJ {α:Type} {n m:Nat} {A xs:List Ghost} {k:Int} {i:Nat} {K:Int→List Ghost→Option α} (hA:A.length=i) (hi:i<xs.length) (hl:xs.length≤lim) (h0:0≤k) (h1:k≤1099511627776):
 Fa n (m+1) (A++xs.drop i) k (i:Int) K=Fa n m ((A++[CW k])++xs.drop (i+1)) (k+4) ((i+1:Nat):Int) K:=by
 have hs:=fun x=>Iq hA hi x
 have hv:i<(A++xs.drop i).length:=by rw[DF hA (Nat.le_of_lt hi)];exact hi
 revert hs hv
 generalize A++xs.drop i=v;intro hs hv;have z1:(0:Int)≤(i:Int):=by omega
 have z2:(i:Int)<(v.length:Int):=by omega
 have w1:w64 (k+1)=k+1:=AO (by omega) (by omega)
 have w2:w64 (k+1+1)=k+1+1:=AO (by omega) (by omega)
 have w3:w64 (k+1+1+1)=k+1+1+1:=AO (by omega) (by omega)
 have w4:w64 (k+1+1+1+1)=k+1+1+1+1:=AO (by omega) (by omega)
 have wi:=AG (Nat.lt_trans hi (AQ hl));simp only[Fa,z1,z2,hv,Int.toNat_natCast,List.length_set,decide_true,Bool.and_self,cond_true,Ip hv,List.set_set,w1,w2,w3,w4,wi];rw[hs];have e:k+1+1+1+1=k+4:=by omega
 rw[e]
 first|done|rfl
theorem ZI{n:Nat}{xs:List Ghost}{k:Int}(hn:xs.length<n)(hl:xs.length≤10000000)(h0:0≤k)(h1:k≤549755813888):Je n xs k=some (k+4*(xs.length:Int),AZ CW 4 k xs.length,()):=by
 unfold Je;have hlim:xs.length≤lim:=by unfold lim;omega
 have:=AU (l:=fun m i=>Fa n m (AZ CW 4 k i++xs.drop i) (k+4*(i:Int)) (i:Int) (fun w7 w8=>some (w7,w8,()))) (len:=xs.length)
  (r:=some (k+4*(xs.length:Int),AZ CW 4 k xs.length,())) (fun _=>True) trivial (fun m _=> ?_) (fun m i hi _=>.inl ⟨?_,trivial⟩) (m:=n) hn
 · have e:k+4*((0:Nat):Int)=k:=by omega
   simp only[e,List.drop_zero]at this;exact this
 · have hlen:(AZ CW 4 k xs.length++xs.drop xs.length).length=xs.length:=DF (B3 ..) (Nat.le_refl _)
   simp only[Fa,hlen,AP,cond_false];rw[List.drop_length,List.append_nil]
 · rw[ZJ (B3 ..) hi hlim (by omega) (by omega),←KE]
   have e:k+4*(i:Int)+4=k+4*((i+1:Nat):Int):=by omega
   rw[e]
set_option maxHeartbeats 4000000 in
theorem Xm {n:Nat} {len:Nat} {k:Int} (hn:len<n) (hl:len≤10000000) (h0:0≤k) (h1:k≤549755813888):Jb n (AZ CW 4 k len) k=some (k+4*(len:Int),()):=by
 unfold Jb;have hlim:len≤lim:=by unfold lim;omega
 have:=AU (l:=fun m i=>Hr n m (AZ CW 4 k len) (k+4*(i:Int)) (i:Int) (fun _=>some ((-1),())) (fun w8=>some (w8,()))) (len:=len)
  (r:=some (k+4*(len:Int),())) (fun _=>True) trivial (fun m _=> ?_) (fun m i hi _=>.inl ⟨?_,trivial⟩) (m:=n) hn
 · have e:k+4*((0:Nat):Int)=k:=by omega
   simp only[e]at this;exact this
 ·simp only[Hr,B3,AP,cond_false]
 · have hv:i<(AZ CW 4 k len).length:=by rw[B3];exact hi
   have hg:List.getD (AZ CW 4 k len) (Int.toNat (i:Int)) (Kd.dflt .ghost)=CW (k+4*(i:Int)):=by rw[AE hv,M3]
   have z1:(0:Int)≤(i:Int):=by omega
   have z2:(i:Int)<((AZ CW 4 k len).length:Int):=by omega
   have hq0:0≤k+4*(i:Int):=by omega
   have hq1:k+4*(i:Int)≤1099511627776:=by omega
   have e9:k+4*((i+1:Nat):Int)=k+4*(i:Int)+4:=by omega
   rw[e9]
   revert hg hq0 hq1
   generalize AZ CW 4 k len=v at z2⊢;generalize k+4*(i:Int)=q;intro hg hq0 hq1;have w1:w64 (q+1)=q+1:=AO (by omega) (by omega)
   have w2:w64 (q+1+1)=q+1+1:=AO (by omega) (by omega)
   have w3:w64 (q+1+1+1)=q+1+1+1:=AO (by omega) (by omega)
   have w4:w64 (q+1+1+1+1)=q+1+1+1+1:=AO (by omega) (by omega)
   have wi:=AG (Nat.lt_trans hi (AQ hlim));have e:q+1+1+1+1=q+4:=by omega
   simp only[Hr,z1,z2,decide_true,Bool.and_self,cond_true,hg,CW,w1,w2,w3,w4,wi,Bool.not_true,cond_false,beq_self_eq_true]
   first|done|rw[e]
set_option maxHeartbeats 4000000 in
theorem ZK {α:Type} {n m:Nat} {A xs:List Int} {k:Int} {i:Nat} {K:Int→List Int→Option α} (hA:A.length=i) (hi:i<xs.length) (hl:xs.length≤lim) (h0:0≤k) (h1:k≤1099511627776):
 Fb n (m+1) (A++xs.drop i) k (i:Int) K=Fb n m ((A++[B4 k])++xs.drop (i+1)) (k+1) ((i+1:Nat):Int) K:=by
 have hs:=fun x=>Iq hA hi x
 have hv:i<(A++xs.drop i).length:=by rw[DF hA (Nat.le_of_lt hi)];exact hi
 revert hs hv
 generalize A++xs.drop i=v;intro hs hv;have z1:(0:Int)≤(i:Int):=by omega
 have z2:(i:Int)<(v.length:Int):=by omega
 have w1:w64 (k+1)=k+1:=AO (by omega) (by omega)
 have wi:=AG (Nat.lt_trans hi (AQ hl));simp only[Fb,z1,z2,hv,Int.toNat_natCast,List.length_set,decide_true,Bool.and_self,cond_true,Ip hv,List.set_set,w1,wi];rw[hs];have e:k+1=k+1:=by omega
 rw[e]
 first|done|rfl
theorem PS{n:Nat}{xs:List Int}{k:Int}(hn:xs.length<n)(hl:xs.length≤10000000)(h0:0≤k)(h1:k≤549755813888):GI n xs k=some (k+1*(xs.length:Int),AZ B4 1 k xs.length,()):=by
 unfold GI;have hlim:xs.length≤lim:=by unfold lim;omega
 have:=AU (l:=fun m i=>Fb n m (AZ B4 1 k i++xs.drop i) (k+1*(i:Int)) (i:Int) (fun w7 w8=>some (w7,w8,()))) (len:=xs.length)
  (r:=some (k+1*(xs.length:Int),AZ B4 1 k xs.length,())) (fun _=>True) trivial (fun m _=> ?_) (fun m i hi _=>.inl ⟨?_,trivial⟩) (m:=n) hn
 · have e:k+1*((0:Nat):Int)=k:=by omega
   simp only[e,List.drop_zero]at this;exact this
 · have hlen:(AZ B4 1 k xs.length++xs.drop xs.length).length=xs.length:=DF (B3 ..) (Nat.le_refl _)
   simp only[Fb,hlen,AP,cond_false];rw[List.drop_length,List.append_nil]
 · rw[ZK (B3 ..) hi hlim (by omega) (by omega),←KE]
   have e:k+1*(i:Int)+1=k+1*((i+1:Nat):Int):=by omega
   rw[e]
set_option maxHeartbeats 4000000 in
theorem O5 {n:Nat} {len:Nat} {k:Int} (hn:len<n) (hl:len≤10000000) (h0:0≤k) (h1:k≤549755813888):FI n (AZ B4 1 k len) k=some (k+1*(len:Int),()):=by
 unfold FI;have hlim:len≤lim:=by unfold lim;omega
 have:=AU (l:=fun m i=>Hs n m (AZ B4 1 k len) (k+1*(i:Int)) (i:Int) (fun _=>some ((-1),())) (fun w8=>some (w8,()))) (len:=len)
  (r:=some (k+1*(len:Int),())) (fun _=>True) trivial (fun m _=> ?_) (fun m i hi _=>.inl ⟨?_,trivial⟩) (m:=n) hn
 · have e:k+1*((0:Nat):Int)=k:=by omega
   simp only[e]at this;exact this
 ·simp only[Hs,B3,AP,cond_false]
 · have hv:i<(AZ B4 1 k len).length:=by rw[B3];exact hi
   have hg:List.getD (AZ B4 1 k len) (Int.toNat (i:Int)) (Kd.dflt .int)=B4 (k+1*(i:Int)):=by rw[AE hv,M3]
   have z1:(0:Int)≤(i:Int):=by omega
   have z2:(i:Int)<((AZ B4 1 k len).length:Int):=by omega
   have hq0:0≤k+1*(i:Int):=by omega
   have hq1:k+1*(i:Int)≤1099511627776:=by omega
   have e9:k+1*((i+1:Nat):Int)=k+1*(i:Int)+1:=by omega
   rw[e9]
   revert hg hq0 hq1
   generalize AZ B4 1 k len=v at z2⊢;generalize k+1*(i:Int)=q;intro hg hq0 hq1;have w1:w64 (q+1)=q+1:=AO (by omega) (by omega)
   have wi:=AG (Nat.lt_trans hi (AQ hlim));have e:q+1=q+1:=by omega
   simp only[Hs,z1,z2,decide_true,Bool.and_self,cond_true,hg,B4,w1,wi,Bool.not_true,cond_false,beq_self_eq_true]
   first|done|rw[e]
set_option maxHeartbeats 4000000 in
theorem ZP {α:Type} {n m:Nat} {A xs:List Task} {k:Int} {i:Nat} {K:Int→List Task→Option α} (hA:A.length=i) (hi:i<xs.length) (hl:xs.length≤lim) (h0:0≤k) (h1:k≤1099511627776):
 Fc n (m+1) (A++xs.drop i) k (i:Int) K=Fc n m ((A++[Cg k])++xs.drop (i+1)) (k+14) ((i+1:Nat):Int) K:=by
 have hs:=fun x=>Iq hA hi x
 have hv:i<(A++xs.drop i).length:=by rw[DF hA (Nat.le_of_lt hi)];exact hi
 revert hs hv
 generalize A++xs.drop i=v;intro hs hv;have z1:(0:Int)≤(i:Int):=by omega
 have z2:(i:Int)<(v.length:Int):=by omega
 have w1:w64 (k+1)=k+1:=AO (by omega) (by omega)
 have w2:w64 (k+1+1)=k+1+1:=AO (by omega) (by omega)
 have w3:w64 (k+1+1+1)=k+1+1+1:=AO (by omega) (by omega)
 have w4:w64 (k+1+1+1+1)=k+1+1+1+1:=AO (by omega) (by omega)
 have w5:w64 (k+1+1+1+1+1)=k+1+1+1+1+1:=AO (by omega) (by omega)
 have w6:w64 (k+1+1+1+1+1+1)=k+1+1+1+1+1+1:=AO (by omega) (by omega)
 have w7:w64 (k+1+1+1+1+1+1+1)=k+1+1+1+1+1+1+1:=AO (by omega) (by omega)
 have w8:w64 (k+1+1+1+1+1+1+1+1)=k+1+1+1+1+1+1+1+1:=AO (by omega) (by omega)
 have w9:w64 (k+1+1+1+1+1+1+1+1+1)=k+1+1+1+1+1+1+1+1+1:=AO (by omega) (by omega)
 have w10:w64 (k+1+1+1+1+1+1+1+1+1+1)=k+1+1+1+1+1+1+1+1+1+1:=AO (by omega) (by omega)
 have w11:w64 (k+1+1+1+1+1+1+1+1+1+1+1)=k+1+1+1+1+1+1+1+1+1+1+1:=AO (by omega) (by omega)
 have w12:w64 (k+1+1+1+1+1+1+1+1+1+1+1+1)=k+1+1+1+1+1+1+1+1+1+1+1+1:=AO (by omega) (by omega)
 have w13:w64 (k+1+1+1+1+1+1+1+1+1+1+1+1+1)=k+1+1+1+1+1+1+1+1+1+1+1+1+1:=AO (by omega) (by omega)
 have w14:w64 (k+1+1+1+1+1+1+1+1+1+1+1+1+1+1)=k+1+1+1+1+1+1+1+1+1+1+1+1+1+1:=AO (by omega) (by omega)
 have wi:=AG (Nat.lt_trans hi (AQ hl));simp only[Fc,z1,z2,hv,Int.toNat_natCast,List.length_set,decide_true,Bool.and_self,cond_true,Ip hv,List.set_set,w1,w2,w3,w4,w5,w6,w7,w8,w9,w10,w11,w12,w13,w14,wi];rw[hs];have e:k+1+1+1+1+1+1+1+1+1+1+1+1+1+1=k+14:=by omega
 rw[e]
 first|done|rfl
theorem ZO{n:Nat}{xs:List Task}{k:Int}(hn:xs.length<n)(hl:xs.length≤10000000)(h0:0≤k)(h1:k≤549755813888):Lp n xs k=some (k+14*(xs.length:Int),AZ Cg 14 k xs.length,()):=by
 unfold Lp;have hlim:xs.length≤lim:=by unfold lim;omega
 have:=AU (l:=fun m i=>Fc n m (AZ Cg 14 k i++xs.drop i) (k+14*(i:Int)) (i:Int) (fun w7 w8=>some (w7,w8,()))) (len:=xs.length)
  (r:=some (k+14*(xs.length:Int),AZ Cg 14 k xs.length,())) (fun _=>True) trivial (fun m _=> ?_) (fun m i hi _=>.inl ⟨?_,trivial⟩) (m:=n) hn
 · have e:k+14*((0:Nat):Int)=k:=by omega
   simp only[e,List.drop_zero]at this;exact this
 · have hlen:(AZ Cg 14 k xs.length++xs.drop xs.length).length=xs.length:=DF (B3 ..) (Nat.le_refl _)
   simp only[Fc,hlen,AP,cond_false];rw[List.drop_length,List.append_nil]
 · rw[ZP (B3 ..) hi hlim (by omega) (by omega),←KE]
   have e:k+14*(i:Int)+14=k+14*((i+1:Nat):Int):=by omega
   rw[e]
set_option maxHeartbeats 4000000 in
theorem Xo {n:Nat} {len:Nat} {k:Int} (hn:len<n) (hl:len≤10000000) (h0:0≤k) (h1:k≤549755813888):Ln n (AZ Cg 14 k len) k=some (k+14*(len:Int),()):=by
 unfold Ln;have hlim:len≤lim:=by unfold lim;omega
 have:=AU (l:=fun m i=>Hu n m (AZ Cg 14 k len) (k+14*(i:Int)) (i:Int) (fun _=>some ((-1),())) (fun w8=>some (w8,()))) (len:=len)
  (r:=some (k+14*(len:Int),())) (fun _=>True) trivial (fun m _=> ?_) (fun m i hi _=>.inl ⟨?_,trivial⟩) (m:=n) hn
 · have e:k+14*((0:Nat):Int)=k:=by omega
   simp only[e]at this;exact this
 ·simp only[Hu,B3,AP,cond_false]
 · have hv:i<(AZ Cg 14 k len).length:=by rw[B3];exact hi
   have hg:List.getD (AZ Cg 14 k len) (Int.toNat (i:Int)) (Kd.dflt .task)=Cg (k+14*(i:Int)):=by rw[AE hv,M3]
   have z1:(0:Int)≤(i:Int):=by omega
   have z2:(i:Int)<((AZ Cg 14 k len).length:Int):=by omega
   have hq0:0≤k+14*(i:Int):=by omega
   have hq1:k+14*(i:Int)≤1099511627776:=by omega
   have e9:k+14*((i+1:Nat):Int)=k+14*(i:Int)+14:=by omega
   rw[e9]
   revert hg hq0 hq1
   generalize AZ Cg 14 k len=v at z2⊢;generalize k+14*(i:Int)=q;intro hg hq0 hq1;have w1:w64 (q+1)=q+1:=AO (by omega) (by omega)
   have w2:w64 (q+1+1)=q+1+1:=AO (by omega) (by omega)
   have w3:w64 (q+1+1+1)=q+1+1+1:=AO (by omega) (by omega)
   have w4:w64 (q+1+1+1+1)=q+1+1+1+1:=AO (by omega) (by omega)
   have w5:w64 (q+1+1+1+1+1)=q+1+1+1+1+1:=AO (by omega) (by omega)
   have w6:w64 (q+1+1+1+1+1+1)=q+1+1+1+1+1+1:=AO (by omega) (by omega)
   have w7:w64 (q+1+1+1+1+1+1+1)=q+1+1+1+1+1+1+1:=AO (by omega) (by omega)
   have w8:w64 (q+1+1+1+1+1+1+1+1)=q+1+1+1+1+1+1+1+1:=AO (by omega) (by omega)
   have w9:w64 (q+1+1+1+1+1+1+1+1+1)=q+1+1+1+1+1+1+1+1+1:=AO (by omega) (by omega)
   have w10:w64 (q+1+1+1+1+1+1+1+1+1+1)=q+1+1+1+1+1+1+1+1+1+1:=AO (by omega) (by omega)
   have w11:w64 (q+1+1+1+1+1+1+1+1+1+1+1)=q+1+1+1+1+1+1+1+1+1+1+1:=AO (by omega) (by omega)
   have w12:w64 (q+1+1+1+1+1+1+1+1+1+1+1+1)=q+1+1+1+1+1+1+1+1+1+1+1+1:=AO (by omega) (by omega)
   have w13:w64 (q+1+1+1+1+1+1+1+1+1+1+1+1+1)=q+1+1+1+1+1+1+1+1+1+1+1+1+1:=AO (by omega) (by omega)
   have w14:w64 (q+1+1+1+1+1+1+1+1+1+1+1+1+1+1)=q+1+1+1+1+1+1+1+1+1+1+1+1+1+1:=AO (by omega) (by omega)
   have wi:=AG (Nat.lt_trans hi (AQ hlim));have e:q+1+1+1+1+1+1+1+1+1+1+1+1+1+1=q+14:=by omega
   simp only[Hu,z1,z2,decide_true,Bool.and_self,cond_true,hg,Cg,w1,w2,w3,w4,w5,w6,w7,w8,w9,w10,w11,w12,w13,w14,wi,Bool.not_true,cond_false,beq_self_eq_true]
   first|done|rw[e]
end Go.Proofs.YtbbgaleennfklaaGreat.VR
end
section
set_option linter.unusedVariables false
set_option linter.unusedSimpArgs false
namespace Go.Proofs.YtbbgaleennfklaaGreat.VR
open Go
theorem ZN{n B:Nat}{xs:List Lock}{k:Int}(h:LBound B xs)(hn:B<n)(hB:B≤5000000)(h0:0≤k)(h1:k≤274877906944):Jf n xs k=some (Ao k xs,A4 k xs,()):=by
 unfold Jf;have hlen:=h.len;have hlim:xs.length≤lim:=by unfold lim;omega
 have:=AU (l:=fun m i=>Hw n m (A4 k (xs.take i)++xs.drop i) (Ao k (xs.take i)) (i:Int) (fun w7 w8=>some (w7,w8,()))) (len:=xs.length)
  (r:=some (Ao k xs,A4 k xs,())) (fun _=>True) trivial (fun m _=> ?_) (fun m i hi _=>.inl ⟨?_,trivial⟩) (m:=n) (by omega)
 · have e:Ao k (xs.take 0)=k:=by simp[Ao,AT]
   rw[e]at this;simpa[A4]using this
 · have hl:(A4 k (xs.take xs.length)++xs.drop xs.length).length=xs.length:=DF (by rw[List.take_length,IZ]) (Nat.le_refl _)
   simp only[Hw,hl,AP,cond_false];rw[List.drop_length,List.append_nil,List.take_length]
 · have hA:(A4 k (xs.take i)).length=i:=by rw[IZ,List.length_take];omega
   obtain⟨c1,c2⟩:=Kt h k i;obtain⟨c3,_⟩:=Kt h k (i+1);rw[Ku hi]at c3;have hw:=h.small.waits _ (List.getElem_mem hi);have hs:=fun x=>Iq hA hi x
   have hv:i<(A4 k (xs.take i)++xs.drop i).length:=by rw[DF hA (Nat.le_of_lt hi)];exact hi
   have hg:List.getD (A4 k (xs.take i)++xs.drop i) i (Kd.dflt .lock)=xs[i]:=by
    rw[List.getD_eq_getElem?_getD,List.getElem?_append_right (by omega),hA,Nat.sub_self,List.drop_eq_getElem_cons hi];rfl
   rw[ZM hi,Ku hi]
   revert hs hv hg
   generalize A4 k (xs.take i)++xs.drop i=v;intro hs hv hg;have z1:(0:Int)≤(i:Int):=by omega
   have z2:(i:Int)<(v.length:Int):=by omega
   have wk:w64 (Ao k (xs.take i)+1)=Ao k (xs.take i)+1:=AO (by omega) (by omega)
   have wi:=AG (Nat.lt_trans hi (AQ hlim));simp only[Hw,z1,z2,hv,Int.toNat_natCast,List.length_set,decide_true,Bool.and_self,Bool.and_true,cond_true,Ip hv,List.set_set,hg,wk,wi,PS (xs:=xs[i].Waits) (k:=Ao k (xs.take i)+1) (n:=n) (by omega) (by omega) (by omega) (by omega),Option.bind_some]
   rw[hs];have e:Ao k (xs.take i)+1+1*(xs[i].Waits.length:Int)=Ao k (xs.take i)+1+(xs[i].Waits.length:Int):=by omega
   rw[e]
theorem Xn{n B:Nat}{xs:List Lock}{k:Int}(h:LBound B xs)(hn:B<n)(hB:B≤5000000)(h0:0≤k)(h1:k≤274877906944):Jc n (A4 k xs) k=some (Ao k xs,()):=by
 unfold Jc;have hlen:=h.len;have hlim:xs.length≤lim:=by unfold lim;omega
 have:=AU (l:=fun m i=>Ht n m (A4 k xs) (Ao k (xs.take i)) (i:Int) (fun _=>some (-1,())) (fun w7=>some (w7,()))) (len:=xs.length)
  (r:=some (Ao k xs,())) (fun _=>True) trivial (fun m _=> ?_) (fun m i hi _=>.inl ⟨?_,trivial⟩) (m:=n) (by omega)
 · have e:Ao k (xs.take 0)=k:=by simp[Ao,AT]
   rw[e]at this;exact this
 ·simp only[Ht,IZ,AP,cond_false,List.take_length]
 · obtain⟨c1,c2⟩:=Kt h k i
   obtain⟨c3,_⟩:=Kt h k (i+1);rw[Ku hi]at c3;have hw:=h.small.waits _ (List.getElem_mem hi);have hg:=ZL (k:=k) hi (Kd.dflt .lock);have hl:=IZ xs k;rw[Ku hi]
   revert hg hl
   generalize A4 k xs=v;intro hg hl;have z1:(0:Int)≤(i:Int):=by omega
   have z2:(i:Int)<(v.length:Int):=by omega
   have wk:w64 (Ao k (xs.take i)+1)=Ao k (xs.take i)+1:=AO (by omega) (by omega)
   have wi:=AG (Nat.lt_trans hi (AQ hlim));have hneg: ¬(Ao k (xs.take i)+1+1*(xs[i].Waits.length:Int)<0):=by omega
   simp only[Ht,z1,z2,Int.toNat_natCast,decide_true,Bool.and_self,cond_true,hg,Bool.not_true,cond_false,wk,wi,O5 (len:=xs[i].Waits.length) (k:=Ao k (xs.take i)+1) (n:=n) (by omega) (by omega) (by omega) (by omega),Option.bind_some,hneg,decide_false]
   have e:Ao k (xs.take i)+1+1*(xs[i].Waits.length:Int)=Ao k (xs.take i)+1+(xs[i].Waits.length:Int):=by omega
   rw[e]
theorem Ia{s:Sys}{n B:Nat}(h:SysC B s)(hn:B<n)(hB:B≤5000000):ET n s 1=some ((Ad s).r,Gn s,()):=by
 have h1:=h.small.tasks;have h4:=h.small.ghosts;have h5:=h.small.floors;have h6:=h.small.trace;obtain⟨m1,m2,m3,m4,m5,m6⟩:=Fr h;simp only[ET,ZO (xs:=s.Tasks) (k:=1) (n:=n) (by omega) (by omega) (by omega) (by omega),Option.bind_some]
 change(Jf n s.Locks (Ad s).t).bind _=_
 rw[ZN h.lb hn hB (by omega) (by omega),Option.bind_some]
 change(Je n s.Ghosts (Ad s).l).bind _=_
 rw[ZI (by omega) (by omega) (by omega) (by omega),Option.bind_some]
 change(GI n s.Floors (Ad s).g).bind _=_
 rw[PS (by omega) (by omega) (by omega) (by omega),Option.bind_some]
 change(Jg n s.Trace (Ad s).f).bind _=_
 rw[ZQ (by omega) (by omega) (by omega) (by omega),Option.bind_some]
 rfl
theorem O6{s t:Sys}{n B:Nat}(h:SysC B s)(hn:B<n)(hB:B≤5000000)(e1:t.Tasks=(Gn s).2.2.1)(e2:t.Locks=(Gn s).2.2.2.1)(e3:t.Ghosts=(Gn s).2.2.2.2.1)(e4:t.Floors=(Gn s).2.2.2.2.2.1)(e5:t.Trace=(Gn s).2.2.2.2.2.2.2.2.1):
 ES n t 1=some ((Ad s).r,()):=by
 have h1:=h.small.tasks;have h4:=h.small.ghosts;have h5:=h.small.floors;have h6:=h.small.trace;obtain⟨m1,m2,m3,m4,m5,m6⟩:=Fr h;simp only[Gn]at e1 e2 e3 e4 e5;simp only[ES,e1,e2,e3,e4,e5,Xo (len:=s.Tasks.length) (k:=1) (n:=n) (by omega) (by omega) (by omega) (by omega),Option.bind_some]
 have p1: ¬((1+14*(s.Tasks.length:Int))<0):=by omega
 rw[decide_eq_false p1,cond_false]
 change(Jc n (A4 (Ad s).t s.Locks) (Ad s).t).bind _=_
 rw[Xn h.lb hn hB (by omega) (by omega),Option.bind_some]
 change cond (decide ((Ad s).l<0)) _ ((Jb n (AZ CW 4 (Ad s).l s.Ghosts.length) (Ad s).l).bind _)=_
 rw[decide_eq_false (show¬(Ad s).l<0 by omega),cond_false,Xm (by omega) (by omega) (by omega) (by omega),Option.bind_some]
 change cond (decide ((Ad s).g<0)) _ ((FI n (AZ B4 1 (Ad s).g s.Floors.length) (Ad s).g).bind _)=_
 rw[decide_eq_false (show¬(Ad s).g<0 by omega),cond_false,O5 (by omega) (by omega) (by omega) (by omega),Option.bind_some]
 change cond (decide ((Ad s).f<0)) _ ((Jd n (AZ CX 3 (Ad s).f s.Trace.length) (Ad s).f).bind _)=_
 rw[decide_eq_false (show¬(Ad s).f<0 by omega),cond_false,Xp (by omega) (by omega) (by omega) (by omega),Option.bind_some]
 change cond (decide ((Ad s).r<0)) _ (some ((Ad s).r,()))=_
 rw[decide_eq_false (show¬(Ad s).r<0 by omega),cond_false]
end Go.Proofs.YtbbgaleennfklaaGreat.VR
end
section
set_option linter.unusedVariables false
set_option linter.unusedSimpArgs false
namespace Go.Proofs.YtbbgaleennfklaaGreat.VR
open Go
def Nb(s:Sys)(cpu:Int):Int:=if SysOk s then J1 (BF s.Tasks cpu)else 0
theorem Qw(ts:List Task)(cpu:Int):(BF ts cpu).length≤ts.length:=List.length_filter_le _ _
theorem YN{s:Sys}{cpu:Int}{n:Nat}(h:SysB s)(hn:SN n):LJ n s cpu=some (Nb s cpu,()):=by
 obtain⟨h1,h2⟩:=SN.tasks h hn;have h3:=Qw s.Tasks cpu;unfold LJ Nb;rw[FQ h hn];simp only[Option.bind_some,O8 h1 h2,YB (xs:=BF s.Tasks cpu) (n:=n) (by omega) (by omega),CP,BA]
 split<;>rfl
theorem m9{s:Sys}{cpu:Int}{n:Nat}(h:SysB s)(hn:SN n):MP n s cpu=some (Nb s cpu,()):=by
 obtain⟨h1,h2⟩:=SN.tasks h hn;have h3:=Qw s.Tasks cpu;unfold MP Nb;rw[Is h hn];simp only[Option.bind_some,QG h1 h2,mp (xs:=BF s.Tasks cpu) (n:=n) (by omega) (by omega),CP,BA]
 split<;>rfl
theorem SW(s:Sys)(cpu:Int)(ha:A1 s.Now)(hb:A1 s.Cpus)(h1:wfL .task s.Tasks)(h2:wfL .lock s.Locks)(h3:wfL .ghost s.Ghosts)(h4:wfL .int s.Floors)(hc:A1 s.Seq)(hd:A1 s.Missed)(h5:wfL .turn s.Trace)(hq:A1 cpu): ∃n,Ld n s cpu=some (true,()):=by
 have hsn:SN (GN+big+big+4):=by unfold SN;omega
 have hlt:big<GN+big+big+4:=by omega
 refine⟨GN+big+big+4,?_⟩;obtain⟨r,e,hr⟩:=Nd (s:=s) ⟨ha,hb,h1,h2,h3,h4,hc,hd,h5⟩ hlt;simp only[Ld,e,Option.bind_some];rcases hr with hr|⟨hr,hs⟩
 ·rw[decide_eq_true hr,cond_true]
 · rw[decide_eq_false hr,cond_false]
   simp only[KC hs.small hlt BM,Option.bind_some,dnSys_up,m9 hs hsn,YN hs hsn,decide_true,Gl hs.small hlt BM,Bool.not_true,cond_false]
theorem QW{s:Sys}{B n:Nat}(h:Small B s)(hn:B<n)(hb:B≤lim):Jj n s=some (AA s,()):=KC h hn hb
theorem o0:SysC big B7:=⟨⟨by simp[B7],by simp[B7],fun x hx=>by simp[B7]at hx,by simp[B7],by simp[B7],by simp[B7]⟩,⟨by simp[B7],by simp[B7,AT]⟩⟩
theorem oW{s:Sys}(h:TickOk s):SysC big (DL s):=by
 have hs:=h.b.small;have h1:=(V0 h.now h.ok.tasks).len;have hc:=h.ok.cpus;have htr:(DL s).Trace.length=s.Trace.length+s.Cpus.toNat:=Nk s.Locks ⟨AS s,s.Seq,s.Trace⟩ s.Cpus.toNat;have h3:=h.ok.trace;have eb:big=1048576:=rfl;have q1:=hs.tasks;have q4:=hs.floors;have q3:=hs.ghosts;exact⟨⟨by rw[h1];exact q1,hs.locks,hs.waits,Nat.le_trans (List.length_filter_le _ _) q3,by rw[show(DL s).Floors=Bo (AS s) s.Floors from rfl,J4];exact q4,by rw[htr];omega⟩,h.b.tl.locks⟩
theorem nk{s:Sys}(h:SysB s):SysC big (BY s).1:=by
 unfold BY;split
 · rename_i hs
   split
   ·rename_i hc;exact oW ⟨hs,hc,h⟩
   ·exact h.c
 ·exact o0
theorem SZ(s:Sys)(ha:A1 s.Now)(hb:A1 s.Cpus)(h1:wfL .task s.Tasks)(h2:wfL .lock s.Locks)(h3:wfL .ghost s.Ghosts)(h4:wfL .int s.Floors)(hc:A1 s.Seq)(hd:A1 s.Missed)(h5:wfL .turn s.Trace): ∃n,Lg n s=some (true,()):=by
 have hsn:SN (GN+big+big+4):=by unfold SN;omega
 have hlt:big<GN+big+big+4:=by omega
 refine⟨GN+big+big+4,?_⟩;obtain⟨r,e,hr⟩:=Nd (s:=s) ⟨ha,hb,h1,h2,h3,h4,hc,hd,h5⟩ hlt;simp only[Lg,e,Option.bind_some];rcases hr with hr|⟨hr,hs⟩
 ·rw[decide_eq_true hr,cond_true]
 · rw[decide_eq_false hr,cond_false]
   have h:=nk hs;obtain⟨m1,m2,m3,m4,m5,m6⟩:=Fr h;obtain⟨k1,k2,k3,k4,k5,k6⟩:=Fr hs.c;have hp: ¬(Ad (BY s).1).r<0:=by omega
   have hp2: ¬(Ad s).r<0:=by omega
   have hB:big≤5000000:=by unfold big;omega
   simp only[KC hs.small hlt BM,QW hs.small hlt BM,Option.bind_some,dnSys_up,nE hs hsn,YS hs hsn,SA hs hsn,Gl h.small hlt BM,Gl hs.small hlt BM,decide_true,Bool.not_true,cond_false,beq_self_eq_true,
    Ia hs.c hlt hB,Ia h hlt hB,hp,hp2,decide_false]
   rw[O6 h hlt hB rfl rfl rfl rfl rfl];simp only[Option.bind_some,hp,decide_false,cond_false,Pb,decide_true,Bool.not_true]
end Go.Proofs.YtbbgaleennfklaaGreat.VR
end
