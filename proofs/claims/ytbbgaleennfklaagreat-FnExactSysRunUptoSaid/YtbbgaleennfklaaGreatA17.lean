/- Rows of calls: taken over, compared, marked. -/
import Derived.Test.YtbbgaleennfklaaGreatA16
section
set_option linter.unusedVariables false
set_option linter.unusedSimpArgs false
namespace Go.Proofs.YtbbgaleennfklaaGreat.VR
open Go
theorem PJ(a b:Call):Lh a b=some (decide (a=b),()):=by
 simp only[Lh,Bt];refine Be ?_;cases a;cases b;simp[BB]
theorem Y2{xs:List Call}{n:Nat}(hn:xs.length<n)(hb:xs.length≤lim):HS n xs=some (xs,()):=by
 have hb':((xs.length:Int)≤(lim:Int)):=by omega
 simp only[HS,decide_true,AF,hb',Bool.and_self,cond_true,Int.toNat_natCast];refine AU (l:=fun m i=>Hy n m xs (xs.take i++List.replicate (xs.length-i) (Kd.dflt .call)) (i:Int) (fun w5=>some (w5,()))) (len:=xs.length) (fun i=>i≤xs.length) (Nat.zero_le _) (fun m _=> ?_) (fun m i hi _=>.inl ⟨?_,hi⟩) hn
 ·simp[Hy]
 · have hl:=Ga (xs:=xs) (d:=Kd.dflt .call) (i:=i) (by omega)
   simp only[Hy,hl,AD hi,AF,Bool.and_self,cond_true,AE hi,Ab hi,PO,Option.bind_some,Int.toNat_natCast,decide_true,hi,dnCall_up,AG (Nat.lt_trans hi (Bw hb)),Gy hi]
theorem Y1{xs:List Call}{n:Nat}(hn:xs.length<n)(hb:xs.length≤lim):Lt n xs=some (xs,()):=by
 have hb':((xs.length:Int)≤(lim:Int)):=by omega
 simp only[Lt,decide_true,AF,hb',Bool.and_self,cond_true,Int.toNat_natCast];refine AU (l:=fun m i=>Hz n m xs (xs.take i++List.replicate (xs.length-i) (Kd.dflt .call)) (i:Int) (fun w5=>some (w5,()))) (len:=xs.length) (fun i=>i≤xs.length) (Nat.zero_le _) (fun m _=> ?_) (fun m i hi _=>.inl ⟨?_,hi⟩) hn
 ·simp[Hz]
 · have hl:=Ga (xs:=xs) (d:=Kd.dflt .call) (i:=i) (by omega)
   simp only[Hz,hl,AD hi,AF,Bool.and_self,cond_true,AE hi,Ab hi,PO,Option.bind_some,Int.toNat_natCast,decide_true,hi,dnCall_up,AG (Nat.lt_trans hi (Bw hb)),Gy hi]
theorem Yv{xs ys:List Call}{n:Nat}(hn:xs.length<n)(hb:xs.length≤lim):JW n xs ys=some (decide (xs=ys),()):=by
 by_cases hl:xs.length=ys.length
 · have hl':((xs.length:Int)=(ys.length:Int)):=by omega
   simp only[JW,hl',decide_true,Bool.not_true,cond_false]
   by_cases he:xs=ys
   · subst he
     refine AU (l:=fun m i=>Eb n m xs xs (i:Int) (some (false,())) (some (true,()))) (len:=xs.length) (fun _=>True) trivial (fun m _=> ?_) (fun m i hi _=>.inl ⟨?_,trivial⟩) hn
     ·simp[Eb]
     · skip
       simp only[Eb,AD hi,AF,Bool.and_self,cond_true,AE hi,Ab hi,PJ,Option.bind_some,decide_true,Bool.not_true,cond_false,AG (Nat.lt_trans hi (Bw hb))]
   · rw[decide_eq_false he]
     refine AU (l:=fun m i=>Eb n m xs ys (i:Int) (some (false,())) (some (true,()))) (len:=xs.length) (fun i=>xs.take i=ys.take i) rfl (fun m hI=> ?_) (fun m i hi hI=> ?_) hn
     ·exact absurd (by have:=hI;rw[List.take_length,hl,List.take_length]at this;exact this) he
     · have hj:i<ys.length:=by omega
       skip
       by_cases e:xs[i]=ys[i]
       · left
         refine⟨?_,by rw[List.take_succ_eq_append_getElem hi,List.take_succ_eq_append_getElem hj,hI,e]⟩
         simp only[Eb,AD hi,AD hj,AF,Bool.and_self,cond_true,AE hi,AE hj,PJ,Option.bind_some,decide_eq_true e,Bool.not_true,cond_false,AG (Nat.lt_trans hi (Bw hb))]
       · right
         simp only[Eb,AD hi,AD hj,AF,Bool.and_self,cond_true,AE hi,AE hj,PJ,Option.bind_some,decide_eq_false e,Bool.not_false,cond_true]
 · have hl': ¬((xs.length:Int)=(ys.length:Int)):=by omega
   have he: ¬xs=ys:=fun h=>hl (by rw[h])
   simp only[JW,hl',he,decide_false,Bool.not_false,cond_true]
def KF(k:Int):Call:=⟨k,k+1,k+1+1,k+1+1+1,k+1+1+1+1⟩
set_option maxHeartbeats 4000000 in
theorem ZH {α:Type} {n m:Nat} {A xs:List Call} {k:Int} {i:Nat} {K:Int→List Call→Option α} (hA:A.length=i) (hi:i<xs.length) (hl:xs.length≤lim) (h0:0≤k) (h1:k≤1099511627776):
 FZ n (m+1) (A++xs.drop i) k (i:Int) K=FZ n m ((A++[KF k])++xs.drop (i+1)) (k+5) ((i+1:Nat):Int) K:=by
 have hs:=fun x=>Iq hA hi x
 have hv:i<(A++xs.drop i).length:=by rw[DF hA (Nat.le_of_lt hi)];exact hi
 revert hs hv
 generalize A++xs.drop i=v;intro hs hv;have z1:(0:Int)≤(i:Int):=by omega
 have z2:(i:Int)<(v.length:Int):=by omega
 have w1:w64 (k+1)=k+1:=AO (by omega) (by omega)
 have w2:w64 (k+1+1)=k+1+1:=AO (by omega) (by omega)
 have w3:w64 (k+1+1+1)=k+1+1+1:=AO (by omega) (by omega)
 have w4:w64 (k+1+1+1+1)=k+1+1+1+1:=AO (by omega) (by omega)
 have w5:w64 (k+1+1+1+1+1)=k+1+1+1+1+1:=AO (by omega) (by omega)
 have wi:=AG (Nat.lt_trans hi (AQ hl));simp only[FZ,z1,z2,hv,Int.toNat_natCast,List.length_set,decide_true,Bool.and_self,cond_true,Ip hv,List.set_set,w1,w2,w3,w4,w5,wi];rw[hs];have e:k+1+1+1+1+1=k+5:=by omega
 rw[e]
 first|done|rfl
theorem ZG{n:Nat}{xs:List Call}{k:Int}(hn:xs.length<n)(hl:xs.length≤10000000)(h0:0≤k)(h1:k≤549755813888):Lo n xs k=some (k+5*(xs.length:Int),AZ KF 5 k xs.length,()):=by
 unfold Lo;have hlim:xs.length≤lim:=by unfold lim;omega
 have:=AU (l:=fun m i=>FZ n m (AZ KF 5 k i++xs.drop i) (k+5*(i:Int)) (i:Int) (fun w7 w8=>some (w7,w8,()))) (len:=xs.length)
  (r:=some (k+5*(xs.length:Int),AZ KF 5 k xs.length,())) (fun _=>True) trivial (fun m _=> ?_) (fun m i hi _=>.inl ⟨?_,trivial⟩) (m:=n) hn
 · have e:k+5*((0:Nat):Int)=k:=by omega
   simp only[e,List.drop_zero]at this;exact this
 · have hlen:(AZ KF 5 k xs.length++xs.drop xs.length).length=xs.length:=DF (B3 ..) (Nat.le_refl _)
   simp only[FZ,hlen,AP,cond_false];rw[List.drop_length,List.append_nil]
 · rw[ZH (B3 ..) hi hlim (by omega) (by omega),←KE]
   have e:k+5*(i:Int)+5=k+5*((i+1:Nat):Int):=by omega
   rw[e]
end Go.Proofs.YtbbgaleennfklaaGreat.VR
end
section
set_option linter.unusedVariables false
set_option linter.unusedSimpArgs false
namespace Go.Proofs.YtbbgaleennfklaaGreat.VR
open Go
theorem Ur: ∀(l:List Call) (s:Sys) (acc:List Int),SysB s→SysB (Fz l s acc).1
 | [],s,acc,h=>h
 |c::l,s,acc,h=>by
  unfold Fz;refine Ur l _ _ ?_;split
  ·exact(QQ s c).b
  ·exact h
theorem Us: ∀(l:List Call) (s:Sys) (acc:List Int),(Fz l s acc).2.length=acc.length+l.length
 | [],s,acc=>rfl
 |c::l,s,acc=>by
  unfold Fz;rw[Us l];simp;omega
theorem nj{s:Sys}(l:List Call)(h:SysB s):SysC big (BX s l).1∧(BX s l).2.length≤150:=by
 unfold BX;split
 · rename_i q
   refine⟨(Ur l s [] h).c,?_⟩;rw[Us];simpa using q.2
 ·exact⟨h.c,by simp⟩
theorem NU{R:Type}{L:Nat→Int→Sys→List Int→R}{cs:List Call}{k:Sys→List Int→R}(hb:cs.length≤lim)(hend: ∀m v acc,L (m+1) (cs.length:Int) v acc=k v acc)
 (hstep: ∀m (i:Nat) v acc (hi:i<cs.length),SysB v→acc.length=i→L (m+1) (i:Int) v acc=L m ((i+1:Nat):Int) (if(Bj v cs[i]).2=0 then(Bj v cs[i]).1 else v) (acc++[(Bj v cs[i]).2])):
 ∀(d i m:Nat) (v:Sys) (acc:List Int),i+d=cs.length→d<m→SysB v→acc.length=i→L m (i:Int) v acc=k (Fz (cs.drop i) v acc).1 (Fz (cs.drop i) v acc).2
 |0,i,m,v,acc,hd,hm,hv,ha=>by
  obtain⟨m,rfl⟩: ∃q,m=q+1:=⟨m-1,by omega⟩
  have:i=cs.length:=by omega
  subst this;rw[hend,List.drop_length];rfl
 |d+1,i,m,v,acc,hd,hm,hv,ha=>by
  obtain⟨m,rfl⟩: ∃q,m=q+1:=⟨m-1,by omega⟩
  have hi:i<cs.length:=by omega
  rw[hstep m i v acc hi hv ha,NU hb hend hstep d (i+1) m _ _ (by omega) (by omega) (by split;exact(QQ _ _).b;exact hv) (by simp[ha]),List.drop_eq_getElem_cons hi]
  rfl
theorem nC{s:Sys}{cs:List Call}{n:Nat}(h:SysB s)(hn:SN n)(hl:cs.length≤big):MS n s cs=some ((AA (BX s cs).1,(BX s cs).2,()),()):=by
 have hbn:big<n:=by unfold SN at hn;omega
 have hbl:=BM;unfold MS BX;rw[VL h.small hbn hbl];simp only[Option.bind_some,Is h hn,dnSys_up]
 by_cases hs:SysOk s
 · rw[decide_eq_true hs]
   by_cases h150:cs.length≤150
   · rw[if_pos ⟨hs,h150⟩,decide_eq_false (show¬(150:Int)<(cs.length:Int) by omega)]
     simp only[Bool.not_true,cond_false];have:=NU (L:=fun m i v acc=>Gj n m cs (⟨0,0,[],[],[],[],0,0,[]⟩:Sys) acc v i (fun w9 w10=>some (((AA w9),w10,()),()))) (cs:=cs) (k:=fun w9 w10=>some (((AA w9),w10,()),())) (by omega)
      (fun m v acc=>by simp only[Gj,AP,cond_false])
      (fun m i v acc hi hv ha=>by
        simp only[Gj,AD hi,AF,Bool.and_self,cond_true,AE hi,VA hv hn,Option.bind_some,dnSys_up,AG (Nat.lt_trans hi (AQ (show cs.length≤lim by omega))),BV (show acc.length<lim by omega) (Nat.le_refl _)]
        by_cases hz:(Bj v cs[i]).2=0
        ·rw[if_pos hz,decide_eq_true hz];rfl
        ·rw[if_neg hz,decide_eq_false hz];rfl) cs.length 0 n s [] (by omega) (by omega) h rfl
     simpa using this
   ·rw[if_neg (fun q=>h150 q.2),decide_eq_true (show(150:Int)<(cs.length:Int) by omega)];rfl
 ·rw[decide_eq_false hs,if_neg (fun q=>hs q.1)];rfl
theorem YR{s:Sys}{cs:List Call}{n:Nat}(h:SysB s)(hn:SN n)(hl:cs.length≤big):LM n s cs=some ((AA (BX s cs).1,(BX s cs).2,()),()):=by
 have hbn:big<n:=by unfold SN at hn;omega
 have hbl:=BM;unfold LM BX;rw[YX h.small hbn hbl];simp only[Option.bind_some,FQ h hn,dnSys_up]
 by_cases hs:SysOk s
 · rw[decide_eq_true hs]
   by_cases h150:cs.length≤150
   · rw[if_pos ⟨hs,h150⟩,decide_eq_false (show¬(150:Int)<(cs.length:Int) by omega)]
     simp only[Bool.not_true,cond_false];have:=NU (L:=fun m i v acc=>Gf n m (⟨0,0,[],[],[],[],0,0,[]⟩:Sys) v acc cs (cs.length:Int) i (fun w9 w10=>some (((AA w9),w10,()),()))) (cs:=cs) (k:=fun w9 w10=>some (((AA w9),w10,()),())) (by omega)
      (fun m v acc=>by simp only[Gf,AP,cond_false])
      (fun m i v acc hi hv ha=>by
        simp only[Gf,AD hi,AF,Bool.and_self,cond_true,AE hi,R9 hv hn,Option.bind_some,dnSys_up,AG (Nat.lt_trans hi (AQ (show cs.length≤lim by omega))),BV (show acc.length<lim by omega) (Nat.le_refl _)]
        by_cases hz:(Bj v cs[i]).2=0
        ·rw[if_pos hz,decide_eq_true hz];rfl
        ·rw[if_neg hz,decide_eq_false hz];rfl) cs.length 0 n s [] (by omega) (by omega) h rfl
     simpa using this
   ·rw[if_neg (fun q=>h150 q.2),decide_eq_true (show(150:Int)<(cs.length:Int) by omega)];rfl
 ·rw[decide_eq_false hs,if_neg (fun q=>hs q.1)];rfl
theorem YQ{s:Sys}{cs:List Call}{n:Nat}(h:SysB s)(hn:SN n)(hl:cs.length≤big):LN n s cs=some ((AA (BX s cs).1,(BX s cs).2,()),()):=by
 have hbn:big<n:=by unfold SN at hn;omega
 have hbl:=BM;unfold LN BX;rw[Hb h.small hbn hbl];simp only[Option.bind_some,FQ h hn,dnSys_up]
 by_cases hs:SysOk s
 · rw[decide_eq_true hs]
   by_cases h150:cs.length≤150
   · rw[if_pos ⟨hs,h150⟩,decide_eq_false (show¬(150:Int)<(cs.length:Int) by omega)]
     simp only[Bool.not_true,cond_false];have:=NU (L:=fun m i v acc=>Gg n m (⟨0,0,[],[],[],[],0,0,[]⟩:Sys) v acc cs (cs.length:Int) i (fun w10 w11 w12 w13 w14 w15 w16 w17 w18 w19=>
      some (((AA (⟨w10,w11,w15,w16,w17,w18,w12,w13,w19⟩:Sys)),w14,()),()))) (cs:=cs) (k:=fun w9 w10=>some (((AA w9),w10,()),())) (by omega)
      (fun m v acc=>by simp only[Gg,AP,cond_false])
      (fun m i v acc hi hv ha=>by
        simp only[Gg,AD hi,AF,Bool.and_self,cond_true,AE hi,R8 hv hn,Option.bind_some,dnSys_up,AG (Nat.lt_trans hi (AQ (show cs.length≤lim by omega))),BV (show acc.length<lim by omega) (Nat.le_refl _)]
        by_cases hz:(Bj v cs[i]).2=0
        ·rw[if_pos hz,decide_eq_true hz];rfl
        ·rw[if_neg hz,decide_eq_false hz];rfl) cs.length 0 n s [] (by omega) (by omega) h rfl
     simpa using this
   ·rw[if_neg (fun q=>h150 q.2),decide_eq_true (show(150:Int)<(cs.length:Int) by omega)];rfl
 ·rw[decide_eq_false hs,if_neg (fun q=>hs q.1)];rfl
end Go.Proofs.YtbbgaleennfklaaGreat.VR
end
section
set_option linter.unusedVariables false
set_option linter.unusedSimpArgs false
namespace Go.Proofs.YtbbgaleennfklaaGreat.VR
open Go
theorem SY(s:Sys)(cs:List Call)(ha:A1 s.Now)(hb:A1 s.Cpus)(h1:wfL .task s.Tasks)(h2:wfL .lock s.Locks)(h3:wfL .ghost s.Ghosts)(h4:wfL .int s.Floors)(hc:A1 s.Seq)(hd:A1 s.Missed)(h5:wfL .turn s.Trace)
 (hq:wfL .call cs): ∃n,Lf n s cs=some (true,()):=by
 have hsn:SN (GN+big+big+4):=by unfold SN;omega
 have hlt:big<GN+big+big+4:=by omega
 refine⟨GN+big+big+4,?_⟩;obtain⟨r,e,hr⟩:=Nd (s:=s) ⟨ha,hb,h1,h2,h3,h4,hc,hd,h5⟩ hlt;simp only[Lf,e,Option.bind_some];rcases hr with hr|⟨hr,hs⟩
 ·rw[decide_eq_true hr,cond_true]
 · rw[decide_eq_false hr,cond_false]
   unfold OU
   by_cases hr2:w64 (r-(cs.length:Int))<0
   ·rw[decide_eq_true hr2];rfl
   rw[decide_eq_false hr2];simp only[cond_false,Option.bind_some,decide_eq_false hr2];have hcl:cs.length≤big:=hq.1;obtain⟨h,hrl⟩:=nj cs hs;obtain⟨m1,m2,m3,m4,m5,m6⟩:=Fr h;obtain⟨k1,k2,k3,k4,k5,k6⟩:=Fr hs.c;have eb:big=1048576:=rfl;have hp: ¬(Ad (BX s cs).1).r<0:=by omega
   have hp2: ¬(Ad s).r+5*(cs.length:Int)<0:=by omega
   have hp3: ¬(Ad (BX s cs).1).r+1*((BX s cs).2.length:Int)<0:=by omega
   have hB:big≤5000000:=by unfold big;omega
   have hl1:cs.length<GN+big+big+4:=by omega
   have hl2:cs.length≤lim:=Nat.le_trans hcl BM;have hl3:(BX s cs).2.length<GN+big+big+4:=by omega
   have hl4:(BX s cs).2.length≤lim:=by unfold lim;omega
   simp only[KC hs.small hlt BM,QW hs.small hlt BM,Y2 hl1 hl2,Y1 hl1 hl2,Option.bind_some,dnSys_up,nC hs hsn hcl,YR hs hsn hcl,YQ hs hsn hcl,Gl h.small hlt BM,Gl hs.small hlt BM,
    PL hl3 hl4,Yv hl1 hl2,decide_true,Bool.not_true,cond_false,beq_self_eq_true,
    Ia hs.c hlt hB,Ia h hlt hB,ZG hl1 (show cs.length≤10000000 by omega) (show 0≤(Ad s).r by omega) (show(Ad s).r≤549755813888 by omega),PS hl3 (show(BX s cs).2.length≤10000000 by omega) (show 0≤(Ad (BX s cs).1).r by omega) (show(Ad (BX s cs).1).r≤549755813888 by omega),hp,hp2,decide_false]
   rw[O6 h hlt hB rfl rfl rfl rfl rfl];simp only[Option.bind_some,hp,decide_false,cond_false,O5 hl3 (show(BX s cs).2.length≤10000000 by omega) (show 0≤(Ad (BX s cs).1).r by omega) (show(Ad (BX s cs).1).r≤549755813888 by omega),hp3,Pb,decide_true,Bool.not_true]
end Go.Proofs.YtbbgaleennfklaaGreat.VR
end
