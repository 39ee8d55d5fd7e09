/- The law FnSlept: a task of a drawn system that sleeps has no turn until it wakes; asleep it does not sleep again. -/
import Derived.Test.YthoholbeacojfaaGreatA16
set_option linter.unusedVariables false
set_option linter.unusedSimpArgs false
set_option linter.unusedSectionVars false
set_option linter.unusedVariables false
set_option linter.unusedSimpArgs false
namespace Go.Proofs.YthoholbeacojfaaGreat.VR
open Go
theorem VZ(code:List Int)(hw:wfL .u8 code): ∃n,NX n code=some (true,()):=by
 refine⟨BN,FG ?_⟩;have hn:=Eh;have hl:10000≤lim:=by unfold lim;omega
 have hB:10000<BN:=by have e:big=1048576:=rfl;unfold BN;omega
 unfold NX;refine Eg rfl fun hb=>A1 (KX hb hn) fun r2 hdb=> ?_
 generalize AA r2.1.1=s at*;have hs:=hdb.b;have d1:=hdb.tasks;have d2:=hdb.locks;have d3:=hdb.waits;have d6:=hdb.trace;obtain⟨v,ev,v0,v1⟩:=TX hw (i:=1) (by decide) (by decide)
 simp only[cond_false,Cr hs hn,B3 hs hn,Option.bind_some,beq_self_eq_true,Bool.not_true,ev];refine An (fun _=>AX rfl) fun hok=>An (fun _=>AX rfl) fun hne=> ?_
 have hok:SysOk s:=by simpa using hok
 have hz:=of_decide_eq_false hne;rw[hne,cond_false];have t0:=Int.tmod_nonneg (a:=v) (s.Tasks.length:Int) v0;have t1:=Int.tmod_lt_of_pos v (b:=(s.Tasks.length:Int)) (by omega)
 obtain⟨i,hi⟩: ∃i:Nat,Int.tmod v (s.Tasks.length:Int)=(i:Int):=⟨(Int.tmod v (s.Tasks.length:Int)).toNat,by omega⟩
 rw[hi]at t0 t1⊢;have hil:i<s.Tasks.length:=by omega
 refine Am (Cd t0 t1) ?_;rw[AH hil];have hnw:=(hok.tasks.each _ (List.getElem_mem hil)).no;have hix:=Q2 hok hil;simp only[Hp hs hn,PN hs hn,Option.bind_some,dnSys_up,decide_true,Bool.not_true,cond_false];have hlb:LSmall 3000 s.Locks:=⟨by omega,fun k hk=>by have:=Dd hk;omega⟩
 rcases sG hok hil with⟨h0,hq⟩|⟨t,et,hokt,a1,a2,a3,a4⟩
 · refine Am (by simp[h0]) ?_
   rw[D6 hlb (show 3000<BN by omega) (show 3000≤lim by omega)]
   rcases hq with hq|hq
   · unfold waits at hq
     obtain⟨q,eq⟩:=Option.isSome_iff_exists.1 hq;rw[eq,Option.bind_some];exact Am (decide_eq_true (by show(0:Int)≤(q:Int);omega)) (AX rfl)
   · refine An (fun _=>AX rfl) fun _=> ?_
     rw[C1 (by omega) (by omega),hix,Option.bind_some]
     refine Am (Cd (by show(0:Int)≤(i:Int);omega) (by show(i:Int)<_;omega)) ?_
     have hg:List.getD s.Tasks (Int.toNat (idx (some i))) (Kd.dflt .task)=s.Tasks[i]:=AH hil _;dsimp only;rw[hg,decide_eq_true hq];exact AX rfl
 · have ht:=hokt.db.b
   rw[et];simp only[decide_true,Bool.not_true,cond_false,Hp ht hn,Oe ht hokt hn (a:=3) (show(3:Int).toNat<BN by have:(3:Int).toNat=3:=rfl;omega) (by decide),Option.bind_some,dnSys_up,a1,a3,a4,cond_true]
   obtain⟨j,g1,g2,g3,_⟩:=PW (3:Int).toNat t 0;have h3:(3:Int).toNat=3:=rfl;obtain⟨us,u1,u2,_⟩:=VK (no:=s.Tasks[i].No) (by omega) j t hokt g3 a2
   have hoku:=Fg j t hokt g3;have dtr:=hoku.trace;rw[g2];dsimp only;have hdrop:List.drop (Int.toNat (t.Trace.length:Int)) (List.take (Int.toNat ((BF j t).Trace.length:Int)) (BF j t).Trace)=us:=by
    rw[Int.toNat_natCast,Int.toNat_natCast,List.take_length,u1,List.drop_left]
   have hlen:(BF j t).Trace.length=t.Trace.length+us.length:=by rw[u1,List.length_append]
   rw[hdrop];refine Am (SU (by omega)) ?_
   rw[ci (by omega) (by omega),uW fun u hu=>(u2 u hu).1,Option.bind_some]
   refine Am rfl (Am (SU (by omega)) ?_)
   rw[ch (by omega) (by omega),uI fun u hu=>(u2 u hu).2,Option.bind_some]
   refine Am rfl (Am (decide_eq_true (by omega)) ?_)
   rw[SQ (by omega) (by omega)]
   exact AX rfl
end Go.Proofs.YthoholbeacojfaaGreat.VR
