/- The law FnCall: a drawn call that is refused changes nothing; one that is done leaves a system that is right. -/
import Derived.Test.YthoholbeacojfaaGreatA16
set_option linter.unusedVariables false
set_option linter.unusedSimpArgs false
set_option linter.unusedSectionVars false
set_option linter.unusedVariables false
set_option linter.unusedSimpArgs false
namespace Go.Proofs.YthoholbeacojfaaGreat.VR
open Go
theorem VQ(code:List Int)(hw:wfL .u8 code): ∃n,NP n code=some (true,()):=by
 refine⟨BN,FG ?_⟩;have hn:=Eh;have e:big=1048576:=rfl;have hl:10000≤lim:=by unfold lim;omega
 have hB:10000<BN:=by unfold BN;omega
 unfold NP;refine Eg rfl fun hb=>A1 (KX hb hn) fun r2 hdb=> ?_
 generalize AA r2.1.1=s at*;generalize Ar r2.1.2.1=c at*;have hs:=hdb.b;have d1:=hdb.tasks;have d2:=hdb.locks;have d3:=hdb.waits;have d6:=hdb.trace;simp only[cond_false,Hp hs hn,PN hs hn,Option.bind_some,dnSys_up,decide_true,Bool.not_true,Uu,SW,beq_self_eq_true,B3 hs hn]
 by_cases hok:SysOk s
 · rw[decide_eq_true hok,Bool.not_true,cond_false]
   cases hc:BY c with
   |false=>
    have:Ad s c=(IX,1):=by unfold Ad;rw[if_neg (by simp[hc])]
    rw[this];exact AX rfl
   |true=>
    rw[Bool.not_true,cond_false];have hcall:=Eb hok hc
    by_cases h0:(Ad s c).2=0
    · have hok2:=IP c hok hc
      have hs2:=hok2.db.b;have dt:=hok2.trace;obtain⟨n1,n2⟩:=aL hok hc;rw[decide_eq_true h0,Bool.not_true,cond_false,Cr hs2 hn,decide_eq_true hok2,Option.bind_some,cond_true];refine Am (by simp[n1]) ?_
      rcases n2 with n2|⟨n2,n3⟩
      ·exact Am (by simp[n2]) (AX rfl)
      · refine An (fun _=>AX rfl) (fun _=>Am (by simp[n2]) ?_)
        rw[n3,PL (by omega) (by omega)]
        exact AX rfl
    · have he:(Ad s c).1=s:=by rw[hcall]at h0⊢;exact Pz h0
      rw[decide_eq_false h0,Bool.not_false,cond_true,he];refine Am (by simp) ?_
      rw[SQ (by omega) (by omega)]
      simp only[Option.bind_some,cond_true,rv (xs:=s.Locks) (n:=BN) (by omega) (by omega) (fun k hk=>by have:=Dd hk;omega),PL (xs:=s.Trace) (n:=BN) (by omega) (by omega)]
      exact AX rfl
 · have:Ad s c=(IX,1):=by unfold Ad;rw[if_neg (by simp[hok])]
   rw[decide_eq_false hok,this];exact AX rfl
end Go.Proofs.YthoholbeacojfaaGreat.VR
