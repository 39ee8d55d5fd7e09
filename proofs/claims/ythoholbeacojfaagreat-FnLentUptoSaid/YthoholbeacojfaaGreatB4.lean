/- The law FnLent: a lock of a drawn system that a task waits for lends its turn to whoever has it, and is had by the best that waits when it is freed. -/
import Derived.Test.YthoholbeacojfaaGreatA16
set_option linter.unusedVariables false
set_option linter.unusedSimpArgs false
set_option linter.unusedSectionVars false
set_option linter.unusedVariables false
set_option linter.unusedSimpArgs false
namespace Go.Proofs.YthoholbeacojfaaGreat.VR
open Go
theorem VW(code:List Int)(hw:wfL .u8 code): ∃n,NU n code=some (true,()):=by
 refine⟨BN,FG ?_⟩;have hn:=Eh;have hl:10000≤lim:=by unfold lim;omega
 have hB:10000<BN:=by have e:big=1048576:=rfl;unfold BN;omega
 unfold NU;refine Eg rfl fun hb=>A1 (KX hb hn) fun r2 hdb=> ?_
 generalize AA r2.1.1=s at*;have hs:=hdb.b;have d1:=hdb.tasks;have d2:=hdb.locks;have d3:=hdb.waits;simp only[cond_false,Cr hs hn,B3 hs hn,Option.bind_some,beq_self_eq_true,Bool.not_true];refine An (fun _=>AX rfl) fun hok=> ?_
 have hok:SysOk s:=by simpa using hok
 have htl:TLB 3000 s.Tasks s.Locks:=⟨by omega,⟨by omega,d3⟩⟩
 have hex: ∀no,GD BN s.Tasks s.Locks no=some (BH s.Tasks s.Locks no,()):=fun no=>by
  rw[Q3 htl (by omega) (by omega),if_pos ⟨hok.tasks,hok.locks.2.1⟩]
 refine⟨_,?_,rfl⟩;refine Ak (l:=fun m i=>Gh BN m s (i:Int) (some (false,())) (some (true,()))) (len:=s.Locks.length) (fun _=>True) trivial (fun m _=> ?_) (fun m i hi _=>.inl ⟨?_,trivial⟩) (by omega)
 ·simp only[Gh,AW,cond_false]
 · have hsucc:=AL (Nat.lt_trans hi (AY (show s.Locks.length≤lim by omega)))
   have hwl:=Dd (List.getElem_mem hi);have hin: ∀k0 k1:Option (Bool×Unit),Hw BN BN s (i:Int) s.Locks[i] 0 k0 k1=k1:=fun k0 k1=>by
    refine Ak (l:=fun m j=>Hw BN m s (i:Int) s.Locks[i] (j:Int) k0 k1) (len:=s.Locks[i].Waits.length) (fun _=>True) trivial (fun m _=> ?_) (fun m j hj _=>.inl ⟨?_,trivial⟩) (by omega)
    ·simp only[Hw,AW,cond_false]
    · obtain⟨x1,x2⟩:=dQ hok hi (List.getElem_mem hj)
      simp only[Hw,AG hj,AI,Bool.and_self,cond_true,AH hj,hex,Option.bind_some,x2,decide_true,Bool.not_true,cond_false,AL (Nat.lt_trans hj (AY (show s.Locks[i].Waits.length≤lim by omega)))]
      rw[decide_eq_false (by rw[←x2];exact x1),cond_false]
   simp only[Gh,AG hi,AI,Bool.and_self,cond_true,AH hi,hin,hsucc]
   by_cases h0:s.Locks[i].Owner=0
   ·rw[decide_eq_true h0,cond_true]
   · rw[decide_eq_false h0,cond_false]
     have hok2:=IP ⟨8,s.Locks[i].Owner,0,(i:Int),0⟩ hok rfl;have hfr:=dR hok hi;simp only[Hp hs hn,PN hs hn,Option.bind_some,dnSys_up,decide_true,Bool.not_true,cond_false];generalize Ad s ⟨8,s.Locks[i].Owner,0,(i:Int),0⟩=r at*
     by_cases hz:r.2=0
     · have e:=hfr hz
       have hl5:r.1.Locks.length=5:=hok2.locks.1;have hl6:s.Locks.length=5:=hok.locks.1;have hi2:i<r.1.Locks.length:=by omega
       rw[Af hi2]at e;simp only[decide_eq_true hz,cond_true,AG hi2,AH hi2,e,Ut (ts:=s.Tasks) (l:=s.Locks[i].Waits) (n:=BN) (by omega) (by omega) (by omega) (by omega),Option.bind_some,decide_true,Bool.not_true,cond_false]
       simp[hi2]
     ·rw[decide_eq_false hz,cond_false]
end Go.Proofs.YthoholbeacojfaaGreat.VR
