/- The law FnGhosts: a task with a deadline that ends in a drawn system is counted up to that deadline, and not beyond. -/
import Derived.Test.YthoholbeacojfaaGreatA16
set_option linter.unusedVariables false
set_option linter.unusedSimpArgs false
set_option linter.unusedSectionVars false
set_option linter.unusedVariables false
set_option linter.unusedSimpArgs false
namespace Go.Proofs.YthoholbeacojfaaGreat.VR
open Go
theorem VT(code:List Int)(hw:wfL .u8 code): ∃n,NR n code=some (true,()):=by
 refine⟨BN,FG ?_⟩;have hn:=Eh;have hl:10000≤lim:=by unfold lim;omega
 have hB:10000<BN:=by have e:big=1048576:=rfl;unfold BN;omega
 unfold NR;refine Eg rfl fun hb=>A1 (KX hb hn) fun r2 hdb=> ?_
 generalize AA r2.1.1=s at*;have hs:=hdb.b;have d1:=hdb.tasks;have d2:=hdb.locks;have d3:=hdb.waits;have d4:=hdb.ghosts;simp only[cond_false,Cr hs hn,B3 hs hn,Option.bind_some,beq_self_eq_true,Bool.not_true];refine⟨_,?_,rfl⟩;refine Ak (l:=fun m i=>DX BN m s (i:Int) (some (false,())) (some (true,()))) (len:=s.Tasks.length) (fun _=>True) trivial (fun m _=> ?_) (fun m i hi _=> ?_) (by omega)
 ·simp only[DX,AW,cond_false]
 · have hsucc:=AL (Nat.lt_trans hi (AY (show s.Tasks.length≤lim by omega)))
   by_cases hok:SysOk s
   · refine .inl ⟨?_,trivial⟩
     simp only[DX,AG hi,AI,Bool.and_self,cond_true,AH hi,B3 hs hn,Option.bind_some,decide_eq_true hok,hsucc]
     by_cases hc:s.Tasks[i].Class=1
     · obtain⟨g1,g2⟩:=b8 hok hi hc
       have hok2:=IP ⟨6,s.Tasks[i].No,0,0,0⟩ hok rfl;simp only[decide_eq_true hc,Bool.not_true,cond_false,Hp hs hn,Option.bind_some,dnSys_up];generalize Ad s ⟨6,s.Tasks[i].No,0,0,0⟩=r at*
       by_cases h0:r.2=0
       · obtain⟨k1,k2⟩:=g2 h0
         have hd2:=hok2.db;have c1:=hd2.tasks;have c4:=hd2.ghosts;have hsl:=G9 s s.Tasks[i].Cpu;have e1:idx (none:Option Nat)= -1:=rfl;simp only[decide_eq_true h0,Bool.not_true,cond_false,Od (s:=s) (cpu:=s.Tasks[i].Cpu) (n:=BN) (by omega) (by omega),Od (s:=r.1) (cpu:=s.Tasks[i].Cpu) (n:=BN) (by omega) (by omega),Option.bind_some,
          C1 (ts:=r.1.Tasks) (n:=BN) (show r.1.Tasks.length<BN by omega) (show r.1.Tasks.length≤lim by omega),k1,e1]
         by_cases hd:s.Now<s.Tasks[i].Due
         · rw[if_pos hd]at k2
           have q1:((Aj r.1 s.Tasks[i].Cpu).length:Int)=((Aj s s.Tasks[i].Cpu).length:Int):=by omega
           have q2: ¬s.Tasks[i].Due≤s.Now:=by omega
           simp[hd,q1,q2]
         · rw[if_neg hd]at k2
           have q1:((Aj r.1 s.Tasks[i].Cpu).length:Int)=((Aj s s.Tasks[i].Cpu).length:Int)-1:=by omega
           have q2:s.Tasks[i].Due≤s.Now:=by omega
           have q3:w64 (((Aj s s.Tasks[i].Cpu).length:Int)-1)=((Aj s s.Tasks[i].Cpu).length:Int)-1:=AV (by omega) (by omega)
           simp[hd,q1,q2,q3]
       · have hx:=g1 h0
         have hlb:LSmall 3000 s.Locks:=⟨by omega,fun k hk=>by have:=Dd hk;omega⟩
         simp only[decide_eq_false h0,Bool.not_false,cond_true,Q6 (ls:=s.Locks) (n:=BN) (by omega) (by omega),Option.bind_some,D6 hlb (show 3000<BN by omega) (show 3000≤lim by omega),DU]
         rcases hx with hx|hx|hx
         ·simp[hx]
         · unfold waits at hx
           obtain⟨q,hq⟩:=Option.isSome_iff_exists.1 hx;rw[hq];cases C2 s.Locks s.Tasks[i].No<;>simp
         · have: ¬((s.Ghosts.length:Int)<12):=by omega
           cases C2 s.Locks s.Tasks[i].No<;>cases (BS s.Locks s.Tasks[i].No).isNone<;>simp[this]
     ·simp only[decide_eq_false hc,Bool.not_false,cond_true]
   · refine .inr ?_
     simp only[DX,AG hi,cond_true,B3 hs hn,Option.bind_some,decide_eq_false hok,cond_false]
end Go.Proofs.YthoholbeacojfaaGreat.VR
