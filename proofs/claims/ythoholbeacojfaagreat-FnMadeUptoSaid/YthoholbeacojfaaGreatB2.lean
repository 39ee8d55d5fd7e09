/- The law FnMade: a task that is made in a drawn system is there, and all others are as they were; asked for again it is known. -/
import Derived.Test.YthoholbeacojfaaGreatA16
set_option linter.unusedVariables false
set_option linter.unusedSimpArgs false
set_option linter.unusedSectionVars false
set_option linter.unusedVariables false
set_option linter.unusedSimpArgs false
namespace Go.Proofs.YthoholbeacojfaaGreat.VR
open Go
theorem tP{s:Sys}{c:Call}(h0:(Ad s c).2=0):SysOk s∧BY c=true:=by
 unfold Ad at h0;split at h0
 ·rename_i h;exact h
 ·exact absurd h0 (by simp)
theorem aK{c:Call}(h:BY c=true):1≤c.Kind:=by
 unfold BY at h
 by_cases h1:1≤c.Kind
 ·exact h1
 ·rw[if_neg (by omega),if_neg (by omega),if_neg (by omega),if_neg (by omega),if_neg (by omega),if_neg (by omega)]at h;cases h
theorem df{s:Sys}{c:Call}(h:SysOk s)(hc:BY c=true)(hk:1≤c.Kind∧c.Kind≤3)(hd:(Ad s c).2=0):
 (∃j,AR (Ad s c).1.Tasks c.No=some j∧ ∃hj:j<(Ad s c).1.Tasks.length,(Ad s c).1.Tasks[j].Cpu=c.Cpu∧(Ad s c).1.Tasks[j].Class=c.Kind∧(Ad s c).1.Tasks[j].State=1)∧
 (∀t∈s.Tasks,∃j,AR (Ad s c).1.Tasks t.No=some j∧ ∃hj:j<(Ad s c).1.Tasks.length,(Ad s c).1.Tasks[j]=t)∧(Ad s c).1.Tasks.length=s.Tasks.length+1:=by
 rw[P0 h hc hk]at hd⊢;obtain⟨h1,h2,h3,_⟩:=Vh h hk hd;generalize (BP s c).1=r at*;obtain⟨n1,n2,n3,_⟩:=Jw h3 hk;have n4:=dq h3
 subst_vars
 obtain⟨rN,rC,rT,rL,rG,rF,rS,rM,rR⟩:=r;simp only at h2;subst h2;refine⟨?_,fun t ht=> ?_,?_⟩
 · obtain⟨j,e1,hj,e2⟩:=RF h1 (u:=(Al s c).1) (.inl rfl)
   rw[n1]at e1;exact⟨j,e1,hj,by simp only[e2];exact⟨n2,n3,n4⟩⟩
 · obtain⟨j,e1,hj,e2⟩:=RF h1 (u:=t) (.inr ht)
   exact⟨j,e1,hj,e2⟩
 · show(insT _ _).length=_
   rw[(RG s.Tasks _).length_eq,List.length_cons]
theorem VX(code:List Int)(hw:wfL .u8 code): ∃n,NV n code=some (true,()):=by
 refine⟨BN,FG ?_⟩;have hn:=Eh;have hl:10000≤lim:=by unfold lim;omega
 have hB:10000<BN:=by have e:big=1048576:=rfl;unfold BN;omega
 unfold NV;refine Eg rfl fun hb=>A1 (KX hb hn) fun r2 hdb=> ?_
 generalize AA r2.1.1=s at*;generalize Ar r2.1.2.1=c at*;have hs:=hdb.b;have d1:=hdb.tasks;simp only[cond_false,Hp hs hn,PN hs hn,Option.bind_some,dnSys_up,decide_true,Bool.not_true]
 by_cases h0:(Ad s c).2=0
 · rw[decide_eq_true h0,Bool.not_true,cond_false]
   refine An (fun _=>AX rfl) fun hk=> ?_
   have hk:=of_decide_eq_false hk;obtain⟨hok,hc⟩:=tP h0;have hk:1≤c.Kind∧c.Kind≤3:=⟨aK hc,by omega⟩
   have hok2:=IP c hok hc;have hs2:=hok2.db.b;have hagain:=da hok hc hk h0;obtain⟨⟨j,e1,hj,e2,e3,e4⟩,hall,hlen⟩:=df hok hc hk h0;have ht2:=hok2.tasks.len;rw[C1 (by omega) (by omega),e1]
   simp only[Option.bind_some,idx,EA,cond_false,AI,AG hj,Bool.and_self,cond_true,AH hj,e2,e3,e4,decide_true,Bool.not_true];have hloop:=Ak (l:=fun m i=>JN BN m s c (Ad s c).1 (i:Int) (some (false,()))
    ((D2 BN (Ad s c).1 c).bind fun r15=>cond (decide (r15.1.2.1=3)) (some (decide ((((Ad s c).1.Tasks).length:Int)=(w64 (((s.Tasks).length:Int)+1))),())) (some (false,()))))
    (len:=s.Tasks.length) (r:=some (true,())) (m:=BN) (fun _=>True) trivial (fun m _=> ?_) (fun m i hi _=>.inl ⟨?_,trivial⟩) (by omega)
   ·exact Am (by simp[hj]) (Am (by simp[hj]) (Am (by simp[hj]) ⟨_,hloop,rfl⟩))
   · simp only[JN,AW,cond_false,Hp hs2 hn,Option.bind_some,hagain,hlen,AV (n:=(s.Tasks.length:Int)+1) (by omega) (by omega)]
     simp
   · obtain⟨q,g1,hq,g2⟩:=hall _ (List.getElem_mem hi)
     simp only[JN,AG hi,AI,Bool.and_self,cond_true,AH hi,C1 (ts:=(Ad s c).1.Tasks) (n:=BN) (show(Ad s c).1.Tasks.length<BN by omega) (show(Ad s c).1.Tasks.length≤lim by omega),g1,Option.bind_some,idx,EA,cond_false,AG hq,AH hq,g2,
      decide_true,beq_self_eq_true,Bool.not_true,AL (Nat.lt_trans hi (AY (show s.Tasks.length≤lim by omega)))]
 · rw[decide_eq_false h0]
   exact AX rfl
end Go.Proofs.YthoholbeacojfaaGreat.VR
