/- The law FnShort: how short a drawn task with a deadline is is what is left less the ticks up to it; of others it is not told. -/
import Derived.Test.YthoholbeacojfaaGreatA16
set_option linter.unusedVariables false
set_option linter.unusedSimpArgs false
set_option linter.unusedSectionVars false
set_option linter.unusedVariables false
set_option linter.unusedSimpArgs false
namespace Go.Proofs.YthoholbeacojfaaGreat.VR
open Go
theorem ay{code:List Int}{n:Nat}(hb:code.length≤big)(hn:SN n):Tot (Nt n code) fun r=>DB (AA r.1.1):=by
 have e:big=1048576:=rfl;have hn2:4001<n:=by unfold SN at hn;omega
 unfold Nt;exact A1 (IC hb hn2) fun r hc=>A1 (HP hc hb hn) fun r2 ⟨hc,hd⟩=>A1 (T3 hc) fun r3 hc=>AX hd
theorem bA{code:List Int}{n:Nat}(hb:code.length≤big)(hn:SN n):Tot (Nu n code) fun r=>DB (AA r.1.1):=by
 have e:big=1048576:=rfl;have hn2:4001<n:=by unfold SN at hn;omega
 unfold Nu;exact A1 (IC hb hn2) fun r hc=>A1 (HP hc hb hn) fun r2 ⟨hc,hd⟩=>BB hc fun r3 hc _ _=>AX hd
theorem tK(l:List Task):0≤Hl l:=by
 unfold Hl;cases e:Bm l with
 |none=>exact Int.le_refl _
 |some p=>have:=I4 l p.1 p.2 e;simp only;omega
theorem sF(s:Sys)(no:Int):((FO s no).2.1=false∧(FO s no).1=0)∨((FO s no).2.1=true∧SysOk s∧ ∃i,AR s.Tasks no=some i∧ ∃hi:i<s.Tasks.length,s.Tasks[i].Class=1∧(FO s no).1=s.Tasks[i].Left-(s.Tasks[i].Due-s.Now)):=by
 unfold FO
 by_cases hok:SysOk s
 · rw[if_pos hok]
   cases e:AR s.Tasks no with
   |none=>exact .inl ⟨rfl,rfl⟩
   |some i=>
    obtain⟨hi,_⟩:=Bj e;dsimp only;rw[Af hi]
    by_cases hc:s.Tasks[i].Class=1
    · have hd:=(hok.tasks.each _ (List.getElem_mem hi)).due hc
      have h1:=hd.left;have h2:=hd.due;have h3:=hd.share;have h4:=hok.now;rw[if_pos hc,AV (n:=s.Tasks[i].Due-s.Now) (by omega) (by omega),AV (n:=s.Tasks[i].Left-(s.Tasks[i].Due-s.Now)) (by omega) (by omega)]
      exact .inr ⟨rfl,hok,i,rfl,hi,hc,rfl⟩
    ·rw[if_neg hc];exact .inl ⟨rfl,rfl⟩
 ·rw[if_neg hok];exact .inl ⟨rfl,rfl⟩
theorem VY(code:List Int)(hw:wfL .u8 code): ∃n,NW n code=some (true,()):=by
 refine⟨BN,FG ?_⟩;have hn:=Eh;have hl:10000≤lim:=by unfold lim;omega
 have hB:10000<BN:=by have e:big=1048576:=rfl;unfold BN;omega
 unfold NW;refine Eg rfl fun hb=>A1 (ay hb hn) fun r2 hdb=> ?_
 generalize AA r2.1.1=s at*;generalize r2.1.2.1=no at*;have hs:=hdb.b;have d1:=hdb.tasks;simp only[cond_false,cY hs hn,sd hs hn,Option.bind_some,decide_true,Bool.not_true,beq_self_eq_true];refine A1 (bA hb hn) fun r5 hdv=> ?_
 generalize AA r5.1.1=v at*;have hv:=hdv.b;have hsp: ¬KD v r5.1.2.1<0:=by
  unfold KD;split
  ·have:=tK (BK v.Tasks r5.1.2.1);omega
  ·omega
 simp only[cZ hv hn,se hv hn,Option.bind_some,decide_true,Bool.not_true,cond_false,decide_eq_false hsp];have H:=sF s no;generalize FO s no=p at H⊢;obtain⟨a,b,u⟩:=p;rcases H with⟨h1,h2⟩|⟨h1,hok,i,e,hi,hc,h2⟩
 · dsimp only at h1 h2
   subst h1;subst h2;exact AX rfl
 · dsimp only at h1 h2
   subst h1;have hd:=(hok.tasks.each _ (List.getElem_mem hi)).due hc;have g1:=hd.left;have g2:=hd.due;have g3:=hd.share;have g4:=hok.now;dsimp only;rw[Bool.not_true,cond_false,C1 (by omega) (by omega),e]
   have hg:List.getD s.Tasks (Int.toNat (idx (some i))) (Kd.dflt .task)=s.Tasks[i]:=AH hi _;refine Am (Cd (by show(0:Int)≤(i:Int);omega) (by show(i:Int)<_;omega)) ?_
   dsimp only;rw[hg];refine Am (decide_eq_true hc) (AX ?_);rw[AV (by omega) (by omega),AV (by omega) (by omega),decide_eq_true (by omega)]
end Go.Proofs.YthoholbeacojfaaGreat.VR
