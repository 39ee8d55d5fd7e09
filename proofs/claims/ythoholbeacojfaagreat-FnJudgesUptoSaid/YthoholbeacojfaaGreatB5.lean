/- The law FnJudges: what is judged of any drawn system is judged as the chapter says; all is the five together. -/
import Derived.Test.YthoholbeacojfaaGreatA16
set_option linter.unusedVariables false
set_option linter.unusedSimpArgs false
set_option linter.unusedSectionVars false
set_option linter.unusedVariables false
set_option linter.unusedSimpArgs false
namespace Go.Proofs.YthoholbeacojfaaGreat.VR
open Go
theorem al{β:Type}{n:Nat}{k:List Task→Option β}{Q:β→Prop}{L:Nat}(hL:L≤20)(hk: ∀l:List Task,l.length=L→Tot (k l) Q){v s:Sys}{m:Nat}(hs:s.Tasks.length=L)(hm:20<m):Tot (H7 n m v s 0 k) Q:=by
 have key:=HE (l:=fun m (p:Sys×Sys×Int)=>H7 n m p.1 p.2.1 p.2.2 k) (Q:=Q) (fun p=>(20-p.2.2).toNat) (fun p=>p.2.1.Tasks.length=L∧0≤p.2.2∧p.2.2≤20) (fun m p ⟨q1,q2,q3⟩ ih=>by
  obtain⟨v,s,i⟩:=p;dsimp only at*;unfold H7;refine An (fun hb=> ?_) (fun _=>hk _ q1)
  have hb:=of_decide_eq_true hb;have e2:w64 (i+1)=i+1:=AV (by omega) (by omega)
  refine Am (Cd q2 hb) ?_;dsimp only;rw[e2];refine An (fun _=>Am (Cd q2 hb) (Am (Cd q2 hb) (Am (decide_eq_true (by omega)) ?_))) (fun _=>ih (_,s,i+1) ⟨q1,by dsimp only;omega,by dsimp only;omega⟩ (by dsimp only;omega))
  exact ih (_,_,i+1) ⟨by simp only[List.length_set];exact q1,by dsimp only;omega,by dsimp only;omega⟩ (by dsimp only;omega))
 exact key m (v,s,0) ⟨hs,Int.le_refl _,by simp⟩ (by simp;omega)
theorem am{code:List Int}{n:Nat}(hb:code.length≤big)(hn:SN n):Tot (OQ n code) fun r=>DB (AA r.1):=by
 have e:big=1048576:=rfl;have hn2:4001<n:=by unfold SN at hn;omega
 unfold OQ;refine A1 (IC hb hn2) fun r hc=> ?_
 rw[bB];refine A1 (HP hc hb hn) fun r2 ⟨hc,hd⟩=> ?_
 generalize AA r2.1=s at*;obtain⟨d1,d2,d3,d4,d5,d6,d7⟩:=hd;refine BB hc fun r3 hc _ _=> ?_
 refine An (fun _=>AX ⟨d1,d2,d3,d4,d5,d6,d7⟩) (fun _=>An (fun _=>An (fun hp=> ?_) (fun _=>AX ⟨d1,d2,d3,d4,d5,d6,d7⟩)) (fun _=>An (fun _=> ?_) (fun _=>AX ⟨d1,d2,d3,d4,d5,d6,d7⟩)))
 · have hp:=of_decide_eq_true hp
   refine BB hc fun r hc a0 a1=>BB hc fun r5 hc _ _=>BB hc fun r6 hc _ _=>Am (Cd a0 (a1 (by omega))) ?_
   have a1:=a1 (by omega)
   exact Am (decide_eq_true (by omega)) (AX ⟨d1,d2,d3,d4,d5,by simp only[dnSys_up,List.length_set];omega,d7⟩)
 ·exact al d1 (fun l hl=>AX ⟨by show l.length≤20;omega,d2,d3,d4,d5,d6,d7⟩) rfl (by omega)
theorem ap{code:List Int}{n:Nat}(hb:code.length≤big)(hn:SN n):Tot (Nq n code) fun r=>DB (AA r.1):=by
 unfold Nq;exact A1 (am hb hn) fun r hd=>AX hd
theorem VU(code:List Int)(hw:wfL .u8 code): ∃n,NS n code=some (true,()):=by
 refine⟨BN,FG ?_⟩;have hn:=Eh;unfold NS;refine Eg rfl fun hb=>A1 (ap hb hn) fun r2 hdb=> ?_
 generalize AA r2.1=s at*;have hs:=hdb.b;simp only[cond_false,U1 hs hn,sW hs hn,Uz hs hn,sU hs hn,U0 hs hn,sV hs hn,Uy hs hn,sS hs hn,Ux hs hn,sR hs hn,
  cQ hs hn,B3 hs hn,Option.bind_some,beq_self_eq_true,Bool.not_true,RK]
 refine⟨_,?_,rfl⟩
 by_cases hok:SysOk s
 · rw[dF hok,decide_eq_true hok,decide_eq_true (dE hok)]
   cases decide (Dt s)<;>cases Fh s<;>cases Fi s<;>rfl
 · have e1:decide (Dt s)=false:=decide_eq_false fun h=>hok h.1
   have e2:Fh s=false:=by unfold Fh;rw[decide_eq_false hok];rfl
   have e3:Fi s=false:=by unfold Fi;rw[decide_eq_false hok];rfl
   have e4:E0 s=false:=by unfold E0;rw[decide_eq_false hok];rfl
   have e5:decide (EK s)=false:=decide_eq_false fun h=>hok h.1
   rw[e1,e2,e3,e4,e5,decide_eq_false hok];rfl
end Go.Proofs.YthoholbeacojfaaGreat.VR
