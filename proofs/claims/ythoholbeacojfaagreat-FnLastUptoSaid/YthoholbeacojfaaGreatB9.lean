/- The law FnLast: the last turns of a drawn system are the end of its trace. -/
import Derived.Test.YthoholbeacojfaaGreatA16
set_option linter.unusedVariables false
set_option linter.unusedSimpArgs false
set_option linter.unusedSectionVars false
set_option linter.unusedVariables false
set_option linter.unusedSimpArgs false
namespace Go.Proofs.YthoholbeacojfaaGreat.VR
open Go
theorem aq{code:List Int}{n:Nat}(hb:code.length≤big)(hn:SN n):Tot (Nr n code) fun r=>DB (AA r.1):=by
 have e:big=1048576:=rfl;have hn2:4001<n:=by unfold SN at hn;omega
 unfold Nr;exact A1 (IC hb hn2) fun r hc=>A1 (HP hc hb hn) fun r2 ⟨hc,hd⟩=>AX hd
theorem dO(s:Sys):s.Trace.drop (s.Trace.length-(CP s).length)=CP s:=by
 unfold CP;split
 ·rw[List.length_nil,Nat.sub_zero,List.drop_length]
 · rw[List.length_drop]
   congr 1;omega
theorem VV(code:List Int)(hw:wfL .u8 code): ∃n,NT n code=some (true,()):=by
 refine⟨BN,FG ?_⟩;have hn:=Eh;have hl:10000≤lim:=by unfold lim;omega
 have hB:10000<BN:=by have e:big=1048576:=rfl;unfold BN;omega
 unfold NT;refine Eg rfl fun hb=>A1 (aq hb hn) fun r2 hdb=> ?_
 generalize AA r2.1=s at*;have hs:=hdb.b;have d6:=hdb.trace;have d7:=hdb.cpus;have hle:=dN s;have hi64:Cp s.Cpus:=by unfold Cp;omega
 have hst:=PL (xs:=CP s) (n:=BN) (by omega) (by omega)
 have e1:w64 ((s.Trace.length:Int)-((CP s).length:Int))=((s.Trace.length-(CP s).length:Nat):Int):=by rw[AV (by omega) (by omega)];omega
 have hdr:List.drop (Int.toNat ((s.Trace.length-(CP s).length:Nat):Int)) (List.take (Int.toNat (s.Trace.length:Int)) s.Trace)=CP s:=by
  rw[Int.toNat_natCast,Int.toNat_natCast,List.take_length,dO]
 refine CA (U2 hi64 (by omega)) (CA (sY hi64 (by omega)) (CA hst ?_))
 refine Ed rfl ?_;dsimp only;refine Ed (decide_eq_false (by omega)) (CA (U3 hs hn) (CA (B3 hs hn) ?_))
 have hend:Tot (cond (((decide (0≤((s.Trace.length-(CP s).length:Nat):Int)))&&(decide (((s.Trace.length-(CP s).length:Nat):Int)≤((s.Trace).length:Int))))&&(decide (((s.Trace).length:Int)≤((s.Trace).length:Int))))
  ((Ep BN (CP s) (List.drop (Int.toNat ((s.Trace.length-(CP s).length:Nat):Int)) (List.take (Int.toNat ((s.Trace).length:Int)) s.Trace))).bind fun r13=>
   cond r13.1
    (cond (!(BM s).2)
      (some (true,()))
      ((Ir (BM s).1).bind fun r14=>
       some ((decide (((r14.1).length:Int)=s.Cpus)),())))
    (some (false,())))
  (none)) fun r=>r=(true,()):=by
  refine Am (SU (by omega)) ?_
  rw[hdr];refine CA hst (Am rfl ?_)
  by_cases hc:SysOk s∧Aw s
  · have e2:BM s=(Av s,true):=by unfold BM;rw[if_pos hc.1,if_pos hc.2]
    rw[e2];have hok:=IR hc.1 hc.2;have hcp:=hc.1.cpus;have htr:=hok.trace;obtain⟨us,u1,u2,_⟩:=ZN hc.1 hc.2;have hlen:(Av s).Trace.length=s.Trace.length+us.length:=by rw[u2,List.length_append]
    have hcs:(Av s).Cpus=s.Cpus:=rfl;refine Ed rfl (CA (U2 (by unfold Cp;rw[hcs];omega) (by show(Av s).Trace.length≤_;omega)) (AX ?_))
    have e3:((CP (Av s)).length:Int)=s.Cpus:=by
     unfold CP;rw[if_neg (by rw[hcs];omega),List.length_drop,hcs,hlen];omega
    simp[e3]
  · have e2:(BM s).2=false:=by
     unfold BM
     by_cases h1:SysOk s
     ·rw[if_pos h1,if_neg fun x=>hc ⟨h1,x⟩]
     ·rw[if_neg h1]
    rw[e2];exact Am rfl (AX rfl)
 dsimp only;rw[e1];simp only[dnSys_up];cases hb:(BM s).2 with
 |false=>
  rw[hb]at hend;exact An (fun _=>Ed rfl hend) (fun _=>hend)
 |true=>
  rw[hb]at hend;have hok:SysOk s:=by
   unfold BM at hb;split at hb
   ·assumption
   ·cases hb
  exact Ed (by simp[hok]) hend
end Go.Proofs.YthoholbeacojfaaGreat.VR
