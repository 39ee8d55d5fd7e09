/- The law FnTicks: so many ticks of a drawn system are as a part of them, and then the rest. -/
import Derived.Test.YthoholbeacojfaaGreatA16
set_option linter.unusedVariables false
set_option linter.unusedSimpArgs false
set_option linter.unusedSectionVars false
set_option linter.unusedVariables false
set_option linter.unusedSimpArgs false
namespace Go.Proofs.YthoholbeacojfaaGreat.VR
open Go
theorem bC{code:List Int}{n:Nat}(hb:code.length≤big)(hn:SN n):Tot (Nv n code) fun r=>DB (AA r.1.1)∧r.1.2.1≤10:=by
 have e:big=1048576:=rfl;have hn2:4001<n:=by unfold SN at hn;omega
 unfold Nv;refine A1 (IC hb hn2) fun r hc=>A1 (HP hc hb hn) fun r2 ⟨hc,hd⟩=>BB hc fun r3 hc h0 h1=>AX ⟨hd,?_⟩
 have h1:=h1 (by decide)
 show w64 (r3.1-1)≤10;rw[AV (by omega) (by omega)];omega
theorem Va(code:List Int)(hw:wfL .u8 code): ∃n,NY n code=some (true,()):=by
 refine⟨BN,FG ?_⟩;have hn:=Eh;have hl:10000≤lim:=by unfold lim;omega
 have hB:10000<BN:=by have e:big=1048576:=rfl;unfold BN;omega
 have hm:10000<Ab:=by unfold Ab;decide
 unfold NY;refine Eg rfl fun hb=>A1 (bC hb hn) fun r2 ⟨hdb,ha⟩=> ?_
 generalize AA r2.1.1=s at*;generalize r2.1.2.1=a at*;have hs:=hdb.b
 by_cases hok:SysOk s
 · have h1:=Oe hs hok hn (a:=a) (by omega) (by omega)
   obtain⟨j,j0,j1,j2,_⟩:=PW a.toNat s 0;rw[j1,Nat.zero_add]at h1;have h2:Fc BN s a=some ((AB (BF j s),(j:Int),()),()):=by
    by_cases h0:0≤a
    · have:=so hs hok hn (a:=a) h0 (by omega) (by omega)
      rw[j1,Nat.zero_add]at this;exact this
    · have:j=0:=by omega
      subst this;exact sr hs hok hn (by omega)
   refine CA h1 (CA h2 ?_);dsimp only;rw[decide_eq_true rfl,Bool.not_true,cond_false];simp only[dnSys_up]
   by_cases hj:j=0
   · subst hj
     exact Am (by simp) (Am (by simp[BF]) (AX rfl))
   · refine Ed (decide_eq_false (by omega)) ?_
     obtain⟨v,ev,v0,v1⟩:=TX hw (i:=1) (by decide) (by decide)
     have e1:w64 ((j:Int)+1)=(j:Int)+1:=AV (by omega) (by omega)
     rw[ev,Option.bind_some,e1];refine Ed (decide_eq_false (by omega)) ?_
     have t0:=Int.tmod_nonneg (a:=v) ((j:Int)+1) v0;have t1:=Int.tmod_lt_of_pos v (b:=(j:Int)+1) (by omega)
     obtain⟨c,hc⟩: ∃c:Nat,Int.tmod v ((j:Int)+1)=(c:Int):=⟨(Int.tmod v ((j:Int)+1)).toNat,by omega⟩
     rw[hc]at t0 t1⊢;have e2:w64 ((j:Int)-(c:Int))=((j-c:Nat):Int):=by rw[AV (by omega) (by omega)];omega
     rw[e2];have hokc:=Fg c s hok fun i hi=>j2 i (by omega)
     have q1:=Oe hs hok hn (a:=(c:Int)) (by omega) (by omega)
     rw[Int.toNat_natCast,Sv c s 0 fun i hi=>j2 i (by omega),Nat.zero_add]at q1
     have q2:=Oe hokc.db.b hokc hn (a:=((j-c:Nat):Int)) (by omega) (by omega)
     rw[Int.toNat_natCast,Sv (j-c) (BF c s) 0 (fun i hi=>by rw[←Ok];exact j2 (c+i) (by omega)),Nat.zero_add,←Ok,show c+(j-c)=j by omega]at q2
     refine CA q1 ?_;simp only[dnSys_up];refine CA q2 ?_;simp only[dnSys_up];have hokj:=Fg j s hok j2;have g1:=hokj.trace;have g2:=hokj.tasks.len;refine Am (by simp) (Am (by simp) (Am (by simp) ?_))
     rw[PL (by omega) (by omega),Option.bind_some,cond_true,SQ (by omega) (by omega),Option.bind_some,cond_true]
     refine AX ?_;have hnow:=hok.now;have e5:(BF j s).Now=w64 (s.Now+(j:Int)):=by rw[RJ,AV (by omega) (by omega)]
     simp[e5]
 · obtain⟨h1,t,h2,h3⟩:=uB hs hok hn (a:=a)
   refine CA h2 (CA h1 ?_);dsimp only;refine Ed (by simp) (Am (by simp) ?_)
   rcases h3 with rfl|rfl
   ·exact Am (by simp) (AX rfl)
   ·exact An (fun _=>AX rfl) (fun _=>AX rfl)
end Go.Proofs.YthoholbeacojfaaGreat.VR
