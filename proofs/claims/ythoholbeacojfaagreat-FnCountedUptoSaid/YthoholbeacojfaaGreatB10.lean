/- The law FnCounted: the parts of time that are counted on a processor of a drawn system are those of its tasks with a deadline, and of its ghosts; of a right one they fit. -/
import Derived.Test.YthoholbeacojfaaGreatA16
set_option linter.unusedVariables false
set_option linter.unusedSimpArgs false
set_option linter.unusedSectionVars false
set_option linter.unusedVariables false
set_option linter.unusedSimpArgs false
namespace Go.Proofs.YthoholbeacojfaaGreat.VR
open Go
theorem ax{code:List Int}{n:Nat}(hb:code.length≤big)(hn:SN n):Tot (Ns n code) fun r=>DB (AA r.1.1):=by
 have e:big=1048576:=rfl;have hn2:4001<n:=by unfold SN at hn;omega
 unfold Ns;exact A1 (IC hb hn2) fun r hc=>A1 (HP hc hb hn) fun r2 ⟨hc,hd⟩=>BB hc fun r3 hc _ _=>AX hd
theorem Yz(a b:List Task)(cpu:Int):Ac (a++b) cpu=Ac a cpu++Ac b cpu:=by unfold Ac;rw[List.filter_append,List.map_append]
theorem Ud(a b:List Ghost)(cpu:Int):A3 (a++b) cpu=A3 a cpu++A3 b cpu:=by unfold A3;rw[List.filter_append,List.map_append]
theorem Ue(g:Ghost)(gs:List Ghost)(cpu:Int):A3 (g::gs) cpu=(if g.Cpu=cpu then[g.S]else[])++A3 gs cpu:=by
 unfold A3;rw[List.filter_cons]
 by_cases h:g.Cpu=cpu<;>simp[h]
theorem Ui{β:Type}(a b:List β)(x d:β):List.getD (a++x::b) a.length d=x:=by simp[List.getD_eq_getElem?_getD]
theorem aX{s:Sys}{cpu:Int}{k0 k1:Int→Option (Bool×Unit)}(hs:DB s)(hl:10000≤lim){m:Nat}(hm:20<m):Fm BN m s cpu (Aj s cpu) 0 0 k0 k1=k1 ((Ac s.Tasks cpu).length:Int):=by
 have d1:=hs.tasks;have d4:=hs.ghosts;refine Ak (l:=fun m i=>Fm BN m s cpu (Aj s cpu) ((Ac (s.Tasks.take i) cpu).length:Int) (i:Int) k0 k1) (len:=s.Tasks.length) (fun _=>True) trivial (fun m _=> ?_) (fun m i hi _=>.inl ⟨?_,trivial⟩) (by omega)
 ·simp only[Fm,AW,cond_false,List.take_length]
 · have hsp:s.Tasks=s.Tasks.take i++s.Tasks[i]::s.Tasks.drop (i+1):=by rw[←List.drop_eq_getElem_cons hi,List.take_append_drop]
   have hT:Aj s cpu=Ac (s.Tasks.take i) cpu++((if s.Tasks[i].Cpu=cpu∧s.Tasks[i].Class=1 then[⟨s.Tasks[i].Q,s.Tasks[i].P⟩]else[])++(Ac (s.Tasks.drop (i+1)) cpu++A3 s.Ghosts cpu)):=by
    unfold Aj
    conv=>lhs;arg 1;rw[hsp]
    rw[Yz,HA];simp only[List.append_assoc]
   have hn:Ac (s.Tasks.take (i+1)) cpu=Ac (s.Tasks.take i) cpu++(if s.Tasks[i].Cpu=cpu∧s.Tasks[i].Class=1 then[⟨s.Tasks[i].Q,s.Tasks[i].P⟩]else[]):=by
    rw[List.take_succ_eq_append_getElem hi,Yz,HA];simp[Ac]
   have hle:=G9 s cpu;simp only[Fm,AG hi,AI,Bool.and_self,cond_true,AH hi,AL (Nat.lt_trans hi (AY (show s.Tasks.length≤lim by omega)))]
   by_cases h1:s.Tasks[i].Class=1
   · by_cases h2:s.Tasks[i].Cpu=cpu
     · rw[if_pos ⟨h2,h1⟩]at hT hn
       have hlen:(Aj s cpu).length=(Ac (s.Tasks.take i) cpu).length+(1+(Ac (s.Tasks.drop (i+1)) cpu++A3 s.Ghosts cpu).length):=by rw[hT];simp only[List.length_append,List.length_cons,List.length_nil,Nat.zero_add]
       have hlt:(Ac (s.Tasks.take i) cpu).length<(Aj s cpu).length:=by omega
       have hg:List.getD (Aj s cpu) (Ac (s.Tasks.take i) cpu).length (Kd.dflt .share)=⟨s.Tasks[i].Q,s.Tasks[i].P⟩:=by rw[hT];exact Ui _ _ _ _
       rw[decide_eq_true h1,decide_eq_true h2,cond_true,cond_true,decide_eq_false (by omega),cond_false,AG hlt,Bool.and_self,cond_true,Int.toNat_natCast,hg]
       simp only[decide_true,Bool.and_self,Bool.not_true,cond_false];rw[AL (show(Ac (s.Tasks.take i) cpu).length<Ab by have:10000<Ab:=(by unfold Ab;decide);omega),hn,List.length_append]
       rfl
     · rw[if_neg fun x=>h2 x.1,List.append_nil]at hn
       rw[decide_eq_true h1,decide_eq_false h2,cond_true,cond_false,hn]
   · rw[if_neg fun x=>h1 x.2,List.append_nil]at hn
     rw[decide_eq_false h1,cond_false,hn]
theorem aW{s:Sys}{cpu:Int}{k0 k1:Int→Option (Bool×Unit)}(hs:DB s)(hl:10000≤lim){m:Nat}(hm:20<m):Gg BN m s cpu (Aj s cpu) ((Ac s.Tasks cpu).length:Int) 0 k0 k1=k1 ((Aj s cpu).length:Int):=by
 have d1:=hs.tasks;have d4:=hs.ghosts;have key:=Ak (l:=fun m i=>Gg BN m s cpu (Aj s cpu) (((Ac s.Tasks cpu++A3 (s.Ghosts.take i) cpu).length:Nat):Int) (i:Int) k0 k1) (len:=s.Ghosts.length) (r:=k1 ((Aj s cpu).length:Int)) (m:=m) (fun _=>True) trivial (fun m _=> ?_) (fun m i hi _=>.inl ⟨?_,trivial⟩) (by omega)
 ·simpa[A3]using key
 ·simp only[Gg,AW,cond_false,List.take_length];rfl
 · have hsp:s.Ghosts=s.Ghosts.take i++s.Ghosts[i]::s.Ghosts.drop (i+1):=by rw[←List.drop_eq_getElem_cons hi,List.take_append_drop]
   have hT:Aj s cpu=(Ac s.Tasks cpu++A3 (s.Ghosts.take i) cpu)++((if s.Ghosts[i].Cpu=cpu then[s.Ghosts[i].S]else[])++A3 (s.Ghosts.drop (i+1)) cpu):=by
    unfold Aj
    conv=>lhs;arg 2;rw[hsp]
    rw[Ud,Ue];simp only[List.append_assoc]
   have hn:Ac s.Tasks cpu++A3 (s.Ghosts.take (i+1)) cpu=(Ac s.Tasks cpu++A3 (s.Ghosts.take i) cpu)++(if s.Ghosts[i].Cpu=cpu then[s.Ghosts[i].S]else[]):=by
    rw[List.take_succ_eq_append_getElem hi,Ud,Ue];simp[A3]
   have hle:=G9 s cpu;simp only[Gg,AG hi,AI,Bool.and_self,cond_true,AH hi,AL (Nat.lt_trans hi (AY (show s.Ghosts.length≤lim by omega)))]
   generalize Ac s.Tasks cpu++A3 (s.Ghosts.take i) cpu=A at*
   by_cases h2:s.Ghosts[i].Cpu=cpu
   · rw[if_pos h2]at hT hn
     have hlen:(Aj s cpu).length=A.length+(1+(A3 (s.Ghosts.drop (i+1)) cpu).length):=by rw[hT];simp only[List.length_append,List.length_cons,List.length_nil,Nat.zero_add]
     have hlt:A.length<(Aj s cpu).length:=by omega
     have hg:List.getD (Aj s cpu) A.length (Kd.dflt .share)=s.Ghosts[i].S:=by rw[hT];exact Ui _ _ _ _
     rw[decide_eq_true h2,cond_true,decide_eq_false (by omega),cond_false,AG hlt,Bool.and_self,cond_true,Int.toNat_natCast,hg]
     simp only[decide_true,Bool.and_self,Bool.not_true,cond_false];rw[AL (show A.length<Ab by have:10000<Ab:=(by unfold Ab;decide);omega),hn,List.length_append]
     rfl
   · rw[if_neg h2,List.append_nil]at hn
     rw[decide_eq_false h2,cond_false,hn]
theorem VS(code:List Int)(hw:wfL .u8 code): ∃n,NQ n code=some (true,()):=by
 refine⟨BN,FG ?_⟩;have hn:=Eh;have hl:10000≤lim:=by unfold lim;omega
 have hB:10000<BN:=by have e:big=1048576:=rfl;unfold BN;omega
 have hgn:GN+1000<BN:=by have e:big=1048576:=rfl;unfold BN;omega
 unfold NQ;refine Eg rfl fun hb=>A1 (ax hb hn) fun r2 hdb=> ?_
 generalize AA r2.1.1=s at*;generalize r2.1.2.1=cpu at*;have hs:=hdb.b;have d1:=hdb.tasks;have d4:=hdb.ghosts;have hle:=G9 s cpu;have q1:=Od (s:=s) (cpu:=cpu) (n:=BN) (by omega) (by omega)
 have q2:OE BN s cpu=some (Aj s cpu,()):=by
  simp only[OE,Yi (s:=s) (cpu:=cpu) (n:=BN) (by omega) (by omega),Option.bind_some]
 simp only[cond_false,q1,q2,Option.bind_some,decide_true,Bool.not_true,Cr hs hn,B3 hs hn,beq_self_eq_true,aX hdb hl (show 20<BN by omega),aW hdb hl (show 20<BN by omega),cond_true]
 refine An (fun _=>AX rfl) fun hok=>An (fun _=>AX rfl) fun h1=>An (fun _=>AX rfl) fun h2=> ?_
 have hok:SysOk s:=by simpa using hok
 have h1:=of_decide_eq_false h1;have h2:=of_decide_eq_false h2;have hcp:=hok.cpus;have hf:=hok.fits cpu.toNat (by omega)
 rw[show(cpu.toNat:Int)=cpu by omega]at hf
 rw[Q4 (by omega) (by omega),hf]
 exact AX rfl
end Go.Proofs.YthoholbeacojfaaGreat.VR
