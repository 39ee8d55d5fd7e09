/- The program's calls: made, ended, moved; in plain words. -/
import Derived.Test.YthoholbeacojfaaGreatA15
set_option linter.unusedVariables false
set_option linter.unusedSimpArgs false
set_option linter.unusedSectionVars false
section
set_option linter.unusedVariables false
set_option linter.unusedSimpArgs false
namespace Go.Proofs.YthoholbeacojfaaGreat.VR
open Go
theorem SysB.lbnd{s:Sys}{n:Nat}(h:SysB s)(hn:SN n):s.Tasks.length+1<n∧s.Tasks.length+1≤lim∧s.Floors.length≤lim∧s.Ghosts.length+1≤lim∧s.Locks.length≤lim:=by
 have q1:=h.small.tasks;have q2:=h.small.floors;have q3:=h.small.ghosts;have q4:=h.small.locks;have:=EO;unfold SN at hn;omega
theorem SN.k{n:Nat}(hn:SN n):1000<n∧1000≤lim:=⟨by unfold SN GN at hn;omega,by unfold lim;omega⟩
theorem cx{s:Sys}{c:Call}{n:Nat}(h:SysB s)(hs:SysOk s)(hn:SN n):NA n s c=some ((BP s c).2,AB (BP s c).1,()):=by
 obtain⟨b1,b2,b3,b4,b5⟩:=h.lbnd hn;have hg:=hs.ghosts.1;have ht:=hs.tasks.len;have hsl:=G9 s c.Cpu;obtain⟨n1,n2⟩:=hn.k;have e:w64 (s.Seq+1)=s.Seq+1:=by have:=hs.seq;exact AV (by omega) (by omega)
 unfold NA BP;rw[cy b3 hs.seq];simp only[Option.bind_some,BT]
 by_cases h1:s.Cpus≤c.Cpu
 ·rw[if_pos h1,if_pos (.inl h1)]
 rw[if_neg h1];cases h2:(Al s c).2 with
 |false=>rw[if_pos (.inr rfl)];rfl
 |true=>
  rw[if_neg (by rintro(q|q);exact h1 q;cases q)]
  simp only[Bool.not_true,cond_false,C1 (ts:=s.Tasks) (no:=c.No) (n:=n) (by omega) (by omega),Option.bind_some]
  have eg:=GY (AR s.Tasks c.No)
  by_cases h3:(AR s.Tasks c.No).isSome=true
  ·rw[if_pos h3,if_pos (of_decide_eq_true (eg.trans h3))]
  rw[if_neg h3,if_neg (fun q=>h3 (eg.symm.trans (decide_eq_true q)))]
  rw[dnTask_up,cg b1 b2,if_pos hs.tasks];simp only[Option.bind_some]
  by_cases h4: ¬TasksOk (insT s.Tasks (Al s c).1)
  ·rw[if_pos h4,if_neg h4];rfl
  have h4':=Decidable.not_not.1 h4;rw[if_neg h4,if_pos h4'];simp only[Bool.not_true,cond_false]
  by_cases k1:c.Kind=1
  · have k2: ¬c.Kind=2:=by omega
    rw[if_pos k1,cX (by omega) (by omega)]
    simp only[Option.bind_some];rw[if_pos (show(Aj s c.Cpu).length+[(⟨c.A,c.B⟩:Share)].length≤lim by simp only[List.length_cons,List.length_nil];omega)]
    rw[Q4 (by simp only[List.length_append,List.length_cons,List.length_nil];unfold SN at hn;have:100≤big:=by unfold big;omega
              omega) (by simp only[List.length_append,List.length_cons,List.length_nil];omega)]
    simp only[Option.bind_some];cases h5:Bg (Aj s c.Cpu++[⟨c.A,c.B⟩])with
    |false=>simp[k1]
    |true=>simp[k1]
  · by_cases k2:c.Kind=2
    ·by_cases h5:900000<s.Seq<;>simp[k2,h5,e]
    ·simp[k1,k2]
theorem Q6{ls:List Lock}{no:Int}{n:Nat}(hn:ls.length<n)(hb:ls.length≤lim):GH n ls no=some (C2 ls no,()):=by
 have e1:Nk n ls no=some (idx (ls.findIdx? fun k=>decide (k.Owner=no)),()):=by
  unfold Nk;have:=C0 (l:=fun m i=>JU n m ls no (ls.length:Int) i (fun w6=>some (w6,())) (some (-1,()))) (xs:=ls) (p:=fun k=>decide (k.Owner=no)) (k0:=fun w6=>some (w6,())) (k1:=some (-1,()))
   (fun m=>by simp only[JU,AW,cond_false])
   (fun m i hi=>by simp only[JU,QK,Option.bind_some,AG hi,AI,Bool.and_self,cond_true,AH hi,AL (Nat.lt_trans hi (AY hb))]) (m:=n) hn
  exact this.trans (UQ ls _)
 unfold GH QY C2;rw[e1,Tu]
 by_cases h:no=0<;>simp[h]
theorem QF{β:Type}: ∀(xs:List β) (i:Nat),xs.take i++xs.drop (i+1)=xs.eraseIdx i
 | [],i=>by simp
 |x::xs,0=>by simp
 |x::xs,i+1=>by simp[QF xs i]
theorem ah{ts:List Task}{i:Nat}(h:i<ts.length)(hb:ts.length≤lim):GL ts (i:Int) (w64 ((i:Int)+1))=some (ts.eraseIdx i,()):=by
 rw[AL (Nat.lt_trans h (AY hb))];unfold GL;rw[decide_eq_true (show(0:Int)≤(i:Int) by omega),decide_eq_true (show(i:Int)≤((i+1:Nat):Int) by omega),decide_eq_true (show((i+1:Nat):Int)≤(ts.length:Int) by omega)]
 simp only[Bool.and_self,cond_true,Int.toNat_natCast,QF]
theorem ag{ts:List Int}{i:Nat}(h:i<ts.length)(hb:ts.length≤lim):K4 ts (i:Int) (w64 ((i:Int)+1))=some (ts.eraseIdx i,()):=by
 rw[AL (Nat.lt_trans h (AY hb))];unfold K4;rw[decide_eq_true (show(0:Int)≤(i:Int) by omega),decide_eq_true (show(i:Int)≤((i+1:Nat):Int) by omega),decide_eq_true (show((i+1:Nat):Int)≤(ts.length:Int) by omega)]
 simp only[Bool.and_self,cond_true,Int.toNat_natCast,QF]
theorem SysB.lk{s:Sys}{n:Nat}(h:SysB s)(hn:SN n):LSmall big s.Locks∧big<n∧big≤lim:=by
 have:=h.small;have:=Dx;exact⟨⟨h.small.locks,h.small.waits⟩,by unfold SN at hn;omega,this⟩
theorem HH(ls:List Lock)(no:Int):(0≤idx (BS ls no))↔waits ls no=true:=by
 have:=GY (BS ls no);unfold waits;rw[←this,decide_eq_true_eq]
theorem cn{s:Sys}{i n:Nat}(h:SysB s)(hs:SysOk s)(hn:SN n)(hi:i<s.Tasks.length):M8 n s (i:Int)=some ((Cl s i s.Tasks[i]).2,AB (Cl s i s.Tasks[i]).1,()):=by
 obtain⟨b1,b2,b3,b4,b5⟩:=h.lbnd hn;obtain⟨c1,c2,c3⟩:=h.lk hn;have hg:=hs.ghosts.1;have hL:s.Locks.length<n:=by have:=h.small.locks;omega
 unfold M8 Cl;simp only[AG hi,AI,Bool.and_self,cond_true,AH hi,Q6 hL b5,D6 c1 c2 c3,Option.bind_some,ah hi (show s.Tasks.length≤lim by omega)]
 have w:=HH s.Locks s.Tasks[i].No;cases ho:C2 s.Locks s.Tasks[i].No with
 |true=>simp
 |false=>
  cases hw:waits s.Locks s.Tasks[i].No with
  |true=>rw[hw]at w;simp[w]
  |false=>
   rw[hw]at w;have w': ¬(0≤idx (BS s.Locks s.Tasks[i].No)):=fun q=>by have:=w.1 q;cases this
   by_cases k1:s.Tasks[i].Class=1
   · by_cases k2:s.Now<s.Tasks[i].Due
     · by_cases k3:12≤s.Ghosts.length
       · have k4:12≤(s.Ghosts.length:Int):=by omega
         rw[decide_eq_false w',decide_eq_true k1,decide_eq_true k2,decide_eq_true k4];simp[k1,k2,k3]
       · have k4: ¬(12≤(s.Ghosts.length:Int)):=by omega
         simp[w',k1,k2,k3,k4,b4]
     ·simp[w',k1,k2]
   ·simp[w',k1]
end Go.Proofs.YthoholbeacojfaaGreat.VR
end
section
set_option linter.unusedVariables false
set_option linter.unusedSimpArgs false
namespace Go.Proofs.YthoholbeacojfaaGreat.VR
open Go
theorem Ut{ts:List Task}{l:List Int}{n:Nat}(hn:l.length<n)(hb:l.length≤lim)(hn2:ts.length<n)(hb2:ts.length≤lim):Ka n ts l=some (EL ts l,()):=by
 unfold Ka EL;rw[Li hn2 hb2];simp only[Option.bind_some]
 by_cases h: ¬TasksOk ts
 ·rw[decide_eq_false h,if_neg h];rfl
 have h:TasksOk ts:=Decidable.not_not.1 h;rw[decide_eq_true h,if_pos h];simp only[Bool.not_true,cond_false];have hf:=Ak (l:=fun m i=>Hr n m ts (Ew ts (l.take i)) l (l.length:Int) (i:Int) (fun w9=>(HV n w9).bind fun r10=>some (r10.1,()))) (len:=l.length) (r:=(HV n (Ew ts l)).bind fun r10=>some (r10.1,())) (fun _=>True) trivial
  (fun m _=>by simp only[Hr,AW,cond_false,List.take_length])
  (fun m i hi _=>.inl ⟨by
    have hil:=Nat.lt_trans hi (AY hb);have hfl:=UZ ts (l.take i);rw[List.length_take]at hfl;simp only[Hr,AG hi,AI,Bool.and_self,cond_true,AH hi,C1 hn2 hb2,Option.bind_some,GY,AL hil,bt hi];cases e:AR ts l[i]with
    |none=>simp
    |some j=>
     obtain⟨hj,_⟩:=Bj e;simp only[idx,Option.isSome_some,cond_true,AG hj,AI,Bool.and_self,Int.toNat_natCast];rw[CB (show(Ew ts (l.take i)).length<l.length by omega) hb]
     simp[hj],trivial⟩) (m:=n) hn
 refine hf.trans ?_;have hfl:=UZ ts l;rw[RB (by omega) (by omega) (fun t ht=>h.each t (List.mem_filter.1 ((Qy h).1 ht)).1),Z0 h]
 rfl
theorem cH{ls:List Lock}{no:Int}{B n:Nat}(hl:LBound B ls)(hn:B+2<n)(hb:B+2≤lim):Mn n ls no=some (if LocksOk ls then(match BD ls no with|some c=>no::c|none=>[])else[],()):=by
 unfold Mn;rw[Lh hl hn hb];simp only[Option.bind_some]
 by_cases h:LocksOk ls
 · rw[decide_eq_true h,if_pos h,Q9 hl.small (by omega) (by omega)]
   cases BD ls no<;>rfl
 ·rw[decide_eq_false h,if_neg h];rfl
theorem Ll{a:Int}{i m:Nat}(e:a=(i:Int))(hi:i<m)(hb:m≤lim):decide (0≤a∧a≤w64 ((m:Int)-1))=true:=by
 have:w64 ((m:Int)-1)=(m:Int)-1:=AV (by omega) (by unfold lim at hb;omega)
 rw[this];exact decide_eq_true (by omega)
theorem cS{ls:List Lock}{i:Nat}{no next:Int}{B n:Nat}(hl:LBound B ls)(hn:B+2<n)(hb:B+2≤lim)(h:LocksOk ls)(hi:i<ls.length)(h0:no≠0)(ho:ls[i].Owner=no)
 (hx:(ls[i].Waits=[]∧next=0)∨next∈ls[i].Waits):Mv n ls (i:Int) no next=some ((Ff ls i next,true,()),()):=by
 have hs:=hl.small;have hll:=hl.len;have hw: ∀k∈ls,k.Waits.length≤lim:=fun k hk=>by have:=hs.waits k hk;omega
 have hwi:=hs.waits _ (List.getElem_mem hi);have hnd:ls[i].Waits.Nodup:=h.nodup.sublist (ua hi);unfold Mv Ff;rw[Lh hl hn hb,decide_eq_true h];simp only[Option.bind_some,Bool.not_true,cond_false,RA (ls:=ls) (n:=n) (by omega) (by omega) hw,Bx,Ll rfl hi (show ls.length≤lim by omega),decide_eq_false h0,AG hi,AI,Bool.and_self,cond_true,AH hi,Af hi,ho,decide_true,
  YL (xs:=ls[i].Waits) (x:=next) (n:=n) (by omega) (by omega)]
 rcases hx with⟨e1,rfl⟩|hx
 · rw[e1]
   simp[hi,idx]
 · cases e:ls[i].Waits.findIdx? fun y=>decide (next=y)with
   |none=>
    rw[List.findIdx?_eq_none_iff]at e;have:=e next hx
    simp at this
   |some j=>
    rw[List.findIdx?_eq_some_iff_getElem]at e;obtain⟨hj,e1,_⟩:=e;have e1:next=ls[i].Waits[j]:=of_decide_eq_true e1
    have he:=UD (x:=next) ls[i].Waits j hnd (by rw[List.getElem?_eq_getElem hj,←e1])
    have hd:=ag hj (show ls[i].Waits.length≤lim by omega)
    have hlen:i<(ls.set i ⟨next,ls[i].Waits⟩).length:=by rw[List.length_set];exact hi
    simp only[DU,GY,Option.isNone_some,Option.isSome_some,cond_false,cond_true];simp only[idx,cond_false,AI,cond_true,Int.toNat_natCast,decide_eq_true hi,List.length_set,AG hi,Bool.and_self,Af hlen,AH hlen,List.getElem_set_self,hd,Option.bind_some,decide_true,Bool.and_true,List.set_set,he]
theorem cR{ls:List Lock}{i:Nat}{no:Int}{B n:Nat}(hl:LBound B ls)(hn:B+2<n)(hb:B+2≤lim)(h:LocksOk ls)(hi:i<ls.length)(h0:1≤no∧no≤1000)(ho:ls[i].Owner≠no)(hw0:BS ls no=none):
 Mu n ls (i:Int) no=some (((DR ls i no).1,(if(DR ls i no).2 then(if ls[i].Owner=0 then 0 else 1)else 4),()),()):=by
 have hs:=hl.small;have hll:=hl.len;have hw: ∀k∈ls,k.Waits.length≤lim:=fun k hk=>by have:=hs.waits k hk;omega
 have hwi:=hs.waits _ (List.getElem_mem hi);have hwi2:=hl.all;have hwl:=Dd (List.getElem_mem hi);unfold Mu DR;rw[Lh hl hn hb,decide_eq_true h];have hc:=cH (ls:=ls) (no:=ls[i].Owner) hl hn hb;rw[if_pos h]at hc;obtain⟨c,ec⟩:=F9 h ls[i].Owner;rw[ec]at hc;have hcl:=HO ec;simp only[Option.bind_some,Bool.not_true,cond_false,RA (ls:=ls) (n:=n) (by omega) (by omega) hw,Bx,Lk,Ll rfl hi (show ls.length≤lim by omega),decide_eq_true h0,AG hi,AI,Bool.and_self,cond_true,AH hi,Af hi,
  D6 hs (show B<n by omega) (show B≤lim by omega),hw0,idx,decide_eq_false ho,hc,ec,IK (xs:=ls[i].Owner::c) (x:=no) (n:=n) (by simp;omega) (by simp;omega)]
 rw[show decide ((0:Int)≤ -1)=false from rfl]
 simp only[cond_false]
 by_cases hz:ls[i].Owner=0
 ·simp[hz,hi]
 · rw[decide_eq_false hz]
   by_cases hm:no∈ls[i].Owner::c
   ·simp[hz,hm]
   · have ha:decide (ls[i].Waits.length+[no].length≤lim)=true:=decide_eq_true (by simp only[List.length_cons,List.length_nil];omega)
     rw[decide_eq_false hm,ha];simp[hz,hm,hi]
end Go.Proofs.YthoholbeacojfaaGreat.VR
end
section
set_option linter.unusedVariables false
set_option linter.unusedSimpArgs false
namespace Go.Proofs.YthoholbeacojfaaGreat.VR
open Go
theorem U8{s:Sys}{c:Call}{t:Task}{n:Nat}(h:SysB s)(hs:SysOk s)(hn:SN n)(ht:t∈s.Tasks)(hk:c.Kind=7∨c.Kind=8):Kq n s c t=some ((Ce s c t).2,AB (Ce s c t).1,()):=by
 obtain⟨b1,b2,b3,b4,b5⟩:=h.lbnd hn;obtain⟨c1,c2,c3⟩:=h.lk hn;have hn2:=hn.two;have hb2:=EO;have hl5:=hs.locks.1;have hno:=(hs.tasks.each t ht).no;unfold Kq Ce;rw[Bx];have ew:w64 ((s.Locks.length:Int)-1)=4:=by rw[hl5];exact AV (by omega) (by omega)
 simp only[Option.bind_some,ew]
 by_cases hA: ¬(0≤c.A∧c.A≤4)
 ·rw[decide_eq_false hA,if_pos hA];rfl
 have hA':=Decidable.not_not.1 hA;rw[decide_eq_true hA',if_neg hA];obtain⟨i,hi⟩:=Int.eq_ofNat_of_zero_le hA'.1;have hil:i<s.Locks.length:=by omega
 have hm:=List.getElem_mem hil;rw[hi];simp only[Bool.not_true,cond_false,AG hil,AI,Bool.and_self,cond_true,AH hil,Af hil,Int.toNat_natCast,D6 c1 c2 c3,Option.bind_some]
 by_cases h1:t.State=2
 ·rw[decide_eq_true h1,if_pos (.inl h1)];rfl
 rw[decide_eq_false h1];have w:=HH s.Locks t.No;cases hw:waits s.Locks t.No with
 |true=>
  rw[hw]at w;rw[decide_eq_true (w.2 rfl),if_pos (.inr (.inl rfl))];rfl
 |false=>
  rw[hw]at w;have hwn:BS s.Locks t.No=none:=by
   unfold waits at hw;exact Option.isNone_iff_eq_none.1 (by simpa using hw)
  rw[decide_eq_false (fun q=>by have:=w.1 q;cases this)]
  simp only[cond_false]
  by_cases k8:c.Kind=8
  · have k7: ¬c.Kind=7:=by omega
    by_cases ho:s.Locks[i].Owner=t.No
    · rw[if_neg (by rintro(q|q|q);exact h1 q;cases q;exact k7 (q.1 ho)),if_pos k8]
      have hbest:=Pu hs.tasks (RT (hs.locks.2.2 _ hm) (hs.locks.2.1.own _ hm).2);have hwl:s.Locks[i].Waits.length≤big:=h.small.waits _ hm;simp only[decide_eq_true ho,decide_eq_true k8,beq_self_eq_true,Bool.not_true,cond_false,cond_true,Ut (ts:=s.Tasks) (l:=s.Locks[i].Waits) (n:=n) (by omega) (by omega) (by omega) (by omega),Option.bind_some,
       cS (no:=t.No) (next:=EL s.Tasks s.Locks[i].Waits) h.tl.locks hn2 hb2 hs.locks.2.1 hil (by omega) ho (hbest.imp id id)]
    ·rw[if_pos (.inr (.inr ⟨fun q=>absurd q ho,fun q=>absurd q k7⟩)),decide_eq_false ho,decide_eq_true k8];rfl
  · have k7:c.Kind=7:=by omega
    by_cases ho:s.Locks[i].Owner=t.No
    ·rw[if_pos (.inr (.inr ⟨fun _=>k7,fun _=>ho⟩)),decide_eq_true ho,decide_eq_false k8];rfl
    · rw[if_neg (by rintro(q|q|q);exact h1 q;cases q;exact ho (q.2 k7)),if_neg k8,decide_eq_false ho,decide_eq_false k8]
      simp only[beq_self_eq_true,Bool.not_true,cond_false,cW (s:=s) (k:=(i:Int)) (no:=t.No) (n:=n) (by omega) (by omega) b5,Option.bind_some]
      cases hsc:Fz s (i:Int) t.No with
      |false=>rw[if_pos rfl];rfl
      |true=>
       rw[if_neg (by simp)]
       simp only[Bool.not_true,cond_false,cR h.tl.locks hn2 hb2 hs.locks.2.1 hil hno ho hwn,Option.bind_some];cases ha:(DR s.Locks i t.No).2 with
       |false=>simp
       |true=>
        by_cases hz:s.Locks[i].Owner=0<;>simp[hz]
theorem cL(t:Task)(cpu src to:Int):Kg t cpu src to=some (AK (ET t cpu src to),()):=by
 simp only[Kg,Of,Bx,Option.bind_some,ET,DK,BT]
 by_cases h1:BR t=true
 · rw[h1]
   rw[C9]at h1;have hv:=(h1.1.fair h1.2).v;simp only[cond_true,true_and]
   by_cases h2:0≤cpu∧cpu≤3
   · by_cases h3:0≤src∧src≤100000000
     · by_cases h4:0≤to∧to≤100000000
       · have e1:w64 (t.V-src)=t.V-src:=AV (by omega) (by omega)
         have e2:(if t.V-src>0 then t.V-src else 0)=max 0 (t.V-src):=by split<;>omega
         rw[e1,e2];have hb:0≤to+max 0 (t.V-src)∧to+max 0 (t.V-src)≤300000000:=by omega
         generalize to+max 0 (t.V-src)=v at hb⊢;have e3:w64 v=v:=AV (by omega) (by omega)
         rw[e3]
         by_cases h5:100000000<v
         · have h6: ¬v≤100000000:=by omega
           simp[h2,h3,h4,h5,h6]
         · have h6:v≤100000000:=by omega
           simp[h2,h3,h4,h5,h6]
       ·simp[h2,h3,h4]
     ·simp[h2,h3]
   ·simp[h2]
 · have h1:BR t=false:=by simpa using h1
   rw[h1];simp
end Go.Proofs.YthoholbeacojfaaGreat.VR
end
section
set_option linter.unusedVariables false
set_option linter.unusedSimpArgs false
namespace Go.Proofs.YthoholbeacojfaaGreat.VR
open Go
theorem co{s:Sys}{c:Call}{i n:Nat}(h:SysB s)(hs:SysOk s)(hn:SN n)(hi:i<s.Tasks.length):M9 n s c (i:Int)=some ((Cz s c i s.Tasks[i]).2,AB (Cz s c i s.Tasks[i]).1,()):=by
 obtain⟨b1,b2,b3,b4,b5⟩:=h.lbnd hn;obtain⟨c1,c2,c3⟩:=h.lk hn;have hL:s.Locks.length<n:=by have:=h.small.locks;omega
 have hcp:=hs.cpus;have ew:w64 (s.Cpus-1)=s.Cpus-1:=AV (by omega) (by omega)
 unfold M9 Cz;simp only[AG hi,AI,Bool.and_self,cond_true,AH hi,Af hi,Int.toNat_natCast,decide_eq_true hi,Q5,Q6 hL b5,D6 c1 c2 c3,Bx,Uw b3,cL,dnTask_up,ew,Option.bind_some]
 by_cases k1:s.Tasks[i].Class≠3
 ·rw[if_pos k1,decide_eq_false k1];rfl
 have k1':s.Tasks[i].Class=3:=Decidable.not_not.1 k1;rw[if_neg k1,decide_eq_true k1'];simp only[Bool.not_true,cond_false]
 by_cases k9:c.Kind=9
 · rw[decide_eq_true k9,if_pos k9]
   by_cases hN:Ci c.A<;>simp[hN]
 · rw[decide_eq_false k9,if_neg k9]
   simp only[cond_false];have w:=HH s.Locks s.Tasks[i].No;cases ho:C2 s.Locks s.Tasks[i].No with
   |true=>simp
   |false=>
    cases hw:waits s.Locks s.Tasks[i].No with
    |true=>rw[hw]at w;rw[decide_eq_true (w.2 rfl)];simp
    |false=>
     rw[hw]at w;rw[decide_eq_false (fun q=>by have:=w.1 q;cases this)]
     by_cases hc:0≤c.Cpu∧c.Cpu≤s.Cpus-1
     ·simp[hc]
     · rw[decide_eq_false hc]
       simp[hc]
theorem cz{s:Sys}{c:Call}{i n:Nat}(h:SysB s)(hs:SysOk s)(hn:SN n)(hi:i<s.Tasks.length):NB n s c (i:Int)=some ((Cu s c i s.Tasks[i]).2,AB (Cu s c i s.Tasks[i]).1,()):=by
 obtain⟨b1,b2,b3,b4,b5⟩:=h.lbnd hn;obtain⟨c1,c2,c3⟩:=h.lk hn;have hm:=List.getElem_mem hi;have w:=HH s.Locks s.Tasks[i].No;unfold NB Cu;simp only[AG hi,AI,Bool.and_self,cond_true,AH hi,Af hi,Int.toNat_natCast,decide_eq_true hi,D6 c1 c2 c3,Option.bind_some,cn h hs hn hi,co (c:=c) h hs hn hi,dnSys_up]
 by_cases k4:c.Kind=4
 · rw[decide_eq_true k4,if_pos k4]
   by_cases h2:s.Tasks[i].State=2
   ·simp[h2]
   · cases hw:waits s.Locks s.Tasks[i].No with
     |true=>rw[hw]at w;rw[decide_eq_true (w.2 rfl)];simp
     |false=>
      rw[hw]at w;have w2: ¬(0≤idx (BS s.Locks s.Tasks[i].No)):=fun q=>by have:=w.1 q;cases this
      rw[decide_eq_false h2,decide_eq_false w2];simp[h2]
 rw[decide_eq_false k4,if_neg k4];simp only[cond_false]
 by_cases k5:c.Kind=5
 · rw[decide_eq_true k5,if_pos k5]
   by_cases h2:s.Tasks[i].State=2<;>simp[h2]
 rw[decide_eq_false k5,if_neg k5];simp only[cond_false]
 by_cases k6:c.Kind=6
 ·rw[decide_eq_true k6,if_pos k6];rfl
 rw[decide_eq_false k6,if_neg k6];simp only[cond_false]
 by_cases k7:c.Kind=7
 ·rw[decide_eq_true k7,if_pos (.inl k7),U8 h hs hn hm (.inl k7)];rfl
 rw[decide_eq_false k7];simp only[cond_false]
 by_cases k8:c.Kind=8
 ·rw[decide_eq_true k8,if_pos (.inr k8),U8 h hs hn hm (.inr k8)];rfl
 rw[decide_eq_false k8,if_neg (by omega)];rfl
theorem cf{s:Sys}{a n:Nat}(h:SysB s)(hs:SysOk s)(hn:SN n)(ha:a<n)(ha2:a<Ab):M7 n s (a:Int)=some ((AB (BC a s 0).1,((BC a s 0).2:Int),()),()):=by
 have hb:=h.small;unfold M7;rw[Cr h hn,decide_eq_true hs];simp only[Option.bind_some,Bool.not_true,cond_false,Lj hb (show big<n by unfold SN at hn;omega) Dx,dnSys_up]
 have key: ∀(d m k:Nat) (v:Sys) (x:Sys),k+d=a→d<m→SysOk v→JG n m (a:Int) x v (k:Int)
  (fun w9 w10 w11 w12 w13 w14 w15 w16 w17 w18 w19 w20 w21 w22=>
   some (((AB (⟨w10,w11,w18,w19,w20,w21,w12,w13,w22⟩:Sys)),w9,()),()))
  (fun w23 w24 w25 w26 w27 w28 w29 w30 w31=>
   some (((AB (⟨w23,w24,w27,w28,w29,w30,w25,w26,w31⟩:Sys)),(if(a:Int)>0 then(a:Int)else 0),()),()))=some ((AB (BC d v k).1,((BC d v k).2:Int),()),()):=by
  intro d
  induction d with
  |zero=>
   intro m k v x hk hm hv;obtain⟨m,rfl⟩: ∃q,m=q+1:=⟨m-1,by omega⟩
   have:k=a:=by omega
   subst this;simp only[JG,AW,cond_false,BC];rw[show(if(k:Int)>0 then(k:Int)else 0)=(k:Int) by split<;>omega]
  |succ d ih=>
   intro m k v x hk hm hv;obtain⟨m,rfl⟩: ∃q,m=q+1:=⟨m-1,by omega⟩
   have hka:k<a:=by omega
   simp only[JG,AG hka,cond_true,ce (PR hv) hn,Option.bind_some,dnSys_up,AL (show k<Ab by omega)]
   unfold BC
   by_cases hc:Aw v
   · have e:BM v=(Av v,true):=by unfold BM;rw[if_pos hv,if_pos hc]
     rw[e,if_pos hc];simp only[Bool.not_true,cond_false];exact ih m (k+1) (Av v) _ (by omega) (by omega) (IR hv hc)
   · have e:BM v=(v,false):=by unfold BM;rw[if_pos hv,if_neg hc]
     rw[e,if_neg hc];rfl
 exact key a n 0 s _ (by omega) ha hs
theorem c5{s:Sys}{a:Int}{n:Nat}(h:SysB s)(hs:SysOk s)(hn:SN n):NM n s a=some ((AB (EH s a).1,(EH s a).2,()),()):=by
 have hb:=h.small;have hk:=hn.k;unfold NM EH;rw[Bx];simp only[Option.bind_some,Lj hb (show big<n by unfold SN at hn;omega) Dx,dnSys_up]
 by_cases ha:1≤a∧a≤50
 · rw[decide_eq_true ha,if_pos ha]
   obtain⟨m,rfl⟩:=Int.eq_ofNat_of_zero_le (show 0≤a by omega)
   have hm:m<n:=by omega
   simp only[Bool.not_true,cond_false,cf h hs hn hm (show m<Ab by unfold Ab;omega),Option.bind_some,Int.toNat_natCast,dnSys_up]
   by_cases hl:(BC m s 0).2<m
   ·rw[if_pos hl,decide_eq_true (show((BC m s 0).2:Int)<(m:Int) by omega)];rfl
   ·rw[if_neg hl,decide_eq_false (show¬((BC m s 0).2:Int)<(m:Int) by omega)];rfl
 ·rw[decide_eq_false ha,if_neg ha];rfl
end Go.Proofs.YthoholbeacojfaaGreat.VR
end
section
set_option linter.unusedVariables false
set_option linter.unusedSimpArgs false
namespace Go.Proofs.YthoholbeacojfaaGreat.VR
open Go
theorem Uu(c:Call):Kb c=some (BY c,()):=by
 obtain⟨K,N,C,A,B⟩:=c;simp only[Kb,BY,BT]
 by_cases h1:K=1;·subst h1;simp
 by_cases h2:K=2;·subst h2;simp
 by_cases h3:K=3;·subst h3;simp
 by_cases h4:K=4;·subst h4;simp
 by_cases h5:K=5;·subst h5;simp
 by_cases h6:K=6;·subst h6;simp
 by_cases h7:K=7;·subst h7;simp
 by_cases h8:K=8;·subst h8;simp
 by_cases h9:K=9;·subst h9;simp
 by_cases h10:K=10;·subst h10;simp
 by_cases h11:K=11;·subst h11;simp
 simp[h1,h2,h3,h4,h5,h6,h7,h8,h9,h10,h11]
theorem sv(c:Call):ON c=some (As (
 if c.Kind=1∨c.Kind=2 then c
 else if c.Kind=3 then⟨c.Kind,c.No,c.Cpu,c.A,0⟩
 else if c.Kind=4∨c.Kind=5∨c.Kind=6 then⟨c.Kind,c.No,0,0,0⟩
 else if c.Kind=7∨c.Kind=8∨c.Kind=9 then⟨c.Kind,c.No,0,c.A,0⟩
 else if c.Kind=10 then⟨c.Kind,c.No,c.Cpu,0,0⟩
 else if c.Kind=11 then⟨c.Kind,0,0,c.A,0⟩else c),()):=by
 obtain⟨K,N,C,A,B⟩:=c
 by_cases h1:K=1;·subst h1;kernel_rfl
 by_cases h2:K=2;·subst h2;kernel_rfl
 by_cases h3:K=3;·subst h3;kernel_rfl
 by_cases h4:K=4;·subst h4;kernel_rfl
 by_cases h5:K=5;·subst h5;kernel_rfl
 by_cases h6:K=6;·subst h6;kernel_rfl
 by_cases h7:K=7;·subst h7;kernel_rfl
 by_cases h8:K=8;·subst h8;kernel_rfl
 by_cases h9:K=9;·subst h9;kernel_rfl
 by_cases h10:K=10;·subst h10;kernel_rfl
 by_cases h11:K=11;·subst h11;kernel_rfl
 simp only[ON,BT];simp only[if_neg h1,if_neg h2,if_neg h3,if_neg h4,if_neg h5,if_neg h6,if_neg h7,if_neg h8,if_neg h9,if_neg h10,if_neg h11];simp only[h1,h2,h3,h4,h5,h6,h7,h8,h9,h10,h11,or_self,if_false]
theorem SW(c:Call):HZ c=some (BY c,()):=by
 simp only[HZ,sv,Ay,Option.bind_some,BT];obtain⟨K,N,C,A,B⟩:=c;dsimp only
 by_cases h:1≤K
 · rw[if_pos h]
   dsimp only[Option.bind_some,dnCall_up];rw[BT];unfold BY;dsimp only
   repeat' split
   all_goals first|(exfalso;omega)|(refine congrArg (fun b=>some (b,())) ?_;apply QE;simp<;>omega)
 · rw[if_neg h]
   unfold BY;dsimp only[Option.bind_some]
   repeat' split
   all_goals first|(exfalso;omega)|rfl
end Go.Proofs.YthoholbeacojfaaGreat.VR
end
section
set_option linter.unusedVariables false
set_option linter.unusedSimpArgs false
namespace Go.Proofs.YthoholbeacojfaaGreat.VR
open Go
theorem Da{p:Prop}[Decidable p]{s:Sys}{a b:Sys×Int}(ha:a.2≠0→a.1=s)(hb:b.2≠0→b.1=s):(if p then a else b).2≠0→(if p then a else b).1=s:=by split<;>assumption
theorem Vi{s:Sys}{c:Call}:(BP s c).2≠0→(BP s c).1=s:=by unfold BP;repeat (first|exact fun _=>rfl|exact fun h=>absurd rfl h|refine Da ?_ ?_)
theorem dU{s:Sys}{c:Call}{t:Task}:(Ce s c t).2≠0→(Ce s c t).1=s:=by unfold Ce;repeat (first|exact fun _=>rfl|exact fun h=>absurd rfl h|refine Da ?_ ?_)
theorem be{s:Sys}{c:Call}{i:Nat}{t:Task}:(Cz s c i t).2≠0→(Cz s c i t).1=s:=by unfold Cz;repeat (first|exact fun _=>rfl|exact fun h=>absurd rfl h|refine Da ?_ ?_)
theorem bT{s:Sys}{i:Nat}{t:Task}:(Cl s i t).2≠0→(Cl s i t).1=s:=by unfold Cl;repeat (first|exact fun _=>rfl|exact fun h=>absurd rfl h|refine Da ?_ ?_)
theorem Y2{s:Sys}{c:Call}{i:Nat}{t:Task}:(Cu s c i t).2≠0→(Cu s c i t).1=s:=by
 unfold Cu;refine Da (by repeat (first|exact fun _=>rfl|exact fun h=>absurd rfl h|refine Da ?_ ?_)) (Da (by repeat (first|exact fun _=>rfl|exact fun h=>absurd rfl h|refine Da ?_ ?_)) (Da bT (Da dU be)))
theorem cj{s:Sys}{c:Call}{n:Nat}(h:SysB s)(hs:SysOk s)(hn:SN n):NF n s c=some ((AB (Bb s c).1,(Bb s c).2,()),()):=by
 obtain⟨b1,b2,b3,b4,b5⟩:=h.lbnd hn;have hcl:=Lj h.small (show big<n by unfold SN at hn;omega) Dx
 unfold NF Bb
 by_cases k11:c.Kind=11
 ·rw[decide_eq_true k11,if_pos k11,c5 h hs hn];rfl
 rw[decide_eq_false k11,if_neg k11,hcl];simp only[cond_false,Option.bind_some,dnSys_up,Bx]
 by_cases k1:1≤c.Kind∧c.Kind≤3
 · rw[decide_eq_true k1,if_pos k1]
   simp only[cond_true,cx h hs hn,Option.bind_some,dnSys_up]
   by_cases hz:(BP s c).2=0
   ·rw[decide_eq_true hz,hz];rfl
   ·rw[decide_eq_false hz,Vi hz];rfl
 · rw[decide_eq_false k1,if_neg k1]
   simp only[cond_false,C1 (ts:=s.Tasks) (no:=c.No) (n:=n) (by omega) (by omega),Option.bind_some,GY]
   cases e:AR s.Tasks c.No with
   |none=>rfl
   |some i=>
    obtain⟨hi,_⟩:=Bj e;simp only[Option.isSome_some,cond_true,idx,cz (c:=c) h hs hn hi,Option.bind_some,dnSys_up,Af hi]
    by_cases hz:(Cu s c i s.Tasks[i]).2=0
    ·rw[decide_eq_true hz,hz];rfl
    ·rw[decide_eq_false hz,Y2 hz];rfl
theorem Hp{s:Sys}{c:Call}{n:Nat}(h:SysB s)(hn:SN n):D2 n s c=some ((AB (Ad s c).1,(Ad s c).2,()),()):=by
 unfold D2 Ad;rw[Cr h hn];simp only[Option.bind_some,Uu]
 by_cases hs:SysOk s
 · rw[decide_eq_true hs]
   simp only[Bool.not_true,cond_false];cases hc:BY c with
   |true=>rw[if_pos ⟨hs,rfl⟩,cj h hs hn];rfl
   |false=>rw[if_neg (fun q=>by cases q.2)];rfl
 ·rw[decide_eq_false hs,if_neg (fun q=>hs q.1)];rfl
end Go.Proofs.YthoholbeacojfaaGreat.VR
end
section
set_option linter.unusedVariables false
set_option linter.unusedSimpArgs false
namespace Go.Proofs.YthoholbeacojfaaGreat.VR
open Go
theorem Sa(t:Task):I1 t=some ((AK (CG t).1,(CG t).2,()),()):=by
 simp only[I1,FP,Option.bind_some,CG]
 by_cases h:TaskOk t
 ·rw[decide_eq_true h,if_pos h];rfl
 ·rw[decide_eq_false h,if_neg h];rfl
theorem YS(no cpu q p now:Int):K8 no cpu q p now=some ((AK (EB no cpu q p now).1,(EB no cpu q p now).2,()),()):=by
 simp only[K8,BV,MI,Sa,Option.bind_some,EB,IU]
 by_cases h1:0≤now∧now≤100000
 · by_cases h2:A9 ⟨q,p⟩
   · have e:w64 (now+p)=now+p:=by
      have h3:1≤p∧p≤40:=h2.1;exact AV (by omega) (by omega)
     rw[decide_eq_true h1,decide_eq_true h2,if_pos ⟨h1,h2⟩,e];rfl
   ·rw[decide_eq_true h1,decide_eq_false h2,if_neg (fun h=>h2 h.2)];rfl
 ·rw[decide_eq_false h1,if_neg (fun h=>h1 h.1)];rfl
theorem YU(no cpu prio round seq:Int):LB no cpu prio round seq=some ((AK (EC no cpu prio round seq).1,(EC no cpu prio round seq).2,()),()):=by
 simp only[LB,Sa,Option.bind_some,EC,IU]
theorem YT(no cpu nice v:Int):K9 no cpu nice v=some ((AK (Ea no cpu nice v).1,(Ea no cpu nice v).2,()),()):=by
 simp only[K9,Sa,Option.bind_some,Ea,IU]
def B2(q:Task→Bool)(t:Task)(p:List Task×Bool)(x:Task):List Task×Bool:=if p.2 then(p.1++[x],true)else if q x then(p.1++[x],false)else(p.1++[t]++[x],true)
theorem WF(q:Task→Bool)(t:Task): ∀(l:List Task) (p:List Task×Bool),(l.foldl (B2 q t) p).1.length+cond (l.foldl (B2 q t) p).2 0 1=p.1.length+l.length+cond p.2 0 1
 | [],p=>by simp
 |x::l,p=>by
  have ih:=WF q t l (B2 q t p x);simp only[List.foldl_cons,List.length_cons];have e:(B2 q t p x).1.length+cond (B2 q t p x).2 0 1=p.1.length+1+cond p.2 0 1:=by
   unfold B2;cases hp:p.2<;>cases hq:q x<;>simp[hp,hq]
  omega
theorem fQ(q:Task→Bool)(t:Task)(l:List Task)(p:List Task×Bool):(l.foldl (B2 q t) p).1.length≤p.1.length+l.length+1∧(l.foldl (B2 q t) p).1.length+cond (l.foldl (B2 q t) p).2 0 1=p.1.length+l.length+cond p.2 0 1:=by
 have h:=WF q t l p;refine⟨?_,h⟩;have:cond p.2 0 1≤1:=by cases p.2<;>simp
 omega
theorem WE(q:Task→Bool)(t:Task): ∀(l:List Task) (a:List Task),(l.foldl (B2 q t) (a,true))=(a++l,true)
 | [],a=>by simp
 |x::l,a=>by
  rw[List.foldl_cons];have:B2 q t (a,true) x=(a++[x],true):=rfl;rw[this,WE q t l];simp
theorem WD(q:Task→Bool)(t:Task): ∀(l:List Task) (a:List Task),(if(l.foldl (B2 q t) (a,false)).2 then(l.foldl (B2 q t) (a,false)).1 else(l.foldl (B2 q t) (a,false)).1++[t])=a++(l.takeWhile q++t::l.dropWhile q)
 | [],a=>by simp
 |x::l,a=>by
  rw[List.foldl_cons];cases hq:q x with
  |true=>
   have:B2 q t (a,false) x=(a++[x],false):=by unfold B2;simp[hq]
   rw[this,WD q t l];simp[hq]
  |false=>
   have:B2 q t (a,false) x=(a++[t]++[x],true):=by unfold B2;simp[hq]
   rw[this,WE];simp[hq]
theorem YW{ts:List Task}{t:Task}{n:Nat}(hn:ts.length+1<n)(hb:ts.length+1≤lim):
 GT n ts t=some (if TasksOk ts then(if TasksOk (insT ts t)then(insT ts t,true,())else(ts,false,()))else([],false,()),()):=by
 unfold GT;rw[IM (by omega) (by omega)]
 simp only[Option.bind_some]
 by_cases h: ¬TasksOk ts
 ·rw[decide_eq_false h,if_neg h];rfl
 have h:TasksOk ts:=Decidable.not_not.1 h;rw[decide_eq_true h,if_pos h];simp only[Bool.not_true,cond_false,List.nil_append,List.length_nil,Nat.zero_add,decide_eq_true (show ts.length≤lim by omega),cond_true]
 have hl:=VF ts t;have hall:=WD (fun x=>decide (x.No<t.No)) t ts []
 rw[List.nil_append]at hall
 change _=insT ts t at hall
 have hlen:=fun i=>fQ (fun x=>decide (x.No<t.No)) t (ts.take i) ([],false)
 have hf:=Ak (l:=fun m i=>Gp n m ts t ((ts.take i).foldl (B2 (fun x=>decide (x.No<t.No)) t) ([],false)).1 ((ts.take i).foldl (B2 (fun x=>decide (x.No<t.No)) t) ([],false)).2 (i:Int) (fun w11 w12=>
  cond (!w11)
   (cond (decide ((w12).length+(([t]:List Task)).length≤lim))
     ((EP n (w12++([t]:List Task))).bind fun r13=>
      cond (!r13.1)
       (some ((ts,false,()),()))
       (some (((w12++([t]:List Task)),true,()),())))
     (none))
   ((EP n w12).bind fun r14=>
    cond (!r14.1)
     (some ((ts,false,()),()))
     (some ((w12,true,()),()))))) (len:=ts.length) (r:=some (if TasksOk (insT ts t)then(insT ts t,true,())else(ts,false,()),())) (fun _=>True) trivial
  (fun m _=>by
    simp only[Gp,AW,cond_false,List.take_length];have hl2:=(hlen ts.length).2;rw[List.take_length]at hl2;cases e:(ts.foldl (B2 (fun x=>decide (x.No<t.No)) t) ([],false)).2 with
    |true=>
     rw[e,if_pos rfl]at hall;simp only[Bool.not_true,cond_false,hall,IM (ts:=insT ts t) (n:=n) (by omega) (by omega),Option.bind_some]
     by_cases h2:TasksOk (insT ts t)
     ·rw[decide_eq_true h2,if_pos h2];rfl
     ·rw[decide_eq_false h2,if_neg h2];rfl
    |false=>
     rw[e,if_neg (by simp)]at hall
     rw[e]at hl2;simp at hl2;simp only[Bool.not_false,cond_true,hall,IM (ts:=insT ts t) (n:=n) (by omega) (by omega),Option.bind_some]
     rw[decide_eq_true (show(ts.foldl (B2 (fun x=>decide (x.No<t.No)) t) ([],false)).1.length+[t].length≤lim by simp;omega)]
     by_cases h2:TasksOk (insT ts t)
     ·rw[decide_eq_true h2,if_pos h2];rfl
     ·rw[decide_eq_false h2,if_neg h2];rfl)
  (fun m i hi _=>.inl ⟨by
    have hil:=Nat.lt_trans hi (AY (show ts.length≤lim by omega))
    have hl2:=(hlen i).1;have hl3:=(hlen i).2;rw[List.length_take]at hl2 hl3;rw[List.take_succ_eq_append_getElem hi,List.foldl_append,List.foldl_cons,List.foldl_nil];generalize (ts.take i).foldl (B2 (fun x=>decide (x.No<t.No)) t) ([],false)=p at hl2 hl3⊢
    obtain⟨a,b⟩:=p;simp only[Gp,AG hi,AI,Bool.and_self,cond_true,AH hi,AL hil,List.length_cons,List.length_nil,List.length_append,Nat.zero_add]at hl2 hl3⊢;unfold B2;cases b with
    |true=>
     rw[decide_eq_true (show a.length+1≤lim by simp at hl3;omega)]
     simp
    |false=>
     simp at hl3
     by_cases hq:ts[i].No<t.No
     · have hq': ¬t.No≤ts[i].No:=by omega
       rw[decide_eq_true (show a.length+1≤lim by omega)]
       simp[hq,hq']
     · have hq':t.No≤ts[i].No:=by omega
       rw[decide_eq_true (show a.length+1≤lim by omega),decide_eq_true (show a.length+1+1≤lim by omega)]
       simp[hq,hq'],trivial⟩) (m:=n) (by omega)
 exact hf
end Go.Proofs.YthoholbeacojfaaGreat.VR
end
section
set_option linter.unusedVariables false
set_option linter.unusedSimpArgs false
namespace Go.Proofs.YthoholbeacojfaaGreat.VR
open Go
theorem tD{s:Sys}{cpu:Int}{n:Nat}(hn:s.Tasks.length+s.Ghosts.length<n)(hb:s.Tasks.length+s.Ghosts.length≤lim):Hk n s cpu=some (Aj s cpu,()):=by
 unfold Hk;have h1:=Ak (l:=fun m i=>Gx n m cpu s (Ac (s.Tasks.take i) cpu) (i:Int) (fun w8=>Ft n n cpu s w8 0 (fun w15=>some (w15,())))) (len:=s.Tasks.length)
  (r:=Ft n n cpu s (Ac s.Tasks cpu) 0 (fun w15=>some (w15,()))) (fun _=>True) trivial (fun m _=> ?_) (fun m i hi _=>.inl ⟨?_,trivial⟩) (m:=n) (by omega)
 · refine h1.trans ?_
   have h2:=Ak (l:=fun m i=>Ft n m cpu s (Ac s.Tasks cpu++A3 (s.Ghosts.take i) cpu) (i:Int) (fun w15=>some (w15,()))) (len:=s.Ghosts.length)
    (r:=some (Aj s cpu,())) (fun _=>True) trivial (fun m _=> ?_) (fun m i hi _=>.inl ⟨?_,trivial⟩) (m:=n) (by omega)
   · rw[List.take_zero]at h2
     rw[show A3 [] cpu=[]from rfl,List.append_nil]at h2;exact h2
   ·simp only[Ft,AW,cond_false,List.take_length];rfl
   · have hl1:=F4 s.Tasks cpu s.Tasks.length
     rw[List.take_length]at hl1;have hl2:=Lf s.Ghosts cpu i;have hl:(Ac s.Tasks cpu++A3 (s.Ghosts.take i) cpu).length<lim:=by rw[List.length_append];omega
     simp only[Ft,AG hi,AI,Bool.and_self,cond_true,AH hi,CB hl (Nat.le_refl _),AL (Nat.lt_trans hi (AY (show s.Ghosts.length≤lim by omega)))]
     rw[Oa hi];cases decide (s.Ghosts[i].Cpu=cpu)with
     |false=>simp only[cond_false,List.append_nil]
     |true=>simp only[cond_true,List.append_assoc]
 ·simp only[Gx,AW,cond_false,List.take_length]
 · have hl:=F4 s.Tasks cpu i
   have hl3:(Ac (s.Tasks.take i) cpu).length<lim:=by omega
   simp only[Gx,AG hi,AI,Bool.and_self,cond_true,AH hi,CB hl3 (Nat.le_refl _),AL (Nat.lt_trans hi (AY (show s.Tasks.length≤lim by omega)))]
   rw[PT hi];cases decide (s.Tasks[i].Cpu=cpu)<;>cases decide (s.Tasks[i].Class=1)<;>simp only[cond_false,cond_true,Bool.and_true,Bool.and_false,Bool.false_and,Bool.true_and,List.append_nil]
def Oq(s:Sys)(c:Call)(t:Task×Bool):Sys×Int:=
 if s.Cpus≤c.Cpu∨t.2=false then(s,1)
 else if(AR s.Tasks c.No).isSome then(s,3)
 else if¬TasksOk (insT s.Tasks t.1)then(s,4)
 else if c.Kind=1∧Bg (Aj s c.Cpu++[⟨c.A,c.B⟩])=false then(s,4)
 else if c.Kind=2 then(if 900000<s.Seq then(s,4)else({s with Tasks:=insT s.Tasks t.1,Seq:=s.Seq+1},0))
 else({s with Tasks:=insT s.Tasks t.1},0)
theorem dZ(s:Sys)(c:Call):Oq s c (Al s c)=BP s c:=rfl
theorem Sg{s:Sys}{c:Call}{n:Nat}(h:SysB s)(hs:SysOk s)(hn:SN n)(t:Task×Bool):(cond (decide (s.Cpus≤c.Cpu))
 (some (((AB s),1,()),()))
 (cond (!t.2)
   (some (((AB s),1,()),()))
   ((Cm n s.Tasks c.No).bind fun r4=>
    cond (decide (0≤r4.1))
     (some (((AB s),3,()),()))
     ((GT n s.Tasks (AC (AK t.1))).bind fun r5=>
      cond (decide (c.Kind=1))
       (cond r5.1.2.1
         ((Hk n s c.Cpu).bind fun r6=>
          cond (decide ((r6.1).length+(([(⟨c.A,c.B⟩:Share)]:List Share)).length≤lim))
           ((GQ n (r6.1++([(⟨c.A,c.B⟩:Share)]:List Share))).bind fun r7=>
            cond (!r7.1)
             (some (((AB s),4,()),()))
             (cond (decide (c.Kind=2))
               (cond (decide (900000<s.Seq))
                 (some (((AB s),4,()),()))
                 (cond (decide (c.Kind=2))
                   (some (((AB (⟨s.Now,s.Cpus,r5.1.1,s.Locks,s.Ghosts,s.Floors,(w64 (s.Seq+1)),s.Missed,s.Trace⟩:Sys)),0,()),()))
                   (some (((AB (⟨s.Now,s.Cpus,r5.1.1,s.Locks,s.Ghosts,s.Floors,s.Seq,s.Missed,s.Trace⟩:Sys)),0,()),()))))
               (cond (decide (c.Kind=2))
                 (some (((AB (⟨s.Now,s.Cpus,r5.1.1,s.Locks,s.Ghosts,s.Floors,(w64 (s.Seq+1)),s.Missed,s.Trace⟩:Sys)),0,()),()))
                 (some (((AB (⟨s.Now,s.Cpus,r5.1.1,s.Locks,s.Ghosts,s.Floors,s.Seq,s.Missed,s.Trace⟩:Sys)),0,()),())))))
           (none))
         (some (((AB s),4,()),())))
       (cond (!r5.1.2.1)
         (some (((AB s),4,()),()))
         (cond (decide (c.Kind=2))
           (cond (decide (900000<s.Seq))
             (some (((AB s),4,()),()))
             (cond (decide (c.Kind=2))
               (some (((AB (⟨s.Now,s.Cpus,r5.1.1,s.Locks,s.Ghosts,s.Floors,(w64 (s.Seq+1)),s.Missed,s.Trace⟩:Sys)),0,()),()))
               (some (((AB (⟨s.Now,s.Cpus,r5.1.1,s.Locks,s.Ghosts,s.Floors,s.Seq,s.Missed,s.Trace⟩:Sys)),0,()),()))))
           (cond (decide (c.Kind=2))
             (some (((AB (⟨s.Now,s.Cpus,r5.1.1,s.Locks,s.Ghosts,s.Floors,(w64 (s.Seq+1)),s.Missed,s.Trace⟩:Sys)),0,()),()))
             (some (((AB (⟨s.Now,s.Cpus,r5.1.1,s.Locks,s.Ghosts,s.Floors,s.Seq,s.Missed,s.Trace⟩:Sys)),0,()),())))))))):Option ((Ap×Int×Unit)×Unit))=
 some ((AB (Oq s c t).1,(Oq s c t).2,()),()):=by
 obtain⟨b1,b2,b3,b4,b5⟩:=h.lbnd hn;have hg:=hs.ghosts.1;have ht:=hs.tasks.len;have hsl:=G9 s c.Cpu;obtain⟨n1,n2⟩:=hn.k;have e:w64 (s.Seq+1)=s.Seq+1:=by have:=hs.seq;exact AV (by omega) (by omega)
 unfold Oq
 by_cases h1:s.Cpus≤c.Cpu
 ·rw[decide_eq_true h1,if_pos (.inl h1)];rfl
 rw[decide_eq_false h1];simp only[cond_false];cases h2:t.2 with
 |false=>rw[if_pos (.inr rfl)];rfl
 |true=>
  rw[if_neg (by rintro(q|q);exact h1 q;cases q)]
  simp only[Bool.not_true,cond_false,F1 (ts:=s.Tasks) (no:=c.No) (n:=n) (by omega) (by omega),Option.bind_some,GY]
  cases h3:(AR s.Tasks c.No).isSome with
  |true=>rw[if_pos rfl];rfl
  |false=>
   rw[if_neg (by simp)]
   rw[dnTask_up,YW b1 b2,if_pos hs.tasks];simp only[cond_false,Option.bind_some]
   by_cases h4: ¬TasksOk (insT s.Tasks t.1)
   · rw[if_pos h4,if_neg h4]
     by_cases k1:c.Kind=1<;>simp[k1]
   have h4':=Decidable.not_not.1 h4;rw[if_neg h4,if_pos h4'];simp only[Bool.not_true,cond_false,cond_true]
   by_cases k1:c.Kind=1
   · rw[tD (by omega) (by omega)]
     simp only[Option.bind_some];rw[decide_eq_true (show(Aj s c.Cpu).length+[(⟨c.A,c.B⟩:Share)].length≤lim by simp only[List.length_cons,List.length_nil];omega)]
     rw[YQ (by simp only[List.length_append,List.length_cons,List.length_nil];unfold SN at hn;have:100≤big:=by unfold big;omega
               omega) (by simp only[List.length_append,List.length_cons,List.length_nil];omega)]
     simp only[cond_true,Option.bind_some];cases h5:Bg (Aj s c.Cpu++[⟨c.A,c.B⟩])with
     |false=>simp[k1]
     |true=>simp[k1]
   · by_cases k2:c.Kind=2
     ·by_cases h5:900000<s.Seq<;>simp[k2,h5,e]
     ·simp[k1,k2]
theorem sy{s:Sys}{c:Call}{n:Nat}(h:SysB s)(hs:SysOk s)(hn:SN n):LL n s c=some ((AB (BP s c).1,(BP s c).2,()),()):=by
 obtain⟨b1,b2,b3,b4,b5⟩:=h.lbnd hn;have e:w64 (s.Seq+1)=s.Seq+1:=by have:=hs.seq;exact AV (by omega) (by omega)
 unfold LL;simp only[sQ b3,YT,YS,YU,Option.bind_some,e];rw[←dZ]
 by_cases k1:c.Kind=1
 · have hq:=Sg (c:=c) h hs hn (EB c.No c.Cpu c.A c.B s.Now)
   rw[decide_eq_true k1]at hq⊢;have:Al s c=EB c.No c.Cpu c.A c.B s.Now:=by unfold Al;rw[if_pos k1]
   rw[this,←hq,e];rfl
 by_cases k2:c.Kind=2
 · have hq:=Sg (c:=c) h hs hn (EC c.No c.Cpu c.A c.B (s.Seq+1))
   rw[decide_eq_false k1,decide_eq_true k2]at hq⊢;have:Al s c=EC c.No c.Cpu c.A c.B (s.Seq+1):=by unfold Al;rw[if_neg k1,if_pos k2]
   rw[this,←hq,e];rfl
 · have hq:=Sg (c:=c) h hs hn (Ea c.No c.Cpu c.A (Bw s c.Cpu))
   rw[decide_eq_false k1,decide_eq_false k2]at hq⊢;have:Al s c=Ea c.No c.Cpu c.A (Bw s c.Cpu):=by unfold Al;rw[if_neg k1,if_neg k2]
   rw[this,←hq,e];rfl
theorem YV{ls:List Lock}{no:Int}{n:Nat}(hn:ls.length<n)(hb:ls.length≤lim):LC n ls no=some (C2 ls no,()):=by
 unfold LC C2
 by_cases h0:no=0
 · have:=Ak (l:=fun m i=>FB n m ls no (i:Int) (some (true,())) (some (false,()))) (len:=ls.length) (r:=some (false,())) (fun _=>True) trivial
    (fun m _=>by simp only[FB,AW,cond_false])
    (fun m i hi _=>.inl ⟨by simp only[FB,AG hi,cond_true,decide_eq_true h0,Bool.not_true,cond_false,AL (Nat.lt_trans hi (AY hb))],trivial⟩) (m:=n) hn
   refine this.trans ?_;simp[h0]
 · have:=C0 (l:=fun m i=>FB n m ls no i (some (true,())) (some (false,()))) (xs:=ls) (p:=fun k=>decide (k.Owner=no)) (k0:=fun _=>some (true,())) (k1:=some (false,()))
    (fun m=>by simp only[FB,AW,cond_false])
    (fun m i hi=>by simp only[FB,AG hi,AI,Bool.and_self,cond_true,decide_eq_false h0,Bool.not_false,AH hi,AL (Nat.lt_trans hi (AY hb))]) (m:=n) hn
   refine this.trans ?_;have e:=List.findIdx?_isSome (p:=fun k:Lock=>decide (k.Owner=no)) (xs:=ls)
   rw[←e];cases ls.findIdx? fun k=>decide (k.Owner=no)<;>simp[h0]
theorem s9{xs:List Int}{x:Int}{n:Nat}(hn:xs.length<n)(hb:xs.length≤lim):Hj n xs x=some (xs.filter fun y=>decide (y≠x),()):=by
 unfold Hj;have hf:=Ak (l:=fun m i=>H8 n m xs x ((xs.take i).filter fun y=>decide (y≠x)) (i:Int) (fun w7=>some (w7,()))) (len:=xs.length) (r:=some (xs.filter fun y=>decide (y≠x),())) (fun _=>True) trivial
  (fun m _=>by simp only[H8,AW,cond_false,List.take_length])
  (fun m i hi _=>.inl ⟨by
    have hl:=List.length_filter_le (fun y=>decide (y≠x)) (xs.take i)
    rw[List.length_take]at hl;simp only[H8,AG hi,AI,Bool.and_self,cond_true,AH hi,AL (Nat.lt_trans hi (AY hb)),CB (show((xs.take i).filter fun y=>decide (y≠x)).length<xs.length by omega) hb]
    rw[List.take_succ_eq_append_getElem hi,List.filter_append]
    by_cases h:xs[i]=x<;>simp[h],trivial⟩) (m:=n) hn
 exact hf
theorem su{α:Type}{l:List Lock}{B n:Nat}(hl:LSmall B l)(hn:B+1<n)(hb:B+2≤lim){k0 k1:List Int→Option α}:
 ∀(d i:Nat) (no:Int) (out:List Int) (m:Nat),i+d=l.length+1→out.length=i+1→d<m→(∀c,Ao l d no=some c→EZ n m l no out (i:Int) k0 k1=k0 (out++c))∧(Ao l d no=none→ ∃w,EZ n m l no out (i:Int) k0 k1=k1 w):=by
 intro d
 induction d with
 |zero=>
  intro i no out m hd ho hm;obtain⟨m,rfl⟩: ∃q,m=q+1:=⟨m-1,by omega⟩
  refine⟨fun c h=>(by cases h),fun _=>⟨out,?_⟩⟩
  have:decide ((i:Int)≤(l.length:Int))=false:=decide_eq_false (by omega)
  simp only[EZ,this,cond_false]
 |succ d ih=>
  intro i no out m hd ho hm;obtain⟨m,rfl⟩: ∃q,m=q+1:=⟨m-1,by omega⟩
  have hlen:=hl.len;have h0:decide ((i:Int)≤(l.length:Int))=true:=decide_eq_true (by omega)
  rcases G1 l no with⟨e1,e2⟩|⟨j,e1,hj,e2⟩
  · have h3:Ao l (d+1) no=some []:=by unfold Ao;rw[e2]
    have h4:EZ n (m+1) l no out (i:Int) k0 k1=k0 out:=by
     simp only[EZ,h0,cond_true,FQ hl (show B<n by omega) (show B≤lim by omega),Option.bind_some,e1,DU,Option.isNone_none]
    refine⟨fun c h=> ?_,fun h=>by rw[h3]at h;cases h⟩
    rw[h3]at h;injection h with h;subst h
    rw[h4,List.append_nil]
  · have h3:Ao l (d+1) no=(Ao l d l[j].Owner).map (l[j].Owner:: ·):=by
     show(match next l no with|none=>some []|some o=>(Ao l d o).map (o:: ·))=_
     rw[e2]
    have e4:decide (out.length+[l[j].Owner].length≤lim)=true:=decide_eq_true (by simp;omega)
    have h4:EZ n (m+1) l no out (i:Int) k0 k1=EZ n m l l[j].Owner (out++[l[j].Owner]) ((i+1:Nat):Int) k0 k1:=by
     have hi:i<Ab:=by unfold lim at hb;unfold Ab;omega
     simp only[EZ,h0,cond_true,FQ hl (show B<n by omega) (show B≤lim by omega),Option.bind_some,e1,DU,Option.isNone_some,cond_false,EA,idx,AI,AG hj,Bool.and_self,AH hj,e4,AL hi]
    obtain⟨g1,g2⟩:=ih (i+1) l[j].Owner (out++[l[j].Owner]) m (by omega) (by simp;omega) (by omega)
    rw[h3,h4];refine⟨fun c h=> ?_,fun h=>g2 (Option.map_eq_none_iff.1 h)⟩
    obtain⟨c',h5,rfl⟩:=Option.map_eq_some_iff.1 h;rw[g1 c' h5,List.append_assoc];rfl
theorem s7{l:List Lock}{no:Int}{B n:Nat}(hl:LSmall B l)(hn:B+2<n)(hb:B+2≤lim){c:List Int}(h:BD l no=some c):Ql n l no=some ((no::c,true,()),()):=by
 have hlen:=hl.len;exact(su hl (show B+1<n by omega) hb (l.length+1) 0 no [no] n (by omega) rfl (by omega)).1 c h
theorem sI{ls:List Lock}{no:Int}{B n:Nat}(hl:LBound B ls)(hn:B+2<n)(hb:B+2≤lim):K6 n ls no=some (if LocksOk ls then(match BD ls no with|some c=>no::c|none=>[])else[],()):=by
 unfold K6;rw[IL hl hn hb];simp only[Option.bind_some]
 by_cases h:LocksOk ls
 · obtain⟨c,ec⟩:=F9 h no
   rw[decide_eq_true h,if_pos h,s7 hl.small hn hb ec,ec];rfl
 ·rw[decide_eq_false h,if_neg h];rfl
theorem sZ{ls:List Lock}{i:Nat}{no next:Int}{B n:Nat}(hl:LBound B ls)(hn:B+2<n)(hb:B+2≤lim)(h:LocksOk ls)(hi:i<ls.length)(h0:no≠0)(ho:ls[i].Owner=no)
 (hx:(ls[i].Waits=[]∧next=0)∨next∈ls[i].Waits):OB n ls (i:Int) no next=some ((Ff ls i next,true,()),()):=by
 have hs:=hl.small;have hll:=hl.len;have hw: ∀k∈ls,k.Waits.length≤lim:=fun k hk=>by have:=hs.waits k hk;omega
 have hwi:=hs.waits _ (List.getElem_mem hi);unfold OB Ff;rw[IL hl hn hb,decide_eq_true h];simp only[Option.bind_some,Bool.not_true,cond_false,MK (ls:=ls) (n:=n) (by omega) (by omega) hw,BV,Ll rfl hi (show ls.length≤lim by omega),decide_eq_false h0,AG hi,AI,Bool.and_self,cond_true,AH hi,Af hi,ho,decide_true,
  ML (xs:=ls[i].Waits) (x:=next) (n:=n) (by omega) (by omega),s9 (xs:=ls[i].Waits) (x:=next) (n:=n) (by omega) (by omega),Int.toNat_natCast,decide_eq_true hi]
 rcases hx with⟨e1,rfl⟩|hx
 · rw[e1]
   simp
 · have hz: ¬((ls[i].Waits.length:Int)=0):=fun q=>by
    have:ls[i].Waits=[]:=List.eq_nil_of_length_eq_zero (by omega)
    rw[this]at hx;cases hx
   have hp:0<(ls[i].Waits.length:Int):=by omega
   rw[decide_eq_false hz,decide_eq_true hp,decide_eq_true hx];rfl
theorem YR{ls:List Lock}{i:Nat}{no:Int}{B n:Nat}(hl:LBound B ls)(hn:B+2<n)(hb:B+2≤lim)(h:LocksOk ls)(hi:i<ls.length)(h0:1≤no∧no≤1000)(ho:ls[i].Owner≠no)(hw0:BS ls no=none):
 GR n ls (i:Int) no=some (((DR ls i no).1,(if(DR ls i no).2 then(if ls[i].Owner=0 then 0 else 1)else 4),()),()):=by
 have hs:=hl.small;have hll:=hl.len;have hw: ∀k∈ls,k.Waits.length≤lim:=fun k hk=>by have:=hs.waits k hk;omega
 have hwi:=hs.waits _ (List.getElem_mem hi);have hwi2:=hl.all;have hwl:=Dd (List.getElem_mem hi);unfold GR DR;rw[IL hl hn hb,decide_eq_true h];have hc:=sI (ls:=ls) (no:=ls[i].Owner) hl hn hb;rw[if_pos h]at hc;obtain⟨c,ec⟩:=F9 h ls[i].Owner;rw[ec]at hc;have hcl:=HO ec;simp only[Option.bind_some,Bool.not_true,cond_false,MK (ls:=ls) (n:=n) (by omega) (by omega) hw,BV,Ll rfl hi (show ls.length≤lim by omega),decide_eq_true h0,AG hi,AI,Bool.and_self,cond_true,AH hi,Af hi,
  FQ hs (show B<n by omega) (show B≤lim by omega),hw0,idx,decide_eq_false ho,hc,ec,ML (xs:=ls[i].Owner::c) (x:=no) (n:=n) (by simp;omega) (by simp;omega)]
 rw[show decide ((0:Int)≤ -1)=false from rfl]
 simp only[cond_false]
 by_cases hz:ls[i].Owner=0
 ·simp[hz,hi]
 · rw[decide_eq_false hz]
   by_cases hm:no∈ls[i].Owner::c
   ·simp[hz,hm]
   · have ha:decide (ls[i].Waits.length+[no].length≤lim)=true:=decide_eq_true (by simp only[List.length_cons,List.length_nil];omega)
     rw[decide_eq_false hm,ha];simp[hz,hm,hi]
end Go.Proofs.YthoholbeacojfaaGreat.VR
end
section
set_option linter.unusedVariables false
set_option linter.unusedSimpArgs false
namespace Go.Proofs.YthoholbeacojfaaGreat.VR
open Go
theorem T2{c:Cur}(h:CurOk c):Tot (LR c) fun r=>CurOk (AD r.2.1):=by
 unfold LR
 repeat' first
  |with_reducible refine BB (by assumption) fun r hc h0 h1=> ?_
  |with_reducible refine KE (by assumption) fun r hc=> ?_
  |with_reducible refine CA (YS ..) ?_
  |with_reducible refine CA (YU ..) ?_
  |with_reducible refine CA (YT ..) ?_
  |with_reducible refine An (fun hb=> ?_) (fun hb=> ?_)
  |exact AX (by assumption)
theorem Tz{c:Cur}(h:CurOk c):Tot (GV c) fun r=>CurOk (AD r.2.1):=by
 unfold GV;refine A1 (T2 h) fun r hc=> ?_
 repeat' first
  |with_reducible refine BB (by assumption) fun r hc h0 h1=> ?_
  |with_reducible refine HB (by assumption) (by simp) fun r hc hm=> ?_
  |with_reducible refine An (fun hb=> ?_) (fun hb=> ?_)
  |exact AX (by assumption)
theorem T0{β:Type}{n:Nat}{N:Int}{k:Cur→List Task→Option β}{Q:β→Prop}(hn:20<n)(hN:N≤30)(hk: ∀c ts,CurOk c→TasksOk ts→Tot (k c ts) Q){c:Cur}{m:Nat}(hc:CurOk c)(hm:30<m):
 Tot (Gu n m c [] N 0 k) Q:=by
 have e:lim=4503599627370496∨100≤lim:=.inr (by unfold lim;omega)
 have h100:100≤lim:=by unfold lim;omega
 have key:=HE (l:=fun m (p:Cur×List Task×Int)=>Gu n m p.1 p.2.1 N p.2.2 k) (Q:=Q) (fun p=>(30-p.2.2).toNat)
  (fun p=>CurOk p.1∧TasksOk p.2.1∧0≤p.2.2∧p.2.2≤30) (fun m p ⟨h1,h2,h3,h4⟩ ih=>by
    unfold Gu;refine An (fun hb=> ?_) (fun _=>hk _ _ h1 h2)
    have hb:=of_decide_eq_true hb;have e1:w64 (p.2.2+1)=p.2.2+1:=AV (by omega) (by omega)
    refine A1 (T2 h1) fun r hc=> ?_
    have hl:=h2.len;refine CA (YW (by omega) (by omega)) ?_
    rw[if_pos h2,e1]
    by_cases hi:TasksOk (insT p.2.1 (AC r.1))
    · rw[if_pos hi]
      exact ih (AD r.2.1,_,p.2.2+1) ⟨hc,hi,by simp only;omega,by simp only;omega⟩ (by simp only;omega)
    · rw[if_neg hi]
      exact ih (AD r.2.1,_,p.2.2+1) ⟨hc,h2,by simp only;omega,by simp only;omega⟩ (by simp only;omega))
 exact key m (c,[],0) ⟨hc,⟨fun t ht=>(by cases ht),List.Pairwise.nil,by simp⟩,Int.le_refl _,by simp⟩ (by simp;omega)
theorem ar{c:Cur}{n:Nat}(h:CurOk c)(hn:31<n):Tot (LQ n c) fun r=>CurOk (AD r.2.1)∧r.1.length≤13:=by
 have h100:100≤lim:=by unfold lim;omega
 unfold LQ;refine BB h fun r hc h0 h1=>KE hc fun r2 hc=> ?_
 have hk: ∀(c:Cur) (ts:List Task),CurOk c→TasksOk ts→Tot ((CE c 20).bind fun r11=>
  cond r11.1
   ((GV (AD r11.2.1)).bind fun r12=>
    cond (decide ((ts).length+(([(AC r12.1)]:List Task)).length≤lim))
     (some ((ts++([(AC r12.1)]:List Task)),(AP (AD r12.2.1)),()))
     (none))
   (some (ts,(AP (AD r11.2.1)),()))) fun r=>CurOk (AD r.2.1)∧r.1.length≤13:=fun c ts hc hts=>by
  have hl:=hts.len;refine KE hc fun r hc=>An (fun _=> ?_) (fun _=>AX ⟨hc,by show ts.length≤13;omega⟩)
  refine A1 (Tz hc) fun r2 hc=> ?_
  exact Am (decide_eq_true (by simp only[List.length_cons,List.length_nil];omega)) (AX ⟨hc,by simp only[List.length_append,List.length_cons,List.length_nil];omega⟩)
 exact An (fun _=>T0 (by omega) (Int.le_refl _) hk hc (by omega)) (fun _=>T0 (by omega) (by omega) hk hc (by omega))
end Go.Proofs.YthoholbeacojfaaGreat.VR
end
section
set_option linter.unusedVariables false
set_option linter.unusedSimpArgs false
namespace Go.Proofs.YthoholbeacojfaaGreat.VR
open Go
theorem sH{ts:List Task}{l:List Int}{n:Nat}(hn:l.length<n)(hb:l.length≤lim)(hn2:ts.length<n)(hb2:ts.length≤lim):Np n ts l=some (EL ts l,()):=by
 unfold Np EL;have hend: ∀b:Option Task,(∀t,b=some t→t∈ts)→TasksOk ts→(cond (decide (Bi ts b<0)) (some (0,())) (cond ((decide (0≤Bi ts b))&&(decide (Bi ts b<(ts.length:Int)))) (some ((List.getD ts (Int.toNat (Bi ts b)) (Kd.dflt .task)).No,())) none):Option (Int×Unit))=some (FI b,()):=by
  intro b hb h;cases b with
  |none=>simp[Bi,FI]
  |some t=>
   obtain⟨j,hj,e,hji⟩:=Cq h (hb t rfl);simp only[Bi,hji,idx,EA,cond_false,AI,AG hj,Bool.and_self,cond_true,AH hj,e,FI]
 by_cases h: ¬TasksOk ts
 · rw[if_neg h]
   have h1:=IM hn2 hb2 (ts:=ts) (n:=n);rw[decide_eq_false h]at h1;obtain⟨m,rfl⟩: ∃m,n=m+1:=⟨n-1,by omega⟩
   have h0:0<ts.length:=by
    cases ts with
    |nil=>exact absurd ⟨by simp,by simp,by simp⟩ h
    |cons x r=>simp
   have hl:decide ((0:Int)<(ts.length:Int))=true:=decide_eq_true (by omega)
   simp only[E9,hl,cond_true,h1,Option.bind_some,cond_false];rfl
 have h:TasksOk ts:=Decidable.not_not.1 h;rw[if_pos h];have hok:=IM hn2 hb2 (ts:=ts) (n:=n);rw[decide_eq_true h]at hok;have this:=Ak (l:=fun m i=>E9 n m ts l (Bi ts (Ai ((ts.take i).filter fun t=>decide (t.No∈l)))) (i:Int) (fun w8=>
  cond (decide (w8<0))
   (some (0,()))
   (cond ((decide (0≤w8))&&(decide (w8<((ts).length:Int))))
     (some ((List.getD ts (Int.toNat w8) (Kd.dflt .task)).No,()))
     (none)))) (len:=ts.length)
  (r:=some (FI (Ai (ts.filter fun t=>decide (t.No∈l))),())) (fun _=>True) trivial (fun m _=>by
    simp only[E9,AW,cond_false,List.take_length];exact hend _ (fun t ht=>(List.mem_filter.1 (HK ht)).1) h) (fun m i hi _=>.inl ⟨?_,trivial⟩) (m:=n) hn2
 ·simpa[Ai,Bi]using this
 · have hil:=Nat.lt_trans hi (AY hb2)
   rw[Ev _ hi];have hmem:=EN ((ts.take i).filter fun t=>decide (t.No∈l)) none
   have happ: ∀c,Ai (((ts.take i).filter fun t=>decide (t.No∈l))++cond c [ts[i]] [])=cond c (B1 (Ai ((ts.take i).filter fun t=>decide (t.No∈l))) ts[i]) (Ai ((ts.take i).filter fun t=>decide (t.No∈l))):=fun c=>by
    cases c
    ·simp only[cond_false,List.append_nil]
    ·simp only[cond_true,Ai,List.foldl_append,List.foldl_cons,List.foldl_nil]
   rw[happ]
   change∀t,Ai ((ts.take i).filter fun t=>decide (t.No∈l))=some t→_ at hmem
   revert hmem
   generalize he:Ai ((ts.take i).filter fun t=>decide (t.No∈l))=ob
   clear he happ;intro hmem;simp only[E9,AG hi,AI,Bool.and_self,cond_true,AH hi,hok,ML hn hb,Option.bind_some,AL hil,SV]
   by_cases hc:ts[i].No∈l
   · rw[decide_eq_true hc]
     simp only[cond_true]
     match ob,hmem with
     |none,_=>
      have:decide (Bi ts none<0)=true:=by simp[Bi]
      rw[this,cond_true];simp only[B1,Bi,KF h hi,idx]
     |some b,hmem=>
      have hb3:b∈ts:=by
       rcases hmem _ rfl with hm|hm
       ·exact List.mem_of_mem_take (List.mem_filter.1 hm).1
       ·cases hm
      obtain⟨j,hj,hbj,hji⟩:=Cq h hb3;have e1:Bi ts (some b)=(j:Int):=by simp only[Bi,hji,idx]
      rw[e1];simp only[EA,cond_false,AI,AG hj,Bool.and_self,cond_true,AH hj,hbj,B1]
      by_cases hbf:Before ts[i] b
      · rw[decide_eq_true hbf,if_pos hbf]
        simp only[cond_true,Bi,KF h hi,idx]
      · rw[decide_eq_false hbf,if_neg hbf,e1]
        rfl
   · rw[decide_eq_false hc]
     rfl
theorem sL(t:Task)(cpu src to:Int):Ny t cpu src to=some (AK (ET t cpu src to),()):=by
 simp only[Ny,MJ,BV,KB,Option.bind_some,ET,DK,BT]
 by_cases h1:BR t=true
 · rw[h1]
   rw[C9]at h1;have hv:=(h1.1.fair h1.2).v;simp only[cond_true,true_and]
   by_cases h2:0≤cpu∧cpu≤3
   · by_cases h3:0≤src∧src≤100000000
     · by_cases h4:0≤to∧to≤100000000
       · have e1:w64 (t.V-src)=t.V-src:=AV (by omega) (by omega)
         have e2:max (t.V-src) 0=max 0 (t.V-src):=by omega
         rw[e1,e2];have hb:0≤to+max 0 (t.V-src)∧to+max 0 (t.V-src)≤300000000:=by omega
         generalize to+max 0 (t.V-src)=v at hb⊢;have e3:w64 v=v:=AV (by omega) (by omega)
         rw[e3]
         by_cases h5:100000000<v
         · have h6: ¬v≤100000000:=by omega
           simp[h2,h3,h4,h5,h6]
         · have h6:v≤100000000:=by omega
           simp[h2,h3,h4,h5,h6]
       ·simp[h2,h3,h4]
     ·simp[h2,h3]
   ·simp[h2]
 · have h1:BR t=false:=by simpa using h1
   rw[h1];simp
end Go.Proofs.YthoholbeacojfaaGreat.VR
end
section
set_option linter.unusedVariables false
set_option linter.unusedSimpArgs false
namespace Go.Proofs.YthoholbeacojfaaGreat.VR
open Go
theorem bR{β:Type}{xs:List β}{i j:Nat}(hj:j<xs.length):(xs.take (j+1)).eraseIdx i=(xs.take j).eraseIdx i++(if j=i then[]else[xs[j]]):=by
 rw[List.take_succ_eq_append_getElem hj];have hl:(xs.take j).length=j:=by rw[List.length_take];omega
 by_cases h:i<j
 ·rw[List.eraseIdx_append_of_lt_length (by omega),if_neg (by omega)]
 · rw[List.eraseIdx_append_of_length_le (by omega),hl,List.eraseIdx_of_length_le (l:=xs.take j) (by omega)]
   by_cases e:j=i
   ·subst e;simp
   ·rw[if_neg e,List.eraseIdx_of_length_le (by simp;omega)]
theorem bQ{β:Type}(xs:List β)(i j:Nat):((xs.take j).eraseIdx i).length≤j:=by
 have:=(List.eraseIdx_sublist (xs.take j) i).length_le;rw[List.length_take]at this;omega
theorem SY{α:Type}{s z:Sys}{i n:Nat}(hn:s.Tasks.length<n)(hb:s.Tasks.length≤lim)(hz:z=⟨z.Now,z.Cpus,[],[],[],[],z.Seq,z.Missed,[]⟩)(k:List Task→Option α):FD n n (i:Int) s z [] 0 k=k (s.Tasks.eraseIdx i):=by
 have h:=Ak (l:=fun m j=>FD n m (i:Int) s z ((s.Tasks.take j).eraseIdx i) (j:Int) k) (len:=s.Tasks.length) (r:=k (s.Tasks.eraseIdx i)) (fun _=>True) trivial
  (fun m _=>by simp only[FD,AW,cond_false,List.take_length])
  (fun m j hj _=>.inl ⟨by
    have hl:=bQ s.Tasks i j;simp only[FD,AG hj,AI,Bool.and_self,cond_true,AH hj,AL (Nat.lt_trans hj (AY hb)),CB (show((s.Tasks.take j).eraseIdx i).length<lim by omega) (Nat.le_refl _),←hz,bR hj]
    by_cases e:j=i
    ·rw[if_pos e,decide_eq_true (show(j:Int)=(i:Int) by omega),List.append_nil];rfl
    ·rw[if_neg e,decide_eq_false (show¬(j:Int)=(i:Int) by omega)];rfl,trivial⟩) (m:=n) hn
 simpa using h
theorem sw{s:Sys}{i n:Nat}(h:SysB s)(hs:SysOk s)(hn:SN n)(hi:i<s.Tasks.length):LI n s (i:Int)=some ((AB (Cl s i s.Tasks[i]).1,(Cl s i s.Tasks[i]).2,()),()):=by
 obtain⟨b1,b2,b3,b4,b5⟩:=h.lbnd hn;obtain⟨c1,c2,c3⟩:=h.lk hn;have hg:=hs.ghosts.1;have hL:s.Locks.length<n:=by have:=h.small.locks;omega
 unfold LI Cl;simp only[AG hi,AI,Bool.and_self,cond_true,AH hi,YV hL b5,FQ c1 c2 c3,Option.bind_some];have w:=HH s.Locks s.Tasks[i].No;cases ho:C2 s.Locks s.Tasks[i].No with
 |true=>simp
 |false=>
  cases hw:waits s.Locks s.Tasks[i].No with
  |true=>rw[hw]at w;rw[decide_eq_true (w.2 rfl)];simp
  |false=>
   rw[hw]at w;rw[decide_eq_false (fun q=>by have:=w.1 q;cases this)]
   simp only[cond_false,Bool.or_self,Bool.false_eq_true,if_false]
   by_cases k1:s.Tasks[i].Class=1
   · rw[decide_eq_true k1]
     by_cases k2:s.Now<s.Tasks[i].Due
     · rw[decide_eq_true k2,if_pos ⟨k1,k2⟩]
       by_cases k3:12≤s.Ghosts.length
       ·rw[if_pos k3,decide_eq_true (show(s.Ghosts.length:Int)=12 by omega)];rfl
       · rw[if_neg k3,decide_eq_false (show¬(s.Ghosts.length:Int)=12 by omega)]
         simp only[cond_true,cond_false,CB (show s.Ghosts.length<lim by omega) (Nat.le_refl _)]
         exact SY (by show s.Tasks.length<n;omega) (by show s.Tasks.length≤lim;omega) rfl _
     · rw[decide_eq_false k2,if_neg (fun q=>k2 q.2)]
       simp only[cond_true,cond_false];exact SY (by omega) (by omega) rfl _
   · rw[decide_eq_false k1,if_neg (fun q=>k1 q.1)]
     simp only[cond_false];exact SY (by omega) (by omega) rfl _
theorem Yj{s:Sys}{c:Call}{i n:Nat}(h:SysB s)(hs:SysOk s)(hn:SN n)(hi:i<s.Tasks.length)(hno:s.Tasks[i].No=c.No):
 (c.Kind=7→LJ n s c (i:Int)=some ((AB (Ce s c s.Tasks[i]).1,(Ce s c s.Tasks[i]).2,()),()))∧(c.Kind=8→LN n s c (i:Int)=some ((AB (Ce s c s.Tasks[i]).1,(Ce s c s.Tasks[i]).2,()),())):=by
 obtain⟨b1,b2,b3,b4,b5⟩:=h.lbnd hn;obtain⟨c1,c2,c3⟩:=h.lk hn;have hn2:=hn.two;have hb2:=EO;have hl5:=hs.locks.1;have hnn:=(hs.tasks.each _ (List.getElem_mem hi)).no;unfold LJ LN Ce;rw[BV];simp only[Option.bind_some,←hno]
 by_cases hA: ¬(0≤c.A∧c.A≤4)
 ·rw[decide_eq_false hA,if_pos hA];exact⟨fun _=>rfl,fun _=>rfl⟩
 have hA':=Decidable.not_not.1 hA;rw[decide_eq_true hA',if_neg hA];obtain⟨j,hj⟩:=Int.eq_ofNat_of_zero_le hA'.1;have hjl:j<s.Locks.length:=by omega
 have hm:=List.getElem_mem hjl;rw[hj];simp only[Bool.not_true,cond_false,AG hi,AG hjl,AI,Bool.and_self,cond_true,AH hi,Af hi,AH hjl,Af hjl,Int.toNat_natCast,FQ c1 c2 c3,Option.bind_some]
 by_cases h1:s.Tasks[i].State=2
 ·rw[decide_eq_true h1,if_pos (.inl h1)];exact⟨fun _=>rfl,fun _=>rfl⟩
 rw[decide_eq_false h1];have w:=HH s.Locks s.Tasks[i].No;cases hw:waits s.Locks s.Tasks[i].No with
 |true=>
  rw[hw]at w;rw[decide_eq_true (w.2 rfl),if_pos (.inr (.inl rfl))];exact⟨fun _=>rfl,fun _=>rfl⟩
 |false=>
  rw[hw]at w;have hwn:BS s.Locks s.Tasks[i].No=none:=by
   unfold waits at hw;exact Option.isNone_iff_eq_none.1 (by simpa using hw)
  rw[decide_eq_false (fun q=>by have:=w.1 q;cases this)]
  simp only[cond_false];refine⟨fun k7=> ?_,fun k8=> ?_⟩
  · have k8: ¬c.Kind=8:=by omega
    by_cases ho:s.Locks[j].Owner=s.Tasks[i].No
    ·rw[if_pos (.inr (.inr ⟨fun _=>k7,fun _=>ho⟩)),decide_eq_true ho];rfl
    · rw[if_neg (by rintro(q|q|q);exact h1 q;cases q;exact ho (q.2 k7)),if_neg k8,decide_eq_false ho]
      simp only[cond_false,sb (s:=s) (k:=(j:Int)) (no:=s.Tasks[i].No) (n:=n) (by omega) (by omega) b5,Option.bind_some]
      cases hsc:Fz s (j:Int) s.Tasks[i].No with
      |false=>rw[if_pos rfl];rfl
      |true=>
       rw[if_neg (by simp)]
       simp only[Bool.not_true,cond_false,YR h.tl.locks hn2 hb2 hs.locks.2.1 hjl hnn ho hwn,Option.bind_some];cases ha:(DR s.Locks j s.Tasks[i].No).2 with
       |false=>simp
       |true=>
        by_cases hz:s.Locks[j].Owner=0<;>simp[hz]
  · have k7: ¬c.Kind=7:=by omega
    by_cases ho:s.Locks[j].Owner=s.Tasks[i].No
    · rw[if_neg (by rintro(q|q|q);exact h1 q;cases q;exact k7 (q.1 ho)),if_pos k8]
      have hbest:=Pu hs.tasks (RT (hs.locks.2.2 _ hm) (hs.locks.2.1.own _ hm).2);have hwl:s.Locks[j].Waits.length≤big:=h.small.waits _ hm;simp only[decide_eq_true ho,Bool.not_true,cond_false,sH (ts:=s.Tasks) (l:=s.Locks[j].Waits) (n:=n) (by omega) (by omega) (by omega) (by omega),Option.bind_some,
       sZ (no:=s.Tasks[i].No) (next:=EL s.Tasks s.Locks[j].Waits) h.tl.locks hn2 hb2 hs.locks.2.1 hjl (by omega) ho (hbest.imp id id)]
    ·rw[if_pos (.inr (.inr ⟨fun q=>absurd q ho,fun q=>absurd q k7⟩)),decide_eq_false ho];rfl
theorem sx{s:Sys}{c:Call}{i n:Nat}(h:SysB s)(hs:SysOk s)(hn:SN n)(hi:i<s.Tasks.length)(k10: ¬c.Kind=9):LK n s c (i:Int)=some ((AB (Cz s c i s.Tasks[i]).1,(Cz s c i s.Tasks[i]).2,()),()):=by
 obtain⟨b1,b2,b3,b4,b5⟩:=h.lbnd hn;obtain⟨c1,c2,c3⟩:=h.lk hn;have hL:s.Locks.length<n:=by have:=h.small.locks;omega
 have hcp:=hs.cpus;have hfl:=hs.flen;have ht:=hs.floor (List.getElem_mem hi);have ew:w64 (s.Cpus-1)=s.Cpus-1:=AV (by omega) (by omega)
 unfold LK Cz;simp only[AG hi,AI,Bool.and_self,cond_true,AH hi,Af hi,Int.toNat_natCast,decide_eq_true hi,YV hL b5,FQ c1 c2 c3,BV,sL,dnTask_up,ew,Option.bind_some]
 by_cases k1:s.Tasks[i].Class≠3
 ·rw[if_pos k1,decide_eq_false k1];rfl
 have k1':s.Tasks[i].Class=3:=Decidable.not_not.1 k1;rw[if_neg k1,decide_eq_true k1',if_neg k10];simp only[Bool.not_true,cond_false];have w:=HH s.Locks s.Tasks[i].No;cases ho:C2 s.Locks s.Tasks[i].No with
 |true=>simp
 |false=>
  cases hw:waits s.Locks s.Tasks[i].No with
  |true=>rw[hw]at w;rw[decide_eq_true (w.2 rfl)];simp
  |false=>
   rw[hw]at w;rw[decide_eq_false (fun q=>by have:=w.1 q;cases this)]
   by_cases hc:0≤c.Cpu∧c.Cpu≤s.Cpus-1
   · have e1:Bw s s.Tasks[i].Cpu=s.Floors.getD s.Tasks[i].Cpu.toNat (Kd.dflt .int):=by unfold Bw;rw[if_pos (by omega)];rfl
     have e2:Bw s c.Cpu=s.Floors.getD c.Cpu.toNat (Kd.dflt .int):=by unfold Bw;rw[if_pos (by omega)];rfl
     rw[decide_eq_true hc,decide_eq_true ht.1,decide_eq_true ht.2.1,decide_eq_true hc.1,decide_eq_true (show c.Cpu<(s.Floors.length:Int) by omega),e1,e2]
     simp[hc]
   · rw[decide_eq_false hc]
     simp[hc]
theorem sn{s:Sys}{a n:Nat}(h:SysB s)(hs:SysOk s)(hn:SN n)(ha:a<n)(ha2:a<Ab):LD n s (a:Int)=some ((AB (BC a s 0).1,((BC a s 0).2:Int),()),()):=by
 have hb:=h.small;unfold LD;rw[B3 h hn,decide_eq_true hs];simp only[Option.bind_some,Bool.not_true,cond_false,KC hb (show big<n by unfold SN at hn;omega) Dx,dnSys_up]
 have key: ∀(d m k:Nat) (v:Sys) (x:Sys),k+d=a→d<m→SysOk v→Jj n m (a:Int) x v (k:Int)
  (fun w8 w9 w10 w11 w12 w13 w14 w15 w16 w17 w18 w19 w20 w21 w22=>
   some (((AB (⟨w10,w11,w18,w19,w20,w21,w12,w13,w22⟩:Sys)),w8,()),()))
  (fun w23 w24 w25 w26 w27 w28 w29 w30 w31 w32=>
   some (((AB (⟨w24,w25,w28,w29,w30,w31,w26,w27,w32⟩:Sys)),w23,()),()))=some ((AB (BC d v k).1,((BC d v k).2:Int),()),()):=by
  intro d
  induction d with
  |zero=>
   intro m k v x hk hm hv;obtain⟨m,rfl⟩: ∃q,m=q+1:=⟨m-1,by omega⟩
   have:k=a:=by omega
   subst this;simp only[Jj,AW,cond_false,BC]
  |succ d ih=>
   intro m k v x hk hm hv;obtain⟨m,rfl⟩: ∃q,m=q+1:=⟨m-1,by omega⟩
   have hka:k<a:=by omega
   simp only[Jj,AG hka,cond_true,sk (PR hv) hn,Option.bind_some,dnSys_up,AL (show k<Ab by omega)]
   unfold BC
   by_cases hc:Aw v
   · have e:BM v=(Av v,true):=by unfold BM;rw[if_pos hv,if_pos hc]
     rw[e,if_pos hc];simp only[Bool.not_true,cond_false];exact ih m (k+1) (Av v) _ (by omega) (by omega) (IR hv hc)
   · have e:BM v=(v,false):=by unfold BM;rw[if_pos hv,if_neg hc]
     rw[e,if_neg hc];rfl
 exact key a n 0 s _ (by omega) ha hs
end Go.Proofs.YthoholbeacojfaaGreat.VR
end
section
set_option linter.unusedVariables false
set_option linter.unusedSimpArgs false
namespace Go.Proofs.YthoholbeacojfaaGreat.VR
open Go
theorem Uq(i:Nat):idx (some i)=(i:Int):=rfl
theorem dI{c:Call}(h:BY c=true):1≤c.Kind∧c.Kind≤11:=by
 unfold BY at h;split at h
 ·omega
 split at h
 ·omega
 split at h
 ·omega
 split at h
 ·omega
 split at h
 ·omega
 split at h
 ·omega
 ·cases h
theorem Yc{s:Sys}{c:Call}{n:Nat}(h:SysB s)(hs:SysOk s)(hn:SN n)(hc:BY c=true):LF n s c=some ((AB (Bb s c).1,(Bb s c).2,()),()):=by
 obtain⟨b1,b2,b3,b4,b5⟩:=h.lbnd hn;obtain⟨c1,c2,c3⟩:=h.lk hn;have hk:=hn.k;have hkd:=dI hc;unfold LF Bb
 by_cases k3:c.Kind≤3
 · have k11: ¬c.Kind=11:=by omega
   rw[decide_eq_true k3,if_neg k11,if_pos ⟨hkd.1,k3⟩,sy h hs hn];rfl
 rw[decide_eq_false k3];simp only[cond_false]
 by_cases k11:c.Kind=11
 · rw[decide_eq_true k11,if_pos k11]
   unfold EH;simp only[cond_true,BV,Option.bind_some]
   by_cases ha:1≤c.A∧c.A≤50
   · rw[decide_eq_true ha,if_pos ha]
     obtain⟨m,hm⟩:=Int.eq_ofNat_of_zero_le (show 0≤c.A by omega)
     rw[hm];have hmn:m<n:=by omega
     simp only[Bool.not_true,cond_false,sn h hs hn hmn (show m<Ab by unfold Ab;omega),Option.bind_some,Int.toNat_natCast,dnSys_up]
     by_cases hl:(BC m s 0).2<m
     ·rw[if_pos hl,decide_eq_true (show((BC m s 0).2:Int)<(m:Int) by omega)];rfl
     ·rw[if_neg hl,decide_eq_false (show¬((BC m s 0).2:Int)<(m:Int) by omega)];rfl
   ·rw[decide_eq_false ha,if_neg ha];rfl
 rw[decide_eq_false k11,if_neg k11,if_neg (fun q=>k3 q.2)]
 simp only[cond_false,F1 (ts:=s.Tasks) (no:=c.No) (n:=n) (by omega) (by omega),Option.bind_some,DU]
 cases e:AR s.Tasks c.No with
 |none=>rfl
 |some i=>
  obtain⟨hi,hno⟩:=Bj e;have w:=HH s.Locks s.Tasks[i].No;have hg:(decide (0≤idx (some i))&&decide (idx (some i)<(s.Tasks.length:Int)))=true:=by rw[Uq,AI,AG hi];rfl
  simp only[Option.isNone_some,cond_false,hg,cond_true];simp only[Uq,AH hi,Af hi,Int.toNat_natCast,decide_eq_true hi,FQ c1 c2 c3,Option.bind_some,sw h hs hn hi,←hno,SX,dnSys_up];unfold Cu
  by_cases k4:c.Kind=4
  · rw[decide_eq_true k4,if_pos k4]
    by_cases h2:s.Tasks[i].State=2
    ·simp[h2]
    · cases hw:waits s.Locks s.Tasks[i].No with
      |true=>rw[hw]at w;rw[decide_eq_true (w.2 rfl)];simp
      |false=>
       rw[hw]at w;have w2: ¬(0≤idx (BS s.Locks s.Tasks[i].No)):=fun q=>by have:=w.1 q;cases this
       rw[decide_eq_false h2,decide_eq_false w2];simp[h2,hi]
  rw[decide_eq_false k4,if_neg k4];simp only[cond_false]
  by_cases k5:c.Kind=5
  · rw[decide_eq_true k5,if_pos k5]
    by_cases h2:s.Tasks[i].State=2<;>simp[h2,hi]
  rw[decide_eq_false k5,if_neg k5];simp only[cond_false]
  by_cases k6:c.Kind=6
  ·rw[decide_eq_true k6,if_pos k6];rfl
  rw[decide_eq_false k6,if_neg k6];simp only[cond_false]
  by_cases k7:c.Kind=7
  ·rw[decide_eq_true k7,if_pos (.inl k7),(Yj h hs hn hi hno).1 k7];rfl
  rw[decide_eq_false k7];simp only[cond_false]
  by_cases k8:c.Kind=8
  ·rw[decide_eq_true k8,if_pos (.inr k8),(Yj h hs hn hi hno).2 k8];rfl
  rw[decide_eq_false k8,if_neg (by omega)]
  simp only[cond_false]
  by_cases k9:c.Kind=9
  · rw[decide_eq_true k9]
    unfold Cz
    by_cases q1:s.Tasks[i].Class=3
    · rw[decide_eq_true q1,if_neg (fun q=>q q1),if_pos k9]
      by_cases hN:Ci c.A<;>simp[hN,hi]
    ·rw[decide_eq_false q1,if_pos q1];rfl
  · have k10:c.Kind=10:=by omega
    rw[decide_eq_false k9,decide_eq_true k10,sx h hs hn hi k9];rfl
theorem Pz{s:Sys}{c:Call}:(Bb s c).2≠0→(Bb s c).1=s:=by
 unfold Bb;refine Da ?_ (Da Vi ?_)
 · unfold EH
   refine Da (Da (fun _=>rfl) (fun h=>absurd rfl h)) (fun _=>rfl)
 · cases AR s.Tasks c.No with
   |none=>exact fun _=>rfl
   |some i=>exact Y2
theorem PN{s:Sys}{c:Call}{n:Nat}(h:SysB s)(hn:SN n):Hc n s c=some ((AB (Ad s c).1,(Ad s c).2,()),()):=by
 have hb:=h.small;have hbn:big<n:=by unfold SN at hn;omega
 unfold Hc Ad;rw[B3 h hn];simp only[Option.bind_some,SW]
 by_cases hs:SysOk s
 · rw[decide_eq_true hs]
   simp only[Bool.not_true,cond_false];cases hc:BY c with
   |true=>
    rw[if_pos ⟨hs,rfl⟩];simp only[Bool.not_true,cond_false,KC hb hbn Dx,Sf hb hbn Dx,Option.bind_some,dnSys_up,Yc h hs hn hc]
    by_cases hz:(Bb s c).2=0
    ·rw[decide_eq_true hz];rfl
    ·rw[decide_eq_false hz,Pz hz];rfl
   |false=>rw[if_neg (fun q=>by cases q.2)];rfl
 ·rw[decide_eq_false hs,if_neg (fun q=>hs q.1)];rfl
end Go.Proofs.YthoholbeacojfaaGreat.VR
end
section
set_option linter.unusedVariables false
set_option linter.unusedSimpArgs false
namespace Go.Proofs.YthoholbeacojfaaGreat.VR
open Go
theorem Zv{ls:List Lock}{i no:Int}{n:Nat}(h:LocksOk ls)(hn:2000<n):Tot (GR n ls i no) fun r=>LocksOk r.1.1∧r.1.1.length=ls.length:=by
 have hw:=Pe h;have hl5:=((Gy _).1 h).1;have hB:LBound 1000 ls:=⟨by omega,hw⟩
 have hlim:2000≤lim:=by unfold lim;omega
 have hws: ∀k∈ls,k.Waits.length≤lim:=fun k hk=>by have:=Dd hk;omega
 by_cases h1:(0≤i∧i≤(ls.length:Int)-1)∧1≤no∧no≤1000
 · obtain⟨j,rfl⟩: ∃j:Nat,i=(j:Int):=⟨i.toNat,by omega⟩
   have hj:j<ls.length:=by omega
   by_cases h2:BS ls no=none∧ls[j].Owner≠no
   · rw[YR hB (by omega) (by omega) h hj h1.2 h2.2 h2.1]
     refine AX ?_;show LocksOk (DR ls j no).1∧(DR ls j no).1.length=ls.length;unfold DR;rw[Af hj];obtain⟨c,ec⟩:=F9 h ls[j].Owner;rw[ec];dsimp only
     by_cases h0:ls[j].Owner=0
     · rw[if_pos h0]
       exact⟨Y0 h hj h1.2 h0,List.length_set ..⟩
     · rw[if_neg h0]
       by_cases hm:no∈ls[j].Owner::c
       ·rw[if_pos hm];exact⟨h,rfl⟩
       ·rw[if_neg hm];exact⟨TW h hj h1.2 h2.1 h0 ec hm,List.length_set ..⟩
   · unfold GR
     rw[IL hB (by omega) (by omega),decide_eq_true h]
     simp only[Option.bind_some,Bool.not_true,cond_false,MK (ls:=ls) (n:=n) (by omega) (by omega) hws,BV,Ll rfl hj (show ls.length≤lim by omega),decide_eq_true h1.2,
      FQ hB.small (show 1000<n by omega) (show 1000≤lim by omega)]
     cases hx:BS ls no with
     |some q=>exact Am (decide_eq_true (by unfold idx;simp only;omega)) (AX ⟨h,rfl⟩)
     |none=>
      refine Ed (by decide) ?_
      have ho:ls[j].Owner=no:=by
       rcases Int.decEq ls[j].Owner no with q|q
       ·exact absurd ⟨hx,q⟩ h2
       ·exact q
      simp only[AG hj,AI,Bool.and_self,cond_true,AH hj,decide_eq_true ho];exact AX ⟨h,rfl⟩
 · unfold GR
   rw[IL hB (by omega) (by omega),decide_eq_true h]
   have e1:w64 ((ls.length:Int)-1)=(ls.length:Int)-1:=AV (by omega) (by omega)
   simp only[Option.bind_some,Bool.not_true,cond_false,MK (ls:=ls) (n:=n) (by omega) (by omega) hws,BV,e1]
   by_cases h2:0≤i∧i≤(ls.length:Int)-1
   · rw[decide_eq_true h2,decide_eq_false fun x=>h1 ⟨h2,x⟩]
     exact AX ⟨h,rfl⟩
   · rw[decide_eq_false h2]
     exact AX ⟨h,rfl⟩
theorem Zu:Qj=GR:=rfl
theorem bN(k:Nat)(hk:k≤5):LocksOk (List.replicate k (Kd.dflt .lock)):=by
 have: ∀k:Fin 6,LocksOk (List.replicate k.1 (Kd.dflt .lock)):=by decide
 exact this ⟨k,by omega⟩
theorem au{c:Cur}{n:Nat}(h:CurOk c)(hn:2000<n):Tot (OU n c) fun r=>CurOk (AD r.2.1)∧LocksOk r.1∧0<r.1.length:=by
 unfold OU;refine BB h fun r hc h0 h1=> ?_
 have h1:=h1 (by decide)
 have e1:w64 (1+r.1)=1+r.1:=AV (by omega) (by omega)
 have hlim:(2000:Int)≤(lim:Int):=by unfold lim;decide
 refine Am (by simp only[e1,decide_true,Bool.true_and,Bool.and_eq_true,decide_eq_true_eq];omega) ?_
 refine BB hc fun r2 hc2 g0 g1=> ?_
 have g1:=g1 (by decide)
 have key:=HE (l:=fun m (p:Cur×List Lock×Int)=>Lq n m p.1 p.2.1 r2.1 p.2.2 (fun w10 w11=>some (w11,(AP w10),()))) (Q:=fun r=>CurOk (AD r.2.1)∧LocksOk r.1∧0<r.1.length)
  (fun p=>(12-p.2.2).toNat) (fun p=>CurOk p.1∧LocksOk p.2.1∧0<p.2.1.length∧0≤p.2.2∧p.2.2≤12) (fun m p ⟨q1,q2,q3,q4,q5⟩ ih=>by
    unfold Lq;refine An (fun hb=> ?_) (fun _=>AX ⟨q1,q2,q3⟩)
    have hb:=of_decide_eq_true hb;have e2:w64 (p.2.2+1)=p.2.2+1:=AV (by omega) (by omega)
    refine BB q1 fun a hc _ _=>BB hc fun b hc _ _=> ?_
    rw[Zu,e2];refine A1 (Zv q2 hn) fun d ⟨d1,d2⟩=> ?_
    exact ih (AD b.2.1,d.1.1,p.2.2+1) ⟨hc,d1,by simp only;omega,by simp only;omega,by simp only;omega⟩ (by simp only;omega))
 refine key n (AD r2.2.1,_,0) ⟨hc2,bN _ (by rw[e1];omega),?_,Int.le_refl _,by simp⟩ (by simp;omega)
 simp only[List.length_replicate,e1];omega
theorem ao{c:Cur}{n:Nat}(h:CurOk c)(hn:2000<n):Tot (LU n c) fun r=>CurOk (AD r.2.1)∧r.1.length≤6∧(AT r.1).length≤2001:=by
 have hlim:3000≤lim:=by unfold lim;omega
 have hlimI:(2000:Int)≤(lim:Int):=by unfold lim;decide
 unfold LU;refine A1 (au h hn) fun r ⟨hc,hl,hp⟩=> ?_
 have hw:=Pe hl;have h5:=((Gy _).1 hl).1;refine BB hc fun r2 hc a0 a1=> ?_
 have a1:=a1 (by omega)
 have hj:r2.1.toNat<r.1.length:=by omega
 refine BB hc fun r3 hc _ _=> ?_
 have hwi:=Dd (List.getElem_mem hj);refine An (fun _=> ?_) (fun _=>An (fun _=> ?_) (fun _=>An (fun _=> ?_) (fun _=> ?_)))
 · refine HB hc (by simp) fun r4 hc _=>Am (Cd a0 a1) (Am (decide_eq_true hj) ?_)
   dsimp only;rw[Af hj];refine AX ⟨hc,by rw[List.length_set];omega,?_⟩
   have:=S4 ⟨r4.1,r.1[r2.1.toNat].Waits⟩ r.1 r2.1.toNat;simp only at this⊢;omega
 · refine Am (Cd a0 a1) (BB hc fun r4 hc _ _=> ?_)
   rw[Af hj];refine Am (decide_eq_true (by simp only[List.length_cons,List.length_nil];omega)) ?_
   dsimp only;refine Am (Cd a0 a1) (Am (decide_eq_true hj) (Am (by simp) (AX ⟨hc,by rw[List.length_set];omega,?_⟩)))
   have:=S4 ⟨r.1[r2.1.toNat].Owner,r.1[r2.1.toNat].Waits++[r4.1]⟩ r.1 r2.1.toNat;simp only[List.length_append,List.length_cons,List.length_nil]at this⊢;omega
 · refine BB hc fun r4 hc b0 b1=> ?_
   have b1:=b1 (by decide)
   have e1:w64 (5+r4.1)=5+r4.1:=AV (by omega) (by omega)
   refine Am (by simp only[e1,decide_true,Bool.true_and,Bool.and_eq_true,decide_eq_true_eq];omega) (AX ⟨hc,by rw[List.length_replicate,e1];omega,?_⟩)
   have: ∀k:Nat,AT (List.replicate k (Kd.dflt .lock))=[]:=fun k=>by
    unfold AT;rw[List.flatMap_eq_nil_iff];intro x hx;rw[(List.mem_replicate.1 hx).2];rfl
   rw[this];simp
 ·exact AX ⟨hc,by show r.1.length≤6;omega,by show(AT r.1).length≤2001;omega⟩
end Go.Proofs.YthoholbeacojfaaGreat.VR
end
section
set_option linter.unusedVariables false
set_option linter.unusedSimpArgs false
namespace Go.Proofs.YthoholbeacojfaaGreat.VR
open Go
def MO(c:Int):Ap×Bool×Unit:=if 1≤c∧c≤4 then(AB ⟨0,c,[],List.replicate 5 (Kd.dflt .lock),[],List.replicate c.toNat (Kd.dflt .int),0,0,[]⟩,true,())else(AB ⟨0,0,[],[],[],[],0,0,[]⟩,false,())
theorem d8(c:Int):(cond (!decide (1≤c∧c≤4)) (some (((AB (⟨0,0,[],[],[],[],0,0,[]⟩:Sys)),false,()),()))
 (cond (((decide (c=c))&&(decide (0≤c)))&&(decide (c≤(lim:Int))))
   (some (((AB (⟨0,c,[],(List.replicate (Int.toNat 5) (Kd.dflt .lock)),[],(List.replicate (Int.toNat c) (Kd.dflt .int)),0,0,[]⟩:Sys)),true,()),()))
   (none)):Option ((Ap×Bool×Unit)×Unit))=some (MO c,()):=by
 unfold MO
 by_cases h:1≤c∧c≤4
 · have h1:0≤c:=by omega
   have h2:c≤(lim:Int):=by unfold lim;omega
   rw[decide_eq_true h,if_pos h,decide_eq_true h1,decide_eq_true h2,decide_eq_true (rfl:c=c)];rfl
 ·rw[decide_eq_false h,if_neg h];rfl
theorem sj(c:Int):OK c=some (MO c,()):=by
 unfold OK;rw[BV,Option.bind_some];exact d8 c
def CP(s:Sys):List Turn:=if s.Cpus<1 then[]else s.Trace.drop ((s.Trace.length:Int)-s.Cpus).toNat
theorem Ts{xs:List Turn}(h:xs.length≤lim):Fa xs=some (xs,()):=by
 unfold Fa;rw[decide_eq_true h];rfl
theorem dP{s:Sys}(hc:Cp s.Cpus)(hb:s.Trace.length≤10000000):(cond (decide (s.Cpus<1))
 (some ([],()))
 (let e1:=(if(w64 (((s.Trace).length:Int)-s.Cpus))>0 then(w64 (((s.Trace).length:Int)-s.Cpus))else 0)
  cond (((decide (0≤e1))&&(decide (e1≤((s.Trace).length:Int))))&&(decide (((s.Trace).length:Int)≤((s.Trace).length:Int))))
   ((Fa (List.drop (Int.toNat e1) (List.take (Int.toNat ((s.Trace).length:Int)) s.Trace))).bind fun r2=>
    some (r2.1,()))
   (none)):Option (List Turn×Unit))=some (CP s,()):=by
 unfold CP
 by_cases h:s.Cpus<1
 ·rw[decide_eq_true h,if_pos h];rfl
 · unfold Cp at hc
   have hw:w64 ((s.Trace.length:Int)-s.Cpus)=(s.Trace.length:Int)-s.Cpus:=AV (by omega) (by omega)
   rw[decide_eq_false h,if_neg h,cond_false,hw];have hr:(decide (((s.Trace).length:Int)≤((s.Trace).length:Int)))=true:=decide_eq_true (Int.le_refl _);have hlen: ∀k,(List.drop k (List.take (Int.toNat ((s.Trace).length:Int)) s.Trace)).length≤lim:=fun k=>by
    rw[List.length_drop,Int.toNat_natCast,List.take_length];unfold lim;omega
   by_cases hp:((s.Trace.length:Int)-s.Cpus)>0
   · simp only[if_pos hp,hr]
     rw[decide_eq_true (show 0≤(s.Trace.length:Int)-s.Cpus by omega),decide_eq_true (show(s.Trace.length:Int)-s.Cpus≤(s.Trace.length:Int) by omega),Bool.and_self,Bool.and_self,cond_true,Ts (hlen _),Option.bind_some,Int.toNat_natCast,List.take_length]
   · simp only[if_neg hp,hr]
     rw[decide_eq_true (Int.le_refl 0),decide_eq_true (show(0:Int)≤(s.Trace.length:Int) by omega),Bool.and_self,Bool.and_self,cond_true,Ts (hlen _),Option.bind_some,Int.toNat_natCast,List.take_length]
     rw[show((s.Trace.length:Int)-s.Cpus).toNat=0 by omega];rfl
theorem sY{s:Sys}(hc:Cp s.Cpus)(hb:s.Trace.length≤10000000):N9 s=some (CP s,()):=by
 unfold Cp at hc;have hmax: ∀a b:Int,C7 a b=some (max a b,()):=fun a b=>by
  unfold C7;rw[BT];split
  ·rw[Int.max_eq_left (by omega)]
  ·rw[Int.max_eq_right (by omega)]
 simp only[N9,hmax,Option.bind_some];have hw:w64 ((s.Trace.length:Int)-max s.Cpus 0)=(s.Trace.length:Int)-max s.Cpus 0:=AV (by omega) (by omega)
 rw[hw];have hr:(decide (((s.Trace).length:Int)≤((s.Trace).length:Int)))=true:=decide_eq_true (Int.le_refl _);rw[hr,decide_eq_true (show 0≤max ((s.Trace.length:Int)-max s.Cpus 0) 0 by omega),decide_eq_true (show max ((s.Trace.length:Int)-max s.Cpus 0) 0≤(s.Trace.length:Int) by omega),Bool.and_self,Bool.and_self,cond_true,Int.toNat_natCast,List.take_length]
 have hd:decide ((([]:List Turn)).length+((List.drop (Int.toNat (max ((s.Trace.length:Int)-max s.Cpus 0) 0)) s.Trace)).length≤lim)=true:=decide_eq_true (by rw[List.length_drop];unfold lim;simp;omega)
 rw[hd,cond_true];simp only[List.nil_append];unfold CP
 by_cases h:s.Cpus<1
 ·rw[if_pos h,show(max ((s.Trace.length:Int)-max s.Cpus 0) 0).toNat=s.Trace.length by omega,List.drop_length]
 ·rw[if_neg h,show(max ((s.Trace.length:Int)-max s.Cpus 0) 0).toNat=((s.Trace.length:Int)-s.Cpus).toNat by omega]
theorem dN(s:Sys):(CP s).length≤s.Trace.length:=by
 unfold CP;split
 ·exact Nat.zero_le _
 ·rw[List.length_drop];omega
theorem U2{s:Sys}(hc:Cp s.Cpus)(hb:s.Trace.length≤10000000):Ir s=some (CP s,()):=dP hc hb
end Go.Proofs.YthoholbeacojfaaGreat.VR
end
section
set_option linter.unusedVariables false
set_option linter.unusedSimpArgs false
namespace Go.Proofs.YthoholbeacojfaaGreat.VR
open Go
theorem ak:Qk=LF:=rfl
theorem bB:OO=EQ:=by
 funext n c code
 unfold OO EQ;have: ∀(m:Nat) (c:Cur) (a b:Sys) (k:Cur→List Turn→Option (Ap×B5×Unit)),Lo n m c a b k=Gt n m c a b k:=by
  intro m
  induction m with
  |zero=>intro c a b k;rfl
  |succ m ih=>intro c a b k;simp only[Lo,Gt,ih]
 simp only[this]
theorem si{s:Sys}{c:Call}{n:Nat}(h:SysB s)(hn:SN n):OJ n s c=some ((AB (Ad s c).1,(Ad s c).2,()),()):=by
 have hb:=h.small;have hbn:big<n:=by unfold SN at hn;omega
 unfold OJ Ad;rw[B3 h hn,ak];simp only[Option.bind_some,SW]
 by_cases hs:SysOk s
 · rw[decide_eq_true hs]
   simp only[Bool.not_true,cond_false];cases hc:BY c with
   |true=>
    rw[if_pos ⟨hs,rfl⟩];simp only[Bool.not_true,cond_false,KC hb hbn Dx,Option.bind_some,dnSys_up,Yc h hs hn hc]
    by_cases hz:(Bb s c).2=0
    ·rw[decide_eq_true hz];rfl
    ·rw[decide_eq_false hz,Pz hz];rfl
   |false=>rw[if_neg (fun q=>by cases q.2)];rfl
 ·rw[decide_eq_false hs,if_neg (fun q=>hs q.1)];rfl
theorem T3{c:Cur}{s:Sys}(h:CurOk c):Tot (LM c s) fun r=>CurOk (AD r.2.1):=by
 unfold LM;refine An (fun _=>BB h fun r hc _ _=>AX hc) (fun hb=> ?_)
 have hb:=of_decide_eq_false hb;refine KE h fun r hc=>An (fun _=>BB hc fun r hc _ _=>AX hc) (fun _=> ?_)
 refine BB hc fun r hc h0 h1=> ?_
 exact Am (Cd h0 (h1 (by omega))) (AX hc)
theorem aw{c:Cur}(h:CurOk c):Tot (LO c) fun r=>CurOk (AD r.2.1):=by
 unfold LO;refine HB h (by simp) fun r hc hm=>CA (KB ..) ?_
 repeat' first
  |with_reducible refine BB (by assumption) fun r hc h0 h1=> ?_
  |with_reducible refine HB (by assumption) (by simp) fun r hc hm=> ?_
  |with_reducible refine An (fun hb=> ?_) (fun hb=> ?_)
  |exact AX (by assumption)
theorem az{c:Cur}{x:Call}(h:CurOk c):Tot (OP c x) fun r=>CurOk (AD r.2.1):=by
 unfold OP
 repeat' first
  |with_reducible refine BB (by assumption) fun r hc h0 h1=> ?_
  |with_reducible refine HB (by assumption) (by simp) fun r hc hm=> ?_
  |with_reducible refine An (fun hb=> ?_) (fun hb=> ?_)
  |exact AX (by assumption)
def Few(c:Call):Prop:=c.Kind≤3→c.No≤12
theorem bl{k x p a b:Int}(h0:0≤x)(h1:(0:Int)<12→x<12):Few ⟨k,w64 (1+x),p,a,b⟩:=fun _=>by
 have:=h1 (by decide)
 show w64 (1+x)≤12;rw[AV (by omega) (by omega)];omega
theorem La{k x p a b:Int}(h:decide (k≤3)=false):Few ⟨k,x,p,a,b⟩:=fun q=>absurd q (of_decide_eq_false h)
theorem d9{β:Type}{n:Nat}{s:Sys}{x:Call}{a b:Int}{k0:Cur→Call→Option β}{k1:Cur→Option β}{Q:β→Prop}(hk0: ∀c no,CurOk c→Tot (k0 c ⟨5,no,0,0,0⟩) Q)(hk1: ∀c,CurOk c→Tot (k1 c) Q)
 (hs:s.Tasks.length≤20) {c:Cur} (hc:CurOk c) {m:Nat} (hm:20<m):Tot (Gs n m c s x a b 0 k0 k1) Q:=by
 have key:=HE (l:=fun m (p:Cur×Int)=>Gs n m p.1 s x a b p.2 k0 k1) (Q:=Q)
  (fun p=>(20-p.2).toNat) (fun p=>CurOk p.1∧0≤p.2∧p.2≤20) (fun m p ⟨q1,q2,q3⟩ ih=>by
    unfold Gs;refine An (fun hb=> ?_) (fun _=>hk1 _ q1)
    have hb:=of_decide_eq_true hb;have e2:w64 (p.2+1)=p.2+1:=AV (by omega) (by omega)
    refine Am (Cd q2 hb) ?_;dsimp only;rw[e2];have hi: ∀c,CurOk c→Tot (Gs n m c s x a b (p.2+1) k0 k1) Q:=fun c hc=>ih (c,p.2+1) ⟨hc,by simp only;omega,by simp only;omega⟩ (by simp only;omega)
    refine An (fun _=>KE q1 fun r hc=>An (fun _=>Am (Cd q2 hb) (hk0 _ _ hc)) (fun _=>hi _ hc)) (fun _=>hi _ q1))
 exact key m (c,0) ⟨hc,Int.le_refl _,by simp⟩ (by simp;omega)
theorem T1{c:Cur}{s:Sys}{n:Nat}(h:CurOk c)(hs:s.Tasks.length≤20)(hn:21<n):Tot (LG n c s) fun r=>CurOk (AD r.2.1)∧Few (Ar r.1):=by
 unfold LG;refine A1 (T3 h) fun r1 hc=>CA (KB ..) (BB hc fun r3 hc _ _=> ?_)
 have hnew: ∀(c:Cur),CurOk c→ ∀(x:Int),0≤x→((0:Int)<12→x<12)→Tot ((AU c 4).bind fun r5=>
  cond (decide (r5.1=0))
   ((AU (AD r5.2.1) 9).bind fun r6=>
    (AU (AD r6.2.1) (w64 (Int.tdiv (w64 (2+r6.1)) 2))).bind fun r7=>
    some ((As (⟨1,(w64 (1+x)),r3.1,(w64 (1+r7.1)),(w64 (2+r6.1))⟩:Call)),(AP (AD r7.2.1)),()))
   (cond (decide (r5.1=1))
     ((AU (AD r5.2.1) 9).bind fun r8=>
      (AU (AD r8.2.1) (w64 (Int.tdiv (w64 (2+r8.1)) 2))).bind fun r9=>
      some ((As (⟨1,(w64 (1+x)),r3.1,(w64 (1+r9.1)),(w64 (2+r8.1))⟩:Call)),(AP (AD r9.2.1)),()))
     (cond (decide (r5.1=2))
       ((AU (AD r5.2.1) 3).bind fun r10=>
        (AU (AD r10.2.1) 4).bind fun r11=>
        some ((As (⟨2,(w64 (1+x)),r3.1,(w64 (1+r10.1)),r11.1⟩:Call)),(AP (AD r11.2.1)),()))
       ((AU (AD r5.2.1) 9).bind fun r12=>
        some ((As (⟨3,(w64 (1+x)),r3.1,(w64 (r12.1-4)),0⟩:Call)),(AP (AD r12.2.1)),()))))) fun r=>CurOk (AD r.2.1)∧Few (Ar r.1):=fun c hc x x0 x1=>by
  repeat' first
   |with_reducible refine BB (by assumption) fun r hc h0 h1=> ?_
   |with_reducible refine An (fun hb=> ?_) (fun hb=> ?_)
   |exact AX ⟨by assumption,bl x0 x1⟩
 refine An (fun _=>BB hc fun r4 hc a0 a1=>hnew _ hc _ a0 a1) (fun _=>KE hc fun r13 hc=>An (fun _=>BB hc fun r14 hc a0 a1=>hnew _ hc _ a0 a1) (fun _=> ?_))
 have hlk: ∀(c:Cur),CurOk c→Tot ((AU c 3).bind fun r38=>
              cond (decide (3<((s.Locks).length:Int)))
               (cond ((decide (0≤r38.1))&&(decide (r38.1<((s.Locks).length:Int))))
                 (cond (decide (0<(List.getD s.Locks (Int.toNat r38.1) (Kd.dflt .lock)).Owner))
                   (cond ((decide (0≤r38.1))&&(decide (r38.1<((s.Locks).length:Int))))
                     (some ((As (⟨8,(List.getD s.Locks (Int.toNat r38.1) (Kd.dflt .lock)).Owner,0,r38.1,0⟩:Call)),(AP (AD r38.2.1)),()))
                     (none))
                   (some ((As (⟨8,r1.1,0,r38.1,0⟩:Call)),(AP (AD r38.2.1)),())))
                 (none))
               (some ((As (⟨8,r1.1,0,r38.1,0⟩:Call)),(AP (AD r38.2.1)),()))) fun r=>CurOk (AD r.2.1)∧Few (Ar r.1):=fun c hc=>by
  refine BB hc fun r hc h0 h1=>An (fun hb=> ?_) (fun _=>AX ⟨hc,La rfl⟩)
  have hx:r.1<(s.Locks.length:Int):=by have:=of_decide_eq_true hb;have:=h1 (by decide);omega
  exact Am (Cd h0 hx) (An (fun _=>Am (Cd h0 hx) (AX ⟨hc,La rfl⟩)) (fun _=>AX ⟨hc,La rfl⟩))
 refine d9 ?_ (fun w33 hw=> ?_) hs hc ?_
 ·exact fun c no hc=>AX ⟨hc,La rfl⟩
 rotate_left
 ·omega
 dsimp only
 repeat' first
  |with_reducible exact hlk _ (by assumption)
  |with_reducible refine BB (by assumption) fun r hc h0 h1=> ?_
  |with_reducible refine An (fun hb=> ?_) (fun hb=> ?_)
  |exact AX ⟨by assumption,La rfl⟩
end Go.Proofs.YthoholbeacojfaaGreat.VR
end
section
set_option linter.unusedVariables false
set_option linter.unusedSimpArgs false
namespace Go.Proofs.YthoholbeacojfaaGreat.VR
open Go
structure DB(s:Sys):Prop where
 tasks:s.Tasks.length≤20
 locks:s.Locks.length≤6
 waits:(AT s.Locks).length≤3000
 ghosts:s.Ghosts.length≤20
 floors:s.Floors.length≤5
 trace:s.Trace.length≤500
 cpus:0≤s.Cpus∧s.Cpus≤10
theorem DB.b{s:Sys}(h:DB s):SysB s:=by
 have h1:=h.tasks;have h2:=h.locks;have h3:=h.waits;have h4:=h.ghosts;have h5:=h.floors;have h6:=h.trace;have hb:(3000:Nat)≤big:=by unfold big;omega
 exact⟨⟨by omega,⟨by omega,by omega⟩⟩,⟨by omega,by omega,fun k hk=>by have:=Dd hk;omega,by omega,by omega,by omega⟩⟩
theorem SysOk.db{s:Sys}(h:SysOk s):DB s:=by
 have h1:=h.bd.2;have h2:=h.cpus;have:=h1.locks;have:=h1.floors;have:=h1.trace;exact⟨h1.tasks,by omega,h1.waits,h1.ghosts,by omega,by omega,by omega⟩
theorem dw(c:Int):NumInv (Do c):=⟨fun t ht=>(by cases ht),fun u hu=>(by cases hu)⟩
theorem tQ{c:Int}(h:1≤c∧c≤4):MO c=(AB (Do c),true,()):=by unfold MO;rw[if_pos h];rfl
theorem bD{β:Type}{n:Nat}{N a b d e:Int}{k:Cur→Int→Int→Int→Int→List Call→List Task→List Lock→List Ghost→List Int→List Turn→Option β}{Q:β→Prop}(hn:SN n)(hN:N≤200)
 (hk: ∀(c:Cur) (s:Sys) (l:List Call),CurOk c→Played s→NumInv s→Tot (k c s.Now s.Cpus s.Seq s.Missed l s.Tasks s.Locks s.Ghosts s.Floors s.Trace) Q) {c:Cur} {v5 v6 s:Sys} {m:Nat} (hc:CurOk c) (hp:Played s) (hq:NumInv s) (hm:200<m):
 Tot (H6 n m c v5 v6 a b d e s [] N 0 k) Q:=by
 have hlim:1000≤lim:=by unfold lim;omega
 have hn2:21<n:=by have e:big=1048576:=rfl;unfold SN at hn;omega
 have key:=HE (l:=fun m (p:Cur×Sys×Sys×Sys×List Call×Int)=>H6 n m p.1 p.2.1 p.2.2.1 a b d e p.2.2.2.1 p.2.2.2.2.1 N p.2.2.2.2.2 k) (Q:=Q)
  (fun p=>(200-p.2.2.2.2.2).toNat) (fun p=>CurOk p.1∧Played p.2.2.2.1∧NumInv p.2.2.2.1∧(p.2.2.2.2.1.length:Int)=p.2.2.2.2.2∧p.2.2.2.2.2≤200) (fun m p ⟨q1,q2,q3,q4,q5⟩ ih=>by
    obtain⟨c,v5,v6,s,l,i⟩:=p;dsimp only at*;unfold H6;refine An (fun hb=> ?_) (fun _=>hk _ _ _ q1 q2 q3)
    have hb:=of_decide_eq_true hb;have e2:w64 (i+1)=i+1:=AV (by omega) (by omega)
    have ht:=q2.ok.tasks.len;refine A1 (T1 q1 (by omega) hn2) fun r ⟨hc,hf⟩=> ?_
    refine Am (decide_eq_true (by simp only[List.length_cons,List.length_nil];omega)) ?_
    refine CA (si q2.ok.db.b hn) ?_;rw[e2];have hl:((l++[Ar r.1]).length:Int)=i+1:=by rw[List.length_append];simp;omega
    refine An (fun hd=> ?_) (fun _=> ?_)
    · have hd:=of_decide_eq_true hd
      obtain⟨g1,g2⟩:=fP q2 hd;exact ih (AD r.2.1,_,_,(Ad s (Ar r.1)).1,_,i+1) ⟨hc,g2,eE q2.ok q3 g1 hf,hl,by dsimp only;omega⟩ (by dsimp only;omega)
    ·exact ih (AD r.2.1,_,_,s,_,i+1) ⟨hc,q2,q3,hl,by dsimp only;omega⟩ (by dsimp only;omega))
 exact key m (c,v5,v6,s,[],0) ⟨hc,hp,hq,rfl,by simp⟩ (by simp;omega)
theorem av{c:Cur}{n:Nat}{most:Int}(h:CurOk c)(h0:0≤most)(h1:most≤200)(hn:SN n):Tot (LH n c most) fun r=>CurOk (AD r.2.1)∧Played (AA r.1.2.2.1)∧NumInv (AA r.1.2.2.1):=by
 unfold LH;refine BB h fun r1 hc a0 a1=> ?_
 have a1:=a1 (by decide)
 have e1:w64 (1+r1.1)=1+r1.1:=AV (by omega) (by omega)
 have e2:w64 (most+1)=most+1:=AV (by omega) (by omega)
 refine CA (sj _) ?_;rw[e1,tQ ⟨by omega,by omega⟩,e2]
 refine BB hc fun r3 hc b0 b1=> ?_
 have b1:=b1 (by omega)
 exact bD hn (by omega) (fun c s l hc hp hq=>AX ⟨hc,hp,hq⟩) hc (dz (cpus:=1+r1.1) ⟨by omega,by omega⟩) (dw (1+r1.1)) (by have e:big=1048576:=rfl;unfold SN at hn;omega)
theorem dX{code:List Int}{a b:Int}(hb:code.length≤big)(h0:0≤a∧a≤1000)(h1:0≤b): ∃v,LP code a b=some (v,())∧0≤v∧v≤b:=by
 have e:big=1048576:=rfl;have hq:0≤Int.tdiv (code.length:Int) 4∧Int.tdiv (code.length:Int) 4≤(code.length:Int):=by
  rw[Int.tdiv_eq_ediv_of_nonneg (by omega)];omega
 have e1:w64 (Int.tdiv (code.length:Int) 4)=Int.tdiv (code.length:Int) 4:=AV (by omega) (by omega)
 have e2:w64 (a+Int.tdiv (code.length:Int) 4)=a+Int.tdiv (code.length:Int) 4:=AV (by omega) (by omega)
 unfold LP;rw[e1,e2];dsimp only
 by_cases h:b<a+Int.tdiv (code.length:Int) 4
 ·rw[decide_eq_true h];exact⟨b,rfl,h1,Int.le_refl _⟩
 ·rw[decide_eq_false h];exact⟨_,rfl,by omega,by omega⟩
theorem uL{β:Type}{n:Nat}{k:Cur→List Turn→Option β}{Q:β→Prop}(hk: ∀c l,CurOk c→l.length≤402→Tot (k c l) Q){c:Cur}{v s:Sys}{m:Nat}(hc:CurOk c)(hs:s.Trace.length≤400)(hm:403<m):
 Tot (Gt n m c v s k) Q:=by
 have hlim:1000≤lim:=by unfold lim;omega
 have key:=HE (l:=fun m (p:Cur×Sys×Sys)=>Gt n m p.1 p.2.1 p.2.2 k) (Q:=Q)
  (fun p=>402-p.2.2.Trace.length) (fun p=>CurOk p.1∧p.2.2.Trace.length≤402) (fun m p ⟨q1,q2⟩ ih=>by
    obtain⟨c,v,s⟩:=p;dsimp only at*;unfold Gt;refine BB q1 fun r hc a0 a1=> ?_
    have a1:=a1 (by decide)
    have e1:w64 (400+r.1)=400+r.1:=AV (by omega) (by omega)
    rw[e1];refine An (fun hb=> ?_) (fun _=>hk _ _ hc q2)
    have hb:=of_decide_eq_true hb;refine Am (decide_eq_true (by simp only[List.length_cons,List.length_nil];omega)) ?_
    exact ih (AD r.2.1,_,_) ⟨hc,by simp only[List.length_append,List.length_cons,List.length_nil];omega⟩ (by simp only[List.length_append,List.length_cons,List.length_nil];omega))
 exact key m (c,v,s) ⟨hc,by dsimp only;omega⟩ (by dsimp only;omega)
theorem HP{c:Cur}{code:List Int}{n:Nat}(h:CurOk c)(hb:code.length≤big)(hn:SN n):Tot (EQ n c code) fun r=>CurOk (AD r.2.1)∧DB (AA r.1):=by
 have eb:big=1048576:=rfl;have hn2:2000<n:=by unfold SN at hn;omega
 have hlim:1000≤lim:=by unfold lim;omega
 obtain⟨v,e1,v0,v1⟩:=dX (a:=30) (b:=80) hb (by decide) (by decide)
 unfold EQ;refine CA e1 (A1 (av h v0 (by omega) hn) fun r2 ⟨hc,hp,_⟩=> ?_)
 have hdb:=hp.ok.db;have hok:=hp.ok.bd;have hcp:=hp.ok.cpus;generalize AA r2.1.2.2.1=s at*;obtain⟨d1,d2,d3,d4,d5,d6,d7⟩:=hdb;have b1:=hok.1;have b2:=hok.2.floors;have b3:=hok.2.trace;refine BB hc fun r3 hc _ _=> ?_
 refine An (fun _=>HB hc (by simp) fun r hc _=>AX ⟨hc,⟨d1,d2,d3,d4,d5,d6,d7⟩⟩) (fun _=> ?_)
 refine An (fun _=>A1 (ar hc (by omega)) fun r ⟨hc,hl⟩=>AX ⟨hc,⟨by show r.1.length≤20;omega,d2,d3,d4,d5,d6,d7⟩⟩) (fun _=> ?_)
 refine An (fun _=>A1 (ao hc hn2) fun r ⟨hc,hl,hw⟩=>AX ⟨hc,⟨d1,hl,by show(AT r.1).length≤3000;omega,d4,d5,d6,d7⟩⟩) (fun _=> ?_)
 refine An (fun _=>BB hc fun r hc _ _=>A1 (aw hc) fun r hc=>BB hc fun r hc _ _=> ?_) (fun _=> ?_)
 · dsimp only
   exact Am (decide_eq_true (by simp only[List.length_cons,List.length_nil];omega)) (AX ⟨hc,⟨d1,d2,d3,by simp only[dnSys_up,List.length_append,List.length_cons,List.length_nil];omega,d5,d6,d7⟩⟩)
 refine An (fun _=>Am (decide_eq_true (by simp only[List.length_cons,List.length_nil];omega)) (AX ⟨hc,⟨d1,d2,d3,d4,by simp only[dnSys_up,List.length_append,List.length_cons,List.length_nil];omega,d6,d7⟩⟩)) (fun _=> ?_)
 refine An (fun _=>HB hc (by simp) fun r hc _=>AX ⟨hc,⟨d1,d2,d3,d4,d5,d6,d7⟩⟩) (fun _=> ?_)
 refine An (fun _=>HB hc (by simp) fun r hc _=>AX ⟨hc,⟨d1,d2,d3,d4,d5,d6,d7⟩⟩) (fun _=> ?_)
 refine An (fun _=>uL (fun c l hc hl=>AX ⟨hc,⟨d1,d2,d3,d4,d5,by show l.length≤500;omega,d7⟩⟩) hc b3 (by omega)) (fun _=> ?_)
 refine An (fun _=>BB hc fun r hc a0 a1=>AX ⟨hc,⟨d1,d2,d3,d4,d5,d6,?_⟩⟩) (fun _=> ?_)
 · have a1:=a1 (by decide)
   show 0≤r.1∧r.1≤10;omega
 refine An (fun _=>An (fun hp=> ?_) (fun _=>AX ⟨hc,⟨d1,d2,d3,d4,d5,d6,d7⟩⟩)) (fun _=>AX ⟨hc,⟨d1,d2,d3,d4,d5,d6,d7⟩⟩)
 have hp:=of_decide_eq_true hp;refine BB hc fun r hc a0 a1=>A1 (Tz hc) fun r2 hc=>Am (Cd a0 (a1 (by omega))) ?_
 have a1:=a1 (by omega)
 refine Am (decide_eq_true (by omega)) ?_
 exact AX ⟨hc,⟨by simp only[dnSys_up,List.length_set];omega,d2,d3,d4,d5,d6,d7⟩⟩
end Go.Proofs.YthoholbeacojfaaGreat.VR
end
section
set_option linter.unusedVariables false
set_option maxRecDepth 100000
namespace Go.Proofs.YthoholbeacojfaaGreat.VR
open Go
def JN{α:Type}(n:Nat):Nat→Sys→Call→Sys→Int→(Option α)→(Option α)→Option α|0,_,_,_,_,_,_=>none|m0+1,v9,v10,v11,v12,k0_0,k0_1=>cond (decide (v12<(v9.Tasks.length:Int))) (cond (decide (0≤v12)&&decide (v12<(v9.Tasks.length:Int))) ((Bu n v11.Tasks ((List.getD v9.Tasks (Int.toNat v12) (Kd.dflt .task)).No)).bind fun r13=>cond (decide (r13.1<0)) k0_0 (cond (decide (0≤r13.1)&&decide (r13.1<(v11.Tasks.length:Int))) (cond (decide (0≤v12)&&decide (v12<(v9.Tasks.length:Int))) (let e14:=(!((decide ((List.getD v11.Tasks (Int.toNat r13.1) (Kd.dflt .task)).No=(List.getD v9.Tasks (Int.toNat v12) (Kd.dflt .task)).No))&&((decide ((List.getD v11.Tasks (Int.toNat r13.1) (Kd.dflt .task)).Class=(List.getD v9.Tasks (Int.toNat v12) (Kd.dflt .task)).Class))&&((decide ((List.getD v11.Tasks (Int.toNat r13.1) (Kd.dflt .task)).Cpu=(List.getD v9.Tasks (Int.toNat v12) (Kd.dflt .task)).Cpu))&&((decide ((List.getD v11.Tasks (Int.toNat r13.1) (Kd.dflt .task)).State=(List.getD v9.Tasks (Int.toNat v12) (Kd.dflt .task)).State))&&(((List.getD v11.Tasks (Int.toNat r13.1) (Kd.dflt .task)).Idle==(List.getD v9.Tasks (Int.toNat v12) (Kd.dflt .task)).Idle)&&((decide ((List.getD v11.Tasks (Int.toNat r13.1) (Kd.dflt .task)).Q=(List.getD v9.Tasks (Int.toNat v12) (Kd.dflt .task)).Q))&&((decide ((List.getD v11.Tasks (Int.toNat r13.1) (Kd.dflt .task)).P=(List.getD v9.Tasks (Int.toNat v12) (Kd.dflt .task)).P))&&((decide ((List.getD v11.Tasks (Int.toNat r13.1) (Kd.dflt .task)).Left=(List.getD v9.Tasks (Int.toNat v12) (Kd.dflt .task)).Left))&&((decide ((List.getD v11.Tasks (Int.toNat r13.1) (Kd.dflt .task)).Due=(List.getD v9.Tasks (Int.toNat v12) (Kd.dflt .task)).Due))&&((decide ((List.getD v11.Tasks (Int.toNat r13.1) (Kd.dflt .task)).Prio=(List.getD v9.Tasks (Int.toNat v12) (Kd.dflt .task)).Prio))&&((decide ((List.getD v11.Tasks (Int.toNat r13.1) (Kd.dflt .task)).Round=(List.getD v9.Tasks (Int.toNat v12) (Kd.dflt .task)).Round))&&((decide ((List.getD v11.Tasks (Int.toNat r13.1) (Kd.dflt .task)).Seq=(List.getD v9.Tasks (Int.toNat v12) (Kd.dflt .task)).Seq))&&((decide ((List.getD v11.Tasks (Int.toNat r13.1) (Kd.dflt .task)).Nice=(List.getD v9.Tasks (Int.toNat v12) (Kd.dflt .task)).Nice))&&((decide ((List.getD v11.Tasks (Int.toNat r13.1) (Kd.dflt .task)).V=(List.getD v9.Tasks (Int.toNat v12) (Kd.dflt .task)).V))&&true)))))))))))))));cond e14 k0_0 (JN n m0 v9 v10 v11 (w64 (v12+1)) k0_0 k0_1)) none) none)) none) k0_1
def NV(n:Nat)(a0:List Int):Option (Bool×Unit):=(Dm a0).bind fun r1=>cond r1.1 (some (true,())) ((GP n a0).bind fun r2=>(D2 n (AA r2.1.1) (Ar r2.1.2.1)).bind fun r3=>(Hc n (AA r2.1.1) (Ar r2.1.2.1)).bind fun r4=>cond (!(decide (r3.1.2.1=r4.1.2.1))) (some (false,())) (cond (!(decide (r3.1.2.1=0))) (some (true,())) (cond (decide (3<(Ar r2.1.2.1).Kind)) (some (true,())) ((Bu n ((AA r3.1.1).Tasks) ((Ar r2.1.2.1).No)).bind fun r5=>cond (decide (r5.1<0)) (some (false,())) (cond ((decide (0≤r5.1))&&(decide (r5.1<(((AA r3.1.1).Tasks).length:Int)))) (let e6:=(List.getD (AA r3.1.1).Tasks (Int.toNat r5.1) (Kd.dflt .task)).Cpu;cond (!(decide (e6=(Ar r2.1.2.1).Cpu))) (some (false,())) (cond ((decide (0≤r5.1))&&(decide (r5.1<(((AA r3.1.1).Tasks).length:Int)))) (let e7:=(List.getD (AA r3.1.1).Tasks (Int.toNat r5.1) (Kd.dflt .task)).Class;cond (!(decide (e7=(Ar r2.1.2.1).Kind))) (some (false,())) (cond ((decide (0≤r5.1))&&(decide (r5.1<(((AA r3.1.1).Tasks).length:Int)))) (let e8:=(List.getD (AA r3.1.1).Tasks (Int.toNat r5.1) (Kd.dflt .task)).State;cond (!(decide (e8=1))) (some (false,())) (JN n n (AA r2.1.1) (Ar r2.1.2.1) (AA r3.1.1) 0 (some (false,())) ((D2 n (AA r3.1.1) (Ar r2.1.2.1)).bind fun r15=>cond (decide (r15.1.2.1=3)) (let e16:=(decide ((((AA r3.1.1).Tasks).length:Int)=(w64 ((((AA r2.1.1).Tasks).length:Int)+1))));some (e16,())) (some (false,()))))) none)) none)) none)))))
def jx(n:Nat):Rw:=⟨11,pV [.rog .u8],pS [.bool],fun x=>NV n x.1⟩
def qI(n:Nat):LS:=AN ⟨14,[3,4,5,10],[],[],[2,3,4,5],[0,1,2,4]⟩ 130 [3,4,5,10] 11143 (pD [.ptr 0 0,.ptr 1 0,.ptr 2 0,.int]) [q68,.box IZ,q68] (fun m x k=>JN n m (AA x.2.1) (Ar x.2.2.1) (AA x.2.2.2.1) x.1.2.2.2.1 (k .ret (eS 130 [2,3,4,5] [.bool false,.ptr 0 0,.ptr 1 0,.ptr 2 0] 11143 [DE.make q68 x.2.1,.box (IZ.make x.2.2.1),DE.make q68 x.2.2.2.1])) (k (.exit 0) (eS 130 [3,4,5] [.ptr 0 0,.ptr 1 0,.ptr 2 0] 11143 [DE.make q68 x.2.1,.box (IZ.make x.2.2.1),DE.make q68 x.2.2.2.1])))
theorem jy(n:Nat):RO (jx n):=
 rL ⟨Go.Proofs.Tryz.f11,⟨[(1,[(1,cl 1 .bool 0)]),(3,[(1,L3),(5,.slot 0 .int),(6,.slot 1 .int)]),(4,[(2,C3),(6,.slot 2 .int)]),(5,[(2,C3),(6,.slot 3 .int)]),(10,[(4,cl 2 .int 0)]),(16,[(8,cl 2 .int 0)]),(19,[(2,C3),(6,.slot 4 .int)])],[(11,dr 33 [(3,[2],[]),(4,[2],[]),(9,[1],[]),(10,[1],[]),(14,[2],[]),(15,[2],[]),(20,[1],[]),(21,[1],[]),(25,[2],[]),(26,[2],[])]),(16,dr 10 [(0,[2],[]),(1,[2],[]),(2,[0],[]),(3,[0],[])]),(17,dr 15 [(3,[2],[]),(4,[2],[]),(8,[0],[]),(9,[0],[])])],[]⟩,5⟩ [qI n] n (ec FM (ec (L9 n) (ec (L5 n) (ec (PD n) (ec (DM n) en))))) Go.Proofs.Tryz.func11 (by kernel_rfl) ⟨AO (fun m x k=>by kernel_rfl) (fun _ _=>rfl),trivial⟩ (fun x=>by kernel_rfl)
def QS(a0:Turn)(a1_0:Int):Option (Bool×Unit):=some ((decide (a0.Context=a1_0)),())
def ir:Rw:=⟨135,pV [TC,.rp (pD [.int]) 0],pS [.bool],fun x=>QS (P8 x.1) x.2.1.1⟩
theorem it:RO (ir):=
 rE ⟨Go.Proofs.Tryz.f135,⟨[(0,[(0,.slot 0 .int)])],[],[]⟩,1⟩ 0 en Go.Proofs.Tryz.func135 (by kernel_rfl) (fun x=>by kernel_rfl)
def Hv{α:Type}(n:Nat):Nat→Int→Int→List Turn→Int→Int→(Int→Option α)→Option α|0,_,_,_,_,_,_=>none|m0+1,v1,v2,v3,v4,v5,k0_0=>cond (decide (v5<v4)) (cond (decide (0≤v5)&&decide (v5<(v3.length:Int))) ((QS (List.getD v3 (Int.toNat v5) (Kd.dflt .turn)) v1).bind fun r6=>cond r6.1 (Hv n m0 v1 (w64 (v2+1)) v3 v4 (w64 (v5+1)) k0_0) (Hv n m0 v1 v2 v3 v4 (w64 (v5+1)) k0_0)) none) (k0_0 v2)
def NO(n:Nat)(a0:List Turn)(a1_0_0:Int):Option (Int×Unit):=Hv n n a1_0_0 0 a0 (a0.length:Int) 0 (fun w7=>some (w7,()))
def ji(n:Nat):Rw:=⟨134,pV [.ro .turn,.clo 135 (pD [.rp (pD [.int]) 0])],pS [.int],fun x=>NO n x.1.2 x.2.1.1.1⟩
def qC(n:Nat):LS:=AN ⟨3,Wr,[],[0],[5],[0]⟩ 21 [1,5,8,9,10] 3 (pD [.clo 135 (pD [.rp (pD [.int]) 0]),.int,.ro .turn,.int,.int]) [] (fun m x k=>Hv n m x.1.1.1.1 x.1.2.1 x.1.2.2.1.2 x.1.2.2.2.1 x.1.2.2.2.2.1 (fun w0=>k (.exit 0) (eS 21 [5] [.int w0] 3 [])))
theorem jj(n:Nat):RO (ji n):=
 rL ⟨Go.Proofs.Tryz.f134,⟨[(4,[(2,.slot 0 .int)]),(5,[(2,cl 1 .bool 0)])],[],[]⟩,1⟩ [qC n] n (ec it en) Go.Proofs.Tryz.func134 (by kernel_rfl) ⟨AO (fun m x k=>by kernel_rfl) (fun _ _=>rfl),trivial⟩ (fun x=>by kernel_rfl)
def NE(n:Nat)(a0:List Turn)(a1:Int):Option (Int×Unit):=cond (decide (a1<1)) (some (0,())) ((NO n a0 a1).bind fun r1=>some (r1.1,()))
def iq(n:Nat):Rw:=⟨55,pV [.ro .turn,.int],pS [.int],fun x=>NE n x.1.2 x.2.1⟩
theorem iu(n:Nat):RO (iq n):=
 rE ⟨Go.Proofs.Tryz.f55,⟨[(0,[(0,.slot 0 .int)]),(3,[(2,cl 2 .int 0)])],[],[]⟩,1⟩ n (ec (jj n) en) Go.Proofs.Tryz.func55 (by kernel_rfl) (fun x=>by kernel_rfl)
def QR(a0:Turn)(a1_0:Int):Option (Bool×Unit):=some ((decide (a0.Executor=a1_0)),())
def im:Rw:=⟨136,pV [TC,.rp (pD [.int]) 0],pS [.bool],fun x=>QR (P8 x.1) x.2.1.1⟩
theorem io:RO (im):=
 rE ⟨Go.Proofs.Tryz.f136,⟨[(0,[(0,.slot 0 .int)])],[],[]⟩,1⟩ 0 en Go.Proofs.Tryz.func136 (by kernel_rfl) (fun x=>by kernel_rfl)
def Hu{α:Type}(n:Nat):Nat→Int→Int→List Turn→Int→Int→(Int→Option α)→Option α|0,_,_,_,_,_,_=>none|m0+1,v1,v2,v3,v4,v5,k0_0=>cond (decide (v5<v4)) (cond (decide (0≤v5)&&decide (v5<(v3.length:Int))) ((QR (List.getD v3 (Int.toNat v5) (Kd.dflt .turn)) v1).bind fun r6=>cond r6.1 (Hu n m0 v1 (w64 (v2+1)) v3 v4 (w64 (v5+1)) k0_0) (Hu n m0 v1 v2 v3 v4 (w64 (v5+1)) k0_0)) none) (k0_0 v2)
def NN(n:Nat)(a0:List Turn)(a1_0_0:Int):Option (Int×Unit):=Hu n n a1_0_0 0 a0 (a0.length:Int) 0 (fun w7=>some (w7,()))
def jg(n:Nat):Rw:=⟨134,pV [.ro .turn,.clo 136 (pD [.rp (pD [.int]) 0])],pS [.int],fun x=>NN n x.1.2 x.2.1.1.1⟩
def qB(n:Nat):LS:=AN ⟨3,Wr,[],[0],[5],[0]⟩ 21 [1,5,8,9,10] 3 (pD [.clo 136 (pD [.rp (pD [.int]) 0]),.int,.ro .turn,.int,.int]) [] (fun m x k=>Hu n m x.1.1.1.1 x.1.2.1 x.1.2.2.1.2 x.1.2.2.2.1 x.1.2.2.2.2.1 (fun w0=>k (.exit 0) (eS 21 [5] [.int w0] 3 [])))
theorem jh(n:Nat):RO (jg n):=
 rL ⟨Go.Proofs.Tryz.f134,⟨[(4,[(2,.slot 0 .int)]),(5,[(2,cl 1 .bool 0)])],[],[]⟩,1⟩ [qB n] n (ec io en) Go.Proofs.Tryz.func134 (by kernel_rfl) ⟨AO (fun m x k=>by kernel_rfl) (fun _ _=>rfl),trivial⟩ (fun x=>by kernel_rfl)
def ND(n:Nat)(a0:List Turn)(a1:Int):Option (Int×Unit):=cond (decide (a1<1)) (some (0,())) ((NN n a0 a1).bind fun r1=>some (r1.1,()))
def il(n:Nat):Rw:=⟨63,pV [.ro .turn,.int],pS [.int],fun x=>ND n x.1.2 x.2.1⟩
theorem ip(n:Nat):RO (il n):=
 rE ⟨Go.Proofs.Tryz.f63,⟨[(0,[(0,.slot 0 .int)]),(3,[(2,cl 2 .int 0)])],[],[]⟩,1⟩ n (ec (jh n) en) Go.Proofs.Tryz.func63 (by kernel_rfl) (fun x=>by kernel_rfl)
def NX(n:Nat)(a0:List Int):Option (Bool×Unit):=(Dm a0).bind fun r1=>cond r1.1 (some (true,())) ((GP n a0).bind fun r2=>(CV n (AA r2.1.1)).bind fun r3=>(Bf n (AA r2.1.1)).bind fun r4=>cond (!(r3.1==r4.1)) (some (false,())) ((Bf n (AA r2.1.1)).bind fun r5=>cond (!r5.1) (some (true,())) (cond (decide ((((AA r2.1.1).Tasks).length:Int)=0)) (some (true,())) ((K0 a0 1).bind fun r6=>cond (decide ((((AA r2.1.1).Tasks).length:Int)=0)) none (cond ((decide (0≤(Int.tmod r6.1 (((AA r2.1.1).Tasks).length:Int))))&&(decide ((Int.tmod r6.1 (((AA r2.1.1).Tasks).length:Int))<(((AA r2.1.1).Tasks).length:Int)))) (let e7:=(List.getD (AA r2.1.1).Tasks (Int.toNat (Int.tmod r6.1 (((AA r2.1.1).Tasks).length:Int))) (Kd.dflt .task)).No;(D2 n (AA r2.1.1) (⟨4,e7,0,0,0⟩:Call)).bind fun r8=>(Hc n (AA r2.1.1) (⟨4,e7,0,0,0⟩:Call)).bind fun r9=>cond (!(decide (r8.1.2.1=r9.1.2.1))) (some (false,())) (cond (!(decide (r8.1.2.1=0))) ((Dk n ((AA r2.1.1).Locks) e7).bind fun r10=>cond (decide (0≤r10.1)) (some (true,())) ((Bu n ((AA r2.1.1).Tasks) e7).bind fun r11=>cond ((decide (0≤r11.1))&&(decide (r11.1<(((AA r2.1.1).Tasks).length:Int)))) (let e12:=(List.getD (AA r2.1.1).Tasks (Int.toNat r11.1) (Kd.dflt .task)).State;some ((decide (e12=2)),())) none)) ((D2 n (AA r8.1.1) (⟨4,e7,0,0,0⟩:Call)).bind fun r13=>(FY n (AA r8.1.1) 3).bind fun r14=>(D2 n (AA r8.1.1) (⟨5,e7,0,0,0⟩:Call)).bind fun r15=>cond (decide (r13.1.2.1=5)) (cond (((decide (0≤(((AA r8.1.1).Trace).length:Int)))&&(decide ((((AA r8.1.1).Trace).length:Int)≤(((AA r14.1.1).Trace).length:Int))))&&(decide ((((AA r14.1.1).Trace).length:Int)≤(((AA r14.1.1).Trace).length:Int)))) ((NE n (List.drop (Int.toNat (((AA r8.1.1).Trace).length:Int)) (List.take (Int.toNat (((AA r14.1.1).Trace).length:Int)) (AA r14.1.1).Trace)) e7).bind fun r16=>cond (decide (r16.1=0)) (cond (((decide (0≤(((AA r8.1.1).Trace).length:Int)))&&(decide ((((AA r8.1.1).Trace).length:Int)≤(((AA r14.1.1).Trace).length:Int))))&&(decide ((((AA r14.1.1).Trace).length:Int)≤(((AA r14.1.1).Trace).length:Int)))) ((ND n (List.drop (Int.toNat (((AA r8.1.1).Trace).length:Int)) (List.take (Int.toNat (((AA r14.1.1).Trace).length:Int)) (AA r14.1.1).Trace)) e7).bind fun r17=>cond (decide (r17.1=0)) (cond (decide (r14.1.2.1≤3)) (cond (decide (r15.1.2.1=0)) ((Iz n ((AA r15.1.1).Tasks) ((AA r2.1.1).Tasks)).bind fun r18=>some (r18.1,())) (some (false,()))) (some (false,()))) (some (false,()))) none) (some (false,()))) none) (some (false,()))))) none)))))
def j4(n:Nat):Rw:=⟨12,pV [.rog .u8],pS [.bool],fun x=>NX n x.1⟩
theorem j5(n:Nat):RO (j4 n):=
 rE ⟨Go.Proofs.Tryz.f12,⟨[(1,[(1,cl 1 .bool 0)]),(3,[(1,L3),(5,.slot 0 .int),(6,.slot 1 .int)]),(4,[(1,cl 1 .bool 0),(3,cl 1 .bool 0)]),(6,[(1,cl 1 .bool 0)]),(8,[(3,cl 2 .int 0)]),(9,[(3,C3),(7,.slot 2 .int)]),(10,[(3,C3),(7,.slot 3 .int)]),(14,[(3,cl 2 .int 0),(11,cl 2 .int 0)]),(15,[(3,C3),(7,.slot 4 .int)]),(16,[(1,C3),(5,.slot 5 .int)]),(17,[(3,C3),(7,.slot 6 .int)]),(18,[(10,cl 2 .int 0),(21,cl 2 .int 0),(37,cl 2 .bool 0)])],[(4,dr 5 [(0,[0],[]),(2,[0],[])]),(8,dr 12 [(0,[0],[]),(1,[0],[]),(4,[0],[]),(5,[0],[])]),(14,dr 18 [(0,[0],[]),(1,[0],[]),(6,[0],[]),(7,[0],[]),(8,[0],[]),(9,[0],[])])],[]⟩,7⟩ n (ec FM (ec (L9 n) (ec (C4 n) (ec (CY n) (ec XJ (ec (L5 n) (ec (PD n) (ec (G6 n) (ec (DM n) (ec (W7 n) (ec (iu n) (ec (ip n) (ec (R9 n) en))))))))))))) Go.Proofs.Tryz.func12 (by kernel_rfl) (fun x=>by kernel_rfl)
def JO{α:Type}(n:Nat):Nat→List Int→List Int→Int→(Option α)→(Option α)→Option α|0,_,_,_,_,_=>none|m0+1,v1,v2,v3,k0_0,k0_1=>cond (decide (v3<(v1.length:Int))) (cond (decide (0≤v3)&&decide (v3<(v1.length:Int))) (cond (decide (0≤v3)&&decide (v3<(v2.length:Int))) (let e4:=(!(decide ((List.getD v1 (Int.toNat v3) (Kd.dflt .int))=(List.getD v2 (Int.toNat v3) (Kd.dflt .int)))));cond e4 k0_0 (JO n m0 v1 v2 (w64 (v3+1)) k0_0 k0_1)) none) none) k0_1
def NZ(n:Nat)(a0:List Int)(a1:List Int):Option (Bool×Unit):=cond (!(decide ((a0.length:Int)=(a1.length:Int)))) (some (false,())) (JO n n a0 a1 0 (some (false,())) (some (true,())))
def kA(n:Nat):Rw:=⟨138,pV [.ro .int,.ro .int],pS [.bool],fun x=>NZ n x.1.2 x.2.1.2⟩
def qJ(n:Nat):LS:=AN ⟨4,[0,1,5],[],[],[4],[]⟩ 26 [0,1,5] 0 (pD [.ro .int,.ro .int,.int]) [] (fun m x k=>JO n m x.1.1.2 x.1.2.1.2 x.1.2.2.1 (k .ret (eS 26 [4] [.bool false] 0 [])) (k (.exit 0) (eS 26 [] [] 0 [])))
theorem kB(n:Nat):RO (kA n):=
 rL ⟨Go.Proofs.Tryz.f138,⟨[],[(6,dr 9 [])],[]⟩,0⟩ [qJ n] n en Go.Proofs.Tryz.func138 (by kernel_rfl) ⟨AO (fun m x k=>by kernel_rfl) (fun _ _=>rfl),trivial⟩ (fun x=>by kernel_rfl)
def JP{α:Type}(n:Nat):Nat→List Lock→List Lock→Int→(Option α)→(Option α)→Option α|0,_,_,_,_,_=>none|m0+1,v1,v2,v3,k0_0,k0_1=>cond (decide (v3<(v1.length:Int))) (cond (decide (0≤v3)&&decide (v3<(v1.length:Int))) (cond (decide (0≤v3)&&decide (v3<(v2.length:Int))) (let e4:=(!(decide ((List.getD v1 (Int.toNat v3) (Kd.dflt .lock)).Owner=(List.getD v2 (Int.toNat v3) (Kd.dflt .lock)).Owner)));cond e4 k0_0 (cond (decide (0≤v3)&&decide (v3<(v1.length:Int))) (cond (decide (0≤v3)&&decide (v3<(v2.length:Int))) ((NZ n ((List.getD v1 (Int.toNat v3) (Kd.dflt .lock)).Waits) ((List.getD v2 (Int.toNat v3) (Kd.dflt .lock)).Waits)).bind fun r5=>cond (!r5.1) k0_0 (JP n m0 v1 v2 (w64 (v3+1)) k0_0 k0_1)) none) none)) none) none) k0_1
def Na(n:Nat)(a0:List Lock)(a1:List Lock):Option (Bool×Unit):=cond (!(decide ((a0.length:Int)=(a1.length:Int)))) (some (false,())) (JP n n a0 a1 0 (some (false,())) (some (true,())))
def kC(n:Nat):Rw:=⟨66,pV [.ro .lock,.ro .lock],pS [.bool],fun x=>Na n x.1.2 x.2.1.2⟩
def qK(n:Nat):LS:=AN ⟨4,[0,1,5],[],[],[4],[]⟩ 42 [0,1,5] 0 (pD [.ro .lock,.ro .lock,.int]) [] (fun m x k=>JP n m x.1.1.2 x.1.2.1.2 x.1.2.2.1 (k .ret (eS 42 [4] [.bool false] 0 [])) (k (.exit 0) (eS 42 [] [] 0 [])))
theorem kD(n:Nat):RO (kC n):=
 rL ⟨Go.Proofs.Tryz.f66,⟨[(6,[(22,cl 2 .bool 0)])],[(6,dr 25 [])],[]⟩,0⟩ [qK n] n (ec (kB n) en) Go.Proofs.Tryz.func66 (by kernel_rfl) ⟨AO (fun m x k=>by kernel_rfl) (fun _ _=>rfl),trivial⟩ (fun x=>by kernel_rfl)
def NP(n:Nat)(a0:List Int):Option (Bool×Unit):=(Dm a0).bind fun r1=>cond r1.1 (some (true,())) ((GP n a0).bind fun r2=>(D2 n (AA r2.1.1) (Ar r2.1.2.1)).bind fun r3=>(Hc n (AA r2.1.1) (Ar r2.1.2.1)).bind fun r4=>cond (!(decide (r3.1.2.1=r4.1.2.1))) (some (false,())) ((Kb (Ar r2.1.2.1)).bind fun r5=>(HZ (Ar r2.1.2.1)).bind fun r6=>cond (!(r5.1==r6.1)) (some (false,())) ((Bf n (AA r2.1.1)).bind fun r7=>cond (!r7.1) (cond (decide (r3.1.2.1=1)) (cond (decide ((AA r3.1.1).Cpus=0)) (some ((decide ((((AA r3.1.1).Tasks).length:Int)=0)),())) (some (false,()))) (some (false,()))) ((HZ (Ar r2.1.2.1)).bind fun r8=>cond (!r8.1) (cond (decide (r3.1.2.1=1)) (cond (decide ((AA r3.1.1).Cpus=0)) (some ((decide ((((AA r3.1.1).Tasks).length:Int)=0)),())) (some (false,()))) (some (false,()))) (cond (!(decide (r3.1.2.1=0))) (cond (decide ((AA r3.1.1).Now=(AA r2.1.1).Now)) ((Iz n ((AA r3.1.1).Tasks) ((AA r2.1.1).Tasks)).bind fun r9=>cond r9.1 ((Na n ((AA r3.1.1).Locks) ((AA r2.1.1).Locks)).bind fun r10=>cond r10.1 ((Ep n ((AA r3.1.1).Trace) ((AA r2.1.1).Trace)).bind fun r11=>some (r11.1,())) (some (false,()))) (some (false,()))) (some (false,()))) ((CV n (AA r3.1.1)).bind fun r12=>cond r12.1 (cond (decide ((AA r2.1.1).Now≤(AA r3.1.1).Now)) (cond (decide ((Ar r2.1.2.1).Kind=11)) (some (true,())) (cond (decide ((AA r3.1.1).Now=(AA r2.1.1).Now)) ((Ep n ((AA r3.1.1).Trace) ((AA r2.1.1).Trace)).bind fun r13=>some (r13.1,())) (some (false,())))) (some (false,()))) (some (false,()))))))))
def jl(n:Nat):Rw:=⟨13,pV [.rog .u8],pS [.bool],fun x=>NP n x.1⟩
theorem jm(n:Nat):RO (jl n):=
 rE ⟨Go.Proofs.Tryz.f13,⟨[(1,[(1,cl 1 .bool 0)]),(3,[(1,L3),(5,.slot 0 .int),(6,.slot 1 .int)]),(4,[(2,C3),(6,.slot 2 .int)]),(5,[(2,C3),(6,.slot 3 .int)]),(6,[(5,cl 1 .bool 0),(7,cl 1 .bool 0)]),(8,[(1,cl 1 .bool 0),(5,cl 1 .bool 0)]),(11,[(10,cl 2 .bool 0),(17,cl 2 .bool 0),(24,cl 2 .bool 0)]),(12,[(1,cl 1 .bool 0),(24,cl 2 .bool 0)])],[(6,dr 10 [(4,[1],[]),(6,[1],[])])],[]⟩,4⟩ n (ec FM (ec (L9 n) (ec (L5 n) (ec (PD n) (ec Wv (ec SD (ec (CY n) (ec (R9 n) (ec (kD n) (ec (SA n) (ec (C4 n) en))))))))))) Go.Proofs.Tryz.func13 (by kernel_rfl) (fun x=>by kernel_rfl)
end Go.Proofs.YthoholbeacojfaaGreat.VR
end
section
set_option linter.unusedVariables false
set_option linter.unusedSimpArgs false
namespace Go.Proofs.YthoholbeacojfaaGreat.VR
open Go
def BN:Nat:=GN+big+big+4
theorem Eh:SN BN:=by unfold SN BN;omega
theorem FG{o:Option (Bool×Unit)}(h:Tot o fun r=>r=(true,())):o=some (true,()):=by
 obtain⟨a,e,rfl⟩:=h;exact e
theorem Eg{code:List Int}{f:Bool×Unit→Option (Bool×Unit)}(h0:f (true,())=some (true,()))(h:code.length≤big→Tot (f (false,())) fun r=>r=(true,())):Tot ((Dm code).bind f) fun r=>r=(true,()):=by
 unfold Dm;refine CA rfl ?_;have e:big=1048576:=rfl
 by_cases hb:1048576<(code.length:Int)
 ·rw[decide_eq_true hb];exact⟨_,h0,rfl⟩
 ·rw[decide_eq_false hb];exact h (by omega)
theorem PL{xs:List Turn}{n:Nat}(hn:xs.length<n)(hb:xs.length≤lim):Ep n xs xs=some (true,()):=by
 unfold Ep;rw[decide_eq_true rfl,Bool.not_true,cond_false];refine Ak (l:=fun m i=>JR n m xs xs (i:Int) (some (false,())) (some (true,()))) (len:=xs.length) (fun _=>True) trivial (fun m _=> ?_) (fun m i hi _=>.inl ⟨?_,trivial⟩) hn
 ·simp only[JR,AW,cond_false]
 ·simp only[JR,AG hi,AI,Bool.and_self,cond_true,AH hi,decide_true,beq_self_eq_true,Bool.not_true,cond_false,AL (Nat.lt_trans hi (AY hb))]
theorem SQ{xs:List Task}{n:Nat}(hn:xs.length<n)(hb:xs.length≤lim):Iz n xs xs=some (true,()):=by
 unfold Iz;rw[decide_eq_true rfl,Bool.not_true,cond_false];refine Ak (l:=fun m i=>JQ n m xs xs (i:Int) (some (false,())) (some (true,()))) (len:=xs.length) (fun _=>True) trivial (fun m _=> ?_) (fun m i hi _=>.inl ⟨?_,trivial⟩) hn
 ·simp only[JQ,AW,cond_false]
 ·simp only[JQ,AG hi,AI,Bool.and_self,cond_true,AH hi,decide_true,beq_self_eq_true,Bool.not_true,cond_false,AL (Nat.lt_trans hi (AY hb))]
theorem ru{xs:List Int}{n:Nat}(hn:xs.length<n)(hb:xs.length≤lim):NZ n xs xs=some (true,()):=by
 unfold NZ;rw[decide_eq_true rfl,Bool.not_true,cond_false];refine Ak (l:=fun m i=>JO n m xs xs (i:Int) (some (false,())) (some (true,()))) (len:=xs.length) (fun _=>True) trivial (fun m _=> ?_) (fun m i hi _=>.inl ⟨?_,trivial⟩) hn
 ·simp only[JO,AW,cond_false]
 ·simp only[JO,AG hi,AI,Bool.and_self,cond_true,AH hi,decide_true,beq_self_eq_true,Bool.not_true,cond_false,AL (Nat.lt_trans hi (AY hb))]
theorem rv{xs:List Lock}{n:Nat}(hn:xs.length<n)(hb:xs.length≤lim)(hw: ∀k∈xs,k.Waits.length<n∧k.Waits.length≤lim):Na n xs xs=some (true,()):=by
 unfold Na;rw[decide_eq_true rfl,Bool.not_true,cond_false];refine Ak (l:=fun m i=>JP n m xs xs (i:Int) (some (false,())) (some (true,()))) (len:=xs.length) (fun _=>True) trivial (fun m _=> ?_) (fun m i hi _=>.inl ⟨?_,trivial⟩) hn
 ·simp only[JP,AW,cond_false]
 · have hk:=hw _ (List.getElem_mem hi)
   simp only[JP,AG hi,AI,Bool.and_self,cond_true,AH hi,decide_true,beq_self_eq_true,Bool.not_true,cond_false,ru hk.1 hk.2,Option.bind_some,AL (Nat.lt_trans hi (AY hb))]
theorem KX{code:List Int}{n:Nat}(hb:code.length≤big)(hn:SN n):Tot (GP n code) fun r=>DB (AA r.1.1):=by
 have e:big=1048576:=rfl;have hn2:4001<n:=by unfold SN at hn;omega
 unfold GP;refine A1 (IC hb hn2) fun r hc=>A1 (HP hc hb hn) fun r2 ⟨hc,hd⟩=>A1 (T1 hc hd.tasks (by omega)) fun r3 ⟨hc,_⟩=>A1 (az hc) fun r4 hc=>AX hd
end Go.Proofs.YthoholbeacojfaaGreat.VR
end
section
set_option linter.unusedVariables false
set_option linter.unusedSimpArgs false
namespace Go.Proofs.YthoholbeacojfaaGreat.VR
open Go
theorem sS{s:Sys}{n:Nat}(h:SysB s)(hn:SN n):N5 n s=some (E0 s,()):=by
 obtain⟨h1,h2⟩:=hn.tasks h;obtain⟨t1,t2⟩:=hn.tl (s:=s);simp only[N5,B3 h hn,Option.bind_some,E0]
 by_cases hs:SysOk s
 · rw[decide_eq_true hs,Bool.not_true,cond_false,Bool.true_and]
   have hcr: ∀no,BQ s.Tasks s.Locks no=Dh s.Tasks s.Locks no:=fun no=>by
    unfold BQ;rw[decide_eq_true (And.intro hs.tasks hs.locks.2.1),Bool.true_and]
   have:=Du (l:=fun m i=>H4 n m s i (some (false,())) (some (true,()))) (xs:=s.Tasks) (p:=FU s) (k0:=some (false,())) (k1:=some (true,()))
    (fun m=>by simp only[H4,AW,cond_false])
    (fun m i hi=>by
      have hmem:=EN (Ag s.Tasks s.Locks s.Tasks[i].Cpu) none
      change∀t,Ai (Ag s.Tasks s.Locks s.Tasks[i].Cpu)=some t→_ at hmem
      simp only[H4,AG hi,AI,Bool.and_self,cond_true,AH hi,Se h.tl t1 t2 hs.tasks hs.locks.2.1,Yh h.tl t1 t2 hs.locks.2.1,Option.bind_some,AL (Nat.lt_trans hi (AY h2))];unfold FU;rw[hcr];cases Dh s.Tasks s.Locks s.Tasks[i].No with
      |false=>rfl
      |true=>
       revert hmem
       cases Ai (Ag s.Tasks s.Locks s.Tasks[i].Cpu)with
       |none=>intro _;rfl
       |some b=>
        intro hmem;have hb:b∈s.Tasks:=by
         rcases hmem _ rfl with hm|hm
         ·exact(List.mem_filter.1 hm).1
         ·cases hm
        obtain⟨j,hj,hbj,hji⟩:=Cq hs.tasks hb;have z1: ¬((j:Int)<0):=by omega
        have z2:(0:Int)≤(j:Int):=by omega
        have z3:(j:Int)<(s.Tasks.length:Int):=by omega
        simp only[Bi,hji,idx,z1,z2,z3,decide_true,decide_false,cond_false,cond_true,Bool.and_self,AH hj,hbj,SV,Option.bind_some,G2];cases decide (Before s.Tasks[i] b)<;>rfl) (m:=n) h1
   rw[this];cases s.Tasks.all (FU s)<;>rfl
 ·rw[decide_eq_false hs];rfl
theorem Uy{s:Sys}{n:Nat}(h:SysB s)(hn:SN n):Kk n s=some (E0 s,()):=by
 obtain⟨h1,h2⟩:=hn.tasks h;obtain⟨t1,t2⟩:=hn.tl (s:=s);simp only[Kk,Cr h hn,Option.bind_some,E0]
 by_cases hs:SysOk s
 · rw[decide_eq_true hs,Bool.not_true,cond_false,Bool.true_and]
   obtain⟨c,hc⟩: ∃c:Nat,s.Cpus=(c:Int):=⟨s.Cpus.toNat,by have:=hs.cpus;omega⟩
   have hc4:=hs.cpus;have hgn:4<n:=by unfold SN big at hn;omega
   have hno:AR s.Tasks 0=none:=by
    unfold AR;rw[List.findIdx?_eq_none_iff];intro t ht;have:=(hs.tasks.each t ht).no;simp;omega
   have q:=IA (l:=fun m i=>Fj n m s s.Cpus (i:Int) (some (false,())) (some (true,()))) (len:=c) (P:=fun i=>(Ag s.Tasks s.Locks (i:Int)).all (G2 (Ai (Ag s.Tasks s.Locks (i:Int))))=true) (k0:=some (false,())) (k1:=some (true,()))
    (fun m=>by
      have: ¬((c:Int)<s.Cpus):=by omega
      simp only[Fj,decide_eq_false this,cond_false])
    (fun m i hi=>by
      have hlt:(i:Int)<s.Cpus:=by omega
      have hsub: ∀t∈Ag s.Tasks s.Locks (i:Int),t∈s.Tasks:=fun t ht=>(List.mem_filter.1 ht).1
      have hlen:(Ag s.Tasks s.Locks (i:Int)).length≤s.Tasks.length:=List.length_filter_le _ _;have hmem:=EN (Ag s.Tasks s.Locks (i:Int)) none
      change∀t,Ai (Ag s.Tasks s.Locks (i:Int))=some t→_ at hmem
      simp only[Fj,decide_eq_true hlt,cond_true,VB h.tl t1 t2,Q7 h.tl t1 t2,C1 h1 h2,Option.bind_some,AL (show i<Ab by unfold Ab;omega),pick]
      cases e:Ai (Ag s.Tasks s.Locks (i:Int))with
      |none=>
       rw[KS e];simp[hno,idx]
      |some b=>
       have hbt:b∈Ag s.Tasks s.Locks (i:Int):=by
        rcases hmem _ e with hm|hm
        ·exact hm
        ·cases hm
       have hb:=hsub b hbt;have h0: ¬b.No=0:=by have:=(hs.tasks.each b hb).no;omega
       obtain⟨j,hj,hbj,hji⟩:=Cq hs.tasks hb;have z2:(0:Int)≤(j:Int):=by omega
       have z3:(j:Int)<(s.Tasks.length:Int):=by omega
       have c1:K2 n (Ag s.Tasks s.Locks (i:Int)) s (j:Int)=some ((Ag s.Tasks s.Locks (i:Int)).any fun t=>decide (Before t b),()):=by
        unfold K2 Qc;have:=C0 (l:=fun m i'=>JY n m (Ag s.Tasks s.Locks (i:Int)) s (j:Int) ((Ag s.Tasks s.Locks (i:Int)).length:Int) i' (fun w5=>some (w5,())) (some (-1,()))) (xs:=Ag s.Tasks s.Locks (i:Int)) (p:=fun t=>decide (Before t b)) (k0:=fun w5=>some (w5,())) (k1:=some (-1,()))
         (fun m=>by simp only[JY,AW,cond_false])
         (fun m i' hi'=>by
           have hf:Ms (Ag s.Tasks s.Locks (i:Int))[i'] s (j:Int)=some (decide (Before (Ag s.Tasks s.Locks (i:Int))[i'] b),()):=by
            simp only[Ms,z2,z3,decide_true,Bool.and_self,cond_true,AH hj,hbj,Us,Option.bind_some]
           simp only[JY,AG hi',AI,Bool.and_self,cond_true,AH hi',hf,Option.bind_some,AL (Nat.lt_trans hi' (AY (show(Ag s.Tasks s.Locks (i:Int)).length≤lim by omega)))]) (m:=n) (by omega)
        rw[this];exact In _ _
       simp only[h0,decide_false,cond_false,hji,idx,z2,decide_true,cond_true,c1,Option.bind_some];have hnb:(Ag s.Tasks s.Locks (i:Int)).all (G2 (some b))= !(Ag s.Tasks s.Locks (i:Int)).any fun t=>decide (Before t b):=by
        rw[Bool.eq_iff_iff];simp[List.any_eq_false,G2]
       rw[hnb];cases (Ag s.Tasks s.Locks (i:Int)).any fun t=>decide (Before t b)<;>rfl) (m:=n) (by omega)
   refine q.trans ?_;have hiff:(∀i,i<c→(Ag s.Tasks s.Locks (i:Int)).all (G2 (Ai (Ag s.Tasks s.Locks (i:Int))))=true)↔s.Tasks.all (FU s)=true:=by
    rw[List.all_eq_true];constructor
    · intro ha t ht
      unfold FU;have hcp:=(hs.tasks.each t ht).cpu;have htc:=hs.tcpu t ht;have ee:((t.Cpu.toNat:Nat):Int)=t.Cpu:=by omega
      cases hcan:BQ s.Tasks s.Locks t.No with
      |false=>rfl
      |true=>
       have:=ha t.Cpu.toNat (by omega)
       rw[ee,List.all_eq_true]at this;have:=this t (List.mem_filter.2 ⟨ht,by simp[hcan]⟩)
       rw[this];rfl
    · intro ha i hi
      rw[List.all_eq_true];intro t ht;obtain⟨htm,hp⟩:=List.mem_filter.1 ht;simp only[Bool.and_eq_true,decide_eq_true_eq]at hp;have:=ha t htm;unfold FU at this;rw[hp.2,hp.1]at this;simpa using this
   by_cases ha: ∀i,i<c→(Ag s.Tasks s.Locks (i:Int)).all (G2 (Ai (Ag s.Tasks s.Locks (i:Int))))=true
   ·rw[if_pos ha,hiff.1 ha]
   · rw[if_neg ha]
     cases e:s.Tasks.all (FU s)with
     |true=>exact absurd (hiff.2 e) ha
     |false=>rfl
 ·rw[decide_eq_false hs];rfl
theorem sR{s:Sys}{n:Nat}(h:SysB s)(hn:SN n):N4 n s=some (decide (EK s),()):=by
 obtain⟨h1,h2⟩:=hn.tasks h;obtain⟨t1,t2⟩:=hn.tl (s:=s);simp only[N4,B3 h hn,Option.bind_some];refine CO (P:=SysOk s) (fun q=>q.1) fun hs=> ?_
 have hc4:=hs.cpus;have hgn:10<n:=by unfold SN big at hn;omega
 have e1:big=1048576:=rfl;have q:=IA (l:=fun m i=>Hz n m s (Cc s i) (i:Int) (some (false,())) (some (true,()))) (len:=s.Cpus.toNat) (P:=DQ s) (k0:=some (false,())) (k1:=some (true,()))
  (fun m=>by
    have: ¬((s.Cpus.toNat:Int)<s.Cpus):=by omega
    simp only[Hz,decide_eq_false this,cond_false])
  (fun m i hi=>by
    have hlt:(i:Int)<s.Cpus:=by omega
    have hel:(Cc s i).length=i:=by unfold Cc;rw[List.length_map,List.length_range]
    have happ:decide ((Cc s i).length+(([(pick s.Tasks s.Locks (i:Int)).2]:List Int)).length≤lim)=true:=CB (B:=10) (by omega) (by omega)
    have hp0:=fN hs (i:Int);simp only[Hz,decide_eq_true hlt,cond_true,sa h.tl t1 t2,Option.bind_some,happ,ML (show(Cc s i).length<n by omega) (show(Cc s i).length≤lim by omega),AL (show i<Ab by unfold Ab;omega),UF]
    by_cases hz:(pick s.Tasks s.Locks (i:Int)).2=0
    ·rw[if_pos (show DQ s i from Or.inl hz),decide_eq_false (show¬0<(pick s.Tasks s.Locks (i:Int)).2 by omega),cond_false]
    · rw[decide_eq_true (show 0<(pick s.Tasks s.Locks (i:Int)).2 by omega),cond_true]
      by_cases hm:(pick s.Tasks s.Locks (i:Int)).2∈Cc s i
      ·rw[decide_eq_true hm,cond_true,if_neg (show¬DQ s i from fun q=>by rcases q with q|q;exact hz q;exact q hm)]
      ·rw[decide_eq_false hm,cond_false,if_pos (show DQ s i from Or.inr hm)]) (m:=n) (by omega)
 refine q.trans ?_
 by_cases ha: ∀i,i<s.Cpus.toNat→DQ s i
 ·rw[if_pos ha,decide_eq_true (p:=EK s) ⟨hs,ha⟩]
 ·rw[if_neg ha,decide_eq_false (p:=EK s) (fun q=>ha q.2)]
theorem Ux{s:Sys}{n:Nat}(h:SysB s)(hn:SN n):Kj n s=some (decide (EK s),()):=by
 obtain⟨h1,h2⟩:=hn.tasks h;obtain⟨t1,t2⟩:=hn.tl (s:=s);simp only[Kj,Cr h hn,Option.bind_some];refine CO (P:=SysOk s) (fun q=>q.1) fun hs=> ?_
 have hc4:=hs.cpus;have hgn:10<n:=by unfold SN big at hn;omega
 have e1:big=1048576:=rfl;have q:=IA (l:=fun m i=>Hs n m s (Cc s i) s.Cpus (i:Int) (some (false,())) (some (true,()))) (len:=s.Cpus.toNat) (P:=DQ s) (k0:=some (false,())) (k1:=some (true,()))
  (fun m=>by
    have: ¬((s.Cpus.toNat:Int)<s.Cpus):=by omega
    simp only[Hs,decide_eq_false this,cond_false])
  (fun m i hi=>by
    have hlt:(i:Int)<s.Cpus:=by omega
    have hel:(Cc s i).length=i:=by unfold Cc;rw[List.length_map,List.length_range]
    have happ:decide ((Cc s i).length+(([(pick s.Tasks s.Locks (i:Int)).2]:List Int)).length≤lim)=true:=CB (B:=10) (by omega) (by omega)
    simp only[Hs,decide_eq_true hlt,cond_true,Q7 h.tl t1 t2,Option.bind_some,happ,IK (show(Cc s i).length<n by omega) (show(Cc s i).length≤lim by omega),AL (show i<Ab by unfold Ab;omega),UF]
    by_cases hz:(pick s.Tasks s.Locks (i:Int)).2=0
    ·rw[if_pos (show DQ s i from Or.inl hz),decide_eq_true hz,Bool.not_true,cond_false]
    · rw[decide_eq_false hz,Bool.not_false,cond_true]
      by_cases hm:(pick s.Tasks s.Locks (i:Int)).2∈Cc s i
      ·rw[decide_eq_true hm,cond_true,if_neg (show¬DQ s i from fun q=>by rcases q with q|q;exact hz q;exact q hm)]
      ·rw[decide_eq_false hm,cond_false,if_pos (show DQ s i from Or.inr hm)]) (m:=n) (by omega)
 refine q.trans ?_
 by_cases ha: ∀i,i<s.Cpus.toNat→DQ s i
 ·rw[if_pos ha,decide_eq_true (p:=EK s) ⟨hs,ha⟩]
 ·rw[if_neg ha,decide_eq_false (p:=EK s) (fun q=>ha q.2)]
theorem cQ{s:Sys}{n:Nat}(h:SysB s)(hn:SN n):Ki n s=some (RK s,()):=by
 simp only[Ki,U1 h hn,Uz h hn,U0 h hn,Uy h hn,Ux h hn,Option.bind_some,RK];cases decide (Dt s)<;>cases Fh s<;>cases Fi s<;>cases E0 s<;>rfl
end Go.Proofs.YthoholbeacojfaaGreat.VR
end
section
set_option linter.unusedVariables false
set_option linter.unusedSimpArgs false
namespace Go.Proofs.YthoholbeacojfaaGreat.VR
open Go
def KD(s:Sys)(cpu:Int):Int:=if SysOk s then Hl (BK s.Tasks cpu)else 0
theorem TY(ts:List Task)(cpu:Int):(BK ts cpu).length≤ts.length:=List.length_filter_le _ _
theorem cZ{s:Sys}{cpu:Int}{n:Nat}(h:SysB s)(hn:SN n):Ko n s cpu=some (KD s cpu,()):=by
 obtain⟨h1,h2⟩:=SN.tasks h hn;have h3:=TY s.Tasks cpu;unfold Ko KD;rw[Cr h hn];simp only[Option.bind_some,Q8 h1 h2,cN (xs:=BK s.Tasks cpu) (n:=n) (by omega) (by omega),DK,BT]
 split<;>rfl
theorem se{s:Sys}{cpu:Int}{n:Nat}(h:SysB s)(hn:SN n):OG n s cpu=some (KD s cpu,()):=by
 obtain⟨h1,h2⟩:=SN.tasks h hn;have h3:=TY s.Tasks cpu;unfold OG KD;rw[B3 h hn];simp only[Option.bind_some,SZ h1 h2,sN (xs:=BK s.Tasks cpu) (n:=n) (by omega) (by omega),DK,BT]
 split<;>rfl
end Go.Proofs.YthoholbeacojfaaGreat.VR
end
section
set_option linter.unusedVariables false
set_option linter.unusedSimpArgs false
namespace Go.Proofs.YthoholbeacojfaaGreat.VR
open Go
def Pa(xs:List Turn)(no:Int):Int:=if no<1 then 0 else(xs.countP fun t=>decide (t.Context=no):Nat)
def PY(xs:List Turn)(no:Int):Int:=if no<1 then 0 else(xs.countP fun t=>decide (t.Executor=no):Nat)
theorem c7{xs:List Turn}{no:Int}{n:Nat}(hn:xs.length<n)(hb:xs.length≤lim):NO n xs no=some (((xs.countP fun t=>decide (t.Context=no):Nat):Int),()):=by
 unfold NO;refine Ak (l:=fun m i=>Hv n m no (((xs.take i).countP fun t=>decide (t.Context=no):Nat):Int) xs (xs.length:Int) (i:Int) (fun w7=>some (w7,()))) (len:=xs.length) (fun _=>True) trivial (fun m _=> ?_) (fun m i hi _=>.inl ⟨?_,trivial⟩) hn
 ·simp only[Hv,AW,cond_false,List.take_length]
 · have hc:=P5 (fun t:Turn=>decide (t.Context=no)) xs i
   simp only[Hv,QS,Option.bind_some,AG hi,cond_true,AI,Bool.and_self,AH hi,AL (Nat.lt_trans hi (Oo hb)),P6 _ hi,AL (Nat.lt_of_le_of_lt hc (Nat.lt_trans hi (Oo hb)))];cases decide (xs[i].Context=no)<;>rfl
theorem ci{xs:List Turn}{no:Int}{n:Nat}(hn:xs.length<n)(hb:xs.length≤lim):NE n xs no=some (Pa xs no,()):=by
 unfold NE Pa;rw[BT,c7 hn hb];split<;>rfl
theorem c6{xs:List Turn}{no:Int}{n:Nat}(hn:xs.length<n)(hb:xs.length≤lim):NN n xs no=some (((xs.countP fun t=>decide (t.Executor=no):Nat):Int),()):=by
 unfold NN;refine Ak (l:=fun m i=>Hu n m no (((xs.take i).countP fun t=>decide (t.Executor=no):Nat):Int) xs (xs.length:Int) (i:Int) (fun w7=>some (w7,()))) (len:=xs.length) (fun _=>True) trivial (fun m _=> ?_) (fun m i hi _=>.inl ⟨?_,trivial⟩) hn
 ·simp only[Hu,AW,cond_false,List.take_length]
 · have hc:=P5 (fun t:Turn=>decide (t.Executor=no)) xs i
   simp only[Hu,QR,Option.bind_some,AG hi,cond_true,AI,Bool.and_self,AH hi,AL (Nat.lt_trans hi (Oo hb)),P6 _ hi,AL (Nat.lt_of_le_of_lt hc (Nat.lt_trans hi (Oo hb)))];cases decide (xs[i].Executor=no)<;>rfl
theorem ch{xs:List Turn}{no:Int}{n:Nat}(hn:xs.length<n)(hb:xs.length≤lim):ND n xs no=some (PY xs no,()):=by
 unfold ND PY;rw[BT,c6 hn hb];split<;>rfl
end Go.Proofs.YthoholbeacojfaaGreat.VR
end
section
set_option linter.unusedVariables false
set_option linter.unusedSimpArgs false
namespace Go.Proofs.YthoholbeacojfaaGreat.VR
open Go
theorem aE{code:List Int}(h:wfL .u8 code): ∀x∈code,0≤x∧x≤255:=fun x hx=>h.2 x hx (.u8 x) (List.mem_singleton.2 rfl)
theorem TX{code:List Int}(h:wfL .u8 code){i:Int}(h0:0≤i)(h1:i≤100): ∃v,K0 code i=some (v,())∧0≤v∧v≤255:=by
 have e:big=1048576:=rfl;have hl:=h.1;unfold K0
 by_cases hi:i<(code.length:Int)
 · have hj:i.toNat<code.length:=by omega
   have hm:List.getD code i.toNat 0∈code:=by rw[Af hj];exact List.getElem_mem hj
   have hw:=aE h _ hm;rw[decide_eq_true hi,decide_eq_true h0];exact⟨_,rfl,by show 0≤w64 (List.getD code i.toNat 0);rw[AV (by omega) (by omega)];exact hw.1,by show w64 (List.getD code i.toNat 0)≤255;rw[AV (by omega) (by omega)];exact hw.2⟩
 · rw[decide_eq_false hi,AV (n:=i*7) (by omega) (by omega),AV (n:=i*7+(code.length:Int)) (by omega) (by omega)]
   have h2:=Int.tmod_nonneg (a:=i*7+(code.length:Int)) 256 (by omega)
   have h3:=Int.tmod_lt_of_pos (i*7+(code.length:Int)) (b:=256) (by decide)
   exact⟨_,rfl,h2,by omega⟩
theorem uW{us:List Turn}{no:Int}(h: ∀u∈us,u.Context≠no):Pa us no=0:=by
 unfold Pa;split
 ·rfl
 ·rw[List.countP_eq_zero.2 (fun u hu=>by simp[h u hu])];rfl
theorem uI{us:List Turn}{no:Int}(h: ∀u∈us,u.Executor≠no):PY us no=0:=by
 unfold PY;split
 ·rfl
 ·rw[List.countP_eq_zero.2 (fun u hu=>by simp[h u hu])];rfl
theorem SU{a b:Nat}(h:a≤b):(((decide (0≤(a:Int)))&&(decide ((a:Int)≤(b:Int))))&&(decide ((b:Int)≤(b:Int))))=true:=by simp;omega
end Go.Proofs.YthoholbeacojfaaGreat.VR
end
section
set_option linter.unusedVariables false
set_option linter.unusedSimpArgs false
namespace Go.Proofs.YthoholbeacojfaaGreat.VR
open Go
theorem Oe{s:Sys}{a:Int}{n:Nat}(h:SysB s)(hs:SysOk s)(hn:SN n)(ha:a.toNat<n)(ha2:a.toNat<Ab):FY n s a=some ((AB (BC a.toNat s 0).1,((BC a.toNat s 0).2:Int),()),()):=by
 have hb:=h.small;unfold FY;rw[Cr h hn,decide_eq_true hs];simp only[Option.bind_some,Bool.not_true,cond_false,U4 hb (show big<n by unfold SN at hn;omega) Dx,dnSys_up]
 have key: ∀(d m k:Nat) (v:Sys) (x:Sys),k+d=a.toNat→d<m→SysOk v→JF n m a x v (k:Int)
  (fun w9 w10 w11=>some (((AB w10),w9,()),())) (fun w12=>some (((AB w12),(if a>0 then a else 0),()),()))=some ((AB (BC d v k).1,((BC d v k).2:Int),()),()):=by
  intro d
  induction d with
  |zero=>
   intro m k v x hk hm hv;obtain⟨m,rfl⟩: ∃q,m=q+1:=⟨m-1,by omega⟩
   have e1: ¬((k:Int)<a):=by omega
   simp only[JF,decide_eq_false e1,cond_false,BC];rw[show(if a>0 then a else 0)=(k:Int) by split<;>omega]
  |succ d ih=>
   intro m k v x hk hm hv;obtain⟨m,rfl⟩: ∃q,m=q+1:=⟨m-1,by omega⟩
   have hka:(k:Int)<a:=by omega
   simp only[JF,decide_eq_true hka,cond_true,U3 (PR hv) hn,Option.bind_some,dnSys_up,AL (show k<Ab by omega)]
   unfold BC
   by_cases hc:Aw v
   · have e:BM v=(Av v,true):=by unfold BM;rw[if_pos hv,if_pos hc]
     rw[e,if_pos hc];simp only[Bool.not_true,cond_false];exact ih m (k+1) (Av v) _ (by omega) (by omega) (IR hv hc)
   · have e:BM v=(v,false):=by unfold BM;rw[if_pos hv,if_neg hc]
     rw[e,if_neg hc];rfl
 exact key a.toNat n 0 s _ (by omega) ha hs
theorem so{s:Sys}{a:Int}{n:Nat}(h:SysB s)(hs:SysOk s)(hn:SN n)(h0:0≤a)(ha:a.toNat<n)(ha2:a.toNat<Ab):Fc n s a=some ((AB (BC a.toNat s 0).1,((BC a.toNat s 0).2:Int),()),()):=by
 have hb:=h.small;unfold Fc;rw[B3 h hn,decide_eq_true hs];simp only[Option.bind_some,Bool.not_true,cond_false,Sf hb (show big<n by unfold SN at hn;omega) Dx,dnSys_up]
 have key: ∀(d m k:Nat) (v:Sys) (x:Sys),k+d=a.toNat→d<m→SysOk v→H5 n m a x v (k:Int)
  (fun w8 w9 w10 w11=>some (((AB w10),w8,()),())) (fun w12 w13=>some (((AB w13),w12,()),()))=some ((AB (BC d v k).1,((BC d v k).2:Int),()),()):=by
  intro d
  induction d with
  |zero=>
   intro m k v x hk hm hv;obtain⟨m,rfl⟩: ∃q,m=q+1:=⟨m-1,by omega⟩
   have e1: ¬((k:Int)<a):=by omega
   simp only[H5,decide_eq_false e1,cond_false,BC]
  |succ d ih=>
   intro m k v x hk hm hv;obtain⟨m,rfl⟩: ∃q,m=q+1:=⟨m-1,by omega⟩
   have hka:(k:Int)<a:=by omega
   simp only[H5,decide_eq_true hka,cond_true,sm (PR hv) hn,Option.bind_some,dnSys_up,AL (show k<Ab by omega)]
   unfold BC
   by_cases hc:Aw v
   · have e:BM v=(Av v,true):=by unfold BM;rw[if_pos hv,if_pos hc]
     rw[e,if_pos hc];simp only[Bool.not_true,cond_false];exact ih m (k+1) (Av v) _ (by omega) (by omega) (IR hv hc)
   · have e:BM v=(v,false):=by unfold BM;rw[if_pos hv,if_neg hc]
     rw[e,if_neg hc];rfl
 exact key a.toNat n 0 s _ (by omega) ha hs
theorem sr{s:Sys}{a:Int}{n:Nat}(h:SysB s)(hs:SysOk s)(hn:SN n)(h0:a≤0):Fc n s a=some ((AB s,0,()),()):=by
 unfold Fc;rw[B3 h hn,decide_eq_true hs];simp only[Option.bind_some,Bool.not_true,cond_false,Sf h.small (show big<n by unfold SN at hn;omega) Dx,dnSys_up]
 obtain⟨m,rfl⟩: ∃q,n=q+1:=⟨n-1,by unfold SN at hn;omega⟩
 simp only[H5];rw[decide_eq_false (by omega)];rfl
theorem uB{s:Sys}{a:Int}{n:Nat}(h:SysB s)(hs: ¬SysOk s)(hn:SN n):Fc n s a=some ((AB IX,0,()),())∧ ∃t,FY n s a=some ((AB t,0,()),())∧(t=s∨t=IX):=by
 unfold Fc FY;rw[B3 h hn,Cr h hn,decide_eq_false hs];simp only[Option.bind_some,Bool.not_false,cond_true,U4 h.small (show big<n by unfold SN at hn;omega) Dx,dnSys_up]
 refine⟨rfl,?_⟩
 by_cases ha:0<a
 ·rw[decide_eq_true ha];exact⟨IX,rfl,.inr rfl⟩
 ·rw[decide_eq_false ha];exact⟨s,rfl,.inl rfl⟩
end Go.Proofs.YthoholbeacojfaaGreat.VR
end
