/- What a call changes not. Plain laws, of no function. -/
import Derived.Test.YthoholbeacojfaaGreatA7
set_option linter.unusedVariables false
set_option linter.unusedSimpArgs false
set_option linter.unusedSectionVars false
section
set_option linter.unusedVariables false
set_option linter.unusedSimpArgs false
namespace Go.Proofs.YthoholbeacojfaaGreat.VR
open Go
structure Still(s t:Sys):Prop where
 now:t.Now=s.Now
 trace:t.Trace=s.Trace
 cpus:t.Cpus=s.Cpus
 floors:t.Floors=s.Floors
 missed:t.Missed=s.Missed
theorem Still.refl(s:Sys):Still s s:=⟨rfl,rfl,rfl,rfl,rfl⟩
theorem Bs{s:Sys}{p:Prop}[Decidable p]{a b:Sys×Int}(ha:Still s a.1)(hb:Still s b.1):Still s (if p then a else b).1:=by split<;>assumption
theorem Te{s:Sys}{c:Call}(hk:c.Kind≠11):Still s (Bb s c).1:=by
 have r:=Still.refl s;have m: ∀(ts:List Task) (ls:List Lock) (gs:List Ghost) (q:Int),Still s {s with Tasks:=ts,Locks:=ls,Ghosts:=gs,Seq:=q}:=fun _ _ _ _=>⟨rfl,rfl,rfl,rfl,rfl⟩
 unfold Bb;rw[if_neg hk];refine Bs ?_ ?_
 · unfold BP
   exact Bs r (Bs r (Bs r (Bs r (Bs (Bs r (m _ _ _ _)) (m _ s.Locks s.Ghosts s.Seq)))))
 · cases AR s.Tasks c.No with
   |none=>exact r
   |some i=>
    unfold Cu;refine Bs (Bs r (m _ s.Locks s.Ghosts s.Seq)) (Bs (Bs r (m _ s.Locks s.Ghosts s.Seq)) (Bs ?_ (Bs ?_ ?_)))
    · unfold Cl
      exact Bs r (Bs (Bs r (m _ _ _ _)) (m _ s.Locks s.Ghosts s.Seq))
    · unfold Ce
      exact Bs r (Bs r (Bs (m s.Tasks _ s.Ghosts s.Seq) (Bs r (Bs r (m s.Tasks _ s.Ghosts s.Seq)))))
    · unfold Cz
      exact Bs r (Bs (Bs (m _ s.Locks s.Ghosts s.Seq) r) (Bs r (Bs r (m _ s.Locks s.Ghosts s.Seq))))
theorem MN{s:Sys}{c:Call}(h:SysOk s)(hc:BY c=true)(hk:c.Kind=11):Ad s c=EH s c.A:=by
 rw[Eb h hc];unfold Bb;rw[if_pos hk]
theorem MQ{s:Sys}(h:SysOk s)(n:Int):((EH s n).2≠0∧(EH s n).1=s)∨ ∃m:Nat,(m:Int)=n∧1≤n∧n≤50∧EH s n=(BF m s,0)∧ ∀i,i<m→Aw (BF i s):=by
 unfold EH;split
 · rename_i h1
   obtain⟨j,g1,g2,g3,_⟩:=PW n.toNat s 0;rw[g2];split
   ·exact .inl ⟨by simp,rfl⟩
   · rename_i h2
     simp only at h2;have:j=n.toNat:=by omega
     subst this;exact .inr ⟨n.toNat,by omega,h1.1,h1.2,rfl,g3⟩
 ·exact .inl ⟨by simp,rfl⟩
theorem aL{s:Sys}{c:Call}(h:SysOk s)(hc:BY c=true):s.Now≤(Ad s c).1.Now∧(c.Kind=11∨((Ad s c).1.Now=s.Now∧(Ad s c).1.Trace=s.Trace)):=by
 by_cases hk:c.Kind=11
 · rw[MN h hc hk]
   refine⟨?_,.inl hk⟩;rcases MQ h c.A with⟨_,e⟩|⟨m,_,_,_,e,_⟩
   ·rw[e];omega
   ·rw[e];show s.Now≤(BF m s).Now;rw[RJ];omega
 · have:=Te (s:=s) hk
   rw[Eb h hc];exact⟨by rw[this.now];omega,.inr ⟨this.now,this.trace⟩⟩
end Go.Proofs.YthoholbeacojfaaGreat.VR
end
section
set_option linter.unusedVariables false
set_option linter.unusedSimpArgs false
namespace Go.Proofs.YthoholbeacojfaaGreat.VR
open Go
theorem P1{s:Sys}(h:SysOk s){i:Nat}(hi:i<s.Tasks.length){k:Int}(hk:k=4∨k=5):Ad s ⟨k,s.Tasks[i].No,0,0,0⟩=
 if k=4 then(if s.Tasks[i].State=2∨waits s.Locks s.Tasks[i].No=true then(s,5)else({s with Tasks:=s.Tasks.set i {s.Tasks[i]with State:=2}},0))else(if s.Tasks[i].State≠2 then(s,5)else({s with Tasks:=s.Tasks.set i {s.Tasks[i]with State:=1}},0)):=by
 rcases hk with rfl|rfl
 all_goals
  rw[Eb h rfl];unfold Bb;dsimp only;rw[if_neg (by decide),if_neg (by decide),Q2 h hi]
  unfold Cu;dsimp only;rw[Af hi];rfl
theorem sG{s:Sys}(h:SysOk s){i:Nat}(hi:i<s.Tasks.length):
 ((Ad s ⟨4,s.Tasks[i].No,0,0,0⟩).2≠0∧(waits s.Locks s.Tasks[i].No=true∨s.Tasks[i].State=2))∨
 ∃t,Ad s ⟨4,s.Tasks[i].No,0,0,0⟩=(t,0)∧SysOk t∧(Ad t ⟨4,s.Tasks[i].No,0,0,0⟩).2=5∧(Az t.Tasks s.Tasks[i].No).State≠1∧(Ad t ⟨5,s.Tasks[i].No,0,0,0⟩).2=0∧(Ad t ⟨5,s.Tasks[i].No,0,0,0⟩).1.Tasks=s.Tasks:=by
 have hok:=IP ⟨4,s.Tasks[i].No,0,0,0⟩ h rfl;rw[P1 h hi (.inl rfl)]at hok⊢;rw[if_pos rfl]at hok⊢
 by_cases hw:s.Tasks[i].State=2∨waits s.Locks s.Tasks[i].No=true
 ·rw[if_pos hw];exact .inl ⟨by simp,hw.symm⟩
 · rw[if_neg hw]at hok⊢
   have hs1:s.Tasks[i].State=1:=(h.tasks.each _ (List.getElem_mem hi)).state.resolve_right fun x=>hw (.inl x)
   refine .inr ⟨_,rfl,hok,?_⟩;dsimp only at hok⊢;have hi':i<(s.Tasks.set i {s.Tasks[i]with State:=2}).length:=by rw[List.length_set];exact hi
   have e1:(s.Tasks.set i {s.Tasks[i]with State:=2})[i]={s.Tasks[i]with State:=2}:=List.getElem_set_self ..
   have a1:=P1 hok hi' (.inl rfl);have a2:=P1 hok hi' (.inr rfl);have a3:=HD hok.tasks (List.getElem_mem hi');dsimp only at a1 a2 a3;simp only[e1]at a1 a2 a3;rw[a1,a2,a3];refine⟨by simp,by simp,by simp,?_⟩
   rw[if_neg (by decide),if_neg (by simp)]
   dsimp only;rw[List.set_set];have:({s.Tasks[i]with State:=1}:Task)=s.Tasks[i]:=by
    generalize s.Tasks[i]=a at hs1;cases a;simp only at hs1;rw[hs1]
   rw[this,List.set_getElem_self]
end Go.Proofs.YthoholbeacojfaaGreat.VR
end
section
set_option linter.unusedVariables false
set_option linter.unusedSimpArgs false
namespace Go.Proofs.YthoholbeacojfaaGreat.VR
open Go
def FR(t:Task)(q:Int):Task:=CM (BZ (Ba t q).1)
structure BestOn(ls:List Lock)(W:List Task)(c:Int)(w:Task):Prop where
 mem:w∈Ag W ls c
 best: ∀u∈Ag W ls c,¬Before u w
structure Chg(ls:List Lock)(W ts:List Task)(k:Nat):Prop where
 keeps:KeepsL W ts
 at_: ∀i (h:i<W.length) (h':i<ts.length),ts[i]=W[i]∨(W[i].Cpu<(k:Int)∧BestOn ls W W[i].Cpu W[i]∧ ∃q,ts[i]=FR W[i] q)
 ran: ∀c:Nat,c<k→ ∀u∈Ag W ls (c:Int),∃i,∃h:i<W.length,∃h':i<ts.length,W[i].Cpu=(c:Int)∧BestOn ls W (c:Int) W[i]∧ ∃q,ts[i]=FR W[i] q
theorem IT{ts:List Task}{ls:List Lock}{c:Int}{t:Task}:t∈Ag ts ls c↔t∈ts∧t.Cpu=c∧BQ ts ls t.No=true:=by
 unfold Ag;rw[List.mem_filter];simp
theorem uQ{ts:List Task}{ls:List Lock}{c:Int}{t:Task}(h:t∈Ag ts ls c):t.Cpu=c:=(IT.1 h).2.1
theorem uR{ls:List Lock}{W ts:List Task}{k:Nat}(hW:TasksOk W)(h:Chg ls W ts k)(t:Task):t∈Ag ts ls (k:Int)↔t∈Ag W ls (k:Int):=by
 have hl:=h.keeps.len;have hts:=h.keeps.tasksOk hW;have hat: ∀i (a:i<W.length) (b:i<ts.length),W[i].Cpu=(k:Int)→ts[i]=W[i]:=fun i a b e=>by
  rcases h.at_ i a b with q|⟨q,_⟩
  ·exact q
  ·omega
 have hcan: ∀i (a:i<W.length) (b:i<ts.length),W[i].Cpu=(k:Int)→BQ ts ls W[i].No=BQ W ls W[i].No:=fun i a b e=>by
  have e1:Az ts W[i].No=W[i]:=by
   have:=HD hts (List.getElem_mem b);rw[hat i a b e]at this;exact this
  have e2:Az W W[i].No=W[i]:=HD hW (List.getElem_mem a);unfold BQ Dh;rw[h.keeps.able,e1,e2];simp only[hW,hts,true_and]
 rw[IT,IT];constructor
 · rintro⟨h1,h2,h3⟩
   obtain⟨i,b,rfl⟩:=List.mem_iff_getElem.1 h1;have a:i<W.length:=by omega
   have hc:W[i].Cpu=(k:Int):=by rw[←(h.keeps.at_ i a).cpu];exact h2
   have e:=hat i a b hc;rw[e]at h3⊢;exact⟨List.getElem_mem a,hc,by rw[←hcan i a b hc];exact h3⟩
 · rintro⟨h1,h2,h3⟩
   obtain⟨i,a,rfl⟩:=List.mem_iff_getElem.1 h1;have b:i<ts.length:=by omega
   have e:=hat i a b h2;exact⟨by rw[←e];exact List.getElem_mem b,h2,by rw[hcan i a b h2];exact h3⟩
theorem ZS(ls:List Lock)(x:Turns)(h:TasksOk x.ts): ∀k:Nat,Chg ls x.ts (BG ls x k).ts k
 |0=>⟨KeepsL.refl _,fun i a b=>.inl rfl,fun c hc=>by omega⟩
 |k+1=>by
  have hk:=ZS ls x h k;rw[HF];generalize BG ls x k=y at hk;have hy:=hk.keeps.tasksOk h;have hyl:=hk.keeps.len;have hsame:=uR h hk;have hkeep:=hk.keeps.trans (Sy ls y (k:Int) hy);cases e:Ai (Ag y.ts ls (k:Int))with
  |none=>
   have e2:(Bk ls y (k:Int)).ts=y.ts:=by unfold Bk;rw[e]
   have e3:=KS e;rw[e2]at hkeep⊢;refine⟨hkeep,fun i a b=>(hk.at_ i a b).imp id fun⟨q1,q2⟩=>⟨by omega,q2⟩,fun c hc u hu=> ?_⟩
   by_cases hck:c<k
   ·exact hk.ran c hck u hu
   · have:c=k:=by omega
     subst this;rw[←hsame,e3]at hu;cases hu
  |some t=>
   have hm:=HK e;have hbest:BestOn ls x.ts (k:Int) t:=⟨(hsame t).1 hm,fun u hu=>(HM (PU hy) _ none t (fun u hu=>(List.mem_filter.1 hu).1) (fun _ hx=>by cases hx) e).2.1 u ((hsame u).2 hu)⟩
   obtain⟨i,hi,hit,hix⟩:=Cq hy (List.mem_filter.1 hm).1;have e2:(Bk ls y (k:Int)).ts=y.ts.set i (FR t (y.seq+1)):=by unfold Bk;rw[e];simp only[hix,Option.getD_some];rfl
   have a:i<x.ts.length:=by omega
   have hcp:t.Cpu=(k:Int):=uQ hm;have hxi:x.ts[i]=t:=by
    rcases hk.at_ i a hi with q|⟨q,_⟩
    ·rw[←q,hit]
    · have:=(hk.keeps.at_ i a).cpu
      rw[hit]at this;omega
   rw[e2]at hkeep⊢;have hset:(y.ts.set i (FR t (y.seq+1))).length=y.ts.length:=List.length_set ..;refine⟨hkeep,fun j ja jb=> ?_,fun c hc u hu=> ?_⟩
   · rw[List.getElem_set]
     split
     · rename_i hj
       subst hj;exact .inr ⟨by rw[hxi];omega,by rw[hxi,hcp];exact hbest,y.seq+1,by rw[hxi]⟩
     ·exact(hk.at_ j ja (by omega)).imp id fun⟨q1,q2⟩=>⟨by omega,q2⟩
   · by_cases hck:c<k
     · obtain⟨j,ja,jb,q1,q2,q,q3⟩:=hk.ran c hck u hu
       refine⟨j,ja,by omega,q1,q2,q,?_⟩
       rw[List.getElem_set,if_neg]
       ·exact q3
       ·intro hj;subst hj;rw[hxi]at q1;omega
     · have:c=k:=by omega
       subst this;exact⟨i,a,by omega,by rw[hxi];exact hcp,by rw[hxi];exact hbest,y.seq+1,by rw[hxi];exact List.getElem_set_self ..⟩
theorem ZM{s:Sys}(h:SysOk s)(hc:Aw s):Chg s.Locks (AF s) (Av s).Tasks s.Cpus.toNat:=
 ZS s.Locks ⟨AF s,s.Seq,s.Trace⟩ ((FS (El h hc)).tasksOk h.tasks) s.Cpus.toNat
end Go.Proofs.YthoholbeacojfaaGreat.VR
end
section
set_option linter.unusedVariables false
set_option linter.unusedSimpArgs false
namespace Go.Proofs.YthoholbeacojfaaGreat.VR
open Go
def Bv(s:Sys)(cpu:Int):Int:=s.Floors.getD cpu.toNat 0
def C5(s:Sys):Prop:= ∀t∈s.Tasks,t.Class=3→t.V≤Bv s t.Cpu+48∧(t.Idle=false→Bv s t.Cpu≤t.V)
theorem T8{m:Int}: ∀(l:List Task) (o:Option (Int×Int)),(∀t∈l,BR t=true→m≤t.V)→(∀a b,o=some (a,b)→m≤a)→ ∀a b,l.foldl Ck o=some (a,b)→m≤a
 | [],o,_,h2,a,b,e=>h2 a b e
 |t::l,o,h1,h2,a,b,e=>by
  refine T8 l (Ck o t) (fun u hu=>h1 u (List.mem_cons_of_mem _ hu)) (fun a b e=> ?_) a b e
  unfold Ck at e;split at e
  · rename_i hf
    have:=h1 t (List.mem_cons_self ..) hf;split at e
    ·injection e with e;injection e with e1 e2;omega
    · rename_i a0 b0 _
      injection e with e;injection e with e1 e2
      have:=h2 a0 b0 rfl;omega
  ·exact h2 a b e
theorem QD{t:Task}(hf:BR t=true): ∀(l:List Task) (o:Option (Int×Int)),(t∈l∨ ∃a b,o=some (a,b)∧a≤t.V)→ ∃a b,l.foldl Ck o=some (a,b)∧a≤t.V
 | [],o,h=>by rcases h with h|h;cases h;exact h
 |u::l,o,h=>by
  refine QD hf l (Ck o u) ?_;rcases h with h|⟨a,b,h1,h2⟩
  · rcases List.mem_cons.1 h with rfl|h
    · refine .inr ?_
      unfold Ck;rw[if_pos hf];split
      ·exact⟨_,_,rfl,Int.le_refl _⟩
      ·exact⟨_,_,rfl,Int.min_le_right ..⟩
    ·exact .inl h
  · refine .inr ?_
    subst h1;unfold Ck;split
    ·exact⟨_,_,rfl,by have:=Int.min_le_left a u.V;omega⟩
    ·exact⟨a,b,rfl,h2⟩
theorem bp{l:List Task}{f:Int}{t:Task}(ht:t∈l)(hf:BR t=true)(h1:f≤t.V):B6 l f≤t.V:=by
 obtain⟨a,b,e,h2⟩:=QD hf l none (.inl ht);have e':Bm l=some (a,b):=e;unfold B6;rw[e'];simp only;omega
theorem bo{l:List Task}{f m:Int}{t:Task}(ht:t∈l)(hf:BR t=true)(h1: ∀u∈l,BR u=true→m≤u.V):m≤B6 l f:=by
 obtain⟨a,b,e,h2⟩:=QD hf l none (.inl ht);have:=T8 l none h1 (fun _ _ h=>by cases h) a b e
 have e':Bm l=some (a,b):=e;unfold B6;rw[e'];simp only;omega
theorem tL(n:Int):0≤EG n∧EG n≤48:=by unfold EG;(repeat' split)<;>omega
theorem tF{t:Task}(q:Int)(hc:t.Class=3):t.V≤(FR t q).V∧(FR t q).V≤t.V+48:=by
 have e1:(Ba t q).1=t:=by unfold Ba;rw[if_neg fun x=>by have:=x.1.2;omega]
 have e2:BZ t=t:=by unfold BZ;rw[if_neg fun x=>by have:=x.1.2;omega]
 have:=tL t.Nice;unfold FR;rw[e1,e2];unfold CM Cw;split
 · split
   ·simp only;omega
   ·omega
 ·omega
theorem ZX{s:Sys}(h:s.Now<100000){i:Nat}(a:i<s.Tasks.length)(b:i<(AF s).length):(AF s)[i]=B4 (F3 s) s.Locks s.Floors s.Now (B9 s.Now s.Tasks[i]):=by
 simp only[AF,F3,List.getElem_map]
theorem uj{s:Sys}(h:SysOk s)(hc:Aw s)(hf:C5 s){i:Nat}(a:i<s.Tasks.length)(b:i<(AF s).length)(hcl:s.Tasks[i].Class=3):
 (AF s)[i].V≤Bv s s.Tasks[i].Cpu+48∧((AF s)[i].Idle=false→Bv s s.Tasks[i].Cpu≤(AF s)[i].V):=by
 have hm:=List.getElem_mem a;obtain⟨h1,h2⟩:=hf _ hm hcl;have hfl:=h.floor hm;have hok:=h.tasks.each _ hm;have hv:=Sq hok hcl;rw[ZX (El h hc) a b,SM (by omega)]
 generalize s.Tasks[i]=t at*;unfold B4;split
 · split
   · have e1:CD {t with Idle:=false} s.Now={t with Idle:=false}:=by
      unfold CD;rw[if_neg];intro x;have:=x.1.2;simp only at this;omega
     have e3:BR {t with Idle:=false}=true:=(C9 _).2 ⟨(Ln t false).ok hok,hcl⟩
     rw[e1];unfold CF Cw;rw[if_pos e3];unfold Bv at*;split
     ·simp only;omega
     ·simp only at*;omega
   · rename_i hi
     exact⟨h1,fun _=>h2 (by simpa using hi)⟩
 ·exact⟨h1,fun x=>by cases x⟩
theorem uA{s:Sys}(h:SysOk s){t:Task}(ht:t∈s.Tasks):Bv (Av s) t.Cpu=B6 (BK (AF s) t.Cpu) (Bv s t.Cpu):=by
 obtain⟨h1,h2,_⟩:=h.floor ht;obtain⟨c,hc⟩: ∃c:Nat,t.Cpu=(c:Int):=⟨t.Cpu.toNat,by omega⟩
 have hl:c<s.Floors.length:=by omega
 have e0:(Av s).Floors=(List.range s.Floors.length).map fun(i:Nat)=>B6 (BK (AF s) (i:Int)) (s.Floors.getD i 0):=rfl
 unfold Bv;rw[hc,Int.toNat_natCast,Af (by rw[bq];exact hl)]
 simp only[e0,List.getElem_map,List.getElem_range]
theorem Zx{s:Sys}(h:SysOk s)(hc:Aw s){u:Task}{c:Int}(hu:u∈BK (AF s) c)(hcl:u.Class≠1):u∈Ag (AF s) s.Locks c:=by
 unfold BK at hu;rw[List.mem_filter]at hu;simp only[Bool.and_eq_true,decide_eq_true_eq,Bool.not_eq_true']at hu;obtain⟨h1,h2,h3⟩:=hu;have hk:=FS (s:=s) (El h hc);have hw:=hk.tasksOk h.tasks;rw[IT];refine⟨h1,h2,?_⟩;obtain⟨i,b,rfl⟩:=List.mem_iff_getElem.1 h1;have a:i<s.Tasks.length:=by rw[←hk.len];exact b
 have e:=(S7 (El h hc)).idle i a b;rw[h3]at e;have hno:=(hk.at_ i a).no;have hab:BX (AF s) s.Locks (AF s)[i].No=true:=by
  rw[hk.able,hno];cases hb:BX s.Tasks s.Locks s.Tasks[i].No with
  |true=>rfl
  |false=>rw[hb]at e;cases e
 have e2:=HD hw h1;unfold BQ Dh;rw[hab,e2];simp[hw,h.locks.2.1,hcl]
theorem bk{s:Sys}(h:SysOk s)(hc:Aw s)(hf:C5 s):C5 (Av s):=by
 have hnow:=El h hc;have hk:=FS (s:=s) hnow;have hw:=hk.tasksOk h.tasks;have hch:=ZM h hc;have hkk:=PV hnow h.tasks;intro t ht hcl;obtain⟨i,b,rfl⟩:=List.mem_iff_getElem.1 ht;have a:i<s.Tasks.length:=by rw[←hkk.len];exact b
 have w:i<(AF s).length:=by rw[hk.len];exact a
 have k1:=hkk.at_ i a;have k2:=hk.at_ i a;have hcl0:s.Tasks[i].Class=3:=by rw[←k1.cls];exact hcl
 have hclw:(AF s)[i].Class=3:=by rw[k2.cls];exact hcl0
 obtain⟨g1,g2⟩:=uj h hc hf a w hcl0;have hfair:BR (AF s)[i]=true:=(C9 _).2 ⟨hw.each _ (List.getElem_mem w),hclw⟩;have hfl:Bv (Av s) (Av s).Tasks[i].Cpu=B6 (BK (AF s) s.Tasks[i].Cpu) (Bv s s.Tasks[i].Cpu):=by
  rw[k1.cpu];exact uA h (List.getElem_mem a)
 have hge:Bv s s.Tasks[i].Cpu≤B6 (BK (AF s) s.Tasks[i].Cpu) (Bv s s.Tasks[i].Cpu):=
  (UI (fun t ht=>hw.each t (List.mem_filter.1 ht).1) (h.floor (List.getElem_mem a)).2.2).1
 have hlow:(AF s)[i].Idle=false→B6 (BK (AF s) s.Tasks[i].Cpu) (Bv s s.Tasks[i].Cpu)≤(AF s)[i].V:=fun hi=>
  bp (List.mem_filter.2 ⟨List.getElem_mem w,by simp[k2.cpu,hi]⟩) hfair (g2 hi)
 rw[hfl];rcases hch.at_ i w b with e|⟨_,hb,q,e⟩
 · rw[e]
   exact⟨by omega,hlow⟩
 · have hsp:=tF q hclw
   have hid:(FR (AF s)[i] q).Idle=(AF s)[i].Idle:=Si _ q;have hab:=P2 (IT.1 hb.mem).2.2;have hidle:(AF s)[i].Idle=false:=by
    rw[(S7 hnow).idle i a w,←hk.able,←k2.no,hab];rfl
   have hup:(AF s)[i].V≤B6 (BK (AF s) s.Tasks[i].Cpu) (Bv s s.Tasks[i].Cpu):=by
    refine bo (List.mem_filter.2 ⟨List.getElem_mem w,by simp[k2.cpu,hidle]⟩) hfair fun u hu huf=> ?_
    have huc:=((C9 u).1 huf).2;have hut:=Zx h hc hu (by omega)
    rw[←k2.cpu]at hut;have hnb:=hb.best u hut;rcases Int.lt_or_le u.V (AF s)[i].V with hlt|hle
    ·exact absurd ⟨((C9 u).1 huf).1,hw.each _ (List.getElem_mem w),.inr ⟨by omega,.inr (.inr ⟨huc,.inl hlt⟩)⟩⟩ hnb
    ·exact hle
   rw[e];have:=hlow hidle;exact⟨by omega,fun _=>by omega⟩
end Go.Proofs.YthoholbeacojfaaGreat.VR
end
section
set_option linter.unusedVariables false
set_option linter.unusedSimpArgs false
namespace Go.Proofs.YthoholbeacojfaaGreat.VR
open Go
def GW(s:Sys)(t:Task):Prop:=t.Class=3→t.V≤Bv s t.Cpu+48∧(t.Idle=false→Bv s t.Cpu≤t.V)
theorem bf{s:Sys}(hf:C5 s)(ts:List Task)(ls:List Lock)(gs:List Ghost)(q:Int)(h: ∀t∈ts,t∈s.Tasks∨GW s t):C5 {s with Tasks:=ts,Locks:=ls,Ghosts:=gs,Seq:=q}:=by
 intro t ht hc;rcases h t ht with h|h
 ·exact hf t h hc
 ·exact h hc
theorem Bn{p:Prop}[Decidable p]{a b:Sys×Int}(ha:p→C5 a.1)(hb: ¬p→C5 b.1):C5 (if p then a else b).1:=by
 split
 ·rename_i h;exact ha h
 ·rename_i h;exact hb h
theorem Qu{s:Sys}(h:SysOk s){cpu:Int}(h0:0≤cpu)(h1:cpu<s.Cpus):Bw s cpu=Bv s cpu∧0≤Bv s cpu∧Bv s cpu≤100000000:=by
 have hl:=h.flen;obtain⟨c,rfl⟩: ∃c:Nat,cpu=(c:Int):=⟨cpu.toNat,by omega⟩
 have hc:c<s.Floors.length:=by omega
 rw[bn hc];unfold Bv;rw[Int.toNat_natCast,Af hc];exact⟨rfl,h.floors _ (List.getElem_mem hc)⟩
theorem dv{s:Sys}{c:Call}(h:SysOk s)(hk:1≤c.Kind∧c.Kind≤3)(h1: ¬(s.Cpus≤c.Cpu∨(Al s c).2=false)):GW s (Al s c).1:=by
 intro hc;have h2:(Al s c).2=true:=by
  cases e:(Al s c).2 with
  |true=>rfl
  |false=>exact absurd (.inr e) h1
 have hn:=Jw h2 hk;have hk3:c.Kind=3:=by rw[←hn.2.2.1];exact hc
 have e:Al s c=CG ⟨c.No,3,c.Cpu,1,false,0,0,0,0,0,0,0,c.A,Bw s c.Cpu⟩:=by
  unfold Al;rw[if_neg (by omega),if_neg (by omega)];rfl
 rw[e]at h2⊢;have hok:=RV.1 h2;have e2:(CG ⟨c.No,3,c.Cpu,1,false,0,0,0,0,0,0,0,c.A,Bw s c.Cpu⟩).1=⟨c.No,3,c.Cpu,1,false,0,0,0,0,0,0,0,c.A,Bw s c.Cpu⟩:=by unfold CG;rw[if_pos hok]
 rw[e2];obtain⟨q1,q2,q3⟩:Bw s c.Cpu=Bv s c.Cpu∧0≤Bv s c.Cpu∧Bv s c.Cpu≤100000000:=Qu h hok.cpu.1 (show c.Cpu<s.Cpus by have:=fun x=>h1 (.inl x);omega)
 show Bw s c.Cpu≤Bv s c.Cpu+48∧(_→Bv s c.Cpu≤Bw s c.Cpu);rw[q1];exact⟨by omega,fun _=>Int.le_refl _⟩
theorem bh{s:Sys}{c:Call}(h:SysOk s)(hf:C5 s)(hk:c.Kind≠11):C5 (Bb s c).1:=by
 have r:C5 s:=hf;have mk:=fun ts ls gs q h=>bf (s:=s) hf ts ls gs q h
 have same: ∀t∈s.Tasks,t∈s.Tasks∨GW s t:=fun t h=>.inl h
 unfold Bb;rw[if_neg hk];refine Bn (fun hk3=> ?_) (fun _=> ?_)
 · unfold BP
   refine Bn (fun _=>r) fun h1=>Bn (fun _=>r) fun _=>Bn (fun _=>r) fun _=>Bn (fun _=>r) fun _=> ?_
   have hins: ∀t∈insT s.Tasks (Al s c).1,t∈s.Tasks∨GW s t:=fun t ht=>by
    rcases I7.1 ht with rfl|ht
    ·exact .inr (dv h hk3 h1)
    ·exact .inl ht
   exact Bn (fun _=>Bn (fun _=>r) fun _=>mk _ s.Locks s.Ghosts (s.Seq+1) hins) fun _=>mk _ s.Locks s.Ghosts s.Seq hins
 · cases e:AR s.Tasks c.No with
   |none=>exact r
   |some i=>
    obtain⟨hi,_⟩:=Bj e;dsimp only;rw[Af hi];have hm:=List.getElem_mem hi;have hset: ∀t',GW s t'→ ∀t∈s.Tasks.set i t',t∈s.Tasks∨GW s t:=fun t' h t ht=>by
     rcases MG hi ht with rfl|ht
     ·exact .inr h
     ·exact .inl ht
    have her: ∀t∈s.Tasks.eraseIdx i,t∈s.Tasks∨GW s t:=fun t ht=>.inl ((List.eraseIdx_sublist _ _).subset ht)
    have h0:GW s s.Tasks[i]:=hf _ hm;unfold Cu;refine Bn (fun _=>Bn (fun _=>r) fun _=>mk _ s.Locks s.Ghosts s.Seq (hset _ h0)) fun _=>Bn (fun _=>Bn (fun _=>r) fun _=>mk _ s.Locks s.Ghosts s.Seq (hset _ h0)) fun _=>Bn (fun _=> ?_) fun _=>Bn (fun _=> ?_) fun _=> ?_
    · unfold Cl
      exact Bn (fun _=>r) fun _=>Bn (fun _=>Bn (fun _=>r) fun _=>mk _ s.Locks _ s.Seq her) fun _=>mk _ s.Locks s.Ghosts s.Seq her
    · unfold Ce
      exact Bn (fun _=>r) fun _=>Bn (fun _=>r) fun _=>Bn (fun _=>mk s.Tasks _ s.Ghosts s.Seq same) fun _=>Bn (fun _=>r) fun _=>Bn (fun _=>r) fun _=>mk s.Tasks _ s.Ghosts s.Seq same
    · unfold Cz
      refine Bn (fun _=>r) fun hcl=>Bn (fun _=>Bn (fun _=>mk _ s.Locks s.Ghosts s.Seq (hset _ h0)) fun _=>r) fun _=>Bn (fun _=>r) fun _=>Bn (fun _=>r) fun hcp=>mk _ s.Locks s.Ghosts s.Seq (hset _ ?_)
      unfold ET;split
      · rename_i hmv
        intro _;obtain⟨q1,q2⟩:=h0 (by omega)
        have p1:=(Qu h (h.tasks.each _ hm).cpu.1 (h.tcpu _ hm)).1;have p2:=(Qu h (cpu:=c.Cpu) (by omega) (by omega)).1
        dsimp only;rw[p1,p2];exact⟨by omega,fun hi=>by have:=q2 hi;omega⟩
      ·exact h0
theorem UK: ∀(n:Nat) (s:Sys),SysOk s→C5 s→(∀i,i<n→Aw (BF i s))→C5 (BF n s)
 |0,s,_,hf,_=>hf
 |n+1,s,h,hf,hc=>by
  rw[Hq];exact bk (Fg n s h fun i hi=>hc i (by omega)) (hc n (by omega)) (UK n s h hf fun i hi=>hc i (by omega))
theorem bj{s:Sys}{c:Call}(h:SysOk s)(hf:C5 s)(hc:BY c=true):C5 (Ad s c).1:=by
 by_cases hk:c.Kind=11
 · rw[MN h hc hk]
   rcases MQ h c.A with⟨_,e⟩|⟨m,_,_,_,e,hct⟩
   ·rw[e];exact hf
   ·rw[e];exact UK m s h hf hct
 ·rw[Eb h hc];exact bh h hf hk
end Go.Proofs.YthoholbeacojfaaGreat.VR
end
section
set_option linter.unusedVariables false
set_option linter.unusedSimpArgs false
namespace Go.Proofs.YthoholbeacojfaaGreat.VR
open Go
def Ae{β:Type}(f:β→Int):List β→Int
 | []=>0
 |x::l=>f x+Ae f l
theorem Yp{β:Type}(f:β→Int): ∀a b:List β,Ae f (a++b)=Ae f a+Ae f b
 | [],b=>by simp[Ae]
 |x::a,b=>by simp only[List.cons_append,Ae,Yp f a b];omega
theorem Yt{β:Type}(f:β→Int){a b:List β}(h:a.Perm b):Ae f a=Ae f b:=by
 induction h with
 |nil=>rfl
 |cons x _ ih=>simp only[Ae,ih]
 |swap x y l=>simp only[Ae];omega
 |trans _ _ ih1 ih2=>exact ih1.trans ih2
theorem PP{β:Type}{f g:β→Int}: ∀{l:List β},(∀x∈l,f x≤g x)→Ae f l≤Ae g l
 | [],_=>Int.le_refl _
 |x::l,h=>by
  have h1:=h x (List.mem_cons_self ..);have h2:=PP fun y hy=>h y (List.mem_cons_of_mem _ hy)
  simp only[Ae];omega
theorem Yr{β:Type}{f g:β→Int}{d:Int}: ∀{l:List β},(∀x∈l,f x≤g x)→(∃x∈l,f x+d≤g x)→Ae f l+d≤Ae g l
 | [],_,h=>by obtain⟨x,hx,_⟩:=h;cases hx
 |y::l,h,⟨x,hx,he⟩=>by
  have h1:=h y (List.mem_cons_self ..);have hl: ∀z∈l,f z≤g z:=fun z hz=>h z (List.mem_cons_of_mem _ hz)
  simp only[Ae];rcases List.mem_cons.1 hx with rfl|hx
  ·have:=PP hl;omega
  ·have:=Yr (d:=d) hl ⟨x,hx,he⟩;omega
theorem Sn{β:Type}(f g:β→Int): ∀l:List β,Ae (fun x=>f x+g x) l=Ae f l+Ae g l
 | []=>rfl
 |x::l=>by simp only[Ae,Sn f g l];omega
theorem Yq{β:Type}{f:β→Int}{p:β→Bool}: ∀{l:List β},(∀x∈l,p x=false→f x=0)→Ae f (l.filter p)=Ae f l
 | [],_=>rfl
 |x::l,h=>by
  have ih:=Yq (f:=f) (p:=p) (l:=l) fun y hy=>h y (List.mem_cons_of_mem _ hy)
  rw[List.filter_cons];cases hp:p x with
  |true=>simp only[if_true,Ae,ih]
  |false=>simp only[Ae,ih,h x (List.mem_cons_self ..) hp,Int.zero_add,Bool.false_eq_true,if_false]
theorem MM{β:Type}{f g:β→Int}{d:Int}: ∀{a b:List β},b.length=a.length→(∀i (h:i<a.length) (h':i<b.length),f b[i]≤g a[i])→(d=0∨ ∃i,∃h:i<a.length,∃h':i<b.length,f b[i]+d≤g a[i])→Ae f b+d≤Ae g a
 | [],[],_,_,h=>by rcases h with h|⟨i,h,_⟩;simp[Ae,h];simp at h
 |x::a,y::b,hl,h,hd=>by
  have hl':b.length=a.length:=by simpa using hl
  have h0:f y≤g x:=h 0 (by simp) (by simp)
  have ht: ∀i (h:i<a.length) (h':i<b.length),f b[i]≤g a[i]:=fun i h1 h2=>h (i+1) (by simp;omega) (by simp;omega)
  simp only[Ae];have hz:=MM (f:=f) (g:=g) (d:=0) hl' ht (.inl rfl);rcases hd with hd|⟨i,h1,h2,h3⟩
  ·omega
  · cases i with
    |zero=>have h3:f y+d≤g x:=h3;omega
    |succ i=>
     have:=MM (f:=f) (g:=g) (d:=d) hl' ht (.inr ⟨i,by simpa using h1,by simpa using h2,h3⟩)
     omega
 | [],_::_,hl,_,_=>by simp at hl
 |_::_,[],hl,_,_=>by simp at hl
def uT(t:Task):Int:=(uN ⟨t.Q,t.P⟩:Nat)
def DI:Int:=(DD:Nat)
def B7(now:Int)(t:Task):Int:=t.Left*DI-uT t*(t.Due-now)
def con(now T c:Int)(t:Task):Int:=if t.Class=1∧t.Cpu=c∧t.Due≤T then(if t.Idle=true then min (B7 now t) 0 else B7 now t)else 0
def Cn(now T c:Int)(g:Ghost):Int:=if g.Cpu=c∧g.Until≤T∧now<g.Until then-((uN g.S:Nat):Int)*(g.Until-now)else 0
def wT(c:Int)(t:Task):Int:=if t.Class=1∧t.Cpu=c then uT t else 0
def wG(c:Int)(g:Ghost):Int:=if g.Cpu=c then((uN g.S:Nat):Int)else 0
theorem KH(t:Task):0≤uT t:=by unfold uT;omega
theorem uZ(c:Int)(t:Task):0≤wT c t:=by have:=KH t;unfold wT;split<;>omega
theorem sC{q p:Int}(h:A9 ⟨q,p⟩): ∃e:Int,0<e∧DI=e*p∧((uN ⟨q,p⟩:Nat):Int)=q*e:=by
 obtain⟨⟨h1,h2⟩,h3,h4⟩:=h;simp only at h1 h2 h3 h4;have hd:=TB p.toNat (by omega) (by omega)
 have hpos:0<DD:=by decide
 have hp:(p.toNat:Int)=p:=by omega
 have hq:(q.toNat:Int)=q:=by omega
 refine⟨(DD/p.toNat:Nat),?_,?_,?_⟩
 · rcases Nat.eq_zero_or_pos (DD/p.toNat)with h0|h0
   ·rw[h0]at hd;omega
   ·exact Int.ofNat_lt.2 h0
 · unfold DI
   rw[←hp];simp only[Int.toNat_natCast]
   exact_mod_cast hd.symm
 · unfold uN
   simp only;rw[Int.natCast_mul,hq]
theorem RN{t:Task}(h:A9 ⟨t.Q,t.P⟩)(now:Int): ∃e:Int,0<e∧B7 now t=e*(t.Left*t.P-t.Q*(t.Due-now)):=by
 obtain⟨e,h1,h2,h3⟩:=sC h;refine⟨e,h1,?_⟩;unfold B7 uT;have a:t.Left*(e*t.P)=e*(t.Left*t.P):=by rw[←Int.mul_assoc,Int.mul_comm t.Left e,Int.mul_assoc]
 have b:t.Q*e*(t.Due-now)=e*(t.Q*(t.Due-now)):=by rw[Int.mul_comm t.Q e,Int.mul_assoc]
 rw[h2,h3,a,b,←Int.mul_sub]
theorem dL{t:Task}(h:A9 ⟨t.Q,t.P⟩){now:Int}(h1:t.Q*(t.Due-now)≤t.Left*t.P):0≤B7 now t:=by
 obtain⟨e,h2,h3⟩:=RN h now;rw[h3];exact Int.mul_nonneg (by omega) (by omega)
theorem dM{t:Task}(h:A9 ⟨t.Q,t.P⟩){now:Int}(h1:t.Left*t.P≤t.Q*(t.Due-now)):B7 now t≤0:=by
 obtain⟨e,h2,h3⟩:=RN h now;rw[h3];exact Int.mul_nonpos_of_nonneg_of_nonpos (by omega) (by omega)
theorem RP{t:Task}(h:A9 ⟨t.Q,t.P⟩){now:Int}(h1:t.Left*t.P=t.Q*(t.Due-now)):B7 now t=0:=by
 obtain⟨e,h2,h3⟩:=RN h now;rw[h3,h1,Int.sub_self,Int.mul_zero]
theorem GA{now T c:Int}{t:Task}(h:t.Class≠1):con now T c t=0:=by unfold con;rw[if_neg fun x=>h x.1]
theorem Md{now T c:Int}{t:Task}(h:B7 now t=0):con now T c t=0:=by
 unfold con;rw[h];split
 ·split<;>rfl
 ·rfl
def Dj(now:Int)(ts:List Task)(gs:List Ghost)(c T:Int):Int:=Ae (con now T c) ts+Ae (Cn now T c) gs
structure DueInv(s:Sys):Prop where
 sum: ∀c T,Dj s.Now s.Tasks s.Ghosts c T≤0
 due: ∀t∈s.Tasks,t.Class=1→t.Idle=false→s.Now≤t.Due
 missed:s.Missed=0
theorem PQ(c:Int): ∀ts:List Task,Ae (wT c) ts=(Bt (Ac ts c):Nat)
 | []=>rfl
 |t::ts=>by
  rw[HA,S3,Ae,PQ c ts];unfold wT
  by_cases h:t.Cpu=c∧t.Class=1
  · rw[if_pos h,if_pos ⟨h.2,h.1⟩]
    simp only[Bt,uT];omega
  · rw[if_neg h,if_neg fun x=>h ⟨x.2,x.1⟩]
    simp only[Bt];omega
theorem Yy(c:Int): ∀gs:List Ghost,Ae (wG c) gs=(Bt (A3 gs c):Nat)
 | []=>rfl
 |g::gs=>by
  rw[Ae,Yy c gs];unfold wG A3;rw[List.filter_cons]
  by_cases h:g.Cpu=c
  ·simp only[h,decide_true,if_true,List.map_cons,Bt];omega
  ·simp only[h,decide_false,if_false];simp
theorem whole{s:Sys}(h:SysOk s){c:Int}(h0:0≤c)(h1:c<s.Cpus):Ae (wT c) s.Tasks+Ae (wG c) s.Ghosts≤DI:=by
 have hf:=h.fits c.toNat (by omega)
 have hc:(c.toNat:Int)=c:=by omega
 rw[hc]at hf;have:=((Qr _).1 hf).2;unfold Aj at this;rw[S3]at this;rw[PQ,Yy];unfold DI;omega
end Go.Proofs.YthoholbeacojfaaGreat.VR
end
section
set_option linter.unusedVariables false
set_option linter.unusedSimpArgs false
namespace Go.Proofs.YthoholbeacojfaaGreat.VR
open Go
theorem Id:0<DI:=by unfold DI;exact Int.ofNat_lt.2 (by decide:0<DD)
theorem Ys{β:Type}(f:β→Int)(d:Int): ∀l:List β,Ae (fun x=> -(f x)*d) l= -(Ae f l)*d
 | []=>by simp[Ae]
 |x::l=>by simp only[Ae,Ys f d l];rw[Int.neg_add,Int.add_mul]
theorem aT{now T c:Int}{t:Task}(h:TaskOk t)(hT:now≤T): -(wT c t)*(T-now)≤con now T c t:=by
 have hu:=KH t;have hz:0≤uT t*(T-now):=Int.mul_nonneg hu (by omega)
 unfold con wT
 by_cases h1:t.Class=1∧t.Cpu=c
 · rw[if_pos h1]
   have hl:=(h.due h1.1).left.1;have hL:0≤t.Left*DI:=Int.mul_nonneg hl (by have:=Id;omega)
   by_cases h2:t.Due≤T
   · rw[if_pos ⟨h1.1,h1.2,h2⟩]
     have hm:uT t*(t.Due-now)≤uT t*(T-now):=Int.mul_le_mul_of_nonneg_left (by omega) hu
     rw[Int.neg_mul];unfold B7;split<;>omega
   ·rw[if_neg fun x=>h2 x.2.2,Int.neg_mul];omega
 ·rw[if_neg h1,if_neg fun x=>h1 ⟨x.1,x.2.1⟩];simp
theorem bw{now T c:Int}{g:Ghost}(hT:now≤T): -(wG c g)*(T-now)≤Cn now T c g:=by
 have hu:(0:Int)≤(uN g.S:Nat):=by omega
 have hz:0≤((uN g.S:Nat):Int)*(T-now):=Int.mul_nonneg hu (by omega)
 unfold Cn wG
 by_cases h1:g.Cpu=c
 · rw[if_pos h1]
   by_cases h2:g.Until≤T∧now<g.Until
   · rw[if_pos ⟨h1,h2⟩]
     have hm:((uN g.S:Nat):Int)*(g.Until-now)≤(uN g.S:Nat)*(T-now):=Int.mul_le_mul_of_nonneg_left (by omega) hu
     rw[Int.neg_mul,Int.neg_mul];omega
   ·rw[if_neg fun x=>h2 x.2,Int.neg_mul];omega
 ·rw[if_neg h1,if_neg fun x=>h1 x.1];simp
theorem T7{s:Sys}(h:SysOk s)(hd:DueInv s){t:Task}(ht:t∈s.Tasks)(hc:t.Class=1)(hi:t.Idle=false):t.Left≤t.Due-s.Now:=by
 have hnow:=hd.due t ht hc hi;have hok:=h.tasks.each t ht;have h1:=hd.sum t.Cpu t.Due;have h2:=whole h hok.cpu.1 (h.tcpu t ht);have h3:Ae (fun u=> -(wT t.Cpu u)*(t.Due-s.Now)) s.Tasks+t.Left*DI≤Ae (con s.Now t.Due t.Cpu) s.Tasks:=
  Yr (fun u hu=>aT (h.tasks.each u hu) hnow) ⟨t,ht,by
   unfold con wT;rw[if_pos ⟨hc,rfl⟩,if_pos ⟨hc,rfl,Int.le_refl _⟩,if_neg (by simp[hi])]
   unfold B7;rw[Int.neg_mul];omega⟩
 have h4:Ae (fun g=> -(wG t.Cpu g)*(t.Due-s.Now)) s.Ghosts≤Ae (Cn s.Now t.Due t.Cpu) s.Ghosts:=PP fun g _=>bw hnow
 rw[Ys]at h3 h4;unfold Dj at h1;have h5:(Ae (wT t.Cpu) s.Tasks+Ae (wG t.Cpu) s.Ghosts)*(t.Due-s.Now)≤DI*(t.Due-s.Now):=Int.mul_le_mul_of_nonneg_right h2 (by omega)
 rw[Int.add_mul]at h5;rw[Int.neg_mul]at h3 h4;have h6:t.Left*DI≤(t.Due-s.Now)*DI:=by rw[Int.mul_comm (t.Due-s.Now)];omega
 exact Int.le_of_mul_le_mul_right h6 Id
theorem VN{t:Task}(h:TaskOk t)(hc:t.Class=1)(now:Int){b:Bool}:B7 now {t with Left:=t.Q,Due:=now+t.P,Idle:=b}=0:=
 RP (t:={t with Left:=t.Q,Due:=now+t.P,Idle:=b}) (h.due hc).share (by show t.Q*t.P=t.Q*(now+t.P-now);rw[show now+t.P-now=t.P by omega])
theorem pL{now T c:Int}{t:Task}(h:TaskOk t)(h1:t.Class=1→t.Idle=false→now≤t.Due∧t.Left≤t.Due-now):con now T c (B9 now t)≤con now T c t:=by
 unfold B9;split
 · rename_i h2
   obtain⟨a1,a2⟩:=h1 h2.1 h2.2.1;unfold FW;split
   · have hd:=h.due h2.1
     have e:t.Due=now:=by omega
     have hl:t.Left=0:=by have:=hd.left.1;omega
     have l0:B7 now t=0:=RP hd.share (by rw[hl,e,Int.sub_self,Int.zero_mul,Int.mul_zero])
     rw[Md l0,Md]
     ·omega
     · have:=VN h h2.1 now (b:=t.Idle)
       rw[e];exact this
   ·omega
 ·omega
theorem pM{now:Int}{t:Task}(h:TaskOk t)(hn:0≤now∧now≤100000)(h1:t.Class=1→t.Idle=false→now≤t.Due)(hc:(B9 now t).Class=1)(hi:(B9 now t).Idle=false):now<(B9 now t).Due:=by
 unfold B9 at hc hi⊢;split at hc
 · rename_i h2
   rw[if_pos h2];have hs:=(h.due h2.1).share;have:=h1 h2.1 h2.2.1;unfold FW;rw[if_pos ⟨⟨h,h2.1⟩,hn,h2.2.2⟩];show now<t.Due+t.P;omega
 · rename_i h2
   rw[if_neg h2]at hi⊢;rcases Int.lt_or_le now t.Due with q|q
   ·exact q
   ·exact absurd ⟨hc,hi,q⟩ h2
theorem ud{ts:List Task}{ls:List Lock}{fs:List Int}{now T c:Int}{t:Task}(h:TaskOk t)(hn:0≤now∧now≤100000):con now T c (B4 ts ls fs now t)≤con now T c t:=by
 by_cases hc:t.Class=1
 · have hd:=h.due hc
   unfold B4;split
   · split
     · rename_i hi
       have k0:=(Ln t false).ok h;have e1: ∀u:Task,u.Class=1→ ∀f,CF u f=u:=fun u hu f=>by
        unfold CF;rw[if_neg];intro x;have:=((C9 _).1 x).2;omega
       unfold CD;rw[if_pos ⟨⟨k0,hc⟩,hn⟩];dsimp only;split
       · rename_i hr
         rw[e1 {t with Idle:=false,Left:=t.Q,Due:=now+t.P} hc,Md (VN h hc now)]
         have hl:0≤B7 now t:=dL hd.share (by
          rcases hr with hr|hr
          · have a:t.Q*(t.Due-now)≤0:=Int.mul_nonpos_of_nonneg_of_nonpos (by have:=hd.share;omega) (by omega)
            have b:0≤t.Left*t.P:=Int.mul_nonneg hd.left.1 (by have:=hd.share;omega)
            omega
          ·rw[Int.mul_comm];omega)
         unfold con;split
         ·omega
         ·omega
       · rename_i hr
         rw[e1 {t with Idle:=false} hc]
         have hl:B7 now t≤0:=dM hd.share (by rw[Int.mul_comm t.Q];omega)
         unfold con;dsimp only;split
         · rw[if_neg (by simp)]
           show B7 now t≤min (B7 now t) 0;omega
         ·omega
     ·omega
   · unfold con
     dsimp only;split
     · rw[if_pos rfl]
       show min (B7 now t) 0≤_;split<;>omega
     ·omega
 · have:(B4 ts ls fs now t).Class≠1:=by
    have k:(B4 ts ls fs now t).Class=t.Class:=by
     have h1: ∀(t:Task) (f:Int),(CF t f).Class=t.Class:=fun t f=>by unfold CF Cw;(repeat' split)<;>rfl
     have h2: ∀(t:Task) (f:Int),(CD t f).Class=t.Class:=fun t f=>by unfold CD;(repeat' split)<;>rfl
     unfold B4;split
     · split
       ·rw[h1,h2]
       ·rfl
     ·rfl
    omega
   rw[GA this,GA hc];omega
theorem ue{ts:List Task}{ls:List Lock}{fs:List Int}{now:Int}{t:Task}(h:TaskOk t)(hn:0≤now∧now≤100000)(h1:t.Class=1→t.Idle=false→now<t.Due)
 (hc:(B4 ts ls fs now t).Class=1) (hi:(B4 ts ls fs now t).Idle=false):now<(B4 ts ls fs now t).Due:=by
 unfold B4 at hc hi⊢;split at hc
 · rename_i ha
   rw[if_pos ha]at hi⊢;split at hc
   · rename_i hid
     rw[if_pos hid];have k0:=(Ln t false).ok h;have g1: ∀(t:Task) (f:Int),(CF t f).Class=t.Class:=fun t f=>by unfold CF Cw;(repeat' split)<;>rfl
     have g2: ∀(t:Task) (f:Int),(CD t f).Class=t.Class:=fun t f=>by unfold CD;(repeat' split)<;>rfl
     have hct:t.Class=1:=by rw[g1,g2]at hc;exact hc
     have e1: ∀u:Task,u.Class=1→ ∀f,CF u f=u:=fun u hu f=>by
      unfold CF;rw[if_neg];intro x;have:=((C9 _).1 x).2;omega
     have hs:=(h.due hct).share;rw[e1 _ (by rw[g2];exact hct)]
     unfold CD;rw[if_pos ⟨⟨k0,hct⟩,hn⟩];dsimp only;split
     ·show now<now+t.P;omega
     · rename_i hr
       show now<t.Due;omega
   · rename_i hid
     rw[if_neg hid];exact h1 hc (by simpa using hid)
 · rename_i ha
   rw[if_neg ha]at hi;cases hi
end Go.Proofs.YthoholbeacojfaaGreat.VR
end
section
set_option linter.unusedVariables false
set_option linter.unusedSimpArgs false
namespace Go.Proofs.YthoholbeacojfaaGreat.VR
open Go
theorem Yk{t:Task}(q:Int)(hc:t.Class=1):FR t q=BZ t:=by
 have e1:(Ba t q).1=t:=by unfold Ba;rw[if_neg fun x=>by have:=x.1.2;omega]
 have e2: ∀u:Task,u.Class=1→CM u=u:=fun u hu=>by unfold CM;rw[if_neg];intro x;have:=((C9 _).1 x).2;omega
 have e3:(BZ t).Class=t.Class:=by unfold BZ;split<;>rfl
 unfold FR;rw[e1,e2 _ (by rw[e3];exact hc)]
theorem bH{t:Task}(h:TaskOk t)(hc:t.Class=1)(hl:0<t.Left):BZ t={t with Left:=t.Left-1}:=by unfold BZ;rw[if_pos ⟨⟨h,hc⟩,hl⟩]
theorem bG(t:Task):(BZ t).Due=t.Due∧(BZ t).Left≤t.Left∧(BZ t).Idle=t.Idle:=by
 unfold BZ;split
 ·exact⟨rfl,by show t.Left-1≤t.Left;omega,rfl⟩
 ·exact⟨rfl,Int.le_refl _,rfl⟩
theorem dK{t b:Task}{now:Int}(h1:b.Due=t.Due)(h2:b.Left≤t.Left)(h3:b.Q=t.Q∧b.P=t.P):B7 (now+1) b≤B7 now t+uT t:=by
 have e:uT b=uT t:=by unfold uT;rw[h3.1,h3.2]
 have hm:b.Left*DI≤t.Left*DI:=Int.mul_le_mul_of_nonneg_right h2 (by have:=Id;omega)
 have e2:uT t*(t.Due-(now+1))=uT t*(t.Due-now)-uT t:=by rw[show t.Due-(now+1)=(t.Due-now)-1 by omega,Int.mul_sub,Int.mul_one]
 unfold B7;rw[e,h1,e2];omega
theorem aU{t b:Task}{now T c:Int}(hk:Keeps t b)(h1:t.Class=1→b.Due=t.Due∧b.Left≤t.Left)(h2:b.Idle=t.Idle):con (now+1) T c b≤con now T c t+wT c t:=by
 have hw:=uZ c t
 by_cases hc:t.Class=1
 · obtain⟨a1,a2⟩:=h1 hc
   have hl:=dK (now:=now) a1 a2 hk.share;unfold con;rw[hk.cls,hk.cpu,a1,h2];split
   · rename_i hcond
     have e:wT c t=uT t:=if_pos ⟨hcond.1,hcond.2.1⟩;rw[e];have:=KH t;split<;>omega
   ·omega
 ·rw[GA (by rw[hk.cls];exact hc),GA hc];omega
theorem bx{g:Ghost}{now T c:Int}:Cn (now+1) T c g≤Cn now T c g+wG c g:=by
 have hu:(0:Int)≤(uN g.S:Nat):=by omega
 unfold Cn wG
 by_cases h1:g.Cpu=c
 · rw[if_pos h1]
   generalize ((uN g.S:Nat):Int)=u at*
   by_cases h2:g.Until≤T
   · by_cases h3:now+1<g.Until
     · rw[if_pos ⟨h1,h2,h3⟩,if_pos ⟨h1,h2,by omega⟩]
       have e2: -u*(g.Until-(now+1))= -u*(g.Until-now)+u:=by rw[show g.Until-(now+1)=(g.Until-now)-1 by omega,Int.mul_sub,Int.mul_one];omega
       omega
     · rw[if_neg fun x=>h3 x.2.2]
       by_cases h4:now<g.Until
       ·rw[if_pos ⟨h1,h2,h4⟩,show g.Until-now=1 by omega];omega
       ·rw[if_neg fun x=>h4 x.2.2];omega
   ·rw[if_neg fun x=>h2 x.2.1,if_neg fun x=>h2 x.2.1];omega
 ·rw[if_neg h1,if_neg fun x=>h1 x.1,if_neg fun x=>h1 x.1];omega
theorem b6{g:Ghost}{now T c:Int}:Cn now T c g≤0:=by
 unfold Cn;split
 · rename_i h
   rw[Int.neg_mul];have:(0:Int)≤(uN g.S:Nat)*(g.Until-now):=Int.mul_nonneg (by omega) (by omega)
   omega
 ·omega
theorem So{β:Type}{f:β→Int}: ∀{l:List β},(∀x∈l,f x≤0)→Ae f l≤0
 | [],_=>Int.le_refl _
 |x::l,h=>by
  have h1:=h x (List.mem_cons_self ..);have h2:=So fun y hy=>h y (List.mem_cons_of_mem _ hy)
  simp only[Ae];omega
theorem Vl{now:Int}: ∀(l:List Task) (m:Int),(∀t∈l,¬((t.Class=1∧t.Idle=false∧t.Due≤now)∧0<t.Left))→l.foldl (CQ now) m=m
 | [],m,_=>rfl
 |t::l,m,h=>by
  rw[List.foldl_cons];have e:CQ now m t=m:=by unfold CQ;rw[if_neg (h t (List.mem_cons_self ..))]
  rw[e];exact Vl l m fun u hu=>h u (List.mem_cons_of_mem _ hu)
theorem bK{s:Sys}(h:SysOk s)(hd:DueInv s):(Av s).Missed=0:=by
 show s.Tasks.foldl (CQ s.Now) s.Missed=0;rw[Vl,hd.missed];rintro t ht ⟨⟨h1,h2,h3⟩,h4⟩;have:=T7 h hd ht h1 h2;omega
theorem S6{s:Sys}(h:SysOk s)(hc:Aw s)(hd:DueInv s){i:Nat}(a:i<s.Tasks.length)(b:i<(AF s).length):
 (∀T c,con s.Now T c (AF s)[i]≤con s.Now T c s.Tasks[i])∧((AF s)[i].Class=1→(AF s)[i].Idle=false→s.Now<(AF s)[i].Due):=by
 have hnow:=El h hc;have hn:0≤s.Now∧s.Now≤100000:=h.now;have hm:=List.getElem_mem a;have hok:=h.tasks.each _ hm;have hr:=(G7 hnow).ok hok;have h1:s.Tasks[i].Class=1→s.Tasks[i].Idle=false→s.Now≤s.Tasks[i].Due∧s.Tasks[i].Left≤s.Tasks[i].Due-s.Now:=fun q1 q2=>⟨hd.due _ hm q1 q2,T7 h hd hm q1 q2⟩
 rw[ZX hnow a b];refine⟨fun T c=>Int.le_trans (ud hr hn) (pL hok h1),fun q1 q2=> ?_⟩
 exact ue hr hn (pM hok hn fun x y=>(h1 x y).1) q1 q2
theorem bM{s:Sys}(h:SysOk s)(hc:Aw s)(hd:DueInv s):DueInv (Av s):=by
 have hnow:=El h hc;have hk:=FS (s:=s) hnow;have hw:=hk.tasksOk h.tasks;have hch:=ZM h hc;have hl:=hk.len;have hbl:=hch.keeps.len;have hwo:=S7 hnow;have hkeep: ∀i (a:i<(AF s).length) (b:i<(Av s).Tasks.length),((AF s)[i].Class=1→(Av s).Tasks[i].Due=(AF s)[i].Due∧(Av s).Tasks[i].Left≤(AF s)[i].Left)∧(Av s).Tasks[i].Idle=(AF s)[i].Idle:=fun i a b=>by
  rcases hch.at_ i a b with e|⟨_,_,q,e⟩
  ·rw[e];exact⟨fun _=>⟨rfl,Int.le_refl _⟩,rfl⟩
  · rw[e]
    refine⟨fun hcl=> ?_,Si _ q⟩
    rw[Yk q hcl];have:=bG (AF s)[i];exact⟨this.1,this.2.1⟩
 refine⟨fun c T=> ?_,fun t ht hcl hi=> ?_,bK h hd⟩
 · have hW:Ae (con s.Now T c) (AF s)≤Ae (con s.Now T c) s.Tasks:=by
    have:=MM (f:=con s.Now T c) (g:=con s.Now T c) (d:=0) hl (fun i a b=>(S6 h hc hd a b).1 T c) (.inl rfl)
    omega
   have hg:Ae (Cn (s.Now+1) T c) (Av s).Ghosts=Ae (Cn (s.Now+1) T c) s.Ghosts:=Yq fun g _ hp=>by
    have hp: ¬s.Now<g.Until:=by simpa using hp
    unfold Cn;rw[if_neg fun x=>hp (by omega)]
   show Ae (con (s.Now+1) T c) (Av s).Tasks+Ae (Cn (s.Now+1) T c) (Av s).Ghosts≤0;rw[hg]
   by_cases hx: ∃i,∃a:i<(AF s).length,(AF s)[i].Class=1∧(AF s)[i].Cpu=c∧(AF s)[i].Idle=false∧(AF s)[i].Due≤T∧0<(AF s)[i].Left
   · obtain⟨i,a,x1,x2,x3,x4,x5⟩:=hx
     have a0:i<s.Tasks.length:=by omega
     have hm:=List.getElem_mem a;have hokw:=hw.each _ hm;have hc0:0≤c:=by rw[←x2];exact hokw.cpu.1
     have hc1:c<s.Cpus:=by
      rw[←x2,(hk.at_ i a0).cpu];exact h.tcpu _ (List.getElem_mem a0)
     have hcn:(c.toNat:Int)=c:=by omega
     have hab:BX (AF s) s.Locks (AF s)[i].No=true:=by
      have e:=hwo.idle i a0 a;rw[x3]at e;rw[hk.able,(hk.at_ i a0).no];cases hb:BX s.Tasks s.Locks s.Tasks[i].No with
      |true=>rfl
      |false=>rw[hb]at e;cases e
     have htu:(AF s)[i]∈Ag (AF s) s.Locks c:=by
      rw[IT];refine⟨hm,x2,?_⟩;unfold BQ Dh;rw[hab,HD hw hm];simp[hw,h.locks.2.1,x5]
     obtain⟨j,ja,jb,y1,y2,q,y3⟩:=hch.ran c.toNat (by omega) (AF s)[i] (by rw[hcn];exact htu)
     rw[hcn]at y1 y2;have hmj:=List.getElem_mem ja;have hokj:=hw.each _ hmj;have hnb:=y2.best _ htu;have hcj:(AF s)[j].Class=1:=by
      rcases hokj.class with q|q|q
      ·exact q
      ·exact absurd ⟨hokw,hokj,.inl (by omega)⟩ hnb
      ·exact absurd ⟨hokw,hokj,.inl (by omega)⟩ hnb
     have hdj:(AF s)[j].Due≤T:=by
      rcases Int.lt_or_le (AF s)[i].Due (AF s)[j].Due with q|q
      ·exact absurd ⟨hokw,hokj,.inr ⟨by omega,.inl ⟨x1,.inl q⟩⟩⟩ hnb
      ·omega
     have hcan:=(IT.1 y2.mem).2.2;have hlj:0<(AF s)[j].Left:=by
      unfold BQ Dh at hcan;rw[HD hw hmj]at hcan;simp only[Bool.and_eq_true,Bool.or_eq_true,decide_eq_true_eq]at hcan;rcases hcan.2.2 with q|q
      ·exact absurd hcj q
      ·exact q
     have hij:(AF s)[j].Idle=false:=by
      have j0:j<s.Tasks.length:=by omega
      rw[hwo.idle j j0 ja,←hk.able,←(hk.at_ j j0).no,P2 hcan];rfl
     have hb1:con (s.Now+1) T c (Av s).Tasks[j]+DI≤con s.Now T c (AF s)[j]+wT c (AF s)[j]:=by
      rw[y3,Yk q hcj,bH hokj hcj hlj];have e2:uT (AF s)[j]*((AF s)[j].Due-(s.Now+1))=uT (AF s)[j]*((AF s)[j].Due-s.Now)-uT (AF s)[j]:=by
       rw[show(AF s)[j].Due-(s.Now+1)=((AF s)[j].Due-s.Now)-1 by omega,Int.mul_sub,Int.mul_one]
      have e3:((AF s)[j].Left-1)*DI=(AF s)[j].Left*DI-DI:=by rw[Int.sub_mul,Int.one_mul]
      have f1:con (s.Now+1) T c {(AF s)[j]with Left:=(AF s)[j].Left-1}=((AF s)[j].Left-1)*DI-uT (AF s)[j]*((AF s)[j].Due-(s.Now+1)):=by
       unfold con;rw[if_pos ⟨hcj,y1,hdj⟩,if_neg (by show¬(AF s)[j].Idle=true;simp[hij])];rfl
      have f2:con s.Now T c (AF s)[j]=(AF s)[j].Left*DI-uT (AF s)[j]*((AF s)[j].Due-s.Now):=by
       unfold con;rw[if_pos ⟨hcj,y1,hdj⟩,if_neg (by simp[hij])];rfl
      have f3:wT c (AF s)[j]=uT (AF s)[j]:=if_pos ⟨hcj,y1⟩;rw[f1,f2,f3,e2,e3];omega
     have hs1:=MM (f:=con (s.Now+1) T c) (g:=fun t=>con s.Now T c t+wT c t) (d:=DI) hbl
      (fun i a b=>aU (hch.keeps.at_ i a) (hkeep i a b).1 (hkeep i a b).2) (.inr ⟨j,ja,jb,hb1⟩)
     rw[Sn]at hs1;have hs2:Ae (Cn (s.Now+1) T c) s.Ghosts≤Ae (Cn s.Now T c) s.Ghosts+Ae (wG c) s.Ghosts:=by
      rw[←Sn];exact PP fun g _=>bx
     have hww:Ae (wT c) (AF s)=Ae (wT c) s.Tasks:=by rw[PQ,PQ,hk.shares]
     have hwh:=whole h hc0 hc1;have hdm:=hd.sum c T;unfold Dj at hdm;omega
   · have h1:Ae (con (s.Now+1) T c) (Av s).Tasks≤0:=So fun t ht=>by
      obtain⟨i,b,rfl⟩:=List.mem_iff_getElem.1 ht;have a:i<(AF s).length:=by omega
      have a0:i<s.Tasks.length:=by omega
      have kk:=hch.keeps.at_ i a;obtain⟨g1,g2⟩:=hkeep i a b;have hok:=hw.each _ (List.getElem_mem a);unfold con;split
      · rename_i hcd
        rw[kk.cls,kk.cpu]at hcd;obtain⟨q1,q2⟩:=g1 hcd.1;split
        ·omega
        · rename_i hid
          have hid:(AF s)[i].Idle=false:=by rw[←g2];simpa using hid
          have hl0: ¬0<(AF s)[i].Left:=fun x=>hx ⟨i,a,hcd.1,hcd.2.1,hid,by omega,x⟩
          have hdu:=(S6 h hc hd a0 a).2 hcd.1 hid;have hL:(Av s).Tasks[i].Left*DI≤0:=Int.mul_nonpos_of_nonpos_of_nonneg (by omega) (by have:=Id;omega)
          have hU:0≤uT (Av s).Tasks[i]*((Av s).Tasks[i].Due-(s.Now+1)):=Int.mul_nonneg (KH _) (by omega)
          unfold B7;omega
      ·omega
     have h2:Ae (Cn (s.Now+1) T c) s.Ghosts≤0:=So fun g _=>b6
     omega
 · obtain⟨i,b,rfl⟩:=List.mem_iff_getElem.1 ht
   have a:i<(AF s).length:=by omega
   have a0:i<s.Tasks.length:=by omega
   obtain⟨g1,g2⟩:=hkeep i a b;have hclw:(AF s)[i].Class=1:=by rw[←(hch.keeps.at_ i a).cls];exact hcl
   have:=(S6 h hc hd a0 a).2 hclw (by rw[←g2];exact hi)
   show s.Now+1≤_;rw[(g1 hclw).1];omega
end Go.Proofs.YthoholbeacojfaaGreat.VR
end
section
set_option linter.unusedVariables false
set_option linter.unusedSimpArgs false
namespace Go.Proofs.YthoholbeacojfaaGreat.VR
open Go
theorem Ip{s:Sys}(hd:DueInv s)(ts:List Task)(ls:List Lock)(gs:List Ghost)(q:Int)
 (h1: ∀c T,Dj s.Now ts gs c T≤Dj s.Now s.Tasks s.Ghosts c T) (h2: ∀t∈ts,t.Class=1→t.Idle=false→s.Now≤t.Due):DueInv {s with Tasks:=ts,Locks:=ls,Ghosts:=gs,Seq:=q}:=
 ⟨fun c T=>Int.le_trans (h1 c T) (hd.sum c T),h2,hd.missed⟩
theorem Bl{p:Prop}[Decidable p]{a b:Sys×Int}(ha:p→DueInv a.1)(hb: ¬p→DueInv b.1):DueInv (if p then a else b).1:=by
 split
 ·rename_i h;exact ha h
 ·rename_i h;exact hb h
theorem ai{now:Int}{ts:List Task}{gs:List Ghost}{i:Nat}{t':Task}(hi:i<ts.length)(h: ∀c T,con now T c t'≤con now T c ts[i])(c T:Int):Dj now (ts.set i t') gs c T≤Dj now ts gs c T:=by
 unfold Dj;have:=MM (f:=con now T c) (g:=con now T c) (d:=0) (a:=ts) (b:=ts.set i t') (List.length_set ..) (fun j a b=>by
  rw[List.getElem_set];split
  ·rename_i hj;subst hj;exact h c T
  ·exact Int.le_refl _) (.inl rfl)
 omega
theorem QA{s:Sys}(hd:DueInv s){i:Nat}{t':Task}(hi:i<s.Tasks.length)(h: ∀now T c,con now T c t'≤con now T c s.Tasks[i])(h2:t'.Class=s.Tasks[i].Class∧t'.Idle=s.Tasks[i].Idle∧t'.Due=s.Tasks[i].Due):DueInv {s with Tasks:=s.Tasks.set i t'}:=
 Ip hd _ s.Locks s.Ghosts s.Seq (ai hi fun c T=>h s.Now T c) fun t ht hc hid=>by
  rcases MG hi ht with rfl|ht
  ·rw[h2.2.2];exact hd.due _ (List.getElem_mem hi) (h2.1▸hc) (h2.2.1▸hid)
  ·exact hd.due t ht hc hid
theorem du{s:Sys}{c:Call}(h:SysOk s)(hk:1≤c.Kind∧c.Kind≤3)(h2:(Al s c).2=true):(∀T k,con s.Now T k (Al s c).1=0)∧((Al s c).1.Class=1→s.Now≤(Al s c).1.Due):=by
 by_cases h1:c.Kind=1
 · unfold Al at h2⊢
   rw[if_pos h1]at h2⊢;unfold EB at h2⊢;split at h2
   · rename_i h3
     rw[if_pos h3];have hok:=RV.1 h2;have e:(CG ⟨c.No,1,c.Cpu,1,false,c.A,c.B,c.A,s.Now+c.B,0,0,0,0,0⟩).1=⟨c.No,1,c.Cpu,1,false,c.A,c.B,c.A,s.Now+c.B,0,0,0,0,0⟩:=by unfold CG;rw[if_pos hok]
     rw[e];have hs:=h3.2;refine⟨fun T k=>Md (RP hs ?_),fun _=> ?_⟩
     · show c.A*c.B=c.A*(s.Now+c.B-s.Now)
       rw[show s.Now+c.B-s.Now=c.B by omega]
     · show s.Now≤s.Now+c.B
       have:=hs.1.1;simp only at this;omega
   ·cases h2
 · have hcl:=(Jw h2 hk).2.2.1
   exact⟨fun T k=>GA (by omega),fun x=>by omega⟩
theorem UC{now:Int}{ts:List Task}{i:Nat}(hi:i<ts.length)(c T:Int):Ae (con now T c) ts=con now T c ts[i]+Ae (con now T c) (ts.eraseIdx i):=by
 rw[Yt _ (KY hi),Ae]
theorem bJ{s:Sys}{c:Call}(h:SysOk s)(hd:DueInv s)(hk:c.Kind≠11):DueInv (Bb s c).1:=by
 have r:DueInv s:=hd;unfold Bb;rw[if_neg hk];refine Bl (fun hk3=> ?_) (fun _=> ?_)
 · unfold BP
   refine Bl (fun _=>r) fun h1=>Bl (fun _=>r) fun _=>Bl (fun _=>r) fun _=>Bl (fun _=>r) fun _=> ?_
   have h2:(Al s c).2=true:=by
    cases e:(Al s c).2 with
    |true=>rfl
    |false=>exact absurd (.inr e) h1
   obtain⟨n1,n2⟩:=du h hk3 h2;have hdm: ∀k T,Dj s.Now (insT s.Tasks (Al s c).1) s.Ghosts k T≤Dj s.Now s.Tasks s.Ghosts k T:=fun k T=>by
    unfold Dj;rw[Yt _ (RG s.Tasks _),Ae,n1];omega
   have hdu: ∀t∈insT s.Tasks (Al s c).1,t.Class=1→t.Idle=false→s.Now≤t.Due:=fun t ht hc hi=>by
    rcases I7.1 ht with rfl|ht
    ·exact n2 hc
    ·exact hd.due t ht hc hi
   exact Bl (fun _=>Bl (fun _=>r) fun _=>Ip hd _ s.Locks s.Ghosts (s.Seq+1) hdm hdu) fun _=>Ip hd _ s.Locks s.Ghosts s.Seq hdm hdu
 · cases e:AR s.Tasks c.No with
   |none=>exact r
   |some i=>
    obtain⟨hi,_⟩:=Bj e;dsimp only;rw[Af hi];have hm:=List.getElem_mem hi;have hok:=h.tasks.each _ hm;have hst: ∀x,DueInv {s with Tasks:=s.Tasks.set i {s.Tasks[i]with State:=x}}:=fun x=>QA hd hi (fun _ _ _=>Int.le_refl _) ⟨rfl,rfl,rfl⟩
    have hlk: ∀ls,DueInv {s with Locks:=ls}:=fun ls=>Ip hd s.Tasks ls s.Ghosts s.Seq (fun _ _=>Int.le_refl _) hd.due
    have hdue: ∀t∈s.Tasks.eraseIdx i,t.Class=1→t.Idle=false→s.Now≤t.Due:=fun t ht=>hd.due t ((List.eraseIdx_sublist _ _).subset ht)
    unfold Cu;refine Bl (fun _=>Bl (fun _=>r) fun _=>hst 2) fun _=>Bl (fun _=>Bl (fun _=>r) fun _=>hst 1) fun _=>Bl (fun _=> ?_) fun _=>Bl (fun _=> ?_) fun _=> ?_
    · unfold Cl
      refine Bl (fun _=>r) fun _=>Bl (fun h1=>Bl (fun _=>r) fun _=>Ip hd _ s.Locks _ s.Seq (fun k T=> ?_) hdue) fun h1=>Ip hd _ s.Locks s.Ghosts s.Seq (fun k T=> ?_) hdue
      · unfold Dj
        rw[Yp,UC hi];simp only[Ae];have hu:=KH s.Tasks[i];have hl0:=(hok.due h1.1).left.1;have hL:0≤s.Tasks[i].Left*DI:=Int.mul_nonneg hl0 (by have:=Id;omega)
        have hz:0≤uT s.Tasks[i]*(s.Tasks[i].Due-s.Now):=Int.mul_nonneg hu (by omega)
        have key:Cn s.Now T k ⟨s.Tasks[i].Cpu,⟨s.Tasks[i].Q,s.Tasks[i].P⟩,s.Tasks[i].Due⟩≤con s.Now T k s.Tasks[i]:=by
         unfold Cn con;dsimp only
         by_cases hq:s.Tasks[i].Cpu=k∧s.Tasks[i].Due≤T
         · rw[if_pos ⟨hq.1,hq.2,h1.2⟩,if_pos ⟨h1.1,hq⟩,Int.neg_mul]
           have e1:((uN ⟨s.Tasks[i].Q,s.Tasks[i].P⟩:Nat):Int)=uT s.Tasks[i]:=rfl;rw[e1];unfold B7;split<;>omega
         ·rw[if_neg fun x=>hq ⟨x.1,x.2.1⟩,if_neg fun x=>hq x.2];omega
        omega
      · unfold Dj
        rw[UC hi];have key:0≤con s.Now T k s.Tasks[i]:=by
         by_cases hc1:s.Tasks[i].Class=1
         · have hle:s.Tasks[i].Due≤s.Now:=by
            rcases Int.lt_or_le s.Now s.Tasks[i].Due with q|q
            ·exact absurd ⟨hc1,q⟩ h1
            ·exact q
           have hl0:=(hok.due hc1).left.1;have hL:0≤s.Tasks[i].Left*DI:=Int.mul_nonneg hl0 (by have:=Id;omega)
           have hz:uT s.Tasks[i]*(s.Tasks[i].Due-s.Now)≤0:=Int.mul_nonpos_of_nonneg_of_nonpos (KH _) (by omega)
           unfold con B7;split
           ·split<;>omega
           ·omega
         ·rw[GA hc1];omega
        omega
    · unfold Ce
      exact Bl (fun _=>r) fun _=>Bl (fun _=>r) fun _=>Bl (fun _=>hlk _) fun _=>Bl (fun _=>r) fun _=>Bl (fun _=>r) fun _=>hlk _
    · unfold Cz
      refine Bl (fun _=>r) fun hcl=> ?_
      have hcl:s.Tasks[i].Class≠1:=by omega
      refine Bl (fun _=>Bl (fun _=>QA hd hi (fun _ _ _=>Int.le_refl _) ⟨rfl,rfl,rfl⟩) fun _=>r) fun _=>Bl (fun _=>r) fun _=>Bl (fun _=>r) fun _=>QA hd hi (fun _ _ _=> ?_) ?_
      ·rw[GA (t:=ET _ _ _ _) (by unfold ET;split<;>exact hcl),GA hcl];omega
      ·unfold ET;split<;>exact⟨rfl,rfl,rfl⟩
theorem T6: ∀(n:Nat) (s:Sys),SysOk s→DueInv s→(∀i,i<n→Aw (BF i s))→DueInv (BF n s)
 |0,s,_,hf,_=>hf
 |n+1,s,h,hf,hc=>by
  rw[Hq];exact bM (Fg n s h fun i hi=>hc i (by omega)) (hc n (by omega)) (T6 n s h hf fun i hi=>hc i (by omega))
theorem bL{s:Sys}{c:Call}(h:SysOk s)(hd:DueInv s)(hc:BY c=true):DueInv (Ad s c).1:=by
 by_cases hk:c.Kind=11
 · rw[MN h hc hk]
   rcases MQ h c.A with⟨_,e⟩|⟨m,_,_,_,e,hct⟩
   ·rw[e];exact hd
   ·rw[e];exact T6 m s h hd hct
 ·rw[Eb h hc];exact bJ h hd hk
end Go.Proofs.YthoholbeacojfaaGreat.VR
end
section
set_option linter.unusedVariables false
set_option linter.unusedSimpArgs false
namespace Go.Proofs.YthoholbeacojfaaGreat.VR
open Go
structure TrInv(s:Sys):Prop where
 len:(s.Trace.length:Int)=s.Now*s.Cpus
 at_: ∀i (h:i<s.Trace.length),s.Trace[i].Cpu=Int.tmod (i:Int) s.Cpus∧(s.Trace[i].Context=0↔s.Trace[i].Executor=0)
theorem uF{n c:Int}{j:Nat}(h0:0≤n)(hc:0<c)(hj:(j:Int)<c):Int.tmod (n*c+j) c=j:=by
 have hnc:0≤n*c:=Int.mul_nonneg h0 (by omega)
 rw[Int.tmod_eq_emod_of_nonneg (by omega),Int.add_comm,Int.add_mul_emod_self_right,Int.emod_eq_of_lt (by omega) hj]
theorem uK{s:Sys}(h:SysOk s)(hc:Aw s)(ht:TrInv s):TrInv (Av s):=by
 obtain⟨us,h1,h2,h3,h4⟩:=Su h hc;have hcp:=h.cpus;have hn:=h.now;have hl:=ht.len;have e1:(Av s).Cpus=s.Cpus:=rfl;have e2:(Av s).Now=s.Now+1:=rfl;refine⟨?_,?_⟩
 ·rw[h2,e1,e2,List.length_append,Int.natCast_add,hl,h1,Int.add_mul,Int.one_mul]
 · rw[h2,e1]
   intro i hi
   by_cases hlt:i<s.Trace.length
   ·rw[List.getElem_append_left hlt];exact ht.at_ i hlt
   · rw[List.length_append]at hi
     rw[List.getElem_append_right (by omega)]
     have hj:i-s.Trace.length<us.length:=by omega
     refine⟨?_,?_⟩
     · rw[h3 _ hj]
       have:=uF (n:=s.Now) (c:=s.Cpus) (j:=i-s.Trace.length) hn.1 (by omega) (by omega)
       rw[←this]
       congr 1
       omega
     · rcases h4 _ (List.getElem_mem hj)with⟨a,b⟩|⟨a,b,t,ht,e,_⟩
       ·simp[a,b]
       · have hx:=(TK a).1
         have hno:=(h.tasks.each t ht).no;rw[b];exact⟨fun x=>by omega,fun x=>absurd x hx⟩
theorem ZQ: ∀(n:Nat) (s:Sys),SysOk s→TrInv s→(∀i,i<n→Aw (BF i s))→TrInv (BF n s)
 |0,s,_,hf,_=>hf
 |n+1,s,h,hf,hc=>by
  rw[Hq];exact uK (Fg n s h fun i hi=>hc i (by omega)) (hc n (by omega)) (ZQ n s h hf fun i hi=>hc i (by omega))
structure Played(s:Sys):Prop where
 ok:SysOk s
 fair:C5 s
 due:DueInv s
 tr:TrInv s
theorem uJ{s:Sys}{c:Call}(h:SysOk s)(hd:TrInv s)(hc:BY c=true):TrInv (Ad s c).1:=by
 by_cases hk:c.Kind=11
 · rw[MN h hc hk]
   rcases MQ h c.A with⟨_,e⟩|⟨m,_,_,_,e,hct⟩
   ·rw[e];exact hd
   ·rw[e];exact ZQ m s h hd hct
 · rw[Eb h hc]
   have:=Te (s:=s) hk;refine⟨by rw[this.trace,this.now,this.cpus];exact hd.len,?_⟩
   rw[this.trace,this.cpus];exact hd.at_
theorem fP{s:Sys}{c:Call}(h:Played s)(h0:(Ad s c).2=0):BY c=true∧Played (Ad s c).1:=by
 have hc:BY c=true:=by
  cases hc:BY c with
  |true=>rfl
  |false=>unfold Ad at h0;rw[if_neg (by simp[hc])]at h0;exact absurd h0 (by simp)
 exact⟨hc,IP c h.ok hc,bj h.ok h.fair hc,bL h.ok h.due hc,uJ h.ok h.tr hc⟩
def Do(cpus:Int):Sys:=⟨0,cpus,[],List.replicate 5 ⟨0,[]⟩,[],List.replicate cpus.toNat 0,0,0,[]⟩
theorem dz{cpus:Int}(h:1≤cpus∧cpus≤4):Played (Do cpus):=by
 have hl:LocksOk (List.replicate 5 (⟨0,[]⟩:Lock)):=by decide
 have hok:SysOk (Do cpus):=by
  refine⟨by simp[Do],h,⟨fun t ht=>(by cases ht),List.Pairwise.nil,by simp[Do]⟩,fun t ht=>(by cases ht),⟨rfl,hl,fun k hk=> ?_⟩,⟨by simp[Do],fun g hg=>(by cases hg)⟩,fun c hc=>rfl,by simp[Do];omega,fun f hf=> ?_,by simp[Do],by simp[Do],by simp[Do]⟩
  · have:=(List.mem_replicate.1 hk).2
    subst this;rfl
  · have:=(List.mem_replicate.1 hf).2
    subst this;decide
 refine⟨hok,fun t ht=>(by cases ht),⟨fun c T=>Int.le_refl _,fun t ht=>(by cases ht),rfl⟩,⟨by simp[Do],fun i hi=>by simp[Do]at hi⟩⟩
end Go.Proofs.YthoholbeacojfaaGreat.VR
end
section
set_option linter.unusedVariables false
set_option linter.unusedSimpArgs false
namespace Go.Proofs.YthoholbeacojfaaGreat.VR
open Go
def Tot{β:Type}(o:Option β)(Q:β→Prop):Prop:= ∃a,o=some a∧Q a
theorem AX{β:Type}{Q:β→Prop}{a:β}(h:Q a):Tot (some a) Q:=⟨a,rfl,h⟩
theorem A1{β γ:Type}{o:Option β}{f:β→Option γ}{P:β→Prop}{Q:γ→Prop}(h:Tot o P)(hf: ∀a,P a→Tot (f a) Q):Tot (o.bind f) Q:=by
 obtain⟨a,rfl,ha⟩:=h;exact hf a ha
theorem CA{β γ:Type}{o:Option β}{a:β}{f:β→Option γ}{Q:γ→Prop}(h:o=some a)(hf:Tot (f a) Q):Tot (o.bind f) Q:=by subst h;exact hf
theorem An{β:Type}{b:Bool}{x y:Option β}{Q:β→Prop}(h1:b=true→Tot x Q)(h2:b=false→Tot y Q):Tot (cond b x y) Q:=by
 cases b with
 |true=>exact h1 rfl
 |false=>exact h2 rfl
theorem Am{β:Type}{b:Bool}{x y:Option β}{Q:β→Prop}(h:b=true)(hx:Tot x Q):Tot (cond b x y) Q:=by subst h;exact hx
theorem Ed{β:Type}{b:Bool}{x y:Option β}{Q:β→Prop}(h:b=false)(hy:Tot y Q):Tot (cond b x y) Q:=by subst h;exact hy
theorem HE{σ β:Type}{l:Nat→σ→Option β}{Q:β→Prop}(μ:σ→Nat)(I:σ→Prop)
 (hs: ∀m x,I x→(∀y,I y→μ y<μ x→Tot (l m y) Q)→Tot (l (m+1) x) Q): ∀(m:Nat) (x:σ),I x→μ x<m→Tot (l m x) Q
 |0,x,_,h=>by omega
 |m+1,x,hI,h=>hs m x hI fun y hy hlt=>HE μ I hs m y hy (by omega)
theorem Cd{i:Int}{n:Nat}(h0:0≤i)(h1:i<(n:Int)):((decide (0≤i))&&(decide (i<(n:Int))))=true:=by simp[h0,h1]
end Go.Proofs.YthoholbeacojfaaGreat.VR
end
section
set_option linter.unusedVariables false
set_option linter.unusedSimpArgs false
namespace Go.Proofs.YthoholbeacojfaaGreat.VR
open Go
structure NumInv(s:Sys):Prop where
 tasks: ∀t∈s.Tasks,t.No≤12
 trace: ∀u∈s.Trace,0≤u.Context∧u.Context≤12
theorem eF{s:Sys}(h:SysOk s)(hc:Aw s)(hn:NumInv s):NumInv (Av s):=by
 obtain⟨us,_,h2,_,h4⟩:=Su h hc;have hk:=PV (El h hc) h.tasks;refine⟨fun t ht=> ?_,fun u hu=> ?_⟩
 · obtain⟨t0,ht0,k0⟩:=hk.mem ht
   rw[k0.no];exact hn.tasks t0 ht0
 · rw[h2]at hu
   rcases List.mem_append.1 hu with hu|hu
   ·exact hn.trace u hu
   · rcases h4 u hu with⟨a,_⟩|⟨_,_,t,ht,e,_⟩
     ·rw[a];decide
     · have h1:=hn.tasks t ht
       have h2:=(h.tasks.each t ht).no;rw[←e];omega
theorem Vv: ∀(n:Nat) (s:Sys),SysOk s→NumInv s→(∀i,i<n→Aw (BF i s))→NumInv (BF n s)
 |0,s,_,hf,_=>hf
 |n+1,s,h,hf,hc=>by
  rw[Hq];exact eF (Fg n s h fun i hi=>hc i (by omega)) (hc n (by omega)) (Vv n s h hf fun i hi=>hc i (by omega))
theorem Bp{p:Prop}[Decidable p]{a b:Sys×Int}(ha:p→NumInv a.1)(hb: ¬p→NumInv b.1):NumInv (if p then a else b).1:=by
 split
 ·rename_i h;exact ha h
 ·rename_i h;exact hb h
theorem eD{s:Sys}{c:Call}(hn:NumInv s)(hk:c.Kind≠11)(h3:c.Kind≤3→c.No≤12):NumInv (Bb s c).1:=by
 have r:NumInv s:=hn;have mk: ∀(ts:List Task) (ls:List Lock) (gs:List Ghost) (q:Int),(∀t∈ts,t.No≤12)→NumInv {s with Tasks:=ts,Locks:=ls,Ghosts:=gs,Seq:=q}:=fun _ _ _ _ h=>⟨h,hn.trace⟩
 unfold Bb;rw[if_neg hk];refine Bp (fun hk3=> ?_) (fun _=> ?_)
 · unfold BP
   refine Bp (fun _=>r) fun h1=>Bp (fun _=>r) fun _=>Bp (fun _=>r) fun _=>Bp (fun _=>r) fun _=> ?_
   have h2:(Al s c).2=true:=by
    cases e:(Al s c).2 with
    |true=>rfl
    |false=>exact absurd (.inr e) h1
   have hi: ∀t∈insT s.Tasks (Al s c).1,t.No≤12:=fun t ht=>by
    rcases I7.1 ht with rfl|ht
    ·rw[(Jw h2 hk3).1];exact h3 hk3.2
    ·exact hn.tasks t ht
   exact Bp (fun _=>Bp (fun _=>r) fun _=>mk _ s.Locks s.Ghosts (s.Seq+1) hi) fun _=>mk _ s.Locks s.Ghosts s.Seq hi
 · cases e:AR s.Tasks c.No with
   |none=>exact r
   |some i=>
    obtain⟨hi,_⟩:=Bj e;dsimp only;rw[Af hi];have hm:=List.getElem_mem hi;have hset: ∀t',t'.No=s.Tasks[i].No→ ∀t∈s.Tasks.set i t',t.No≤12:=fun t' h t ht=>by
     rcases MG hi ht with rfl|ht
     ·rw[h];exact hn.tasks _ hm
     ·exact hn.tasks t ht
    have her: ∀t∈s.Tasks.eraseIdx i,t.No≤12:=fun t ht=>hn.tasks t ((List.eraseIdx_sublist _ _).subset ht)
    unfold Cu;refine Bp (fun _=>Bp (fun _=>r) fun _=>mk _ s.Locks s.Ghosts s.Seq (hset _ rfl)) fun _=>Bp (fun _=>Bp (fun _=>r) fun _=>mk _ s.Locks s.Ghosts s.Seq (hset _ rfl)) fun _=>Bp (fun _=> ?_) fun _=>Bp (fun _=> ?_) fun _=> ?_
    · unfold Cl
      exact Bp (fun _=>r) fun _=>Bp (fun _=>Bp (fun _=>r) fun _=>mk _ s.Locks _ s.Seq her) fun _=>mk _ s.Locks s.Ghosts s.Seq her
    · unfold Ce
      exact Bp (fun _=>r) fun _=>Bp (fun _=>r) fun _=>Bp (fun _=>mk s.Tasks _ s.Ghosts s.Seq hn.tasks) fun _=>Bp (fun _=>r) fun _=>Bp (fun _=>r) fun _=>mk s.Tasks _ s.Ghosts s.Seq hn.tasks
    · unfold Cz
      exact Bp (fun _=>r) fun hcl=>Bp (fun _=>Bp (fun _=>mk _ s.Locks s.Ghosts s.Seq (hset _ rfl)) fun _=>r) fun _=>Bp (fun _=>r) fun _=>Bp (fun _=>r) fun _=>mk _ s.Locks s.Ghosts s.Seq (hset _ (by unfold ET;split<;>rfl))
theorem eE{s:Sys}{c:Call}(h:SysOk s)(hn:NumInv s)(hc:BY c=true)(h3:c.Kind≤3→c.No≤12):NumInv (Ad s c).1:=by
 by_cases hk:c.Kind=11
 · rw[MN h hc hk]
   rcases MQ h c.A with⟨_,e⟩|⟨m,_,_,_,e,hct⟩
   ·rw[e];exact hn
   ·rw[e];exact Vv m s h hn hct
 ·rw[Eb h hc];exact eD hn hk h3
end Go.Proofs.YthoholbeacojfaaGreat.VR
end
