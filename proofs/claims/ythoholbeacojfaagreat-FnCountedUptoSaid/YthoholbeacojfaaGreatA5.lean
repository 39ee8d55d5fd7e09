/- A loop's head is sound. -/
import Derived.Test.YthoholbeacojfaaGreatA4
set_option linter.unusedVariables false
set_option linter.unusedSimpArgs false
set_option linter.unusedSectionVars false
section
set_option linter.unusedVariables false
set_option linter.unusedSimpArgs false
set_option linter.unusedSectionVars false
namespace Go.Proofs.YthoholbeacojfaaGreat.VR
open Go
section
variable {tyK:Kd→TypeId}{R:Re}{H:List E}{w:World}{a:Act}{tm:List V}{R0:Re}{w0:World}{lv:List V}{us:List Value}
def Place.v(st:St)(p:Place):V:=match p with
 | .t i=>st.tm.getD i .junk
 | .c b j=>match AE st.H b with
   | .box cs=>cs.getD j .junk
   |_=>.junk
def Place.back(st:St)(p:Place)(s:Nat)(H:List E):Option St:=match p with
 | .t i=>some ⟨st.tm.set i (.bor s),H⟩
 | .c b j=>match AE H b with
   | .box cs=>some ⟨st.tm,H.set b (.box (cs.set j (.bor s)))⟩
   |_=>none
theorem Vt(st:St)(p:Place)(s:Nat)(q:Kd):Ov st p s q=match p.v st with
 | .nil=>(Dw st s).bind fun H=>p.back st s (H.set s (.root q [] .ok))
 | .emp=>(Dw st s).bind fun H=>p.back st s (H.set s (.root q [] .ok))
 | .bor r=>cond (r==s) (some st) (match AE st.H r with
   | .root q xs ho=>cond ho.whole ((Dw st s).bind fun H=>p.back st s ((H.set r .dead).set s (.root q xs .ok))) none
   |_=>none)
 |_=>none:=rfl
def Place.at(R:Re)(a:Act)(w:World)(p:Place)(u:Value):Prop:=match p with
 | .t i=>a.tmps.toList[i]? =some u
 | .c b j=> ∃e us,w.heap[R.β b]? =some (.cells us e (0,0))∧us[j]? =some u
theorem WB(h:At tyK R0 w0 lv us R tm H a w){p:Place}{v:V}(hv:p.v ⟨tm,H⟩=v)(hj:v≠ .junk): ∃u,p.at R a w u∧VR R H w v u:=by
 cases p with
 |t t=>
  simp only[Place.v]at hv;rw[List.getD_eq_getElem?_getD]at hv;rcases Nat.lt_or_ge t tm.length with h1|h1
  · rw[List.getElem?_eq_getElem h1]at hv
    simp at hv;have h2:t<a.tmps.toList.length:=by rw[←h.tm.1];exact h1
    refine⟨a.tmps.toList[t],List.getElem?_eq_getElem h2,?_⟩;rw[←hv];exact h.tm.2 t _ _ (List.getElem?_eq_getElem h1) (List.getElem?_eq_getElem h2)
  · rw[List.getElem?_eq_none h1]at hv
    exact absurd hv.symm hj
 |c b j=>
  simp only[Place.v]at hv;split at hv
  · rename_i cs e
    rw[List.getD_eq_getElem?_getD]at hv;rcases Nat.lt_or_ge j cs.length with h1|h1
    · rw[List.getElem?_eq_getElem h1]at hv
      simp at hv;have h0:AE H b≠ .fresh:=by rw[e];exact fun h=>by cases h
      have hER:=h.hr.at_ b (BO h0);rw[e]at hER;obtain⟨e',us',hg,hT,hl,hcv⟩:=hER;have h2:j<us'.size:=by rw[hl];exact h1
      refine⟨us'[j],⟨e',us',hg,Array.getElem?_eq_getElem h2⟩,?_⟩;rw[←hv];exact(hcv j _ _ (List.getElem?_eq_getElem h1) (Array.getElem?_eq_getElem h2)).1
    · rw[List.getElem?_eq_none h1]at hv
      exact absurd hv.symm hj
  ·exact absurd hv.symm hj
theorem TZ{st':St}{H0:List E}{p:Place}{u:Value}{s:Nat}{q:Kd}{xs:List q.T}{ho:Ho}(h:At tyK R0 w0 lv us R tm H a w)(hu:p.at R a w u)(h1:u.oneCell'=true)(es:AE H s=.root q xs ho)(er:R.ρ s=u)
 (hb:p.back ⟨tm,H0⟩ s H=some st'):J tyK R0 w0 lv us st' a w:=by
 have hv:VR R H w (.bor s) u:=.bor s u h1 (by rw[es];exact fun h=>by cases h) fun _ _ _ _=>er.symm
 cases p with
 |t t=>
  simp only[Place.back]at hb;injection hb with hb
  subst hb;refine⟨R,h.step,h.hr,?_,h.lv,h.defers⟩;have:=h.tm.set t hv;have e2:a.tmps.toList.set t u=a.tmps.toList:=by
   obtain⟨hlt,e3⟩:=List.getElem?_eq_some_iff.1 hu;rw[←e3];exact List.set_getElem_self hlt
  rwa[e2]at this
 |c b j=>
  simp only[Place.back]at hb;split at hb
  · rename_i cs e
    injection hb with hb
    subst hb;obtain⟨e',us',hg,hj⟩:=hu;obtain⟨hp,hr⟩:=Z8 h.hr e j (v:=.bor s) fun e2 us2 u2 hg2 hj2=>by
     rw[hg]at hg2;injection hg2 with hg2
     injection hg2 with hg2 _ _
     subst hg2;rw[hj]at hj2;injection hj2 with hj2
     subst hj2;exact hv
    exact⟨R,h.pres hp hr⟩
  ·cases hb
theorem Place.at_beta{R R':Re}{p:Place}{u:Value}(h:p.at R a w u)(hb: ∀b j,p=.c b j→R'.β b=R.β b):p.at R' a w u:=by
 cases p with
 |t t=>exact h
 |c b j=>obtain⟨e,us,h1,h2⟩:=h;exact⟨e,us,by rw[hb b j rfl];exact h1,h2⟩
theorem Zw{s m:Nat}{H1:List E}(hs:s<H.length)(hlv:V.free.go [s] m lv=true)(hat:At tyK R0 w0 lv us R tm H a w)(h:Dw ⟨tm,H⟩ s=some H1):
 At tyK R0 w0 lv us R tm H1 a w∧AE H1 s=.fresh∧H1.length=H.length∧(∀s',s'≠s→AE H1 s'=AE H s')∧ ∀cs,AE H s≠ .box cs:=by
 have rst:V.free.go [s] 200 tm=true→Ey [s] 0 H=true→At tyK R0 w0 lv us R tm (Cf [s] 0 H) a w∧AE (Cf [s] 0 H) s=.fresh∧(Cf [s] 0 H).length=H.length∧(∀s',s'≠s→AE (Cf [s] 0 H) s'=AE H s'):=by
  intro h1 h2;exact⟨hat.reset h1 h2 hlv,by rw[Le,Nat.zero_add,if_pos (by simp)],MD ..,fun s' hs'=>by rw[Le,Nat.zero_add,if_neg (by simpa using hs')]⟩
 unfold Dw at h;dsimp only at h;split at h
 · rename_i e
   injection h with h
   subst h;exact⟨hat,e,rfl,fun _ _=>rfl,fun cs e2=>by rw[e]at e2;cases e2⟩
 · rename_i e
   obtain⟨hf,h⟩:=AQ h;rw[Bool.and_eq_true]at hf;injection h with h
   subst h;obtain⟨q1,q2,q3,q4⟩:=rst hf.1 hf.2;exact⟨q1,q2,q3,q4,fun cs e2=>by rw[e]at e2;cases e2⟩
 · rename_i e
   obtain⟨hf,h⟩:=AQ h;rw[Bool.and_eq_true]at hf;injection h with h
   subst h;obtain⟨q1,q2,q3,q4⟩:=rst hf.1 hf.2;exact⟨q1,q2,q3,q4,fun cs e2=>by rw[e]at e2;cases e2⟩
 ·cases h
theorem eC{st st':St}{p:Place}{s:Nat}{q:Kd}(hs:s<st.H.length){m:Nat}(hlv:V.free.go [s] m lv=true)(h:Ov st p s q=some st')(hj:J tyK R0 w0 lv us st a w):J tyK R0 w0 lv us st' a w:=by
 obtain⟨R,hat⟩:=hj;obtain⟨tm,H⟩:=st;dsimp only at hat hs;rw[Vt]at h;have free: ∀{v:V} {H1:List E},p.v ⟨tm,H⟩=v→v≠ .junk→Dw ⟨tm,H⟩ s=some H1→At tyK R0 w0 lv us R tm H1 a w∧AE H1 s=.fresh∧s<H1.length∧p.v ⟨tm,H1⟩=v∧(∀b j,p=.c b j→AE H1 b≠ .fresh)∧ ∀s',s'≠s→AE H1 s'=AE H s':=by
  intro v H1 hv hjk ha;obtain⟨q1,q2,q3,q4,q5⟩:=Zw hs hlv hat ha;have hbs: ∀b j,p=.c b j→b≠s:=by
   intro b j e hb;subst e;subst hb;simp only[Place.v]at hv
   first
   |exact hjk hv.symm
   |(split at hv
     ·rename_i e;exact q5 _ e
     ·exact hjk hv.symm)
  refine⟨q1,q2,by rw[q3];exact hs,?_,fun b j e=> ?_,q4⟩
  · cases p with
    |t t=>exact hv
    |c b j=>
     simp only[Place.v]at hv⊢;rw[q4 b (hbs b j rfl)];exact hv
  · rw[q4 b (hbs b j e)]
    subst e;simp only[Place.v]at hv;split at hv
    ·rename_i e;rw[e];exact fun h=>by cases h
    ·exact absurd hv.symm hjk
 have hnil: ∀(v:V),p.v ⟨tm,H⟩=v→v≠ .junk→(∀H u,VR R H w v u→ ∃A,u=.slice A 0 0)→((Dw ⟨tm,H⟩ s).bind fun H=>p.back ⟨tm,H⟩ s (H.set s (.root q [] .ok)))=some st'→J tyK R0 w0 lv us st' a w:=by
  intro v hv hjk hA hb;obtain⟨H1,ha,hb⟩:=Option.bind_eq_some_iff.1 hb;obtain⟨hat1,es,hs1,hv1,hbx,_⟩:=free hv hjk ha;obtain⟨u,hu,hvr⟩:=WB hat1 hv1 hjk;obtain⟨A,rfl⟩:=hA H1 u hvr;obtain⟨R',hp,hr,er⟩:=pO hat1.hr q A es hs1;exact TZ (hat1.pres hp hr) (Place.at_beta hu fun b j e=>hp.beta b (hbx b j e)) rfl (Bo hs1) er hb
 split at h
 · rename_i hv
   exact hnil .nil hv (fun h=>by cases h) (fun _ u hu=>by cases hu;exact⟨_,rfl⟩) h
 · rename_i hv
   exact hnil .emp hv (fun h=>by cases h) (fun _ u hu=>by cases hu;exact⟨_,rfl⟩) h
 · rename_i r hv
   cases hrs:(r==s)with
   |true=>rw[hrs]at h;simp at h;subst h;exact⟨R,hat⟩
   |false=>
    rw[hrs]at h;simp only[cond_false]at h;split at h
    · rename_i q' xs ho er
      obtain⟨hw,h⟩:=AQ h;obtain⟨H1,ha,hb⟩:=Option.bind_eq_some_iff.1 h;have hjk:V.bor r≠ .junk:=fun h=>by cases h
      obtain⟨hat1,es1,hs1,hv1,hbx,hsame⟩:=free hv hjk ha;have hrs':r≠s:=by simpa using hrs
      have er1:AE H1 r=.root q' xs ho:=by rw[hsame r hrs'];exact er
      obtain⟨u,hu,hvr⟩:=WB hat1 hv1 hjk;have eu:=hvr.bor_inv er1;obtain⟨R',hp,hr,er'⟩:=pP hat1.hr er1 hw es1 hs1;have h1:u.oneCell'=true:=by cases hvr;assumption
      exact TZ (hat1.pres hp hr) (Place.at_beta hu fun b j e=>hp.beta b (hbx b j e)) h1 (Bo (by simpa using hs1)) (er'.trans eu.symm) hb
    ·cases h
 ·cases h
theorem Pt{st:St}{s:Nat}{H1:List E}(h:Dw st s=some H1):H1.length=st.H.length:=by
 unfold Dw at h;split at h
 ·injection h with h;subst h;rfl
 · obtain⟨_,h⟩:=AQ h
   injection h with h;subst h;exact MD ..
 · obtain⟨_,h⟩:=AQ h
   injection h with h;subst h;exact MD ..
 ·cases h
theorem eB{st st':St}{p:Place}{s:Nat}{q:Kd}(h:Ov st p s q=some st'):st'.H.length=st.H.length:=by
 have hb: ∀{H:List E},H.length=st.H.length→p.back st s H=some st'→st'.H.length=st.H.length:=by
  intro H hl h;cases p with
  |t t=>simp only[Place.back]at h;injection h with h;subst h;exact hl
  |c b j=>
   simp only[Place.back]at h;split at h
   ·injection h with h;subst h;simpa using hl
   ·cases h
 rw[Vt]at h;split at h
 · obtain⟨H1,ha,h⟩:=Option.bind_eq_some_iff.1 h
   exact hb (by simp[Pt ha]) h
 · obtain⟨H1,ha,h⟩:=Option.bind_eq_some_iff.1 h
   exact hb (by simp[Pt ha]) h
 · rename_i r _
   cases hrs:(r==s)with
   |true=>rw[hrs]at h;simp at h;subst h;rfl
   |false=>
    rw[hrs]at h;simp only[cond_false]at h;split at h
    · obtain⟨_,h⟩:=AQ h
      obtain⟨H1,ha,h⟩:=Option.bind_eq_some_iff.1 h;exact hb (by simp[Pt ha]) h
    ·cases h
 ·cases h
theorem Ub{bad bad':List Nat}(hs: ∀x∈bad',x∈bad): ∀(n:Nat),(∀v,V.free bad n v=true→V.free bad' n v=true)∧(∀vs,V.free.go bad n vs=true→V.free.go bad' n vs=true):=by
 intro n
 induction n with
 |zero=>exact⟨fun v h=>(by cases h),fun vs h=>(by simp[V.free.go]at h)⟩
 |succ n ih=>
  have hc: ∀r,(!bad.contains r)=true→(!bad'.contains r)=true:=by
   intro r h;simp at h⊢;exact fun h2=>h (hs r h2)
  refine⟨fun v h=> ?_,fun vs h=> ?_⟩
  ·cases v<;>simp only[V.free]at h⊢ <;>first|exact hc _ h|exact ih.2 _ h
  · cases vs with
    |nil=>rfl
    |cons x xs=>
     simp only[V.free.go,Bool.and_eq_true]at h⊢;exact⟨ih.1 x h.1,ih.2 xs h.2⟩
theorem Vu: ∀(ps:List (Place×Nat×Kd)) {st st':St} {m:Nat},(∀p∈ps,V.free.go [p.2.1] m lv=true)→(∀p∈ps,p.2.1<st.H.length)→Lv st ps=some st'→J tyK R0 w0 lv us st a w→J tyK R0 w0 lv us st' a w
 | [],st,st',m,_,_,h,hj=>by simp[Lv]at h;subst h;exact hj
 |(p,s,q)::ps,st,st',m,hlv,hlt,h,hj=>by
  simp only[Lv]at h;obtain⟨st1,h1,h⟩:=Option.bind_eq_some_iff.1 h;exact Vu ps (fun p hp=>hlv p (by simp[hp])) (fun p' hp=>by rw[eB h1];exact hlt p' (by simp[hp])) h (eC (hlt (p,s,q) (by simp)) (hlv (p,s,q) (by simp)) h1 hj)
theorem cC{la:LA}{st st':St}(hlv:V.free.go (la.reset++la.norm.map (·.2.1)) 200 lv=true)(h:head la st=some st')(hj:J tyK R0 w0 lv us st a w):J tyK R0 w0 lv us st' a w:=by
 unfold head at h;obtain⟨hlt,h⟩:=AQ h;obtain⟨st1,h1,h⟩:=Option.bind_eq_some_iff.1 h;obtain⟨h2,h⟩:=AQ h;injection h with h
 subst h;rw[Bool.and_eq_true]at h2;have hj1:J tyK R0 w0 lv us ⟨keepT la.keep 0 st.tm,st.H⟩ a w:=by
  obtain⟨R,hat⟩:=hj;exact⟨R,hat.step,hat.hr,hat.tm.keepT _,hat.lv,hat.defers⟩
 obtain⟨R,hat⟩:=Vu la.norm (m:=200) (fun p hp=>(Ub (fun x hx=>by simp at hx;subst hx;exact List.mem_append.2 (.inr (List.mem_map.2 ⟨p,hp,rfl⟩))) 200).2 lv hlv) (fun p hp=>by
  rw[List.all_eq_true]at hlt;simpa using hlt p hp) h1 hj1
 exact⟨R,hat.reset h2.1 h2.2 ((Ub (fun x hx=>List.mem_append.2 (.inl hx)) 200).2 lv hlv)⟩
end
end Go.Proofs.YthoholbeacojfaaGreat.VR
end
section
set_option linter.unusedVariables false
set_option linter.unusedSimpArgs false
set_option linter.unusedSectionVars false
namespace Go.Proofs.YthoholbeacojfaaGreat.VR
open Go
def QG:Ex→Exit
 | .normal=>.normal
 | .ret=>.ret
 | .exit id=>.exit id
section
variable {P:Program}{Tb:TypeId→Option TI}{tyK:Kd→TypeId}{α:Type}{r:α}{Co:Orc}{R0:Re}{w0:World}{lv:List V}{us:List Value}
theorem RR{p:Nat→Prop}(h: ∃m,p m): ∃m,p m∧ ∀n,p n→m≤n:=by
 obtain⟨m,hm⟩:=h
 induction m using Nat.strongRecOn with
 |_ m ih=>
  by_cases hl: ∃n,n<m∧p n
  · obtain⟨n,h1,h2⟩:=hl
    exact ih n h1 h2
  · exact⟨m,hm,fun n hn=>by
     rcases Nat.lt_or_ge n m with h1|h1
     ·exact absurd ⟨n,h1,hn⟩ hl
     ·exact h1⟩
theorem ZR{la:LA}{st:St}{a:Act}{w:World}(hj:J tyK R0 w0 lv us st a w):J tyK R0 w0 lv us (MR la st) a w:=by
 obtain⟨R,hat⟩:=hj;have hg: ∀s,AE (By st.H la.outH 0) s=.dead∨AE (By st.H la.outH 0) s=AE st.H s:=(HLe.mask st.H la.outH).2;have hp:Pres R st.H w R (By st.H la.outH 0) w:=by
  refine⟨Step.refl R w,fun s hs=> ?_,fun _ _=>rfl,fun s k xs ho hs e=> ?_⟩
  · rcases hg s with h|h
    ·rw[h];exact fun h=>by cases h
    ·rw[h];exact hs
  · rcases hg s with h|h
    ·rw[h]at e;cases e
    · rw[h]at e
      exact⟨xs,ho,e,rfl,rfl,fun h=>⟨h,fun _ _ _ _ _ _ _ _=>rfl⟩⟩
 have hh:HR tyK R (By st.H la.outH 0) w:=by
  refine hat.hr.next hp (RX _ _ _) (fun s _=> ?_) hat.hr.none_
  rcases hg s with h|h
  ·right;rw[h];trivial
  ·exact .inl ⟨h,fun g t ht _=>⟨ht,rfl⟩⟩
 have:=hat.pres hp hh;exact⟨R,this.step,this.hr,this.tm.keepT _,this.lv,this.defers⟩
end
end Go.Proofs.YthoholbeacojfaaGreat.VR
end
section
set_option linter.unusedVariables false
set_option linter.unusedSimpArgs false
set_option linter.unusedSectionVars false
namespace Go.Proofs.YthoholbeacojfaaGreat.VR
open Go
section
variable {P:Program}{Tb:TypeId→Option TI}{tyK:Kd→TypeId}{R:Re}{H:List E}{w:World}{tm:List V}{Co:Orc}{tmps:Array Value}
def MC(tmps:Array Value)(x:ResultVar):Sem Value:=match x with
 | .tmp t=>pure (tmps.getD t undef)
 | .cell a t=>do loadVar t (←asAddr (tmps.getD a undef))
theorem SO(hT:TbOk P Tb tyK)(hh:HR tyK R H w)(ht:VRs R H w tm tmps.toList): ∀(rs:List ResultVar) (vs:List V),Fx Tb tm H rs=some vs→ ∃us,(rs.mapM (MC tmps)).run P w=.ok us w∧VRs R H w vs us
 | [],vs,h=>by
   simp[Fx]at h;subst h;exact⟨[],rfl,VRs.nil⟩
 | .tmp t::rs,vs,h=>by
   simp only[Fx]at h;obtain⟨vs',h1,h⟩:=Option.bind_eq_some_iff.1 h;injection h with h
   subst h;obtain⟨us,h2,h3⟩:=SO hT hh ht rs vs' h1;refine⟨tmps.getD t undef::us,?_,VRs.mk (A6 (a:=⟨tmps,[]⟩) ht (.tmp t)) h3⟩;rw[List.mapM_cons];simp[MC,h2]
 | .cell b t::rs,vs,h=>by
   simp only[Fx]at h;obtain⟨vs',h1,h⟩:=Option.bind_eq_some_iff.1 h;split at h
   · rename_i c j ti e1 htb
     split at h
     · rename_i cs e2
       obtain⟨v,hp,h⟩:=Option.bind_eq_some_iff.1 h;injection h with h
       subst h;obtain⟨us,h2,h3⟩:=SO hT hh ht rs vs' h1;have hv:=A6 (a:=⟨tmps,[]⟩) ht (.tmp b);simp only[ev]at hv;rw[e1]at hv;obtain⟨e3,_⟩:=hv.ptr_inv;have e3:tmps.getD b undef=.pointer (some ⟨R.β c,0+j,none⟩):=by rw[Nat.zero_add];exact e3
       obtain⟨u,hl,hu⟩:=Ve hT htb hp (Px hh e2);refine⟨u::us,?_,VRs.mk hu h3⟩;rw[List.mapM_cons];rw[Nat.zero_add]at e3 hl;simp[MC,h2,e3,asAddr,hl]
     ·cases h
   ·cases h
theorem pR{fn:Func}{us:List Value}(h:(fn.results.toList.mapM (MC tmps)).run P w=.ok us w):(results fn tmps).run P w=.ok (if h:us.length=1 then us[0]else .tuple us.toArray) w:=by
 have e:results fn tmps=(fn.results.mapM (MC tmps)>>=fun vs=>pure (if h:vs.size=1 then vs[0]else .tuple vs)):=by
  unfold results
  congr 1
 rw[e,Array.mapM_eq_mapM_toList];simp[h]
theorem eH{vs:List V}{us:List Value}(h:VRs R H w vs us):VR R H w (one vs) (if h:us.length=1 then us[0]else .tuple us.toArray):=by
 match vs,us,h with
 | [v],[u],h=>exact h.2 0 v u rfl rfl
 | [],[],h=>exact .tup _ _ h.1 h.2
 |v::v'::vs,u::u'::us,h=>
  rw[dif_neg (by simp)]
  exact .tup _ _ h.1 h.2
 | [],u::us,h=>have:=h.1;simp at this
 |v::vs,[],h=>have:=h.1;simp at this
 | [v],u::u'::us,h=>have:=h.1;simp at this
 |v::v'::vs,[u],h=>have:=h.1;simp at this
theorem OZ(H:List E)(n s:Nat):AE (H++List.replicate n .fresh) s=AE H s:=by
 unfold AE;rw[List.getD_eq_getElem?_getD,List.getD_eq_getElem?_getD];rcases Nat.lt_or_ge s H.length with h|h
 ·rw[List.getElem?_append_left h]
 · rw[List.getElem?_append_right h,List.getElem?_eq_none h,List.getElem?_replicate]
   split<;>rfl
theorem Mj{f:FuncId}{fn:Func}(hf:P.funcs[f]? =some fn)(h1:(fn.name== "runtime.NumGoroutine")=false)(h2:fn.body.isNone=false):Ie P f:=by
 intro args w;unfold callFunc;simp at h1;have h3:fn.body≠none:=fun e=>by rw[e]at h2;cases h2
 simp[hf,h1,h3]
structure CodesOk(P:Program)(codes:FuncId→Option FnA):Prop where
 fn: ∀f fa,codes f=some fa→P.funcs[f]? =some fa.fn
 enters: ∀f fa,codes f=some fa→Ie P f
end
end Go.Proofs.YthoholbeacojfaaGreat.VR
end
section
set_option linter.unusedVariables false
set_option linter.unusedSimpArgs false
set_option linter.unusedSectionVars false
namespace Go.Proofs.YthoholbeacojfaaGreat.VR
open Go
inductive HT where
 |k|d|fresh|dead
def E.dirt:E→E
 | .root k xs .ok=>.root k xs .dirty
 |e=>e
def H9(i:Nat):List Nat→List V→V
 |k::ks,v::vs=>cond (i==k) v (H9 i ks vs)
 |_,_=>.junk
def Fu(kt:List Nat)(vs:List V):Nat→Nat→List V
 |_,0=>[]
 |i,n+1=>H9 i kt vs::Fu kt vs (i+1) n
def Lw(kt:List Nat)(tm:List V):List V:=kt.map fun i=>tm.getD i .junk
def DZ:List HT→List E→List E
 | [],_=>[]
 | .k::hs,e::es=>e::DZ hs es
 | .k::hs,[]=>.dead::DZ hs []
 | .d::hs,e::es=>e::DZ hs es
 | .d::hs,[]=>.dead::DZ hs []
 | .fresh::hs,es=>.fresh::DZ hs es
 | .dead::hs,es=>.dead::DZ hs es
def FL:List HT→List E→List E
 | .k::hs,e::es=>e::FL hs es
 | .d::hs,e::es=>e.dirt::FL hs es
 |_::hs,_::es=>FL hs es
 |_,_=>[]
def okH:List HT→List E→Bool
 | [],[]=>true
 | .fresh::hs,e::es=>e.isFresh&&okH hs es
 |_::hs,_::es=>okH hs es
 |_,_=>false
structure LS where
 la:LA
 nt:Nat
 kt:List Nat
 hs:List HT
 X:Type
 abs:List V→List E→Option X
 tms:X→List V
 ets:X→List E
 run:{α:Type}→Nat→X→(Ex→St→Option α)→Option α
def LS.entry(l:LS)(st:St):Option l.X:=(head l.la st).bind fun st=>
 cond (st.tm.length==l.nt&&okH l.hs st.H) (l.abs (Lw l.kt st.tm) (FL l.hs st.H)) none
def LS.pack(l:LS)(x:l.X):St:=⟨Fu l.kt (l.tms x) 0 l.nt,DZ l.hs (l.ets x)⟩
def GX(n:Option Nat):List LS→Option LS
 | []=>none
 |l::r=>cond (n==some l.la.first) (some l) (GX n r)
def LS.round(l:LS){α:Type}(m:Nat)(k:Ex→St→Option α):Ex→St→Option α:=fun ex st=>match ex with
 | .normal=>(l.entry st).bind fun x=>l.run m x k
 | .ret=>k .ret (MR l.la st)
 | .exit id=>k (.exit id) (MR l.la st)
section
variable (Tb:TypeId→Option TI)(tyK:Kd→TypeId){α:Type}
def SL(ops:Array Oper)(o:Oper)(tm:List V)(k:List V→Option α):Option α:=match o.guard with
 |none=>k tm
 |some (g,_)=>match(ops[g]?).bind (·.dst)with
  |some d=>(tm.getD d .junk).asG (fun b=>cond b (k (tm.set d (.bool true))) (k (tm.set d (.bool false)))) (k tm)
  |none=>none
def Io(Co:Orc)(ops:Array Oper)(bz:List (Nat×OA)):Nat→List Oper→List (List Nat×List Nat)→List V→List E→(St→Option α)→Option α
 |_,[],_,tm,H,k=>k ⟨tm,H⟩
 |i,o::os,(rd,wr)::ds,tm,H,k=>SL ops o tm fun tm=>DT Tb tyK Co ops o (Jx bz i) (keepT (o.looksAt ops) 0 tm) (By H rd 0) fun _ e=>
  cond (KJ e.ws wr) (Io Co ops bz (i+1) os ds (IF tm o.dst e.v) (AJ H e.ws) k) none
 |_,_,_,_,_,_=>none
def vl(Co:Orc)(m:Nat)(an:Ann)(ls:List LS):Code→St→(Ex→St→Option α)→Option α
 | .skip,st,k=>k .normal st
 | .label _,st,k=>k .normal st
 | .ret,st,k=>k .ret st
 | .exit id,st,k=>k (.exit id) st
 | .seq a b,st,k=>vl Co m an ls a st fun ex st=>match ex with
   | .normal=>vl Co m an ls b st k
   | .ret=>k .ret st
   | .exit id=>k (.exit id) st
 | .cond c a b,st,k=>(ev st.tm c).asB fun t=>cond t (vl Co m an ls a ⟨KA st.tm c true,st.H⟩ k) (vl Co m an ls b ⟨KA st.tm c false,st.H⟩ k)
 | .block id c,st,k=>vl Co m an ls c st fun ex st=>match ex with
   | .normal=>k .normal st
   | .ret=>k .ret st
   | .exit id'=>cond (id'==id) (k .normal st) (k (.exit id') st)
 | .region id ops false,st,k=>MB Tb tyK Co ops (Lc id an.regs) 0 ops.toList st.tm st.H fun st=>k .normal st
 | .region id ops true,st,k=>let ds:=Qo id an.draws
   cond (HQ ops&&Ig ops ds) (Io Tb tyK Co ops (Lc id an.regs) 0 ops.toList ds st.tm st.H fun st=>k .normal st) none
 | .loop c,st,k=>match GX (DS c) ls with
   |some l=>(l.entry st).bind fun x=>l.run m x k
   |none=>none
 |_,_,_=>none
def Il(Co:Orc)(m:Nat)(fa:FnA)(ls:List LS)(bz:List A)(sh:Sh):Option sh.T:=
 let l:=layL bz 0
 match fa.fn.body with
 |none=>none
 |some c=>cond (ls.all fun s=>V.free.go (s.la.reset++s.la.norm.map (·.2.1)) 200 l.1)
  (vl Tb tyK Co m fa.ann ls c ⟨l.1++List.replicate (fa.fn.ntmps-l.1.length) .junk,l.2.1++List.replicate (fa.slots-l.2.1.length) .fresh⟩ fun ex st=>
    let fin:=(Fx Tb st.tm st.H fa.fn.results.toList).bind fun vs=>(AZ sh (one vs::l.1) st.H).bind fun r=>some r.1
    match ex with
    | .normal=>fin
    | .ret=>fin
    | .exit _=>none) none
structure LSok(Co:Orc)(n:Nat)(an:Ann)(ls:List LS)(c:Code)(l:LS):Prop where
 inv: ∀vs es x,l.abs vs es=some x→vs=l.tms x∧es=l.ets x
 zero: ∀{α:Type} (x:l.X) (k:Ex→St→Option α),l.run 0 x k=none
 succ: ∀{α:Type} (m:Nat) (x:l.X) (k:Ex→St→Option α),vl Tb tyK Co n an ls c (l.pack x) (l.round m k)=l.run (m+1) x k
def Cs:Code→List Code
 | .seq a b=>Cs a++Cs b
 | .cond _ a b=>Cs a++Cs b
 | .block _ c=>Cs c
 | .loop c=>c::Cs c
 |_=>[]
def DH(Co:Orc)(n:Nat)(an:Ann)(ls:List LS)(cs:List Code):Prop:= ∀c∈cs,∀l,GX (DS c) ls=some l→LSok Tb tyK Co n an ls c l
theorem DH.nil{Co:Orc}{n:Nat}{an:Ann}{ls:List LS}:DH Tb tyK Co n an ls []:=fun c h=>by cases h
theorem DH.cons{Co:Orc}{n:Nat}{an:Ann}{ls:List LS}{c:Code}{cs:List Code}{l:LS}(h:GX (DS c) ls=some l)(h1:LSok Tb tyK Co n an ls c l)(h2:DH Tb tyK Co n an ls cs):DH Tb tyK Co n an ls (c::cs):=by
 intro c' hc l' hl;rcases List.mem_cons.1 hc with rfl|hc
 · rw[h]at hl
   injection hl with hl
   subst hl;exact h1
 ·exact h2 c' hc l' hl
end
theorem Vf(tm:List V)(i:Nat): ∀(kt:List Nat),H9 i kt (Lw kt tm)=.junk∨H9 i kt (Lw kt tm)=tm.getD i .junk
 | []=>.inl rfl
 |k::kt=>by
  show cond (i==k) (tm.getD k .junk) (H9 i kt (Lw kt tm))=_∨cond (i==k) (tm.getD k .junk) (H9 i kt (Lw kt tm))=_;cases h:(i==k)with
  |true=>
   have:i=k:=by simpa using h
   subst this;exact .inr rfl
  |false=>exact Vf tm i kt
theorem Vc(kt:List Nat)(vs:List V): ∀(n i j:Nat),(Fu kt vs i n)[j]? =if j<n then some (H9 (i+j) kt vs)else none
 |0,i,j=>by simp[Fu]
 |n+1,i,0=>by simp[Fu]
 |n+1,i,j+1=>by
  simp only[Fu,List.getElem?_cons_succ,Vc kt vs n (i+1) j,Nat.add_lt_add_iff_right];rw[show i+1+j=i+(j+1) by omega]
theorem Vd(kt:List Nat)(vs:List V): ∀(n i:Nat),(Fu kt vs i n).length=n
 |0,i=>rfl
 |n+1,i=>by simp[Fu,Vd kt vs n (i+1)]
def Pl(x y:E):Prop:=x=.dead∨x=y∨ ∃k xs,x=.root k xs .dirty∧y=.root k xs .ok
theorem aj(e:E):Pl e.dirt e:=by
 cases e with
 |root k xs ho=>cases ho with
  |ok=>exact .inr (.inr ⟨k,xs,rfl,rfl⟩)
  |_=>exact .inr (.inl rfl)
 |_=>exact .inr (.inl rfl)
theorem Lr: ∀(hs:List HT) (H:List E),okH hs H=true→(DZ hs (FL hs H)).length=H.length∧ ∀s,Pl (AE (DZ hs (FL hs H)) s) (AE H s)
 | [],[],_=>⟨rfl,fun s=>.inr (.inl rfl)⟩
 | [],e::H,h=>by simp[okH]at h
 | .k::hs,[],h=>by simp[okH]at h
 | .d::hs,[],h=>by simp[okH]at h
 | .fresh::hs,[],h=>by simp[okH]at h
 | .dead::hs,[],h=>by simp[okH]at h
 | .k::hs,e::H,h=>by
   obtain⟨h1,h2⟩:=Lr hs H h;refine⟨by simp[DZ,FL,h1],fun s=> ?_⟩
   cases s with
   |zero=>exact .inr (.inl rfl)
   |succ s=>exact h2 s
 | .d::hs,e::H,h=>by
   obtain⟨h1,h2⟩:=Lr hs H h;refine⟨by simp[DZ,FL,h1],fun s=> ?_⟩
   cases s with
   |zero=>exact aj e
   |succ s=>exact h2 s
 | .fresh::hs,e::H,h=>by
   simp only[okH,Bool.and_eq_true]at h;obtain⟨h0,h⟩:=h;obtain⟨h1,h2⟩:=Lr hs H h;refine⟨by simp[DZ,FL,h1],fun s=> ?_⟩
   cases s with
   |zero=>cases e<;>first|exact .inr (.inl rfl)|cases h0
   |succ s=>exact h2 s
 | .dead::hs,e::H,h=>by
   obtain⟨h1,h2⟩:=Lr hs H h;refine⟨by simp[DZ,FL,h1],fun s=> ?_⟩
   cases s with
   |zero=>exact .inl rfl
   |succ s=>exact h2 s
section
variable {P:Program}{Tb:TypeId→Option TI}{tyK:Kd→TypeId}{α:Type}{r:α}{Co:Orc}{R0:Re}{w0:World}{lv:List V}{us:List Value}
theorem Zg{st st':St}{a:Act}{w:World}(hj:J tyK R0 w0 lv us st a w)(hl:st'.H.length=st.H.length∧ ∀s,Pl (AE st'.H s) (AE st.H s))(hn:st'.tm.length=st.tm.length)(ht: ∀(i:Nat) (v:V),st'.tm[i]? =some v→v=V.junk∨st.tm[i]? =some v):J tyK R0 w0 lv us st' a w:=by
 obtain⟨R,hat⟩:=hj;have hg:=hl.2;have hp:Pres R st.H w R st'.H w:=by
  refine⟨Step.refl R w,fun s hs=> ?_,fun _ _=>rfl,fun s k xs ho hs e=> ?_⟩
  · rcases hg s with h|h|⟨k,xs,h,_⟩
    ·rw[h];exact fun h=>by cases h
    ·rw[h];exact hs
    ·rw[h];exact fun h=>by cases h
  · rcases hg s with h|h|⟨k',xs',h,h2⟩
    ·rw[h]at e;cases e
    · rw[h]at e
      exact⟨xs,ho,e,rfl,rfl,fun h=>⟨h,fun _ _ _ _ _ _ _ _=>rfl⟩⟩
    · rw[h]at e
      cases e;exact⟨xs,.ok,h2,rfl,rfl,fun h=>by cases h⟩
 have hh:HR tyK R st'.H w:=by
  refine hat.hr.next hp hl.1 (fun s hs=> ?_) hat.hr.none_
  rcases hg s with h|h|⟨k',xs',h,h2⟩
  ·right;rw[h];trivial
  ·exact .inl ⟨h,fun g t ht _=>⟨ht,rfl⟩⟩
  · right
    rw[h];have h3:=hat.hr.at_ s (BO (by rw[h2];exact fun h=>by cases h))
    rw[h2]at h3;exact h3
 have:=hat.pres hp hh;refine⟨R,this.step,this.hr,⟨by rw[hn];exact this.tm.1,fun i v u hv hu=> ?_⟩,this.lv,this.defers⟩
 rcases ht i v hv with rfl|h
 ·exact .junk _
 ·exact this.tm.2 i v u h hu
theorem LS.entry_sound{l:LS}(hinv: ∀vs es x,l.abs vs es=some x→vs=l.tms x∧es=l.ets x)(hlv:V.free.go (l.la.reset++l.la.norm.map (·.2.1)) 200 lv=true){st:St}{x:l.X}{a:Act}{w:World}
 (h:l.entry st=some x) (hj:J tyK R0 w0 lv us st a w):J tyK R0 w0 lv us (l.pack x) a w:=by
 unfold LS.entry at h;obtain⟨st1,hh,h⟩:=Option.bind_eq_some_iff.1 h;obtain⟨h1,h⟩:=AQ h;rw[Bool.and_eq_true]at h1;have hn:st1.tm.length=l.nt:=by simpa using h1.1
 have hj1:=cC hlv hh hj;obtain⟨e1,e2⟩:=hinv _ _ _ h;obtain⟨g1,g2⟩:=Lr l.hs st1.H h1.2;unfold LS.pack;rw[←e1,←e2];refine Zg hj1 ⟨g1,g2⟩ (by rw[Vd,hn]) fun i v hv=> ?_
 rw[Vc]at hv;split at hv
 · rename_i hi
   injection hv with hv
   rw[Nat.zero_add]at hv;rcases Vf st1.tm i l.kt with h2|h2
   ·exact .inl (hv.symm.trans h2)
   · right
     rw[h2]at hv;rw[←hv,List.getD_eq_getElem?_getD,List.getElem?_eq_getElem (by rw[hn];exact hi)]
     rfl
 ·cases hv
open Classical in
theorem LS.sound {l:LS} {c:Code} {k:Ex→St→Option α} {Q:Exit→Act→World→Prop} {n:Nat} {an:Ann} {ls:List LS} (hok:LSok Tb tyK Co n an ls c l) (hlv:V.free.go (l.la.reset++l.la.norm.map (·.2.1)) 200 lv=true)
 (hQ: ∀ex st a w,k ex st=some r→J tyK R0 w0 lv us st a w→Q (QG ex) a w)
 (hbd: ∀(st:St) (k:Ex→St→Option α) (Q:Exit→Act→World→Prop) (a:Act) (w:World),(∀ex st a w,k ex st=some r→J tyK R0 w0 lv us st a w→Q (QG ex) a w)→vl Tb tyK Co n an ls c st k=some r→J tyK R0 w0 lv us st a w→c.wp P Q a w)
 {m:Nat} {x:l.X} {a:Act} {w:World} (h:l.run m x k=some r) (hj:J tyK R0 w0 lv us (l.pack x) a w):(Code.loop c).wp P Q a w:=by
 let I:Act→World→Prop:=fun a w=> ∃m x,l.run m x k=some r∧J tyK R0 w0 lv us (l.pack x) a w
 let μ:Act→World→Nat:=fun a w=>if h:I a w then Classical.choose (RR h)else 0
 have hμ: ∀a w (h:I a w),(∃x,l.run (μ a w) x k=some r∧J tyK R0 w0 lv us (l.pack x) a w)∧ ∀m x,l.run m x k=some r→J tyK R0 w0 lv us (l.pack x) a w→μ a w≤m:=by
  intro a w h;have e:μ a w=Classical.choose (RR h):=dif_pos h;rw[e];obtain⟨h3,h4⟩:=Classical.choose_spec (RR h);exact⟨h3,fun m x h1 h2=>h4 m ⟨x,h1,h2⟩⟩
 refine wp_loop I μ ⟨m,x,h,hj⟩ fun a w hI=> ?_
 obtain⟨⟨x,h1,hj⟩,_⟩:=hμ a w hI;cases hm:μ a w with
 |zero=>rw[hm,hok.zero]at h1;cases h1
 |succ m=>
  rw[hm,←hok.succ]at h1;refine hbd (l.pack x) _ _ a w (fun ex st2 a2 w2 hk hj2=> ?_) h1 hj
  cases ex with
  |normal=>
   obtain⟨x2,hx2,hk2⟩:=Option.bind_eq_some_iff.1 hk;have hj3:=LS.entry_sound hok.inv hlv hx2 hj2;have hI2:I a2 w2:=⟨m,x2,hk2,hj3⟩;refine⟨hI2,?_⟩;have:=(hμ a2 w2 hI2).2 m x2 hk2 hj3;omega
  |ret=>exact hQ .ret _ a2 w2 hk (ZR hj2)
  |exit id=>exact hQ (.exit id) _ a2 w2 hk (ZR hj2)
theorem YI{tm:List V}{d:Nat}{v:V}(h:tm.getD d .junk=v)(hv:v≠ .junk):tm.set d v=tm:=by
 rw[List.getD_eq_getElem?_getD]at h;rcases Nat.lt_or_ge d tm.length with hd|hd
 · rw[List.getElem?_eq_getElem hd]at h
   simp only[Option.getD_some]at h;subst h;exact List.set_getElem_self hd
 · rw[List.getElem?_eq_none hd]at h
   exact absurd h.symm hv
theorem pK{ops:Array Oper}{o:Oper}{tm:List V}{k:List V→Option α}(h:SL ops o tm k=some r):k tm=some r:=by
 unfold SL at h;split at h
 ·exact h
 · split at h
   · rename_i d _
     rcases Pr h with⟨b,hb,h⟩|⟨hb,h⟩
     rotate_left
     ·exact h
     cases b with
     |true=>rw[cond_true,YI hb (fun h=>by cases h)]at h;exact h
     |false=>rw[cond_false,YI hb (fun h=>by cases h)]at h;exact h
   ·cases h
theorem T4{ops:Array Oper}{as':List (Nat×OA)}{k:St→Option α}: ∀(os:List Oper) (i:Nat) (ds:List (List Nat×List Nat)) (tm:List V) (H:List E),Io Tb tyK Co ops as' i os ds tm H k=some r→FV Tb tyK Co ops as' i os ds tm H k=some r
 | [],i,ds,tm,H,h=>by simpa only[Io,FV]using h
 |o::os,i,[],tm,H,h=>by simp[Io]at h
 |o::os,i,(rd,wr)::ds,tm,H,h=>by
  simp only[Io]at h;have h:=pK h;simp only[FV];rw[Ul]at h⊢;obtain⟨⟨t,e⟩,h1,h⟩:=Option.bind_eq_some_iff.1 h;refine Option.bind_eq_some_iff.2 ⟨(t,e),h1,?_⟩;obtain⟨h3,h4⟩:=AQ h;dsimp only at h3 h4⊢;rw[h3,cond_true];exact T4 os (i+1) ds _ _ h4
theorem Qp{n:Option Nat}{l:LS}: ∀{ls:List LS},GX n ls=some l→l∈ls
 |l'::ls,h=>by
  unfold GX at h;cases hb:(n==some l'.la.first)with
  |true=>rw[hb]at h;simp at h;subst h;exact List.mem_cons_self ..
  |false=>rw[hb]at h;exact List.mem_cons_of_mem _ (Qp h)
theorem IW{m:Nat}{an:Ann}{ls:List LS}(hm:P.follows .mixedOrders=true)(hT:TbOk P Tb tyK)(hC:CoOk P tyK Co)(hlv: ∀l∈ls,V.free.go (l.la.reset++l.la.norm.map (·.2.1)) 200 lv=true):
 ∀(c:Code) (st:St) (k:Ex→St→Option α) (Q:Exit→Act→World→Prop) (a:Act) (w:World),DH Tb tyK Co m an ls (Cs c)→(∀ex st a w,k ex st=some r→J tyK R0 w0 lv us st a w→Q (QG ex) a w)→
  vl Tb tyK Co m an ls c st k=some r→J tyK R0 w0 lv us st a w→c.wp P Q a w
 | .skip,st,k,Q,a,w,hL,hQ,h,hj=>wp_skip (hQ .normal st a w h hj)
 | .label l,st,k,Q,a,w,hL,hQ,h,hj=>wp_label (hQ .normal st a w h hj)
 | .ret,st,k,Q,a,w,hL,hQ,h,hj=>wp_ret (hQ .ret st a w h hj)
 | .exit id,st,k,Q,a,w,hL,hQ,h,hj=>wp_exit (hQ (.exit id) st a w h hj)
 | .goto l,st,k,Q,a,w,hL,hQ,h,hj=>by simp[vl]at h
 | .scope c,st,k,Q,a,w,hL,hQ,h,hj=>by simp[vl]at h
 | .rangeFunc _ _ _ _,st,k,Q,a,w,hL,hQ,h,hj=>by simp[vl]at h
 | .seq x y,st,k,Q,a,w,hL,hQ,h,hj=>by
   simp only[vl]at h;have hx:DH Tb tyK Co m an ls (Cs x):=fun c hc=>hL c (List.mem_append_left _ hc)
   have hy:DH Tb tyK Co m an ls (Cs y):=fun c hc=>hL c (List.mem_append_right _ hc)
   refine wp_seq (IW hm hT hC hlv x st _ _ a w hx (fun ex st2 a2 w2 hk hj2=> ?_) h hj)
   cases ex with
   |normal=>exact IW hm hT hC hlv y st2 k Q a2 w2 hy hQ hk hj2
   |ret=>exact hQ .ret st2 a2 w2 hk hj2
   |exit id=>exact hQ (.exit id) st2 a2 w2 hk hj2
 | .cond c x y,st,k,Q,a,w,hL,hQ,h,hj=>by
   simp only[vl]at h;have hx:DH Tb tyK Co m an ls (Cs x):=fun c hc=>hL c (List.mem_append_left _ hc)
   have hy:DH Tb tyK Co m an ls (Cs y):=fun c hc=>hL c (List.mem_append_right _ hc)
   obtain⟨b,hb,h⟩:=TV h;obtain⟨R,hat⟩:=hj;have hv:=A6 hat.tm c;rw[hb]at hv;have hset: ∀b',b'=b→J tyK R0 w0 lv us ⟨KA st.tm c b',st.H⟩ a w:=by
    rintro b' rfl;refine⟨R,hat.step,hat.hr,?_,hat.lv,hat.defers⟩;unfold KA;split
    ·exact(hat.tm.bool_at hb).2
    ·exact hat.tm
   refine wp_cond hv.bool_inv ?_;cases b with
   |true=>exact IW hm hT hC hlv x _ k Q a w hx hQ h (hset true rfl)
   |false=>exact IW hm hT hC hlv y _ k Q a w hy hQ h (hset false rfl)
 | .block id c,st,k,Q,a,w,hL,hQ,h,hj=>by
   simp only[vl]at h;refine wp_block (IW hm hT hC hlv c st _ _ a w hL (fun ex st2 a2 w2 hk hj2=> ?_) h hj)
   cases ex with
   |normal=>exact hQ .normal st2 a2 w2 hk hj2
   |ret=>exact hQ .ret st2 a2 w2 hk hj2
   |exit id'=>
    dsimp only at hk;show(if id'=id then Q .normal a2 w2 else Q (.exit id') a2 w2)
    by_cases hid:id'=id
    · have:(id'==id)=true:=by simpa using hid
      rw[this]at hk;rw[if_pos hid];exact hQ .normal st2 a2 w2 hk hj2
    · have:(id'==id)=false:=by simpa using hid
      rw[this]at hk;rw[if_neg hid];exact hQ (.exit id') st2 a2 w2 hk hj2
 | .region id ops false,st,k,Q,a,w,hL,hQ,h,hj=>by
   simp only[vl]at h;exact wp_region_list (Xu hT hC (k:=fun st=>k .normal st) (fun st2 a2 w2 hk hj2=>hQ .normal st2 a2 w2 hk hj2) ops.toList 0 st.tm st.H a w h hj)
 | .region id ops true,st,k,Q,a,w,hL,hQ,h,hj=>by
   simp only[vl]at h;obtain⟨h1,h⟩:=AQ h;rw[Bool.and_eq_true]at h1;exact bE hm hT hC (k:=fun st=>k .normal st) (fun st2 a2 w2 hk hj2=>hQ .normal st2 a2 w2 hk hj2) h1.1 h1.2 (T4 _ _ _ _ _ h) hj
 | .loop c,st,k,Q,a,w,hL,hQ,h,hj=>by
   simp only[vl]at h;have hc:DH Tb tyK Co m an ls (Cs c):=fun c' hc=>hL c' (List.mem_cons_of_mem _ hc)
   split at h
   · rename_i l hl
     obtain⟨x,hx,h⟩:=Option.bind_eq_some_iff.1 h;have hok:=hL c (List.mem_cons_self ..) l hl;exact LS.sound hok (hlv l (Qp hl)) hQ (fun st k Q a w hQ h hj=>IW hm hT hC hlv c st k Q a w hc hQ h hj) h (LS.entry_sound hok.inv (hlv l (Qp hl)) hx hj)
   ·cases h
theorem Z7{m:Nat}{f:FuncId}{fa:FnA}{bz:List A}{sh:Sh}{r:sh.T}{ls:List LS}{cs:List Code}(hm:P.follows .mixedOrders=true)(hT:TbOk P Tb tyK)(hC:CoOk P tyK Co)(hf:P.funcs[f]? =some fa.fn)
 (hcs:(fa.fn.body.map Cs)=some cs) (hL:DH Tb tyK Co m fa.ann ls cs) (h:Il Tb tyK Co m fa ls bz sh=some r):CK P tyK f bz sh r:=by
 unfold Il at h;dsimp only at h;intro Rc w us hh hv;split at h
 ·cases h
 · rename_i c hc
   have hL':DH Tb tyK Co m fa.ann ls (Cs c):=by
    rw[hc]at hcs;simp only[Option.map_some,Option.some.injEq]at hcs;rw[hcs];exact hL
   obtain⟨hlv,h⟩:=AQ h;refine calls_of_wp hf hc ?_;rw[List.all_eq_true]at hlv;have hgrow:=OZ (layL bz 0).2.1 (fa.slots-(layL bz 0).2.1.length);have hp:Pres Rc (layL bz 0).2.1 w Rc ((layL bz 0).2.1++List.replicate (fa.slots-(layL bz 0).2.1.length) .fresh) w:=
    ⟨Step.refl _ _,fun s hs=>by rw[hgrow];exact hs,fun _ _=>rfl,fun s k xs ho hs e=>⟨xs,ho,by rw[←hgrow];exact e,rfl,rfl,fun h=>⟨h,fun _ _ _ _ _ _ _ _=>rfl⟩⟩⟩
   have hh':HR tyK Rc ((layL bz 0).2.1++List.replicate (fa.slots-(layL bz 0).2.1.length) .fresh) w:=by
    refine⟨fun s hs=> ?_,hh.none_⟩
    rcases Nat.lt_or_ge s (layL bz 0).2.1.length with h1|h1
    ·exact ER.keep hp (fun g t ht _=>⟨ht,rfl⟩) (hgrow s) (hh.at_ s h1)
    · rw[hgrow]
      have:AE (layL bz 0).2.1 s=.fresh:=by unfold AE;rw[List.getD_eq_getElem?_getD,List.getElem?_eq_none h1];rfl
      rw[this];trivial
   have hv':=hv.pres hp;have htm:VRs Rc ((layL bz 0).2.1++List.replicate (fa.slots-(layL bz 0).2.1.length) .fresh) w ((layL bz 0).1++List.replicate (fa.fn.ntmps-(layL bz 0).1.length) .junk)
    (us.toArray++Array.replicate (fa.fn.ntmps-us.toArray.size) undef).toList:=by
    have e1:(us.toArray++Array.replicate (fa.fn.ntmps-us.toArray.size) undef).toList=us++List.replicate (fa.fn.ntmps-(layL bz 0).1.length) undef:=by
     simp[hv.1]
    rw[e1];refine⟨by simp[hv.1],fun i v u hv1 hu=> ?_⟩
    rcases Nat.lt_or_ge i (layL bz 0).1.length with h1|h1
    · rw[List.getElem?_append_left h1]at hv1
      rw[List.getElem?_append_left (by rw[←hv.1];exact h1)]at hu
      exact hv'.2 i v u hv1 hu
    · rw[List.getElem?_append_right h1]at hv1
      have:=(List.getElem?_replicate.symm.trans hv1);split at this
      ·injection this with this;subst this;exact .junk _
      ·cases this
   refine IW (r:=r) (R0:=Rc) (w0:=w) (lv:=(layL bz 0).1) (us:=us) hm hT hC hlv c _ _ _ _ w hL' (fun ex st a w' hk hj=> ?_) h ⟨Rc,Step.refl _ _,hh',htm,hv',rfl⟩
   obtain⟨R',hat⟩:=hj;have fin:((Fx Tb st.tm st.H fa.fn.results.toList).bind fun vs=>(AZ sh (one vs::(layL bz 0).1) st.H).bind fun r=>some r.1)=some r→
    a.defers=[]∧ ∃v,(results fa.fn a.tmps).run P w'=.ok v w'∧(∃v',Ending.returned v=.returned v'∧ ∃(Rc':Re) (Hf:List E) (vf:V),Step Rc w Rc' w'∧HR tyK Rc' Hf w'∧VR Rc' Hf w' vf v'∧VRs Rc' Hf w' (layL bz 0).1 us∧
     ∃rest Hf',AZ sh (vf::(layL bz 0).1) Hf=some (r,rest,Hf')):=by
    intro hk;obtain⟨vs,h1,hk⟩:=Option.bind_eq_some_iff.1 hk;obtain⟨⟨r',rest,Hf'⟩,h2,hk⟩:=Option.bind_eq_some_iff.1 hk;injection hk with hk
    dsimp only at hk;subst hk;obtain⟨xs,h3,h4⟩:=SO hT hat.hr hat.tm _ vs h1;exact⟨hat.defers,_,pR h3,_,rfl,R',st.H,one vs,hat.step,hat.hr,eH h4,hat.lv,rest,Hf',h2⟩
   cases ex with
   |normal=>exact fin hk
   |ret=>exact fin hk
   |exit id=>cases hk
end
end Go.Proofs.YthoholbeacojfaaGreat.VR
end
section
set_option linter.unusedVariables false
set_option linter.unusedSimpArgs false
set_option linter.unusedSectionVars false
namespace Go.Proofs.YthoholbeacojfaaGreat.VR
open Go
deriving instance DecidableEq for Sh
inductive DV where
 |int|u8|bool|str|nil|emp|junk|em (b:Bool)|ro (k:Kd)|rog (k:Kd)|rp (d:DV) (j:Nat)|agg (d:DV)|clo (f:FuncId) (d:DV)|one|pair (a b:DV)
 |bor (r:Nat)|borN (r i j:Nat)|ptr (r j:Nat)|ep (r i j:Nat)|jc|rf (k:Kd)|tup (d:DV)
@[reducible] def DV.T : DV → Type
 | .int=>Int| .u8=>Int| .bool=>Bool| .str=>ByteArray| .nil=>Unit| .emp=>Unit| .junk=>Unit| .em _=>Unit| .ro k=>Bool×List k.T| .rog k=>List k.T
 | .rp d _=>d.T| .agg d=>d.T| .clo _ d=>d.T| .one=>Unit| .pair a b=>a.T×b.T
 | .bor _=>Unit| .borN .. =>Unit| .ptr .. =>Unit| .ep .. =>Unit| .jc=>Unit| .rf k=>List k.T| .tup d=>d.T
def DV.make:(d:DV)→d.T→List V
 | .int,n=>[.int n]| .u8,n=>[.u8 n]| .bool,b=>[.bool b]| .str,s=>[.str s]| .nil,_=>[.nil]| .emp,_=>[.emp]| .junk,_=>[.junk]| .em b,_=>[.em b]
 | .ro k,x=>[.ro x.1 k x.2]| .rog k,x=>[.ro true k x]| .rp d j,x=>[.rp (d.make x) j]| .agg d,x=>[.agg (d.make x)]| .clo f d,x=>[.clo f (d.make x)]
 | .one,_=>[]| .pair a b,x=>a.make x.1++b.make x.2
 | .bor r,_=>[.bor r]| .borN r i j,_=>[.borN r i j]| .ptr r j,_=>[.ptr r j]| .ep r i j,_=>[.ep r i j]| .jc,_=>[.jc]| .rf k,x=>[.ro false k x]| .tup d,x=>[.tup (d.make x)]
def DV.read:(d:DV)→List V→Option (d.T×List V)
 | .int,.int n::vs=>some (n,vs)
 | .u8,.u8 n::vs=>some (n,vs)
 | .bool,.bool b::vs=>some (b,vs)
 | .str,.str s::vs=>some (s,vs)
 | .nil,.nil::vs=>some ((),vs)
 | .emp,.emp::vs=>some ((),vs)
 | .junk,.junk::vs=>some ((),vs)
 | .em b,.em b'::vs=>cond (b'==b) (some ((),vs)) none
 | .ro k,.ro p k' xs::vs=>if h:k'=k then some ((p,h▸xs),vs)else none
 | .rog k,.ro true k' xs::vs=>if h:k'=k then some (h▸xs,vs)else none
 | .rp d j,.rp cs j'::vs=>cond (j'==j) ((d.read cs).bind fun r=>cond (D7 r.2) (some (r.1,vs)) none) none
 | .agg d,.agg cs::vs=>(d.read cs).bind fun r=>cond (D7 r.2) (some (r.1,vs)) none
 | .clo f d,.clo f' cs::vs=>cond (f'==f) ((d.read cs).bind fun r=>cond (D7 r.2) (some (r.1,vs)) none) none
 | .bor r,.bor r'::vs=>cond (r'==r) (some ((),vs)) none
 | .borN r i j,.borN r' i' j'::vs=>cond (r'==r&&(i'==i&&j'==j)) (some ((),vs)) none
 | .ptr r j,.ptr r' j'::vs=>cond (r'==r&&j'==j) (some ((),vs)) none
 | .ep r i j,.ep r' i' j'::vs=>cond (r'==r&&(i'==i&&j'==j)) (some ((),vs)) none
 | .jc,.jc::vs=>some ((),vs)
 | .rf k,.ro false k' xs::vs=>if h:k'=k then some (h▸xs,vs)else none
 | .tup d,.tup cs::vs=>(d.read cs).bind fun r=>cond (D7 r.2) (some (r.1,vs)) none
 | .one,vs=>some ((),vs)
 | .pair a b,vs=>(a.read vs).bind fun r=>(b.read r.2).bind fun r'=>some ((r.1,r'.1),r'.2)
 |_,_=>none
inductive DA where
 |v (d:DV)|own (k:Kd)|agg (d:DA)|box (d:DA)|one|pair (a b:DA)
@[reducible] def DA.T : DA → Type
 | .v d=>d.T| .own k=>List k.T| .agg d=>d.T| .box d=>d.T| .one=>Unit| .pair a b=>a.T×b.T
def DA.make:(d:DA)→d.T→List A
 | .v d,x=>(d.make x).map .v| .own k,xs=>[.own k xs]| .agg d,x=>[.agg (d.make x)]| .box d,x=>[.box (d.make x)]
 | .one,_=>[]| .pair a b,x=>a.make x.1++b.make x.2
def Oj:List A→Bool
 | []=>true
 |_=>false
def DA.read:(d:DA)→List A→Option (d.T×List A)
 | .v d,.v x::bz=>(d.read [x]).bind fun r=>cond (D7 r.2) (some (r.1,bz)) none
 | .own k,.own k' xs::bz=>if h:k'=k then some (h▸xs,bz)else none
 | .agg d,.agg bs::bz=>(d.read bs).bind fun r=>cond (Oj r.2) (some (r.1,bz)) none
 | .box d,.box bs::bz=>(d.read bs).bind fun r=>cond (Oj r.2) (some (r.1,bz)) none
 | .one,bz=>some ((),bz)
 | .pair a b,bz=>(a.read bz).bind fun r=>(b.read r.2).bind fun r'=>some ((r.1,r'.1),r'.2)
 |_,_=>none
structure Rw where
 f:FuncId
 d:DA
 sh:Sh
 run:d.T→Option sh.T
def Rw.get(e:Rw)(bs:List A)(sh:Sh):Option (Option sh.T):=
 if h:e.sh=sh then(e.d.read bs).bind fun r=>cond (Oj r.2) (some (h▸e.run r.1)) none else none
def orc:List Rw→Orc
 | [],_,_,_=>none
 |e::es,f,bs,sh=>cond (f==e.f) (match e.get bs sh with|some r=>r|none=>orc es f bs sh) (orc es f bs sh)
structure RwOk(P:Program)(tyK:Kd→TypeId)(e:Rw):Prop where
 call: ∀x r,e.run x=some r→CK P tyK e.f (e.d.make x) e.sh r
 enters:Ie P e.f
theorem RI{vs:List A}(h:Oj vs=true):vs=[]:=by
 cases vs with
 |nil=>rfl
 |cons _ _=>cases h
theorem PI{β:Type}{d:DV}{cs:List V}{vs r:List V}{x:d.T}{f:d.T→β}(ih: ∀(vs:List V) (x:d.T) (r:List V),d.read vs=some (x,r)→vs=d.make x++r)
 (h:((d.read cs).bind fun r=>cond (D7 r.2) (some (r.1,vs)) none)=some (x,r)):cs=d.make x∧vs=r:=by
 obtain⟨⟨x1,r1⟩,h1,h⟩:=Option.bind_eq_some_iff.1 h;obtain⟨h2,h⟩:=AQ h;simp only[Option.some.injEq,Prod.mk.injEq]at h;obtain⟨rfl,rfl⟩:=h;have h3:=ih _ _ _ h1;dsimp only at h2;rw[GZ h2,List.append_nil]at h3;exact⟨h3,rfl⟩
theorem DV.read_eq: ∀(d:DV) (vs:List V) (x:d.T) (r:List V),d.read vs=some (x,r)→vs=d.make x++r:=by
 intro d
 induction d with
 |one=>intro vs x r h;simp only[DV.read,Option.some.injEq,Prod.mk.injEq]at h;simp[DV.make,h.2]
 |pair a b iha ihb=>
  intro vs x r h;simp only[DV.read]at h;obtain⟨⟨x1,r1⟩,h1,h⟩:=Option.bind_eq_some_iff.1 h;obtain⟨⟨x2,r2⟩,h2,h⟩:=Option.bind_eq_some_iff.1 h;simp only[Option.some.injEq,Prod.mk.injEq]at h;obtain⟨rfl,rfl⟩:=h;have h2:=ihb _ _ _ h2;dsimp only at h2;rw[iha _ _ _ h1,h2];simp[DV.make]
 |agg d ih=>
  intro vs x r h;cases vs with
  |nil=>simp[DV.read]at h
  |cons v vs=>
   cases v<;>simp only[DV.read]at h<;>try(cases h;done)
   obtain⟨h1,h2⟩:=PI (f:=id) ih h;rw[h1,h2];rfl
 |tup d ih=>
  intro vs x r h;cases vs with
  |nil=>simp[DV.read]at h
  |cons v vs=>
   cases v<;>simp only[DV.read]at h<;>try(cases h;done)
   obtain⟨h1,h2⟩:=PI (f:=id) ih h;rw[h1,h2];rfl
 |rp d j ih=>
  intro vs x r h;cases vs with
  |nil=>simp[DV.read]at h
  |cons v vs=>
   cases v<;>simp only[DV.read]at h<;>try(cases h;done)
   obtain⟨h0,h⟩:=AQ h;have h0:=eq_of_beq h0;obtain⟨h1,h2⟩:=PI (f:=id) ih h;rw[h0,h1,h2];rfl
 |clo f d ih=>
  intro vs x r h;cases vs with
  |nil=>simp[DV.read]at h
  |cons v vs=>
   cases v<;>simp only[DV.read]at h<;>try(cases h;done)
   obtain⟨h0,h⟩:=AQ h;have h0:=eq_of_beq h0;obtain⟨h1,h2⟩:=PI (f:=id) ih h;rw[h0,h1,h2];rfl
 |em b=>
  intro vs x r h;cases vs with
  |nil=>simp[DV.read]at h
  |cons v vs=>
   cases v<;>simp only[DV.read]at h<;>try(cases h;done)
   obtain⟨h0,h⟩:=AQ h;have h0:=eq_of_beq h0;injection h with h
   obtain⟨rfl,rfl⟩:=Prod.mk.inj h;rw[h0];rfl
 |bor a=>
  intro vs x r h;cases vs with
  |nil=>simp[DV.read]at h
  |cons v vs=>
   cases v<;>simp only[DV.read]at h<;>try(cases h;done)
   obtain⟨h0,h⟩:=AQ h;have h0:=eq_of_beq h0;subst h0;injection h with h
   obtain⟨rfl,rfl⟩:=Prod.mk.inj h;rfl
 |ptr a b=>
  intro vs x r h;cases vs with
  |nil=>simp[DV.read]at h
  |cons v vs=>
   cases v<;>simp only[DV.read]at h<;>try(cases h;done)
   obtain⟨h0,h⟩:=AQ h;rw[Bool.and_eq_true]at h0;have h1:=eq_of_beq h0.1;have h2:=eq_of_beq h0.2;subst h1;subst h2;injection h with h
   obtain⟨rfl,rfl⟩:=Prod.mk.inj h;rfl
 |borN a b c=>
  intro vs x r h;cases vs with
  |nil=>simp[DV.read]at h
  |cons v vs=>
   cases v<;>simp only[DV.read]at h<;>try(cases h;done)
   obtain⟨h0,h⟩:=AQ h;rw[Bool.and_eq_true,Bool.and_eq_true]at h0;have h1:=eq_of_beq h0.1;have h2:=eq_of_beq h0.2.1;have h3:=eq_of_beq h0.2.2;subst h1;subst h2;subst h3;injection h with h
   obtain⟨rfl,rfl⟩:=Prod.mk.inj h;rfl
 |ep a b c=>
  intro vs x r h;cases vs with
  |nil=>simp[DV.read]at h
  |cons v vs=>
   cases v<;>simp only[DV.read]at h<;>try(cases h;done)
   obtain⟨h0,h⟩:=AQ h;rw[Bool.and_eq_true,Bool.and_eq_true]at h0;have h1:=eq_of_beq h0.1;have h2:=eq_of_beq h0.2.1;have h3:=eq_of_beq h0.2.2;subst h1;subst h2;subst h3;injection h with h
   obtain⟨rfl,rfl⟩:=Prod.mk.inj h;rfl
 |rog k=>
  intro vs x r h;cases vs with
  |nil=>simp[DV.read]at h
  |cons v vs=>
   cases v<;>(try simp only[DV.read]at h)<;>first|(cases h;done)|skip
   rename_i p k' xs;cases p with
   |false=>first|(cases h;done)|(simp[DV.read]at h;done)
   |true=>
    (try simp only[DV.read]at h)
    split at h
    ·rename_i e;subst e;simp only[Option.some.injEq,Prod.mk.injEq]at h;obtain⟨rfl,rfl⟩:=h;rfl
    ·cases h
 |rf k=>
  intro vs x r h;cases vs with
  |nil=>simp[DV.read]at h
  |cons v vs=>
   cases v<;>(try simp only[DV.read]at h)<;>first|(cases h;done)|skip
   rename_i p k' xs;cases p with
   |true=>first|(cases h;done)|(simp[DV.read]at h;done)
   |false=>
    (try simp only[DV.read]at h)
    split at h
    ·rename_i e;subst e;simp only[Option.some.injEq,Prod.mk.injEq]at h;obtain⟨rfl,rfl⟩:=h;rfl
    ·cases h
 |ro k=>
  intro vs x r h;cases vs with
  |nil=>simp[DV.read]at h
  |cons v vs=>
   cases v<;>simp only[DV.read]at h<;>try(cases h;done)
   split at h
   ·rename_i e;subst e;simp only[Option.some.injEq,Prod.mk.injEq]at h;obtain⟨rfl,rfl⟩:=h;rfl
   ·cases h
 |_=>
  intro vs x r h;cases vs with
  |nil=>simp[DV.read]at h
  |cons v vs=>
   cases v<;>simp only[DV.read]at h<;>try(cases h;done)
   injection h with h
   obtain⟨rfl,rfl⟩:=Prod.mk.inj h;rfl
theorem DV.make_len: ∀(d:DV) (v:V) (x:d.T),d.read [v]=some (x,[])→d.make x=[v]:=fun d v x h=>by
 have:=d.read_eq _ _ _ h;rw[List.append_nil]at this;exact this.symm
theorem DA.read_eq: ∀(d:DA) (vs:List A) (x:d.T) (r:List A),d.read vs=some (x,r)→vs=d.make x++r:=by
 intro d
 induction d with
 |one=>intro vs x r h;simp only[DA.read,Option.some.injEq,Prod.mk.injEq]at h;simp[DA.make,h.2]
 |pair a b iha ihb=>
  intro vs x r h;simp only[DA.read]at h;obtain⟨⟨x1,r1⟩,h1,h⟩:=Option.bind_eq_some_iff.1 h;obtain⟨⟨x2,r2⟩,h2,h⟩:=Option.bind_eq_some_iff.1 h;simp only[Option.some.injEq,Prod.mk.injEq]at h;obtain⟨rfl,rfl⟩:=h;have h2:=ihb _ _ _ h2;dsimp only at h2;rw[iha _ _ _ h1,h2];simp[DA.make]
 |v d=>
  intro vs x r h;cases vs with
  |nil=>simp[DA.read]at h
  |cons a vs=>
   cases a<;>simp only[DA.read]at h<;>try(cases h;done)
   obtain⟨⟨x1,r1⟩,h1,h⟩:=Option.bind_eq_some_iff.1 h;obtain⟨h2,h⟩:=AQ h;simp only[Option.some.injEq,Prod.mk.injEq]at h;obtain⟨rfl,rfl⟩:=h;have h2:=GZ h2;dsimp only at h2;subst h2;simp only[DA.make,DV.make_len _ _ _ h1,List.map_cons,List.map_nil,List.singleton_append]
 |own k=>
  intro vs x r h;cases vs with
  |nil=>simp[DA.read]at h
  |cons a vs=>
   cases a<;>simp only[DA.read]at h<;>try(cases h;done)
   split at h
   ·rename_i e;subst e;simp only[Option.some.injEq,Prod.mk.injEq]at h;obtain⟨rfl,rfl⟩:=h;rfl
   ·cases h
 |agg d ih=>
  intro vs x r h;cases vs with
  |nil=>simp[DA.read]at h
  |cons a vs=>
   cases a<;>simp only[DA.read]at h<;>try(cases h;done)
   obtain⟨⟨x1,r1⟩,h1,h⟩:=Option.bind_eq_some_iff.1 h;obtain⟨h2,h⟩:=AQ h;simp only[Option.some.injEq,Prod.mk.injEq]at h;obtain⟨rfl,rfl⟩:=h;have h3:=ih _ _ _ h1;dsimp only at h2;rw[RI h2,List.append_nil]at h3;subst h3;rfl
 |box d ih=>
  intro vs x r h;cases vs with
  |nil=>simp[DA.read]at h
  |cons a vs=>
   cases a<;>simp only[DA.read]at h<;>try(cases h;done)
   obtain⟨⟨x1,r1⟩,h1,h⟩:=Option.bind_eq_some_iff.1 h;obtain⟨h2,h⟩:=AQ h;simp only[Option.some.injEq,Prod.mk.injEq]at h;obtain⟨rfl,rfl⟩:=h;have h3:=ih _ _ _ h1;dsimp only at h2;rw[RI h2,List.append_nil]at h3;subst h3;rfl
section
variable {P:Program}{Tb:TypeId→Option TI}{tyK:Kd→TypeId}
theorem RwOk.get{e:Rw}(he:RwOk P tyK e){bs:List A}{sh:Sh}{o:Option sh.T}{r:sh.T}(h:e.get bs sh=some o)(hr:o=some r):CK P tyK e.f bs sh r:=by
 unfold Rw.get at h;split at h
 · rename_i hs
   subst hs;obtain⟨⟨x,rest⟩,h1,h⟩:=Option.bind_eq_some_iff.1 h;obtain⟨h2,h⟩:=AQ h;injection h with h
   dsimp only at h h2;rw[RI h2]at h1;have h3:=e.d.read_eq _ _ _ h1;rw[List.append_nil]at h3;rw[h3];exact he.call x r (h.trans hr)
 ·cases h
theorem Rk: ∀{es:List Rw},(∀e∈es,RwOk P tyK e)→ ∀f bs sh r,orc es f bs sh=some r→CK P tyK f bs sh r∧Ie P f
 | [],_,f,bs,sh,r,h=>by cases h
 |e::es,he,f,bs,sh,r,h=>by
  have ih:=Rk (es:=es) fun e' h'=>he e' (List.mem_cons_of_mem _ h')
  simp only[orc]at h;cases hb:(f==e.f)with
  |false=>rw[hb]at h;exact ih f bs sh r h
  |true=>
   have hf:f=e.f:=by simpa using hb
   subst hf;rw[hb]at h;simp only[cond_true]at h;split at h
   · rename_i o ho
     exact⟨(he e (List.mem_cons_self ..)).get ho h,(he e (List.mem_cons_self ..)).enters⟩
   ·exact ih _ bs sh r h
theorem fK{es:List Rw}(he: ∀e∈es,RwOk P tyK e):CoOk P tyK (orc es):=⟨fun f bs sh r h=>(Rk he f bs sh r h).1,fun f bs sh r h=>(Rk he f bs sh r h).2⟩
theorem bP: ∀e∈([]:List Rw),RwOk P tyK e:=fun e h=>by cases h
theorem bO{e:Rw}{es:List Rw}(h:RwOk P tyK e)(hs: ∀e∈es,RwOk P tyK e): ∀e'∈e::es,RwOk P tyK e':=fun e' h'=>by
 rcases List.mem_cons.1 h' with rfl|h'
 ·exact h
 ·exact hs _ h'
theorem UA{e:Rw}{fa:FnA}{ls:List LS}{cs:List Code}{n:Nat}{es:List Rw}(hm:P.follows .mixedOrders=true)(hT:TbOk P Tb tyK)(hes: ∀e'∈es,RwOk P tyK e')(hf:P.funcs[e.f]? =some fa.fn)
 (h1:(fa.fn.name== "runtime.NumGoroutine")=false) (h2:fa.fn.body.isNone=false) (hcs:(fa.fn.body.map Cs)=some cs) (hL:DH Tb tyK (orc es) n fa.ann ls cs)
 (heq: ∀x,Il Tb tyK (orc es) n fa ls (e.d.make x) e.sh=e.run x):RwOk P tyK e:=
 ⟨fun x r h=>Z7 hm hT (fK hes) hf hcs hL ((heq x).trans h),Mj hf h1 h2⟩
end
end Go.Proofs.YthoholbeacojfaaGreat.VR
end
section
namespace Go.Proofs.YthoholbeacojfaaGreat.VR
open Go
structure Sys where
 Now:Int
 Cpus:Int
 Tasks:List Task
 Locks:List Lock
 Ghosts:List Ghost
 Floors:List Int
 Seq:Int
 Missed:Int
 Trace:List Turn
deriving instance DecidableEq,Inhabited for Sys
structure Cur where
 b:List Int
 i:Int
 h:Int
deriving instance DecidableEq,Inhabited for Cur
abbrev Pk:=Int×Int×Unit
abbrev BW:=Int×Int×Int×Int×Bool×Int×Int×Int×Int×Int×Int×Int×Int×Int×Unit
abbrev TG:=Int×List Int×Unit
abbrev TD:=Int×Int×Int×Int×Unit
abbrev TJ:=Int×Int×Int×Unit
abbrev Ic:=Int×Int×Int×Int×Int×Unit
abbrev Ap:=Int×Int×List Task×List Lock×List Ghost×List Int×Int×Int×List Turn×Unit
abbrev B5:=List Int×Int×Int×Unit
def PZ(x:Share):Pk:=(x.Q,x.P,())
def GC(x:Pk):Share:=⟨x.1,x.2.1⟩
def AK(x:Task):BW:=(x.No,x.Class,x.Cpu,x.State,x.Idle,x.Q,x.P,x.Left,x.Due,x.Prio,x.Round,x.Seq,x.Nice,x.V,())
def AC(x:BW):Task:=⟨x.1,x.2.1,x.2.2.1,x.2.2.2.1,x.2.2.2.2.1,x.2.2.2.2.2.1,x.2.2.2.2.2.2.1,x.2.2.2.2.2.2.2.1,x.2.2.2.2.2.2.2.2.1,x.2.2.2.2.2.2.2.2.2.1,x.2.2.2.2.2.2.2.2.2.2.1,x.2.2.2.2.2.2.2.2.2.2.2.1,x.2.2.2.2.2.2.2.2.2.2.2.2.1,x.2.2.2.2.2.2.2.2.2.2.2.2.2.1⟩
def uU(x:Lock):TG:=(x.Owner,x.Waits,())
def Ty(x:TG):Lock:=⟨x.1,x.2.1⟩
def uS(x:Ghost):TD:=(x.Cpu,x.S.Q,x.S.P,x.Until,())
def Mg(x:TD):Ghost:=⟨x.1,⟨x.2.1,x.2.2.1⟩,x.2.2.2.1⟩
def uV(x:Turn):TJ:=(x.Cpu,x.Context,x.Executor,())
def P8(x:TJ):Turn:=⟨x.1,x.2.1,x.2.2.1⟩
def As(x:Call):Ic:=(x.Kind,x.No,x.Cpu,x.A,x.B,())
def Ar(x:Ic):Call:=⟨x.1,x.2.1,x.2.2.1,x.2.2.2.1,x.2.2.2.2.1⟩
def AB(x:Sys):Ap:=(x.Now,x.Cpus,x.Tasks,x.Locks,x.Ghosts,x.Floors,x.Seq,x.Missed,x.Trace,())
def AA(x:Ap):Sys:=⟨x.1,x.2.1,x.2.2.1,x.2.2.2.1,x.2.2.2.2.1,x.2.2.2.2.2.1,x.2.2.2.2.2.2.1,x.2.2.2.2.2.2.2.1,x.2.2.2.2.2.2.2.2.1⟩
def AP(x:Cur):B5:=(x.b,x.i,x.h,())
def AD(x:B5):Cur:=⟨x.1,x.2.1,x.2.2.1⟩
@[simp] theorem dnShare_up (x : Share) : GC (PZ x) = x := rfl
@[simp] theorem dnTask_up (x : Task) : AC (AK x) = x := rfl
@[simp] theorem dnLock_up (x : Lock) : Ty (uU x) = x := rfl
@[simp] theorem dnGhost_up (x : Ghost) : Mg (uS x) = x := rfl
@[simp] theorem dnTurn_up (x : Turn) : P8 (uV x) = x := rfl
@[simp] theorem dnCall_up (x : Call) : Ar (As x) = x := rfl
@[simp] theorem dnSys_up (x : Sys) : AA (AB x) = x := rfl
@[simp] theorem dnCur_up (x : Cur) : AD (AP x) = x := rfl
def IN(n:Nat):Code→Option Code
 | .seq a b=>match IN n a with|some c=>some c|none=>IN n b
 | .cond _ a b=>match IN n a with|some c=>some c|none=>IN n b
 | .block _ c=>IN n c
 | .loop c=>cond (DS c==some n) (some c) (IN n c)
 |_=>none
def I5(t:TypeId):List (TypeId×TI)→Option TI
 | []=>none
 |(u,ti)::r=>cond (t==u) (some ti) (I5 t r)
structure TIok(P:Program)(t:TypeId)(ti:TI):Prop where
 inf:P.underlying t=some ti.und∧ ∃i,P.info? t=some i∧i.zero=some ti.zero∧i.size=ti.size∧i.bytes=ti.bytes∧ti.zero.cells.size=ti.size∧ti.bytes≤131072
 eqs: ∀fs,ti.und=.struct fs→P.eqGuardType P.depth t=false∧P.stoodInHeld t=false
def F5(zs:List Value):List C→Bool
 | []=>true
 |c::cs=>match zs,c with
  | .int .i64 0::zs,.int 0=>F5 zs cs
  | .int .u8 0::zs,.u8 0=>F5 zs cs
  | .bool false::zs,.bool false=>F5 zs cs
  | .string s::zs,.str t=>(s.size==0)&&(t.size==0)&&F5 zs cs
  | .slice none 0 0::zs,.nest []=>F5 zs cs
  |_,_=>false
theorem Qq{P:Program}{t:TypeId}{ti:TI}: ∀{l:List (TypeId×TI)},(∀p∈l,TIok P p.1 p.2)→I5 t l=some ti→TIok P t ti
 |(u,x)::r,hl,h=>by
  simp only[I5]at h;cases hb:(t==u)with
  |true=>
   rw[hb]at h;have:t=u:=by simpa using hb
   subst this;simp only[cond_true,Option.some.injEq]at h;subst h;exact hl _ (List.mem_cons_self ..)
  |false=>rw[hb]at h;exact Qq (fun p hp=>hl p (List.mem_cons_of_mem _ hp)) h
theorem YK{s:ByteArray}(h:(s.size==0)=true):s=ByteArray.empty:=by
 have h:s.size=0:=by simpa using h
 exact ByteArray.ext (Array.eq_empty_of_size_eq_zero h)
theorem Za: ∀(cs:List C) (zs:List Value),F5 zs cs=true→ ∀(j:Nat) (c:C),cs[j]? =some c→ ∃u,zs[j]? =some u∧Bc c u
 | [],zs,_,j,c,h=>by simp at h
 |c::cs,zs,hb,j,x,h=>by
  unfold F5 at hb;split at hb
  all_goals first|(cases hb;done)|skip
  all_goals(try(rw[Bool.and_eq_true,Bool.and_eq_true]at hb;have e1:=YK hb.1.1;have e2:=YK hb.1.2;have hb:=hb.2))
  all_goals
   cases j with
   |succ j=>simp only[List.getElem?_cons_succ]at h⊢;exact Za _ _ (by first|exact hb|exact hb.2) j x h
   |zero=>
    simp only[List.getElem?_cons_zero,Option.some.injEq]at h⊢;subst h
    first|exact⟨_,rfl,rfl⟩|exact⟨_,rfl,_,rfl,rfl⟩|(subst e1;subst e2;exact⟨_,rfl,rfl⟩)
theorem tY{P:Program}{l:List (TypeId×TI)}{tyK:Kd→TypeId}(hl: ∀p∈l,TIok P p.1 p.2)
 (hz: ∀k,match I5 (tyK k) l with|some ti=>F5 ti.zero.cells.toList (k.cells k.dflt)=true|none=>True):TbOk P (fun t=>I5 t l) tyK:=by
 refine⟨fun t ti h=>(Qq hl h).inf,fun k ti h hs=> ?_,fun t ti fs h e=>(Qq hl h).eqs fs e⟩
 have:=hz k;rw[h]at this;exact Za _ _ this
theorem uD{P:Program}: ∀p∈([]:List (TypeId×TI)),TIok P p.1 p.2:=fun p h=>by cases h
theorem CJ{P:Program}{t:TypeId}{ti:TI}{l:List (TypeId×TI)}(h:TIok P t ti)(hl: ∀p∈l,TIok P p.1 p.2): ∀p∈(t,ti)::l,TIok P p.1 p.2:=fun p hp=>by
 rcases List.mem_cons.1 hp with rfl|hp
 ·exact h
 ·exact hl p hp
end Go.Proofs.YthoholbeacojfaaGreat.VR
end
section
set_option linter.unusedVariables false
set_option linter.unusedSimpArgs false
namespace Go.Proofs.YthoholbeacojfaaGreat.VR
open Go
def Xz(f:FuncId)(k:Kd)(g:List k.T→Option (List k.T×Unit)):Rw:=⟨f,.pair (.v (.ro k)) .one,.pair (.own k) .one,fun x=>g x.1.2⟩
def Xy(f:FuncId)(k:Kd)(b:Bool)(c:Option (List k.T×Unit)):Rw:=⟨f,.pair (.v (.em b)) .one,.pair (.own k) .one,fun _=>c⟩
theorem tS{k:Kd}{v:V}{vs vs' rest:List V}{H H':List E}{r:List k.T}(h:AZ (.pair (.own k) .one) (v::vs) H=some ((r,()),rest,H')):AZ (.pair (.own k) .one) (v::vs') H=some ((r,()),vs',H'):=by
 simp only[AZ]at h⊢;obtain⟨⟨r1,r2,r3⟩,e1,h⟩:=Option.bind_eq_some_iff.1 h;obtain⟨⟨q1,q2,q3⟩,e2,h⟩:=Option.bind_eq_some_iff.1 h;simp only[Option.some.injEq,Prod.mk.injEq]at h e2;obtain⟨⟨rfl,_⟩,rfl,rfl⟩:=h;obtain⟨_,rfl,rfl⟩:=e2;refine Option.bind_eq_some_iff.2 ⟨(r1,vs',r3),?_,rfl⟩;cases v<;>(try simp only[AZ]at e1⊢)<;>first|(cases e1;done)|skip
 all_goals first
  |(simp only[Option.some.injEq,Prod.mk.injEq]at e1;obtain⟨rfl,_,rfl⟩:=e1;rfl)
  |(split at e1
    · rename_i k' xs ho e
      obtain⟨h1,e1⟩:=AQ e1;split at e1
      · rename_i hk
        simp only[Option.some.injEq,Prod.mk.injEq]at e1;obtain⟨rfl,_,rfl⟩:=e1;simp[h1,hk]
      ·cases e1
    ·cases e1)
theorem Mb{P:Program}{tyK:Kd→TypeId}{f:FuncId}{k:Kd}{g:List k.T→Option (List k.T×Unit)}{c1 c2:Option (List k.T×Unit)}(h1:RwOk P tyK (Xz f k g))(h2:RwOk P tyK (Xy f k true c1))(h3:RwOk P tyK (Xy f k false c2))
 (e1: ∀xs:List k.T,xs.isEmpty=false→xs.length≤lim→g xs=some (xs,())) (e2:c1=some ([],())) (e3:c2=some ([],())):
 RwOk P tyK (Xz f k fun xs=>cond (decide (xs.length≤lim)) (some (xs,())) none):=by
 refine⟨fun x r h=> ?_,h1.enters⟩
 obtain⟨⟨p,xs⟩,u0⟩:=x;obtain⟨hl,h⟩:=AQ h;have hl:xs.length≤lim:=of_decide_eq_true hl;injection h with h
 subst h;cases xs with
 |cons y ys=>exact h1.call ((p,y::ys),()) (y::ys,()) (e1 _ rfl hl)
 |nil=>
  have hem: ∀b:Bool,CK P tyK f [.v (.em b)] (.pair (.own k) .one) ([],()):=fun b=>by
   cases b with
   |true=>exact h2.call ((),()) ([],()) e2
   |false=>exact h3.call ((),()) ([],()) e3
  intro Rc w us hh hv;obtain⟨u,rfl⟩: ∃u,us=[u]:=by
   have:=hv.1
   match us,this with
   | [u],_=>exact⟨u,rfl⟩
  have hu:=hv.2 0 _ _ rfl rfl;obtain⟨A,cap,rfl,hc1,hc2,_⟩:=hu.ro_inv;have hv':VRs Rc (layL [.v (.em A.isNone)] 0).2.1 w (layL [.v (.em A.isNone)] 0).1 [.slice A 0 cap]:=VRs.mk (.em _ A cap rfl) VRs.nil;refine(hem A.isNone Rc w [.slice A 0 cap] hh hv').mono ?_;rintro e w' ⟨v,rfl,Rc',Hf,vf,h4,h5,h6,h7,rest,Hf',ht⟩;refine⟨v,rfl,Rc',Hf,vf,h4,h5,h6,VRs.mk (.ro p k [] _ ⟨A,cap,rfl,hc1,hc2,fun i x hx=>by simp at hx⟩) VRs.nil,_,Hf',tS ht⟩
end Go.Proofs.YthoholbeacojfaaGreat.VR
end
section
set_option linter.unusedVariables false
set_option linter.unusedSectionVars false
namespace Go.Proofs.YthoholbeacojfaaGreat.VR
open Go
@[reducible] def pD : List DV → DV
 | []=>.one
 |a::l=>.pair a (pD l)
@[reducible] def pA : List DA → DA
 | []=>.one
 |a::l=>.pair a (pA l)
@[reducible] def pV : List DV → DA
 | []=>.one
 |a::l=>.pair (.v a) (pV l)
@[reducible] def pS : List Sh → Sh
 | []=>.one
 |a::l=>.pair a (pS l)
inductive DE where
 |root (k:Kd)|dirt (k:Kd)|box (d:DV)|dead|fresh
@[reducible] def DE.T : DE → Type
 | .root k=>List k.T| .dirt k=>List k.T| .box d=>d.T| .dead=>Unit| .fresh=>Unit
@[reducible] def DEs : List DE → Type
 | []=>Unit
 |e::es=>e.T×DEs es
def DE.make:(d:DE)→d.T→E
 | .root k,xs=>.root k xs .ok| .dirt k,xs=>.root k xs .dirty| .box d,x=>.box (d.make x)| .dead,_=>.dead| .fresh,_=>.fresh
def DE.read:(d:DE)→E→Option d.T
 | .root k,.root k' xs .ok=>if h:k'=k then some (h▸xs)else none
 | .dirt k,.root k' xs .dirty=>if h:k'=k then some (h▸xs)else none
 | .box d,.box cs=>(d.read cs).bind fun r=>cond (D7 r.2) (some r.1) none
 | .dead,.dead=>some ()
 | .fresh,.fresh=>some ()
 |_,_=>none
def Rd:(l:List DE)→DEs l→List E
 | [],_=>[]
 |e::es,x=>e.make x.1::Rd es x.2
def SK:(l:List DE)→List E→Option (DEs l)
 | [],[]=>some ()
 |e::es,y::ys=>(e.read y).bind fun a=>(SK es ys).bind fun b=>some (a,b)
 |_,_=>none
theorem DE.read_eq{d:DE}{e:E}{x:d.T}(h:d.read e=some x):e=d.make x:=by
 cases d with
 |root k=>
  cases e with
  |root k' xs ho=>
   cases ho<;>simp only[DE.read]at h<;>try(cases h;done)
   split at h
   ·rename_i e;subst e;injection h with h;subst h;rfl
   ·cases h
  |_=>cases h
 |dirt k=>
  cases e with
  |root k' xs ho=>
   cases ho<;>simp only[DE.read]at h<;>try(cases h;done)
   split at h
   ·rename_i e;subst e;injection h with h;subst h;rfl
   ·cases h
  |_=>cases h
 |box d=>
  cases e<;>simp only[DE.read]at h<;>try(cases h;done)
  obtain⟨⟨a,r⟩,h1,h⟩:=Option.bind_eq_some_iff.1 h;obtain⟨h2,h⟩:=AQ h;injection h with h
  have h3:=d.read_eq _ _ _ h1;dsimp only at h2 h;subst h;rw[GZ h2,List.append_nil]at h3;rw[h3];rfl
 |_=>cases e<;>first|rfl|cases h
theorem Xt: ∀{l:List DE} {ys:List E} {x:DEs l},SK l ys=some x→ys=Rd l x
 | [],[],_,_=>rfl
 | [],_::_,_,h=>by cases h
 |_::_,[],_,h=>by cases h
 |e::es,y::ys,x,h=>by
  obtain⟨a,h1,h⟩:=Option.bind_eq_some_iff.1 h;obtain⟨b,h2,h⟩:=Option.bind_eq_some_iff.1 h;injection h with h
  subst h;rw[DE.read_eq h1,Xt h2];rfl
def cF(n:Nat):HT:=cond (n==1) .k (cond (n==2) .d (cond (n==3) .fresh .dead))
def Un:Nat→Nat→List HT→List HT
 |0,_,a=>a
 |f+1,n,a=>cond (n==0) a (Un f (n/10) (cF (n % 10)::a))
def hd(n:Nat):List HT:=Un 200 n []
def Mh:Nat→Nat→List (Nat×List Nat×List Nat)→List (List Nat×List Nat)
 |0,_,_=>[]
 |f+1,i,l=>match l with
  | []=>([],[])::Mh f (i+1) []
  |(j,p)::r=>cond (i==j) (p::Mh f (i+1) r) (([],[])::Mh f (i+1) l)
def dr(n:Nat)(l:List (Nat×List Nat×List Nat)):List (List Nat×List Nat):=Mh n 0 l
def cl(n:Nat)(sh:Sh)(m:Nat):OA:=.call (List.replicate n .ro) sh [] (List.replicate m none)
def eS(nt:Nat)(kt:List Nat)(vs:List V)(hs:Nat)(es:List E):St:=⟨Fu kt vs 0 nt,DZ (hd hs) es⟩
def AN(la:LA)(nt:Nat)(kt:List Nat)(hs:Nat)(d:DV)(es:List DE)(run:{α:Type}→Nat→d.T×DEs es→(Ex→St→Option α)→Option α):LS where
 la:=la
 nt:=nt
 kt:=kt
 hs:=hd hs
 X:=d.T×DEs es
 abs:=fun vs ys=>(d.read vs).bind fun r=>cond (D7 r.2) ((SK es ys).bind fun q=>some (r.1,q)) none
 tms:=fun x=>d.make x.1
 ets:=fun x=>Rd es x.2
 run:=run
def cOf(fa:FnA)(l:LS):Code:=(fa.fn.body.bind (IN l.la.first)).getD .skip
section
variable {P:Program}{Tb:TypeId→Option TI}{tyK:Kd→TypeId}
theorem AO{Co:Orc}{n:Nat}{an:Ann}{ls:List LS}{c:Code}{la:LA}{nt:Nat}{kt:List Nat}{hs:Nat}{d:DV}{es:List DE}{run:{α:Type}→Nat→d.T×DEs es→(Ex→St→Option α)→Option α}
 (hs': ∀{α:Type} (m:Nat) (x:d.T×DEs es) (k:Ex→St→Option α),vl Tb tyK Co n an ls c ((AN la nt kt hs d es run).pack x) ((AN la nt kt hs d es run).round m k)=run (m+1) x k)
 (hz: ∀{α:Type} (x:d.T×DEs es) (k:Ex→St→Option α),run 0 x k=none):LSok Tb tyK Co n an ls c (AN la nt kt hs d es run):=
 ⟨fun vs ys x h=>by
  obtain⟨⟨a,r⟩,h1,h⟩:=Option.bind_eq_some_iff.1 h;obtain⟨h2,h⟩:=AQ h;obtain⟨q,h3,h⟩:=Option.bind_eq_some_iff.1 h;injection h with h
  subst h;have h4:=d.read_eq _ _ _ h1;dsimp only at h2 h4;rw[GZ h2,List.append_nil]at h4;exact⟨h4,Xt h3⟩,hz,hs'⟩
def MT(Tb:TypeId→Option TI)(tyK:Kd→TypeId)(Co:Orc)(n:Nat)(fa:FnA)(ls:List LS):List LS→Prop
 | []=>True
 |l::r=>LSok Tb tyK Co n fa.ann ls (cOf fa l) l∧MT Tb tyK Co n fa ls r
theorem TF{Co:Orc}{n:Nat}{fa:FnA}{ls:List LS}: ∀{r:List LS},MT Tb tyK Co n fa ls r→ ∀l∈r,LSok Tb tyK Co n fa.ann ls (cOf fa l) l
 |l::r,h,l',hl=>by
  rcases List.mem_cons.1 hl with rfl|hl
  ·exact h.1
  ·exact TF h.2 l' hl
theorem ent{e:Rw}(fa:FnA)(ls:List LS)(n:Nat){es:List Rw}(hm:P.follows .mixedOrders=true)(hT:TbOk P Tb tyK)(hes: ∀e'∈es,RwOk P tyK e')(hf:P.funcs[e.f]? =some fa.fn)
 (hk:(fa.fn.name== "runtime.NumGoroutine",fa.fn.body.isNone,fa.fn.body.map Cs,ls.map fun l=>GX (DS (cOf fa l)) ls)=(false,false,some (ls.map (cOf fa)),ls.map some)) (hL:MT Tb tyK (orc es) n fa ls ls)
 (heq: ∀x,Il Tb tyK (orc es) n fa ls (e.d.make x) e.sh=e.run x):RwOk P tyK e:=by
 injection hk with h1 hk
 injection hk with h2 hk
 injection hk with h3 h4
 refine UA hm hT hes hf h1 h2 h3 (fun c hc l hl=> ?_) heq
 obtain⟨l',hl',rfl⟩:=List.mem_map.1 hc;have:=List.map_inj_left.1 h4 l' hl';rw[this]at hl;injection hl with hl
 subst hl;exact TF hL _ hl'
end
abbrev Zd:DV:=pD [.int,.int]
abbrev Pi:DV:=.agg Zd
abbrev Ib:DV:=pD [.int,.int,.int,.int,.bool,.int,.int,.int,.int,.int,.int,.int,.int,.int]
abbrev Au:DV:=.agg Ib
abbrev Zc:DV:=pD [.int,.ro .int]
abbrev KK:DV:=.agg Zc
abbrev Zb:DV:=pD [.int,.int,.int,.int]
abbrev Ph:DV:=.agg Zb
abbrev Ze:DV:=pD [.int,.int,.int]
abbrev TC:DV:=.agg Ze
abbrev IZ:DV:=pD [.int,.int,.int,.int,.int]
abbrev Ca:DV:=.agg IZ
abbrev Ah:DV:=pD [.int,.int,.ro .task,.ro .lock,.ro .ghost,.ro .int,.int,.int,.ro .turn]
abbrev Aq:DV:=.agg Ah
abbrev Ia:DV:=pD [.rog .u8,.int,.int]
def Ld(x:KK.T):Lock:=⟨x.1,x.2.1.2⟩
def AS(x:Aq.T):Sys:=⟨x.1,x.2.1,x.2.2.1.2,x.2.2.2.1.2,x.2.2.2.2.1.2,x.2.2.2.2.2.1.2,x.2.2.2.2.2.2.1,x.2.2.2.2.2.2.2.1,x.2.2.2.2.2.2.2.2.1.2⟩
end Go.Proofs.YthoholbeacojfaaGreat.VR
end
