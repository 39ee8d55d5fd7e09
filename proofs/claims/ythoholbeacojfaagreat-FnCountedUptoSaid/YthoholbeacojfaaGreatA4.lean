/- Calls: the state behind a call; the operation. -/
import Derived.Test.YthoholbeacojfaaGreatA3
set_option linter.unusedVariables false
set_option linter.unusedSimpArgs false
set_option linter.unusedSectionVars false
section
set_option linter.unusedVariables false
set_option linter.unusedSimpArgs false
set_option linter.unusedSectionVars false
namespace Go.Proofs.YthoholbeacojfaaGreat.VR
open Go
def CK(P:Program)(tyK:Kd→TypeId)(f:FuncId)(bz:List A)(sh:Sh)(r:sh.T):Prop:=
 ∀(Rc:Re) (w:World) (us:List Value),HR tyK Rc (layL bz 0).2.1 w→VRs Rc (layL bz 0).2.1 w (layL bz 0).1 us→
  Calls P f us.toArray w fun e w'=> ∃v,e=.returned v∧ ∃(Rc':Re) (Hf:List E) (vf:V),Step Rc w Rc' w'∧HR tyK Rc' Hf w'∧VR Rc' Hf w' vf v∧VRs Rc' Hf w' (layL bz 0).1 us∧
   ∃rest Hf',AZ sh (vf::(layL bz 0).1) Hf=some (r,rest,Hf')
def Pj(P:Program)(tyK:Kd→TypeId)(Co:Orc):Prop:= ∀f bz sh r,Co f bz sh=some r→CK P tyK f bz sh r
section
open Classical in
noncomputable def psi:List XM→Tag→Option Tag
 | [],_=>none
 |m::X,t=>if∃s,m.src=some s∧t.of s then m.tgt.bind fun s'=>match t with| .slot _=>some (.slot s')| .nest _ i j=>some (.nest s' i j)| .frozen=>none else psi X t
theorem Rm: ∀{X:List XM} {m:XM} {s:Nat} {t:Tag},X.Pairwise (fun m m'=> ∀s,m.src=some s→m'.src≠some s)→m∈X→m.src=some s→t.of s→
 psi X t=m.tgt.bind fun s'=>match t with| .slot _=>some (.slot s')| .nest _ i j=>some (.nest s' i j)| .frozen=>none
 |m'::X,m,s,t,hd,hm,e,hof=>by
  rw[List.pairwise_cons]at hd;unfold psi;rcases List.mem_cons.1 hm with rfl|hm
  ·rw[if_pos ⟨s,e,hof⟩]
  · rw[if_neg,Rm hd.2 hm e hof]
    rintro⟨s',e',hof'⟩;have:=IE hof hof';subst this;exact hd.1 m hm s e' e
def II(ρ:Nat→Value):List XM→Nat→Value
 | [],s=>ρ s
 |m::X,s=>if m.own=true∧m.tgt=some s then m.val else II ρ X s
theorem Xw{ρ:Nat→Value}: ∀{X:List XM} {m:XM} {t:Nat},(X.filterMap (·.tgt)).Nodup→m∈X→m.own=true→m.tgt=some t→II ρ X t=m.val
 |m'::X,m,t,hd,hm,ho,e=>by
  unfold II;rcases List.mem_cons.1 hm with rfl|hm
  ·rw[if_pos ⟨ho,e⟩]
  · have hmem:t∈X.filterMap (·.tgt):=List.mem_filterMap.2 ⟨m,hm,e⟩
    rw[if_neg]
    · refine Xw ?_ hm ho e
      cases e':m'.tgt with
      |none=>rw[List.filterMap_cons_none e']at hd;exact hd
      |some t'=>rw[List.filterMap_cons_some e']at hd;exact(List.nodup_cons.1 hd).2
    · rintro⟨_,e'⟩
      rw[List.filterMap_cons_some e']at hd;exact(List.nodup_cons.1 hd).1 hmem
theorem ME{ρ:Nat→Value}: ∀{X:List XM} {s:Nat},(∀m∈X,m.own=true→m.tgt≠some s)→II ρ X s=ρ s
 | [],s,_=>rfl
 |m::X,s,h=>by
  unfold II;rw[if_neg (fun h2=>h m (by simp) h2.1 h2.2),ME fun m' hm'=>h m' (by simp[hm'])]
def Ih(β βc:Nat→Nat):List XM→Nat→Nat
 | [],s=>β s
 |m::X,s=>if m.own=true∧m.tgt=some s then(match m.src with|some q=>βc q|none=>β s)else Ih β βc X s
theorem Td{β βc:Nat→Nat}: ∀{X:List XM} {m:XM} {t q:Nat},(X.filterMap (·.tgt)).Nodup→m∈X→m.own=true→m.tgt=some t→m.src=some q→Ih β βc X t=βc q
 |m'::X,m,t,q,hd,hm,ho,e,es=>by
  unfold Ih;rcases List.mem_cons.1 hm with rfl|hm
  ·rw[if_pos ⟨ho,e⟩,es]
  · have hmem:t∈X.filterMap (·.tgt):=List.mem_filterMap.2 ⟨m,hm,e⟩
    rw[if_neg]
    · refine Td ?_ hm ho e es
      cases e':m'.tgt with
      |none=>rw[List.filterMap_cons_none e']at hd;exact hd
      |some t'=>rw[List.filterMap_cons_some e']at hd;exact(List.nodup_cons.1 hd).2
    · rintro⟨_,e'⟩
      rw[List.filterMap_cons_some e']at hd;exact(List.nodup_cons.1 hd).1 hmem
theorem Pv{β βc:Nat→Nat}: ∀{X:List XM} {s:Nat},(∀m∈X,m.own=true→m.tgt≠some s)→Ih β βc X s=β s
 | [],s,_=>rfl
 |m::X,s,h=>by
  unfold Ih;rw[if_neg (fun h2=>h m (by simp) h2.1 h2.2),Pv fun m' hm'=>h m' (by simp[hm'])]
open Classical in
noncomputable def Re.out (R R1 Rc:Re) (X:List XM):Re:=⟨fun g=>if R1.T g=some .frozen then R.T g else(Rc.T g).bind (psi X),Ih R.β Rc.β X,II R.ρ X⟩
theorem Sk: ∀{ss:List (Option Nat)} {H:List E},F2 H ss=true→(∀s,some s∈ss→s<H.length∧AE H s=.fresh)∧(ss.filterMap id).Nodup
 | [],H,_=>⟨fun s h=>by simp at h,by simp⟩
 |none::ss,H,h=>by
  obtain⟨h1,h2⟩:=Sk (ss:=ss) (H:=H) h;exact⟨fun s hs=>h1 s (by simpa using hs),by simpa using h2⟩
 |some s::ss,H,h=>by
  simp only[F2,Bool.and_eq_true]at h;obtain⟨⟨h1,h2⟩,h3⟩:=h;have h1:s<H.length:=by simpa using h1
  have h2:AE H s=.fresh:=by
   cases e:AE H s<;>rw[e]at h2<;>first|rfl|cases h2
  obtain⟨h4,h5⟩:=Sk h3;refine⟨fun s' hs'=> ?_,?_⟩
  · rcases List.mem_cons.1 hs' with e|hs'
    ·injection e with e;subst e;exact⟨h1,h2⟩
    · obtain⟨h6,h7⟩:=h4 s' hs'
      rw[List.length_set]at h6;refine⟨h6,?_⟩;rw[C8]at h7;split at h7
      ·cases h7
      ·exact h7
  · simp only[List.filterMap_cons,id,List.nodup_cons]
    refine⟨fun hm=> ?_,h5⟩
    obtain⟨x,hx,e⟩:=List.mem_filterMap.1 hm;simp only[id]at e;subst e;have:=(h4 s hx).2;rw[Bo h1]at this;cases this
theorem Uk: ∀{ws:List (Nat×E)} {H:List E},(ws.map (·.1)).Nodup→(∀p∈ws,p.1<H.length)→ ∀p∈ws,AE (AJ H ws) p.1=p.2
 | [],H,_,_,p,hp=>by cases hp
 |(s,e)::ws,H,hd,hl,p,hp=>by
  simp only[List.map_cons,List.nodup_cons]at hd;simp only[AJ];rcases List.mem_cons.1 hp with rfl|hp
  · rw[EU fun p hp e=>hd.1 (List.mem_map.2 ⟨p,hp,e⟩)]
    exact Bo (hl (s,e) (by simp))
  ·exact Uk hd.2 (fun p hp=>by rw[List.length_set];exact hl p (by simp[hp])) p hp
theorem Vr: ∀{l:List Nat},Ot l=true→l.Nodup
 | [],_=>by simp
 |x::l,h=>by
  simp only[Ot,Bool.and_eq_true]at h;rw[List.nodup_cons];exact⟨by simpa using h.1,Vr h.2⟩
variable {tyK:Kd→TypeId}{R:Re}{H:List E}{w w':World}
theorem RZ: ∀(vs:List V) (ms:List AM) (H:List E) (us:List Value) (xs:List (V⊕A)) (ws:List (Nat×E)),HR tyK R H w→VRs R H w vs us→CH vs ms H=some (xs,ws)→HR tyK R (AJ H ws) w
 | [],[],H,us,xs,ws,hh,hv,h=>by
   simp[CH]at h;obtain⟨rfl,rfl⟩:=h;exact hh
 | [],m::ms,H,us,xs,ws,hh,hv,h=>by simp[CH]at h
 |v::vs,[],H,us,xs,ws,hh,hv,h=>by simp[CH]at h
 |v::vs,m::ms,H,[],xs,ws,hh,hv,h=>by have:=hv.1;simp at this
 |v::vs,.ro::ms,H,u::us,xs,ws,hh,hv,h=>by
  simp only[CH]at h;obtain⟨⟨xs',ws'⟩,e1,h⟩:=Option.bind_eq_some_iff.1 h;simp only[Option.some.injEq,Prod.mk.injEq]at h;obtain⟨rfl,rfl⟩:=h;exact RZ vs ms H us xs' ws' hh hv.cons.2 e1
 |v::vs,.mv::ms,H,u::us,xs,ws,hh,hv,h=>by
  simp only[CH]at h;obtain⟨⟨a1,ws1⟩,e1,h⟩:=Option.bind_eq_some_iff.1 h;obtain⟨⟨xs',ws'⟩,e2,h⟩:=Option.bind_eq_some_iff.1 h;simp only[Option.some.injEq,Prod.mk.injEq]at h;obtain⟨rfl,rfl⟩:=h;obtain⟨_,M1,E1,_⟩:=mvA_rel (tyK:=tyK) 40 v H u a1 ws1 0 hh hv.cons.1 e1;rw[Dr];exact RZ vs ms (AJ H ws1) us xs' ws' (E1.hr hh) (hv.cons.2.pres E1.pres) e2
theorem A8.keepHole{T T':Nat→Option Tag}{s i j:Nat}{k:Kd}{xs:List k.T}{v:Value}(h:A8 tyK T w s k xs (.hole i j) v)(hk: ∀g t,T g=some t→t.of s→t≠ .nest s i j→T' g=some t∧w'.heap[g]? =w.heap[g]?):
 A8 tyK T' w' s k xs (.hole i j) v:=by
 rcases h with h|⟨flat,h1,h2,h3,h4⟩
 ·exact .inl h
 · refine .inr ⟨flat,ED h1 fun g hg=>(hk g _ (h2 g hg) rfl (fun h=>by cases h)).2,fun g hg=>(hk g _ (h2 g hg) rfl (fun h=>by cases h)).1,h3,fun i' x hx j' c hc hna=> ?_⟩
   obtain⟨u,hu,hoc⟩:=h4 i' x hx j' c hc hna;refine⟨u,hu,?_⟩;cases c with
   |nest ys=>
    rcases hoc with h5|⟨h5,h6⟩
    ·exact .inl h5
    · have hne:Tag.nest s i' j'≠ .nest s i j:=by
       intro e;injection e with _ e1 e2
       exact hna ⟨e1,e2⟩
      exact .inr ⟨ED h5 fun g hg=>(hk g _ (h6 g hg) rfl hne).2,fun g hg=>(hk g _ (h6 g hg) rfl hne).1⟩
   |_=>exact hoc
open Classical in
theorem fL (hh:HR tyK R H w) {H1:List E} {M:List EM} {a b:Nat} (hE:Ent H H1 M a b) {Rc:Re} {Hf Hf':List E} (hst:Step (R.inn M) w Rc w') (hc:HR tyK Rc Hf w') {X:List XM} (hX:Ext Hf Hf' X)
 {ws:List (Nat×E)} {vs:List V} {us:List Value} (hB:Back tyK (MU H) Rc w' X ws vs us) (hnd':(ws.map (·.1)).Nodup) (hbx:HI Rc R H X) {ss ss':List (Option Nat)} (hss:F2 H ss=true) (es:ss=DC X++ss'):
 Pres R H w (R.out (R.inn M) Rc X) (AJ H1 ws) w'∧HR tyK (R.out (R.inn M) Rc X) (AJ H1 ws) w'∧VRs (R.out (R.inn M) Rc X) (AJ H1 ws) w' vs us:=by
 obtain⟨hs1,hs2⟩:=Sk hss;have es0:=es;have hnd:(X.filterMap (·.tgt)).Nodup:=by rw[hB.tgt];exact hnd'
 have htg: ∀p∈ws,p.1<H.length∧(AE H p.1=.fresh∨AE H p.1≠ .fresh∧ ∃m∈X,m.own=false∧m.tgt=some p.1):=by
  intro p hp;have:p.1∈X.filterMap (·.tgt):=by rw[hB.tgt];exact List.mem_map.2 ⟨p,hp,rfl⟩
  obtain⟨m,hm,e⟩:=List.mem_filterMap.1 this;cases ho:m.own with
  |true=>
   have h2:some p.1∈ss:=by rw[es];exact List.mem_append.2 (.inl (List.mem_map.2 ⟨m,List.mem_filter.2 ⟨hm,ho⟩,e⟩))
   exact⟨(hs1 _ h2).1,.inl (hs1 _ h2).2⟩
  |false=>
   obtain⟨_,_,h2⟩:=hbx m hm ho p.1 e;exact⟨BO h2,.inr ⟨h2,m,hm,ho,e⟩⟩
 have hput: ∀p∈ws,AE (AJ H1 ws) p.1=p.2:=Uk hnd' fun p hp=>by rw[hE.len];exact(htg p hp).1
 have hfz: ∀g,(R.inn M).T g=some .frozen→Rc.T g=some .frozen∧w'.heap[g]? =w.heap[g]? :=by
  intro g hg;have hT:R.T g≠none:=fun h=>by
   have:(R.T g).map (phi M)=some .frozen:=hg;rw[h]at this;cases this
  obtain⟨t,ht⟩:=Option.ne_none_iff_exists'.1 hT;obtain⟨h1,h2⟩:=hst.ro g (IQ hh ht) (by rw[hg];exact .inr ⟨rfl,rfl⟩)
  exact⟨h1.trans hg,h2⟩
 have hkeep: ∀g t,R.T g=some t→(∀m∈M,¬m.src.cov t)→(R.out (R.inn M) Rc X).T g=some t∧w'.heap[g]? =w.heap[g]? :=by
  intro g t ht hno;have hg:(R.inn M).T g=some .frozen:=by show(R.T g).map _=_;rw[ht];simp[Ow hno]
  refine⟨?_,(hfz g hg).2⟩;show(if(R.inn M).T g=some .frozen then R.T g else _)=_
  rw[if_pos hg,ht]
 have hfit:XFit Rc (R.out (R.inn M) Rc X) X:=by
  refine⟨fun g hg=> ?_,fun m hm s e g hg=> ?_,fun m hm s e g i j hg=> ?_,fun m hm ho t e=> ?_,fun m hm hp t s e es=> ?_⟩
  · show(if(R.inn M).T g=some .frozen then R.T g else(Rc.T g).bind (psi X))=none
    rw[if_neg,hg]
    ·rfl
    · intro h
      have:=(hfz g h).1;rw[hg]at this;cases this
  · show(if(R.inn M).T g=some .frozen then R.T g else(Rc.T g).bind (psi X))=_
    rw[if_neg,hg]
    · show psi X (.slot s)=_
      rw[Rm hX.dist hm e (show Tag.of s (.slot s)from rfl)]
      cases m.tgt<;>rfl
    · intro h
      have:=(hfz g h).1;rw[hg]at this;cases this
  · show(if(R.inn M).T g=some .frozen then R.T g else(Rc.T g).bind (psi X))=_
    rw[if_neg,hg]
    · show psi X (.nest s i j)=_
      rw[Rm hX.dist hm e (show Tag.of s (.nest s i j)from rfl)]
      cases m.tgt<;>rfl
    · intro h
      have:=(hfz g h).1;rw[hg]at this;cases this
  · cases ho1:m.own with
    |true=>exact Xw hnd hm ho1 e
    |false=>
     have hpin:m.pin=true:=by rcases ho with ho|ho;rw[ho1]at ho;cases ho;exact ho
     have h1:=(hbx m hm ho1 t e).2.1 hpin;rw[←h1];refine ME fun m2 hm2 ho2 e2=> ?_
     have huniq: ∀{X:List XM},(X.filterMap (·.tgt)).Nodup→ ∀{m m2:XM} {t:Nat},m∈X→m2∈X→m.tgt=some t→m2.tgt=some t→m=m2:=by
      intro X
      induction X with
      |nil=>intro _ m m2 t hm;cases hm
      |cons x X ih=>
       intro hn m m2 t hm hm2 e e2;have hmem: ∀y∈X,y.tgt=some t→t∈X.filterMap (·.tgt):=fun y hy ey=>List.mem_filterMap.2 ⟨y,hy,ey⟩
       rcases List.mem_cons.1 hm with h1|hm1
       · rcases List.mem_cons.1 hm2 with h|hm3
         ·exact h1.trans h.symm
         · subst h1
           rw[List.filterMap_cons_some e,List.nodup_cons]at hn;exact absurd (hmem m2 hm3 e2) hn.1
       · rcases List.mem_cons.1 hm2 with h|hm3
         · subst h
           rw[List.filterMap_cons_some e2,List.nodup_cons]at hn;exact absurd (hmem m hm1 e) hn.1
         · refine ih ?_ hm1 hm3 e e2
           cases ex:x.tgt with
           |none=>rw[List.filterMap_cons_none ex]at hn;exact hn
           |some t'=>rw[List.filterMap_cons_some ex]at hn;exact(List.nodup_cons.1 hn).2
     have:=huniq hnd hm hm2 e e2;subst this;rw[ho1]at ho2;cases ho2
  · cases ho:m.own with
    |true=>exact Td hnd hm ho e es
    |false=>
     obtain⟨⟨s',es',h1⟩,_,h2⟩:=And.intro ((hbx m hm ho t e).1 hp) (hbx m hm ho t e).2;rw[es]at es';injection es' with es'
     subst es';rw[h1];refine Pv fun m2 hm2 ho2 e2=> ?_
     have h6:some t∈DC X:=List.mem_map.2 ⟨m2,List.mem_filter.2 ⟨hm2,ho2⟩,e2⟩;exact h2 (hs1 t (by rw[es0];exact List.mem_append.2 (.inl h6))).2
 obtain⟨hvs,hers⟩:=hB.rel (R.out (R.inn M) Rc X) (AJ H1 ws) hfit hput;have hnot: ∀s,(∀p∈ws,p.1≠s)→AE (AJ H1 ws) s=AE H1 s:=fun s hs=>EU hs
 have hcovs: ∀s,(∀m∈M,m.src.slot≠s)→ ∀t:Tag,t.of s→ ∀m∈M,¬m.src.cov t:=fun s hs t hof m hm hcv=>hs m hm (IE (Src.cov_of hcv) hof)
 have hp:Pres R H w (R.out (R.inn M) Rc X) (AJ H1 ws) w':=by
  refine⟨⟨hst.os,hst.tape,hst.output,hst.size,fun g hg ho=> ?_⟩,fun s hs=> ?_,fun s hs=>Pv fun m2 hm2 ho2 e2=>hs (hs1 s (by rw[es0];exact List.mem_append.2 (.inl (List.mem_map.2 ⟨m2,List.mem_filter.2 ⟨hm2,ho2⟩,e2⟩)))).2,fun s k xs' ho' hs e=> ?_⟩
  · rcases ho with ho|⟨_,ho⟩
    · have h1:(R.inn M).T g=none:=by show(R.T g).map _=none;rw[ho];rfl
      obtain⟨h2,h3⟩:=hst.ro g hg (.inl h1);refine⟨?_,h3⟩;rw[ho];exact hfit.none_ g (h2.trans h1)
    · obtain⟨h2,h3⟩:=hkeep g .frozen ho fun m _=>Uc m.src
      exact⟨by rw[h2,ho],h3⟩
  · by_cases hm: ∃p∈ws,p.1=s
    · obtain⟨p,hp,rfl⟩:=hm
      rw[hput p hp];exact(hB.live p hp).1.1
    · rw[hnot s fun p hp e=>hm ⟨p,hp,e⟩]
      exact(hE.pres (R:=R) (w:=w)).alive s hs
  · by_cases hm: ∃p∈ws,p.1=s
    · obtain⟨p,hp,rfl⟩:=hm
      rcases(htg p hp).2 with h1|⟨_,m,hm,ho,et⟩
      ·exact absurd h1 hs
      · rw[hput p hp]at e
        rcases(hB.live p hp).2 with⟨cs,e2⟩|h2|⟨k0,xs0,ho0,r0,h3,h4,h5⟩
        ·rw[e]at e2;cases e2
        ·exact absurd (hs1 p.1 (by rw[es];exact List.mem_append.2 (.inl h2))).2 hs
        · rw[e]at h4
          cases h4;refine⟨xs0,ho0,h3,?_,h5,fun h=>by cases h⟩
          cases hpin:m.pin with
          |true=>rw[hfit.rho m hm (.inr hpin) p.1 et];exact((hbx m hm ho p.1 et).2.1 hpin).symm
          |false=>
           refine ME fun m2 hm2 ho2 e2=> ?_
           have h6:some p.1∈DC X:=List.mem_map.2 ⟨m2,List.mem_filter.2 ⟨hm2,ho2⟩,e2⟩;exact absurd (hs1 p.1 (by rw[es];exact List.mem_append.2 (.inl h6))).2 hs
    · rw[hnot s fun p hp e=>hm ⟨p,hp,e⟩]at e
      obtain⟨xs0,ho0,e0,_,el,_⟩:=(hE.pres (R:=R) (w:=w)).root s k xs' ho' hs e;refine⟨xs0,ho0,e0,ME fun m hm2 ho et=>hm ?_,el,fun hok=> ?_⟩
      · have:s∈X.filterMap (·.tgt):=List.mem_filterMap.2 ⟨m,hm2,et⟩
        rw[hB.tgt]at this;obtain⟨p,hp,e2⟩:=List.mem_map.1 this;exact⟨p,hp,e2⟩
      · subst hok
        have hnM: ∀m∈M,m.src.slot≠s:=by
         rintro m hm2 rfl;obtain⟨_,rfl,_,hw2,_⟩:=(hE.ok m hm2).use;rw[e]at hw2;cases hw2
        rw[hE.same s hnM]at e;rw[e0]at e;cases e;refine⟨rfl,fun g n cap i j hr _ hi=> ?_⟩
        obtain⟨h3,_,_⟩:=IJ hh e0 hr (by omega)
        exact World.cell?_of_block (a:=⟨g,_,none⟩) (hkeep g _ h3 (hcovs s hnM _ rfl)).2
 refine⟨hp,hh.next hp (by rw[EE,hE.len]) (fun s hs=> ?_) (fun g hg=> ?_),hvs⟩
 · by_cases hm: ∃p∈ws,p.1=s
   · obtain⟨p,hp2,rfl⟩:=hm
     refine .inr ?_;rw[hput p hp2];exact hers p hp2
   · rw[hnot s fun p hp e=>hm ⟨p,hp,e⟩]
     by_cases hM: ∃m∈M,m.src.slot=s
     · obtain⟨m,hm2,rfl⟩:=hM
       refine .inr ?_;have hok:=hE.ok m hm2;have hcov: ∀t:Tag,t.of m.src.slot→ ¬m.src.cov t→ ∀m'∈M,¬m'.src.cov t:=by
        intro t hof hnc m' hm' hcv
        by_cases hmm:m'=m
        ·subst hmm;exact hnc hcv
        · have:=hE.dist
          have hne:m'.src.slot≠m.src.slot:=by
           rcases List.mem_iff_append.1 hm2 with⟨l1,l2,e⟩
           rw[e]at this hm';rw[List.pairwise_append]at this;rcases List.mem_append.1 hm' with h2|h2
           ·exact(this.2.2 m' h2 m (by simp)).1
           · rcases List.mem_cons.1 h2 with h2|h2
             ·exact absurd h2 hmm
             ·exact fun e=>((List.pairwise_cons.1 this.2.1).1 m' h2).1 e.symm
          exact hne (IE (Src.cov_of hcv) hof)
       obtain⟨src,tgt,val⟩:=m;cases src with
       |root r=>obtain⟨_,e2⟩:=hok;simp only[Src.slot];rw[e2];trivial
       |box r=>obtain⟨_,e2⟩:=hok;simp only[Src.slot];rw[e2];trivial
       |nest r i j=>
        obtain⟨k0,xs,e1,e2⟩:=hok;simp only[Src.slot]at hcov hm⊢;rw[e2];show A8 tyK _ w' r k0 xs (.hole i j) (II R.ρ X r);rw[ME fun m hm3 ho et=>hm (by
         have:r∈X.filterMap (·.tgt):=List.mem_filterMap.2 ⟨m,hm3,et⟩
         rw[hB.tgt]at this;obtain⟨p,hp,e2⟩:=List.mem_map.1 this;exact⟨p,hp,e2⟩)]
        exact(Bq hh e1).hole.keepHole fun g t ht hof hne=>hkeep g t ht (hcov t hof hne)
     · have hnM: ∀m∈M,m.src.slot≠s:=fun m hm e=>hM ⟨m,hm,e⟩
       exact .inl ⟨hE.same s hnM,fun g t ht hof=>hkeep g t ht (hcovs s hnM t hof)⟩
 · have hg0:R.T g=none:=hh.none_ g (Nat.le_trans hst.size hg)
   exact hfit.none_ g (hc.none_ g hg)
theorem aN{P:Program}{α:Type}{r:α}{Co:Orc}{k:Eff→Option α}(hC:Pj P tyK Co)(hh:HR tyK R H w){f:FuncId}{vs:List V}{us:List Value}{ms:List AM}{sh:Sh}{outs:List Sh}{ss:List (Option Nat)}
 (hv:VRs R H w vs us) (h:Ei Co f vs ms sh outs ss H k=some r):
 ∃e,k e=some r∧Calls P f us.toArray w fun e' w'=> ∃v,e'=.returned v∧ ∃R',Pres R H w R' (AJ H e.ws) w'∧HR tyK R' (AJ H e.ws) w'∧VR R' (AJ H e.ws) w' e.v v:=by
 unfold Ei at h;obtain⟨⟨xs,ws⟩,hm,h⟩:=Option.bind_eq_some_iff.1 h;obtain⟨bz,ha,h⟩:=Option.bind_eq_some_iff.1 h;obtain⟨hss,h⟩:=AQ h;rw[Bool.and_eq_true]at hss;obtain⟨hss,hpins⟩:=hss;obtain⟨⟨r1,r2⟩,hco,h⟩:=Option.bind_eq_some_iff.1 h;dsimp only at ha h;have hhf:=RZ vs ms H us xs ws hh hv hm;obtain⟨hl,M,hE,hL⟩:=Rb vs ms H us xs ws 0 (AJ H ws) bz hh hv hm ha hhf (Pres.refl _ _ _);rw[Nat.zero_add]at hl;obtain⟨hvs,hers⟩:=hL (R.inn M) hE.fz (layL bz 0).2.1 hE.fit fun i e he=>by
  rw[Nat.zero_add];unfold AE;rw[List.getD_eq_getElem?_getD,he];rfl
 have hHR:HR tyK (R.inn M) (layL bz 0).2.1 w:=by
  refine⟨fun s hs=> ?_,fun g hg=>hE.fit.none_ g (hh.none_ g hg)⟩
  have h1:=List.getElem?_eq_getElem hs;have h2:=hers s _ h1;rw[Nat.zero_add]at h2;have:AE (layL bz 0).2.1 s=(layL bz 0).2.1[s]:=by
   unfold AE;rw[List.getD_eq_getElem?_getD,h1];rfl
  rw[this];exact h2
 split at h
 · rename_i v hx hnd
   have hnd':=Vr hnd;refine⟨_,h,Calls.mono (hC f bz _ _ hco (R.inn M) w us hHR hvs) ?_⟩;rintro e' w' ⟨u,rfl,Rc,Hf,vf,hst,hc,hvf,hvs',rest,Hf',ht⟩;refine⟨u,rfl,?_⟩;simp only[AZ]at ht;obtain⟨⟨t1,rest1,Hf1⟩,h1,ht⟩:=Option.bind_eq_some_iff.1 ht;obtain⟨⟨t2,rest2,Hf2⟩,h2,ht⟩:=Option.bind_eq_some_iff.1 ht;simp only[Option.some.injEq,Prod.mk.injEq]at ht;obtain⟨⟨rfl,rfl⟩,rfl,rfl⟩:=ht;obtain⟨X1,upre,urest,hk,hnt,hB⟩:=Ss (Pn:=MU H) sh (vf::(layL bz 0).1) (u::us) Hf t1 rest1 Hf1 ss hc (VRs.mk hvf hvs') h1;have hlen:=hB.len;rw[hx]at hlen;have hup:upre=[u]∧urest=us:=by
    match upre,hlen with
    | [u'],_=>
      have:=hk.us;simp at this;exact⟨by rw[this.1],this.2.symm⟩
   obtain⟨rfl,rfl⟩:=hup;obtain⟨X2,s2⟩:=pQ (tyK:=tyK) (w0:=w) (H:=H) (R:=R) hh (G3 outs) vs rest1 urest Hf1 t2 rest2 Hf2 (BJ sh t1 ss).ss (hk.ext.hr hc) hk.rest hv hpins h2;have hB2:=hB.append s2.back;have:=fL hh hE hst hc (hk.ext.append s2.ext) hB2 hnd' (hnt.boxT.append s2.box) hss (ss':=(DF (G3 outs) vs t2 (BJ sh t1 ss).ss).ss)
    (by rw[G4,List.append_assoc];exact hk.ss.trans (congrArg (DC X1++ ·) s2.ss))
   rw[hx]at this;have he:AJ H (ws++(BJ sh t1 ss).ws++(DF (G3 outs) vs t2 (BJ sh t1 ss).ss).ws)=AJ (AJ H ws) ((BJ sh t1 ss).ws++(DF (G3 outs) vs t2 (BJ sh t1 ss).ss).ws):=by rw[List.append_assoc,Dr]
   dsimp only;rw[he];exact⟨_,this.1,this.2.1,this.2.2.2 0 v u rfl rfl⟩
 ·cases h
end
end Go.Proofs.YthoholbeacojfaaGreat.VR
end
section
set_option linter.unusedVariables false
set_option linter.unusedSimpArgs false
set_option linter.unusedSectionVars false
namespace Go.Proofs.YthoholbeacojfaaGreat.VR
open Go
section
variable {P:Program}{tyK:Kd→TypeId}{R:Re}{H:List E}{w:World}{α:Type}{r:α}{Co:Orc}
theorem A8.toN{T T':Nat→Option Tag}{t:Tag}{s:Nat}{ys:List Int}{ho:Ho}{v:Value}(h:A8 tyK T w s .int ys ho v)(hw:ho.whole=true)(hT: ∀g,T g=some (.slot s)→T' g=some t):DJ tyK T' w t ys v:=by
 rcases h with h|⟨flat,h1,h2,h3,h4⟩
 ·exact .inl h
 · have e:flat=ys.map fun y=>.int .i64 y:=by
    apply List.ext_getElem?;intro i;have hl:flat.length=ys.length:=by have:=h1.1;simpa[Kd.size]using this
    rcases Nat.lt_or_ge i ys.length with hi|hi
    · obtain⟨u,hu,hc⟩:=h4 i ys[i] (List.getElem?_eq_getElem hi) 0 (.int ys[i]) rfl (Ho.not_at hw i 0)
      simp only[Kd.size,Nat.mul_one,Nat.add_zero]at hu;rw[hu,List.getElem?_map,List.getElem?_eq_getElem hi];exact congrArg some hc
    ·rw[List.getElem?_eq_none (by omega),List.getElem?_eq_none (by simpa using hi)]
   subst e;exact .inr ⟨h1,fun g hg=>hT g (h2 g hg)⟩
theorem VJ{R':Re}{H':List E}{w':World}: ∀{vs:List V} {us:List Value},V.ints vs=true→VRs R H w vs us→VRs R' H' w' vs us
 | [],[],_,_=>VRs.nil
 | [],_::_,_,h=>by have:=h.1;simp at this
 |v::vs,[],_,h=>by have:=h.1;simp at this
 |v::vs,u::us,hi,h=>by
  cases v<;>simp only[V.ints]at hi<;>first|(cases hi;done)|skip
  have h1:=h.cons.1;have e:=h1.int_inv;subst e;exact VRs.mk (.int _) (VJ hi h.cons.2)
theorem Vb: ∀{vs:List V} (s:Nat),layL (vs.map .v) s=(vs,[],s)
 | [],s=>rfl
 |v::vs,s=>by simp[layL,lay,Vb (vs:=vs) s]
open Classical in
theorem aJ {k:Eff→Option α} (hC:Pj P tyK Co) (hh:HR tyK R H w) {f:FuncId} {vs:List V} {us:List Value} (hv:VRs R H w vs us) (h:Ej Co f vs H k=some r):
 ∃e,k e=some r∧Calls P f us.toArray w fun e' w'=> ∃v,e'=.returned v∧ ∃R',Pres R H w R' (AJ H e.ws) w'∧HR tyK R' (AJ H e.ws) w'∧VR R' (AJ H e.ws) w' e.v v:=by
 unfold Ej at h;split at h
 rotate_left
 ·cases h
 rename_i q i j rest;split at h
 rotate_left
 ·cases h
 rename_i kd xs e0;obtain⟨h1,h⟩:=AQ h;simp only[Bool.and_eq_true,decide_eq_true_eq]at h1;obtain⟨hi,hint⟩:=h1;obtain⟨⟨n,zs,un⟩,hco,h⟩:=Option.bind_eq_some_iff.1 h;obtain⟨x,hx,h⟩:=Option.bind_eq_some_iff.1 h
 match us,hv.1 with
 |u::us,_=>
 have hvn:=hv.cons.1;have hvr:=hv.cons.2;have hnest:kd.nestAt j=true∧ ∃g cap,R.ρ q=.slice (some ⟨g,0,none⟩) xs.length cap∧w.cell? ⟨g,i*kd.size+j,none⟩=some u:=by
  generalize hv0:V.borN q i j=vv at hvn;cases hvn<;>first|(cases hv0;done)|skip
  cases hv0;rename_i h5 h6 h7;obtain⟨_,a,b⟩:=h7 kd xs e0;exact⟨a,b⟩
 obtain⟨hnj,g0,cap0,hr0,hcell⟩:=hnest;obtain⟨ht0,hg0,_⟩:=IJ hh e0 hr0 (by omega)
 obtain⟨flat,f1,f2,f3,f4⟩: ∃flat,w.ownsRow 0 (tyK kd) kd.size (R.ρ q) xs.length flat∧(∀g,(R.ρ q).ownBlock=some g→R.T g=some (.slot q))∧(∀u∈flat,u.oneCell'=true)∧
  ∀i x,xs[i]? =some x→ ∀j c,(kd.cells x)[j]? =some c→ ∃u,flat[i*kd.size+j]? =some u∧Be tyK R.T w q i j c u:=by
  rcases Bq hh e0 with⟨A,_,hx0⟩|⟨flat,f1,f2,f3,f4⟩
  ·subst hx0;simp at hi
  ·exact⟨flat,f1,f2,f3,fun i x hx j c hc=>f4 i x hx j c hc (fun h=>h)⟩
 obtain⟨ys,hys⟩: ∃ys,(kd.cells xs[i])[j]? =some (.nest ys):=Vo xs[i] hnj;have hrow:row kd xs i=kd.cells xs[i]:=by unfold row;rw[List.getD_eq_getElem?_getD,List.getElem?_eq_getElem hi];rfl
 obtain⟨u1,hu1,hown⟩:=f4 i xs[i] (List.getElem?_eq_getElem hi) j (.nest ys) hys;have hu1':u1=u:=by
  have:=f1.cells (g:=g0) (by rw[hr0];rfl) (i*kd.size+j) u1 hu1
  rw[Cy]at this;simp only[Nat.zero_add]at this;rw[hcell]at this;exact(Option.some.inj this).symm
 subst hu1';have hown:DJ tyK R.T w (.nest q i j) ys u1:=hown
 let Rn:Re:=⟨fun g=>(R.T g).map fun t=>if t=.nest q i j then .slot 0 else .frozen,R.β,fun _=>u1⟩
 have hRn:HR tyK Rn [E.root .int ys .ok] w:=by
  refine⟨fun s hs=> ?_,fun g hg=>by show(R.T g).map _=none;rw[hh.none_ g hg];rfl⟩
  have:s=0:=by simpa using hs
  subst this;exact hown.slot fun g hg=>by show(R.T g).map _=_;rw[hg];simp
 have hone:u1.oneCell'=true:=by
  rcases hown with⟨A,rfl,_⟩|⟨h5,_⟩
  ·rfl
  ·rcases h5.2 with⟨h6,_⟩|⟨g,cap,cur,h6,_⟩<;>rw[h6]<;>rfl
 have hgD:((row kd xs i).getD j (.int 0)).ints=ys:=by rw[hrow,List.getD_eq_getElem?_getD,hys];rfl
 rw[hgD]at hco;have hlay:layL (A.own .int ys::rest.map .v) 0=(V.bor 0::rest,[E.root .int ys .ok],1):=by
  simp[layL,lay,Vb]
 have hargs:VRs Rn [E.root .int ys .ok] w (V.bor 0::rest) (u1::us):=
  VRs.mk (.bor 0 u1 hone (fun h=>by cases h) fun k xs ho h=>rfl) (VJ hint hvr)
 have hcalls:=hC f _ _ _ hco Rn w (u1::us) (by rw[hlay];exact hRn) (by rw[hlay];exact hargs)
 rw[hlay]at hcalls;refine⟨_,h,Calls.mono hcalls ?_⟩;rintro e' w' ⟨v,rfl,Rc,Hf,vf,hst,hc,hvf,hvs,rest',Hf',ht⟩;simp only[AZ]at ht;obtain⟨⟨t1,r1,H1⟩,q1,ht⟩:=Option.bind_eq_some_iff.1 ht;obtain⟨⟨t2,r2,H2⟩,q2,ht⟩:=Option.bind_eq_some_iff.1 ht;obtain⟨⟨t3,r3,H3⟩,q3,q2⟩:=Option.bind_eq_some_iff.1 q2;simp only[Option.bind_some,Option.some.injEq,Prod.mk.injEq]at ht q2;obtain⟨⟨rfl,rfl⟩,rfl,rfl⟩:=ht;obtain⟨⟨rfl,_⟩,_,_⟩:=q2;have hvfn:vf=.int t1∧r1=V.bor 0::rest∧H1=Hf:=by
  cases vf<;>simp[AZ]at q1;obtain⟨rfl,rfl,rfl⟩:=q1;exact⟨rfl,rfl,rfl⟩
 obtain⟨rfl,rfl,rfl⟩:=hvfn;have hb0:=hvs.cons.1;obtain⟨ho,hg,hw⟩: ∃ho,AE H1 0=.root .int zs ho∧ho.whole=true:=by
  simp only[AZ]at q3;split at q3
  · rename_i k' xs' ho e
    obtain⟨hw,q3⟩:=AQ q3;split at q3
    · rename_i hk
      subst hk;simp only[Option.some.injEq,Prod.mk.injEq]at q3;obtain⟨rfl,_⟩:=q3;exact⟨ho,e,hw⟩
    ·cases q3
  ·cases q3
 have hu0:=hb0.bor_inv hg;have hown':=Bq hc hg;rw[←hu0]at hown';refine⟨v,rfl,?_⟩;have hfz: ∀g t,R.T g=some t→t≠ .nest q i j→Rc.T g=some .frozen∧w'.heap[g]? =w.heap[g]? :=by
  intro g t ht hne;have h2:Rn.T g=some .frozen:=by show(R.T g).map _=_;rw[ht];simp[hne]
  have hlt:g<w.heap.size:=by
   rcases Nat.lt_or_ge g w.heap.size with h3|h3
   ·exact h3
   ·have:=hh.none_ g h3;rw[this]at ht;cases ht
  obtain⟨h3,h4⟩:=hst.ro g hlt (by rw[h2];exact .inr ⟨rfl,rfl⟩)
  exact⟨h3.trans h2,h4⟩
 let R':Re:=⟨fun g=>if Rn.T g=some .frozen then R.T g else if Rc.T g=some (.slot 0)then some (.nest q i j)else none,R.β,R.ρ⟩
 have hkeep: ∀g t,R.T g=some t→t≠ .nest q i j→R'.T g=some t∧w'.heap[g]? =w.heap[g]? :=by
  intro g t ht hne;have h2:Rn.T g=some .frozen:=by show(R.T g).map _=_;rw[ht];simp[hne]
  refine⟨?_,(hfz g t ht hne).2⟩;show(if Rn.T g=some .frozen then R.T g else _)=_
  rw[if_pos h2,ht]
 have hnest':DJ tyK R'.T w' (.nest q i j) zs u1:=hown'.toN hw fun g hg=>by
  show(if Rn.T g=some .frozen then R.T g else if Rc.T g=some (.slot 0)then _ else _)=_
  rw[if_neg,if_pos hg];intro h2;have hlt:g<w.heap.size:=by
   rcases Nat.lt_or_ge g w.heap.size with h3|h3
   ·exact h3
   · have h4:R.T g=none:=hh.none_ g h3
     have h5:Rn.T g=none:=by show(R.T g).map _=none;rw[h4];rfl
     rw[h5]at h2;cases h2
  have h3:=(hst.ro g hlt (by rw[h2];exact .inr ⟨rfl,rfl⟩)).1
  rw[h2,hg]at h3;cases h3
 have hcs:=Kd.cells_ofCells hx;have hjs:j<kd.size:=by obtain⟨e1,e2⟩:=G0 hnj;rw[e1,e2];decide
 have hjl:j+1≤(row kd xs i).length:=by rw[hrow,Kd.cells_length];exact hjs
 have hq0:AE H q≠ .fresh:=by rw[e0];exact fun h=>by cases h
 have hql:=BO hq0;have hroot:A8 tyK R'.T w' q kd (xs.set i x) .ok (R.ρ q):=by
  refine .inr ⟨flat,?_,fun g hg=>(hkeep g _ (f2 g hg) (fun h=>by cases h)).1,f3,fun i' x' hx' j' c hc' _=> ?_⟩
  · rw[List.length_set]
    exact ED f1 fun g hg=>(hkeep g _ (f2 g hg) (fun h=>by cases h)).2
  · by_cases hii:i'=i
    · subst hii
      rw[List.getElem?_set_self hi]at hx';injection hx' with hx'
      subst hx';rw[hcs,Br _ _ _ (by simpa using hjl)]at hc'
      by_cases hjj:j'=j
      · subst hjj
        simp at hc';subst hc';exact⟨u1,hu1,hnest'⟩
      · rw[hrow]at hc'
        have hc2:(kd.cells xs[i'])[j']? =some c:=by
         by_cases hlt:j'<j
         ·rw[if_pos hlt]at hc';exact hc'
         ·rw[if_neg hlt,if_neg (by simp;omega)]at hc';exact hc'
        obtain⟨y,hy,hoc⟩:=f4 i' xs[i'] (List.getElem?_eq_getElem hi) j' c hc2;refine⟨y,hy,?_⟩;cases c with
        |nest zs'=>
         rcases hoc with h5|⟨h5,h6⟩
         ·exact .inl h5
         · have hne:Tag.nest q i' j'≠ .nest q i' j:=by intro h;injection h with _ _ h;exact hjj h
           exact .inr ⟨ED h5 fun g hg=>(hkeep g _ (h6 g hg) hne).2,fun g hg=>(hkeep g _ (h6 g hg) hne).1⟩
        |_=>exact hoc
    · rw[List.getElem?_set_ne (Ne.symm hii)]at hx'
      obtain⟨y,hy,hoc⟩:=f4 i' x' hx' j' c hc';refine⟨y,hy,?_⟩;cases c with
      |nest zs'=>
       rcases hoc with h5|⟨h5,h6⟩
       ·exact .inl h5
       · have hne:Tag.nest q i' j'≠ .nest q i j:=by intro h;injection h with _ h _;exact hii h
         exact .inr ⟨ED h5 fun g hg=>(hkeep g _ (h6 g hg) hne).2,fun g hg=>(hkeep g _ (h6 g hg) hne).1⟩
      |_=>exact hoc
 have hputs:AJ H [(q,E.root kd (xs.set i x) .ok)]=H.set q (.root kd (xs.set i x) .ok):=rfl;have hgs: ∀s,AE (H.set q (E.root kd (xs.set i x) .ok)) s=if s=q then .root kd (xs.set i x) .ok else AE H s:=by
  intro s
  by_cases hs:s=q
  ·subst hs;rw[if_pos rfl];exact Bo hql
  · rw[if_neg hs,C8,if_neg]
    intro h;exact hs (by first|exact h.1.symm|exact h.symm|exact h.1|exact h)
 have hp:Pres R H w R' (H.set q (.root kd (xs.set i x) .ok)) w':=by
  refine⟨⟨hst.os,hst.tape,hst.output,hst.size,fun g hg ho=> ?_⟩,fun s hs=> ?_,fun _ _=>rfl,fun s k xs' ho' hs e=> ?_⟩
  · rcases ho with ho|⟨_,ho⟩
    · have h2:Rn.T g=none:=by show(R.T g).map _=none;rw[ho];rfl
      obtain⟨h3,h4⟩:=hst.ro g hg (.inl h2);refine⟨?_,h4⟩;show(if Rn.T g=some .frozen then R.T g else if Rc.T g=some (.slot 0)then _ else _)=_
      rw[if_neg (by rw[h2];exact fun h=>by cases h),if_neg (by rw[h3,h2];exact fun h=>by cases h),ho]
    · obtain⟨h3,h4⟩:=hkeep g _ ho (fun h=>by cases h)
      exact⟨by rw[h3,ho],h4⟩
  · rw[hgs];split
    ·exact fun h=>by cases h
    ·exact hs
  · rw[hgs]at e
    split at e
    · rename_i hs2
      subst hs2;cases e;refine⟨xs,.ok,e0,rfl,by rw[List.length_set],fun _=>⟨rfl,fun g n cap i2 j2 hr _ hi2=> ?_⟩⟩
      obtain⟨h3,_,_⟩:=IJ hh e0 hr (by omega)
      exact World.cell?_of_block (a:=⟨g,_,none⟩) (hkeep g _ h3 (fun h=>by cases h)).2
    · refine⟨xs',ho',e,rfl,rfl,fun hok=>⟨hok,fun g n cap i2 j2 hr _ hi2=> ?_⟩⟩
      obtain⟨h3,_,_⟩:=IJ hh e hr (by omega)
      exact World.cell?_of_block (a:=⟨g,_,none⟩) (hkeep g _ h3 (fun h=>by cases h)).2
 refine⟨R',by rw[hputs];exact hp,?_,?_⟩
 · rw[hputs]
   refine hh.next hp (by simp) (fun s hs=> ?_) (fun g hg=> ?_)
   · by_cases hs2:s=q
     · subst hs2
       right;rw[hgs,if_pos rfl];exact hroot
     · left
       refine⟨by rw[hgs,if_neg hs2],fun g t ht hof=>hkeep g t ht ?_⟩
       rintro rfl;exact hs2 hof.symm
   · show(if Rn.T g=some .frozen then R.T g else if Rc.T g=some (.slot 0)then _ else _)=_
     have h4:R.T g=none:=hh.none_ g (Nat.le_trans hst.size hg);have h5:Rn.T g=none:=by show(R.T g).map _=none;rw[h4];rfl
     rw[if_neg (by rw[h5];exact fun h=>by cases h),if_neg (by rw[hc.none_ g hg];exact fun h=>by cases h)]
 · have:=hvf.int_inv
   rw[this];exact .int _
end
end Go.Proofs.YthoholbeacojfaaGreat.VR
end
section
set_option linter.unusedVariables false
set_option linter.unusedSimpArgs false
set_option linter.unusedSectionVars false
namespace Go.Proofs.YthoholbeacojfaaGreat.VR
open Go
def Ie(P:Program)(f:FuncId):Prop:= ∀(args:Array Value) (w:World),(callFunc f args).run P w=.ok (.enter f args) w
structure CoOk(P:Program)(tyK:Kd→TypeId)(Co:Orc):Prop where
 orc:Pj P tyK Co
 enters: ∀f bz sh r,Co f bz sh=some r→Ie P f
section
variable {P:Program}{Tb:TypeId→Option TI}{tyK:Kd→TypeId}{R:Re}{H:List E}{w:World}{a:Act}{o:Oper}{oa:OA}{tm:List V}{α:Type}{r:α}{Co:Orc}{k:Eff→Option α}
variable (hT:TbOk P Tb tyK)(hC:CoOk P tyK Co)(hh:HR tyK R H w)(ht:VRs R H w tm a.tmps.toList)
include hT hC hh ht
theorem eR{c:Go.Call}{f:Operand}(hc:c.callee=.value f)(ho:o.op=.call c)(h:opK Tb tyK Co o oa tm H k=some r):Aa P tyK o a w R H k r:=by
 simp only[opK,ho,hc]at h;have gen: ∀{g:FuncId} {caps:List V},ev tm f=.clo g caps→Ie P g→
  (∀us,VRs R H w (c.args.toList.map (ev tm)++caps) us→ ∃e,k e=some r∧Calls P g us.toArray w fun e' w'=> ∃v,e'=.returned v∧ ∃R',Pres R H w R' (AJ H e.ws) w'∧HR tyK R' (AJ H e.ws) w'∧VR R' (AJ H e.ws) w' e.v v)→
  Aa P tyK o a w R H k r:=by
  intro g caps hf hen hcs;have hv:=A6 ht f;rw[hf]at hv;generalize hu:a.eval f=uf at hv;cases hv with
  |clo _ _ us hl hr=>
   have hargs:VRs R H w (c.args.toList.map (ev tm)++caps) ((c.args.toList.map a.eval)++us):=by
    refine⟨by simp[hl],fun i v u hv hu'=> ?_⟩
    by_cases hi:i<c.args.size
    · rw[List.getElem?_append_left (by simpa using hi),List.getElem?_map]at hv
      rw[List.getElem?_append_left (by simpa using hi),List.getElem?_map]at hu'
      obtain⟨x,hx,rfl⟩:=Option.map_eq_some_iff.1 hv;rw[hx]at hu';simp at hu';subst hu';exact A6 ht x
    · rw[List.getElem?_append_right (by simpa using hi)]at hv
      rw[List.getElem?_append_right (by simpa using hi)]at hu'
      simp at hv hu';exact hr _ v u hv hu'
   obtain⟨e,hk,hcalls⟩:=hcs _ hargs;refine⟨e,hk,fun K Q hK=> ?_⟩
   have hrun:(execOp a.eval o).run P w=.ok (.enter g ((c.args.toList.map a.eval)++us).toArray) w:=by
    have h5:(c.args.map a.eval++us.toArray)=((c.args.toList.map a.eval)++us).toArray:=by apply Array.ext';simp
    simp[execOp,ho,resolve,hc,hu,Deferred.ofValue,invoke,h5,hen _ w]
   unfold Oper.wp;rw[hrun];refine Calls.mono hcalls ?_;rintro e' w' ⟨v,rfl,R',hp,hr',hv'⟩;exact hK R' v w' hp hr' hv'
 split at h
 · rename_i g caps ms sh outs ss hf
   refine gen hf ?_ fun us hargs=>aN hC.orc hh hargs h
   unfold Ei at h;obtain⟨_,_,h⟩:=Option.bind_eq_some_iff.1 h;obtain⟨_,_,h⟩:=Option.bind_eq_some_iff.1 h;obtain⟨_,h⟩:=AQ h;obtain⟨_,hco,_⟩:=Option.bind_eq_some_iff.1 h;exact hC.enters _ _ _ _ hco
 · rename_i g caps hf
   refine gen hf ?_ fun us hargs=>aJ hC.orc hh hargs h
   unfold Ej at h;split at h
   · split at h
     · obtain⟨_,h⟩:=AQ h
       obtain⟨_,hco,_⟩:=Option.bind_eq_some_iff.1 h;exact hC.enters _ _ _ _ hco
     ·cases h
   ·cases h
 ·cases h
theorem Rj(hs: ∀s q,oa=.slot s q→s<H.length)(h:opK Tb tyK Co o oa tm H k=some r):Aa P tyK o a w R H k r:=by
 have h':=h;unfold opK at h';cases ho:o.op with
 |move x=>exact fA hh ht ho h
 |assign x=>exact eK hh ht ho h
 |pick c x y=>exact fC hh ht ho h
 |binOp op t x y t'=>exact eL hT hh ht ho h
 |unOp op t x=>exact fH hh ht ho h
 |nilCheck x=>exact fB hh ht ho h
 |fieldAddr t x f=>exact eW hT hh ht ho h
 |indexAddr t x ix=>exact eX hT hh ht ho h
 |load t x=>exact ed hT hh ht ho h
 |store t x y=>
  rw[ho]at h';simp only at h';split at h'
  · obtain⟨_,h'⟩:=AQ h'
    split at h'
    ·rename_i e;exact fF hT hh ht e ho h
    ·rename_i e;exact fG hT hh ht e ho h
    ·cases h'
  ·cases h'
 |alloc t=>exact eI hT hh ht hs ho h
 |box t x=>exact eM hT hh ht hs ho h
 |build t parts=>exact eN hT hh ht ho h
 |buildSlice t n parts=>exact eO hT hh ht hs ho h
 |makeSlice t x y=>exact ei hT hh ht hs ho h
 |makeFunc fn first caps=>exact eo hh ht ho h
 |extract x i=>exact eV hh ht ho h
 |index t x ix=>exact eY hT hh ht ho h
 |convert s d x=>exact eU hT hh ht ho h
 |slice t x lo hi mx=>
  by_cases hb: ∃q0,ev tm x=.bor q0
  · obtain⟨q0,hb⟩:=hb
    exact fE hT hh ht hb hs ho h
  ·exact fD hT hh ht (fun q0 e=>hb ⟨q0,e⟩) ho h
 |call c=>
  cases hc:c.callee with
  |value f=>exact eR hT hC hh ht hc ho h
  |builtin b=>
   cases b with
   |len=>exact eZ hT hh ht hc ho h
   |max=>exact V6 hT hh ht (.inl rfl) hc ho h
   |min=>exact V6 hT hh ht (.inr rfl) hc ho h
   |append=>exact eJ hT hh ht hs hc ho h
   |clear=>exact eT hT hh ht hc ho h
   |_=>rw[ho]at h';simp only[hc,Dy]at h';first|(cases h';done)|(split at h'<;>first|(cases h';done)|(rename_i hq;cases hq;done)|(rename_i hq _;cases hq;done))
  |invoke x n=>rw[ho]at h';simp only[hc]at h';cases h'
 |_=>rw[ho]at h';cases h'
end
end Go.Proofs.YthoholbeacojfaaGreat.VR
end
section
set_option linter.unusedVariables false
set_option linter.unusedSimpArgs false
set_option linter.unusedSectionVars false
namespace Go.Proofs.YthoholbeacojfaaGreat.VR
open Go
def HLe(H H':List E):Prop:=H.length=H'.length∧ ∀s,AE H s=.dead∨AE H s=AE H' s
theorem HLe.set{H H':List E}(h:HLe H H')(s:Nat)(e:E):HLe (H.set s e) (H'.set s e):=by
 refine⟨by simp[h.1],fun s'=> ?_⟩
 rw[C8,C8,←h.1];split
 ·exact .inr rfl
 ·exact h.2 s'
theorem HLe.puts{ws:List (Nat×E)}: ∀{H H':List E},HLe H H'→HLe (AJ H ws) (VR.AJ H' ws):=by
 induction ws with
 |nil=>intro H H' h;exact h
 |cons p ws ih=>intro H H' h;obtain⟨s,e⟩:=p;exact ih (h.set s e)
theorem RX(rd:List Nat): ∀(H:List E) (n:Nat),(By H rd n).length=H.length
 | [],n=>rfl
 |e::H,n=>by simp[By,RX rd H]
theorem Uj(rd:List Nat): ∀(H:List E) (n s:Nat),AE (By H rd n) s=if s<H.length∧rd.contains (n+s)=false then .dead else AE H s
 | [],n,s=>by simp[By]
 |e::H,n,0=>by
  simp only[By,AE,List.getD_cons_zero,List.length_cons,Nat.add_zero];cases rd.contains n<;>simp
 |e::H,n,s+1=>by
  have:=Uj rd H (n+1) s;simp only[By,AE,List.getD_cons_succ,List.length_cons]at this⊢;rw[this,show n+1+s=n+(s+1) by omega]
  simp
theorem HLe.mask(H:List E)(rd:List Nat):HLe (By H rd 0) H:=by
 refine⟨RX rd H 0,fun s=> ?_⟩
 rw[Uj];split
 ·exact .inl rfl
 ·exact .inr rfl
section
variable {H H':List E}{α:Type}{r:α}{dl:List Nat}
theorem HLe.root(h:HLe H H'){s:Nat}{k:Kd}{xs:List k.T}{ho:Ho}(e:AE H s=.root k xs ho):AE H' s=.root k xs ho:=by
 rcases h.2 s with h1|h1
 ·rw[e]at h1;cases h1
 ·rw[←h1,e]
theorem HLe.box(h:HLe H H'){s:Nat}{cs:List V}(e:AE H s=.box cs):AE H' s=.box cs:=by
 rcases h.2 s with h1|h1
 ·rw[e]at h1;cases h1
 ·rw[←h1,e]
theorem HLe.fresh(h:HLe H H'){s:Nat}(e:AE H s=.fresh):AE H' s=.fresh:=by
 rcases h.2 s with h1|h1
 ·rw[e]at h1;cases h1
 ·rw[←h1,e]
mutual
theorem fz_mono (hl:HLe H H'): ∀(n:Nat) (v v':V),fz dl H n v=some v'→fz dl H' n v=some v'
 |0,v,v',h=>by simp[fz]at h
 |n+1,v,v',h=>by
  cases v with
  |bor r=>
   simp only[fz]at h⊢;cases hdl:dl.contains r with
   |true=>rw[hdl]at h;exact h
   |false=>
   rw[hdl]at h;simp only[cond_false]at h⊢;split at h
   ·rename_i e;rw[hl.root e];exact h
   ·cases h
  |borN r i j=>
   simp only[fz]at h⊢;split at h
   ·rename_i e;rw[hl.root e];exact h
   ·cases h
  |ptr b j=>
   simp only[fz]at h⊢;split at h
   · rename_i e
     rw[hl.box e];obtain⟨x,h1,h2⟩:=Option.bind_eq_some_iff.1 h;exact Option.bind_eq_some_iff.2 ⟨x,fz_go_mono hl n _ _ h1,h2⟩
   ·cases h
  |ep r i j=>
   simp only[fz]at h⊢;split at h
   ·rename_i e;rw[hl.root e];exact h
   ·cases h
  |agg xs=>simp only[fz]at h⊢;obtain⟨x,h1,h2⟩:=Option.bind_eq_some_iff.1 h;exact Option.bind_eq_some_iff.2 ⟨x,fz_go_mono hl n _ _ h1,h2⟩
  |tup xs=>simp only[fz]at h⊢;obtain⟨x,h1,h2⟩:=Option.bind_eq_some_iff.1 h;exact Option.bind_eq_some_iff.2 ⟨x,fz_go_mono hl n _ _ h1,h2⟩
  |clo f xs=>simp only[fz]at h⊢;obtain⟨x,h1,h2⟩:=Option.bind_eq_some_iff.1 h;exact Option.bind_eq_some_iff.2 ⟨x,fz_go_mono hl n _ _ h1,h2⟩
  |rp xs j=>simp only[fz]at h⊢;obtain⟨x,h1,h2⟩:=Option.bind_eq_some_iff.1 h;exact Option.bind_eq_some_iff.2 ⟨x,fz_go_mono hl n _ _ h1,h2⟩
  |_=>simpa only[fz]using h
theorem fz_go_mono (hl:HLe H H'): ∀(n:Nat) (vs vs':List V),fz.go dl H n vs=some vs'→fz.go dl H' n vs=some vs'
 |0,vs,vs',h=>by simp[fz.go]at h
 |n+1,[],vs',h=>by simpa[fz.go]using h
 |n+1,v::vs,vs',h=>by
  simp only[fz.go]at h⊢;obtain⟨x,h1,h2⟩:=Option.bind_eq_some_iff.1 h;obtain⟨y,h3,h4⟩:=Option.bind_eq_some_iff.1 h2;exact Option.bind_eq_some_iff.2 ⟨x,fz_mono hl n _ _ h1,Option.bind_eq_some_iff.2 ⟨y,fz_go_mono hl n _ _ h3,h4⟩⟩
end
mutual
theorem mvA_mono: ∀(n:Nat) (v:V) (H H':List E) (x:A×List (Nat×E)),HLe H H'→mvA n v H=some x→mvA n v H'=some x
 |0,v,H,H',x,hl,h=>by simp[mvA]at h
 |n+1,v,H,H',x,hl,h=>by
  cases v with
  |bor r=>
   simp only[mvA]at h⊢;split at h
   ·rename_i e;rw[hl.root e];exact h
   ·cases h
  |borN r i j=>
   simp only[mvA]at h⊢;split at h
   ·rename_i e;rw[hl.root e];exact h
   ·cases h
  |ptr b j=>
   cases j with
   |succ j=>simp[mvA]at h
   |zero=>
    simp only[mvA]at h⊢;split at h
    · rename_i e
      rw[hl.box e];obtain⟨y,h1,h2⟩:=Option.bind_eq_some_iff.1 h;exact Option.bind_eq_some_iff.2 ⟨y,mvA_go_mono n _ _ _ _ (hl.set _ _) h1,h2⟩
    ·cases h
  |agg xs=>
   simp only[mvA]at h⊢;obtain⟨y,h1,h2⟩:=Option.bind_eq_some_iff.1 h;exact Option.bind_eq_some_iff.2 ⟨y,mvA_go_mono n _ _ _ _ hl h1,h2⟩
  |ro p k xs=>cases p<;>simpa only[mvA]using h
  |_=>simpa only[mvA]using h
theorem mvA_go_mono: ∀(n:Nat) (vs:List V) (H H':List E) (x:List A×List (Nat×E)),HLe H H'→mvA.go n vs H=some x→mvA.go n vs H'=some x
 |0,vs,H,H',x,hl,h=>by simp[mvA.go]at h
 |n+1,[],H,H',x,hl,h=>by simpa[mvA.go]using h
 |n+1,v::vs,H,H',x,hl,h=>by
  simp only[mvA.go]at h⊢;obtain⟨y,h1,h2⟩:=Option.bind_eq_some_iff.1 h;obtain⟨z,h3,h4⟩:=Option.bind_eq_some_iff.1 h2;exact Option.bind_eq_some_iff.2 ⟨y,mvA_mono n _ _ _ _ hl h1,Option.bind_eq_some_iff.2 ⟨z,mvA_go_mono n _ _ _ _ hl.puts h3,h4⟩⟩
end
theorem Ra: ∀(vs:List V) (ms:List AM) (H H':List E) (x:List (V⊕A)×List (Nat×E)),HLe H H'→CH vs ms H=some x→CH vs ms H'=some x
 | [],[],H,H',x,hl,h=>by simpa[CH]using h
 | [],m::ms,H,H',x,hl,h=>by simp[CH]at h
 |v::vs,[],H,H',x,hl,h=>by simp[CH]at h
 |v::vs,.ro::ms,H,H',x,hl,h=>by
  simp only[CH]at h⊢;obtain⟨y,h1,h2⟩:=Option.bind_eq_some_iff.1 h;exact Option.bind_eq_some_iff.2 ⟨y,Ra _ _ _ _ _ hl h1,h2⟩
 |v::vs,.mv::ms,H,H',x,hl,h=>by
  simp only[CH]at h⊢;obtain⟨y,h1,h2⟩:=Option.bind_eq_some_iff.1 h;obtain⟨z,h3,h4⟩:=Option.bind_eq_some_iff.1 h2;exact Option.bind_eq_some_iff.2 ⟨y,mvA_mono _ _ _ _ _ hl h1,Option.bind_eq_some_iff.2 ⟨z,Ra _ _ _ _ _ hl.puts h3,h4⟩⟩
theorem Qz(hl:HLe H H'): ∀(xs:List (V⊕A)) (bz:List A),D4 dl H xs=some bz→D4 dl H' xs=some bz
 | [],bz,h=>by simpa[D4]using h
 | .inl v::xs,bz,h=>by
   simp only[D4]at h⊢;obtain⟨y,h1,h2⟩:=Option.bind_eq_some_iff.1 h;obtain⟨z,h3,h4⟩:=Option.bind_eq_some_iff.1 h2;exact Option.bind_eq_some_iff.2 ⟨y,fz_mono hl _ _ _ h1,Option.bind_eq_some_iff.2 ⟨z,Qz hl _ _ h3,h4⟩⟩
 | .inr a::xs,bz,h=>by
   simp only[D4]at h⊢;obtain⟨z,h3,h4⟩:=Option.bind_eq_some_iff.1 h;exact Option.bind_eq_some_iff.2 ⟨z,Qz hl _ _ h3,h4⟩
theorem Sj: ∀(ss:List (Option Nat)) (H H':List E),HLe H H'→F2 H ss=true→F2 H' ss=true
 | [],H,H',hl,h=>rfl
 |none::ss,H,H',hl,h=>Sj ss H H' hl h
 |some s::ss,H,H',hl,h=>by
  simp only[F2,Bool.and_eq_true]at h⊢;obtain⟨⟨h1,h2⟩,h3⟩:=h;have h2':AE H s=.fresh:=by cases e:AE H s<;>rw[e]at h2<;>first|rfl|cases h2
  exact⟨⟨by rw[←hl.1];exact h1,by rw[hl.fresh h2'];rfl⟩,Sj ss _ _ (hl.set _ _) h3⟩
theorem uG(hl:HLe H H'){v:V}{x:C×List (Nat×E)}(h:toC H v=some x):toC H' v=some x:=by
 cases v with
 |bor r=>
  simp only[toC]at h⊢;split at h
  ·rename_i e;rw[hl.root e];exact h
  ·cases h
 |_=>simpa only[toC]using h
theorem Sw: ∀(vs:List V) (H H':List E) (x:List C×List (Nat×E)),HLe H H'→EI H vs=some x→EI H' vs=some x
 | [],H,H',x,hl,h=>by simpa[EI]using h
 |v::vs,H,H',x,hl,h=>by
  simp only[EI]at h⊢;obtain⟨y,h1,h2⟩:=Option.bind_eq_some_iff.1 h;obtain⟨z,h3,h4⟩:=Option.bind_eq_some_iff.1 h2;exact Option.bind_eq_some_iff.2 ⟨y,uG hl h1,Option.bind_eq_some_iff.2 ⟨z,Sw _ _ _ _ hl.puts h3,h4⟩⟩
theorem YA(k:Kd): ∀(vs:List V) (H H':List E) (x:List k.T×List (Nat×E)),HLe H H'→Fy k H vs=some x→Fy k H' vs=some x
 | [],H,H',x,hl,h=>by simpa[Fy]using h
 |v::vs,H,H',x,hl,h=>by
  simp only[Fy]at h⊢;obtain⟨y,h1,h2⟩:=Option.bind_eq_some_iff.1 h;obtain⟨z,h3,h4⟩:=Option.bind_eq_some_iff.1 h2;obtain⟨u,h5,h6⟩:=Option.bind_eq_some_iff.1 h4;exact Option.bind_eq_some_iff.2 ⟨y,Sw _ _ _ _ hl h1,Option.bind_eq_some_iff.2 ⟨z,h3,Option.bind_eq_some_iff.2 ⟨u,YA k _ _ _ _ hl.puts h5,h6⟩⟩⟩
theorem Zq(hl:HLe H H'){k:Kd}{v:V}{x:List k.T×List (Nat×E)×Ho}(h:Dv k H v=some x):Dv k H' v=some x:=by
 cases v with
 |bor r=>
  simp only[Dv]at h⊢;split at h
  ·rename_i e;rw[hl.root e];exact h
  ·cases h
 |borN r i j=>
  simp only[Dv]at h⊢;split at h
  ·rename_i e;rw[hl.root e];exact h
  ·cases h
 |_=>simpa only[Dv]using h
theorem Zn(hl:HLe H H'){k:Kd}{v:V}{x:List k.T×List (Nat×E)}(h:Cb k H v=some x):Cb k H' v=some x:=by
 cases v with
 |bor r=>
  simp only[Cb]at h⊢;split at h
  ·rename_i e;rw[hl.root e];exact h
  ·cases h
 |_=>simpa only[Cb]using h
theorem fO(hl:HLe H H'): ∀(sh:Sh) (vs:List V),Dq H sh vs=true→Dq H' sh vs=true:=by
 intro sh
 induction sh with
 |own k=>
  intro vs h;cases vs with
  |nil=>rfl
  |cons v vs=>
   cases v with
   |bor q=>
    simp only[Dq]at h⊢;split at h
    ·rename_i e;rw[hl.root e];exact h
    ·cases h
   |_=>rfl
 |agg s ih=>
  intro vs h;cases vs with
  |nil=>rfl
  |cons v vs=>
   cases v with
   |agg us=>simp only[Dq]at h⊢;exact ih us h
   |_=>rfl
 |pair a b iha ihb=>
  intro vs h;simp only[Dq,Bool.and_eq_true]at h⊢;exact⟨iha _ h.1,ihb _ h.2⟩
 |_=>intro vs h;rfl
theorem aH(hl:HLe H H'){Co:Orc}{f:FuncId}{vs:List V}{k:Eff→Option α}(h:Ej Co f vs H k=some r):Ej Co f vs H' k=some r:=by
 unfold Ej at h⊢;split at h
 · split at h
   · rename_i e
     rw[hl.root e];exact h
   ·cases h
 ·cases h
theorem aF(hl:HLe H H'){Co:Orc}{f:FuncId}{vs:List V}{ms:List AM}{sh:Sh}{outs:List Sh}{ss:List (Option Nat)}{k:Eff→Option α}(h:Ei Co f vs ms sh outs ss H k=some r):Ei Co f vs ms sh outs ss H' k=some r:=by
 unfold Ei at h⊢;obtain⟨y,h1,h2⟩:=Option.bind_eq_some_iff.1 h;obtain⟨z,h3,h4⟩:=Option.bind_eq_some_iff.1 h2;obtain⟨h5,h6⟩:=AQ h4;refine Option.bind_eq_some_iff.2 ⟨y,Ra _ _ _ _ _ hl h1,Option.bind_eq_some_iff.2 ⟨z,Qz hl.puts _ _ h3,?_⟩⟩;rw[Bool.and_eq_true]at h5;rw[Sj _ _ _ hl h5.1,fO hl _ _ h5.2];exact h6
variable {P:Program}{Tb:TypeId→Option TI}{tyK:Kd→TypeId}{o:Oper}{oa:OA}{tm:List V}{Co:Orc}{k:Eff→Option α}
theorem Z9(hl:HLe H H'){b:Builtin}{ts:Array TypeId}{vs:List V}(h:Dy Tb tyK b ts vs oa H k=some r):Dy Tb tyK b ts vs oa H' k=some r:=by
 unfold Dy at h⊢;split at h
 · split at h
   · split at h
     all_goals first|exact h|(cases h;done)|skip
     split at h
     ·rename_i e;(try dsimp only);rw[hl.root e];exact h
     ·cases h
   ·cases h
 · split at h
   · split at h
     · rename_i htb e
       (try dsimp only)
       simp only[htb,hl.root e];exact h
     ·cases h
   ·cases h
 ·exact h
 ·exact h
 · split at h
   · split at h
     · rename_i htb e
       (try dsimp only)
       rw[hl.fresh e];obtain⟨y,h1,h2⟩:=Option.bind_eq_some_iff.1 h;obtain⟨z,h3,h4⟩:=Option.bind_eq_some_iff.1 h2;simp only[htb];exact Option.bind_eq_some_iff.2 ⟨y,Zq hl h1,Option.bind_eq_some_iff.2 ⟨z,Zn hl.puts h3,h4⟩⟩
     ·cases h
   ·cases h
 ·cases h
theorem Ri(hl:HLe H H')(h:opK Tb tyK Co o oa tm H k=some r):opK Tb tyK Co o oa tm H' k=some r:=by
 cases ho:o.op with
 |nilCheck x=>
  simp only[opK,ho]at h⊢;split at h
  all_goals first|exact h|(cases h;done)|skip
  split at h
  ·rename_i e;(try dsimp only);rw[hl.root e];exact h
  ·cases h
 |fieldAddr t x f=>
  simp only[opK,ho]at h⊢;split at h
  · rename_i htb
    (try dsimp only)
    split at h
    · rename_i hf
      (try dsimp only)
      split at h
      · rename_i hti
        (try dsimp only)
        obtain⟨h0,h⟩:=Dz h;rw[h0];simp only[cond_false];split at h
        all_goals first|exact h|(cases h;done)|skip
        split at h
        ·rename_i e;(try dsimp only);rw[hl.root e];exact h
        ·cases h
      ·cases h
    ·cases h
  ·cases h
 |indexAddr t x ix=>
  simp only[opK,ho]at h⊢;split at h
  · rename_i htb
    obtain⟨n,e,h⟩:=KR h;simp only[e,V.asI];split at h
    all_goals first|exact h|(cases h;done)|skip
    split at h
    ·rename_i e;(try dsimp only);rw[hl.root e];exact h
    ·cases h
  ·cases h
 |load t x=>
  simp only[opK,ho]at h⊢;split at h
  · rename_i htb
    split at h
    all_goals first|exact h|(cases h;done)|skip
    · split at h
      ·rename_i e;(try dsimp only);rw[hl.box e];exact h
      ·cases h
    · split at h
      ·rename_i e;(try dsimp only);rw[hl.root e];exact h
      ·rename_i e;(try dsimp only);rw[hl.root e];exact h
      ·cases h
  ·cases h
 |store t x y=>
  simp only[opK,ho]at h⊢;split at h
  · rename_i htb
    obtain⟨h0,h⟩:=AQ h;rw[h0];simp only[cond_true];split at h
    · split at h
      ·rename_i e;(try dsimp only);rw[hl.box e];exact h
      ·cases h
    · split at h
      · rename_i e
        (try dsimp only)
        rw[hl.root e];obtain⟨z,h3,h4⟩:=Option.bind_eq_some_iff.1 h;exact Option.bind_eq_some_iff.2 ⟨z,Sw _ _ _ _ hl h3,h4⟩
      ·cases h
    ·cases h
  ·cases h
 |alloc t=>
  simp only[opK,ho]at h⊢;split at h
  · split at h
    ·rename_i e;(try dsimp only);rw[hl.fresh e];exact h
    ·cases h
  ·cases h
 |box t x=>
  simp only[opK,ho]at h⊢;split at h
  · split at h
    ·rename_i e;(try dsimp only);rw[hl.fresh e];exact h
    ·cases h
  ·cases h
 |buildSlice t n parts=>
  simp only[opK,ho]at h⊢;split at h
  · split at h
    · rename_i e
      (try dsimp only)
      rw[hl.fresh e];obtain⟨h0,h⟩:=AQ h;rw[h0];obtain⟨z,h3,h4⟩:=Option.bind_eq_some_iff.1 h;exact Option.bind_eq_some_iff.2 ⟨z,YA _ _ _ _ _ hl h3,h4⟩
    ·cases h
  ·cases h
 |makeSlice t x y=>
  simp only[opK,ho]at h⊢;split at h
  · split at h
    ·rename_i e;(try dsimp only);rw[hl.fresh e];exact h
    ·cases h
  ·cases h
 |slice t x lo hi mx=>
  simp only[opK,ho]at h⊢;split at h
  · rename_i htb
    split at h
    · split at h
      all_goals first|exact h|(cases h;done)|skip
      (try dsimp only)
      split at h
      · rename_i e
        split at h
        · rename_i e2
          (try dsimp only)
          rw[hl.root e]
          (try dsimp only)
          rw[hl.fresh e2];exact h
        ·cases h
      · rename_i e
        (try dsimp only)
        rw[hl.root e];exact h
      ·cases h
    ·exact h
  ·exact h
  ·cases h
 |call c=>
  simp only[opK,ho]at h⊢;split at h
  ·exact Z9 hl h
  · split at h
    ·exact aF hl h
    ·exact aH hl h
    ·cases h
  ·cases h
 |makeFunc fn first caps=>cases fn<;>first|(simp only[opK,ho]at h⊢;exact h)|(simp[opK,ho]at h)
 |_=>(simp only[opK,ho]at h⊢;exact h)
end
end Go.Proofs.YthoholbeacojfaaGreat.VR
end
section
set_option linter.unusedVariables false
set_option linter.unusedSimpArgs false
set_option linter.unusedSectionVars false
namespace Go.Proofs.YthoholbeacojfaaGreat.VR
open Go
structure At(tyK:Kd→TypeId)(R0:Re)(w0:World)(lv:List V)(us:List Value)(R:Re)(tm:List V)(H:List E)(a:Act)(w:World):Prop where
 step:Step R0 w0 R w
 hr:HR tyK R H w
 tm:VRs R H w tm a.tmps.toList
 lv:VRs R H w lv us
 defers:a.defers=[]
def J(tyK:Kd→TypeId)(R0:Re)(w0:World)(lv:List V)(us:List Value)(st:St)(a:Act)(w:World):Prop:= ∃R,At tyK R0 w0 lv us R st.tm st.H a w
section
variable {P:Program}{Tb:TypeId→Option TI}{tyK:Kd→TypeId}{R:Re}{H:List E}{w:World}{a:Act}{o:Oper}{oa:OA}{tm:List V}{α:Type}{r:α}{Co:Orc}
theorem fS(a:Act)(d:Option Tmp)(v:Value):(a.put d v).tmps.toList=match d with|some d=>a.tmps.toList.set d v|none=>a.tmps.toList:=by
 cases d<;>simp[Act.put]
theorem fR(a:Act)(d:Option Tmp)(v:Value):(a.put d v).defers=a.defers:=by cases d<;>rfl
theorem VRs.set{vs:List V}{us:List Value}(h:VRs R H w vs us)(d:Nat){v:V}{u:Value}(hv:VR R H w v u):VRs R H w (vs.set d v) (us.set d u):=by
 refine⟨by simp[h.1],fun i x y hx hy=> ?_⟩
 rw[List.getElem?_set]at hx hy
 by_cases e:d=i
 · subst e
   rw[if_pos rfl]at hx hy;split at hx
   · split at hy
     ·injection hx with hx;injection hy with hy;subst hx;subst hy;exact hv
     ·cases hy
   ·cases hx
 · rw[if_neg e]at hx hy
   exact h.2 i x y hx hy
theorem VRs.putd(h:VRs R H w tm a.tmps.toList)(d:Option Tmp){v:V}{u:Value}(hv:VR R H w v u):VRs R H w (IF tm d v) (a.put d u).tmps.toList:=by
 rw[fS];cases d with
 |none=>exact h
 |some d=>exact h.set d hv
theorem VRs.bool_at(h:VRs R H w tm a.tmps.toList){d:Nat}{b:Bool}(hd:tm.getD d .junk=.bool b):a.tmps[d]? =some (.bool b)∧VRs R H w (tm.set d (.bool b)) a.tmps.toList:=by
 rw[List.getD_eq_getElem?_getD]at hd;have hlt:d<tm.length:=by
  rcases Nat.lt_or_ge d tm.length with h1|h1
  ·exact h1
  ·rw[List.getElem?_eq_none h1]at hd;cases hd
 rw[List.getElem?_eq_getElem hlt]at hd;simp at hd;have hlt2:d<a.tmps.toList.length:=by rw[←h.1];exact hlt
 have h3:=h.2 d _ _ (List.getElem?_eq_getElem hlt) (List.getElem?_eq_getElem hlt2);rw[hd]at h3;have h4:a.tmps.toList[d]=.bool b:=h3.bool_inv;refine⟨by rw[←Array.getElem?_toList,List.getElem?_eq_getElem hlt2,h4],?_⟩
 have:=h.set d (VR.bool (R:=R) (H:=H) (w:=w) b);have e:a.tmps.toList.set d (.bool b)=a.tmps.toList:=by
  rw[←h4];exact List.set_getElem_self hlt2
 rwa[e]at this
theorem VRs.und_at(h:VRs R H w tm a.tmps.toList){d:Nat}(hd:tm.getD d .junk=.und):a.tmps[d]? =some undef:=by
 rw[List.getD_eq_getElem?_getD]at hd;have hlt:d<tm.length:=by
  rcases Nat.lt_or_ge d tm.length with h1|h1
  ·exact h1
  ·rw[List.getElem?_eq_none h1]at hd;cases hd
 rw[List.getElem?_eq_getElem hlt]at hd;simp at hd;have hlt2:d<a.tmps.toList.length:=by rw[←h.1];exact hlt
 have h3:=h.2 d _ _ (List.getElem?_eq_getElem hlt) (List.getElem?_eq_getElem hlt2);rw[hd]at h3;have h4:a.tmps.toList[d]=undef:=by
  generalize a.tmps.toList[d]=x at h3;cases h3;rfl
 rw[←Array.getElem?_toList,List.getElem?_eq_getElem hlt2,h4]
def GOk(P:Program)(ty:Kd→TypeId)(ops:Array Oper)(o:Oper)(a:Act)(w:World)(R:Re)(H:List E)(e:Eff):Prop:=
 ∀(K:Act→World→Prop) (Q:Exit→Act→World→Prop),(∀R' v w',Pres R H w R' (AJ H e.ws) w'→HR ty R' (AJ H e.ws) w'→VR R' (AJ H e.ws) w' e.v v→K (a.put o.dst v) w')→
  if Region.wanted o (yielded ops a.tmps)then o.wp P a w K Q else K (a.put o.dst undef) w
theorem Um{ops:Array Oper}{k:List V→Eff→Option α}(hT:TbOk P Tb tyK)(hC:CoOk P tyK Co)(hh:HR tyK R H w)(ht:VRs R H w tm a.tmps.toList)(h:DT Tb tyK Co ops o oa tm H k=some r):
 ∃tm' e,k tm' e=some r∧VRs R H w tm' a.tmps.toList∧GOk P tyK ops o a w R H e:=by
 unfold DT at h;obtain⟨hs,h⟩:=AQ h;have hs': ∀s q,oa=.slot s q→s<H.length:=by
  rintro s q rfl;simpa[YM]using hs
 split at h
 · rename_i hg
   obtain⟨e,hk,hok⟩:=Rj hT hC hh ht hs' h;exact⟨tm,e,hk,ht,fun K Q hK=>by rw[if_pos (by simp[Region.wanted,hg])];exact hok K Q hK⟩
 · rename_i g want hg
   split at h
   · rename_i d hd
     rcases Pr h with⟨b,hb,h⟩|⟨hb,h⟩
     rotate_left
     · have hy:=ht.und_at hb
       have hyl:yielded ops a.tmps g=none:=by simp[yielded,hd,hy,undef]
       have hwant:Region.wanted o (yielded ops a.tmps)=false:=by simp[Region.wanted,hg,hyl]
       exact⟨_,_,h,ht,fun K Q hK=>by rw[hwant];exact hK R undef w (Pres.refl _ _ _) hh .und⟩
     obtain⟨hy,ht'⟩:=ht.bool_at hb;have hyl:yielded ops a.tmps g=some b:=by simp[yielded,hd,hy]
     have hwant:Region.wanted o (yielded ops a.tmps)=(b==want):=by simp[Region.wanted,hg,hyl]
     cases b with
     |true=>
      simp only[cond_true]at h;cases want with
      |true=>
       simp only[cond_true]at h;obtain⟨e,hk,hok⟩:=Rj hT hC hh ht' hs' h;exact⟨_,e,hk,ht',fun K Q hK=>by rw[hwant];exact hok K Q hK⟩
      |false=>
       simp only[cond_false]at h;exact⟨_,_,h,ht',fun K Q hK=>by rw[hwant];exact hK R undef w (Pres.refl _ _ _) hh .und⟩
     |false=>
      simp only[cond_false]at h;cases want with
      |true=>
       simp only[cond_true]at h;exact⟨_,_,h,ht',fun K Q hK=>by rw[hwant];exact hK R undef w (Pres.refl _ _ _) hh .und⟩
      |false=>
       simp only[cond_false]at h;obtain⟨e,hk,hok⟩:=Rj hT hC hh ht' hs' h;exact⟨_,e,hk,ht',fun K Q hK=>by rw[hwant];exact hok K Q hK⟩
   ·cases h
variable {R0:Re}{w0:World}{lv:List V}{us:List Value}
theorem At.next(h:At tyK R0 w0 lv us R tm H a w){R':Re}{e:Eff}{v:Value}{w':World}{d:Option Tmp}{tm':List V}(ht':VRs R H w tm' a.tmps.toList)(hp:Pres R H w R' (AJ H e.ws) w')(hr:HR tyK R' (AJ H e.ws) w')(hv:VR R' (AJ H e.ws) w' e.v v):
 At tyK R0 w0 lv us R' (IF tm' d e.v) (AJ H e.ws) (a.put d v) w':=
 ⟨h.step.trans hp.step,hr,VRs.putd (ht'.pres hp) d hv,h.lv.pres hp,by rw[fR];exact h.defers⟩
theorem Xu{ops:Array Oper}{bz:List (Nat×OA)}{k:St→Option α}{Q:Exit→Act→World→Prop}(hT:TbOk P Tb tyK)(hC:CoOk P tyK Co)(hQ: ∀st a w,k st=some r→J tyK R0 w0 lv us st a w→Q .normal a w):
 ∀(os:List Oper) (i:Nat) (tm:List V) (H:List E) (a:Act) (w:World),MB Tb tyK Co ops bz i os tm H k=some r→J tyK R0 w0 lv us ⟨tm,H⟩ a w→wpList P ops Q os a w
 | [],i,tm,H,a,w,h,hj=>hQ _ a w h hj
 |o::os,i,tm,H,a,w,h,⟨R,hj⟩=>by
  simp only[MB]at h;obtain⟨tm',e,hk,ht',hok⟩:=Um hT hC hj.hr hj.tm h;refine wpList_step fun K hK=>hok K Q fun R' v w' hp hr hv=>hK _ _ ?_
  exact Xu hT hC hQ os (i+1) _ _ _ _ hk ⟨R',hj.next ht' hp hr hv⟩
end
end Go.Proofs.YthoholbeacojfaaGreat.VR
end
section
set_option linter.unusedVariables false
set_option linter.unusedSimpArgs false
set_option linter.unusedSectionVars false
namespace Go.Proofs.YthoholbeacojfaaGreat.VR
open Go
section
variable {α β:Type}
theorem BE(c:Bool)(x y:Option α)(k:α→Option β):(cond c x y).bind k=cond c (x.bind k) (y.bind k):=by cases c<;>rfl
theorem Ps(v:V)(f:Int→Option α)(k:α→Option β):(v.asI f).bind k=v.asI fun n=>(f n).bind k:=by cases v<;>rfl
theorem Zs(v:V)(f:Bool→Option α)(k:α→Option β):(v.asB f).bind k=v.asB fun n=>(f n).bind k:=by cases v<;>rfl
theorem Zt(v:V)(f:Bool→Option α)(z:Option α)(k:α→Option β):(v.asG f z).bind k=v.asG (fun n=>(f n).bind k) (z.bind k):=by cases v<;>rfl
theorem Pw(op:BinOp)(b:Bool)(f:Bool→Option α)(k:α→Option β):(HN op b f).bind k=HN op b fun n=>(f n).bind k:=by cases op<;>rfl
theorem Jy(tm:List V)(x:Option Operand)(d:Int)(f:Int→Option α)(k:α→Option β):(Db tm x d f).bind k=Db tm x d fun n=>(f n).bind k:=by
 cases x with
 |none=>rfl
 |some y=>exact Ps _ _ _
theorem cD(h:Ho)(i j:Nat)(cs:List C)(f:Ho→Option α)(k:α→Option β):(h.store i j cs f).bind k=h.store i j cs fun n=>(f n).bind k:=by
 unfold Ho.store;rw[BE]
 congr 1
 cases h with
 |hole i' j'=>exact BE _ _ _ _
 |_=>rfl
theorem Z1(op:BinOp)(a b:Int)(f:V→Option α)(k:α→Option β):(Ii op a b f).bind k=Ii op a b fun n=>(f n).bind k:=by
 cases op<;>simp only[Ii,BE]<;>rfl
theorem Z5(op:BinOp)(a b:Int)(f:V→Option α)(k:α→Option β):(Ik op a b f).bind k=Ik op a b fun n=>(f n).bind k:=by
 cases op<;>simp only[Ik,BE]<;>rfl
theorem Z3(op:BinOp)(a b:ByteArray)(f:V→Option α)(k:α→Option β):(Ij op a b f).bind k=Ij op a b fun n=>(f n).bind k:=by
 cases op<;>simp only[Ij,BE]<;>rfl
theorem sA(op:BinOp)(a:Int)(y:Operand)(f:V→Option α)(k:α→Option β):(shK op a y f).bind k=shK op a y fun n=>(f n).bind k:=by
 unfold shK;split<;>first|(simp only[BE];rfl)|rfl
theorem BL(x:α)(k:α→Option β):(some x).bind k=k x:=rfl
theorem Bh(k:α→Option β):(none:Option α).bind k=none:=rfl
variable {Tb:TypeId→Option TI}{tyK:Kd→TypeId}{H:List E}{o:Oper}{oa:OA}{tm:List V}{Co:Orc}{k:Eff→Option β}
theorem aI{f:FuncId}{vs:List V}:Ej Co f vs H k=(Ej Co f vs H some).bind k:=by
 unfold Ej;split
 · split
   ·rw[BE];simp only[Option.bind_assoc,Bh,BL]
   ·rfl
 ·rfl
theorem aG{f:FuncId}{vs:List V}{ms:List AM}{sh:Sh}{outs:List Sh}{ss:List (Option Nat)}:Ei Co f vs ms sh outs ss H k=(Ei Co f vs ms sh outs ss H some).bind k:=by
 unfold Ei;simp only[Option.bind_assoc,BE,Bh]
 congr 1;funext m
 congr 1;funext bz
 congr 1
 congr 1;funext r
 (try dsimp only)
 split<;>rfl
theorem aA{b:Builtin}{ts:Array TypeId}{vs:List V}:Dy Tb tyK b ts vs oa H k=(Dy Tb tyK b ts vs oa H some).bind k:=by
 unfold Dy;split
 · split
   · split<;>(try rfl)
     split<;>rfl
   ·rfl
 · split
   · split
     ·simp only[BE,Bh,BL]
     ·rfl
   ·rfl
 ·rfl
 ·rfl
 · split
   · split
     ·simp only[Option.bind_assoc,BE,Bh,BL]
     ·rfl
   ·rfl
 ·rfl
theorem V7:opK Tb tyK Co o oa tm H k=(opK Tb tyK Co o oa tm H some).bind k:=by
 cases ho:o.op with
 |move x=>simp only[opK,ho];rfl
 |assign x=>simp only[opK,ho];rfl
 |pick c x y=>
  simp only[opK,ho,Zs]
  congr 1;funext b
  split
  ·rfl
  ·simp only[BE,BL]
 |binOp op t x y t'=>
  simp only[opK,ho];split
  ·simp only[Z1,BL]
  ·simp only[Z5,BL]
  ·simp only[Z3,BL]
  · split
    ·split<;>rfl
    ·rfl
  · split
    ·simp only[BE,Option.bind_assoc,Bh,BL]
    ·simp only[BE,Option.bind_assoc,Bh,BL]
    ·rfl
  ·simp only[BE,Pw,BL,Bh]
  ·simp only[BE,Pw,BL,Bh]
  ·simp only[BE,Pw,BL,Bh]
  ·simp only[sA,BL]
  ·rfl
 |unOp op t x=>
  simp only[opK,ho];split<;>rfl
 |nilCheck x=>
  simp only[opK,ho];split<;>(try rfl)
  split<;>rfl
 |fieldAddr t x f=>
  simp only[opK,ho];split<;>(try rfl)
  split<;>(try rfl)
  split<;>(try rfl)
  rw[BE]
  congr 1
  split<;>(try rfl)
  split<;>rfl
 |indexAddr t x ix=>
  simp only[opK,ho];split<;>(try rfl)
  rw[Ps]
  congr 1;funext n
  split
  ·simp only[BE,Bh,BL]
  · split
    ·simp only[BE,Bh,BL]
    ·rfl
  ·rfl
 |load t x=>
  simp only[opK,ho];split<;>(try rfl)
  split<;>(try rfl)
  ·simp only[Option.bind_assoc,BL]
  · split
    ·simp only[Option.bind_assoc,BL]
    ·rfl
  · split
    ·simp only[Option.bind_assoc,BL]
    ·simp only[BE,Option.bind_assoc,Bh,BL]
    ·rfl
 |store t x y=>
  simp only[opK,ho];split<;>(try rfl)
  rw[BE]
  congr 1
  split<;>(try rfl)
  · split
    ·simp only[BE,Bh,BL]
    ·rfl
  · split
    ·simp only[BE,Option.bind_assoc,cD,Bh,BL]
    ·rfl
 |alloc t=>
  simp only[opK,ho];split<;>(try rfl)
  split
  ·simp only[Option.bind_assoc,BL]
  ·rfl
 |box t x=>
  simp only[opK,ho];split<;>(try rfl)
  split
  ·simp only[BE,Bh,BL]
  ·rfl
 |build t parts=>
  simp only[opK,ho];split
  ·simp only[Option.bind_assoc,BL]
  ·rfl
 |buildSlice t n parts=>
  simp only[opK,ho];split<;>(try rfl)
  split
  ·simp only[BE,Option.bind_assoc,Bh,BL]
  ·rfl
 |makeSlice t x y=>
  simp only[opK,ho];split<;>(try rfl)
  split
  ·simp only[Ps,BE,Option.bind_assoc,Bh,BL]
  ·rfl
 |makeFunc fn first caps=>
  cases fn<;>simp only[opK,ho]<;>first|rfl|simp only[BE,Bh,BL]
 |extract x i=>
  simp only[opK,ho];split<;>(try rfl)
  split<;>rfl
 |index t x ix=>
  simp only[opK,ho];split
  ·simp only[BE,Bh,BL]
  ·rfl
 |convert s d x=>
  simp only[opK,ho];split<;>rfl
 |slice t x lo hi mx=>
  simp only[opK,ho];split
  · split
    · split
      ·simp only[Jy,BE,Bh,BL]
      · split
        · split
          ·simp only[Jy,BE,Bh,BL]
          ·rfl
        ·simp only[Jy,BE,Bh,BL]
        ·rfl
      ·simp only[Jy,BE,Bh,BL]
      ·rfl
    · split
      · simp only[Jy,BE,Bh]
        congr 1;funext h
        congr 1;funext m
        congr 1
        split
        ·simp only[BE,Bh,BL]
        ·simp only[BE,Bh,BL]
        ·rfl
      ·rfl
  · split
    ·simp only[Jy,BE,Bh,BL]
    ·rfl
  ·rfl
 |call c=>
  simp only[opK,ho];split
  ·exact aA
  · split
    ·exact aG
    ·exact aI
    ·rfl
  ·rfl
 |_=>simp only[opK,ho];rfl
theorem Ul{ops:Array Oper}{k:List V→Eff→Option β}:DT Tb tyK Co ops o oa tm H k=(DT Tb tyK Co ops o oa tm H fun t e=>some (t,e)).bind fun p=>k p.1 p.2:=by
 have hop: ∀(tm t:List V),opK Tb tyK Co o oa tm H (k t)=(opK Tb tyK Co o oa tm H fun e=>some (t,e)).bind fun p=>k p.1 p.2:=by
  intro tm t;rw[V7,V7 (k:=fun e=>some (t,e)),Option.bind_assoc]
  rfl
 unfold DT;rw[BE]
 congr 1
 split
 ·exact hop _ _
 · split
   ·simp only[Zt,BE,hop,BL]
   ·rfl
end
end Go.Proofs.YthoholbeacojfaaGreat.VR
end
section
set_option linter.unusedVariables false
set_option linter.unusedSimpArgs false
set_option linter.unusedSectionVars false
namespace Go.Proofs.YthoholbeacojfaaGreat.VR
open Go
section
variable {β:Type}
def B0(x:List β):List (Nat×β)→List β
 | []=>x
 |(s,e)::ws=>B0 (x.set s e) ws
theorem YJ(ws:List (Nat×β)): ∀x:List β,(B0 x ws).length=x.length:=by
 induction ws with
 |nil=>intro x;rfl
 |cons p ws ih=>intro x;obtain⟨s,e⟩:=p;simp only[B0];rw[ih];simp
def DL(ws:List (Nat×β))(s:Nat):Prop:= ∃p∈ws,p.1=s
theorem SS{ws:List (Nat×β)}: ∀{x:List β} {s:Nat},¬DL ws s→(B0 x ws)[s]? =x[s]? :=by
 induction ws with
 |nil=>intro x s _;rfl
 |cons p ws ih=>
  intro x s h;obtain⟨q,e⟩:=p;simp only[B0];rw[ih (fun⟨p,hp,e⟩=>h ⟨p,by simp[hp],e⟩),List.getElem?_set_ne]
  exact fun e'=>h ⟨(q,e),by simp,e'⟩
theorem rz(ws:List (Nat×β)): ∀(x:List β) (s:Nat) (e:β),¬DL ws s→B0 (x.set s e) ws=(B0 x ws).set s e:=by
 induction ws with
 |nil=>intro x s e _;rfl
 |cons p ws ih=>
  intro x s e h;obtain⟨q,f⟩:=p;simp only[B0];rw[List.set_comm,ih _ _ _ (fun⟨p,hp,e⟩=>h ⟨p,by simp[hp],e⟩)]
  exact fun e'=>h ⟨(q,f),by simp,e'.symm⟩
theorem ry(a b:List (Nat×β)): ∀x:List β,(∀s,DL a s→ ¬DL b s)→B0 (B0 x a) b=B0 (B0 x b) a:=by
 induction a with
 |nil=>intro x _;rfl
 |cons p a ih=>
  intro x h;obtain⟨q,f⟩:=p;simp only[B0];rw[ih _ (fun s ⟨p,hp,e⟩=>h s ⟨p,by simp[hp],e⟩),rz b x q f (h q ⟨(q,f),by simp,rfl⟩)]
def app(x:List β):List (List (Nat×β))→(Nat→Bool)→Nat→List β
 | [],S,i=>x
 |w::l,S,i=>app (cond (S i) (B0 x w) x) l S (i+1)
theorem KQ: ∀(l:List (List (Nat×β))) (x:List β) (S:Nat→Bool) (i:Nat),(app x l S i).length=x.length
 | [],x,S,i=>rfl
 |w::l,x,S,i=>by simp only[app];rw[KQ l];cases S i<;>simp[YJ]
theorem TT: ∀(l:List (List (Nat×β))) (x:List β) (S S':Nat→Bool) (i:Nat),(∀m,i≤m→m<i+l.length→S m=S' m)→app x l S i=app x l S' i
 | [],x,S,S',i,h=>rfl
 |w::l,x,S,S',i,h=>by
  simp only[app];rw[h i (Nat.le_refl _) (by simp)]
  exact TT l _ S S' (i+1) fun m h1 h2=>h m (by omega) (by simp;omega)
theorem KP: ∀(l:List (List (Nat×β))) (x:List β) (S:Nat→Bool) (i:Nat),(∀m,i≤m→S m=false)→app x l S i=x
 | [],x,S,i,h=>rfl
 |w::l,x,S,i,h=>by
  simp only[app];rw[h i (Nat.le_refl _)];exact KP l x S (i+1) fun m h1=>h m (by omega)
theorem TU: ∀(l:List (List (Nat×β))) (x:List β) (S:Nat→Bool) (i:Nat) (w:List (Nat×β)),(∀m v,l[m]? =some v→S (i+m)=true→ ∀s,DL w s→ ¬DL v s)→app (B0 x w) l S i=B0 (app x l S i) w
 | [],x,S,i,w,h=>rfl
 |v::l,x,S,i,w,h=>by
  simp only[app];have ih:=fun x=>TU l x S (i+1) w fun m v' hv hs=>h (m+1) v' (by simpa using hv) (by rw[show i+(m+1)=i+1+m by omega];exact hs)
  cases hS:S i with
  |true=>
   simp only[cond_true];rw[ry w v x (h 0 v rfl (by simpa using hS)),ih]
  |false=>
   simp only[cond_false];exact ih x
theorem Pq: ∀(l:List (List (Nat×β))) (x:List β) (S S':Nat→Bool) (i j:Nat) (w:List (Nat×β)),l[j]? =some w→S (i+j)=false→S' (i+j)=true→(∀m,m≠i+j→S' m=S m)→
 (∀m v,j<m→l[m]? =some v→S (i+m)=true→ ∀s,DL w s→ ¬DL v s)→app x l S' i=B0 (app x l S i) w
 | [],x,S,S',i,j,w,h,_,_,_,_=>by simp at h
 |v::l,x,S,S',i,0,w,h,h1,h2,h3,h4=>by
  simp at h;subst h;simp only[app,Nat.add_zero]at*;rw[h1,h2];simp only[cond_true,cond_false];rw[TT l _ S' S (i+1) fun m h5 _=>h3 m (by omega)]
  exact TU l x S (i+1) v fun m u hu hs=>h4 (m+1) u (by omega) (by simpa using hu) (by rw[show i+(m+1)=i+1+m by omega];exact hs)
 |v::l,x,S,S',i,j+1,w,h,h1,h2,h3,h4=>by
  simp only[app];rw[h3 i (by omega)]
  refine Pq l _ S S' (i+1) j w (by simpa using h) ?_ ?_ ?_ fun m u hm hu hs=>h4 (m+1) u (by omega) (by simpa using hu) (by rw[show i+(m+1)=i+1+m by omega];exact hs)
  ·rw[show i+1+j=i+(j+1) by omega];exact h1
  ·rw[show i+1+j=i+(j+1) by omega];exact h2
  ·intro m hm;exact h3 m (by omega)
theorem Pp: ∀(l:List (List (Nat×β))) (x x':List β) (S S':Nat→Bool) (i s:Nat),x.length=x'.length→x[s]? =x'[s]? →(∀m v,l[m]? =some v→DL v s→S (i+m)=S' (i+m))→(app x l S i)[s]? =(app x' l S' i)[s]?
 | [],x,x',S,S',i,s,hl,hx,h=>hx
 |v::l,x,x',S,S',i,s,hl,hx,h=>by
  simp only[app];refine Pp l _ _ S S' (i+1) s ?_ ?_ fun m u hu hh=> ?_
  ·cases S i<;>cases S' i<;>simp[YJ,hl]
  · by_cases hv:DL v s
    · rw[show S i=S' i from h 0 v rfl hv]
      cases S' i with
      |false=>exact hx
      |true=>
       simp only[cond_true];clear h
       induction v generalizing x x' with
       |nil=>exact hx
       |cons p v ih=>
        obtain⟨q,e⟩:=p;simp only[B0]
        by_cases hv2:DL v s
        · refine ih (x.set q e) (x'.set q e) (by simp[hl]) ?_ hv2
          rw[List.getElem?_set,List.getElem?_set,hl,hx]
        ·rw[SS hv2,SS hv2,List.getElem?_set,List.getElem?_set,hl,hx]
    · have e1: ∀(b:Bool) (y:List β),(cond b (B0 y v) y)[s]? =y[s]? :=by intro b y;cases b<;>simp[SS hv]
      rw[e1,e1];exact hx
  · have:=h (m+1) u (by simpa using hu) hh
    rwa[show i+(m+1)=i+1+m by omega]at this
end
theorem WI(ws:List (Nat×E)): ∀H:List E,AJ H ws=B0 H ws:=by
 induction ws with
 |nil=>intro H;rfl
 |cons p ws ih=>intro H;obtain⟨s,e⟩:=p;exact ih _
def wt(o:Oper)(e:Eff):List (Nat×V):=match o.dst with
 |some d=>[(d,e.v)]
 |none=>[]
theorem WH(tm:List V)(o:Oper)(e:Eff):IF tm o.dst e.v=B0 tm (wt o e):=by
 unfold IF wt;cases o.dst<;>rfl
theorem Lg{o:Oper}{e:Eff}{s:Nat}(h:DL (wt o e) s):o.dst=some s:=by
 unfold wt at h;obtain⟨p,hp,rfl⟩:=h;split at hp
 ·rename_i d hd;simp at hp;subst hp;exact hd
 ·cases hp
section
variable {α:Type}{Tb:TypeId→Option TI}{tyK:Kd→TypeId}{Co:Orc}{ops:Array Oper}{bz:List (Nat×OA)}
inductive Chn (Tb:TypeId→Option TI) (tyK:Kd→TypeId) (Co:Orc) (ops:Array Oper) (bz:List (Nat×OA)):Nat→List Oper→List (List Nat×List Nat)→List V→List E→List Eff→List V→List E→Prop
 |nil {i ds tm H}:Chn Tb tyK Co ops bz i [] ds tm H [] tm H
 |cons {i o os rd wr ds tm H t e es tm' H'}:DT Tb tyK Co ops o (Jx bz i) (keepT (o.looksAt ops) 0 tm) (By H rd 0) (fun t e=>some (t,e))=some (t,e)→KJ e.ws wr=true→
   Chn Tb tyK Co ops bz (i+1) os ds (B0 tm (wt o e)) (B0 H e.ws) es tm' H'→Chn Tb tyK Co ops bz i (o::os) ((rd,wr)::ds) tm H (e::es) tm' H'
theorem Tq{k:St→Option α}{r:α}: ∀(os:List Oper) (i:Nat) (ds:List (List Nat×List Nat)) (tm:List V) (H:List E),FV Tb tyK Co ops bz i os ds tm H k=some r→ ∃es tm' H',Chn Tb tyK Co ops bz i os ds tm H es tm' H'∧k ⟨tm',H'⟩=some r
 | [],i,ds,tm,H,h=>⟨[],tm,H,.nil,h⟩
 |o::os,i,[],tm,H,h=>by simp[FV]at h
 |o::os,i,(rd,wr)::ds,tm,H,h=>by
  simp only[FV]at h;rw[Ul]at h;obtain⟨⟨t,e⟩,h1,h⟩:=Option.bind_eq_some_iff.1 h;obtain⟨h2,h⟩:=AQ h;dsimp only at h2 h;rw[WH,WI]at h;obtain⟨es,tm',H',hc,hk⟩:=Tq os (i+1) ds _ _ h;exact⟨e::es,tm',H',.cons h1 h2 hc,hk⟩
def wts(os:List Oper)(es:List Eff):List (List (Nat×V)):=(os.zip es).map fun p=>wt p.1 p.2
def wsH(es:List Eff):List (List (Nat×E)):=es.map (·.ws)
theorem Chn.len{i os ds tm H es tm' H'}(h:Chn Tb tyK Co ops bz i os ds tm H es tm' H'):es.length=os.length∧os.length≤ds.length:=by
 induction h with
 |nil=>simp
 |cons _ _ _ ih=>simp;omega
theorem Chn.end{i os ds tm H es tm' H'}(h:Chn Tb tyK Co ops bz i os ds tm H es tm' H')(S:Nat→Bool)(hS: ∀m,i≤m→m<i+os.length→S m=true):tm'=app tm (wts os es) S i∧H'=app H (wsH es) S i:=by
 induction h with
 |nil=>exact⟨rfl,rfl⟩
 |cons _ _ _ ih=>
  rename_i i o os rd wr ds tm H t e es tm' H' _ _ _;obtain⟨h1,h2⟩:=ih fun m h3 h4=>hS m (by omega) (by simp;omega)
  have h3:=hS i (Nat.le_refl _) (by simp)
  simp only[wts,wsH,List.zip_cons_cons,List.map_cons,app,h3,cond_true];exact⟨h1,h2⟩
theorem Chn.at{i os ds tm H es tm' H'}(h:Chn Tb tyK Co ops bz i os ds tm H es tm' H'): ∀(j:Nat) (o:Oper) (d:List Nat×List Nat) (e:Eff),os[j]? =some o→ds[j]? =some d→es[j]? =some e→
 ∃t,DT Tb tyK Co ops o (Jx bz (i+j)) (keepT (o.looksAt ops) 0 (app tm (wts os es) (fun m=>decide (m<i+j)) i)) (By (app H (wsH es) (fun m=>decide (m<i+j)) i) d.1 0) (fun t e=>some (t,e))=some (t,e)∧KJ e.ws d.2=true:=by
 induction h with
 |nil=>intro j o d e ho;simp at ho
 |cons h1 h2 h3 ih=>
  rename_i i o os rd wr ds tm H t e es tm' H';intro j o' d' e' ho hd he;cases j with
  |zero=>
   simp at ho hd he;subst ho;subst hd;subst he;rw[KP _ tm _ i (fun m hm=>by simp;omega),KP _ H _ i (fun m hm=>by simp;omega)]
   exact⟨t,h1,h2⟩
  |succ j=>
   obtain⟨t',h4,h5⟩:=ih j o' d' e' (by simpa using ho) (by simpa using hd) (by simpa using he)
   refine⟨t',?_,h5⟩;have e1:decide (i<i+(j+1))=true:=by simp
   have e2:(fun m=>decide (m<i+1+j))=fun m=>decide (m<i+(j+1)):=by funext m;rw[show i+1+j=i+(j+1) by omega]
   rw[e2,show i+1+j=i+(j+1) by omega]at h4
   simp only[wts,wsH,List.zip_cons_cons,List.map_cons,app,e1,cond_true]at h4⊢;exact h4
theorem TQ: ∀(os:List Oper) (acc:List (List Nat)),∃l,Df os acc=acc++l∧l.length=os.length
 | [],acc=>⟨[],by simp[Df],rfl⟩
 |o::os,acc=>by
  obtain⟨l,h1,h2⟩:=TQ os (acc++[o.after.toList.flatMap fun e=>cond (Region.binds .any e) (e.on::(acc.getD e.on [])) []])
  exact⟨_::l,by simp only[Df];rw[h1,List.append_assoc];rfl,by simp[h2]⟩
theorem TO: ∀(os:List Oper) (acc:List (List Nat)) (m:Nat) (o:Oper),os[m]? =some o→(∀e∈o.after.toList,Region.binds .any e=true→e.on<acc.length+m)→
 (Df os acc).getD (acc.length+m) []=o.after.toList.flatMap fun e=>cond (Region.binds .any e) (e.on::((Df os acc).getD e.on [])) []
 | [],acc,m,o,h,_=>by simp at h
 |o'::os,acc,0,o,h,hb=>by
  simp at h;subst h;simp only[Df];obtain⟨l,h1,h2⟩:=TQ os (acc++[o'.after.toList.flatMap fun e=>cond (Region.binds .any e) (e.on::(acc.getD e.on [])) []])
  rw[h1];have e1: ∀(m:Nat),m<acc.length→(acc++[o'.after.toList.flatMap fun e=>cond (Region.binds .any e) (e.on::(acc.getD e.on [])) []]++l).getD m []=acc.getD m []:=by
   intro m hm;rw[List.getD_eq_getElem?_getD,List.getD_eq_getElem?_getD,List.append_assoc,List.getElem?_append_left hm]
  have e2:(acc++[o'.after.toList.flatMap fun e=>cond (Region.binds .any e) (e.on::(acc.getD e.on [])) []]++l).getD (acc.length+0) []=o'.after.toList.flatMap fun e=>cond (Region.binds .any e) (e.on::(acc.getD e.on [])) []:=by
   rw[List.getD_eq_getElem?_getD,List.append_assoc,List.getElem?_append_right (by omega)]
   simp
  rw[e2];have: ∀(es:List Edge),(∀e∈es,Region.binds .any e=true→e.on<acc.length+0)→(es.flatMap fun e=>cond (Region.binds .any e) (e.on::(acc.getD e.on [])) [])=
   es.flatMap fun e=>cond (Region.binds .any e) (e.on::((acc++[o'.after.toList.flatMap fun e=>cond (Region.binds .any e) (e.on::(acc.getD e.on [])) []]++l).getD e.on [])) []:=by
   intro es
   induction es with
   |nil=>intro _;rfl
   |cons e es ih=>
    intro h;simp only[List.flatMap_cons];rw[ih fun e he=>h e (by simp[he])]
    congr 1
    cases hbe:Region.binds .any e with
    |false=>rfl
    |true=>
     simp only[cond_true];rw[e1 _ (by have:=h e (by simp) hbe;omega)]
  exact this _ hb
 |o'::os,acc,m+1,o,h,hb=>by
  simp only[Df];have:=TO os (acc++[o'.after.toList.flatMap fun e=>cond (Region.binds .any e) (e.on::(acc.getD e.on [])) []]) m o (by simpa using h) (fun e he hbe=>by have:=hb e he hbe;simp;omega)
  rw[show(acc++[o'.after.toList.flatMap fun e=>cond (Region.binds .any e) (e.on::(acc.getD e.on [])) []]).length+m=acc.length+(m+1) by simp;omega]at this
  exact this
def TA(ops:Array Oper)(S:Nat→Bool):Prop:= ∀j o,ops[j]? =some o→S j=true→ ∀e∈o.after.toList,Region.binds .any e=true→S e.on=true
theorem QB(h:HQ ops=true){j:Nat}{o:Oper}(ho:ops[j]? =some o){e:Edge}(he:e∈o.after.toList)(hb:Region.binds .any e=true):e.on<j:=by
 unfold HQ at h;rw[List.all_eq_true]at h;have hj:j<ops.size:=(Array.getElem?_eq_some_iff.1 ho).1;have:=h j (List.mem_range.2 hj);rw[ho]at this;simp only[List.all_eq_true]at this;have:=this e he;simpa[hb]using this
theorem TP(hb:HQ ops=true){S:Nat→Bool}(hS:TA ops S): ∀(j:Nat) (o:Oper),ops[j]? =some o→(∀e∈o.after.toList,Region.binds .any e=true→S e.on=true)→ ∀i∈(Df ops.toList []).getD j [],S i=true:=by
 intro j
 induction j using Nat.strongRecOn with
 |_ j ih=>
  intro o ho hr i hi;have:=TO ops.toList [] j o (by rw[Array.getElem?_toList];exact ho) (fun e he hbe=>by simpa using QB hb ho he hbe)
  simp only[List.length_nil,Nat.zero_add]at this;rw[this]at hi;obtain⟨e,he,hi⟩:=List.mem_flatMap.1 hi;cases hbe:Region.binds .any e with
  |false=>rw[hbe]at hi;cases hi
  |true=>
   rw[hbe]at hi;simp only[cond_true]at hi;rcases List.mem_cons.1 hi with rfl|hi
   ·exact hr e he hbe
   · have hlt:=QB hb ho he hbe
     have hj:j<ops.size:=(Array.getElem?_eq_some_iff.1 ho).1;have ho2:ops[e.on]? =some (ops[e.on]'(by omega)):=Array.getElem?_eq_getElem (by omega)
     exact ih e.on hlt _ ho2 (hS e.on _ ho2 (hr e he hbe)) i hi
theorem Me{a b:List Nat}(h:GB a b=true){x:Nat}(ha:x∈a):x∉b:=by
 unfold GB at h;rw[List.all_eq_true]at h;have:=h x ha;simpa using this
theorem TS{ds:List (List Nat×List Nat)}(h:Ig ops ds=true){i j:Nat}(hij:i<j){x y:Oper}(hx:ops[i]? =some x)(hy:ops[j]? =some y)(hn:i∉(Df ops.toList []).getD j []):
 ∃dx dy,ds[i]? =some dx∧ds[j]? =some dy∧x.apart ops y=true∧GB dx.2 dy.1=true∧GB dx.2 dy.2=true∧GB dy.2 dx.1=true:=by
 unfold Ig at h;have hj:j<ops.size:=(Array.getElem?_eq_some_iff.1 hy).1;simp only[List.all_eq_true]at h;have:=h j (List.mem_range.2 hj) i (List.mem_range.2 (by omega))
 rw[if_pos (by simp only[Bool.and_eq_true,decide_eq_true_eq,Bool.not_eq_true',List.contains_eq_mem,decide_eq_false_iff_not];exact⟨hij,hn⟩)]at this
 rw[hx,hy]at this;split at this
 · rename_i x' y' dx dy e1 e2 e3 e4
   injection e1 with e1
   injection e2 with e2
   subst e1;subst e2;simp only[Bool.and_eq_true]at this;exact⟨dx,dy,e3,e4,this.1.1.1,this.1.1.2,this.1.2,this.2⟩
 ·cases this
end
end Go.Proofs.YthoholbeacojfaaGreat.VR
end
section
set_option linter.unusedVariables false
set_option linter.unusedSimpArgs false
set_option linter.unusedSectionVars false
namespace Go.Proofs.YthoholbeacojfaaGreat.VR
open Go
section
variable {P:Program}{Tb:TypeId→Option TI}{tyK:Kd→TypeId}{R:Re}{H:List E}{w:World}{a:Act}{o:Oper}{oa:OA}{tm:List V}{α:Type}{r:α}{Co:Orc}
theorem cA{H':List E}{ops:Array Oper}{k:List V→Eff→Option α}(hl:HLe H H')(h:DT Tb tyK Co ops o oa tm H k=some r):DT Tb tyK Co ops o oa tm H' k=some r:=by
 unfold DT at h⊢;obtain⟨hs,h⟩:=AQ h;rw[←hl.1,hs];simp only[cond_true];split at h
 ·exact Ri hl h
 · rename_i g want hg
   split at h
   · rcases Pr h with⟨b,hb,h⟩|⟨hb,h⟩
     rotate_left
     · simp only[hb,V.asG]
       exact h
     simp only[hb,V.asG];cases b with
     |true=>
      simp only[cond_true]at h⊢;cases want with
      |true=>exact Ri hl h
      |false=>exact h
     |false=>
      simp only[cond_false]at h⊢;cases want with
      |true=>exact h
      |false=>exact Ri hl h
   ·cases h
theorem Om(keep:List Nat): ∀(tm:List V) (n s:Nat),(keepT keep n tm)[s]? =(tm[s]?).map fun v=>cond (keep.contains (n+s)) v .junk
 | [],n,s=>by simp[keepT]
 |v::tm,n,0=>by simp[keepT]
 |v::tm,n,s+1=>by
  simp only[keepT,List.getElem?_cons_succ];rw[Om keep tm,show n+1+s=n+(s+1) by omega]
theorem VRs.keepT{us:List Value}(h:VRs R H w tm us)(keep:List Nat):VRs R H w (keepT keep 0 tm) us:=by
 have hl: ∀(tm:List V) (n:Nat),(VR.keepT keep n tm).length=tm.length:=by
  intro tm
  induction tm with
  |nil=>intro n;rfl
  |cons v tm ih=>intro n;simp[VR.keepT,ih]
 refine⟨by rw[hl];exact h.1,fun i v u hv hu=> ?_⟩
 rw[Om]at hv;obtain⟨x,hx,rfl⟩:=Option.map_eq_some_iff.1 hv;cases keep.contains (0+i)with
 |true=>exact h.2 i x u hx hu
 |false=>exact .junk _
theorem dH{keep:List Nat}{tm':List V}(h: ∀s∈keep,tm[s]? =tm'[s]?)(hl:tm.length=tm'.length):keepT keep 0 tm=keepT keep 0 tm':=by
 apply List.ext_getElem?;intro s;rw[Om,Om]
 by_cases hs:s∈keep
 ·rw[h s hs]
 · have:keep.contains (0+s)=false:=by simpa using hs
   rw[this];rcases Nat.lt_or_ge s tm.length with h1|h1
   ·rw[List.getElem?_eq_getElem h1,List.getElem?_eq_getElem (by omega:s<tm'.length)];rfl
   ·rw[List.getElem?_eq_none h1,List.getElem?_eq_none (by omega)]
theorem RW(rd:List Nat): ∀(H:List E) (n s:Nat),(By H rd n)[s]? =(H[s]?).map fun v=>cond (rd.contains (n+s)) v .dead
 | [],n,s=>by simp[By]
 |v::H,n,0=>by simp[By]
 |v::H,n,s+1=>by
  simp only[By,List.getElem?_cons_succ];rw[RW rd H,show n+1+s=n+(s+1) by omega]
theorem di{rd:List Nat}{H':List E}(h: ∀s∈rd,H[s]? =H'[s]?)(hl:H.length=H'.length):By H rd 0=By H' rd 0:=by
 apply List.ext_getElem?;intro s;rw[RW,RW]
 by_cases hs:s∈rd
 ·rw[h s hs]
 · have:rd.contains (0+s)=false:=by simpa using hs
   rw[this];rcases Nat.lt_or_ge s H.length with h1|h1
   ·rw[List.getElem?_eq_getElem h1,List.getElem?_eq_getElem (by omega:s<H'.length)];rfl
   ·rw[List.getElem?_eq_none h1,List.getElem?_eq_none (by omega)]
theorem b9{ops:Array Oper}{e:Eff}{t:List V}(hT:TbOk P Tb tyK)(hC:CoOk P tyK Co)(hh:HR tyK R H w)(ht:VRs R H w tm a.tmps.toList)
 (h:DT Tb tyK Co ops o oa tm H (fun t e=>some (t,e))=some (t,e)):GOk P tyK ops o a w R H e:=by
 obtain⟨tm',e',he,_,hok⟩:=Um hT hC hh ht h;simp only[Option.some.injEq,Prod.mk.injEq]at he;obtain⟨rfl,rfl⟩:=he;exact hok
theorem aV{l:List Nat}{p p':Nat→Bool}(h: ∀x,p' x=true→p x=true){i:Nat}(hi:i∈l)(h1:p i=true)(h2:p' i=false):l.countP p'<l.countP p:=by
 induction l with
 |nil=>cases hi
 |cons x l ih=>
  rw[List.countP_cons,List.countP_cons];have hm:l.countP p'≤l.countP p:=List.countP_mono_left fun x _=>h x
  rcases List.mem_cons.1 hi with rfl|hi
  ·rw[h1,h2];simp;omega
  · have:=ih hi
    cases e:p' x with
    |true=>rw[h x e];simp;omega
    |false=>cases p x<;>simp<;>omega
variable {R0:Re}{w0:World}{lv:List V}{us:List Value}
theorem MS{ws:List (Nat×E)}{wr:List Nat}(h:KJ ws wr=true){s:Nat}(hs:DL ws s):s∈wr:=by
 obtain⟨p,hp,rfl⟩:=hs;unfold KJ at h;rw[List.all_eq_true]at h;simpa using h p hp
theorem Zm{ops:Array Oper}{bz:List (Nat×OA)}{ds:List (List Nat×List Nat)}{k:St→Option α}{Q:Exit→Act→World→Prop}(hT:TbOk P Tb tyK)(hC:CoOk P tyK Co)
 (hQ: ∀st a w,k st=some r→J tyK R0 w0 lv us st a w→Q .normal a w) (hb:HQ ops=true) (ha:Ig ops ds=true) {es:List Eff} {tm':List V} {H':List E}
 (hc:Chn Tb tyK Co ops bz 0 ops.toList ds tm H es tm' H') (hk:k ⟨tm',H'⟩=some r):
 ∀(fuel:Nat) (listed:Array Bool) (a:Act) (w:World),listed.size=ops.size→(List.range ops.size).countP (fun i=> !listed.getD i true)≤fuel→TA ops (fun m=>listed.getD m false)→
  J tyK R0 w0 lv us ⟨app tm (wts ops.toList es) (fun m=>listed.getD m false) 0,app H (wsH es) (fun m=>listed.getD m false) 0⟩ a w→wpAny P .any ops Q fuel listed a w:=by
 obtain⟨hlen1,hlen2⟩:=hc.len;have hlen1:es.length=ops.size:=by simpa using hlen1
 have hlen2:ops.size≤ds.length:=by simpa using hlen2
 have hin: ∀{listed:Array Bool} {i:Nat},listed.size=ops.size→i<ops.size→listed.getD i true=listed.getD i false:=by
  intro listed i hl hi;rw[Array.getD_eq_getD_getElem?,Array.getD_eq_getD_getElem?,Array.getElem?_eq_getElem (by omega)]
  rfl
 have hall: ∀(listed:Array Bool),listed.size=ops.size→Region.ready .any ops listed=[]→ ∀j,j<ops.size→listed.getD j false=true:=by
  intro listed hl hr j
  induction j using Nat.strongRecOn with
  |_ j ih=>
   intro hj;cases hlj:listed.getD j false with
   |true=>rfl
   |false=>
    exfalso
    have ho:ops[j]? =some ops[j]:=Array.getElem?_eq_getElem hj;have:j∈Region.ready .any ops listed:=by
     unfold Region.ready;rw[List.mem_filter];refine⟨List.mem_range.2 hj,?_⟩;rw[hin hl hj,hlj,ho];simp only[Bool.not_false,Option.map_some,Option.getD_some,Bool.true_and,Array.all_eq_true_iff_forall_mem];intro e he;cases hbe:Region.binds .any e with
     |false=>rfl
     |true=>
      have hlt:=QB hb ho (Array.mem_toList_iff.2 he) hbe;simp[ih e.on hlt (by omega)]
    rw[hr]at this;cases this
 have hdone: ∀(listed:Array Bool) (a:Act) (w:World),listed.size=ops.size→Region.ready .any ops listed=[]→
  J tyK R0 w0 lv us ⟨app tm (wts ops.toList es) (fun m=>listed.getD m false) 0,app H (wsH es) (fun m=>listed.getD m false) 0⟩ a w→Q .normal a w:=by
  intro listed a w hl hr hj;obtain⟨e1,e2⟩:=hc.end (fun m=>listed.getD m false) fun m _ hm=>hall listed hl hr m (by simpa using hm)
  rw[←e1,←e2]at hj;exact hQ _ a w hk hj
 intro fuel
 induction fuel with
 |zero=>
  intro listed a w hl hcnt hcl hj;have hr:Region.ready .any ops listed=[]:=by
   unfold Region.ready;rw[List.filter_eq_nil_iff];intro i hi hcond;have h0:(List.range ops.size).countP (fun i=> !listed.getD i true)=0:=by omega
   rw[List.countP_eq_zero]at h0;rw[Bool.and_eq_true]at hcond;exact h0 i hi hcond.1
  exact⟨hr,hdone listed a w hl hr hj⟩
 |succ fuel ih=>
  intro listed a w hl hcnt hcl hj;refine⟨fun hr=>hdone listed a w hl hr hj,fun j hj'=> ?_⟩
  unfold Region.ready at hj';rw[List.mem_filter,Bool.and_eq_true]at hj';obtain⟨hjn,hnl,hrd⟩:=hj';have hjn:=List.mem_range.1 hjn;have ho:ops[j]? =some ops[j]:=Array.getElem?_eq_getElem hjn;generalize ops[j]=o at ho;rw[ho]at hrd;simp only[Option.map_some,Option.getD_some,Array.all_eq_true_iff_forall_mem]at hrd;rw[hin hl hjn]at hnl;have hnl:listed.getD j false=false:=by simpa using hnl
  have hready: ∀e∈o.after.toList,Region.binds .any e=true→listed.getD e.on false=true:=by
   intro e he hbe;have:=hrd e (Array.mem_toList_iff.1 he);simpa[hbe]using this
  have hanc:=TP hb hcl j o ho hready;have hd0:ds[j]? =some (ds[j]'(by omega)):=List.getElem?_eq_getElem (by omega)
  generalize ds[j]'(by omega)=d at hd0
  have he0:es[j]? =some (es[j]'(by omega)):=List.getElem?_eq_getElem (by omega)
  generalize es[j]'(by omega)=e at he0
  obtain⟨t,hg,hw⟩:=hc.at j o d e (by rw[Array.getElem?_toList];exact ho) hd0 he0
  simp only[Nat.zero_add]at hg;have hpair: ∀(m:Nat) (om:Oper) (em:Eff),ops[m]? =some om→es[m]? =some em→(listed.getD m false≠decide (m<j))→m≠j→
   (∀s,DL (wt om em) s→s∉o.looksAt ops∧o.dst≠some s)∧(∀s,DL em.ws s→s∉d.1∧s∉d.2):=by
   intro m om em hom hem hne hmj;have hmn:m<ops.size:=(Array.getElem?_eq_some_iff.1 hom).1;have hdm:ds[m]? =some (ds[m]'(by omega)):=List.getElem?_eq_getElem (by omega)
   obtain⟨_,_,hwm⟩:=hc.at m om _ em (by rw[Array.getElem?_toList];exact hom) hdm hem
   by_cases hlt:m<j
   · have hSm:listed.getD m false=false:=by
      cases h:listed.getD m false with
      |false=>rfl
      |true=>rw[h]at hne;simp[hlt]at hne
     have hna:m∉(Df ops.toList []).getD j []:=fun hmem=>by
      have:=hanc m hmem;rw[hSm]at this;cases this
     obtain⟨dx,dy,e1,e2,hap,h1,h2,h3⟩:=TS ha hlt hom ho hna;rw[hd0]at e2;injection e2 with e2
     subst e2;rw[hdm]at e1;injection e1 with e1
     rw[e1]at hwm;obtain⟨p1,p2,p3⟩:=Oper.apart_spec hap;exact⟨fun s hs=>⟨p1 s (Lg hs),fun h=>p2 s (Lg hs) h⟩,fun s hs=>⟨Me h1 (MS hwm hs),Me h2 (MS hwm hs)⟩⟩
   · have hSm:listed.getD m false=true:=by
      cases h:listed.getD m false with
      |true=>rfl
      |false=>rw[h]at hne;simp[hlt]at hne
     have hna:j∉(Df ops.toList []).getD m []:=fun hmem=>by
      have:=TP hb hcl m om hom (hcl m om hom hSm) j hmem;rw[hnl]at this;cases this
     obtain⟨dx,dy,e1,e2,hap,h1,h2,h3⟩:=TS ha (show j<m by omega) ho hom hna
     rw[hd0]at e1;injection e1 with e1
     subst e1;rw[hdm]at e2;injection e2 with e2
     rw[e2]at hwm;obtain⟨p1,p2,p3⟩:=Oper.apart_spec hap;refine⟨fun s hs=>⟨p3 s (Lg hs),fun h=>p2 s h (Lg hs)⟩,fun s hs=>⟨fun h=>Me h3 (MS hwm hs) h,fun h=>Me h2 h (MS hwm hs)⟩⟩
  have hwts: ∀(m:Nat) (v:List (Nat×V)),(wts ops.toList es)[m]? =some v→ ∃(om:Oper) (em:Eff),ops[m]? =some om∧es[m]? =some em∧v=wt om em:=by
   intro m v hv;unfold wts at hv;rw[List.getElem?_map]at hv;obtain⟨p,hp,rfl⟩:=Option.map_eq_some_iff.1 hv;rw[List.getElem?_zip_eq_some]at hp;exact⟨p.1,p.2,by rw[←Array.getElem?_toList];exact hp.1,hp.2,rfl⟩
  have hwsH: ∀(m:Nat) (v:List (Nat×E)),(wsH es)[m]? =some v→ ∃(om:Oper) (em:Eff),ops[m]? =some om∧es[m]? =some em∧v=em.ws:=by
   intro m v hv;unfold wsH at hv;rw[List.getElem?_map]at hv;obtain⟨em,hp,rfl⟩:=Option.map_eq_some_iff.1 hv;have hm:m<ops.size:=by have:=(List.getElem?_eq_some_iff.1 hp).1;omega
   exact⟨_,em,Array.getElem?_eq_getElem hm,hp,rfl⟩
  have hagree: ∀m,listed.getD m false≠decide (m<j)→m≠j:=by
   rintro m h rfl;rw[hnl]at h;simp at h
  have ekeep:keepT (o.looksAt ops) 0 (app tm (wts ops.toList es) (fun m=>listed.getD m false) 0)=keepT (o.looksAt ops) 0 (app tm (wts ops.toList es) (fun m=>decide (m<j)) 0):=by
   refine dH (fun s hs=>Pp _ _ _ _ _ 0 s rfl rfl fun m v hv hh=> ?_) (by rw[KQ,KQ])
   rw[Nat.zero_add];obtain⟨om,em,h1,h2,rfl⟩:=hwts m v hv
   by_cases hne:listed.getD m false=decide (m<j)
   ·exact hne
   ·exact absurd hs (((hpair m om em h1 h2 hne (hagree m hne)).1 s hh).1)
  have emask:By (app H (wsH es) (fun m=>listed.getD m false) 0) d.1 0=By (app H (wsH es) (fun m=>decide (m<j)) 0) d.1 0:=by
   refine di (fun s hs=>Pp _ _ _ _ _ 0 s rfl rfl fun m v hv hh=> ?_) (by rw[KQ,KQ])
   rw[Nat.zero_add];obtain⟨om,em,h1,h2,rfl⟩:=hwsH m v hv
   by_cases hne:listed.getD m false=decide (m<j)
   ·exact hne
   ·exact absurd hs (((hpair m om em h1 h2 hne (hagree m hne)).2 s hh).1)
  rw[←ekeep,←emask]at hg;have hg2:=cA (HLe.mask _ _) hg;obtain⟨R,hat⟩:=hj;have hok:=b9 hT hC hat.hr (hat.tm.keepT (o.looksAt ops)) hg2;have hS': ∀m,m≠j→(listed.setIfInBounds j true).getD m false=listed.getD m false:=by
   intro m hm;rw[Array.getD_eq_getD_getElem?,Array.getD_eq_getD_getElem?,Array.getElem?_setIfInBounds,if_neg (fun h=>hm h.symm)]
  have hSj:(listed.setIfInBounds j true).getD j false=true:=by
   rw[Array.getD_eq_getD_getElem?,Array.getElem?_setIfInBounds,if_pos rfl,if_pos (by omega)]
   rfl
  have insT:app tm (wts ops.toList es) (fun m=>(listed.setIfInBounds j true).getD m false) 0=B0 (app tm (wts ops.toList es) (fun m=>listed.getD m false) 0) (wt o e):=by
   refine Pq _ _ _ _ 0 j (wt o e) ?_ (by rw[Nat.zero_add];exact hnl) (by rw[Nat.zero_add];exact hSj) (fun m hm=>hS' m (by omega)) fun m v hm hv hs s h1 h2=> ?_
   · unfold wts
     rw[List.getElem?_map,show(ops.toList.zip es)[j]? =some (o,e) by rw[List.getElem?_zip_eq_some];exact⟨by rw[Array.getElem?_toList];exact ho,he0⟩]
     rfl
   · obtain⟨om,em,h3,h4,rfl⟩:=hwts m v hv
     rw[Nat.zero_add]at hs;exact((hpair m om em h3 h4 (by rw[hs];simp;omega) (by omega)).1 s h2).2 (Lg h1)
  have insH:app H (wsH es) (fun m=>(listed.setIfInBounds j true).getD m false) 0=B0 (app H (wsH es) (fun m=>listed.getD m false) 0) e.ws:=by
   refine Pq _ _ _ _ 0 j e.ws ?_ (by rw[Nat.zero_add];exact hnl) (by rw[Nat.zero_add];exact hSj) (fun m hm=>hS' m (by omega)) fun m v hm hv hs s h1 h2=> ?_
   · unfold wsH
     rw[List.getElem?_map,he0];rfl
   · obtain⟨om,em,h3,h4,rfl⟩:=hwsH m v hv
     rw[Nat.zero_add]at hs;exact((hpair m om em h3 h4 (by rw[hs];simp;omega) (by omega)).2 s h2).2 (MS hw h1)
  have hnext: ∀R' v w',Pres R (app H (wsH es) (fun m=>listed.getD m false) 0) w R' (AJ (app H (wsH es) (fun m=>listed.getD m false) 0) e.ws) w'→HR tyK R' (AJ (app H (wsH es) (fun m=>listed.getD m false) 0) e.ws) w'→
   VR R' (AJ (app H (wsH es) (fun m=>listed.getD m false) 0) e.ws) w' e.v v→wpAny P .any ops Q fuel (listed.setIfInBounds j true) (a.put o.dst v) w':=by
   intro R' v w' hp hr hv;refine ih _ _ _ (by simp[hl]) ?_ ?_ ?_
   · have:(List.range ops.size).countP (fun i=> !(listed.setIfInBounds j true).getD i true)<(List.range ops.size).countP (fun i=> !listed.getD i true):=by
      refine aV (i:=j) (fun x hx=> ?_) (List.mem_range.2 hjn) (by rw[hin hl hjn,hnl];rfl) (by rw[hin (by simp[hl]) hjn,hSj];rfl)
      by_cases hxj:x=j
      · subst hxj
        rw[hin (by simp[hl]) hjn,hSj]at hx
        cases hx
      · have e:(listed.setIfInBounds j true).getD x true=listed.getD x true:=by
         rw[Array.getD_eq_getD_getElem?,Array.getD_eq_getD_getElem?,Array.getElem?_setIfInBounds,if_neg (fun h=>hxj h.symm)]
        have hx:(!(listed.setIfInBounds j true).getD x true)=true:=hx;rw[e]at hx;exact hx
     omega
   · intro m om hom hm e' he' hbe
     have hmono: ∀x,listed.getD x false=true→(listed.setIfInBounds j true).getD x false=true:=by
      intro x hx
      by_cases hxj:x=j
      ·subst hxj;exact hSj
      ·rw[hS' x hxj];exact hx
     by_cases hmj:m=j
     · subst hmj
       rw[ho]at hom;injection hom with hom
       subst hom;exact hmono _ (hready e' he' hbe)
     · have hm:(listed.setIfInBounds j true).getD m false=true:=hm
       rw[hS' m hmj]at hm;exact hmono _ (hcl m om hom hm e' he' hbe)
   · rw[insT,insH,←WH,←WI]
     exact⟨R',hat.next hat.tm hp hr hv⟩
  unfold wpOp;rw[ho];simp only;have:=hok _ Q hnext;split
  · rename_i hwt
    rw[if_pos hwt]at this;exact .inl this
  · rename_i hwt
    rw[if_neg hwt]at this;exact this
theorem At.draw(h:At tyK R0 w0 lv us R tm H a w)(n:Nat):At tyK R0 w0 lv us R tm H a {w with drawn:=n}:=by
 have hp:Pres R H w R H {w with drawn:=n}:=Pres.same rfl rfl rfl rfl
 exact⟨h.step.trans hp.step,h.hr.same rfl rfl rfl rfl,h.tm.pres hp,h.lv.pres hp,h.defers⟩
theorem bE{id:Nat}{ops:Array Oper}{bz:List (Nat×OA)}{ds:List (List Nat×List Nat)}{k:St→Option α}{Q:Exit→Act→World→Prop}(hm:P.follows .mixedOrders=true)(hT:TbOk P Tb tyK)(hC:CoOk P tyK Co)
 (hQ: ∀st a w,k st=some r→J tyK R0 w0 lv us st a w→Q .normal a w) (hb:HQ ops=true) (ha:Ig ops ds=true) (h:FV Tb tyK Co ops bz 0 ops.toList ds tm H k=some r)
 (hj:J tyK R0 w0 lv us ⟨tm,H⟩ a w):(Code.region id ops true).wp P Q a w:=by
 obtain⟨es,tm',H',hc,hk⟩:=Tq ops.toList 0 ds tm H h;refine wp_region_any hm (Zm hT hC hQ hb ha hc hk ops.size _ _ _ (by simp) ?_ ?_ ?_)
 ·exact Nat.le_trans (List.countP_le_length) (by simp)
 · intro m o ho hm
   exfalso
   simp only[Array.getD_eq_getD_getElem?,Array.getElem?_replicate]at hm;split at hm<;>cases hm
 · have e: ∀m,(Array.replicate ops.size false).getD m false=false:=by
    intro m;rw[Array.getD_eq_getD_getElem?];simp only[Array.getElem?_replicate];split<;>rfl
   rw[KP _ tm _ 0 (fun m _=>e m),KP _ H _ 0 (fun m _=>e m)]
   obtain⟨R,hat⟩:=hj;exact⟨R,hat.draw _⟩
end
end Go.Proofs.YthoholbeacojfaaGreat.VR
end
section
set_option linter.unusedVariables false
set_option linter.unusedSimpArgs false
set_option linter.unusedSectionVars false
namespace Go.Proofs.YthoholbeacojfaaGreat.VR
open Go
section
variable {P:Program}{Tb:TypeId→Option TI}{tyK:Kd→TypeId}{R:Re}{H:List E}{w:World}{a:Act}{tm:List V}
theorem MD(bad:List Nat): ∀(H:List E) (n:Nat),(Cf bad n H).length=H.length
 | [],n=>rfl
 |e::H,n=>by simp[Cf,MD bad H]
theorem Le(bad:List Nat): ∀(H:List E) (n s:Nat),AE (Cf bad n H) s=if(n+s)∈bad then .fresh else AE H s
 | [],n,s=>by simp only[Cf,AE,List.getD_nil];split<;>rfl
 |e::H,n,0=>by
  simp only[Cf,AE,List.getD_cons_zero,Nat.add_zero]
  by_cases h:n∈bad
  · have:bad.contains n=true:=by simpa using h
    rw[this,if_pos h];rfl
  · have:bad.contains n=false:=by simpa using h
    rw[this,if_neg h];rfl
 |e::H,n,s+1=>by
  have:=Le bad H (n+1) s;simp only[Cf,AE,List.getD_cons_succ]at this⊢;rw[this,show n+1+s=n+(s+1) by omega]
theorem Hm(bad:List Nat): ∀(n:Nat) (vs:List V),V.free.go bad n vs=true→ ∀(i:Nat) (v:V),vs[i]? =some v→ ∃m,V.free bad m v=true
 |0,vs,h,i,v,hv=>by simp[V.free.go]at h
 |n+1,[],h,i,v,hv=>by simp at hv
 |n+1,x::xs,h,i,v,hv=>by
  simp only[V.free.go,Bool.and_eq_true]at h;cases i with
  |zero=>simp at hv;subst hv;exact⟨n,h.1⟩
  |succ i=>exact Hm bad n xs h.2 i v (by simpa using hv)
theorem Ua(bad:List Nat): ∀(H:List E) (n:Nat),Ey bad n H=true→ ∀(s:Nat) (cs:List V),AE H s=.box cs→(n+s)∈bad∨V.free.go bad 60 cs=true
 | [],n,h,s,cs,e=>by simp[AE]at e
 |e'::H,n,h,0,cs,e=>by
  simp only[Ey,Bool.and_eq_true]at h;simp[AE]at e;subst e
  by_cases hb:n∈bad
  ·exact .inl hb
  · right
    have:bad.contains n=false:=by simpa using hb
    have h1:=h.1;rw[this]at h1;exact h1
 |e'::H,n,h,s+1,cs,e=>by
  simp only[Ey,Bool.and_eq_true]at h;rw[show n+(s+1)=n+1+s by omega]
  exact Ua bad H (n+1) h.2 s cs (by simpa[AE]using e)
theorem VR.reset{bad:List Nat}{v:V}{u:Value}(h:VR R H w v u): ∀n,V.free bad n v=true→VR R (Cf bad 0 H) w v u:=by
 have gs: ∀s,s∉bad→AE (Cf bad 0 H) s=AE H s:=fun s hs=>by rw[Le,Nat.zero_add,if_neg hs]
 induction h with
 |int n=>exact fun _ _=>.int n
 |u8 n=>exact fun _ _=>.u8 n
 |bool b=>exact fun _ _=>.bool b
 |str s=>exact fun _ _=>.str s
 |nil=>exact fun _ _=>.nil
 |emp A=>exact fun _ _=>.emp A
 |ro p k xs v hr=>exact fun _ _=>.ro p k xs v hr
 |rp cs j b o u hT hc hv ih=>
  intro n hn;cases n with
  |zero=>cases hn
  |succ n=>
   simp only[V.free]at hn;exact .rp cs j b o u hT hc fun i c hi=>by obtain⟨m,hm⟩:=Hm bad n cs hn i c hi;exact ih i c hi m hm
 |bor r v h1 h0 hv=>
  intro n hn;cases n with
  |zero=>cases hn
  |succ n=>
   have hr:r∉bad:=by simpa[V.free]using hn
   exact .bor r v h1 (by rw[gs r hr];exact h0) (by rw[gs r hr];exact hv)
 |borN r i j v h1 h0 hv=>
  intro n hn;cases n with
  |zero=>cases hn
  |succ n=>
   have hr:r∉bad:=by simpa[V.free]using hn
   exact .borN r i j v h1 (by rw[gs r hr];exact h0) (by rw[gs r hr];exact hv)
 |ptr b j h0=>
  intro n hn;cases n with
  |zero=>cases hn
  |succ n=>
   have hr:b∉bad:=by simpa[V.free]using hn
   exact .ptr b j (by rw[gs b hr];exact h0)
 |ep r i j v h1 h0 hv=>
  intro n hn;cases n with
  |zero=>cases hn
  |succ n=>
   have hr:r∉bad:=by simpa[V.free]using hn
   exact .ep r i j v h1 (by rw[gs r hr];exact h0) (by rw[gs r hr];exact hv)
 |sub r lo hi v h1 h0 hv=>
  intro n hn;cases n with
  |zero=>cases hn
  |succ n=>
   have hr:r∉bad:=by simpa[V.free]using hn
   exact .sub r lo hi v h1 (by rw[gs r hr];exact h0) (by rw[gs r hr];exact hv)
 |agg vs us hl _ ih=>
  intro n hn;cases n with
  |zero=>cases hn
  |succ n=>
   simp only[V.free]at hn;exact .agg vs us hl fun i v u hv hu=>by obtain⟨m,hm⟩:=Hm bad n vs hn i v hv;exact ih i v u hv hu m hm
 |tup vs us hl _ ih=>
  intro n hn;cases n with
  |zero=>cases hn
  |succ n=>
   simp only[V.free]at hn;exact .tup vs us hl fun i v u hv hu=>by obtain⟨m,hm⟩:=Hm bad n vs hn i v hv;exact ih i v u hv hu m hm
 |clo f vs us hl _ ih=>
  intro n hn;cases n with
  |zero=>cases hn
  |succ n=>
   simp only[V.free]at hn;exact .clo f vs us hl fun i v u hv hu=>by obtain⟨m,hm⟩:=Hm bad n vs hn i v hv;exact ih i v u hv hu m hm
 |junk v=>exact fun _ _=>.junk v
 |und=>exact fun _ _=>.und
 |em b A cap h=>exact fun _ _=>.em b A cap h
 |jc v h=>exact fun _ _=>.jc v h
theorem VRs.reset{bad:List Nat}{vs:List V}{us:List Value}(h:VRs R H w vs us){n:Nat}(hf:V.free.go bad n vs=true):VRs R (Cf bad 0 H) w vs us:=
 ⟨h.1,fun i v u hv hu=>by obtain⟨m,hm⟩:=Hm bad n vs hf i v hv;exact(h.2 i v u hv hu).reset m hm⟩
theorem HR.reset(hh:HR tyK R H w){bad:List Nat}(hf:Ey bad 0 H=true):HR tyK R (Cf bad 0 H) w:=by
 refine⟨fun s hs=> ?_,hh.none_⟩
 rw[MD]at hs;rw[Le,Nat.zero_add];split
 ·trivial
 · rename_i hb
   have:=hh.at_ s hs;cases e:AE H s with
   |fresh=>trivial
   |dead=>trivial
   |root k xs ho=>rw[e]at this;exact this
   |box cs=>
    rw[e]at this;obtain⟨e',us,h1,h2,h3,h4⟩:=this;rcases Ua bad H 0 hf s cs e with h5|h5
    ·rw[Nat.zero_add]at h5;exact absurd h5 hb
    ·exact⟨e',us,h1,h2,h3,fun i c u hc hu=>⟨by obtain⟨m,hm⟩:=Hm bad 60 cs h5 i c hc;exact(h4 i c u hc hu).1.reset m hm,(h4 i c u hc hu).2⟩⟩
variable {R0:Re}{w0:World}{lv:List V}{us:List Value}
theorem At.reset(h:At tyK R0 w0 lv us R tm H a w){bad:List Nat}{n m:Nat}(h1:V.free.go bad n tm=true)(h2:Ey bad 0 H=true)(h3:V.free.go bad m lv=true):At tyK R0 w0 lv us R tm (Cf bad 0 H) a w:=
 ⟨h.step,h.hr.reset h2,h.tm.reset h1,h.lv.reset h3,h.defers⟩
theorem Z8(hh:HR tyK R H w){b:Nat}{cs:List V}(e:AE H b=.box cs)(j:Nat){v:V}(hv: ∀(e:TypeId) (us:Array Value) (u:Value),w.heap[R.β b]? =some (.cells us e (0,0))→us[j]? =some u→VR R H w v u):
 Pres R H w R (H.set b (.box (cs.set j v))) w∧HR tyK R (H.set b (.box (cs.set j v))) w:=by
 have h0:AE H b≠ .fresh:=by rw[e];exact fun h=>by cases h
 have hlt:=BO h0;have hp:Pres R H w R (H.set b (.box (cs.set j v))) w:=by
  refine⟨Step.refl R w,fun s hs=> ?_,fun _ _=>rfl,fun s k xs' ho' hs e2=> ?_⟩
  · rw[C8];split
    ·exact fun h=>by cases h
    ·exact hs
  · rw[C8]at e2
    split at e2
    ·cases e2
    ·exact⟨xs',ho',e2,rfl,rfl,fun h=>⟨h,fun _ _ _ _ _ _ _ _=>rfl⟩⟩
 refine⟨hp,hh.next hp (by simp) (fun s hs=> ?_) hh.none_⟩
 by_cases hbs:b=s
 · subst hbs
   refine .inr ?_;rw[Bo hlt];have:=hh.at_ b hlt;rw[e]at this;obtain⟨e',us,h1,h2,h3,h4⟩:=this;refine⟨e',us,h1,h2,by simpa using h3,fun i c u hc hu=> ?_⟩
   rw[List.getElem?_set]at hc;split at hc
   · rename_i hij
     subst hij;split at hc
     · rename_i hj
       injection hc with hc
       subst hc;have h5:=h4 j cs[j] u (List.getElem?_eq_getElem hj) hu;exact⟨(hv e' us u h1 hu).pres hp,h5.2⟩
     ·cases hc
   ·exact⟨(h4 i c u hc hu).1.pres hp,(h4 i c u hc hu).2⟩
 ·exact .inl ⟨D5 hbs,fun g t ht _=>⟨ht,rfl⟩⟩
theorem At.pres(h:At tyK R0 w0 lv us R tm H a w){R':Re}{H':List E}(hp:Pres R H w R' H' w)(hr:HR tyK R' H' w):At tyK R0 w0 lv us R' tm H' a w:=
 ⟨h.step.trans hp.step,hr,h.tm.pres hp,h.lv.pres hp,h.defers⟩
theorem pP(hh:HR tyK R H w){r s:Nat}{q:Kd}{xs:List q.T}{ho:Ho}(er:AE H r=.root q xs ho)(hw:ho.whole=true)(es:AE H s=.fresh)(hs:s<H.length):
 ∃R',Pres R H w R' ((H.set r .dead).set s (.root q xs .ok)) w∧HR tyK R' ((H.set r .dead).set s (.root q xs .ok)) w∧R'.ρ s=R.ρ r:=by
 have hal:AE H r≠ .fresh:=by rw[er];exact fun h=>by cases h
 have hws: ∀p∈ [(r,E.dead)],p.2=.dead∧AE H p.1≠ .fresh:=fun p hp=>by simp at hp;subst hp;exact⟨rfl,hal⟩
 have hg:Grew R w w (fun s'=> ∃p∈ [(r,E.dead)],p.1=s'):=Grew.refl _ _ _
 have htag: ∀g t,R.T g=some t→(R.turn w w (CX r s) s (R.ρ r)).T g=some (CX r s t):=by
  intro g t ht;show(if g<w.heap.size then(R.T g).map (CX r s)else _)=_
  rw[if_pos (IQ hh ht),ht];rfl
 have hnew:=IB (s:=s) (k:=q) (xs:=xs) (ho:=.ok) (v:=R.ρ r) (H1:=AJ H [(r,.dead)]) (f:=CX r s) hh hs es hg rfl
  (fun s' t hc _ hof=>Ls hof (fun e=>hc ⟨(r,.dead),by simp,e.symm⟩)) (EE _ H) (fun s' hc=>EU fun p hp e=>hc ⟨p,hp,e⟩)
  (P7 hws)
  ((Bq hh er).retag hw (fun g hg=>by rw[htag g _ hg];simp[CX]) (fun g i j hg=>by rw[htag g _ hg];simp[CX]))
  (fun s' hc hp=>by
    obtain⟨p,hp',rfl⟩:=hc;rw[Hn (fun p hp=>(hws p hp).1) ⟨p,hp',rfl⟩ (BO (hws p hp').2)]
    trivial)
 exact⟨_,hnew.1,hnew.2,Ds _ _ _⟩
theorem pO(hh:HR tyK R H w){s:Nat}(q:Kd)(A:Option Addr)(es:AE H s=.fresh)(hs:s<H.length):
 ∃R',Pres R H w R' (H.set s (.root q [] .ok)) w∧HR tyK R' (H.set s (.root q [] .ok)) w∧R'.ρ s=.slice A 0 0:=by
 have hnew:=IB (s:=s) (k:=q) (xs:=[]) (ho:=.ok) (v:=.slice A 0 0) (H1:=H) (f:=id) (Ch:=fun _=>False) hh hs es (Grew.refl _ _ _) rfl
  (fun _ _ _ _ _=>rfl) rfl (fun _ _=>rfl) (fun _ hc=>hc.elim) (.inl ⟨A,rfl,rfl⟩) (fun _ hc _=>hc.elim)
 exact⟨_,hnew.1,hnew.2,Ds _ _ _⟩
end
end Go.Proofs.YthoholbeacojfaaGreat.VR
end
