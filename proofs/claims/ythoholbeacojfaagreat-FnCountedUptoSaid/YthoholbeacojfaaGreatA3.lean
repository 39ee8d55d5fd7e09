/- Slices: made of a length, cut in place; elements stored. -/
import Derived.Test.YthoholbeacojfaaGreatA2
set_option linter.unusedVariables false
set_option linter.unusedSimpArgs false
set_option linter.unusedSectionVars false
section
set_option linter.unusedVariables false
set_option linter.unusedSimpArgs false
set_option linter.unusedSectionVars false
namespace Go.Proofs.YthoholbeacojfaaGreat.VR
open Go
section
variable {P:Program}{Tb:TypeId→Option TI}{tyK:Kd→TypeId}{R:Re}{H:List E}{w:World}{a:Act}{o:Oper}{oa:OA}{tm:List V}{α:Type}{r:α}{Co:Orc}{k:Eff→Option α}
variable (hT:TbOk P Tb tyK)(hh:HR tyK R H w)(ht:VRs R H w tm a.tmps.toList)
include hT hh ht
theorem fG{t:TypeId}{x y:Operand}{q0 i j:Nat}(hx0:ev tm x=.ep q0 i j)(ho:o.op=.store t x y)(h:opK Tb tyK Co o oa tm H k=some r):Aa P tyK o a w R H k r:=by
 simp only[opK,ho]at h;have hx:=A6 ht x;have hy:=A6 ht y;split at h
 · rename_i ti htb
   obtain⟨h1,h⟩:=AQ h;simp only[Bool.and_eq_true,decide_eq_true_eq]at h1;obtain⟨h1,h2⟩:=h1;rw[hx0]at h hx;simp only at h;split at h
   · rename_i q xs ho' e2
     obtain⟨⟨cs,ws⟩,hcs,h⟩:=Option.bind_eq_some_iff.1 h;obtain⟨h3,h⟩:=AQ h;simp only[Bool.and_eq_true,decide_eq_true_eq]at h3;obtain⟨⟨h3,h4⟩,h5⟩:=h3;obtain⟨x',hof,h⟩:=Option.bind_eq_some_iff.1 h;obtain⟨ho2,hho,hK⟩:=Ho.store_spec h;obtain⟨h6,h7⟩:=hy.cells h2;have hrel:=PX (R:=R) (w:=w) _ H _ cs ws h6 hcs h3;obtain⟨hi,g,n,cap,hr,ex⟩:=hx.ep_inv e2;obtain⟨w',R',hrun,hp,hR⟩:=tO (P:=P) hh e2 hi hrel h4 hof hho h7 hr;have hsz:(a.eval y).cells.size=ti.size:=by rw[←Array.length_toList,←h6.1,h1]
     refine⟨_,hK,Cj.skip (w':=w') (R':=R') ?_ hp hR rfl⟩;have:=YH hT hh ht htb hsz hrun;simp[execOp,ho,ex,Instr.storeAt,Instr.sureAddr,this]
   ·cases h
 ·cases h
theorem ei{t:TypeId}{x y:Operand}(hs: ∀s q,oa=.slot s q→s<H.length)(ho:o.op=.makeSlice t x y)(h:opK Tb tyK Co o oa tm H k=some r):Aa P tyK o a w R H k r:=by
 simp only[opK,ho]at h;split at h
 · rename_i s q e z1 z2 z3 htb
   have hlt:=hs s q rfl;obtain⟨hun,_⟩:=hT.inf _ _ htb;split at h
   · rename_i hf
     obtain⟨m,e1,h⟩:=KR h;obtain⟨m2,e2,h⟩:=KR h;obtain⟨h1,hK⟩:=AQ h;simp only[Bool.and_eq_true,decide_eq_true_eq]at h1;obtain⟨⟨⟨hk,rfl⟩,h0⟩,h3⟩:=h1;have hx:=A6 ht x;have hy:=A6 ht y;rw[e1]at hx;rw[e2]at hy;have hx:=hx.int_inv;have hy:=hy.int_inv;obtain⟨n,rfl⟩:=Int.eq_ofNat_of_zero_le h0;have h3':n≤1073741824:=by unfold lim at h3;omega
     obtain⟨rfl,hsz⟩:=Ol hT hk;obtain⟨ti,inf,htk,hsz2,hi,hz,hsi,hby,hzs,hb17⟩:=Ec (P:=P) hT hsz;have hbytes:inf.bytes*n≤281474976710656:=by
      have:=Nat.mul_le_mul hb17 h3';rw[←hby]at this;omega
     obtain⟨w',hrun,hrow,hgr⟩:=run_make_full (P:=P) w 0 t (tyK q) inf ti.zero q.size hun hi hz hsi .i64 .i64 n hbytes (by simp only[maxLen];omega) (Nat.zero_le _)
     have hblk: ∀g,g<w.heap.size→w'.heap[g]? =w.heap[g]? :=fun g hg=>hgr.block g hg (by simp)
     have hsz':w.heap.size<w'.heap.size:=(hrow.lt w.heap.size rfl).2;have hw:Grew R w w' (fun _=>False):=⟨hgr.os,hgr.tape,hgr.output,hgr.size,fun g hg _=>hblk g hg⟩
     have hz':=hT.zero q ti htk hsz2;have hget: ∀m,m<n*q.size→ ∃c u,(q.cells q.dflt)[m % q.size]? =some c∧(madeCells ti.zero.cells (n*q.size)).toList[m]? =some u∧Bc c u:=by
      intro m hm;have hl:(q.cells q.dflt).length=q.size:=q.cells_length _;have hlt2:m % q.size<(q.cells q.dflt).length:=by rw[hl];exact Nat.mod_lt _ q.size_pos
      obtain⟨u,hu,hs'⟩:=hz' _ _ (List.getElem?_eq_getElem hlt2);refine⟨_,u,List.getElem?_eq_getElem hlt2,?_,hs'⟩;rw[Array.getElem?_toList]at hu⊢;simp only[madeCells,Array.getElem?_map,Array.getElem?_range,hm,hzs,if_true,Option.map_some];rw[getElem!_def,hu]
     have hnew:=IB (s:=s) (k:=q) (xs:=List.replicate n q.dflt) (ho:=.ok) (v:=.slice (some ⟨w.heap.size,0,none⟩) n n) (H1:=H) (f:=id) hh hlt hf hw rfl
      (fun _ _ _ _ _=>rfl) rfl (fun _ _=>rfl) (fun _ hc=>hc.elim)
      (.inr ⟨(madeCells ti.zero.cells (n*q.size)).toList,by rw[List.length_replicate];exact hrow,fun g hg=>by
        simp[Value.ownBlock]at hg;subst hg;show(if w.heap.size<w.heap.size then _ else if w.heap.size<w'.heap.size then _ else _)=_
        rw[if_neg (by omega),if_pos hsz'],fun u hu=>by
         obtain⟨m,hm,rfl⟩:=List.getElem_of_mem hu;have hm':m<n*q.size:=by simpa[size_madeCells]using hm
         obtain⟨c,u',_,h8,h9⟩:=hget m hm';rw[List.getElem?_eq_getElem hm]at h8;injection h8 with h8
         rw[h8];exact h9.one,fun i x hx j c hc _=>by
         have hi:i<n:=by have:=(List.getElem?_eq_some_iff.1 hx).1;simpa using this
         have hx':x=q.dflt:=by
          have:=List.mem_of_getElem? hx;exact(List.mem_replicate.1 this).2
         subst hx';have hj:j<q.size:=by rw[←q.cells_length q.dflt];exact(List.getElem?_eq_some_iff.1 hc).1
         have hm:i*q.size+j<n*q.size:=by
          have:=Nat.mul_le_mul_right q.size (show i+1≤n by omega)
          rw[Nat.add_mul]at this;omega
         obtain⟨c',u,h8,h9,h10⟩:=hget _ hm;rw[show(i*q.size+j) % q.size=j by rw[Nat.add_comm,Nat.add_mul_mod_self_right,Nat.mod_eq_of_lt hj],hc]at h8
         injection h8 with h8
         subst h8;exact⟨u,h9,h10.own⟩⟩)
      (fun _ hc _=>hc.elim)
     refine⟨_,hK,Cj.value (v:=.slice (some ⟨w.heap.size,0,none⟩) n n) (w':=w') (R':=R.turn w w' id s (.slice (some ⟨w.heap.size,0,none⟩) n n)) ?_ ?_ ?_ ?_⟩
     ·simp[execOp,ho,hx,hy,hrun]
     ·exact hnew.1
     ·exact hnew.2
     · refine .bor s _ rfl (by show AE (H.set s _) s≠_;rw[Bo hlt];exact fun h=>by cases h) fun k' xs' ho' _=> ?_
       exact(Ds _ _ _).symm
   ·cases h
 ·cases h
theorem fE{t:TypeId}{x:Operand}{lo hi mx:Option Operand}{q0:Nat}(hx0:ev tm x=.bor q0)(hs: ∀s q,oa=.slot s q→s<H.length)(ho:o.op=.slice t x lo hi mx)
 (h:opK Tb tyK Co o oa tm H k=some r):Aa P tyK o a w R H k r:=by
 simp only[opK,ho]at h;have hx:=A6 ht x;rw[hx0]at h hx;split at h
 · rename_i e z1 z2 z3 htb
   obtain⟨hun,_⟩:=hT.inf _ _ htb;split at h
   · simp only at h
     split at h
     · rename_i s q1 q xs ho' e2
       have hlt:=hs s q1 rfl;split at h
       · rename_i hf
         obtain⟨m,hm,h⟩:=Dp ht h;obtain⟨h1,hK⟩:=AQ h;simp only[Bool.and_eq_true,decide_eq_true_eq,Bool.not_eq_true']at h1;obtain⟨⟨⟨⟨hsz,hnn⟩,hwh⟩,h2⟩,h3⟩:=h1;obtain⟨ti,inf,_,_,hi2,_,hsi,_⟩:=Ec (P:=P) hT hsz;obtain⟨n,rfl⟩:=Int.eq_ofNat_of_zero_le h2;have h3:n≤xs.length:=by omega
         have ev':=hx.bor_inv e2;have hne:q0≠s:=by rintro rfl;rw[e2]at hf;cases hf
         have hown:=Bq hh e2;have hal:AE H q0≠ .fresh:=by rw[e2];exact fun h=>by cases h
         obtain⟨A,cap,eA,hcap⟩: ∃A cap,R.ρ q0=.slice A xs.length cap∧xs.length≤cap:=by
          rcases hown with⟨A,h5,h6⟩|⟨flat,h5,_⟩
          ·subst h6;exact⟨A,0,h5,Nat.le_refl _⟩
          · rcases h5.2 with⟨h6,h7⟩|⟨g,cap,cur,h6,_,_,h7,_⟩
            ·exact⟨none,0,by rw[h6,h7],by rw[h7];exact Nat.le_refl _⟩
            ·exact⟨_,cap,h6,h7⟩
         have hb:=MF (P:=P) (w:=w) (b:=true) (len:=xs.length) (cap:=cap) (lo:=none) (hi:=hi) (l:=0) (h:=(n:Int)) (.inl ⟨rfl,rfl⟩) hm (by omega) (by omega) (by omega)
         simp only[Int.toNat_zero,Int.toNat_natCast]at hb
         let v:Value:=.slice (if cap=0 then A else A.map (·.add 0)) n cap
         have hrun:(execOp a.eval o).run P w=.ok (.value v) w:=by
          simp[execOp,ho,ev',eA,Instr.sliceAt,run_underlying hun,Instr.slice,hb,sizeOf,typeInfo,hi2,hsi,v];simp at hb;simp[hb]
         have hv:v=.slice A n cap:=by
          simp only[v,Value.slice.injEq,and_true];split
          ·rfl
          · cases A with
            |none=>rfl
            |some aa=>
             rcases hown with⟨A',h5,h6⟩|⟨flat,h5,_⟩
             · rw[eA]at h5
               injection h5 with h5 h6' h7
               omega
             · rcases h5.2 with⟨h6,h7⟩|⟨g,cap',cur,h6,_⟩
               ·rw[eA]at h6;cases h6
               · rw[eA]at h6
                 injection h6 with h6 _ _
                 rw[h6];rfl
         rw[hv]at hrun;have hws: ∀p∈ [(q0,E.dead)],p.2=.dead∧AE H p.1≠ .fresh:=fun p hp=>by simp at hp;subst hp;exact⟨rfl,hal⟩
         have hw:Grew R w w (fun s'=> ∃p∈ [(q0,E.dead)],p.1=s'):=Grew.refl _ _ _
         have hxl:(xs.take n).length=n:=by simp;omega
         have hnew:=IB (s:=s) (k:=q) (xs:=xs.take n) (ho:=.ok) (v:=.slice A n cap) (H1:=AJ H [(q0,.dead)]) (f:=CX q0 s) hh hlt hf hw rfl
          (fun s' t hc _ hof=>Ls hof (fun e=>hc ⟨(q0,.dead),by simp,e.symm⟩)) (EE _ H) (fun s' hc=>EU fun p hp e=>hc ⟨p,hp,e⟩)
          (P7 hws)
          (by
            rcases hown with⟨A',h5,h6⟩|⟨flat,h5,h6,h7,h8⟩
            · subst h6
              rw[eA]at h5;injection h5 with h5 h6' h7
              subst h7;refine .inl ⟨A,?_,by simp⟩
              simp at h3;rw[h3]
            · have hfl:flat.length=xs.length*q.size:=h5.1
              have hmul:n*q.size≤xs.length*q.size:=Nat.mul_le_mul_right _ h3;refine .inr ⟨flat.take (n*q.size),?_,fun g hg=> ?_,fun u hu=>h7 u (List.mem_of_mem_take hu),fun i x hx j c hc _=> ?_⟩
              · rw[hxl]
                refine⟨by rw[List.length_take,hfl];omega,?_⟩
                rcases h5.2 with⟨h9,h10⟩|⟨g,cap',cur,h9,h10,h11,h12,h13,h14,h15⟩
                · rw[eA]at h9
                  injection h9 with h9 h9' h9''
                  subst h9;subst h9'';exact .inl ⟨by rw[show n=0 by omega],by omega⟩
                · rw[eA]at h9
                  injection h9 with h9 _ h9''
                  subst h9'';refine .inr ⟨g,cap,cur,by rw[h9],h10,h11,by omega,h13,h14,?_⟩
                  rw[←h15,List.take_take,Nat.min_eq_left hmul]
              · have h10:(R.ρ q0).ownBlock=some g:=by
                 rw[eA];cases A with
                 |none=>cases hg
                 |some aa=>exact hg
                have h11:=h6 g h10;have hgl:=IQ hh h11;show(if g<w.heap.size then(R.T g).map (CX q0 s)else _)=_
                rw[if_pos hgl,h11];simp[CX]
              · rw[List.getElem?_take]at hx
                have hi:i<n:=by
                 by_cases hc:i<n
                 ·exact hc
                 ·rw[if_neg hc]at hx;cases hx
                rw[if_pos hi]at hx;obtain⟨u,hu,hoc⟩:=h8 i x hx j c hc (Ho.not_at hwh i j);have hj:j<q.size:=by rw[←q.cells_length x];exact(List.getElem?_eq_some_iff.1 hc).1
                refine⟨u,?_,(hoc.scal_of (Lu hnn hc)).own⟩;rw[List.getElem?_take,if_pos,hu];have:=Nat.mul_le_mul_right q.size (show i+1≤n by omega)
                rw[Nat.add_mul]at this;omega)
          (fun s' hc hp=>by
            obtain⟨p,hp',rfl⟩:=hc;rw[Hn (fun p hp=>(hws p hp).1) ⟨p,hp',rfl⟩ (BO (hws p hp').2)]
            trivial)
         have hpe:AJ H [(q0,.dead),(s,.root q (xs.take n) .ok)]=(AJ H [(q0,.dead)]).set s (.root q (xs.take n) .ok):=rfl;simp only[Int.toNat_natCast]at hK;refine⟨_,hK,Cj.value (v:=.slice A n cap) (w':=w) (R':=R.turn w w (CX q0 s) s (.slice A n cap)) hrun ?_ ?_ ?_⟩
         ·rw[hpe];exact hnew.1
         ·rw[hpe];exact hnew.2
         · rw[hpe]
           refine .bor s _ rfl (by rw[Bo (by rw[EE];exact hlt)];exact fun h=>by cases h) fun k' xs' ho' _=> ?_
           exact(Ds _ _ _).symm
       ·cases h
     · rename_i q xs ho' e2
       obtain⟨l,hl,h⟩:=Dp ht h;obtain⟨hi',hhi,h⟩:=Dp ht h;obtain⟨h1,hK⟩:=AQ h;simp only[Bool.and_eq_true,decide_eq_true_eq]at h1;obtain⟨⟨⟨hsz,h2⟩,h3⟩,h4⟩:=h1;obtain⟨ti,inf,_,_,hi2,_,hsi,_⟩:=Ec (P:=P) hT hsz;have ev':=hx.bor_inv e2;have hown:=Bq hh e2;have hal:AE H q0≠ .fresh:=by rw[e2];exact fun h=>by cases h
       obtain⟨A,cap,eA,hcap⟩: ∃A cap,R.ρ q0=.slice A xs.length cap∧xs.length≤cap:=by
        rcases hown with⟨A,h5,h6⟩|⟨flat,h5,_⟩
        ·subst h6;exact⟨A,0,h5,Nat.le_refl _⟩
        · rcases h5.2 with⟨h6,h7⟩|⟨g,cap,cur,h6,_,_,h7,_⟩
          ·exact⟨none,0,by rw[h6,h7],by rw[h7];exact Nat.le_refl _⟩
          ·exact⟨_,cap,h6,h7⟩
       have hb:=MF (P:=P) (w:=w) (b:=true) (len:=xs.length) (cap:=cap) hl hhi h2 h3 (by omega)
       refine Aa.pure hh hK (v:=.slice (if cap=l.toNat then A else A.map (·.add (l.toNat*q.size))) (hi'.toNat-l.toNat) (cap-l.toNat)) ?_ (.sub _ _ _ _ rfl hal fun k' xs' ho2 e3=> ?_)
       ·simp[execOp,ho,ev',eA,Instr.sliceAt,run_underlying hun,Instr.slice,hb,sizeOf,typeInfo,hi2,hsi]
       · rw[e2]at e3
         cases e3;exact⟨by omega,by omega,A,xs.length,cap,eA,rfl⟩
     ·cases h
   · split at h
     · obtain⟨_,_,h⟩:=Dp ht h
       obtain⟨_,_,h⟩:=Dp ht h;obtain⟨_,h⟩:=AQ h;cases h
     ·cases h
 · simp only at h
   cases h
 ·cases h
omit hT ht
theorem tJ{q:Nat}{kd:Kd}{xs:List kd.T}{ho:Ho}(e:AE H q=.root kd xs ho)(hnn:kd.nests=false){lo:Nat}{ys:List kd.T}(hle:lo+ys.length≤xs.length)(hpos:0<ys.length){us:List Value}
 (hl:us.length=ys.length*kd.size) (h1: ∀u∈us,u.oneCell'=true) (hs: ∀i y,ys[i]? =some y→ ∀j c,(kd.cells y)[j]? =some c→ ∃u,us[i*kd.size+j]? =some u∧Bc c u)
 {g n cap:Nat} (hr:R.ρ q=.slice (some ⟨g,0,none⟩) n cap):
 ∃w',(storeCells ⟨g,lo*kd.size,none⟩ us).run P w=.ok () w'∧Pres R H w R (H.set q (.root kd (A5 xs lo ys) ho)) w'∧HR tyK R (H.set q (.root kd (A5 xs lo ys) ho)) w':=by
 have hq0:AE H q≠ .fresh:=by rw[e];exact(fun h=>by cases h)
 have hql:=BO hq0;have hxl:=EF xs lo ys hle;rcases Bq hh e with⟨A,_,hx⟩|⟨flat,h2,h3,h4,h5⟩
 ·subst hx;simp only[List.length_nil]at hle;omega
 obtain⟨hfl,hrow⟩:=h2;rcases hrow with⟨h6,_⟩|⟨g2,cap2,cur,h6,hb,hg,hnc,hcm,hcs,htake⟩
 ·rw[hr]at h6;cases h6
 rw[hr]at h6;simp only[Value.slice.injEq,Option.some.injEq,Addr.mk.injEq,and_true]at h6;obtain⟨rfl,rfl,rfl⟩:=h6;have hTg:=h3 g (by rw[hr];rfl)
 have hus:lo*kd.size+us.length≤xs.length*kd.size:=by rw[hl,←Nat.add_mul];exact Nat.mul_le_mul_right _ hle
 have hfit:lo*kd.size+us.length≤cur.size:=by rw[hcs];exact Nat.le_trans hus (Nat.mul_le_mul_right _ hnc)
 have hcurl:cur.toList.length=cur.size:=Array.length_toList;have hrun:=run_storeCells_at P g (lo*kd.size) (tyK kd) us 0 cur w hg (by rw[Nat.add_zero];exact hfit) h1
 simp only[Nat.add_zero]at hrun;have hw:=Turned.setRow w g (cur.toList.take (lo*kd.size)++us++cur.toList.drop (lo*kd.size+us.length)).toArray;have hg':=setRow_heap w g cur (cur.toList.take (lo*kd.size)++us++cur.toList.drop (lo*kd.size+us.length)).toArray (tyK kd) _ hg;generalize w.setRow g (cur.toList.take (lo*kd.size)++us++cur.toList.drop (lo*kd.size+us.length)).toArray=w' at hrun hw hg';have hp:Pres R H w R (H.set q (.root kd (A5 xs lo ys) ho)) w':=
  Pres.turn hh hql hq0 hTg rfl hw _ (fun h=>by cases h) fun k' xs' ho2 e2=>by
   cases e2;exact⟨xs,_,e,hxl,fun hok=>⟨hok,fun _ _ _ _ j _ hj _=>by
    obtain⟨rfl,_⟩:=G0 hj;cases hnn⟩⟩
 refine⟨w',hrun,hp,HR.turn hh hql hTg rfl hw _ hp ?_⟩;show A8 tyK R.T w' q kd (A5 xs lo ys) ho (R.ρ q);refine .inr ⟨A5 flat (lo*kd.size) us,⟨by rw[EF _ _ _ (by rw[hfl];exact hus),hfl,hxl],.inr ⟨g,cap,_,by rw[hr,hxl],Nat.zero_le _,hg',by rw[hxl];exact hnc,hcm,?_,?_⟩⟩,fun g0 hg0=>h3 g0 hg0,fun y hy=> ?_,fun i z hz j c hc hna=> ?_⟩
 · show(A5 cur.toList (lo*kd.size) us).toArray.size=_
   rw[List.size_toArray,EF _ _ _ (by rw[hcurl];exact hfit),hcurl,hcs]
 · show(A5 cur.toList (lo*kd.size) us).take ((A5 xs lo ys).length*kd.size)=_
   apply List.ext_getElem?;intro m;rw[hxl,List.getElem?_take,Br flat _ _ (by rw[hfl];exact hus)]
   by_cases c0:m<xs.length*kd.size
   · rw[if_pos c0,Br _ _ _ (by rw[hcurl];exact hfit)]
     have:flat[m]? =cur.toList[m]? :=by rw[←htake,List.getElem?_take,if_pos c0]
     rw[this]
   ·rw[if_neg c0,if_neg (by omega),if_neg (by omega),List.getElem?_eq_none (by omega)]
 · obtain⟨m,hm,rfl⟩:=List.getElem_of_mem hy
   have h6:=List.getElem?_eq_getElem hm;rw[Br _ _ _ (by rw[hfl];exact hus)]at h6
   split at h6
   ·exact h4 _ (List.mem_of_getElem? h6)
   · split at h6
     ·exact h1 _ (List.mem_of_getElem? h6)
     ·exact h4 _ (List.mem_of_getElem? h6)
 · have hjs:j<kd.size:=by rw[←kd.cells_length z];exact(List.getElem?_eq_some_iff.1 hc).1
   rw[Br _ _ _ hle]at hz;have at_: ∀a b:Nat,a<b→a*kd.size+j<b*kd.size:=fun a b hab=>by
    have:=Nat.mul_le_mul_right kd.size (show a+1≤b by omega)
    rw[Nat.add_mul]at this;omega
   have at2: ∀a b:Nat,b≤a→b*kd.size≤a*kd.size+j:=fun a b hab=>by
    have:=Nat.mul_le_mul_right kd.size hab;omega
   have old: ∀zz,xs[i]? =some zz→zz=z→ ∃u,flat[i*kd.size+j]? =some u∧Be tyK R.T w' q i j c u:=by
    rintro zz hzz rfl;obtain⟨u,hu,hoc⟩:=h5 i _ hzz j c hc hna;exact⟨u,hu,(hoc.scal_of (Lu hnn hc)).own⟩
   rw[Br _ _ _ (by rw[hfl];exact hus)]
   split at hz
   · rename_i c1
     rw[if_pos (at_ _ _ c1)];exact old _ hz rfl
   · rename_i c1
     rw[if_neg (by have:=at2 i lo (by omega);omega)]
     split at hz
     · rename_i c2
       have e3:i*kd.size+j<lo*kd.size+us.length:=by rw[hl,←Nat.add_mul];exact at_ _ _ c2
       rw[if_pos e3];obtain⟨u,hu,hsc⟩:=hs _ z hz j c hc;refine⟨u,?_,hsc.own⟩;rw[←hu]
       congr 1
       rw[Nat.sub_mul];have:=Nat.mul_le_mul_right kd.size (show lo≤i by omega)
       omega
     · rename_i c2
       rw[if_neg (by have:=at2 i (lo+ys.length) (by omega);rw[Nat.add_mul,←hl]at this;omega)]
       exact old _ hz rfl
include hT ht
theorem eT{c:Go.Call}(hc:c.callee=.builtin .clear)(ho:o.op=.call c)(h:opK Tb tyK Co o oa tm H k=some r):Aa P tyK o a w R H k r:=by
 simp only[opK,ho,hc]at h;unfold Dy at h;generalize hvs:c.args.toList.map (ev tm)=vs at h;split at h<;>first|(rename_i hq;cases hq;done)|(cases h;done)|skip
 rename_i r0 lo hi hq;generalize hts:c.argTypes.toList=ts at h;split at h
 case h_2=>cases h
 case h_1 t=>
  have hargs: ∃y,c.args= #[y]∧ev tm y=.sub r0 lo hi:=by
   have h1:c.args.toList.length=1:=by have:=congrArg List.length hvs;simpa using this
   obtain⟨y,hy⟩:=List.length_eq_one_iff.1 h1;rw[hy]at hvs;simp at hvs;exact⟨y,by apply Array.ext';rw[hy],hvs⟩
  obtain⟨y,ha,hy⟩:=hargs;have hat:c.argTypes= #[t]:=by apply Array.ext';rw[hts]
  have hv:=A6 ht y;rw[hy]at hv;split at h
  · rename_i e z1 z2 z3 q xs ho' htb e2
    obtain⟨h1,hK⟩:=AQ h;simp only[Bool.and_eq_true,decide_eq_true_eq,Bool.not_eq_true']at h1;obtain⟨⟨⟨hk,hnn⟩,hlo⟩,hhi⟩:=h1;obtain⟨hun,_⟩:=hT.inf _ _ htb;obtain⟨rfl,hsz⟩:=Ol hT hk;obtain⟨ti,inf,htk,hsz2,hi2,hz,hsi,hby,hzs,hb17⟩:=Ec (P:=P) hT hsz;obtain⟨g,cap,hr,hcl⟩: ∃g cap,R.ρ r0=.slice (some ⟨g,0,none⟩) xs.length cap∧xs.length≤cap:=by
     rcases Bq hh e2 with⟨A,h5,h6⟩|⟨flat,h5,_⟩
     ·subst h6;simp at hhi;omega
     · rcases h5.2 with⟨h6,h7⟩|⟨g,cap,cur,h6,_,_,h7,_⟩
       ·omega
       ·exact⟨_,cap,h6,h7⟩
    have eA:a.eval y=.slice (some ⟨g,lo*q.size,none⟩) (hi-lo) (cap-lo):=by
     generalize a.eval y=u at hv;cases hv with
     |sub _ _ _ _ _ _ hs=>
      obtain⟨_,_,A,n,cap',eA,ev'⟩:=hs _ _ _ e2;rw[hr]at eA;simp only[Value.slice.injEq]at eA;obtain⟨rfl,rfl,rfl⟩:=eA;rw[ev',if_neg (by omega)]
      simp[Cy]
    have hzl:(Builtin.zeroCells ti.zero.cells (hi-lo)).toList.length=(hi-lo)*q.size:=by rw[Array.length_toList,size_zeroCells,hzs]
    have hz':=hT.zero q ti htk hsz2;have hget: ∀m,m<(hi-lo)*q.size→ ∃c u,(q.cells q.dflt)[m % q.size]? =some c∧(Builtin.zeroCells ti.zero.cells (hi-lo)).toList[m]? =some u∧Bc c u:=by
     intro m hm;have hl:(q.cells q.dflt).length=q.size:=q.cells_length _;have hlt2:m % q.size<(q.cells q.dflt).length:=by rw[hl];exact Nat.mod_lt _ q.size_pos
     obtain⟨u,hu,hs'⟩:=hz' _ _ (List.getElem?_eq_getElem hlt2);refine⟨_,u,List.getElem?_eq_getElem hlt2,?_,hs'⟩;rw[Array.getElem?_toList]at hu⊢;simp only[Builtin.zeroCells,Array.getElem?_map,Array.getElem?_range,hzs,hm,if_true,Option.map_some];rw[getElem!_def,hu]
    obtain⟨w',hrun,hp,hR⟩:=tJ (P:=P) hh e2 hnn (lo:=lo) (ys:=List.replicate (hi-lo) q.dflt) (by rw[List.length_replicate];omega) (by rw[List.length_replicate];omega)
     (us:=(Builtin.zeroCells ti.zero.cells (hi-lo)).toList) (by rw[hzl,List.length_replicate])
     (fun u hu=>by
       obtain⟨m,hm,rfl⟩:=List.getElem_of_mem hu;obtain⟨c,u',_,h8,h9⟩:=hget m (by rw[←hzl];exact hm)
       rw[List.getElem?_eq_getElem hm]at h8;injection h8 with h8
       rw[h8];exact h9.one)
     (fun i z hz2 j c hc2=>by
       have hi3:i<hi-lo:=by have:=(List.getElem?_eq_some_iff.1 hz2).1;simpa using this
       have hx':z=q.dflt:=(List.mem_replicate.1 (List.mem_of_getElem? hz2)).2;subst hx';have hj:j<q.size:=by rw[←q.cells_length q.dflt];exact(List.getElem?_eq_some_iff.1 hc2).1
       have hm:i*q.size+j<(hi-lo)*q.size:=by
        have:=Nat.mul_le_mul_right q.size (show i+1≤hi-lo by omega)
        rw[Nat.add_mul]at this;omega
       obtain⟨c',u,h8,h9,h10⟩:=hget _ hm;rw[show(i*q.size+j) % q.size=j by rw[Nat.add_comm,Nat.add_mul_mod_self_right,Nat.mod_eq_of_lt hj],hc2]at h8
       injection h8 with h8
       subst h8;exact⟨u,h9,h10⟩) hr
    refine⟨_,hK,Cj.value (v:=.tuple #[]) (w':=w') (R':=R) ?_ hp hR (.tup [] [] rfl fun i v u h=>by simp at h)⟩
    have hn: ∃n,hi-lo=n+1:=⟨hi-lo-1,by omega⟩
    obtain⟨n,hn⟩:=hn;rw[hn]at hrun eA;simp[execOp,ho,resolve,hc,invoke,builtin,ha,hat,eA,Builtin.clear_,run_underlying hun,zeroValue,typeInfo,hi2,hz,hrun]
  ·cases h
end
end Go.Proofs.YthoholbeacojfaaGreat.VR
end
section
set_option linter.unusedVariables false
set_option linter.unusedSimpArgs false
set_option linter.unusedSectionVars false
namespace Go.Proofs.YthoholbeacojfaaGreat.VR
open Go
section
variable {tyK:Kd→TypeId}{R:Re}{H:List E}{w:World}{dl:List Nat}
theorem Pg{T T':Nat→Option Tag}{s i j:Nat}{c:C}{v:Value}{p:Bool}(h:Be tyK T w s i j c v)(hT: ∀g t,T g=some t→t.of s→CS p (T' g)):CR T' w p c v:=by
 cases c with
 |nest ys=>
  rcases h with⟨A,rfl,rfl⟩|⟨h1,h2⟩
  ·exact⟨A,0,rfl,Nat.le_refl _,by simp[maxLen],fun i x hx=>by simp at hx⟩
  · rcases h1.2 with⟨rfl,h3⟩|⟨g,cap,cur,rfl,_,hg,hnc,hcm,hcs,htake⟩
    ·exact⟨none,0,by rw[h3],by rw[h3];exact Nat.le_refl _,by simp[maxLen],fun i x hx=>by have:=(List.getElem?_eq_some_iff.1 hx).1;omega⟩
    · refine⟨_,cap,rfl,hnc,hcm,fun i x hx=>⟨g,0,rfl,hT g _ (h2 g rfl) rfl,?_⟩⟩
      rw[cell_of_row w g _ cur _ _ hg];have hi:=(List.getElem?_eq_some_iff.1 hx).1;have h4:(ys.map fun y=>Value.int .i64 y)[i]? =some (.int .i64 x):=by rw[List.getElem?_map,hx];rfl
      rw[←htake,List.getElem?_take,if_pos (by omega)]at h4
      simpa using h4
 |_=>exact h
theorem Xx{T T':Nat→Option Tag}{s:Nat}{k:Kd}{xs:List k.T}{ho:Ho}{v:Value}{p:Bool}(h:A8 tyK T w s k xs ho v)(hw:ho.whole=true)(hT: ∀g t,T g=some t→t.of s→CS p (T' g)):
 CU T' w p k xs v:=by
 rcases h with⟨A,rfl,rfl⟩|⟨flat,h1,h2,h3,h4⟩
 ·exact⟨A,0,rfl,Nat.le_refl _,by simp[maxLen],fun i x hx=>by simp at hx⟩
 · rcases h1.2 with⟨rfl,h5⟩|⟨g,cap,cur,rfl,_,hg,hnc,hcm,hcs,htake⟩
   ·exact⟨none,0,by rw[h5],by rw[h5];exact Nat.le_refl _,by simp[maxLen],fun i x hx=>by have:=(List.getElem?_eq_some_iff.1 hx).1;omega⟩
   · refine⟨_,cap,rfl,hnc,hcm,fun i x hx=>⟨g,0,rfl,hT g _ (h2 g rfl) rfl,fun j c hj=> ?_⟩⟩
     obtain⟨u,hu,hoc⟩:=h4 i x hx j c hj (Ho.not_at hw i j);refine⟨u,?_,Pg hoc hT⟩;rw[Nat.zero_add,cell_of_row w g _ cur _ _ hg];rw[←htake,List.getElem?_take]at hu;split at hu
     ·simpa using hu
     ·cases hu
def E.whole:E→Bool
 | .root _ _ h=>h.whole
 | .box _=>true
 |_=>false
structure FzFit(R:Re)(H:List E)(Rc:Re):Prop where
 none_: ∀g,R.T g=none→Rc.T g=none
 froz: ∀g,R.T g=some .frozen→Rc.T g=some .frozen
 slot: ∀g t s,R.T g=some t→t.of s→(AE H s).whole=true→Rc.T g=some .frozen
theorem FzFit.ro{Rc:Re}(h:FzFit R H Rc){p:Bool}{g:Nat}(ho:CS p (R.T g)):CS p (Rc.T g):=by
 rcases ho with ho|⟨hp,ho⟩
 ·exact .inl (h.none_ g ho)
 ·exact .inr ⟨hp,h.froz g ho⟩
theorem FzFit.slot_ro{Rc:Re}(h:FzFit R H Rc){s:Nat}(hs:(AE H s).whole=true): ∀g t,R.T g=some t→t.of s→CS false (Rc.T g):=fun g t ht hof=>.inr ⟨rfl,h.slot g t s ht hof hs⟩
theorem CR.fz{Rc:Re}(h:FzFit R H Rc){p:Bool}{c:C}{u:Value}(hc:CR R.T w p c u):CR Rc.T w p c u:=by
 cases c with
 |nest xs=>
  obtain⟨A,cap,e,h1,h2,h3⟩:=hc;exact⟨A,cap,e,h1,h2,fun i x hx=>by obtain⟨b,o,ea,ho,hc⟩:=h3 i x hx;exact⟨b,o,ea,h.ro ho,hc⟩⟩
 |_=>exact hc
theorem CU.fz{Rc:Re}(h:FzFit R H Rc){p:Bool}{k:Kd}{xs:List k.T}{u:Value}(hr:CU R.T w p k xs u):CU Rc.T w p k xs u:=by
 obtain⟨A,cap,e,h1,h2,h3⟩:=hr;exact⟨A,cap,e,h1,h2,fun i x hx=>by
  obtain⟨b,o,ea,ho,hc⟩:=h3 i x hx;exact⟨b,o,ea,h.ro ho,fun j c hj=>by obtain⟨y,h4,h5⟩:=hc j c hj;exact⟨y,h4,h5.fz h⟩⟩⟩
mutual
theorem fz_rel (hh:HR tyK R H w) {Rc:Re} (hf:FzFit R H Rc) (HL:List E): ∀(n:Nat) (v v':V) (u:Value),VR R H w v u→fz dl H n v=some v'→VR Rc HL w v' u
 |0,v,v',u,hv,h=>by simp[fz]at h
 |n+1,v,v',u,hv,h=>by
  cases hv with
  |int m=>simp[fz]at h;subst h;exact .int _
  |u8 m=>simp[fz]at h;subst h;exact .u8 _
  |bool m=>simp[fz]at h;subst h;exact .bool _
  |str m=>simp[fz]at h;subst h;exact .str _
  |nil=>simp[fz]at h;subst h;exact .nil
  |emp A=>simp[fz]at h;subst h;exact .emp _
  |junk=>simp[fz]at h;subst h;exact .junk _
  |und=>simp[fz]at h
  |em=>simp[fz]at h
  |sub=>simp[fz]at h
  |jc _ h1=>simp[fz]at h;subst h;exact .jc _ h1
  |ro p k xs v hr=>simp[fz]at h;subst h;exact .ro _ _ _ _ (hr.fz hf)
  |rp cs j b o f hT hc hv'=>
   simp only[fz]at h;obtain⟨cs',hcs,h⟩:=Option.bind_eq_some_iff.1 h;injection h with h
   subst h;have hvs':=fz_go hh hf HL n cs cs' ((List.range cs.length).map f) ⟨by simp,fun i c u hi hu=>by
    have hlt:=(List.getElem?_eq_some_iff.1 hi).1;rw[List.getElem?_map,List.getElem?_range hlt]at hu;simp at hu;subst hu;exact hv' i c hi⟩ hcs
   have hlen:cs'.length=cs.length:=by have:=hvs'.1;simpa using this
   refine .rp cs' j b o f (fun i c hi=> ?_) (fun i c hi=> ?_) fun i c hi=> ?_
   all_goals have hlt:=(List.getElem?_eq_some_iff.1 hi).1;rw[hlen]at hlt
   ·exact hf.ro (hT i _ (List.getElem?_eq_getElem hlt))
   ·exact hc i _ (List.getElem?_eq_getElem hlt)
   ·exact hvs'.2 i c (f i) hi (by rw[List.getElem?_map,List.getElem?_range hlt];rfl)
  |bor r v h1 h0 hvv=>
   simp only[fz]at h;cases hdl:dl.contains r with
   |true=>rw[hdl]at h;injection h with h;subst h;exact .junk _
   |false=>
   rw[hdl]at h;simp only[cond_false]at h;split at h
   · rename_i k xs ho e
     obtain⟨hw,h⟩:=AQ h;injection h with h
     subst h;rw[hvv k xs ho e];exact .ro _ _ _ _ (Xx (Bq hh e) hw (hf.slot_ro (by rw[e];exact hw)))
   ·cases h
  |borN r i j v h1 h0 hvv=>
   simp only[fz]at h;split at h
   · rename_i k xs e
     injection h with h
     subst h;obtain⟨hi,hj,g,cap,hg,hc⟩:=hvv k xs e;obtain⟨g',cap',cur,hr',_,hTg,_,_,_,_,hcell⟩:=G5 hh e hi;rw[hg]at hr';simp only[Value.slice.injEq,Option.some.injEq,Addr.mk.injEq,and_true]at hr';obtain⟨rfl,_,rfl⟩:=hr';obtain⟨rfl,rfl⟩:=G0 hj;have hget:(row .lock xs i)[1]? =some (.nest (xs.getD i Kd.lock.dflt).Waits):=rfl;obtain⟨y,hy,hoc⟩:=hcell 1 _ hget (fun h=>h)
     rw[hc]at hy;injection hy with hy
     subst hy;have:=Sx (H:=HL) (R:=Rc) (Pg (p:=false) hoc (hf.slot_ro (by rw[e];rfl)))
     exact this
   ·cases h
  |ptr b j h0=>
   simp only[fz]at h;split at h
   · rename_i cs e
     obtain⟨cs',hcs,h⟩:=Option.bind_eq_some_iff.1 h;injection h with h
     subst h;have hb:=Px hh e;have hER:=hh.at_ b (BO h0);rw[e]at hER;obtain⟨e',us,hg,hTg,hl,hv⟩:=hER;have hvs:VRs R H w cs us.toList:=⟨by rw[Array.length_toList];exact hl.symm,fun i c u hc hu=>(hv i c u hc (by rw[←Array.getElem?_toList];exact hu)).1⟩
     have hvs':=fz_go hh hf HL n cs cs' us.toList hvs hcs;refine(by rw[Nat.zero_add]:Value.pointer (some ⟨R.β b,0+j,none⟩)=.pointer (some ⟨R.β b,j,none⟩))▸VR.rp_mk (R:=Rc) (H:=HL) (w:=w) (cs:=cs') (b:=R.β b) (q:=0) j (fun i c hc=>.inr ⟨rfl,hf.slot _ _ b hTg rfl (by rw[e];rfl)⟩) fun i c hc=> ?_
     have hlt:=(List.getElem?_eq_some_iff.1 hc).1;rw[hvs'.1]at hlt;refine⟨us.toList[i],?_,hvs'.2 i c _ hc (List.getElem?_eq_getElem hlt)⟩;rw[Nat.zero_add,cell_of_row w _ _ us e' _ hg,←Array.getElem?_toList,List.getElem?_eq_getElem hlt]
   ·cases h
  |ep r i j v h1 h0 hvv=>
   simp only[fz]at h;split at h
   · rename_i k xs ho e
     obtain⟨hw,h⟩:=AQ h;injection h with h
     subst h;obtain⟨hi,g,m,cap,hg,rfl⟩:=hvv k xs ho e;obtain⟨g',cap',cur,hr',_,hTg,_,_,_,_,hcell⟩:=G5 hh e hi;rw[hg]at hr';simp only[Value.slice.injEq,Option.some.injEq,Addr.mk.injEq,and_true]at hr';obtain⟨rfl,_,rfl⟩:=hr';refine VR.rp_mk j (fun i c hc=>.inr ⟨rfl,hf.slot _ _ r hTg rfl (by rw[e];exact hw)⟩) fun i' c hc=> ?_
     rw[List.getElem?_map]at hc;obtain⟨c0,hc0,rfl⟩:=Option.map_eq_some_iff.1 hc;obtain⟨y,hy,hoc⟩:=hcell i' c0 hc0 (Ho.not_at hw _ _);exact⟨y,hy,Sx (Pg hoc (hf.slot_ro (by rw[e];exact hw)))⟩
   ·cases h
  |agg vs us hl hr=>
   simp only[fz]at h;obtain⟨cs',hcs,h⟩:=Option.bind_eq_some_iff.1 h;injection h with h
   subst h;have:=fz_go hh hf HL n vs cs' us ⟨hl,hr⟩ hcs;exact .agg _ _ this.1 this.2
  |tup vs us hl hr=>
   simp only[fz]at h;obtain⟨cs',hcs,h⟩:=Option.bind_eq_some_iff.1 h;injection h with h
   subst h;have:=fz_go hh hf HL n vs cs' us ⟨hl,hr⟩ hcs;exact .tup _ _ this.1 this.2
  |clo f vs us hl hr=>
   simp only[fz]at h;obtain⟨cs',hcs,h⟩:=Option.bind_eq_some_iff.1 h;injection h with h
   subst h;have:=fz_go hh hf HL n vs cs' us ⟨hl,hr⟩ hcs;exact .clo _ _ _ this.1 this.2
theorem fz_go (hh:HR tyK R H w) {Rc:Re} (hf:FzFit R H Rc) (HL:List E): ∀(n:Nat) (vs vs':List V) (us:List Value),VRs R H w vs us→fz.go dl H n vs=some vs'→VRs Rc HL w vs' us
 |0,vs,vs',us,hv,h=>by simp[fz.go]at h
 |n+1,[],vs',us,hv,h=>by
  simp[fz.go]at h;subst h;have:us=[]:=by have:=hv.1;simpa using this.symm
  subst this;exact⟨rfl,fun i v u h=>by simp at h⟩
 |n+1,v::vs,vs',[],hv,h=>by have:=hv.1;simp at this
 |n+1,v::vs,vs',u::us,hv,h=>by
  obtain⟨hv1,hv2⟩:=hv.cons;simp only[fz.go]at h;obtain⟨v1,e1,h⟩:=Option.bind_eq_some_iff.1 h;obtain⟨v2,e2,h⟩:=Option.bind_eq_some_iff.1 h;injection h with h
  subst h;have h1:=fz_rel hh hf HL n v v1 u hv1 e1;have h2:=fz_go hh hf HL n vs v2 us hv2 e2;refine⟨by simp[h2.1],fun i v' u' hv' hu'=> ?_⟩
  cases i with
  |zero=>simp at hv' hu';subst hv';subst hu';exact h1
  |succ i=>exact h2.2 i v' u' (by simpa using hv') (by simpa using hu')
end
end
end Go.Proofs.YthoholbeacojfaaGreat.VR
end
section
set_option linter.unusedVariables false
set_option linter.unusedSimpArgs false
set_option linter.unusedSectionVars false
namespace Go.Proofs.YthoholbeacojfaaGreat.VR
open Go
inductive Src where
 |root (r:Nat)|nest (r i j:Nat)|box (b:Nat)
def Src.slot:Src→Nat
 | .root r=>r| .nest r _ _=>r| .box b=>b
def Src.cov:Src→Tag→Prop
 | .nest r i j,t=>t=.nest r i j
 | .root r,t=>t.of r
 | .box b,t=>t.of b
def Src.retag:Src→Nat→Tag→Tag
 | .nest _ _ _,s,_=>.slot s
 |_,s,.slot _=>.slot s
 |_,s,.nest _ i j=>.nest s i j
 |_,_,.frozen=>.frozen
structure EM where
 src:Src
 tgt:Nat
 val:Value
def EM.ok(H H':List E)(m:EM):Prop:=match m.src with
 | .root r=>(∃k xs ho,AE H r=.root k xs ho∧ho.whole=true)∧AE H' r=.dead
 | .nest r i j=> ∃k xs,AE H r=.root k xs .ok∧AE H' r=.root k xs (.hole i j)
 | .box b=>(∃cs,AE H b=.box cs)∧AE H' b=.dead
structure Ent(H H':List E)(M:List EM)(s0 s1:Nat):Prop where
 ok: ∀m∈M,m.ok H H'
 same: ∀s,(∀m∈M,m.src.slot≠s)→AE H' s=AE H s
 dist:M.Pairwise fun m m'=>m.src.slot≠m'.src.slot∧m.tgt≠m'.tgt
 rng: ∀m∈M,s0≤m.tgt∧m.tgt<s1
 len:H'.length=H.length
 le:s0≤s1
theorem Ent.nil(H:List E)(s:Nat):Ent H H [] s s:=⟨fun m hm=>(by cases hm),fun _ _=>rfl,.nil,fun m hm=>(by cases hm),rfl,Nat.le_refl _⟩
theorem EM.ok.use{H H':List E}{m:EM}(h:m.ok H H'): ∃(s:Src),m.src=s∧((AE H s.slot).whole=true)∧(AE H' s.slot).whole=false∧AE H' s.slot≠ .fresh∧AE H s.slot≠ .fresh:=by
 obtain⟨src,tgt,val⟩:=m;cases src with
 |root r=>obtain⟨⟨k,xs,ho,e,hw⟩,e2⟩:=h;exact⟨_,rfl,by simp only[Src.slot];rw[e];exact hw,by simp only[Src.slot];rw[e2];rfl,by simp only[Src.slot];rw[e2];exact(fun h=>by cases h),by simp only[Src.slot];rw[e];exact(fun h=>by cases h)⟩
 |nest r i j=>obtain⟨k,xs,e,e2⟩:=h;exact⟨_,rfl,by simp only[Src.slot];rw[e];rfl,by simp only[Src.slot];rw[e2];rfl,by simp only[Src.slot];rw[e2];exact(fun h=>by cases h),by simp only[Src.slot];rw[e];exact(fun h=>by cases h)⟩
 |box b=>obtain⟨⟨cs,e⟩,e2⟩:=h;exact⟨_,rfl,by simp only[Src.slot];rw[e];rfl,by simp only[Src.slot];rw[e2];rfl,by simp only[Src.slot];rw[e2];exact(fun h=>by cases h),by simp only[Src.slot];rw[e];exact(fun h=>by cases h)⟩
theorem EM.ok.congr{H H' H2 H2':List E}{m:EM}(h:m.ok H H')(h1:AE H2 m.src.slot=AE H m.src.slot)(h2:AE H2' m.src.slot=AE H' m.src.slot):m.ok H2 H2':=by
 obtain⟨src,tgt,val⟩:=m;cases src with
 |root r=>simp only[Src.slot]at h1 h2;obtain⟨⟨k,xs,ho,e,hw⟩,e2⟩:=h;exact⟨⟨k,xs,ho,h1.trans e,hw⟩,h2.trans e2⟩
 |nest r i j=>simp only[Src.slot]at h1 h2;obtain⟨k,xs,e,e2⟩:=h;exact⟨k,xs,h1.trans e,h2.trans e2⟩
 |box b=>simp only[Src.slot]at h1 h2;obtain⟨⟨cs,e⟩,e2⟩:=h;exact⟨⟨cs,h1.trans e⟩,h2.trans e2⟩
theorem Ent.append{H H1 H2:List E}{M1 M2:List EM}{a b c:Nat}(h1:Ent H H1 M1 a b)(h2:Ent H1 H2 M2 b c):Ent H H2 (M1++M2) a c:=by
 have hd: ∀m∈M1,∀m'∈M2,m.src.slot≠m'.src.slot:=by
  intro m hm m' hm' e;obtain⟨_,rfl,_,hw,_⟩:=(h1.ok m hm).use;obtain⟨_,rfl,hw2,_⟩:=(h2.ok m' hm').use;rw[e,hw2]at hw;cases hw
 refine⟨fun m hm=> ?_,fun s hs=> ?_,?_,fun m hm=> ?_,h2.len.trans h1.len,Nat.le_trans h1.le h2.le⟩
 · rcases List.mem_append.1 hm with hm|hm
   ·exact(h1.ok m hm).congr rfl (h2.same _ fun m' hm' e=>hd m hm m' hm' e.symm)
   ·exact(h2.ok m hm).congr (h1.same _ fun m' hm' e=>hd m' hm' m hm e).symm rfl
 ·rw[h2.same s fun m hm=>hs m (List.mem_append.2 (.inr hm)),h1.same s fun m hm=>hs m (List.mem_append.2 (.inl hm))]
 · refine List.pairwise_append.2 ⟨h1.dist,h2.dist,fun m hm m' hm'=>⟨hd m hm m' hm',?_⟩⟩
   have:=h1.rng m hm;have:=h2.rng m' hm';omega
 · rcases List.mem_append.1 hm with hm|hm
   ·have:=h1.rng m hm;have:=h2.le;omega
   ·have:=h2.rng m hm;have:=h1.le;omega
theorem Ent.one{H H':List E}{m:EM}(h:m.ok H H')(hs: ∀s,m.src.slot≠s→AE H' s=AE H s)(hl:H'.length=H.length):Ent H H' [m] m.tgt (m.tgt+1):=
 ⟨fun m' hm'=>by simp at hm';subst hm';exact h,fun s hs'=>hs s (hs' m (by simp)),List.pairwise_singleton _ _,fun m' hm'=>by simp at hm';subst hm';omega,hl,by omega⟩
section
variable {tyK:Kd→TypeId}{R:Re}{H:List E}{w:World}
theorem Ent.pres{H':List E}{M:List EM}{a b:Nat}(h:Ent H H' M a b):Pres R H w R H' w:=by
 refine⟨Step.refl R w,fun s hs=> ?_,fun _ _=>rfl,fun s k xs' ho' hs e=> ?_⟩
 · by_cases hm: ∃m∈M,m.src.slot=s
   · obtain⟨m,hm,rfl⟩:=hm
     obtain⟨_,rfl,_,_,h1,_⟩:=(h.ok m hm).use;exact h1
   ·rw[h.same s fun m hm' e=>hm ⟨m,hm',e⟩];exact hs
 · by_cases hm: ∃m∈M,m.src.slot=s
   · obtain⟨m,hm,rfl⟩:=hm
     have hok:=h.ok m hm;obtain⟨src,tgt,val⟩:=m;cases src with
     |root r=>obtain⟨_,e2⟩:=hok;simp only[Src.slot]at e;rw[e2]at e;cases e
     |box r=>obtain⟨_,e2⟩:=hok;simp only[Src.slot]at e;rw[e2]at e;cases e
     |nest r i j=>
      obtain⟨k0,xs,e1,e2⟩:=hok;simp only[Src.slot]at e⊢;rw[e2]at e;cases e;exact⟨_,.ok,e1,by first|rfl|trivial,by first|rfl|trivial,fun h=>by cases h⟩
   · rw[h.same s fun m hm' e=>hm ⟨m,hm',e⟩]at e
     exact⟨xs',ho',e,rfl,rfl,fun h=>⟨h,fun _ _ _ _ _ _ _ _=>rfl⟩⟩
theorem A8.hole{T:Nat→Option Tag}{s i j:Nat}{k:Kd}{xs:List k.T}{v:Value}(h:A8 tyK T w s k xs .ok v):A8 tyK T w s k xs (.hole i j) v:=by
 rcases h with h|⟨flat,h1,h2,h3,h4⟩
 ·exact .inl h
 ·exact .inr ⟨flat,h1,h2,h3,fun i x hx j c hc _=>h4 i x hx j c hc (fun h=>h)⟩
theorem Ent.hr{H':List E}{M:List EM}{a b:Nat}(h:Ent H H' M a b)(hh:HR tyK R H w):HR tyK R H' w:=by
 refine hh.next h.pres h.len (fun s hs=> ?_) hh.none_
 by_cases hm: ∃m∈M,m.src.slot=s
 · obtain⟨m,hm,rfl⟩:=hm
   refine .inr ?_;have hok:=h.ok m hm;obtain⟨src,tgt,val⟩:=m;cases src with
   |root r=>obtain⟨_,e2⟩:=hok;simp only[Src.slot];rw[e2];trivial
   |box r=>obtain⟨_,e2⟩:=hok;simp only[Src.slot];rw[e2];trivial
   |nest r i j=>
    obtain⟨k0,xs,e1,e2⟩:=hok;simp only[Src.slot];rw[e2];exact(Bq hh e1).hole
 ·exact .inl ⟨h.same s fun m hm' e=>hm ⟨m,hm',e⟩,fun g t ht _=>⟨ht,rfl⟩⟩
structure Fit(R Rc:Re)(M:List EM):Prop where
 none_: ∀g,R.T g=none→Rc.T g=none
 tag: ∀m∈M,∀g t,R.T g=some t→m.src.cov t→Rc.T g=some (m.src.retag m.tgt t)
 rho: ∀m∈M,(∀b,m.src≠ .box b)→Rc.ρ m.tgt=m.val
 beta: ∀m∈M,∀b,m.src=.box b→Rc.β m.tgt=R.β b
theorem Fit.left{Rc:Re}{M1 M2:List EM}(h:Fit R Rc (M1++M2)):Fit R Rc M1:=
 ⟨h.none_,fun m hm=>h.tag m (List.mem_append.2 (.inl hm)),fun m hm=>h.rho m (List.mem_append.2 (.inl hm)),fun m hm=>h.beta m (List.mem_append.2 (.inl hm))⟩
theorem Fit.right{Rc:Re}{M1 M2:List EM}(h:Fit R Rc (M1++M2)):Fit R Rc M2:=
 ⟨h.none_,fun m hm=>h.tag m (List.mem_append.2 (.inr hm)),fun m hm=>h.rho m (List.mem_append.2 (.inr hm)),fun m hm=>h.beta m (List.mem_append.2 (.inr hm))⟩
theorem DJ.retag{T T':Nat→Option Tag}{t t':Tag}{ys:List Int}{v:Value}(h:DJ tyK T w t ys v)(hT: ∀g,T g=some t→T' g=some t'):DJ tyK T' w t' ys v:=by
 rcases h with h|⟨h1,h2⟩
 ·exact .inl h
 ·exact .inr ⟨h1,fun g hg=>hT g (h2 g hg)⟩
theorem A8.retag{T T':Nat→Option Tag}{r s:Nat}{k:Kd}{xs:List k.T}{ho:Ho}{v:Value}(h:A8 tyK T w r k xs ho v)(hw:ho.whole=true)
 (h1: ∀g,T g=some (.slot r)→T' g=some (.slot s)) (h2: ∀g i j,T g=some (.nest r i j)→T' g=some (.nest s i j)):A8 tyK T' w s k xs .ok v:=by
 rcases h with h|⟨flat,h3,h4,h5,h6⟩
 ·exact .inl h
 · refine .inr ⟨flat,h3,fun g hg=>h1 g (h4 g hg),h5,fun i x hx j c hc _=> ?_⟩
   obtain⟨u,hu,hoc⟩:=h6 i x hx j c hc (Ho.not_at hw i j);refine⟨u,hu,?_⟩;cases c with
   |nest ys=>exact DJ.retag hoc fun g=>h2 g i j
   |_=>exact hoc
theorem DJ.slot{T T':Nat→Option Tag}{t:Tag}{s:Nat}{ys:List Int}{v:Value}(h:DJ tyK T w t ys v)(hT: ∀g,T g=some t→T' g=some (.slot s)):A8 tyK T' w s .int ys .ok v:=by
 rcases h with h|⟨h1,h2⟩
 ·exact .inl h
 · refine .inr ⟨ys.map fun y=>.int .i64 y,h1,fun g hg=>hT g (h2 g hg),fun u hu=>by obtain⟨_,_,rfl⟩:=List.mem_map.1 hu;rfl,fun i x hx j c hc _=> ?_⟩
   cases j with
   |zero=>
    simp[Kd.cells]at hc;subst hc;exact⟨.int .i64 x,by simp[Kd.size,hx],rfl⟩
   |succ j=>simp[Kd.cells]at hc
def Ef(tyK:Kd→TypeId)(R:Re)(w:World)(M:List EM)(s0:Nat)(lH:List E)(vs:List V)(us:List Value):Prop:=
 ∀Rc HL,Fit R Rc M→(∀i e,lH[i]? =some e→AE HL (s0+i)=e)→VRs Rc HL w vs us∧ ∀i e,lH[i]? =some e→ER tyK Rc HL w (s0+i) e
theorem VRs.nil{R:Re}{H:List E}{w:World}:VRs R H w [] []:=⟨rfl,fun i v u h=>by simp at h⟩
theorem VRs.mk{R:Re}{H:List E}{w:World}{v:V}{u:Value}{vs:List V}{us:List Value}(h1:VR R H w v u)(h2:VRs R H w vs us):VRs R H w (v::vs) (u::us):=by
 refine⟨by simp[h2.1],fun i v' u' hv' hu'=> ?_⟩
 cases i with
 |zero=>simp at hv' hu';subst hv';subst hu';exact h1
 |succ i=>exact h2.2 i v' u' (by simpa using hv') (by simpa using hu')
theorem VRs.pres{R R':Re}{H H':List E}{w w':World}(hp:Pres R H w R' H' w'){vs:List V}{us:List Value}(h:VRs R H w vs us):VRs R' H' w' vs us:=
 ⟨h.1,fun i v u hv hu=>(h.2 i v u hv hu).pres hp⟩
theorem Ef.cons{M1 M2:List EM}{s0:Nat}{lH1 lH2:List E}{v:V}{u:Value}{vs:List V}{us:List Value}(h1:Ef tyK R w M1 s0 lH1 [v] [u])(h2:Ef tyK R w M2 (s0+lH1.length) lH2 vs us):
 Ef tyK R w (M1++M2) s0 (lH1++lH2) (v::vs) (u::us):=by
 intro Rc HL hf hH;obtain⟨h3,h4⟩:=h1 Rc HL hf.left fun i e he=>hH i e (by rw[List.getElem?_append_left (List.getElem?_eq_some_iff.1 he).1];exact he)
 obtain⟨h5,h6⟩:=h2 Rc HL hf.right fun i e he=>by rw[Nat.add_assoc];exact hH _ e (by rw[List.getElem?_append_right (by omega),show lH1.length+i-lH1.length=i by omega];exact he)
 refine⟨VRs.mk (h3.2 0 v u rfl rfl) h5,fun i e he=> ?_⟩
 by_cases hi:i<lH1.length
 ·rw[List.getElem?_append_left hi]at he;exact h4 i e he
 · rw[List.getElem?_append_right (by omega)]at he
   have:=h6 _ e he
   rwa[show s0+lH1.length+(i-lH1.length)=s0+i by omega]at this
theorem Ef.pure{s0:Nat}{v:V}{u:Value}(h: ∀Rc HL,(∀g,R.T g=none→Rc.T g=none)→VR Rc HL w v u):Ef tyK R w [] s0 [] [v] [u]:=
 fun Rc HL hf _=>⟨VRs.mk (h Rc HL hf.none_) VRs.nil,fun i e he=>by simp at he⟩
mutual
theorem mvA_rel: ∀(n:Nat) (v:V) (H:List E) (u:Value) (a:A) (ws:List (Nat×E)) (s0:Nat),HR tyK R H w→VR R H w v u→mvA n v H=some (a,ws)→
 (lay a s0).2.2=s0+(lay a s0).2.1.length∧ ∃M,Ent H (AJ H ws) M s0 (lay a s0).2.2∧Ef tyK R w M s0 (lay a s0).2.1 [(lay a s0).1] [u]
 |0,v,H,u,a,ws,s0,hh,hv,h=>by simp[mvA]at h
 |n+1,v,H,u,a,ws,s0,hh,hv,h=>by
  have plain: ∀x:V,a=.v x→ws=[]→(∀Rc HL,(∀g,R.T g=none→Rc.T g=none)→VR Rc HL w x u)→(lay a s0).2.2=s0+(lay a s0).2.1.length∧ ∃M,Ent H (AJ H ws) M s0 (lay a s0).2.2∧Ef tyK R w M s0 (lay a s0).2.1 [(lay a s0).1] [u]:=by
   rintro x rfl rfl hx;exact⟨rfl,[],Ent.nil H s0,Ef.pure hx⟩
  cases hv with
  |int m=>simp[mvA]at h;exact plain _ h.1.symm h.2 fun _ _ _=>.int _
  |u8 m=>simp[mvA]at h;exact plain _ h.1.symm h.2 fun _ _ _=>.u8 _
  |bool m=>simp[mvA]at h;exact plain _ h.1.symm h.2 fun _ _ _=>.bool _
  |str m=>simp[mvA]at h;exact plain _ h.1.symm h.2 fun _ _ _=>.str _
  |nil=>simp[mvA]at h;exact plain _ h.1.symm h.2 fun _ _ _=>.nil
  |emp A=>simp[mvA]at h;exact plain _ h.1.symm h.2 fun _ _ _=>.emp _
  |junk=>simp[mvA]at h
  |und=>simp[mvA]at h
  |em=>simp[mvA]at h
  |sub=>simp[mvA]at h
  |jc=>simp[mvA]at h
  |rp=>simp[mvA]at h
  |ep=>simp[mvA]at h
  |tup=>simp[mvA]at h
  |clo=>simp[mvA]at h
  |ro p k xs v hr=>
   cases p with
   |false=>simp[mvA]at h
   |true=>
    simp[mvA]at h;refine plain _ h.1.symm h.2 fun Rc HL hn=>.ro _ _ _ _ ?_
    have ro: ∀g,CS true (R.T g)→CS true (Rc.T g):=fun g ho=>by
     rcases ho with ho|⟨h1,_⟩
     ·exact .inl (hn g ho)
     ·cases h1
    obtain⟨A,cap,e,h1,h2,h3⟩:=hr;refine⟨A,cap,e,h1,h2,fun i x hx=> ?_⟩
    obtain⟨b,o,ea,ho,hc⟩:=h3 i x hx;refine⟨b,o,ea,ro b ho,fun j c hj=> ?_⟩
    obtain⟨y,h4,h5⟩:=hc j c hj;refine⟨y,h4,?_⟩;cases c with
    |nest ys=>
     obtain⟨A,cap,e,h1,h2,h3⟩:=h5;exact⟨A,cap,e,h1,h2,fun i x hx=>by obtain⟨b,o,ea,ho,hc⟩:=h3 i x hx;exact⟨b,o,ea,ro b ho,hc⟩⟩
    |_=>exact h5
  |bor r v h1 h0 hvv=>
   simp only[mvA]at h;split at h
   · rename_i k xs ho e
     obtain⟨hw,h⟩:=AQ h;simp only[Option.some.injEq,Prod.mk.injEq]at h;obtain⟨rfl,rfl⟩:=h;have eu:=hvv k xs ho e;have hlt:=BO h0;refine⟨rfl,[⟨.root r,s0,u⟩],Ent.one (m:=⟨.root r,s0,u⟩) ⟨⟨k,xs,ho,e,hw⟩,Bo hlt⟩ (fun s hs=>D5 hs) (by simp[AJ]),fun Rc HL hf hH=> ?_⟩
     have e0:AE HL s0=.root k xs .ok:=hH 0 _ rfl;have erho:Rc.ρ s0=u:=hf.rho ⟨.root r,s0,u⟩ (by simp) (fun b h=>by cases h)
     refine⟨VRs.mk (.bor s0 u h1 (by rw[e0];exact fun h=>by cases h) fun _ _ _ _=>erho.symm) VRs.nil,fun i e' he'=> ?_⟩
     cases i with
     |succ i=>simp[lay]at he'
     |zero=>
      simp[lay]at he';subst he';show A8 tyK Rc.T w s0 k xs .ok (Rc.ρ s0);rw[erho,eu];exact(Bq hh e).retag hw (fun g hg=>hf.tag ⟨.root r,s0,u⟩ (by simp) g _ hg rfl) (fun g i j hg=>hf.tag ⟨.root r,s0,u⟩ (by simp) g _ hg rfl)
   ·cases h
  |borN r i j v h1 h0 hvv=>
   simp only[mvA]at h;split at h
   · rename_i k xs e
     simp only[Option.some.injEq,Prod.mk.injEq]at h;obtain⟨rfl,rfl⟩:=h;have hlt:=BO h0;refine⟨rfl,[⟨.nest r i j,s0,u⟩],Ent.one (m:=⟨.nest r i j,s0,u⟩) ⟨k,xs,e,Bo hlt⟩ (fun s hs=>D5 hs) (by simp[AJ]),fun Rc HL hf hH=> ?_⟩
     have e0:AE HL s0=.root .int ((row k xs i).getD j (.int 0)).ints .ok:=hH 0 _ rfl;have erho:Rc.ρ s0=u:=hf.rho ⟨.nest r i j,s0,u⟩ (by simp) (fun b h=>by cases h)
     refine⟨VRs.mk (.bor s0 u h1 (by rw[e0];exact fun h=>by cases h) fun _ _ _ _=>erho.symm) VRs.nil,fun i' e' he'=> ?_⟩
     cases i' with
     |succ i=>simp[lay]at he'
     |zero=>
      simp[lay]at he';subst he';show A8 tyK Rc.T w s0 .int _ .ok (Rc.ρ s0);rw[erho];obtain⟨hi,hj,g,cap,hg,hc⟩:=hvv k xs e;obtain⟨g',cap',cur,hr',_,hTg,_,_,_,_,hcell⟩:=G5 hh e hi;rw[hg]at hr';simp only[Value.slice.injEq,Option.some.injEq,Addr.mk.injEq,and_true]at hr';obtain⟨rfl,_,rfl⟩:=hr';obtain⟨rfl,rfl⟩:=G0 hj;obtain⟨y,hy,hoc⟩:=hcell 1 (.nest (xs.getD i Kd.lock.dflt).Waits) rfl (fun h=>h)
      rw[hc]at hy;injection hy with hy
      subst hy;exact DJ.slot hoc fun g hg=>hf.tag ⟨.nest r i 1,s0,u⟩ (by simp) g _ hg rfl
   ·cases h
  |ptr b j h0=>
   cases j with
   |succ j=>simp[mvA]at h
   |zero=>
    simp only[mvA]at h;split at h
    · rename_i cs e
      obtain⟨⟨bz,ws'⟩,hgo,h⟩:=Option.bind_eq_some_iff.1 h;simp only[Option.some.injEq,Prod.mk.injEq]at h;obtain⟨rfl,rfl⟩:=h;have hlt:=BO h0;have hE1:Ent H (H.set b .dead) [⟨.box b,s0,undef⟩] s0 (s0+1):=Ent.one (m:=⟨.box b,s0,undef⟩) ⟨⟨cs,e⟩,Bo hlt⟩ (fun s hs=>D5 hs) (by simp)
      have hER:=hh.at_ b hlt;rw[e]at hER;obtain⟨e',us,hg,hTg,hl,hcv⟩:=hER;have hvs:VRs R H w cs us.toList:=⟨by rw[Array.length_toList];exact hl.symm,fun i c u hc hu=>(hcv i c u hc (by rw[←Array.getElem?_toList];exact hu)).1⟩
      obtain⟨hlen,M,hE2,hL⟩:=mvA_go n cs (H.set b .dead) us.toList bz ws' (s0+1) (hE1.hr hh) (hvs.pres hE1.pres) hgo;refine⟨by simp only[lay,List.length_cons];rw[hlen];omega,_,hE1.append hE2,fun Rc HL hf hH=> ?_⟩
      have e0:AE HL s0=.box (layL bz (s0+1)).1:=hH 0 _ rfl;obtain⟨h5,h6⟩:=hL Rc HL hf.right fun i e he=>by rw[Nat.add_assoc];exact hH (1+i) e (by rw[Nat.add_comm];exact he)
      have eb:Rc.β s0=R.β b:=hf.beta ⟨.box b,s0,undef⟩ (by simp) b rfl
      refine⟨VRs.mk (eb▸ .ptr s0 0 (by rw[e0];exact fun h=>by cases h)) VRs.nil,fun i e2 he2=> ?_⟩
      cases i with
      |zero=>
       simp[lay]at he2;subst he2;refine⟨e',us,by rw[Nat.add_zero,eb];exact hg,?_,by rw[h5.1,Array.length_toList],fun i c u hc hu=>⟨h5.2 i c u hc (by rw[Array.getElem?_toList];exact hu),?_⟩⟩
       · rw[Nat.add_zero,eb]
         exact hf.tag ⟨.box b,s0,undef⟩ (by simp) _ _ hTg rfl
       · have hlt2:=(Array.getElem?_eq_some_iff.1 hu).1
         rw[hl]at hlt2;exact(hcv i _ u (List.getElem?_eq_getElem hlt2) hu).2
      |succ i=>
       have:=h6 i e2 (by simpa[lay]using he2)
       rwa[show s0+1+i=s0+(i+1) by omega]at this
    ·cases h
  |agg vs us hl hr=>
   simp only[mvA]at h;obtain⟨⟨bz,ws'⟩,hgo,h⟩:=Option.bind_eq_some_iff.1 h;simp only[Option.some.injEq,Prod.mk.injEq]at h;obtain⟨rfl,rfl⟩:=h;obtain⟨hlen,M,hE,hL⟩:=mvA_go n vs H us bz ws' s0 hh ⟨hl,hr⟩ hgo;refine⟨hlen,M,hE,fun Rc HL hf hH=> ?_⟩
   obtain⟨h5,h6⟩:=hL Rc HL hf hH;exact⟨VRs.mk (.agg _ _ h5.1 h5.2) VRs.nil,h6⟩
theorem mvA_go: ∀(n:Nat) (vs:List V) (H:List E) (us:List Value) (bz:List A) (ws:List (Nat×E)) (s0:Nat),HR tyK R H w→VRs R H w vs us→mvA.go n vs H=some (bz,ws)→
 (layL bz s0).2.2=s0+(layL bz s0).2.1.length∧ ∃M,Ent H (AJ H ws) M s0 (layL bz s0).2.2∧Ef tyK R w M s0 (layL bz s0).2.1 (layL bz s0).1 us
 |0,vs,H,us,bz,ws,s0,hh,hv,h=>by simp[mvA.go]at h
 |n+1,[],H,us,bz,ws,s0,hh,hv,h=>by
  simp[mvA.go]at h;obtain⟨rfl,rfl⟩:=h;have:us=[]:=by have:=hv.1;simpa using this.symm
  subst this;exact⟨rfl,[],Ent.nil H s0,fun Rc HL _ _=>⟨VRs.nil,fun i e he=>by simp[layL]at he⟩⟩
 |n+1,v::vs,H,[],bz,ws,s0,hh,hv,h=>by have:=hv.1;simp at this
 |n+1,v::vs,H,u::us,bz,ws,s0,hh,hv,h=>by
  obtain⟨hv1,hv2⟩:=hv.cons;simp only[mvA.go]at h;obtain⟨⟨a1,ws1⟩,e1,h⟩:=Option.bind_eq_some_iff.1 h;obtain⟨⟨as2,ws2⟩,e2,h⟩:=Option.bind_eq_some_iff.1 h;simp only[Option.some.injEq,Prod.mk.injEq]at h;obtain⟨rfl,rfl⟩:=h;obtain⟨l1,M1,E1,L1⟩:=mvA_rel n v H u a1 ws1 s0 hh hv1 e1;obtain⟨l2,M2,E2,L2⟩:=mvA_go n vs (AJ H ws1) us as2 ws2 (lay a1 s0).2.2 (E1.hr hh) (hv2.pres E1.pres) e2;refine⟨by simp only[layL,List.length_append];rw[l2,l1];omega,M1++M2,?_,?_⟩
  ·rw[Dr];exact E1.append E2
  · rw[l1]at L2
    simp only[layL];rw[l1];exact L1.cons L2
end
end
end Go.Proofs.YthoholbeacojfaaGreat.VR
end
section
set_option linter.unusedVariables false
set_option linter.unusedSimpArgs false
set_option linter.unusedSectionVars false
namespace Go.Proofs.YthoholbeacojfaaGreat.VR
open Go
section
variable {tyK:Kd→TypeId}{R:Re}{H:List E}{w:World}{dl:List Nat}
theorem Rb: ∀(vs:List V) (ms:List AM) (H:List E) (us:List Value) (xs:List (V⊕A)) (ws:List (Nat×E)) (s0:Nat) (Hf:List E) (bz:List A),HR tyK R H w→VRs R H w vs us→CH vs ms H=some (xs,ws)→
 D4 dl Hf xs=some bz→HR tyK R Hf w→Pres R (AJ H ws) w R Hf w→
 (layL bz s0).2.2=s0+(layL bz s0).2.1.length∧ ∃M,Ent H (AJ H ws) M s0 (layL bz s0).2.2∧ ∀Rc,FzFit R Hf Rc→ ∀HL,Fit R Rc M→(∀i e,(layL bz s0).2.1[i]? =some e→AE HL (s0+i)=e)→
   VRs Rc HL w (layL bz s0).1 us∧ ∀i e,(layL bz s0).2.1[i]? =some e→ER tyK Rc HL w (s0+i) e
 | [],[],H,us,xs,ws,s0,Hf,bz,hh,hv,h,hz,hhf,hp=>by
   simp[CH]at h;obtain⟨rfl,rfl⟩:=h;simp[D4]at hz;subst hz;have:us=[]:=by have:=hv.1;simpa using this.symm
   subst this;exact⟨rfl,[],Ent.nil H s0,fun Rc _ HL _ _=>⟨VRs.nil,fun i e he=>by simp[layL]at he⟩⟩
 | [],m::ms,H,us,xs,ws,s0,Hf,bz,hh,hv,h,hz,hhf,hp=>by simp[CH]at h
 |v::vs,[],H,us,xs,ws,s0,Hf,bz,hh,hv,h,hz,hhf,hp=>by simp[CH]at h
 |v::vs,m::ms,H,[],xs,ws,s0,Hf,bz,hh,hv,h,hz,hhf,hp=>by have:=hv.1;simp at this
 |v::vs,.ro::ms,H,u::us,xs,ws,s0,Hf,bz,hh,hv,h,hz,hhf,hp=>by
  obtain⟨hv1,hv2⟩:=hv.cons;simp only[CH]at h;obtain⟨⟨xs',ws'⟩,e1,h⟩:=Option.bind_eq_some_iff.1 h;simp only[Option.some.injEq,Prod.mk.injEq]at h;obtain⟨rfl,rfl⟩:=h;simp only[D4]at hz;obtain⟨v',ez,hz⟩:=Option.bind_eq_some_iff.1 hz;obtain⟨as',ea,hz⟩:=Option.bind_eq_some_iff.1 hz;injection hz with hz
  subst hz;obtain⟨hl,M,hE,hL⟩:=Rb vs ms H us xs' ws' s0 Hf as' hh hv2 e1 ea hhf hp;refine⟨by simpa[layL,lay]using hl,M,by simpa[layL,lay]using hE,fun Rc hF HL hf hH=> ?_⟩
  obtain⟨h1,h2⟩:=hL Rc hF HL hf (by simpa[layL,lay]using hH)
  refine⟨?_,by simpa[layL,lay]using h2⟩
  show VRs Rc HL w (v'::_) (u::us);exact VRs.mk (fz_rel hhf hF HL 60 v v' u ((hv1.pres hE.pres).pres hp) ez) h1
 |v::vs,.mv::ms,H,u::us,xs,ws,s0,Hf,bz,hh,hv,h,hz,hhf,hp=>by
  obtain⟨hv1,hv2⟩:=hv.cons;simp only[CH]at h;obtain⟨⟨a1,ws1⟩,e1,h⟩:=Option.bind_eq_some_iff.1 h;obtain⟨⟨xs',ws'⟩,e2,h⟩:=Option.bind_eq_some_iff.1 h;simp only[Option.some.injEq,Prod.mk.injEq]at h;obtain⟨rfl,rfl⟩:=h;simp only[D4]at hz;obtain⟨as',ea,hz⟩:=Option.bind_eq_some_iff.1 hz;injection hz with hz
  subst hz;obtain⟨l1,M1,E1,L1⟩:=mvA_rel (tyK:=tyK) 40 v H u a1 ws1 s0 hh hv1 e1;rw[Dr]at hp;obtain⟨l2,M2,E2,L2⟩:=Rb vs ms (AJ H ws1) us xs' ws' (lay a1 s0).2.2 Hf as' (E1.hr hh) (hv2.pres E1.pres) e2 ea hhf hp;refine⟨by simp only[layL,List.length_append];rw[l2,l1];omega,M1++M2,by rw[Dr];exact E1.append E2,fun Rc hF HL hf hH=> ?_⟩
  have hL2: ∀Rc,FzFit R Hf Rc→ ∀HL,Fit R Rc M2→_:=L2;have hH1: ∀i e,(lay a1 s0).2.1[i]? =some e→AE HL (s0+i)=e:=fun i e he=>hH i e (by simp only[layL];rw[List.getElem?_append_left (List.getElem?_eq_some_iff.1 he).1];exact he)
  obtain⟨h3,h4⟩:=L1 Rc HL hf.left hH1;obtain⟨h5,h6⟩:=hL2 Rc hF HL hf.right fun i e he=>by
   rw[l1,Nat.add_assoc];exact hH _ e (by simp only[layL];rw[List.getElem?_append_right (by omega),show(lay a1 s0).2.1.length+i-(lay a1 s0).2.1.length=i by omega];exact he)
  refine⟨VRs.mk (h3.2 0 _ u rfl rfl) h5,fun i e he=> ?_⟩
  simp only[layL]at he
  by_cases hi:i<(lay a1 s0).2.1.length
  ·rw[List.getElem?_append_left hi]at he;exact h4 i e he
  · rw[List.getElem?_append_right (by omega)]at he
    have:=h6 _ e he
    rwa[show(lay a1 s0).2.2+(i-(lay a1 s0).2.1.length)=s0+i by rw[l1];omega]at this
open Classical in
noncomputable def phi:List EM→Tag→Tag
 | [],_=>.frozen
 |m::M,t=>if m.src.cov t then m.src.retag m.tgt t else phi M t
theorem Src.cov_of{s:Src}{t:Tag}(h:s.cov t):t.of s.slot:=by
 cases s with
 |nest r i j=>cases h;rfl
 |root r=>exact h
 |box b=>exact h
theorem V9: ∀{M:List EM} {m:EM} {t:Tag},M.Pairwise (fun m m'=>m.src.slot≠m'.src.slot∧m.tgt≠m'.tgt)→m∈M→m.src.cov t→phi M t=m.src.retag m.tgt t
 |m'::M,m,t,hd,hm,hc=>by
  rw[List.pairwise_cons]at hd;unfold phi;rcases List.mem_cons.1 hm with rfl|hm
  ·rw[if_pos hc]
  · rw[if_neg,V9 hd.2 hm hc]
    intro hc';exact(hd.1 m hm).1 (IE (Src.cov_of hc') (Src.cov_of hc))
theorem Ow: ∀{M:List EM} {t:Tag},(∀m∈M,¬m.src.cov t)→phi M t=.frozen
 | [],t,_=>rfl
 |m::M,t,h=>by
  unfold phi;rw[if_neg (h m (by simp)),Ow fun m' hm'=>h m' (by simp[hm'])]
def PJ:List EM→Nat→Value
 | [],_=>undef
 |m::M,s=>if m.tgt=s then m.val else PJ M s
def MX(β:Nat→Nat):List EM→Nat→Nat
 | [],_=>0
 |m::M,s=>if m.tgt=s then(match m.src with| .box b=>β b|_=>0)else MX β M s
theorem Xv: ∀{M:List EM} {m:EM},M.Pairwise (fun m m'=>m.src.slot≠m'.src.slot∧m.tgt≠m'.tgt)→m∈M→PJ M m.tgt=m.val
 |m'::M,m,hd,hm=>by
  rw[List.pairwise_cons]at hd;unfold PJ;rcases List.mem_cons.1 hm with rfl|hm
  ·rw[if_pos rfl]
  ·rw[if_neg (hd.1 m hm).2,Xv hd.2 hm]
theorem Tc{β:Nat→Nat}: ∀{M:List EM} {m:EM} {b:Nat},M.Pairwise (fun m m'=>m.src.slot≠m'.src.slot∧m.tgt≠m'.tgt)→m∈M→m.src=.box b→MX β M m.tgt=β b
 |m'::M,m,b,hd,hm,e=>by
  rw[List.pairwise_cons]at hd;unfold MX;rcases List.mem_cons.1 hm with rfl|hm
  ·rw[if_pos rfl,e]
  ·rw[if_neg (hd.1 m hm).2,Tc hd.2 hm e]
noncomputable def Re.inn(R:Re)(M:List EM):Re:=⟨fun g=>(R.T g).map (phi M),MX R.β M,PJ M⟩
theorem Ent.fit{H':List E}{M:List EM}{a b:Nat}(h:Ent H H' M a b):Fit R (R.inn M) M:=by
 refine⟨fun g hg=> ?_,fun m hm g t ht hc=> ?_,fun m hm _=>Xv h.dist hm,fun m hm b e=>Tc h.dist hm e⟩
 ·show(R.T g).map _=none;rw[hg];rfl
 ·show(R.T g).map _=_;rw[ht];simp[V9 h.dist hm hc]
theorem Uc(s:Src): ¬s.cov .frozen:=by
 cases s with
 |nest r i j=>exact fun h=>by cases h
 |root r=>exact fun h=>h
 |box b=>exact fun h=>h
theorem Ent.fz{H':List E}{M:List EM}{a b:Nat}(h:Ent H H' M a b):FzFit R H' (R.inn M):=by
 refine⟨fun g hg=> ?_,fun g hg=> ?_,fun g t s ht hof hw=> ?_⟩
 ·show(R.T g).map _=none;rw[hg];rfl
 ·show(R.T g).map _=_;rw[hg];simp[Ow fun m _=>Uc m.src]
 · show(R.T g).map _=_
   rw[ht];simp only[Option.map_some,Option.some.injEq];refine Ow fun m hm hc=> ?_
   have e:=IE (Src.cov_of hc) hof;obtain⟨_,rfl,_,hw2,_⟩:=(h.ok m hm).use;rw[e,hw]at hw2;cases hw2
structure XM where
 src:Option Nat
 tgt:Option Nat
 val:Value
 own:Bool
 pin:Bool
structure Ext(H H':List E)(X:List XM):Prop where
 ok: ∀m∈X,∀s,m.src=some s→(AE H s).whole=true∧AE H' s=.dead
 same: ∀s,(∀m∈X,m.src≠some s)→AE H' s=AE H s
 dist:X.Pairwise fun m m'=> ∀s,m.src=some s→m'.src≠some s
 len:H'.length=H.length
theorem Ext.nil(H:List E):Ext H H []:=⟨fun m hm=>(by cases hm),fun _ _=>rfl,.nil,rfl⟩
theorem Ext.append{H H1 H2:List E}{X1 X2:List XM}(h1:Ext H H1 X1)(h2:Ext H1 H2 X2):Ext H H2 (X1++X2):=by
 have hd: ∀m∈X1,∀m'∈X2,∀s,m.src=some s→m'.src≠some s:=by
  intro m hm m' hm' s e e';have h3:=(h1.ok m hm s e).2;have h4:=(h2.ok m' hm' s e').1;rw[h3]at h4;cases h4
 refine⟨fun m hm s e=> ?_,fun s hs=> ?_,List.pairwise_append.2 ⟨h1.dist,h2.dist,hd⟩,h2.len.trans h1.len⟩
 · rcases List.mem_append.1 hm with hm|hm
   ·exact⟨(h1.ok m hm s e).1,by rw[h2.same s fun m' hm'=>hd m hm m' hm' s e];exact(h1.ok m hm s e).2⟩
   · refine⟨?_,(h2.ok m hm s e).2⟩
     rw[←h1.same s fun m' hm' e'=>hd m' hm' m hm s e' e]
     exact(h2.ok m hm s e).1
 ·rw[h2.same s fun m hm=>hs m (List.mem_append.2 (.inr hm)),h1.same s fun m hm=>hs m (List.mem_append.2 (.inl hm))]
theorem Ext.one{s:Nat}(hw:(AE H s).whole=true)(tgt:Option Nat)(val:Value)(own pin:Bool):Ext H (H.set s .dead) [⟨some s,tgt,val,own,pin⟩]:=by
 have hlt:s<H.length:=BO fun e=>by rw[e]at hw;cases hw
 refine⟨fun m hm s' e=> ?_,fun s' hs=> ?_,List.pairwise_singleton _ _,by simp⟩
 · simp at hm
   subst hm;simp at e;subst e;exact⟨hw,Bo hlt⟩
 · have:=hs ⟨some s,tgt,val,own,pin⟩ (by simp)
   exact D5 fun e=>this (by rw[e])
theorem Ext.keep(tgt:Option Nat)(val:Value)(own pin:Bool):Ext H H [⟨none,tgt,val,own,pin⟩]:=
 ⟨fun m hm s e=>(by simp at hm;subst hm;cases e),fun _ _=>rfl,List.pairwise_singleton _ _,rfl⟩
theorem Ext.pres{H':List E}{X:List XM}(h:Ext H H' X):Pres R H w R H' w:=by
 refine⟨Step.refl R w,fun s hs=> ?_,fun _ _=>rfl,fun s k xs' ho' hs e=> ?_⟩
 · by_cases hm: ∃m∈X,m.src=some s
   · obtain⟨m,hm,e⟩:=hm
     rw[(h.ok m hm s e).2];exact fun h=>by cases h
   ·rw[h.same s fun m hm' e=>hm ⟨m,hm',e⟩];exact hs
 · by_cases hm: ∃m∈X,m.src=some s
   · obtain⟨m,hm,e2⟩:=hm
     rw[(h.ok m hm s e2).2]at e;cases e
   · rw[h.same s fun m hm' e=>hm ⟨m,hm',e⟩]at e
     exact⟨xs',ho',e,rfl,rfl,fun h=>⟨h,fun _ _ _ _ _ _ _ _=>rfl⟩⟩
theorem Ext.hr{H':List E}{X:List XM}(h:Ext H H' X)(hh:HR tyK R H w):HR tyK R H' w:=by
 refine hh.next h.pres h.len (fun s hs=> ?_) hh.none_
 by_cases hm: ∃m∈X,m.src=some s
 · obtain⟨m,hm,e⟩:=hm
   refine .inr ?_;rw[(h.ok m hm s e).2];trivial
 ·exact .inl ⟨h.same s fun m hm' e=>hm ⟨m,hm',e⟩,fun g t ht _=>⟨ht,rfl⟩⟩
structure XFit(Rc R':Re)(X:List XM):Prop where
 none_: ∀g,Rc.T g=none→R'.T g=none
 slot: ∀m∈X,∀s,m.src=some s→ ∀g,Rc.T g=some (.slot s)→R'.T g=m.tgt.map .slot
 nest: ∀m∈X,∀s,m.src=some s→ ∀g i j,Rc.T g=some (.nest s i j)→R'.T g=m.tgt.map fun t=>.nest t i j
 rho: ∀m∈X,m.own=true∨m.pin=true→ ∀t,m.tgt=some t→R'.ρ t=m.val
 beta: ∀m∈X,m.pin=false→ ∀t s,m.tgt=some t→m.src=some s→R'.β t=Rc.β s
theorem XFit.left{Rc R':Re}{X1 X2:List XM}(h:XFit Rc R' (X1++X2)):XFit Rc R' X1:=
 ⟨h.none_,fun m hm=>h.slot m (List.mem_append.2 (.inl hm)),fun m hm=>h.nest m (List.mem_append.2 (.inl hm)),fun m hm=>h.rho m (List.mem_append.2 (.inl hm)),fun m hm=>h.beta m (List.mem_append.2 (.inl hm))⟩
theorem XFit.right{Rc R':Re}{X1 X2:List XM}(h:XFit Rc R' (X1++X2)):XFit Rc R' X2:=
 ⟨h.none_,fun m hm=>h.slot m (List.mem_append.2 (.inr hm)),fun m hm=>h.nest m (List.mem_append.2 (.inr hm)),fun m hm=>h.rho m (List.mem_append.2 (.inr hm)),fun m hm=>h.beta m (List.mem_append.2 (.inr hm))⟩
def DC(X:List XM):List (Option Nat):=(X.filter (·.own)).map (·.tgt)
theorem G4(X1 X2:List XM):DC (X1++X2)=DC X1++DC X2:=by simp[DC]
structure Back(tyK:Kd→TypeId)(Pn:Nat×E→Prop)(Rc:Re)(w:World)(X:List XM)(ws:List (Nat×E))(vs:List V)(us:List Value):Prop where
 tgt:X.filterMap (·.tgt)=ws.map (·.1)
 live: ∀p∈ws,(p.2≠ .fresh∧p.2≠ .dead)∧((∃cs,p.2=.box cs)∨some p.1∈DC X∨Pn p)
 len:vs.length=us.length
 rel: ∀R' H',XFit Rc R' X→(∀p∈ws,AE H' p.1=p.2)→VRs R' H' w vs us∧ ∀p∈ws,ER tyK R' H' w p.1 p.2
theorem Back.append{Pn:Nat×E→Prop}{Rc:Re}{X1 X2:List XM}{ws1 ws2:List (Nat×E)}{vs1 vs2:List V}{us1 us2:List Value}(h1:Back tyK Pn Rc w X1 ws1 vs1 us1)(h2:Back tyK Pn Rc w X2 ws2 vs2 us2):
 Back tyK Pn Rc w (X1++X2) (ws1++ws2) (vs1++vs2) (us1++us2):=by
 refine⟨by simp[h1.tgt,h2.tgt],fun p hp=> ?_,by simp[h1.len,h2.len],fun R' H' hx hH=> ?_⟩
 · rcases List.mem_append.1 hp with hp|hp
   · obtain⟨h3,h4⟩:=h1.live p hp
     exact⟨h3,h4.imp id fun h=>h.imp (fun h=>by rw[G4];exact List.mem_append.2 (.inl h)) id⟩
   · obtain⟨h3,h4⟩:=h2.live p hp
     exact⟨h3,h4.imp id fun h=>h.imp (fun h=>by rw[G4];exact List.mem_append.2 (.inr h)) id⟩
 · obtain⟨h3,h4⟩:=h1.rel R' H' hx.left fun p hp=>hH p (List.mem_append.2 (.inl hp))
   obtain⟨h5,h6⟩:=h2.rel R' H' hx.right fun p hp=>hH p (List.mem_append.2 (.inr hp))
   refine⟨⟨by simp[h3.1,h5.1],fun i v u hv hu=> ?_⟩,fun p hp=> ?_⟩
   · by_cases hi:i<vs1.length
     · rw[List.getElem?_append_left hi]at hv
       rw[List.getElem?_append_left (by rw[←h3.1];exact hi)]at hu
       exact h3.2 i v u hv hu
     · rw[List.getElem?_append_right (by omega)]at hv
       rw[List.getElem?_append_right (by rw[←h3.1];omega),←h3.1]at hu
       exact h5.2 _ v u hv hu
   · rcases List.mem_append.1 hp with hp|hp
     ·exact h4 p hp
     ·exact h6 p hp
theorem Back.pure{Pn:Nat×E→Prop}{Rc:Re}{v:V}{u:Value}(h: ∀R' H',(∀g,Rc.T g=none→R'.T g=none)→VR R' H' w v u):Back tyK Pn Rc w [] [] [v] [u]:=
 ⟨rfl,fun p hp=>(by cases hp),rfl,fun R' H' hx _=>⟨VRs.mk (h R' H' hx.none_) VRs.nil,fun p hp=>(by cases hp)⟩⟩
end
end Go.Proofs.YthoholbeacojfaaGreat.VR
end
section
set_option linter.unusedVariables false
set_option linter.unusedSimpArgs false
set_option linter.unusedSectionVars false
namespace Go.Proofs.YthoholbeacojfaaGreat.VR
open Go
section
variable {tyK:Kd→TypeId}{R:Re}{H:List E}{w:World}
theorem CU.keep{T T':Nat→Option Tag}{k:Kd}{xs:List k.T}{u:Value}(hr:CU T w true k xs u)(hn: ∀g,T g=none→T' g=none):CU T' w true k xs u:=by
 have ro: ∀g,CS true (T g)→CS true (T' g):=fun g ho=>by
  rcases ho with ho|⟨h1,_⟩
  ·exact .inl (hn g ho)
  ·cases h1
 obtain⟨A,cap,e,h1,h2,h3⟩:=hr;refine⟨A,cap,e,h1,h2,fun i x hx=> ?_⟩
 obtain⟨b,o,ea,ho,hc⟩:=h3 i x hx;refine⟨b,o,ea,ro b ho,fun j c hj=> ?_⟩
 obtain⟨y,h4,h5⟩:=hc j c hj;refine⟨y,h4,?_⟩;cases c with
 |nest ys=>
  obtain⟨A,cap,e,h1,h2,h3⟩:=h5;exact⟨A,cap,e,h1,h2,fun i x hx=>by obtain⟨b,o,ea,ho,hc⟩:=h3 i x hx;exact⟨b,o,ea,ro b ho,hc⟩⟩
 |_=>exact h5
def XM.kill(m:XM):XM:=⟨m.src,none,undef,false,true⟩
theorem Ext.kill{H H':List E}{X:List XM}(h:Ext H H' X):Ext H H' (X.map XM.kill):=by
 refine⟨fun m hm s e=> ?_,fun s hs=>h.same s fun m hm=>hs m.kill (List.mem_map.2 ⟨m,hm,rfl⟩),List.pairwise_map.2 (h.dist.imp fun h=>h),h.len⟩
 obtain⟨m',hm',rfl⟩:=List.mem_map.1 hm;exact h.ok m' hm' s e
theorem VL(X:List XM):DC (X.map XM.kill)=[]:=by
 induction X with
 |nil=>rfl
 |cons m X ih=>exact ih
theorem VM(X:List XM):(X.map XM.kill).filterMap (·.tgt)=[]:=by
 induction X with
 |nil=>rfl
 |cons m X ih=>exact ih
structure Tk(tyK:Kd→TypeId)(Rc:Re)(w:World)(Hf Hf':List E)(rest:List V)(us upre urest:List Value)(X:List XM)(ss ss':List (Option Nat)):Prop where
 us:us=upre++urest
 rest:VRs Rc Hf' w rest urest
 ext:Ext Hf Hf' X
 ss:ss=DC X++ss'
theorem Tk.one{Rc:Re}{Hf Hf':List E}{v:V}{vs:List V}{u:Value}{us:List Value}{X:List XM}{ss ss':List (Option Nat)}(hv:VRs Rc Hf w (v::vs) (u::us))(hx:Ext Hf Hf' X)(hs:ss=DC X++ss'):
 Tk tyK Rc w Hf Hf' vs (u::us) [u] us X ss ss':=⟨rfl,hv.cons.2.pres hx.pres,hx,hs⟩
def HJ(X:List XM):Prop:= ∀m∈X,m.own=false→m.tgt=none
theorem VRs.left{Rc:Re}{Hf:List E}{v:V}{vs:List V}{us:List Value}(h:VRs Rc Hf w (v::vs) us): ∃u us',us=u::us':=by
 cases us with
 |nil=>have:=h.1;simp at this
 |cons u us=>exact⟨u,us,rfl⟩
theorem GZ{vs:List V}(h:D7 vs=true):vs=[]:=by cases vs with|nil=>rfl|cons=>cases h
theorem Ss{Pn:Nat×E→Prop}{Rc:Re}: ∀(sh:Sh) (vs:List V) (us:List Value) (Hf:List E) (r:sh.T) (rest:List V) (Hf':List E) (ss:List (Option Nat)),HR tyK Rc Hf w→VRs Rc Hf w vs us→AZ sh vs Hf=some (r,rest,Hf')→
 ∃X upre urest,Tk tyK Rc w Hf Hf' rest us upre urest X ss (BJ sh r ss).ss∧HJ X∧Back tyK Pn Rc w X (BJ sh r ss).ws (BJ sh r ss).vs upre:=by
 intro sh;have scalar: ∀{v:V} {vs:List V} {us:List Value} {Hf:List E} {ss:List (Option Nat)} (x:V),VRs Rc Hf w (v::vs) us→(∀(u:Value) R' H',VR Rc Hf w v u→(∀g,Rc.T g=none→R'.T g=none)→VR R' H' w x u)→
  ∃X upre urest,Tk tyK Rc w Hf Hf vs us upre urest X ss ss∧HJ X∧Back tyK Pn Rc w X [] [x] upre:=by
  intro v vs us Hf ss x hv hx;obtain⟨u,us',rfl⟩:=hv.left;exact⟨[],[u],us',Tk.one hv (Ext.nil Hf) rfl,fun m hm=>(by cases hm),Back.pure fun R' H' hn=>hx u R' H' hv.cons.1 hn⟩
 have own: ∀{v:V} {vs:List V} {us:List Value} {Hf Hf':List E} {ss:List (Option Nat)} (k:Kd) (xs:List k.T) (src:Option Nat),VRs Rc Hf w (v::vs) us→
  (∀(tgt:Option Nat) (val:Value) (b c:Bool),Ext Hf Hf' [⟨src,tgt,val,b,c⟩])→
  (∀(u:Value),VR Rc Hf w v u→u.oneCell'=true∧ ∀(T':Nat→Option Tag),(∀g,Rc.T g=none→T' g=none)→
    (∀s,(∀q,src=some q→(∀g,Rc.T g=some (.slot q)→T' g=some (.slot s))∧ ∀g i j,Rc.T g=some (.nest q i j)→T' g=some (.nest s i j))→A8 tyK T' w s k xs .ok u)∧
    ((∀q,src=some q→ ∀g t,Rc.T g=some t→t.of q→T' g=none)→CU T' w true k xs u))→
  ∃X upre urest,Tk tyK Rc w Hf Hf' vs us upre urest X ss (BJ (.own k) xs ss).ss∧HJ X∧Back tyK Pn Rc w X (BJ (.own k) xs ss).ws (BJ (.own k) xs ss).vs upre:=by
  intro v vs us Hf Hf' ss k xs src hv hext hu;obtain⟨u,us',rfl⟩:=hv.left;obtain⟨h1,h2⟩:=hu u hv.cons.1
  match ss with
  | []=>
    refine⟨[⟨src,none,undef,false,true⟩],[u],us',Tk.one hv (hext _ _ _ _) rfl,fun m hm _=>(by simp at hm;subst hm;rfl),rfl,fun p hp=>(by cases hp),rfl,fun R' H' hx _=>⟨VRs.mk (.junk _) VRs.nil,fun p hp=>(by cases hp)⟩⟩
  |none::ss=>
   refine⟨[⟨src,none,u,true,false⟩],[u],us',Tk.one hv (hext _ _ _ _) rfl,fun m hm h=>(by simp at hm;subst hm;cases h),rfl,fun p hp=>(by cases hp),rfl,fun R' H' hx _=>⟨VRs.mk (.ro true k xs u ?_) VRs.nil,fun p hp=>(by cases hp)⟩⟩
   refine(h2 R'.T hx.none_).2 fun q e g t ht hof=> ?_
   cases t with
   |slot q'=>cases hof;exact hx.slot _ (List.mem_singleton.2 rfl) q e g ht
   |nest q' i j=>cases hof;exact hx.nest _ (List.mem_singleton.2 rfl) q e g i j ht
   |frozen=>exact hof.elim
  |some s::ss=>
   refine⟨[⟨src,some s,u,true,false⟩],[u],us',Tk.one hv (hext _ _ _ _) rfl,fun m hm h=>(by simp at hm;subst hm;cases h),rfl,fun p hp=>(by simp[BJ]at hp;subst hp;exact⟨⟨(fun h=>by cases h),(fun h=>by cases h)⟩,.inr (.inl (by simp[DC]))⟩),rfl,fun R' H' hx hH=> ?_⟩
   have e0:AE H' s=.root k xs .ok:=hH (s,.root k xs .ok) (by simp[BJ])
   have erho:R'.ρ s=u:=hx.rho _ (List.mem_singleton.2 rfl) (.inl rfl) s rfl;refine⟨VRs.mk (.bor s u h1 (by rw[e0];exact fun h=>by cases h) fun _ _ _ _=>erho.symm) VRs.nil,fun p hp=> ?_⟩
   simp[BJ]at hp;subst hp;show A8 tyK R'.T w s k xs .ok (R'.ρ s);rw[erho];exact(h2 R'.T hx.none_).1 s fun q e=>⟨fun g hg=>hx.slot _ (List.mem_singleton.2 rfl) q e g hg,fun g i j hg=>hx.nest _ (List.mem_singleton.2 rfl) q e g i j hg⟩
 have empty: ∀{v:V} {vs:List V} {us:List Value} {Hf:List E} {ss:List (Option Nat)} (k:Kd),VRs Rc Hf w (v::vs) us→(∀u,VR Rc Hf w v u→ ∃A,u=.slice A 0 0)→
  ∃X upre urest,Tk tyK Rc w Hf Hf vs us upre urest X ss (BJ (.own k) [] ss).ss∧HJ X∧Back tyK Pn Rc w X (BJ (.own k) [] ss).ws (BJ (.own k) [] ss).vs upre:=by
  intro v vs us Hf ss k hv hA;refine own k [] none hv (fun _ _ _ _=>Ext.keep _ _ _ _) fun u hu=> ?_
  obtain⟨A,rfl⟩:=hA u hu;exact⟨rfl,fun T' _=>⟨fun s _=>.inl ⟨A,rfl,rfl⟩,fun _=>⟨A,0,rfl,Nat.le_refl _,by simp[maxLen],fun i x hx=>by simp at hx⟩⟩⟩
 have roE: ∀{u:Value} {k:Kd} {T':Nat→Option Tag},(∃A,u=.slice A 0 0)→CU T' w true k [] u:=by
  rintro u k T' ⟨A,rfl⟩;exact⟨A,0,rfl,Nat.le_refl _,by simp[maxLen],fun i x hx=>by simp at hx⟩
 have nilA: ∀{Hf:List E} {u:Value},VR Rc Hf w .nil u→ ∃A,u=.slice A 0 0:=fun h=>by cases h;exact⟨_,rfl⟩
 have empA: ∀{Hf:List E} {u:Value},VR Rc Hf w .emp u→ ∃A,u=.slice A 0 0:=fun h=>by cases h;exact⟨_,rfl⟩
 induction sh with
 |int=>
  intro vs us Hf r rest Hf' ss hh hv h;cases vs with
  |nil=>simp[AZ]at h
  |cons v vs=>
   cases v<;>simp[AZ]at h;obtain⟨rfl,rfl,rfl⟩:=h;exact scalar (.int _) hv fun u R' H' hu _=>by cases hu;exact .int _
 |u8=>
  intro vs us Hf r rest Hf' ss hh hv h;cases vs with
  |nil=>simp[AZ]at h
  |cons v vs=>
   cases v<;>simp[AZ]at h;obtain⟨rfl,rfl,rfl⟩:=h;exact scalar (.u8 _) hv fun u R' H' hu _=>by cases hu;exact .u8 _
 |bool=>
  intro vs us Hf r rest Hf' ss hh hv h;cases vs with
  |nil=>simp[AZ]at h
  |cons v vs=>
   cases v<;>simp[AZ]at h;obtain⟨rfl,rfl,rfl⟩:=h;exact scalar (.bool _) hv fun u R' H' hu _=>by cases hu;exact .bool _
 |str=>
  intro vs us Hf r rest Hf' ss hh hv h;cases vs with
  |nil=>simp[AZ]at h
  |cons v vs=>
   cases v<;>simp[AZ]at h;obtain⟨rfl,rfl,rfl⟩:=h;exact scalar (.str _) hv fun u R' H' hu _=>by cases hu;exact .str _
 |own k=>
  intro vs us Hf r rest Hf' ss hh hv h;cases vs with
  |nil=>simp[AZ]at h
  |cons v vs=>
   cases v<;>(try simp only[AZ]at h)<;>first|(cases h;done)|skip
   · simp only[Option.some.injEq,Prod.mk.injEq]at h
     obtain⟨rfl,rfl,rfl⟩:=h;exact empty k hv fun u hu=>nilA hu
   · simp only[Option.some.injEq,Prod.mk.injEq]at h
     obtain⟨rfl,rfl,rfl⟩:=h;exact empty k hv fun u hu=>empA hu
   · rename_i q
     split at h
     · rename_i k' xs ho e
       obtain⟨hw,h⟩:=AQ h;split at h
       · rename_i hk
         subst hk;simp only[Option.some.injEq,Prod.mk.injEq]at h;obtain⟨rfl,rfl,rfl⟩:=h;refine own k' xs (some q) hv (fun _ _ _ _=>Ext.one (by rw[e];exact hw) _ _ _ _) fun u hu=> ?_
         have eu:=hu.bor_inv e;refine⟨by cases hu;assumption,fun T' hn=>⟨fun s hs=> ?_,fun hs=> ?_⟩⟩
         · rw[eu]
           exact(Bq hh e).retag hw (hs q rfl).1 (hs q rfl).2
         · rw[eu]
           exact Xx (Bq hh e) hw fun g t ht hof=>.inl (hs q rfl g t ht hof)
       ·cases h
     ·cases h
 |ro k=>
  intro vs us Hf r rest Hf' ss hh hv h;cases vs with
  |nil=>simp[AZ]at h
  |cons v vs=>
   cases v<;>(try simp only[AZ]at h)<;>first|(cases h;done)|skip
   · simp only[Option.some.injEq,Prod.mk.injEq]at h
     obtain⟨rfl,rfl,rfl⟩:=h;exact scalar (.ro true k []) hv fun u R' H' hu _=>.ro _ _ _ _ (roE (nilA hu))
   · simp only[Option.some.injEq,Prod.mk.injEq]at h
     obtain⟨rfl,rfl,rfl⟩:=h;exact scalar (.ro true k []) hv fun u R' H' hu _=>.ro _ _ _ _ (roE (empA hu))
   · rename_i p k' xs
     cases p with
     |false=>first|(cases h;done)|(simp[AZ]at h;done)
     |true=>
      (try simp only[AZ]at h)
      split at h
      · rename_i hk
        subst hk;simp only[Option.some.injEq,Prod.mk.injEq]at h;obtain⟨rfl,rfl,rfl⟩:=h;exact scalar (.ro true k' xs) hv fun u R' H' hu hn=>.ro _ _ _ _ (hu.ro_inv.keep hn)
      ·cases h
 |junk=>
  intro vs us Hf r rest Hf' ss hh hv h;cases vs with
  |nil=>simp[AZ]at h
  |cons v vs=>
   simp[AZ]at h;obtain⟨rfl,rfl⟩:=h;exact scalar .junk hv fun u R' H' _ _=>.junk _
 |jc=>
  intro vs us Hf r rest Hf' ss hh hv h;cases vs with
  |nil=>simp[AZ]at h
  |cons v vs=>
   simp only[AZ]at h;obtain⟨h1,h⟩:=AQ h;injection h with h
   obtain⟨_,h⟩:=Prod.mk.inj h;obtain⟨rfl,rfl⟩:=Prod.mk.inj h;exact scalar .jc hv fun u R' H' hu _=>.jc _ (hu.oneCell h1)
 |agg s ih=>
  intro vs us Hf r rest Hf' ss hh hv h;cases vs with
  |nil=>simp[AZ]at h
  |cons v vs=>
   cases v<;>(try simp only[AZ]at h)<;>first|(cases h;done)|skip
   rename_i ws;obtain⟨⟨r1,rest1,Hf1⟩,h1,h⟩:=Option.bind_eq_some_iff.1 h;obtain⟨hn,h⟩:=AQ h;simp only[Option.some.injEq,Prod.mk.injEq]at h;obtain⟨rfl,rfl,rfl⟩:=h;obtain⟨u,us',rfl⟩:=hv.left;have hv1:=hv.cons.1;cases hv1 with
   |agg _ us1 hl hr=>
    obtain⟨X,upre,urest,hk,hnt,hb⟩:=ih ws us1 Hf r1 rest1 Hf1 ss hh ⟨hl,hr⟩ h1;have hre:=GZ hn;simp only at hre;subst hre;have hur:urest=[]:=by have:=hk.rest.1;simpa using this.symm
    subst hur;have hus:=hk.us;simp at hus;subst hus;exact⟨X,[_],us',Tk.one hv hk.ext hk.ss,hnt,hb.tgt,hb.live,rfl,fun R' H' hx hH=>by
     obtain⟨h3,h4⟩:=hb.rel R' H' hx hH;exact⟨VRs.mk (.agg _ _ h3.1 h3.2) VRs.nil,h4⟩⟩
 |tup s ih=>
  intro vs us Hf r rest Hf' ss hh hv h;cases vs with
  |nil=>simp[AZ]at h
  |cons v vs=>
   cases v<;>(try simp only[AZ]at h)<;>first|(cases h;done)|skip
   rename_i ws;obtain⟨⟨r1,rest1,Hf1⟩,h1,h⟩:=Option.bind_eq_some_iff.1 h;obtain⟨hn,h⟩:=AQ h;simp only[Option.some.injEq,Prod.mk.injEq]at h;obtain⟨rfl,rfl,rfl⟩:=h;obtain⟨u,us',rfl⟩:=hv.left;have hv1:=hv.cons.1;cases hv1 with
   |tup _ us1 hl hr=>
    obtain⟨X,upre,urest,hk,hnt,hb⟩:=ih ws us1 Hf r1 rest1 Hf1 ss hh ⟨hl,hr⟩ h1;have hre:=GZ hn;simp only at hre;subst hre;have hur:urest=[]:=by have:=hk.rest.1;simpa using this.symm
    subst hur;have hus:=hk.us;simp at hus;subst hus;exact⟨X,[_],us',Tk.one hv hk.ext hk.ss,hnt,hb.tgt,hb.live,rfl,fun R' H' hx hH=>by
     obtain⟨h3,h4⟩:=hb.rel R' H' hx hH;exact⟨VRs.mk (.tup _ _ h3.1 h3.2) VRs.nil,h4⟩⟩
 |box s ih=>
  intro vs us Hf r rest Hf' ss hh hv h;cases vs with
  |nil=>simp[AZ]at h
  |cons v vs=>
   cases v<;>(try simp only[AZ]at h)<;>first|(cases h;done)|skip
   rename_i b j;cases j with
   |succ j=>first|(cases h;done)|(simp[AZ]at h;done)
   |zero=>
    (try simp only[AZ]at h)
    split at h
    · rename_i cs e
      obtain⟨⟨r1,rest1,Hf1⟩,h1,h⟩:=Option.bind_eq_some_iff.1 h;obtain⟨hn,h⟩:=AQ h;simp only[Option.some.injEq,Prod.mk.injEq]at h;obtain⟨rfl,rfl,rfl⟩:=h;obtain⟨u,us',rfl⟩:=hv.left;have h0:AE Hf b≠ .fresh:=by rw[e];exact fun h=>by cases h
      have hE:=Ext.one (H:=Hf) (s:=b) (by rw[e];rfl) none undef false true
      have hER:=hh.at_ b (BO h0);rw[e]at hER;obtain⟨e',us1,hg,hTg,hl,hcv⟩:=hER;have hvs:VRs Rc Hf w cs us1.toList:=⟨by rw[Array.length_toList];exact hl.symm,fun i c u hc hu=>(hcv i c u hc (by rw[←Array.getElem?_toList];exact hu)).1⟩
      have lose: ∀ss,BJ (.box s) r1 ss=⟨[.junk],[],ss⟩→ ∃X upre urest,Tk tyK Rc w Hf Hf1 vs (u::us') upre urest X ss (BJ (.box s) r1 ss).ss∧HJ X∧Back tyK Pn Rc w X (BJ (.box s) r1 ss).ws (BJ (.box s) r1 ss).vs upre:=by
       intro ss e;rw[e];obtain⟨X,upre,urest,hk,_,_⟩:=ih cs us1.toList (Hf.set b .dead) r1 rest1 Hf1 ss (hE.hr hh) (hvs.pres hE.pres) h1;refine⟨([(⟨some b,none,undef,false,true⟩:XM)]++X).map XM.kill,[u],us',Tk.one hv (hE.append hk.ext).kill (by rw[VL];rfl),fun m hm _=> ?_,by rw[VM];rfl,fun p hp=>(by cases hp),rfl,fun R' H' hx _=>⟨VRs.mk (.junk _) VRs.nil,fun p hp=>(by cases hp)⟩⟩
       obtain⟨m',_,rfl⟩:=List.mem_map.1 hm;rfl
      match ss with
      | []=>exact lose [] rfl
      |none::ss=>exact lose (none::ss) rfl
      |some q::ss=>
       have hE:=Ext.one (H:=Hf) (s:=b) (by rw[e];rfl) (some q) undef true false
       obtain⟨X,upre,urest,hk,hnt,hb⟩:=ih cs us1.toList (Hf.set b .dead) r1 rest1 Hf1 ss (hE.hr hh) (hvs.pres hE.pres) h1;have hre:=GZ hn;simp only at hre;subst hre;have hur:urest=[]:=by have:=hk.rest.1;simpa using this.symm
       subst hur;have hus:=hk.us;simp at hus;obtain⟨eu2,_⟩:=hv.cons.1.ptr_inv;have hX:=hE.append hk.ext;refine⟨[⟨some b,some q,undef,true,false⟩]++X,[u],us',Tk.one hv hX (by rw[G4];exact congrArg (some q:: ·) hk.ss),fun m hm ho=> ?_,?_,fun p hp=> ?_,rfl,fun R' H' hx hH=> ?_⟩
       · rcases List.mem_append.1 hm with hm|hm
         · simp at hm
           subst hm;cases ho
         ·exact hnt m hm ho
       · simp only[BJ,List.map_cons,List.filterMap_append,List.filterMap_cons,List.filterMap_nil]
         rw[hb.tgt];rfl
       · simp only[BJ,List.mem_cons]at hp
         rcases hp with rfl|hp
         ·exact⟨⟨(fun h=>by cases h),(fun h=>by cases h)⟩,.inl ⟨_,rfl⟩⟩
         · obtain⟨h3,h4⟩:=hb.live p hp
           exact⟨h3,h4.imp id fun h=>h.imp (fun h=>by rw[G4];exact List.mem_append.2 (.inr h)) id⟩
       · obtain⟨h3,h4⟩:=hb.rel R' H' hx.right fun p hp=>hH p (by simp only[BJ,List.mem_cons];exact .inr hp)
         have eb:R'.β q=Rc.β b:=hx.left.beta _ (List.mem_singleton.2 rfl) rfl q b rfl rfl;have eq0:AE H' q=.box (BJ s r1 ss).vs:=hH (q,.box (BJ s r1 ss).vs) (by simp[BJ])
         refine⟨VRs.mk ?_ VRs.nil,fun p hp=> ?_⟩
         · have:=VR.ptr (R:=R') (H:=H') (w:=w) q 0 (by rw[eq0];exact fun h=>by cases h)
           rw[eb,←eu2]at this;exact this
         · simp only[BJ,List.mem_cons]at hp
           rcases hp with rfl|hp
           · refine⟨e',us1,by rw[eb];exact hg,by rw[eb];exact hx.left.slot _ (List.mem_singleton.2 rfl) b rfl _ hTg,?_,fun i c u hc hu=>⟨h3.2 i c u hc (by rw[←hus,Array.getElem?_toList];exact hu),?_⟩⟩
             · have:=h3.1
               rw[←hus,Array.length_toList]at this;exact this.symm
             · have hlt2:=(Array.getElem?_eq_some_iff.1 hu).1
               rw[hl]at hlt2;exact(hcv i _ u (List.getElem?_eq_getElem hlt2) hu).2
           ·exact h4 p hp
    ·cases h
 |one=>
  intro vs us Hf r rest Hf' ss hh hv h;simp[AZ]at h;obtain⟨rfl,rfl⟩:=h;exact⟨[],[],us,⟨rfl,hv,Ext.nil _,rfl⟩,fun m hm=>(by cases hm),rfl,fun p hp=>(by cases hp),rfl,fun R' H' _ _=>⟨VRs.nil,fun p hp=>(by cases hp)⟩⟩
 |pair a b iha ihb=>
  intro vs us Hf r rest Hf' ss hh hv h;simp only[AZ]at h;obtain⟨⟨r1,rest1,Hf1⟩,h1,h⟩:=Option.bind_eq_some_iff.1 h;obtain⟨⟨r2,rest2,Hf2⟩,h2,h⟩:=Option.bind_eq_some_iff.1 h;simp only[Option.some.injEq,Prod.mk.injEq]at h;obtain⟨rfl,rfl,rfl⟩:=h;obtain⟨X1,up1,ur1,k1,n1,b1⟩:=iha vs us Hf r1 rest1 Hf1 ss hh hv h1;obtain⟨X2,up2,ur2,k2,n2,b2⟩:=ihb rest1 ur1 Hf1 r2 rest2 Hf2 (BJ a r1 ss).ss (k1.ext.hr hh) k1.rest h2;refine⟨X1++X2,up1++up2,ur2,⟨by rw[k1.us,k2.us,List.append_assoc],k2.rest,k1.ext.append k2.ext,by rw[G4,List.append_assoc];exact k1.ss.trans (congrArg (DC X1++ ·) k2.ss)⟩,fun m hm h=> ?_,b1.append b2⟩
  rcases List.mem_append.1 hm with hm|hm
  ·exact n1 m hm h
  ·exact n2 m hm h
end
end Go.Proofs.YthoholbeacojfaaGreat.VR
end
section
set_option linter.unusedVariables false
set_option linter.unusedSimpArgs false
set_option linter.unusedSectionVars false
namespace Go.Proofs.YthoholbeacojfaaGreat.VR
open Go
section
variable {tyK:Kd→TypeId}{R:Re}{H:List E}{w0 w:World}
def HI(Rc R:Re)(H:List E)(X:List XM):Prop:= ∀m∈X,m.own=false→ ∀t,m.tgt=some t→
 (m.pin=false→ ∃s,m.src=some s∧Rc.β s=R.β t)∧(m.pin=true→R.ρ t=m.val)∧AE H t≠ .fresh
theorem HJ.boxT{Rc R:Re}{H:List E}{X:List XM}(h:HJ X):HI Rc R H X:=fun m hm ho t e=>by rw[h m hm ho]at e;cases e
theorem HI.append{Rc R:Re}{H:List E}{X1 X2:List XM}(h1:HI Rc R H X1)(h2:HI Rc R H X2):HI Rc R H (X1++X2):=fun m hm=>by
 rcases List.mem_append.1 hm with hm|hm
 ·exact h1 m hm
 ·exact h2 m hm
def MU(H:List E)(p:Nat×E):Prop:= ∃(k:Kd) (xs:List k.T) (ho:Ho) (r:List k.T),AE H p.1=.root k xs ho∧p.2=.root k r .dirty∧r.length=xs.length
structure Rs(tyK:Kd→TypeId)(Rc:Re)(w:World)(R:Re)(H:List E)(w0:World)(Hf Hf':List E)(rest:List V)(us:List Value)(cvs':List V)(X:List XM)(ss:List (Option Nat))(x:Thawed):Prop where
 split: ∃upre urest,us=upre++urest∧VRs Rc Hf' w rest urest∧VRs R H w0 cvs' urest
 ext:Ext Hf Hf' X
 ss:ss=DC X++x.ss
 box:HI Rc R H X
 back:Back tyK (MU H) Rc w X x.ws [] []
theorem Back.none{Pn:Nat×E→Prop}{Rc:Re}{X:List XM}(h:X.filterMap (·.tgt)=[]):Back tyK Pn Rc w X [] [] []:=
 ⟨h,fun p hp=>(by cases hp),rfl,fun R' H' _ _=>⟨VRs.nil,fun p hp=>(by cases hp)⟩⟩
theorem A8.len{T:Nat→Option Tag}{w:World}{s:Nat}{k:Kd}{xs:List k.T}{ho:Ho}{v:Value}(h:A8 tyK T w s k xs ho v): ∃A cap,v=.slice A xs.length cap:=by
 rcases h with⟨A,rfl,rfl⟩|⟨flat,h1,_⟩
 ·exact⟨A,0,rfl⟩
 · rcases h1.2 with⟨h2,h3⟩|⟨g,cap,cur,h2,_⟩
   ·exact⟨none,0,by rw[h2,h3]⟩
   ·exact⟨_,cap,h2⟩
theorem A8.any{T:Nat→Option Tag}{w:World}{s:Nat}{k:Kd}{xs:List k.T}{ho:Ho}{v:Value}(h:A8 tyK T w s k xs .ok v):A8 tyK T w s k xs ho v:=by
 rcases h with h|⟨flat,h1,h2,h3,h4⟩
 ·exact .inl h
 ·exact .inr ⟨flat,h1,h2,h3,fun i x hx j c hc _=>h4 i x hx j c hc (fun h=>h)⟩
theorem pQ{Rc:Re}(hhc:HR tyK R H w0): ∀(sh:Sh) (cvs vs:List V) (us:List Value) (Hf:List E) (r:sh.T) (rest:List V) (Hf':List E) (ss:List (Option Nat)),HR tyK Rc Hf w→VRs Rc Hf w vs us→VRs R H w0 cvs us→Dq H sh cvs=true→
 AZ sh vs Hf=some (r,rest,Hf')→ ∃X,Rs tyK Rc w R H w0 Hf Hf' rest us (skip sh cvs) X ss (DF sh cvs r ss):=by
 intro sh;have lost: ∀(sh:Sh) (cvs vs:List V) (us:List Value) (Hf:List E) (r:sh.T) (rest:List V) (Hf':List E) (ss:List (Option Nat)),(∀x y,AZ sh (x::y) Hf=some (r,rest,Hf')→rest=y)→(∃x y,vs=x::y)→
  HR tyK Rc Hf w→VRs Rc Hf w vs us→VRs R H w0 cvs us→AZ sh vs Hf=some (r,rest,Hf')→ ∃X,Rs tyK Rc w R H w0 Hf Hf' rest us cvs.tail X ss ⟨[],[],ss⟩:=by
  rintro sh cvs vs us Hf r rest Hf' ss hre ⟨x,y,rfl⟩ hh hv hc h;obtain⟨X,upre,urest,hk,_,_⟩:=Ss (Pn:=fun _=>False) sh (x::y) us Hf r rest Hf' [] hh hv h
  have he:=hre x y h;subst he;obtain⟨u,us',rfl⟩:=hv.left;cases cvs with
  |nil=>have:=hc.1;simp at this
  |cons cv cvs=>
   exact⟨X.map XM.kill,⟨[u],us',rfl,hv.cons.2.pres hk.ext.pres,hc.cons.2⟩,hk.ext.kill,by rw[VL];rfl,fun m hm _ t e=>(by
    obtain⟨m',_,rfl⟩:=List.mem_map.1 hm;cases e),Back.none (VM X)⟩
 have cons_of: ∀{sh:Sh} {vs:List V} {Hf:List E} {x:sh.T×List V×List E},(∀H,AZ sh [] H=none)→AZ sh vs Hf=some x→ ∃a b,vs=a::b:=by
  intro sh vs Hf x h0 h;cases vs with
  |nil=>rw[h0]at h;cases h
  |cons a b=>exact⟨a,b,rfl⟩
 induction sh with
 |pair a b iha ihb=>
  intro cvs vs us Hf r rest Hf' ss hh hv hc hpn h;simp only[AZ]at h;simp only[Dq,Bool.and_eq_true]at hpn;obtain⟨⟨r1,rest1,Hf1⟩,h1,h⟩:=Option.bind_eq_some_iff.1 h;obtain⟨⟨r2,rest2,Hf2⟩,h2,h⟩:=Option.bind_eq_some_iff.1 h;simp only[Option.some.injEq,Prod.mk.injEq]at h;obtain⟨rfl,rfl,rfl⟩:=h;obtain⟨X1,s1⟩:=iha cvs vs us Hf r1 rest1 Hf1 ss hh hv hc hpn.1 h1;obtain⟨up1,ur1,e1,v1,c1⟩:=s1.split;obtain⟨X2,s2⟩:=ihb (skip a cvs) rest1 ur1 Hf1 r2 rest2 Hf2 (DF a cvs r1 ss).ss (s1.ext.hr hh) v1 c1 hpn.2 h2;obtain⟨up2,ur2,e2,v2,c2⟩:=s2.split;exact⟨X1++X2,⟨up1++up2,ur2,by rw[e1,e2,List.append_assoc],v2,c2⟩,s1.ext.append s2.ext,by rw[G4,List.append_assoc];exact s1.ss.trans (congrArg (DC X1++ ·) s2.ss),s1.box.append s2.box,s1.back.append s2.back⟩
 |one=>
  intro cvs vs us Hf r rest Hf' ss hh hv hc _ h;simp[AZ]at h;obtain⟨rfl,rfl⟩:=h;exact⟨[],⟨[],us,rfl,hv,hc⟩,Ext.nil _,rfl,fun m hm=>(by cases hm),Back.none rfl⟩
 |box s ih=>
  intro cvs vs us Hf r rest Hf' ss hh hv hc _ h;have hre: ∀x y,AZ (.box s) (x::y) Hf=some (r,rest,Hf')→rest=y:=by
   intro x y h;cases x<;>(try simp only[AZ]at h)<;>first|(cases h;done)|skip
   rename_i b j;cases j with
   |succ j=>first|(cases h;done)|(simp[AZ]at h;done)
   |zero=>
    (try simp only[AZ]at h)
    split at h
    · obtain⟨⟨r1,rest1,Hf1⟩,h1,h⟩:=Option.bind_eq_some_iff.1 h
      obtain⟨hn,h⟩:=AQ h;simp only[Option.some.injEq,Prod.mk.injEq]at h;exact h.2.1.symm
    ·cases h
  obtain⟨v,vs',rfl⟩:=cons_of (fun H=>rfl) h
  have gen:=lost (.box s) cvs (v::vs') us Hf r rest Hf' ss hre ⟨v,vs',rfl⟩ hh hv hc h;obtain⟨u,us',rfl⟩:=hv.left;cases cvs with
  |nil=>have:=hc.1;simp at this
  |cons cv cvs=>
   by_cases hcv: ∃b,cv=.ptr b 0
   · obtain⟨b,rfl⟩:=hcv
     cases v<;>(try simp only[AZ]at h)<;>first|(cases h;done)|skip
     rename_i q j;cases j with
     |succ j=>first|(cases h;done)|(simp[AZ]at h;done)
     |zero=>
      (try simp only[AZ]at h)
      split at h
      · rename_i cs e
        obtain⟨⟨r1,rest1,Hf1⟩,h1,h⟩:=Option.bind_eq_some_iff.1 h;obtain⟨hn,h⟩:=AQ h;simp only[Option.some.injEq,Prod.mk.injEq]at h;obtain⟨rfl,rfl,rfl⟩:=h;have h0:AE Hf q≠ .fresh:=by rw[e];exact fun h=>by cases h
        have hE:=Ext.one (H:=Hf) (s:=q) (by rw[e];rfl) (some b) undef false false
        have hER:=hh.at_ q (BO h0);rw[e]at hER;obtain⟨e',us1,hg,hTg,hl,hcv⟩:=hER;have hvs:VRs Rc Hf w cs us1.toList:=⟨by rw[Array.length_toList];exact hl.symm,fun i c u hc hu=>(hcv i c u hc (by rw[←Array.getElem?_toList];exact hu)).1⟩
        obtain⟨X,upre,urest,hk,hnt,hb⟩:=Ss (Pn:=MU H) s cs us1.toList (Hf.set q .dead) r1 rest1 Hf1 ss (hE.hr hh) (hvs.pres hE.pres) h1;have hre:=GZ hn;simp only at hre;subst hre;have hur:urest=[]:=by have:=hk.rest.1;simpa using this.symm
        subst hur;have hus:=hk.us;simp at hus;obtain⟨eu1,hb0⟩:=hc.cons.1.ptr_inv;obtain⟨eu2,_⟩:=hv.cons.1.ptr_inv;have eβ:Rc.β q=R.β b:=by
         rw[eu1]at eu2;simp only[Value.pointer.injEq,Option.some.injEq,Addr.mk.injEq,and_true]at eu2;exact eu2.symm
        have hX:=hE.append hk.ext;refine⟨[⟨some q,some b,undef,false,false⟩]++X,⟨[u],us',rfl,hv.cons.2.pres hX.pres,hc.cons.2⟩,hX,hk.ss,fun m hm ho t et=> ?_,?_,fun p hp=> ?_,rfl,fun R' H' hx hH=>⟨VRs.nil,fun p hp=> ?_⟩⟩
        · rcases List.mem_append.1 hm with hm|hm
          · simp at hm
            subst hm;injection et with et
            subst et;exact⟨fun _=>⟨q,rfl,eβ⟩,(fun h=>by cases h),hb0⟩
          ·rw[hnt m hm ho]at et;cases et
        · simp only[DF,List.map_cons,List.filterMap_append,List.filterMap_cons,List.filterMap_nil]
          rw[hb.tgt];rfl
        · simp only[DF,List.mem_cons]at hp
          rcases hp with rfl|hp
          ·exact⟨⟨(fun h=>by cases h),(fun h=>by cases h)⟩,.inl ⟨_,rfl⟩⟩
          · obtain⟨h3,h4⟩:=hb.live p hp
            exact⟨h3,h4.imp id fun h=>h.imp (fun h=>by rw[G4];exact List.mem_append.2 (.inr h)) id⟩
        · obtain⟨h3,h4⟩:=hb.rel R' H' hx.right fun p hp=>hH p (by simp only[DF,List.mem_cons];exact .inr hp)
          simp only[DF,List.mem_cons]at hp;rcases hp with rfl|hp
          · have eb:R'.β b=Rc.β q:=hx.left.beta _ (List.mem_singleton.2 rfl) rfl b q rfl rfl
            refine⟨e',us1,by rw[eb];exact hg,by rw[eb];exact hx.left.slot _ (List.mem_singleton.2 rfl) q rfl _ hTg,?_,fun i c u hc hu=>⟨h3.2 i c u hc (by rw[←hus,Array.getElem?_toList];exact hu),?_⟩⟩
            · have:=h3.1
              rw[←hus,Array.length_toList]at this;exact this.symm
            · have hlt2:=(Array.getElem?_eq_some_iff.1 hu).1
              rw[hl]at hlt2;exact(hcv i _ u (List.getElem?_eq_getElem hlt2) hu).2
          ·exact h4 p hp
      ·cases h
   · have e:DF (.box s) (cv::cvs) r ss=⟨[],[],ss⟩:=by
      cases cv with
      |ptr b j=>
       cases j with
       |zero=>exact absurd ⟨b,rfl⟩ hcv
       |succ j=>rfl
      |_=>rfl
     rw[e];exact gen
 |own k=>
  intro cvs vs us Hf r rest Hf' ss hh hv hc hpn h;have hre: ∀x y,AZ (.own k) (x::y) Hf=some (r,rest,Hf')→rest=y:=by
   intro x y h;cases x<;>(try simp only[AZ]at h)<;>first|(cases h;done)|skip
   ·simp only[Option.some.injEq,Prod.mk.injEq]at h;exact h.2.1.symm
   ·simp only[Option.some.injEq,Prod.mk.injEq]at h;exact h.2.1.symm
   · split at h
     · obtain⟨_,h⟩:=AQ h
       split at h
       ·simp only[Option.some.injEq,Prod.mk.injEq]at h;exact h.2.1.symm
       ·cases h
     ·cases h
  obtain⟨v,vs',rfl⟩:=cons_of (fun H=>rfl) h
  have gen:=lost (.own k) cvs (v::vs') us Hf r rest Hf' ss hre ⟨v,vs',rfl⟩ hh hv hc h;obtain⟨u,us',rfl⟩:=hv.left;cases cvs with
  |nil=>have:=hc.1;simp at this
  |cons cv cvs=>
   by_cases hcv: ∃q,cv=.bor q
   · obtain⟨q,rfl⟩:=hcv
     simp only[Dq]at hpn;split at hpn
     · rename_i k' xs ho eq
       have hkk:k'=k:=of_decide_eq_true hpn;subst hkk;have eu:=hc.cons.1.bor_inv eq;obtain⟨A0,cap0,el⟩:=(Bq hhc eq).len;rw[←eu]at el;have hq0:AE H q≠ .fresh:=by rw[eq];exact fun h=>by cases h
       have fin: ∀(src:Option Nat) (r:List k'.T) (Hf':List E),Ext Hf Hf' [⟨src,some q,u,false,true⟩]→r.length=xs.length→
        (∀(T':Nat→Option Tag),(∀s,src=some s→(∀g,Rc.T g=some (.slot s)→T' g=some (.slot q))∧ ∀g i j,Rc.T g=some (.nest s i j)→T' g=some (.nest q i j))→A8 tyK T' w q k' r .ok u)→
        ∃X,Rs tyK Rc w R H w0 Hf Hf' vs' (u::us') cvs X ss ⟨[],[(q,.root k' r .dirty)],ss⟩:=by
        intro src r Hf' hX hlen hown;refine⟨[⟨src,some q,u,false,true⟩],⟨[u],us',rfl,hv.cons.2.pres hX.pres,hc.cons.2⟩,hX,rfl,fun m hm _ t et=> ?_,rfl,fun p hp=> ?_,rfl,fun R' H' hx hH=>⟨VRs.nil,fun p hp=> ?_⟩⟩
        · simp at hm
          subst hm;injection et with et
          subst et;exact⟨(fun h=>by cases h),fun _=>eu.symm,hq0⟩
        · simp at hp
          subst hp;exact⟨⟨(fun h=>by cases h),(fun h=>by cases h)⟩,.inr (.inr ⟨k',xs,ho,r,eq,rfl,hlen⟩)⟩
        · simp at hp
          subst hp;have erho:R'.ρ q=u:=hx.rho _ (List.mem_singleton.2 rfl) (.inr rfl) q rfl;show A8 tyK R'.T w q k' r .dirty (R'.ρ q);rw[erho];exact(hown R'.T fun s es=>⟨fun g hg=>hx.slot _ (List.mem_singleton.2 rfl) s es g hg,fun g i j hg=>hx.nest _ (List.mem_singleton.2 rfl) s es g i j hg⟩).any
       have hemp:(∃A,u=.slice A 0 0)→(0:Nat)=xs.length:=by
        rintro⟨A,e⟩;rw[e]at el;injection el with _ el _
       have hrest:=hre _ _ h;subst hrest;have hv1:=hv.cons.1;cases v<;>(try simp only[AZ]at h)<;>first|(cases h;done)|skip
       · simp only[Option.some.injEq,Prod.mk.injEq]at h
         obtain⟨rfl,_,rfl⟩:=h;have eA: ∃A,u=.slice A 0 0:=by cases hv1;exact⟨_,rfl⟩
         exact fin none [] Hf (Ext.keep _ _ _ _) (hemp eA) fun T' _=>by obtain⟨A,rfl⟩:=eA;exact .inl ⟨A,rfl,rfl⟩
       · simp only[Option.some.injEq,Prod.mk.injEq]at h
         obtain⟨rfl,_,rfl⟩:=h;have eA: ∃A,u=.slice A 0 0:=by cases hv1;exact⟨_,rfl⟩
         exact fin none [] Hf (Ext.keep _ _ _ _) (hemp eA) fun T' _=>by obtain⟨A,rfl⟩:=eA;exact .inl ⟨A,rfl,rfl⟩
       · rename_i s
         split at h
         · rename_i k2 xs2 ho2 e
           obtain⟨hw,h⟩:=AQ h;split at h
           · rename_i hk2
             subst hk2;simp only[Option.some.injEq,Prod.mk.injEq]at h;obtain⟨rfl,_,rfl⟩:=h;have eu2:=hv1.bor_inv e;obtain⟨A2,cap2,el2⟩:=(Bq hh e).len;rw[←eu2,el]at el2;injection el2 with _ el2 _
             refine fin (some s) xs2 (Hf.set s .dead) (Ext.one (by rw[e];exact hw) _ _ _ _) el2.symm fun T' hs=> ?_
             rw[eu2];exact(Bq hh e).retag hw (hs s rfl).1 (hs s rfl).2
           ·cases h
         ·cases h
     ·cases hpn
   · have e:DF (.own k) (cv::cvs) r ss=⟨[],[],ss⟩:=by
      cases cv<;>first|rfl|exact absurd ⟨_,rfl⟩ hcv
     rw[e];exact gen
 |agg s ih=>
  intro cvs vs us Hf r rest Hf' ss hh hv hc hpn h;have hre: ∀x y,AZ (.agg s) (x::y) Hf=some (r,rest,Hf')→rest=y:=by
   intro x y h;cases x<;>(try simp only[AZ]at h)<;>first|(cases h;done)|skip
   obtain⟨_,_,h⟩:=Option.bind_eq_some_iff.1 h;obtain⟨_,h⟩:=AQ h;simp only[Option.some.injEq,Prod.mk.injEq]at h;exact h.2.1.symm
  obtain⟨v,vs',rfl⟩:=cons_of (fun H=>rfl) h
  have gen:=lost (.agg s) cvs (v::vs') us Hf r rest Hf' ss hre ⟨v,vs',rfl⟩ hh hv hc h;obtain⟨u,us',rfl⟩:=hv.left;cases cvs with
  |nil=>have:=hc.1;simp at this
  |cons cv cvs=>
   by_cases hcv: ∃xs,cv=.agg xs
   · obtain⟨cxs,rfl⟩:=hcv
     simp only[Dq]at hpn;cases v<;>(try simp only[AZ]at h)<;>first|(cases h;done)|skip
     rename_i ws;obtain⟨⟨r1,rest1,Hf1⟩,h1,h⟩:=Option.bind_eq_some_iff.1 h;obtain⟨hn,h⟩:=AQ h;simp only[Option.some.injEq,Prod.mk.injEq]at h;obtain⟨rfl,rfl,rfl⟩:=h;have hv1:=hv.cons.1;have hc1:=hc.cons.1;generalize hu:u=uu at hc1;cases hv1 with
     |agg _ us1 hl hr=>
      cases hc1 with
      |agg _ us2 hl2 hr2=>
       have e12:us1=us2:=by injection hu with hu;injection hu
       subst e12;obtain⟨X,sX⟩:=ih cxs ws us1 Hf r1 rest1 Hf1 ss hh ⟨hl,hr⟩ ⟨hl2,hr2⟩ hpn h1;exact⟨X,⟨[_],us',rfl,hv.cons.2.pres sX.ext.pres,hc.cons.2⟩,sX.ext,sX.ss,sX.box,sX.back⟩
   · have e:DF (.agg s) (cv::cvs) r ss=⟨[],[],ss⟩:=by
      cases cv<;>first|rfl|exact absurd ⟨_,rfl⟩ hcv
     rw[e];exact gen
 |int=>
  intro cvs vs us Hf r rest Hf' ss hh hv hc _ h;exact lost .int cvs vs us Hf r rest Hf' ss (fun x y h=>by cases x<;>simp[AZ]at h;exact h.2.1.symm) (cons_of (fun H=>rfl) h) hh hv hc h
 |u8=>
  intro cvs vs us Hf r rest Hf' ss hh hv hc _ h;exact lost .u8 cvs vs us Hf r rest Hf' ss (fun x y h=>by cases x<;>simp[AZ]at h;exact h.2.1.symm) (cons_of (fun H=>rfl) h) hh hv hc h
 |bool=>
  intro cvs vs us Hf r rest Hf' ss hh hv hc _ h;exact lost .bool cvs vs us Hf r rest Hf' ss (fun x y h=>by cases x<;>simp[AZ]at h;exact h.2.1.symm) (cons_of (fun H=>rfl) h) hh hv hc h
 |str=>
  intro cvs vs us Hf r rest Hf' ss hh hv hc _ h;exact lost .str cvs vs us Hf r rest Hf' ss (fun x y h=>by cases x<;>simp[AZ]at h;exact h.2.1.symm) (cons_of (fun H=>rfl) h) hh hv hc h
 |junk=>
  intro cvs vs us Hf r rest Hf' ss hh hv hc _ h;exact lost .junk cvs vs us Hf r rest Hf' ss (fun x y h=>by simp[AZ]at h;exact h.1.symm) (cons_of (fun H=>rfl) h) hh hv hc h
 |jc=>
  intro cvs vs us Hf r rest Hf' ss hh hv hc _ h;exact lost .jc cvs vs us Hf r rest Hf' ss (fun x y h=>by simp only[AZ]at h;obtain⟨_,h⟩:=AQ h;injection h with h;obtain⟨_,h⟩:=Prod.mk.inj h;exact(Prod.mk.inj h).1.symm) (cons_of (fun H=>rfl) h) hh hv hc h
 |ro k=>
  intro cvs vs us Hf r rest Hf' ss hh hv hc _ h;refine lost (.ro k) cvs vs us Hf r rest Hf' ss (fun x y h=> ?_) (cons_of (fun H=>rfl) h) hh hv hc h
  cases x<;>(try simp only[AZ]at h)<;>first|(cases h;done)|skip
  ·simp only[Option.some.injEq,Prod.mk.injEq]at h;exact h.2.1.symm
  ·simp only[Option.some.injEq,Prod.mk.injEq]at h;exact h.2.1.symm
  · rename_i p k' xs
    cases p with
    |false=>first|(cases h;done)|(simp[AZ]at h;done)
    |true=>
     (try simp only[AZ]at h)
     split at h
     ·simp only[Option.some.injEq,Prod.mk.injEq]at h;exact h.2.1.symm
     ·cases h
 |tup s ih=>
  intro cvs vs us Hf r rest Hf' ss hh hv hc _ h;refine lost (.tup s) cvs vs us Hf r rest Hf' ss (fun x y h=> ?_) (cons_of (fun H=>rfl) h) hh hv hc h
  cases x<;>(try simp only[AZ]at h)<;>first|(cases h;done)|skip
  obtain⟨_,_,h⟩:=Option.bind_eq_some_iff.1 h;obtain⟨_,h⟩:=AQ h;simp only[Option.some.injEq,Prod.mk.injEq]at h;exact h.2.1.symm
end
end Go.Proofs.YthoholbeacojfaaGreat.VR
end
