/- Each operation that leaves memory alone does in the model what it does here. -/
import Derived.Test.YthoholbeacojfaaGreatA1
import Derived.Lib.SliceRun
import Derived.Laws.Slices
set_option linter.unusedVariables false
set_option linter.unusedSimpArgs false
set_option linter.unusedSectionVars false
section
set_option linter.unusedVariables false
set_option linter.unusedSimpArgs false
namespace Go.Proofs.YthoholbeacojfaaGreat.VR
open Go
section
variable {P:Program}{Tb:TypeId→Option TI}{tyK:Kd→TypeId}{R:Re}{H:List E}{w:World}{a:Act}{o:Oper}{oa:OA}{tm:List V}{α:Type}{r:α}{Co:Orc}{k:Eff→Option α}
def Aa(P:Program)(tyK:Kd→TypeId)(o:Oper)(a:Act)(w:World)(R:Re)(H:List E)(k:Eff→Option α)(r:α):Prop:= ∃e,k e=some r∧Cj P tyK o a w R H e
theorem Aa.pure{v:Value}{x:V}(hh:HR tyK R H w)(hk:k ⟨x,[]⟩=some r)(hr:(execOp a.eval o).run P w=.ok (.value v) w)(hv:VR R H w x v):Aa P tyK o a w R H k r:=
 ⟨_,hk,Cj.pure hh hr hv⟩
variable (hT:TbOk P Tb tyK)(hh:HR tyK R H w)(ht:VRs R H w tm a.tmps.toList)
include hh ht
theorem fA{x:Operand}(ho:o.op=.move x)(h:opK Tb tyK Co o oa tm H k=some r):Aa P tyK o a w R H k r:=by
 simp only[opK,ho]at h;exact Aa.pure hh h (by simp[execOp,ho]) (A6 ht x)
theorem eK{x:Operand}(ho:o.op=.assign x)(h:opK Tb tyK Co o oa tm H k=some r):Aa P tyK o a w R H k r:=by
 simp only[opK,ho]at h;exact Aa.pure hh h (by simp[execOp,ho]) (A6 ht x)
theorem fC{c x y:Operand}(ho:o.op=.pick c x y)(h:opK Tb tyK Co o oa tm H k=some r):Aa P tyK o a w R H k r:=by
 simp only[opK,ho]at h;obtain⟨b,hb,h⟩:=TV h;have hc:=A6 ht c;rw[hb]at hc;have hc:=hc.bool_inv;have hx:=A6 ht x;have hy:=A6 ht y;have hrun:(execOp a.eval o).run P w=.ok (.value (if b then a.eval x else a.eval y)) w:=by simp[execOp,ho,hc,asBool]
 have gen: ∀vx vy,ev tm x=vx→ev tm y=vy→cond b (k ⟨vx,[]⟩) (k ⟨vy,[]⟩)=some r→Aa P tyK o a w R H k r:=by
  intro vx vy e1 e2 h;cases b with
  |true=>exact Aa.pure hh h hrun (by rw[←e1];exact hx)
  |false=>exact Aa.pure hh h hrun (by rw[←e2];exact hy)
 split at h
 · rename_i p q e1 e2
   rw[e1]at hx;rw[e2]at hy;refine Aa.pure hh h hrun ?_;cases b with
   |true=>exact hx
   |false=>exact hy
 · rename_i e1
   exact gen _ _ rfl rfl h
include hT
theorem eL{op:BinOp}{t t':TypeId}{x y:Operand}(ho:o.op=.binOp op t x y t')(h:opK Tb tyK Co o oa tm H k=some r):Aa P tyK o a w R H k r:=by
 simp only[opK,ho]at h;have hx:=A6 ht x;have hy:=A6 ht y;have hrun: ∀u,(∀ux uy,a.eval x=ux→a.eval y=uy→(eqGuard op t x y ux uy).run P w=.ok () w∧(binOp op t ux uy).run P w=.ok u w)→(execOp a.eval o).run P w=.ok (.value u) w:=by
  intro u hu;obtain⟨h1,h2⟩:=hu _ _ rfl rfl;simp[execOp,ho,h1,h2]
 have nil_sound: ∀{b:Bool} {A:Option Addr} {n c n' c':Nat},Lm Tb t=true→(HN op b fun b=>k ⟨.bool b,[]⟩)=some r→a.eval x=.slice A n c→a.eval y=.slice none n' c'→A.isNone=b→Aa P tyK o a w R H k r:=by
  intro b A n c n' c' h1 h2 h3 h4 h5;unfold Lm at h1;split at h1
  rotate_left
  ·cases h1
  rename_i e z1 z2 z3 htb;obtain⟨hun,_⟩:=hT.inf _ _ htb;unfold HN at h2;split at h2
  · refine Aa.pure hh h2 (hrun (.bool b) fun ux uy e3 e4=> ?_) (.bool _)
    rw[←e3,←e4,h3,h4,←h5];exact⟨rfl,Lib.run_eql_slice_nil w t e A n c n' c' hun⟩
  ·cases h2
 split at h
 · rename_i p q e1 e2
   rw[e1]at hx;rw[e2]at hy;obtain⟨v,u,hk,hv,hr⟩:=Z2 (P:=P) (R:=R) (H:=H) (w:=w) t h;refine Aa.pure hh hk (hrun u fun ux uy e3 e4=> ?_) hv
   rw[←e3,←e4,hx.int_inv,hy.int_inv];exact⟨by unfold eqGuard;cases op<;>rfl,hr w⟩
 · rename_i p q e1 e2
   rw[e1]at hx;rw[e2]at hy;obtain⟨v,u,hk,hv,hr⟩:=Z6 (P:=P) (R:=R) (H:=H) (w:=w) t h;refine Aa.pure hh hk (hrun u fun ux uy e3 e4=> ?_) hv
   rw[←e3,←e4,hx.u8_inv,hy.u8_inv];exact⟨by unfold eqGuard;cases op<;>rfl,hr w⟩
 · rename_i p q e1 e2
   rw[e1]at hx;rw[e2]at hy;obtain⟨v,u,hk,hv,hr⟩:=Z4 (P:=P) (R:=R) (H:=H) (w:=w) t h;refine Aa.pure hh hk (hrun u fun ux uy e3 e4=> ?_) hv
   rw[←e3,←e4,hx.str_inv,hy.str_inv];exact⟨by unfold eqGuard;cases op<;>rfl,hr w⟩
 · rename_i p q e1 e2
   rw[e1]at hx;rw[e2]at hy;split at h
   · rename_i z1 z2 z3 htb
     obtain⟨hun,_⟩:=hT.inf _ _ htb;have heq: ∀w:World,(Op.equal t (.bool p) (.bool q)).run P w=.ok (p==q) w:=fun w=>YD 9999 t p q hun
     split at h
     · refine Aa.pure hh h (hrun (.bool (p==q)) fun ux uy e3 e4=> ?_) (.bool _)
       rw[←e3,←e4,hx.bool_inv,hy.bool_inv];exact⟨rfl,by simp[binOp,heq]⟩
     · refine Aa.pure hh h (hrun (.bool (!(p==q))) fun ux uy e3 e4=> ?_) (.bool _)
       rw[←e3,←e4,hx.bool_inv,hy.bool_inv];exact⟨rfl,by simp[binOp,heq]⟩
     ·cases h
   ·cases h
 · rename_i p q e1 e2
   rw[e1]at hx;rw[e2]at hy;obtain⟨us,hus,hx2⟩:=VRs.agg_inv hx;obtain⟨vs,hvs,hy2⟩:=VRs.agg_inv hy;split at h
   · obtain⟨h1,h⟩:=AQ h
     obtain⟨q,hq,h⟩:=Option.bind_eq_some_iff.1 h;obtain⟨h2,h3⟩:=YE hT h1 hx2 hy2 hq;refine Aa.pure hh h (hrun (.bool q) fun ux uy e3 e4=> ?_) (.bool _)
     rw[←e3,←e4,hus,hvs];refine⟨by simp[eqGuard,h3],by simp[binOp,h2]⟩
   · obtain⟨h1,h⟩:=AQ h
     obtain⟨q,hq,h⟩:=Option.bind_eq_some_iff.1 h;obtain⟨h2,h3⟩:=YE hT h1 hx2 hy2 hq;refine Aa.pure hh h (hrun (.bool (!q)) fun ux uy e3 e4=> ?_) (.bool _)
     rw[←e3,←e4,hus,hvs];refine⟨by simp[eqGuard,h3],by simp[binOp,h2]⟩
   ·cases h
 · rename_i e1 e2
   rw[e1]at hx;rw[e2]at hy;obtain⟨h1,h⟩:=AQ h;refine nil_sound h1 h (A:=none) (n:=0) (c:=0) (n':=0) (c':=0) ?_ ?_ rfl
   ·generalize a.eval x=z at hx⊢;cases hx;rfl
   ·generalize a.eval y=z at hy⊢;cases hy;rfl
 · rename_i b e1 e2
   rw[e1]at hx;rw[e2]at hy;obtain⟨h1,h⟩:=AQ h;obtain⟨A,cap,hu,hb⟩: ∃A cap,a.eval x=.slice A 0 cap∧A.isNone=b:=by
    generalize a.eval x=z at hx⊢;cases hx;exact⟨_,_,rfl,by assumption⟩
   refine nil_sound h1 h (A:=A) (n:=0) (c:=cap) (n':=0) (c':=0) hu ?_ hb;generalize a.eval y=z at hy⊢;cases hy;rfl
 · rename_i p q xs e1 e2
   rw[e1]at hx;rw[e2]at hy;obtain⟨h1,h⟩:=AQ h;obtain⟨he,h⟩:=Dz h;obtain⟨A,cap,hu,_,_,hc⟩:=hx.ro_inv;have hA:A.isNone=false:=by
    cases xs with
    |nil=>simp at he
    |cons z zs=>
     obtain⟨b,o,e,_⟩:=hc 0 z rfl;rw[e];rfl
   refine nil_sound h1 h (A:=A) (n:=xs.length) (c:=cap) (n':=0) (c':=0) hu ?_ hA;generalize a.eval y=z at hy⊢;cases hy;rfl
 · rename_i p e1 e2
   rw[e1]at hx;obtain⟨v,u,b,hk,hv,ey,hr⟩:=sB (P:=P) (R:=R) (H:=H) (w:=w) t h;subst ey;refine Aa.pure hh hk (hrun u fun ux uy e3 e4=> ?_) hv
   rw[←e3,←e4,hx.int_inv];exact⟨by unfold eqGuard;cases op<;>rfl,hr w⟩
 ·cases h
omit hT
theorem fH{op:UnOp}{t:TypeId}{x:Operand}(ho:o.op=.unOp op t x)(h:opK Tb tyK Co o oa tm H k=some r):Aa P tyK o a w R H k r:=by
 simp only[opK,ho]at h;have hx:=A6 ht x;split at h
 · rename_i b e1
   rw[e1]at hx;exact Aa.pure hh h (by simp[execOp,ho,hx.bool_inv,Op.unary]) (.bool _)
 · rename_i b e1
   rw[e1]at hx;exact Aa.pure hh h (by simp[execOp,ho,hx.int_inv,Op.unary,Op.intArith]) (.int _)
 ·cases h
theorem fB{x:Operand}(ho:o.op=.nilCheck x)(h:opK Tb tyK Co o oa tm H k=some r):Aa P tyK o a w R H k r:=by
 simp only[opK,ho]at h;have hx:=A6 ht x;split at h
 · rename_i cs j e1
   rw[e1]at hx;refine Aa.pure hh h (v:=a.eval x) ?_ hx;cases hx':a.eval x<;>rw[hx']at hx<;>cases hx;simp[execOp,ho,hx']
 · rename_i b j e1
   rw[e1]at hx;refine Aa.pure hh h (v:=a.eval x) ?_ hx;cases hx':a.eval x<;>rw[hx']at hx<;>cases hx;simp[execOp,ho,hx']
 · rename_i q i j e1
   rw[e1]at hx;split at h
   · rename_i e2
     cases hx':a.eval x<;>rw[hx']at hx<;>cases hx
     all_goals(rename_i h0 h1 h2;obtain⟨_,g,n,cap,_,hv⟩:=h2 _ _ _ e2)
     all_goals first|(cases hv;done)|skip
     injection hv with hv
     subst hv;exact Aa.pure hh h (by simp[execOp,ho,hx']) (.ep _ _ _ _ h1 h0 h2)
   ·cases h
 · rename_i f cs e1
   rw[e1]at hx;refine Aa.pure hh h (v:=a.eval x) ?_ hx;cases hx':a.eval x<;>rw[hx']at hx<;>cases hx;simp[execOp,ho,hx']
 ·cases h
include hT
theorem eW{t:TypeId}{x:Operand}{fld:Nat}(ho:o.op=.fieldAddr t x fld)(h:opK Tb tyK Co o oa tm H k=some r):Aa P tyK o a w R H k r:=by
 simp only[opK,ho]at h;have hx:=A6 ht x;split at h
 · rename_i fs z1 z2 z3 htb
   obtain⟨hun,_⟩:=hT.inf _ _ htb;split at h
   · rename_i f hf
     split at h
     · rename_i ti htf
       obtain⟨_,i,hi,_,hs,_⟩:=hT.inf _ _ htf;obtain⟨h1,h⟩:=Dz h;have h1:ti.size≠0:=of_decide_eq_false h1;have hrun: ∀b q,a.eval x=.pointer (some ⟨b,q,none⟩)→(execOp a.eval o).run P w=.ok (.value (.pointer (some ⟨b,q+f.offset,none⟩))) w:=by
        intro b q e;simp[execOp,ho,e,Instr.fieldAt,run_underlying hun,hf,Instr.sureAddr,fieldPlace,sizeOf,typeInfo,hi,hs,h1,Cy]
       split at h
       · rename_i cs j e1
         rw[e1]at hx;obtain⟨b,q,e2,h2,h3⟩:=hx.rp_inv;exact Aa.pure hh h (hrun b (q+j) e2) (by rw[Nat.add_assoc];exact VR.rp_mk _ h2 h3)
       · rename_i b j e1
         rw[e1]at hx;obtain⟨e2,h2⟩:=hx.ptr_inv;exact Aa.pure hh h (hrun _ j e2) (.ptr _ _ h2)
       · rename_i q i j e1
         rw[e1]at hx;split at h
         · rename_i kd xs ho' e3
           obtain⟨hi,g,n,cap,hr,e2⟩:=hx.ep_inv e3;exact Aa.pure hh h (hrun _ _ e2) (by rw[Nat.add_assoc];exact VR.ep_mk e3 hi hr)
         ·cases h
       ·cases h
     ·cases h
   ·cases h
 ·cases h
theorem eX{t:TypeId}{x ix:Operand}(ho:o.op=.indexAddr t x ix)(h:opK Tb tyK Co o oa tm H k=some r):Aa P tyK o a w R H k r:=by
 simp only[opK,ho]at h;have hx:=A6 ht x;have hix:=A6 ht ix;split at h
 · rename_i e z1 z2 z3 htb
   obtain⟨hun,_⟩:=hT.inf _ _ htb;obtain⟨i,hi,h⟩:=KR h;rw[hi]at hix;have hix:=hix.int_inv;have hrun: ∀b q n cap (kd:Kd),a.eval x=.slice (some ⟨b,q,none⟩) n cap→Cg Tb e kd=true→0≤i→i<(n:Int)→(execOp a.eval o).run P w=.ok (.value (.pointer (some ⟨b,q+i.toNat*kd.size,none⟩))) w:=by
    intro b q n cap kd ex hsz h0 h1;obtain⟨ti,inf,_,_,hi2,_,hs,_⟩:=Ec (P:=P) hT hsz;simp[execOp,ho,ex,hix,Instr.indexAt,asIntOf,run_underlying hun,sizeOf,typeInfo,hi2,hs,h0,h1,Cy]
   split at h
   · rename_i p q xs e1
     rw[e1]at hx;obtain⟨h1,h⟩:=AQ h;simp only[Bool.and_eq_true,decide_eq_true_eq]at h1;obtain⟨⟨h1,h2⟩,h3⟩:=h1;have hlt:i.toNat<xs.length:=by omega
     obtain⟨b,oo,cap,eu,hv⟩:=pU hx.ro_inv hlt;exact Aa.pure hh h (hrun b oo _ cap q eu h1 h2 h3) hv
   · rename_i q e1
     rw[e1]at hx;split at h
     · rename_i kd xs ho' e2
       obtain⟨h1,h⟩:=AQ h;simp only[Bool.and_eq_true,decide_eq_true_eq]at h1;obtain⟨⟨h1,h2⟩,h3⟩:=h1;have hlt:i.toNat<xs.length:=by omega
       obtain⟨g,cap,cur,hr,_⟩:=G5 hh e2 hlt;have:=hrun g 0 _ cap kd (by rw[hx.bor_inv e2,hr]) h1 h2 h3
       rw[Nat.zero_add]at this;exact Aa.pure hh h this (VR.ep_mk e2 hlt hr)
     ·cases h
   ·cases h
 ·cases h
theorem ed{t:TypeId}{x:Operand}(ho:o.op=.load t x)(h:opK Tb tyK Co o oa tm H k=some r):Aa P tyK o a w R H k r:=by
 simp only[opK,ho]at h;have hx:=A6 ht x;split at h
 · rename_i ti htb
   have fin: ∀(cs:List V) (j b q:Nat),a.eval x=.pointer (some ⟨b,q+j,none⟩)→(∀(i:Nat) (c:V),cs[i]? =some c→ ∃u,w.cell? ⟨b,q+i,none⟩=some u∧VR R H w c u)→
    ((Fv cs j ti).bind fun v=>k ⟨v,[]⟩)=some r→Aa P tyK o a w R H k r:=by
    intro cs j b q e hc h;obtain⟨v,hp,h⟩:=Option.bind_eq_some_iff.1 h;obtain⟨u,hl,hv⟩:=Ve hT htb hp hc;exact Aa.pure hh h (by simp[execOp,ho,e,Instr.loadAt,Instr.sureAddr,hl]) hv
   split at h
   · rename_i cs j e1
     rw[e1]at hx;obtain⟨b,q,e2,h2,h3⟩:=hx.rp_inv;exact fin cs j b q e2 h3 h
   · rename_i b j e1
     rw[e1]at hx;obtain⟨e2,h2⟩:=hx.ptr_inv;split at h
     · rename_i cs e3
       exact fin cs j _ 0 (by rw[e2,Nat.zero_add]) (Px hh e3) h
     ·cases h
   · rename_i q i j e1
     rw[e1]at hx;split at h
     · rename_i kd xs e3
       obtain⟨hi,g,n,cap,hr,e2⟩:=hx.ep_inv e3;obtain⟨g',cap',cur,hr',_,_,_,_,_,_,hcell⟩:=G5 hh e3 hi;rw[hr]at hr';simp only[Value.slice.injEq,Option.some.injEq,Addr.mk.injEq,and_true]at hr';obtain⟨rfl,rfl,rfl⟩:=hr';refine fin _ j g (i*kd.size) e2 (fun m c hm=> ?_) h
       rw[List.getElem?_map]at hm;obtain⟨⟨c0,m0⟩,hm1,hm2⟩:=Option.map_eq_some_iff.1 hm;rw[List.getElem?_zipIdx]at hm1;obtain⟨c1,hc1,hm3⟩:=Option.map_eq_some_iff.1 hm1;simp only[Prod.mk.injEq,Nat.zero_add]at hm3;obtain⟨rfl,rfl⟩:=hm3;obtain⟨u,hu,hoc⟩:=hcell m c1 hc1 (fun h=>h)
       refine⟨u,hu,?_⟩;subst hm2;cases c1 with
       |nest ys=>
        have hone:u.oneCell'=true:=by
         rcases hoc with⟨A,rfl,_⟩|⟨h5,_⟩
         ·rfl
         ·rcases h5.2 with⟨rfl,_⟩|⟨_,_,_,rfl,_⟩<;>rfl
        refine .borN q i m u hone (by rw[e3];exact fun h=>by cases h) fun k' xs' e'=> ?_
        rw[e3]at e';cases e';exact⟨hi,Vp hc1,g,cap,hr,hu⟩
       |int n=>simp only[Be]at hoc;subst hoc;exact .int n
       |u8 n=>simp only[Be]at hoc;subst hoc;exact .u8 n
       |bool n=>simp only[Be]at hoc;subst hoc;exact .bool n
       |str n=>simp only[Be]at hoc;subst hoc;exact .str n
     · rename_i kd xs e3
       obtain⟨h1,h⟩:=Dz h;obtain⟨hi,g,n,cap,hr,e2⟩:=hx.ep_inv e3;obtain⟨g',cap',cur,hr',_,_,_,_,_,_,hcell⟩:=G5 hh e3 hi;rw[hr]at hr';simp only[Value.slice.injEq,Option.some.injEq,Addr.mk.injEq,and_true]at hr';obtain⟨rfl,rfl,rfl⟩:=hr';refine fin _ j g (i*kd.size) e2 (fun m c hm=> ?_) h
       rw[List.getElem?_map]at hm;obtain⟨c1,hc1,rfl⟩:=Option.map_eq_some_iff.1 hm;obtain⟨u,hu,hoc⟩:=hcell m c1 hc1 (fun h=>h)
       refine⟨u,hu,?_⟩;have hnn: ∀(cs:List C),C.anyNest cs=false→ ∀c∈cs,c.isNest=false:=by
        intro cs
        induction cs with
        |nil=>intro _ c hc;cases hc
        |cons d cs ih=>
         intro h c hc;simp only[C.anyNest,Bool.or_eq_false_iff]at h;cases hc with
         |head=>exact h.1
         |tail _ hc=>exact ih h.2 c hc
       have:=hnn _ h1 c1 (List.mem_of_getElem? hc1);cases c1 with
       |nest ys=>cases this
       |int n=>simp only[Be]at hoc;subst hoc;exact .int n
       |u8 n=>simp only[Be]at hoc;subst hoc;exact .u8 n
       |bool n=>simp only[Be]at hoc;subst hoc;exact .bool n
       |str n=>simp only[Be]at hoc;subst hoc;exact .str n
     ·cases h
   ·cases h
 ·cases h
end
end Go.Proofs.YthoholbeacojfaaGreat.VR
end
section
set_option linter.unusedVariables false
set_option linter.unusedSimpArgs false
set_option linter.unusedSectionVars false
namespace Go.Proofs.YthoholbeacojfaaGreat.VR
open Go
section
variable {P:Program}{Tb:TypeId→Option TI}{tyK:Kd→TypeId}{R:Re}{H:List E}{w:World}{a:Act}{o:Oper}{oa:OA}{tm:List V}{α:Type}{r:α}{Co:Orc}{k:Eff→Option α}
theorem S8: ∀(us:List Value) (zs:List V),IY us=some zs→VRs R H w zs us∧(∀u∈us,u.oneCell'=true)∧V.allOne zs=true
 | [],zs,h=>by
   simp[IY]at h;subst h;exact⟨⟨rfl,fun i v u h=>by simp at h⟩,fun u hu=>(by cases hu),rfl⟩
 |u::us,zs,h=>by
  have gen: ∀(v:V) (rest:List V),IY us=some rest→VR R H w v u→v.one=true→zs=v::rest→VRs R H w zs (u::us)∧(∀x∈u::us,x.oneCell'=true)∧V.allOne zs=true:=by
   intro v rest h1 h2 h3 h4;subst h4;obtain⟨h5,h6,h7⟩:=S8 us rest h1;refine⟨⟨by simp[h5.1],fun i v' u' hv hu=> ?_⟩,fun x hx=> ?_,by simp[V.allOne,h3,h7]⟩
   · cases i with
     |zero=>simp at hv hu;subst hv;subst hu;exact h2
     |succ i=>exact h5.2 i v' u' (by simpa using hv) (by simpa using hu)
   · cases hx with
     |head=>exact h2.oneCell h3
     |tail _ hx=>exact h6 x hx
  simp only[IY]at h;split at h
  ·rename_i n rest e;injection h with h;exact gen _ _ e (.int _) rfl h.symm
  ·rename_i n rest e;injection h with h;exact gen _ _ e (.u8 _) rfl h.symm
  ·rename_i n rest e;injection h with h;exact gen _ _ e (.bool _) rfl h.symm
  ·rename_i n rest e;injection h with h;exact gen _ _ e (.str _) rfl h.symm
  ·rename_i rest e;injection h with h;exact gen _ _ e .nil rfl h.symm
  ·cases h
theorem tI{cs vs:List V}{us xs:List Value}{j:Nat}(h1:VRs R H w cs us)(h2:VRs R H w vs xs)(hle:j+vs.length≤cs.length):VRs R H w (A5 cs j vs) (A5 us j xs):=by
 refine⟨by rw[EF _ _ _ hle,EF _ _ _ (by rw[←h2.1,←h1.1];exact hle)];exact h1.1,fun i v u hv hu=> ?_⟩
 rw[Br _ _ _ hle]at hv;rw[Br _ _ _ (by rw[←h2.1,←h1.1];exact hle)]at hu
 by_cases c1:i<j
 ·rw[if_pos c1]at hv hu;exact h1.2 i v u hv hu
 · rw[if_neg c1]at hv hu
   by_cases c2:i<j+vs.length
   ·rw[if_pos c2]at hv;rw[if_pos (by rw[←h2.1];exact c2)]at hu;exact h2.2 _ v u hv hu
   ·rw[if_neg c2]at hv;rw[if_neg (by rw[←h2.1];exact c2)]at hu;exact h1.2 i v u hv hu
theorem UM(ps:List (Nat×Nat)): ∀(qs:List (Nat×V)) (qs':List (Nat×Value)) (cs cs':List V) (arr:Array Value),qs.length=qs'.length→
 (∀(i:Nat) (x:Nat×V) (y:Nat×Value),qs[i]? =some x→qs'[i]? =some y→x.1=y.1∧VR R H w x.2 y.2)→VRs R H w cs arr.toList→Lb ps cs qs=some cs'→
 ∃arr',Instr.fill (fun i:Nat=>ps[i]?) arr qs'=some arr'∧VRs R H w cs' arr'.toList
 | [],[],cs,cs',arr,_,_,hc,h=>by
   simp[Lb]at h;subst h;exact⟨arr,rfl,hc⟩
 | [],_::_,cs,cs',arr,hl,_,_,_=>by simp at hl
 |_::_,[],cs,cs',arr,hl,_,_,_=>by simp at hl
 |(i,v)::qs,(i',u)::qs',cs,cs',arr,hl,hr,hc,h=>by
  obtain⟨e1,hv⟩:=hr 0 _ _ rfl rfl;simp only at e1 hv;subst e1;simp only[Lb]at h;obtain⟨p,hp,h⟩:=Option.bind_eq_some_iff.1 h;obtain⟨h1,h⟩:=AQ h;simp only[Bool.and_eq_true,decide_eq_true_eq]at h1;obtain⟨⟨h1,h2⟩,h3⟩:=h1;obtain⟨h4,_⟩:=hv.cells h2;have hsz:u.cells.size=p.2:=by rw[←Array.length_toList,←h4.1,h1]
  have hal:cs.length=arr.size:=by rw[hc.1,Array.length_toList]
  have hst:=UO arr p.1 u (by rw[hsz,←hal];exact h3)
  obtain⟨arr',e,he⟩:=UM ps qs qs' _ cs' _ (by simpa using hl) (fun q x y hx hy=>hr (q+1) x y (by simpa using hx) (by simpa using hy)) (by rw[hst];exact tI hc h4 (by rw[h1];exact h3)) h
  refine⟨arr',?_,he⟩;simp only[Instr.fill,hp];rw[if_neg (by simp only[Bool.or_eq_true,decide_eq_true_eq,not_or];exact⟨by simp[hsz],by omega⟩)]
  exact e
theorem WC(hT:TbOk P Tb tyK): ∀(fs:List Field) (ps:List (Nat×Nat)),Lx Tb fs=some ps→(fs.mapM fun f=>(do pure (f.offset,←sizeOf f.type):Sem (Nat×Nat))).run P w=.ok ps w
 | [],ps,h=>by simp[Lx]at h;subst h;rfl
 |f::fs,ps,h=>by
  simp only[Lx]at h;obtain⟨ti,hti,h⟩:=Option.bind_eq_some_iff.1 h;obtain⟨ps',hps,h⟩:=Option.bind_eq_some_iff.1 h;injection h with h
  subst h;obtain⟨_,i,hi,_,hs,_⟩:=hT.inf _ _ hti;have ih:=WC hT fs ps' hps;simp[List.mapM_cons,sizeOf,typeInfo,hi,hs]at ih⊢;simp[ih]
variable (hT:TbOk P Tb tyK)(hh:HR tyK R H w)(ht:VRs R H w tm a.tmps.toList)
include hT hh ht
theorem eN{t:TypeId}{parts:Array (Nat×Operand)}(ho:o.op=.build t parts)(h:opK Tb tyK Co o oa tm H k=some r):Aa P tyK o a w R H k r:=by
 simp only[opK,ho]at h;split at h
 · rename_i fs zero z2 z3 htb
   obtain⟨hun,i,hi,hz,_⟩:=hT.inf _ _ htb;obtain⟨zs,h1,h⟩:=Option.bind_eq_some_iff.1 h;obtain⟨ps,h2,h⟩:=Option.bind_eq_some_iff.1 h;obtain⟨cs,h3,h⟩:=Option.bind_eq_some_iff.1 h;obtain⟨h4,_,_⟩:=S8 (R:=R) (H:=H) (w:=w) _ _ h1;obtain⟨arr',h5,h6⟩:=UM (R:=R) (H:=H) (w:=w) ps _ (parts.toList.map fun p=>(p.1,a.eval p.2)) zs cs zero.cells (by simp) (fun q x y hx hy=>by
    rw[List.getElem?_map]at hx hy;obtain⟨p,hp,rfl⟩:=Option.map_eq_some_iff.1 hx;rw[hp]at hy;simp at hy;subst hy;exact⟨rfl,A6 ht _⟩) h4 h3
   have h7:=WC (w:=w) hT fs.toList ps h2;have h8:(fs.mapM fun f=>(do pure (f.offset,←sizeOf f.type):Sem (Nat×Nat))).run P w=.ok ps.toArray w:=by
    rw[Array.mapM_eq_mapM_toList];simp only[Sem.run_map,h7];rfl
   refine Aa.pure hh h (v:=.agg arr') ?_ (by have:=VR.agg cs arr'.toList h6.1 h6.2;simpa using this)
   have h9:(fun i:Nat=>(ps.toArray)[i]?)=(fun i:Nat=>ps[i]?):=by funext i;simp
   simp only[execOp,ho,Instr.build,Sem.run_bind,zeroValue,typeInfo,run_program,hi,hz,Result.andThen_ok,Sem.run_pure,run_underlying hun,h8];rw[show(fun x:Nat=>(ps.toArray)[x]?)=(fun i:Nat=>ps[i]?)from h9]
   simp only[Array.toList_map];rw[h5];rfl
 ·cases h
omit hT
theorem eV{x:Operand}{i:Nat}(ho:o.op=.extract x i)(h:opK Tb tyK Co o oa tm H k=some r):Aa P tyK o a w R H k r:=by
 simp only[opK,ho]at h;have hx:=A6 ht x;split at h
 · rename_i vs e1
   rw[e1]at hx;obtain⟨us,e2,h2⟩:=VRs.tup_inv hx;split at h
   · rename_i v hv
     have hlt:i<us.length:=by rw[←h2.1];exact(List.getElem?_eq_some_iff.1 hv).1
     refine Aa.pure hh h (v:=us[i]) ?_ (h2.2 i v us[i] hv (List.getElem?_eq_getElem hlt));simp[execOp,ho,e2,Instr.extract,hlt]
   ·cases h
 ·cases h
theorem eo{fn:Fn}{first caps:Array Operand}(ho:o.op=.makeFunc fn first caps)(h:opK Tb tyK Co o oa tm H k=some r):Aa P tyK o a w R H k r:=by
 cases fn<;>simp only[opK,ho]at h
 case func f=>
  obtain⟨h1,h⟩:=AQ h;have h1:first.size=0:=of_decide_eq_true h1
  have h2:first= #[]:=Array.eq_empty_of_size_eq_zero h1
  subst h2;refine Aa.pure hh h (v:=.func (.func f) #[] (caps.toList.map a.eval).toArray) ?_ ?_
  · simp only[execOp,ho,Instr.makeFunc,Sem.run_bind,Sem.run_pure,Result.andThen_ok]
    congr 3
    ·simp
    ·rw[←Array.toList_map]
  · refine .clo f _ _ (by simp) fun i v u hv hu=> ?_
    rw[List.getElem?_map]at hv hu;obtain⟨p,hp,rfl⟩:=Option.map_eq_some_iff.1 hv;rw[hp]at hu;simp at hu;subst hu;exact A6 ht _
 all_goals cases h
include hT
theorem eY{t:TypeId}{x ix:Operand}(ho:o.op=.index t x ix)(h:opK Tb tyK Co o oa tm H k=some r):Aa P tyK o a w R H k r:=by
 simp only[opK,ho]at h;have hx:=A6 ht x;have hix:=A6 ht ix;split at h
 · rename_i z1 z2 z3 s i e1 e2 e3
   obtain⟨hun,_⟩:=hT.inf _ _ e1;rw[e2]at hx;rw[e3]at hix;obtain⟨h1,h⟩:=AQ h;simp only[Bool.and_eq_true,decide_eq_true_eq]at h1;obtain⟨h1,h2⟩:=h1;have hlt:i.toNat<s.size:=by omega
   refine Aa.pure hh h (v:=.int .u8 (Py s i.toNat)) ?_ (.u8 _);have hg:s[i.toNat]? =some s[i.toNat]:=by simp[hlt]
   simp[execOp,ho,hx.str_inv,hix.int_inv,Instr.index,asIntOf,run_underlying hun,h1,hg,Py]
 ·cases h
theorem eU{s d:TypeId}{x:Operand}(ho:o.op=.convert s d x)(h:opK Tb tyK Co o oa tm H k=some r):Aa P tyK o a w R H k r:=by
 simp only[opK,ho]at h;have hx:=A6 ht x;split at h
 · rename_i t1 z1 z2 z3 n e1 e2 e3
   rw[e3]at hx;have hx:=hx.int_inv;obtain⟨hu1,_⟩:=hT.inf _ _ e1;obtain⟨hu2,_⟩:=hT.inf _ _ e2;refine Aa.pure hh h (v:=.int .i64 (w64 n)) ?_ (.int _);simp[execOp,ho,hx,convert,run_underlying hu1,run_underlying hu2,Conv.intToInt]
 · rename_i t1 z1 z2 z3 n e1 e2 e3
   rw[e3]at hx;have hx:=hx.u8_inv;obtain⟨hu1,_⟩:=hT.inf _ _ e1;obtain⟨hu2,_⟩:=hT.inf _ _ e2;refine Aa.pure hh h (v:=.int .i64 (w64 n)) ?_ (.int _);simp[execOp,ho,hx,convert,run_underlying hu1,run_underlying hu2,Conv.intToInt]
 · rename_i t1 z1 z2 z3 n e1 e2 e3
   rw[e3]at hx;have hx:=hx.int_inv;obtain⟨hu1,_⟩:=hT.inf _ _ e1;obtain⟨hu2,_⟩:=hT.inf _ _ e2;refine Aa.pure hh h (v:=.int .u8 (IntKind.u8.wrap n)) ?_ (.u8 _);simp[execOp,ho,hx,convert,run_underlying hu1,run_underlying hu2,Conv.intToInt]
 · rename_i t1 z1 z2 z3 n e1 e2 e3
   rw[e3]at hx;have hx:=hx.u8_inv;obtain⟨hu1,_⟩:=hT.inf _ _ e1;obtain⟨hu2,_⟩:=hT.inf _ _ e2;refine Aa.pure hh h (v:=.int .u8 (IntKind.u8.wrap n)) ?_ (.u8 _);simp[execOp,ho,hx,convert,run_underlying hu1,run_underlying hu2,Conv.intToInt]
 ·cases h
end
end Go.Proofs.YthoholbeacojfaaGreat.VR
end
section
set_option linter.unusedVariables false
set_option linter.unusedSimpArgs false
set_option linter.unusedSectionVars false
namespace Go.Proofs.YthoholbeacojfaaGreat.VR
open Go
section
variable {P:Program}{Tb:TypeId→Option TI}{tyK:Kd→TypeId}{R:Re}{H:List E}{w:World}{a:Act}{o:Oper}{oa:OA}{tm:List V}{α:Type}{r:α}{Co:Orc}{k:Eff→Option α}
theorem Dp(ht:VRs R H w tm a.tmps.toList){x:Option Operand}{d:Int}{k:Int→Option α}(h:Db tm x d k=some r):
 ∃n,((x=none∧n=d)∨ ∃y,x=some y∧a.eval y=.int .i64 n)∧k n=some r:=by
 cases x with
 |none=>exact⟨d,.inl ⟨rfl,rfl⟩,h⟩
 |some y=>
  obtain⟨n,e,h⟩:=KR h;have:=A6 ht y;rw[e]at this;exact⟨n,.inr ⟨y,rfl,this.int_inv⟩,h⟩
theorem MF{b:Bool}{len cap:Nat}{lo hi:Option Operand}{l h:Int}(hl:(lo=none∧l=0)∨ ∃y,lo=some y∧a.eval y=.int .i64 l)(hh:(hi=none∧h=(len:Int))∨ ∃y,hi=some y∧a.eval y=.int .i64 h)
 (h0:0≤l) (h1:l≤h) (h2:h≤(cap:Int)):(Instr.sliceBounds b len cap (lo.map a.eval) (hi.map a.eval) none).run P w=.ok (l.toNat,h.toNat,cap) w:=by
 have eh:(h.toNat:Int)=h:=Int.toNat_of_nonneg (by omega)
 have h3:0≤h:=by omega
 rcases hl with⟨rfl,rfl⟩|⟨y,rfl,e1⟩<;>rcases hh with⟨rfl,rfl⟩|⟨z,rfl,e2⟩
 ·simp[Instr.sliceBounds]
 ·simp[Instr.sliceBounds,e2,Instr.sliceBound,asIntOf,h3,h2]
 ·simp[Instr.sliceBounds,e1,Instr.sliceBound,asIntOf,h0,h1]
 ·simp[Instr.sliceBounds,e1,e2,Instr.sliceBound,asIntOf,h0,h1,h2,h3,eh]
theorem CU.cut{p:Bool}{q:Kd}{xs:List q.T}{A:Option Addr}{n cap l h:Nat}(hr:CU R.T w p q xs (.slice A n cap))(h1:l≤h)(h2:h≤xs.length):
 CU R.T w p q ((xs.take h).drop l) (.slice (if cap=l then A else A.map (·.add (l*q.size))) (h-l) (cap-l)):=by
 obtain⟨A',cap',e,h3,h4,h5⟩:=hr;simp only[Value.slice.injEq]at e;obtain⟨rfl,rfl,rfl⟩:=e;have hl:((xs.take h).drop l).length=h-l:=by simp;omega
 refine⟨_,cap-l,by rw[hl],by rw[hl];omega,by simp only[maxLen]at h4⊢;omega,fun i x hx=> ?_⟩
 have hi:i<h-l:=by rw[←hl];exact(List.getElem?_eq_some_iff.1 hx).1
 rw[List.getElem?_drop,List.getElem?_take]at hx;rw[if_pos (by omega)]at hx
 obtain⟨b,oo,rfl,ho,hc⟩:=h5 _ x hx;refine⟨b,oo+l*q.size,?_,ho,fun j c hj=> ?_⟩
 · rw[if_neg (by omega)]
   simp[Cy]
 · obtain⟨u,hu,hcr⟩:=hc j c hj
   refine⟨u,?_,hcr⟩;rw[←hu]
   congr 2
   rw[Nat.add_mul];omega
variable (hT:TbOk P Tb tyK)(hh:HR tyK R H w)(ht:VRs R H w tm a.tmps.toList)
include hT hh ht
theorem fD{t:TypeId}{x:Operand}{lo hi mx:Option Operand}(hno: ∀q0,ev tm x≠ .bor q0)(ho:o.op=.slice t x lo hi mx)(h:opK Tb tyK Co o oa tm H k=some r):Aa P tyK o a w R H k r:=by
 simp only[opK,ho]at h;have hx:=A6 ht x;split at h
 · rename_i e z1 z2 z3 htb
   obtain⟨hun,_⟩:=hT.inf _ _ htb;split at h
   · split at h
     · rename_i p q xs e1
       rw[e1]at hx;obtain⟨l,hl,h⟩:=Dp ht h;obtain⟨hi',hhi,h⟩:=Dp ht h;obtain⟨h1,h⟩:=AQ h;simp only[Bool.and_eq_true,decide_eq_true_eq]at h1;obtain⟨⟨⟨h1,h2⟩,h3⟩,h4⟩:=h1;obtain⟨ti,inf,_,_,hi2,_,hs,_⟩:=Ec (P:=P) hT h1;have hro:=hx.ro_inv;obtain⟨A,cap,eA,hcap,hmx,_⟩:=id hro;rw[eA]at hro;have hb:=MF (P:=P) (w:=w) (b:=true) (len:=xs.length) (cap:=cap) hl hhi h2 h3 (by omega)
       refine Aa.pure hh h (v:=_) ?_ (.ro p q _ _ (CU.cut (h:=hi'.toNat) (l:=l.toNat) hro (by omega) (by omega)))
       simp[execOp,ho,eA,Instr.sliceAt,run_underlying hun,Instr.slice,hb,sizeOf,typeInfo,hi2,hs]
     · rename_i q0 e1
       exact absurd e1 (hno _)
     · rename_i e1
       rw[e1]at hx;obtain⟨l,hl,h⟩:=Dp ht h;obtain⟨hi',hhi,h⟩:=Dp ht h;obtain⟨h1,h9⟩:=AQ h;simp only[Bool.and_eq_true,decide_eq_true_eq]at h1;obtain⟨⟨h1,hl0⟩,hh0⟩:=h1;clear h;subst hl0;subst hh0;obtain⟨ti,inf,_,_,hi2,_,hs,_⟩:=Ec (P:=P) hT h1;have eA:a.eval x=.slice none 0 0:=by cases hx':a.eval x<;>rw[hx']at hx<;>cases hx;rfl
       have hb:=MF (P:=P) (w:=w) (b:=true) (len:=0) (cap:=0) (hi:=hi) (h:=0) hl (by rcases hhi with⟨h5,_⟩|h5;exact .inl ⟨h5,rfl⟩;exact .inr h5) (by omega) (by omega) (by omega)
       refine Aa.pure hh h9 (v:=.slice none 0 0) ?_ .nil;simp at hb;simp[execOp,ho,eA,Instr.sliceAt,run_underlying hun,Instr.slice,hb,sizeOf,typeInfo,hi2,hs]
     ·cases h
   · rename_i m
     split at h
     · obtain⟨hi',hhi,h⟩:=Dp ht h
       obtain⟨m',hm,h⟩:=Dp ht h;obtain⟨h1,h9⟩:=AQ h;simp only[Bool.and_eq_true,decide_eq_true_eq]at h1;obtain⟨hl0,hh0⟩:=h1;clear h;subst hl0;subst hh0;rcases hm with⟨hm,_⟩|⟨ym,hm,em⟩
       ·cases hm
       injection hm with hm
       subst hm;rcases hhi with⟨_,hm⟩|⟨yh,rfl,eh⟩
       ·omega
       have fin: ∀(A:Option Addr) (n cap:Nat) (q:Kd),a.eval x=.slice A n cap→Cg Tb e q=true→(execOp a.eval o).run P w=.ok (.value (.slice (if 0=0 then A else A) 0 0)) w:=by
        intro A n cap q eA hsz;obtain⟨ti,inf,_,_,hi2,_,hs,_⟩:=Ec (P:=P) hT hsz;simp[execOp,ho,eA,em,eh,Instr.sliceAt,run_underlying hun,Instr.slice,Instr.sliceBounds,Instr.sliceBound,asIntOf,sizeOf,typeInfo,hi2,hs]
       split at h9
       · rename_i p q xs e1
         rw[e1]at hx;obtain⟨h1,h8⟩:=AQ h9;obtain⟨A,cap,eA,_⟩:=hx.ro_inv;exact Aa.pure hh h8 (fin A _ cap q eA h1) (.emp _)
       · rename_i e1
         rw[e1]at hx;obtain⟨h1,h8⟩:=AQ h9;have eA:a.eval x=.slice none 0 0:=by cases hx':a.eval x<;>rw[hx']at hx<;>cases hx;rfl
         simp only[Bool.or_eq_true]at h1;rcases h1 with(((h1|h1)|h1)|h1)|h1
         all_goals exact Aa.pure hh h8 (fin none 0 0 _ eA h1) (.emp _)
       ·cases h9
     ·cases h
 · rename_i z1 z2 z3 htb
   obtain⟨hun,_⟩:=hT.inf _ _ htb;split at h
   · rename_i s e1
     rw[e1]at hx;obtain⟨l,hl,h⟩:=Dp ht h;obtain⟨hi',hhi,h⟩:=Dp ht h;obtain⟨h1,h⟩:=AQ h;simp only[Bool.and_eq_true,decide_eq_true_eq]at h1;obtain⟨⟨h2,h3⟩,h4⟩:=h1;have hb:=MF (P:=P) (w:=w) (b:=false) (len:=s.size) (cap:=s.size) hl hhi h2 h3 h4;refine Aa.pure hh h (v:=.string (s.extract l.toNat hi'.toNat)) ?_ (.str _);simp[execOp,ho,hx.str_inv,Instr.sliceAt,run_underlying hun,Instr.slice,hb]
   ·cases h
 ·cases h
end
end Go.Proofs.YthoholbeacojfaaGreat.VR
end
section
set_option linter.unusedVariables false
set_option linter.unusedSimpArgs false
set_option linter.unusedSectionVars false
namespace Go.Proofs.YthoholbeacojfaaGreat.VR
open Go
section
variable {P:Program}{Tb:TypeId→Option TI}{tyK:Kd→TypeId}{R:Re}{H:List E}{w:World}{a:Act}{o:Oper}{oa:OA}{tm:List V}{α:Type}{r:α}{Co:Orc}{k:Eff→Option α}
variable (hT:TbOk P Tb tyK)(hh:HR tyK R H w)(ht:VRs R H w tm a.tmps.toList)
include hT hh ht
theorem eI{t:TypeId}(hs: ∀s q,oa=.slot s q→s<H.length)(ho:o.op=.alloc t)(h:opK Tb tyK Co o oa tm H k=some r):Aa P tyK o a w R H k r:=by
 simp only[opK,ho]at h;split at h
 · rename_i s q ti htb
   have hlt:=hs s q rfl;split at h
   · rename_i hf
     obtain⟨zs,hz,h⟩:=Option.bind_eq_some_iff.1 h;obtain⟨_,i,hi,hzero,_⟩:=hT.inf _ _ htb;obtain⟨h1,h2,h3⟩:=S8 (R:=R) (H:=H) (w:=w) _ _ hz;have hp:=Pres.allocBox hh hlt hf zs (.cells ti.zero.cells t);have hr:=HR.allocBox hh hlt hf zs ti.zero.cells t (by rw[h1.1,Array.length_toList]) (fun q c u hc hu=>⟨h1.2 q c u hc (by rw[Array.getElem?_toList];exact hu),h2 u (List.mem_of_getElem? (by rw[Array.getElem?_toList];exact hu))⟩)
     refine⟨_,h,Cj.value (v:=.pointer (some ⟨w.heap.size,0,none⟩)) (w':=w.alloc (.cells ti.zero.cells t)) ?_ hp hr ?_⟩
     ·simp[execOp,ho,Instr.alloc,zeroValue,typeInfo,hi,hzero,newVar,newRow]
     · have:=VR.ptr (R:=R.box s w.heap.size) (H:=H.set s (.box zs)) (w:=w.alloc (.cells ti.zero.cells t)) s 0 (by rw[Bo hlt];exact fun h=>by cases h)
       have e:(R.box s w.heap.size).β s=w.heap.size:=Ds _ _ _;rw[e]at this;exact this
   ·cases h
 ·cases h
theorem eM{t:TypeId}{x:Operand}(hs: ∀s q,oa=.slot s q→s<H.length)(ho:o.op=.box t x)(h:opK Tb tyK Co o oa tm H k=some r):Aa P tyK o a w R H k r:=by
 simp only[opK,ho]at h;have hx:=A6 ht x;split at h
 · rename_i s q
   have hlt:=hs s q rfl;split at h
   · rename_i hf
     obtain⟨h0,h⟩:=AQ h;obtain⟨h1,h2⟩:=hx.cells h0;have hp:=Pres.allocBox hh hlt hf (ev tm x).cellsOf (.cells (a.eval x).cells t);have hr:=HR.allocBox hh hlt hf (ev tm x).cellsOf (a.eval x).cells t (by rw[h1.1,Array.length_toList]) (fun q c u hc hu=>⟨h1.2 q c u hc (by rw[Array.getElem?_toList];exact hu),h2 u (List.mem_of_getElem? (by rw[Array.getElem?_toList];exact hu))⟩)
     refine⟨_,h,Cj.value (v:=.pointer (some ⟨w.heap.size,0,none⟩)) (w':=w.alloc (.cells (a.eval x).cells t)) ?_ hp hr ?_⟩
     ·simp[execOp,ho,Instr.box,newVar,newRow]
     · have:=VR.ptr (R:=R.box s w.heap.size) (H:=H.set s (.box (ev tm x).cellsOf)) (w:=w.alloc (.cells (a.eval x).cells t)) s 0 (by rw[Bo hlt];exact fun h=>by cases h)
       have e:(R.box s w.heap.size).β s=w.heap.size:=Ds _ _ _;rw[e]at this;exact this
   ·cases h
 ·cases h
theorem YH{t:TypeId}{ti:TI}(htb:Tb t=some ti){b j:Nat}{v:Value}(hsz:v.cells.size=ti.size){w':World}(hr:(storeCells ⟨b,j,none⟩ v.cells.toList).run P w=.ok () w'):
 (storeVar t ⟨b,j,none⟩ v).run P w=.ok () w':=by
 obtain⟨_,i,hi,_,hs,_⟩:=hT.inf _ _ htb;simp[storeVar,sizeOf,typeInfo,hi,hs,hsz,hr]
theorem fF{t:TypeId}{x y:Operand}{b j:Nat}(hx0:ev tm x=.ptr b j)(ho:o.op=.store t x y)(h:opK Tb tyK Co o oa tm H k=some r):Aa P tyK o a w R H k r:=by
 simp only[opK,ho]at h;have hx:=A6 ht x;have hy:=A6 ht y;split at h
 · rename_i ti htb
   obtain⟨h1,h⟩:=AQ h;simp only[Bool.and_eq_true,decide_eq_true_eq]at h1;obtain⟨h1,h2⟩:=h1;rw[hx0]at h hx;obtain⟨ex,_⟩:=hx.ptr_inv;simp only at h;split at h
   · rename_i cs e2
     obtain⟨h3,h⟩:=AQ h;have h3:j+ti.size≤cs.length:=of_decide_eq_true h3;obtain⟨h4,h5⟩:=hy.cells h2;obtain⟨w',hr,hp,hR⟩:=tN (P:=P) hh e2 (ev tm y).cellsOf (a.eval y).cells.toList h4.1 (by rw[h1];exact h3) h4.2 h5
     have hsz:(a.eval y).cells.size=ti.size:=by rw[←Array.length_toList,←h4.1,h1]
     refine⟨_,h,Cj.skip (w':=w') ?_ hp hR rfl⟩;have:=YH hT hh ht htb hsz hr;simp[execOp,ho,ex,Instr.storeAt,Instr.sureAddr,this]
   ·cases h
 ·cases h
theorem fM{q:Nat}{kd:Kd}{xs:List kd.T}{ho:Ho}(e:AE H q=.root kd xs ho): ∃A cap,R.ρ q=.slice A xs.length cap:=by
 rcases Bq hh e with⟨A,h1,hx⟩|⟨flat,h1,_⟩
 ·subst hx;exact⟨A,0,h1⟩
 · rcases h1.2 with⟨h2,h3⟩|⟨g,cap,cur,h2,_⟩
   ·exact⟨none,0,by rw[h2,h3]⟩
   ·exact⟨_,cap,h2⟩
theorem eZ{c:Go.Call}(hc:c.callee=.builtin .len)(ho:o.op=.call c)(h:opK Tb tyK Co o oa tm H k=some r):Aa P tyK o a w R H k r:=by
 simp only[opK,ho,hc]at h;unfold Dy at h;generalize hvs:c.args.toList.map (ev tm)=vs at h;split at h<;>first|(rename_i hq;cases hq;done)|skip
 case h_1 x hq=>
  generalize hts:c.argTypes.toList=ts at h;split at h
  case h_2=>cases h
  case h_1 t=>
   have hargs: ∃y,c.args= #[y]∧ev tm y=x:=by
    have h1:c.args.toList.length=1:=by have:=congrArg List.length hvs;simpa using this
    obtain⟨y,hy⟩:=List.length_eq_one_iff.1 h1;rw[hy]at hvs;simp at hvs;exact⟨y,by apply Array.ext';rw[hy],hvs⟩
   obtain⟨y,ha,hy⟩:=hargs;have hat:c.argTypes= #[t]:=by apply Array.ext';rw[hts]
   have hv:=A6 ht y;rw[hy]at hv;have fin: ∀(v:Value) (n:Nat) (d:TypeDesc),a.eval y=v→P.underlying t=some d→((d=.string∧ ∃s:ByteArray,v=.string s∧s.size=n)∨(∃e,d=.slice e)∧ ∃A cap,v=.slice A n cap)→k ⟨.int n,[]⟩=some r→Aa P tyK o a w R H k r:=by
    intro v n d e1 e2 e3 hk;refine Aa.pure hh hk (v:=.int .i64 (n:Int)) ?_ (.int _);rcases e3 with⟨rfl,s,rfl,rfl⟩|⟨⟨e,rfl⟩,A,cap,rfl⟩
    ·simp[execOp,ho,resolve,hc,invoke,builtin,ha,hat,e1,Builtin.len_,run_underlying e2,goInt]
    ·simp[execOp,ho,resolve,hc,invoke,builtin,ha,hat,e1,Builtin.len_,run_underlying e2,goInt]
   split at h
   · rename_i s htb
     exact fin _ _ _ hv.str_inv (hT.inf _ _ htb).1 (.inl ⟨rfl,s,rfl,rfl⟩) h
   · rename_i htb
     have eA:a.eval y=.slice none 0 0:=by cases hx':a.eval y<;>rw[hx']at hv<;>cases hv;rfl
     exact fin _ 0 _ eA (hT.inf _ _ htb).1 (.inr ⟨⟨_,rfl⟩,none,0,rfl⟩) h
   · rename_i htb
     have eA: ∃A,a.eval y=.slice A 0 0:=by cases hx':a.eval y<;>rw[hx']at hv<;>cases hv;exact⟨_,rfl⟩
     obtain⟨A,eA⟩:=eA;exact fin _ 0 _ eA (hT.inf _ _ htb).1 (.inr ⟨⟨_,rfl⟩,A,0,rfl⟩) h
   · rename_i p q xs htb
     obtain⟨A,cap,eA,_⟩:=hv.ro_inv;exact fin _ xs.length _ eA (hT.inf _ _ htb).1 (.inr ⟨⟨_,rfl⟩,A,cap,rfl⟩) h
   · rename_i q htb
     split at h
     · rename_i kd xs ho' e2
       obtain⟨A,cap,eA⟩:=fM hT hh ht e2;exact fin _ xs.length _ ((hv.bor_inv e2).trans eA) (hT.inf _ _ htb).1 (.inr ⟨⟨_,rfl⟩,A,cap,rfl⟩) h
     ·cases h
   ·cases h
 all_goals cases h
theorem V6{c:Go.Call}{b:Builtin}(hb:b=.max∨b=.min)(hc:c.callee=.builtin b)(ho:o.op=.call c)(h:opK Tb tyK Co o oa tm H k=some r):Aa P tyK o a w R H k r:=by
 simp only[opK,ho,hc]at h;unfold Dy at h;generalize hvs:c.args.toList.map (ev tm)=vs at h;have two: ∀m n:Int,vs=[.int m,.int n]→ ∃y z,c.args= #[y,z]∧a.eval y=.int .i64 m∧a.eval z=.int .i64 n:=by
  intro m n e;subst e;have h1:c.args.toList.length=2:=by have:=congrArg List.length hvs;simpa using this
  match hl:c.args.toList,h1 with
  | [y,z],_=>
    rw[hl]at hvs;simp at hvs;have h2:=A6 ht y;have h3:=A6 ht z;rw[hvs.1]at h2;rw[hvs.2]at h3;exact⟨y,z,by apply Array.ext';rw[hl],h2.int_inv,h3.int_inv⟩
 rcases hb with rfl|rfl
 · split at h<;>first|(rename_i hq;cases hq;done)|skip
   all_goals first|(cases h;done)|skip
   rename_i m n _;obtain⟨y,z,h1,h2,h3⟩:=two m n rfl;refine Aa.pure hh h (v:=.int .i64 (if n>m then n else m)) ?_ (.int _)
   simp[execOp,ho,resolve,hc,invoke,builtin,h1,h2,h3,Builtin.max_,Builtin.max2]
 · split at h<;>first|(rename_i hq;cases hq;done)|skip
   all_goals first|(cases h;done)|skip
   rename_i m n _;obtain⟨y,z,h1,h2,h3⟩:=two m n rfl;refine Aa.pure hh h (v:=.int .i64 (if n<m then n else m)) ?_ (.int _)
   simp[execOp,ho,resolve,hc,invoke,builtin,h1,h2,h3,Builtin.min_,Builtin.min2]
end
end Go.Proofs.YthoholbeacojfaaGreat.VR
end
section
set_option linter.unusedVariables false
set_option linter.unusedSimpArgs false
set_option linter.unusedSectionVars false
namespace Go.Proofs.YthoholbeacojfaaGreat.VR
open Go
theorem ED{w w':World}{b:Nat}{e:TypeId}{sz:Nat}{v:Value}{n:Nat}{xs:List Value}(h:w.ownsRow b e sz v n xs)(hb: ∀g,v.ownBlock=some g→w'.heap[g]? =w.heap[g]?):w'.ownsRow b e sz v n xs:=by
 refine⟨h.1,?_⟩;rcases h.2 with hn|⟨g,cap,cur,rfl,h1,hg,rest⟩
 ·exact .inl hn
 ·exact .inr ⟨g,cap,cur,rfl,h1,by rw[hb g rfl];exact hg,rest⟩
def Jv(r0 s i j:Nat):Tag→Tag
 | .slot q=>if q=r0 then .nest s i j else .slot q
 |t=>t
theorem Vn{r0 s i j s':Nat}{t:Tag}(h:t.of s')(hne:s'≠r0):Jv r0 s i j t=t:=by
 cases t with
 |slot q=>
  have:q=s':=h;subst this;simp[Jv,hne]
 |_=>rfl
section
variable {P:Program}{Tb:TypeId→Option TI}{tyK:Kd→TypeId}{R:Re}{H:List E}{w w':World}{a:Act}{o:Oper}{oa:OA}{tm:List V}{α:Type}{r:α}{Co:Orc}{k:Eff→Option α}
theorem Ho.not_at{h:Ho}(hw:h.whole=true)(i j:Nat): ¬h.at i j:=by
 cases h with
 |hole=>cases hw
 |ok=>exact fun h=>h
 |dirty=>exact fun h=>h
theorem VH(hh:HR tyK R H w){q:Nat}{ys:List Int}{ho:Ho}(e:AE H q=.root .int ys ho)(hw:ho.whole=true):
 (∃A,R.ρ q=.slice A 0 0∧ys=[])∨(w.ownsRow 0 (tyK .int) 1 (R.ρ q) ys.length (ys.map fun y=>.int .i64 y)∧ ∀g,(R.ρ q).ownBlock=some g→R.T g=some (.slot q)):=by
 rcases Bq hh e with h|⟨flat,h1,h2,h3,h4⟩
 ·exact .inl h
 · refine .inr ⟨?_,h2⟩
   have hf:flat=ys.map fun y=>.int .i64 y:=by
    apply List.ext_getElem?;intro i;rw[List.getElem?_map];cases hy:ys[i]? with
    |none=>
     have:ys.length≤i:=List.getElem?_eq_none_iff.1 hy;have hl:flat.length=ys.length*1:=h1.1;rw[List.getElem?_eq_none (by omega)]
     rfl
    |some y=>
     obtain⟨u,hu,ho⟩:=h4 i y hy 0 (.int y) rfl (Ho.not_at hw i 0);simp only[Be]at ho;subst ho;simpa[Kd.size]using hu
   rw[←hf];exact h1
theorem pW(hh:HR tyK R H w){ws:List (Nat×E)}{q:Kd}{xs:List q.T}{flat:List Value}(hr:MV R H ws q xs flat)(s n0:Nat)(hs:AE H s=.fresh):
 ∃f:Tag→Tag,f .frozen=.frozen∧(∀s' t,(∀p∈ws,p.1≠s')→t.of s'→f t=t)∧
  ∀(T':Nat→Option Tag) (w':World),(∀g t,R.T g=some t→(∃p∈ws,t.of p.1)→T' g=some (f t)∧w'.heap[g]? =w.heap[g]?)→
   ∀(i:Nat) (x:q.T),xs[i]? =some x→ ∀(j:Nat) (c:C),(q.cells x)[j]? =some c→ ∃u,flat[i*q.size+j]? =some u∧Be tyK T' w' s (n0+i) j c u:=by
 obtain⟨hl,h1,hr⟩:=hr;have hget: ∀(i:Nat) (x:q.T),xs[i]? =some x→ ∀(j:Nat) (c:C),(q.cells x)[j]? =some c→ ∃u,flat[i*q.size+j]? =some u:=by
  intro i x hx j c hc;have h2:i<xs.length:=(List.getElem?_eq_some_iff.1 hx).1;have h3:j<q.size:=by rw[←q.cells_length x];exact(List.getElem?_eq_some_iff.1 hc).1
  have h4:i*q.size+q.size≤xs.length*q.size:=by
   have:=Nat.mul_le_mul_right q.size (show i+1≤xs.length by omega)
   rw[Nat.add_mul]at this;omega
  exact⟨flat[i*q.size+j],List.getElem?_eq_getElem (by omega)⟩
 rcases hr with⟨rfl,hs⟩|⟨i0,j0,x0,ys,u0,hx0,hc0,hu0,⟨r0,ho,rfl,e,hw,rfl⟩,hs'⟩
 · refine⟨id,rfl,fun _ _ _ _=>rfl,fun T' w' _ i x hx j c hc=> ?_⟩
   obtain⟨u,hu⟩:=hget i x hx j c hc;exact⟨u,hu,(hs i j x c u hx hc hu).own⟩
 · refine⟨Jv r0 s (n0+i0) j0,rfl,fun s' t hne hof=>Vn hof (fun e=>hne (r0,.dead) (by simp) e.symm),fun T' w' hT' i x hx j c hc=> ?_⟩
   obtain⟨u,hu⟩:=hget i x hx j c hc;refine⟨u,hu,?_⟩
   by_cases hij:i=i0∧j=j0
   · obtain⟨rfl,rfl⟩:=hij
     rw[hx]at hx0;injection hx0 with hx0
     subst hx0;rw[hc]at hc0;injection hc0 with hc0
     subst hc0;rw[hu]at hu0;injection hu0 with hu0
     subst hu0;rcases VH hh e hw with h2|⟨h2,h3⟩
     ·exact .inl h2
     · refine .inr ⟨ED h2 fun g hg=>(hT' g _ (h3 g hg) ⟨(r0,.dead),by simp,rfl⟩).2,fun g hg=> ?_⟩
       rw[(hT' g _ (h3 g hg) ⟨(r0,.dead),by simp,rfl⟩).1]
       simp[Jv]
   ·exact(hs' i j x c u hx hc hu hij).own
theorem MV.dead{ws:List (Nat×E)}{q:Kd}{xs:List q.T}{flat:List Value}(hr:MV R H ws q xs flat): ∀p∈ws,p.2=.dead∧AE H p.1≠ .fresh:=by
 obtain⟨_,_,hr⟩:=hr;rcases hr with⟨rfl,_⟩|⟨i0,j0,x0,ys,u0,_,_,_,⟨r0,ho,rfl,e,_,_⟩,_⟩
 ·intro p hp;cases hp
 · intro p hp
   simp at hp;subst hp;exact⟨rfl,by rw[e];exact fun h=>by cases h⟩
theorem Hn{ws:List (Nat×E)}: ∀{H:List E} {s:Nat},(∀p∈ws,p.2=.dead)→(∃p∈ws,p.1=s)→s<H.length→AE (AJ H ws) s=.dead:=by
 induction ws with
 |nil=>intro H s _ h;obtain⟨p,hp,_⟩:=h;cases hp
 |cons p ws ih=>
  intro H s hd he hl;obtain⟨q,e⟩:=p;simp only[AJ]
  by_cases h: ∃p∈ws,p.1=s
  ·exact ih (fun p hp=>hd p (by simp[hp])) h (by simp[hl])
  · rw[EU (fun p hp he=>h ⟨p,hp,he⟩)]
    obtain⟨p,hp,hps⟩:=he;cases hp with
    |head=>
     have h1:e=.dead:=hd (q,e) (by simp)
     subst h1;have hps:q=s:=hps;subst hps;exact Bo hl
    |tail _ hp=>exact absurd ⟨p,hp,hps⟩ h
theorem P7{ws:List (Nat×E)}(hd: ∀p∈ws,p.2=.dead∧AE H p.1≠ .fresh): ∀s',(∃p∈ws,p.1=s')→AE H s'≠ .fresh∧AE (AJ H ws) s'≠ .fresh∧
 ∀(k:Kd) (xs:List k.T) (ho:Ho),AE (AJ H ws) s'=.root k xs ho→ ∃xs0 ho0,AE H s'=.root k xs0 ho0∧xs.length=xs0.length∧ho≠ .ok:=by
 rintro s' ⟨p,hp,rfl⟩;have h3:AE (AJ H ws) p.1=.dead:=Hn (fun p hp=>(hd p hp).1) ⟨p,hp,rfl⟩ (BO (hd p hp).2)
 refine⟨(hd p hp).2,by rw[h3];exact(fun h=>by cases h),fun k xs ho h4=> ?_⟩
 rw[h3]at h4;cases h4
theorem VE: ∀(ps:List (Nat×Operand)) (n:Nat),Oi n ps=true→Oh n (ps.map fun p=>(p.1,a.eval p.2))
 | [],n,_=>trivial
 |(i,x)::ps,n,h=>by
  simp only[Oi,Bool.and_eq_true,decide_eq_true_eq]at h;exact⟨h.1,VE ps (n+1) h.2⟩
theorem Ol(hT:TbOk P Tb tyK){e:TypeId}{q:Kd}(h:I8 Tb tyK e q=true):e=tyK q∧Cg Tb e q=true:=by
 simp only[I8,Bool.and_eq_true,beq_iff_eq]at h;exact h
variable (hT:TbOk P Tb tyK)(hh:HR tyK R H w)(ht:VRs R H w tm a.tmps.toList)
include hT hh ht
theorem eO{t:TypeId}{n:Nat}{parts:Array (Nat×Operand)}(hs: ∀s q,oa=.slot s q→s<H.length)(ho:o.op=.buildSlice t n parts)(h:opK Tb tyK Co o oa tm H k=some r):Aa P tyK o a w R H k r:=by
 simp only[opK,ho]at h;split at h
 · rename_i s q e z1 z2 z3 htb
   have hlt:=hs s q rfl;obtain⟨hun,_⟩:=hT.inf _ _ htb;split at h
   · rename_i hf
     obtain⟨h1,h⟩:=AQ h;simp only[Bool.and_eq_true,decide_eq_true_eq]at h1;obtain⟨⟨⟨hk,hn⟩,hord⟩,hn2⟩:=h1;obtain⟨m,hm,h⟩:=Option.bind_eq_some_iff.1 h;obtain⟨xs,ws⟩:=m;obtain⟨hw1,hK⟩:=AQ h;have hw1:ws.length≤1:=of_decide_eq_true hw1;obtain⟨rfl,hsz⟩:=Ol hT hk;obtain⟨ti,inf,_,_,hi,hz,hsi,hby,hzs,_⟩:=Ec (P:=P) hT hsz;have hvs:VRs R H w (parts.toList.map fun p=>ev tm p.2) (parts.toList.map fun p=>a.eval p.2):=by
      refine⟨by simp,fun i v u hv hu=> ?_⟩
      rw[List.getElem?_map]at hv hu;obtain⟨p,hp,rfl⟩:=Option.map_eq_some_iff.1 hv;rw[hp]at hu;simp at hu;subst hu;exact A6 ht _
     obtain⟨hxl,hcs,hrel⟩:=YB q _ H _ xs ws hvs hm hw1;have hxn:xs.length=n:=by rw[hxl];simp[hn]
     have hbnd:n*q.size≤2^24:=by
      have:q.size≤14:=by cases q<;>decide
      have:=Nat.mul_le_mul hn2 this;omega
     obtain⟨us,hus,hrun⟩:=pX (P:=P) (w:=w) t (tyK q) inf ti.zero q.size n hun hi hz hsi hzs (parts.toList.map fun p=>(p.1,a.eval p.2)) (by simp[hn]) (VE _ 0 hord)
      (fun p hp=>by
        obtain⟨p',hp',rfl⟩:=List.mem_map.1 hp;exact hcs _ (List.mem_map.2 ⟨p',hp',rfl⟩)) hbnd
     have hfl:us.toList=(parts.toList.map fun p=>a.eval p.2).flatMap (·.cells.toList):=by rw[hus,List.flatMap_map,List.flatMap_map]
     rw[←hfl]at hrel;obtain⟨f,hff,hfo,hcell⟩:=pW hh hrel s 0 hf;have hdead:=hrel.dead;have hsn: ∀p∈ws,p.1≠s:=fun p hp e=>(hdead p hp).2 (by rw[e];exact hf)
     have hrow:(w.alloc (.cells us (tyK q))).ownsRow 0 (tyK q) q.size (.slice (some ⟨w.heap.size,0,none⟩) n n) n us.toList:=
      World.ownsRow_lit w us n (Nat.zero_le _) (by simp only[maxLen];omega) (by rw[←Array.length_toList,hrel.1,hxn])
     have hw:Grew R w (w.alloc (.cells us (tyK q))) (fun s'=> ∃p∈ws,p.1=s'):=⟨rfl,rfl,rfl,by rw[MW];omega,fun g hg _=>KO w _ hg⟩
     have hnew:=IB (s:=s) (k:=q) (xs:=xs) (ho:=.ok) (v:=.slice (some ⟨w.heap.size,0,none⟩) n n) (H1:=AJ H ws) (f:=f) hh hlt hf hw hff
      (fun s' t hc _ hof=>hfo s' t (fun p hp e=>hc ⟨p,hp,e⟩) hof) (EE ws H) (fun s' hc=>EU fun p hp e=>hc ⟨p,hp,e⟩)
      (P7 hdead)
      (.inr ⟨us.toList,by rw[hxn];exact hrow,fun g hg=>by
        simp[Value.ownBlock]at hg;subst hg;show(if w.heap.size<w.heap.size then _ else if w.heap.size<(w.alloc _).heap.size then _ else _)=_
        rw[if_neg (by omega),MW,if_pos (by omega)],hrel.2.1,fun i x hx j c hc _=>by
         obtain⟨u,hu,hoc⟩:=hcell (R.turn w (w.alloc (.cells us (tyK q))) f s (.slice (some ⟨w.heap.size,0,none⟩) n n)).T (w.alloc (.cells us (tyK q))) (fun g t ht _=>by
          have hg:=IQ hh ht;refine⟨?_,KO w _ hg⟩;show(if g<w.heap.size then(R.T g).map f else _)=_
          rw[if_pos hg,ht];rfl) i x hx j c hc
         rw[Nat.zero_add]at hoc;exact⟨u,hu,hoc⟩⟩)
      (fun s' hc hp=>by
        obtain⟨p,hp',rfl⟩:=hc;rw[Hn (fun p hp=>(hdead p hp).1) ⟨p,hp',rfl⟩ (BO (hdead p hp').2)]
        trivial)
     have hpe:AJ H (ws++[(s,.root q xs .ok)])=(AJ H ws).set s (.root q xs .ok):=by rw[Dr];rfl
     refine⟨_,hK,Cj.value (v:=.slice (some ⟨w.heap.size,0,none⟩) n n) (w':=w.alloc (.cells us (tyK q))) (R':=R.turn w (w.alloc (.cells us (tyK q))) f s (.slice (some ⟨w.heap.size,0,none⟩) n n)) ?_ ?_ ?_ ?_⟩
     · have h5:(parts.map fun p=>(p.1,a.eval p.2))=(parts.toList.map fun p=>(p.1,a.eval p.2)).toArray:=by apply Array.ext';simp
       simp only[execOp,ho,Sem.run_bind];rw[show(fun x:Nat×Operand=>match x with|(i,x)=>(i,a.eval x))=(fun p:Nat×Operand=>(p.1,a.eval p.2))from by funext p;rfl,h5,hrun]
       rfl
     ·rw[hpe];exact hnew.1
     ·rw[hpe];exact hnew.2
     · rw[hpe]
       refine .bor s _ rfl (by rw[Bo (by rw[EE];exact hlt)];exact fun h=>by cases h) fun k' xs' ho' _=> ?_
       exact(Ds _ _ _).symm
   ·cases h
 ·cases h
end
end Go.Proofs.YthoholbeacojfaaGreat.VR
end
section
set_option linter.unusedVariables false
set_option linter.unusedSimpArgs false
set_option linter.unusedSectionVars false
namespace Go.Proofs.YthoholbeacojfaaGreat.VR
open Go
def Row(w:World)(e:TypeId)(sz:Nat)(v:Value)(n:Nat)(flat:List Value):Prop:=(∃A,v=.slice A 0 0∧n=0∧flat=[])∨w.ownsRow 0 e sz v n flat
section
variable {P:Program}{w:World}
theorem SP(t ty e:TypeId)(i:TypeInfo)(z:Value)(size:Nat)(ht:P.underlying t=some (.slice e))(hi:P.info? e=some i)(hz:i.zero=some z)
 (hsize:i.size=size) (hby:i.bytes≤131072) (hzs:z.cells.size=size) (hsz:0<size)
 (v:Value) (n:Nat) (flat:List Value) (own:Prop) (hv:(∃A,v=.slice A 0 0∧n=0∧flat=[])∨(own∧w.ownsRow 0 e size v n flat)) (B:Option Addr) (m cB:Nat) (news:List Value) (hl:news.length=m*size)
 (hnews: ∀(j:Nat) (u:Value),news[j]? =some u→ ∃b o,B=some ⟨b,o,none⟩∧w.cell? ⟨b,o+j,none⟩=some u) (h1: ∀u∈news,u.oneCell'=true) (hlim:n+m≤lim):
 ∃v' w',(Builtin.append_ #[t,t] ty #[v,.slice B m cB]).run P w=.ok v' w'∧Row w' e size v' (n+m) (flat++news)∧(∃row,w.grownBy w' row∧(row=none∨(row=v.ownBlock∧own)))∧
  ((v'.ownBlock=v.ownBlock∧(m=0∨own∨v.ownBlock=none))∨v'.ownBlock=some w.heap.size)∧(m=0→v'=v∧w'=w)∧(0<m→w'.ownsRow 0 e size v' (n+m) (flat++news)):=by
 subst hsize;have hlim':n+m≤1073741824:=hlim;have hmx:n+m≤maxLen:=by simp only[maxLen];omega
 have hbytes:(n+m)*i.bytes≤140737488355328:=by
  have:=Nat.mul_le_mul hlim' hby;omega
 rcases Nat.eq_zero_or_pos m with hm|hm
 · subst hm
   have hn:news=[]:=List.eq_nil_of_length_eq_zero (by rw[hl];omega)
   subst hn;have hvs: ∃A cap,v=.slice A n cap∧n≤cap:=by
    rcases hv with⟨A,rfl,rfl,_⟩|h2
    ·exact⟨A,0,rfl,Nat.le_refl _⟩
    · rcases h2.2.2 with⟨rfl,rfl⟩|⟨g,cap,cur,rfl,_,_,h3,_⟩
      ·exact⟨none,0,rfl,Nat.le_refl _⟩
      ·exact⟨_,cap,rfl,h3⟩
   obtain⟨A,cap,rfl,hcap⟩:=hvs;refine⟨.slice A n cap,w,?_,(by rcases hv with⟨A',h1,h2,h3⟩|⟨_,h1⟩;exact .inl ⟨A',h1,h2,by simp[h3]⟩;exact .inr (by simpa using h1)),⟨none,⟨rfl,rfl,rfl,Nat.le_refl _,fun _ _ _=>rfl⟩,.inl rfl⟩,.inl ⟨rfl,.inl rfl⟩,fun _=>⟨rfl,rfl⟩,fun h=>absurd h (by omega)⟩
   cases A<;>cases B<;>simp[Builtin.append_,run_underlying ht,sizeOf,typeInfo,hi,Builtin.lenOf,hcap,Builtin.firstCells,loadCells,loadCellsFrom,storeCells]
 · have hnl:0<news.length:=by rw[hl];exact Nat.mul_pos hm hsz
   obtain⟨b,oo,rfl,_⟩:=hnews 0 news[0] (List.getElem?_eq_getElem hnl);have hnews': ∀(j:Nat) (u:Value),news[j]? =some u→w.cell? ((⟨b,oo,none⟩:Addr).add j)=some u:=by
    intro j u hu;obtain⟨b',o',e',hc⟩:=hnews j u hu;simp only[Option.some.injEq,Addr.mk.injEq,and_true]at e';obtain⟨rfl,rfl⟩:=e';rw[Cy];exact hc
   have fin: ∀(h2:w.ownsRow 0 e i.size v n flat) (ho:own∨v.ownBlock=none),∃v' w',(Builtin.append_ #[t,t] ty #[v,.slice (some ⟨b,oo,none⟩) m cB]).run P w=.ok v' w'∧Row w' e i.size v' (n+m) (flat++news)∧(∃row,w.grownBy w' row∧(row=none∨(row=v.ownBlock∧own)))∧
    ((v'.ownBlock=v.ownBlock∧(m=0∨own∨v.ownBlock=none))∨v'.ownBlock=some w.heap.size)∧(m=0→v'=v∧w'=w)∧(0<m→w'.ownsRow 0 e i.size v' (n+m) (flat++news)):=by
    intro h2 ho;obtain⟨v',w',hr,h3,h4,_,h6⟩:=run_append_own_at (P:=P) w 0 t ty e i z i.size i.bytes ht hi hz rfl rfl hzs hsz v n flat h2 ⟨b,oo,none⟩ m cB news hl hnews' h1 hmx hbytes (Nat.zero_le _);refine⟨v',w',hr,.inr h3,⟨_,h4,(by rcases ho with ho|ho;exact .inr ⟨rfl,ho⟩;exact .inl ho)⟩,?_,fun h=>absurd h (by omega),fun _=>h3⟩
    rcases h6 with h6|h6
    ·exact .inl ⟨h6,.inr ho⟩
    ·exact .inr h6
   rcases hv with⟨A,rfl,rfl,rfl⟩|h2
   · cases A with
     |none=>exact fin (World.ownsRow_nil w 0 e i.size) (.inr rfl)
     |some aa=>
      have hr:=run_append_grow (P:=P) w t ty e i z ht hi hz aa 0 0 [] (by simp) (fun j u h=>by simp at h) ⟨b,oo,none⟩ m cB news hl hnews' (by omega) (by omega) (growslice_fits (by omega) hbytes)
      have hge:=grownCap_ge w (0+m) 0 e;have hcm:=grownCap_le_maxLen w (0+m) 0 e hmx;have hown:(w.drew.alloc (.cells (([]:List Value).toArray++news.toArray++Builtin.zeroCells z.cells (grownCap w (0+m) 0 e-(0+m))) e)).ownsRow 0 e i.size (.slice (some ⟨w.heap.size,0,none⟩) (0+m) (grownCap w (0+m) 0 e)) (0+m) ([]++news):=by
       refine⟨by simp[hl],.inr ⟨w.heap.size,_,_,rfl,Nat.zero_le _,heap_alloc_new w.drew _,hge,hcm,?_,?_⟩⟩
       · simp only[Array.size_append,List.size_toArray,size_zeroCells,hzs,hl,List.length_nil,Nat.zero_add]at hge⊢
         rw[←Nat.add_mul]
         congr 1
         omega
       · have:(0+m)*i.size=news.length:=by rw[hl,Nat.zero_add]
         rw[this];simp only[Array.toList_append,List.append_assoc,List.nil_append];exact List.take_left
      refine⟨_,_,hr,.inr hown,⟨none,⟨rfl,rfl,rfl,by simp,fun k hk _=>heap_alloc_old w.drew _ k hk⟩,.inl rfl⟩,.inr rfl,fun h=>absurd h (by omega),fun _=>hown⟩
   ·exact fin h2.2 (.inl h2.1)
variable {tyK:Kd→TypeId}{R:Re}{H:List E}
theorem G0{k:Kd}{j:Nat}(h:k.nestAt j=true):k=.lock∧j=1:=by
 unfold Kd.nestAt at h;split at h
 ·exact⟨rfl,rfl⟩
 ·cases h
theorem Lu{q:Kd}(hn:q.nests=false){x:q.T}{j:Nat}{c:C}(h:(q.cells x)[j]? =some c):c.isNest=false:=by
 have h2:=List.mem_of_getElem? h;cases q<;>simp[Kd.nests]at hn<;>simp[Kd.cells]at h2
 all_goals first|(subst h2;rfl)|(rcases h2 with h2|h2<;>subst h2<;>rfl)|(rcases h2 with h2|h2|h2<;>subst h2<;>rfl)|(rcases h2 with h2|h2|h2|h2<;>subst h2<;>rfl)|
  (rcases h2 with h2|h2|h2|h2|h2<;>subst h2<;>rfl)|(rcases h2 with h2|h2|h2|h2|h2|h2|h2|h2|h2|h2|h2|h2|h2|h2<;>subst h2<;>rfl)
theorem Be.scal_of{T:Nat→Option Tag}{w:World}{s i j:Nat}{c:C}{u:Value}(h:Be tyK T w s i j c u)(hn:c.isNest=false):Bc c u:=by
 cases c<;>first|exact h|cases hn
theorem CR.scal_of{T:Nat→Option Tag}{w:World}{p:Bool}{c:C}{u:Value}(h:CR T w p c u)(hn:c.isNest=false):Bc c u:=by
 cases c<;>first|exact h|cases hn
def CX(r s:Nat):Tag→Tag
 | .slot q=>if q=r then .slot s else .slot q
 | .nest q i j=>if q=r then .nest s i j else .nest q i j
 | .frozen=>.frozen
def Gz(r i j s:Nat):Tag→Tag
 | .nest q i' j'=>if q=r∧i'=i∧j'=j then .slot s else .nest q i' j'
 |t=>t
def Lt(q s n:Nat):Tag→Tag
 | .nest q' i j=>if q'=q then .nest s (n+i) j else .nest q' i j
 |t=>t
theorem Ls{r s s':Nat}{t:Tag}(h:t.of s')(hne:s'≠r):CX r s t=t:=by
 cases t with
 |slot q=>have:q=s':=h;subst this;simp[CX,hne]
 |nest q i j=>have:q=s':=h;subst this;simp[CX,hne]
 |frozen=>rfl
theorem dp{r i j s s':Nat}{t:Tag}(h:t.of s')(hne:s'≠r):Gz r i j s t=t:=by
 cases t with
 |slot q=>rfl
 |nest q i' j'=>have:q=s':=h;subst this;simp[Gz,hne]
 |frozen=>rfl
theorem dn{q s n s':Nat}{t:Tag}(h:t.of s')(hne:s'≠q):Lt q s n t=t:=by
 cases t with
 |slot q=>rfl
 |nest q' i' j'=>have:q'=s':=h;subst this;simp[Lt,hne]
 |frozen=>rfl
structure XOk(tyK:Kd→TypeId)(R:Re)(H:List E)(w:World)(s:Nat)(k:Kd)(xs:List k.T)(ws:List (Nat×E))(ho:Ho)(u:Value)(flat:List Value)(fx:Tag→Tag):Prop where
 row:(∃A,u=.slice A 0 0∧xs.length=0∧flat=[])∨(w.ownsRow 0 (tyK k) k.size u xs.length flat∧ ∀g,u.ownBlock=some g→ ∃t,R.T g=some t∧fx t=.slot s∧(∃p∈ws,t.of p.1)∧
  ∀t',R.T g=some t'→t'=t)
 one: ∀y∈flat,y.oneCell'=true
 alive: ∀p∈ws,AE H p.1≠ .fresh
 short:ws.length≤1
 fz:fx .frozen=.frozen
 fo: ∀s' t,(∀p∈ws,p.1≠s')→t.of s'→fx t=t
 whole:ho.whole=true
 cells: ∀(T':Nat→Option Tag) (w':World),(∀g t,R.T g=some t→(∃p∈ws,t.of p.1)→T' g=some (fx t)∧(u.ownBlock≠some g→w'.heap[g]? =w.heap[g]?))→
  ∀(i:Nat) (x:k.T),xs[i]? =some x→ ∀(j:Nat) (c:C),(k.cells x)[j]? =some c→ ∃y,flat[i*k.size+j]? =some y∧Be tyK T' w' s i j c y
 ws:ws=[]∨(∃r,ws=[(r,.dead)])∨ ∃(r:Nat) (kd:Kd) (ys:List kd.T) (i j:Nat),ws=[(r,.root kd ys (.hole i j))]∧AE H r=.root kd ys .ok∧fx=Gz r i j s
theorem Zr(hh:HR tyK R H w){vx:V}{u:Value}(hv:VR R H w vx u){s:Nat}(hs:AE H s=.fresh){k:Kd}{xs:List k.T}{ws:List (Nat×E)}{ho:Ho}(h:Dv k H vx=some (xs,ws,ho)):
 ∃flat fx,XOk tyK R H w s k xs ws ho u flat fx:=by
 have empty: ∀A,u=.slice A 0 0→xs=[]→ws=[]→ho=.ok→ ∃flat fx,XOk tyK R H w s k xs ws ho u flat fx:=by
  intro A e1 e2 e3 e4;subst e2;subst e3;subst e4;exact⟨[],id,.inl ⟨A,e1,rfl,rfl⟩,fun y hy=>(by cases hy),fun p hp=>(by cases hp),by simp,rfl,fun _ _ _ _=>rfl,rfl,fun T' w' _ i x hx=>by simp at hx,.inl rfl⟩
 cases vx with
 |nil=>
  simp only[Dv,Option.some.injEq,Prod.mk.injEq]at h;obtain⟨e1,e2,e3⟩:=h;have eu:u=.slice none 0 0:=by cases hv;rfl
  exact empty none eu e1.symm e2.symm e3.symm
 |emp=>
  simp only[Dv,Option.some.injEq,Prod.mk.injEq]at h;obtain⟨e1,e2,e3⟩:=h;have eu: ∃A,u=.slice A 0 0:=by cases hv;exact⟨_,rfl⟩
  obtain⟨A,eu⟩:=eu;exact empty A eu e1.symm e2.symm e3.symm
 |bor r=>
  simp only[Dv]at h;split at h
  · rename_i k' ys ho' e
    split at h
    · rename_i hk
      subst hk;obtain⟨hw,h⟩:=AQ h;simp only[Option.some.injEq,Prod.mk.injEq]at h;obtain⟨rfl,rfl,rfl⟩:=h;have eu:=hv.bor_inv e;have hal:AE H r≠ .fresh:=by rw[e];exact(fun h=>by cases h)
      rcases Bq hh e with⟨A,h1,h2⟩|⟨flat,h1,h2,h3,h4⟩
      · subst h2
        refine⟨[],CX r s,.inl ⟨A,eu.trans h1,rfl,rfl⟩,fun y hy=>(by cases hy),fun p hp=>by simp at hp;subst hp;exact hal,by simp,rfl,fun s' t hn hof=>Ls hof (fun e=>hn (r,.dead) (by simp) e.symm),hw,fun T' w' _ i x hx=>by simp at hx,.inr (.inl ⟨r,rfl⟩)⟩
      · subst eu
        refine⟨flat,CX r s,.inr ⟨h1,fun g hg=>⟨.slot r,h2 g hg,by simp[CX],⟨(r,.dead),by simp,rfl⟩,fun t' ht'=>by rw[h2 g hg]at ht';injection ht' with ht';exact ht'.symm⟩⟩,h3,fun p hp=>by simp at hp;subst hp;exact hal,by simp,rfl,
         fun s' t hn hof=>Ls hof (fun e=>hn (r,.dead) (by simp) e.symm),hw,fun T' w' hT' i x hx j c hc=> ?_,.inr (.inl ⟨r,rfl⟩)⟩
        obtain⟨y,hy,ho⟩:=h4 i x hx j c hc (Ho.not_at hw i j);refine⟨y,hy,?_⟩;cases c with
        |nest zs=>
         rcases ho with h5|⟨h5,h6⟩
         ·exact .inl h5
         · have hne: ∀g,y.ownBlock=some g→(R.ρ r).ownBlock≠some g:=by
            intro g hg hg2;have h7:=h2 g hg2;rw[h6 g hg]at h7;cases h7
           refine .inr ⟨ED h5 fun g hg=>(hT' g _ (h6 g hg) ⟨(r,.dead),by simp,rfl⟩).2 (hne g hg),fun g hg=> ?_⟩
           rw[(hT' g _ (h6 g hg) ⟨(r,.dead),by simp,rfl⟩).1]
           simp[CX]
        |_=>exact ho
    ·cases h
  ·cases h
 |borN r i0 j0=>
  simp only[Dv]at h;split at h
  · rename_i k' ys e
    split at h
    · rename_i hk
      subst hk;simp only[Option.some.injEq,Prod.mk.injEq]at h;obtain⟨rfl,rfl,rfl⟩:=h;have hal:AE H r≠ .fresh:=by rw[e];exact(fun h=>by cases h)
      have hv':=hv;cases hv' with
      |borN r i j v h1 h0 hvv=>
       obtain⟨hi,hj,g,cap,hg,hc⟩:=hvv k' ys e;obtain⟨ek,ej⟩:=G0 hj;have hjs:j0<k'.size:=by rw[ek,ej];decide
       obtain⟨g',cap',cur,hr',_,hTg,_,_,_,_,hcell⟩:=G5 hh e hi;rw[hg]at hr';simp only[Value.slice.injEq,Option.some.injEq,Addr.mk.injEq,and_true]at hr';obtain⟨rfl,_,rfl⟩:=hr';have hlen:(row k' ys i0).length=k'.size:=k'.cells_length _;have hget:(row k' ys i0)[j0]? =some ((row k' ys i0)[j0]'(by omega)):=List.getElem?_eq_getElem (by omega)
       generalize hcc:(row k' ys i0)[j0]'(by omega)=cc at hget
       have hgd:(row k' ys i0).getD j0 (.int 0)=cc:=by rw[List.getD_eq_getElem?_getD,hget];rfl
       obtain⟨y,hy,hoc⟩:=hcell j0 cc hget (fun h=>h)
       rw[hc]at hy;injection hy with hy
       subst hy;have hnest: ∃zs,cc=.nest zs:=by
        subst ek;subst ej;simp[row,Kd.cells]at hget;exact⟨_,hget.symm⟩
       obtain⟨zs,rfl⟩:=hnest;rw[hgd];simp only[C.ints];have hws: ∀s' t,(∀p∈ [(r,E.root k' ys (.hole i0 j0))],p.1≠s')→t.of s'→Gz r i0 j0 s t=t:=fun s' t hn hof=>dp hof (fun e=>hn (r,E.root k' ys (.hole i0 j0)) (by simp) e.symm)
       rcases hoc with⟨A,h5,h6⟩|⟨h5,h6⟩
       · subst h6
         exact⟨[],Gz r i0 j0 s,.inl ⟨A,h5,rfl,rfl⟩,fun y hy=>(by cases hy),fun p hp=>by simp at hp;subst hp;exact hal,by simp,rfl,hws,rfl,fun T' w' _ i x hx=>by simp at hx,.inr (.inr ⟨r,k',ys,i0,j0,rfl,e,rfl⟩)⟩
       · refine⟨zs.map fun y=>.int .i64 y,Gz r i0 j0 s,.inr ⟨h5,fun g hg=>⟨.nest r i0 j0,h6 g hg,by simp[Gz],⟨(r,E.root k' ys (.hole i0 j0)),by simp,rfl⟩,fun t' ht'=>by rw[h6 g hg]at ht';injection ht' with ht';exact ht'.symm⟩⟩,fun y hy=>by obtain⟨_,_,rfl⟩:=List.mem_map.1 hy;rfl,
          fun p hp=>by simp at hp;subst hp;exact hal,by simp,rfl,hws,rfl,fun T' w' hT' i x hx j c hc=> ?_,.inr (.inr ⟨r,k',ys,i0,j0,rfl,e,rfl⟩)⟩
         cases j with
         |zero=>
          simp[Kd.cells]at hc;subst hc;exact⟨.int .i64 x,by simp[Kd.size,hx],rfl⟩
         |succ j=>simp[Kd.cells]at hc
    ·cases h
  ·cases h
 |_=>simp[Dv]at h
end
end Go.Proofs.YthoholbeacojfaaGreat.VR
end
section
set_option linter.unusedVariables false
set_option linter.unusedSimpArgs false
set_option linter.unusedSectionVars false
namespace Go.Proofs.YthoholbeacojfaaGreat.VR
open Go
structure YOk(tyK:Kd→TypeId)(R:Re)(H:List E)(w:World)(s n:Nat)(k:Kd)(ys:List k.T)(ws:List (Nat×E))(B:Option Addr)(news:List Value)(fy:Tag→Tag):Prop where
 len:news.length=ys.length*k.size
 read: ∀(j:Nat) (u:Value),news[j]? =some u→ ∃b o,B=some ⟨b,o,none⟩∧w.cell? ⟨b,o+j,none⟩=some u
 one: ∀y∈news,y.oneCell'=true
 dead: ∀p∈ws,p.2=.dead∧AE H p.1≠ .fresh
 fz:fy .frozen=.frozen
 fo: ∀s' t,(∀p∈ws,p.1≠s')→t.of s'→fy t=t
 img: ∀t p,p∈ws→t.of p.1→(fy t).of s∨(fy t).of p.1
 cells: ∀(T':Nat→Option Tag) (w':World),(∀g t,R.T g=some t→(∃p∈ws,t.of p.1)→T' g=some (fy t)∧w'.heap[g]? =w.heap[g]?)→
  ∀(i:Nat) (x:k.T),ys[i]? =some x→ ∀(j:Nat) (c:C),(k.cells x)[j]? =some c→ ∃y,news[i*k.size+j]? =some y∧Be tyK T' w' s (n+i) j c y
section
variable {P:Program}{Tb:TypeId→Option TI}{tyK:Kd→TypeId}{R:Re}{H:List E}{w:World}{a:Act}{o:Oper}{oa:OA}{tm:List V}{α:Type}{r:α}{Co:Orc}{k:Eff→Option α}
theorem Tx{m sz n:Nat}(h:m<n*sz)(hp:0<sz):m/sz<n:=by rw[Nat.div_lt_iff_lt_mul hp];exact h
theorem bm(q:Kd)(ys:List q.T)(A:Option Addr)(f:Nat→C→Value→Prop)
 (h: ∀(i:Nat) (x:q.T),ys[i]? =some x→ ∃b o,A=some ⟨b,o,none⟩∧ ∀(j:Nat) (c:C),(q.cells x)[j]? =some c→ ∃u,w.cell? ⟨b,o+(i*q.size+j),none⟩=some u∧f j c u):
 ∃news:List Value,news.length=ys.length*q.size∧(∀(j:Nat) (u:Value),news[j]? =some u→ ∃b o,A=some ⟨b,o,none⟩∧w.cell? ⟨b,o+j,none⟩=some u)∧
  ∀(i:Nat) (x:q.T),ys[i]? =some x→ ∀(j:Nat) (c:C),(q.cells x)[j]? =some c→ ∃u,news[i*q.size+j]? =some u∧f j c u:=by
 have hsz:=q.size_pos;cases hA:A with
 |none=>
  have:ys=[]:=by
   cases ys with
   |nil=>rfl
   |cons y ys=>obtain⟨b,o,e,_⟩:=h 0 y rfl;rw[hA]at e;cases e
  subst this;exact⟨[],by simp,fun j u h=>by simp at h,fun i x h=>by simp at h⟩
 |some ad=>
  by_cases hy:ys=[]
  · subst hy
    exact⟨[],by simp,fun j u h=>by simp at h,fun i x h=>by simp at h⟩
  · have h0: ∃b o,A=some ⟨b,o,none⟩:=by
     cases ys with
     |nil=>exact absurd rfl hy
     |cons y ys=>obtain⟨b,o,e,_⟩:=h 0 y rfl;exact⟨b,o,e⟩
    obtain⟨b,oo,hb⟩:=h0;have hcell: ∀(i:Nat) (x:q.T),ys[i]? =some x→ ∀(j:Nat) (c:C),(q.cells x)[j]? =some c→ ∃u,w.cell? ⟨b,oo+(i*q.size+j),none⟩=some u∧f j c u:=by
     intro i x hx j c hc;obtain⟨b',o',e,h2⟩:=h i x hx;rw[hb]at e;simp only[Option.some.injEq,Addr.mk.injEq,and_true]at e;obtain⟨rfl,rfl⟩:=e;exact h2 j c hc
    refine⟨(List.range (ys.length*q.size)).map fun m=>(w.cell? ⟨b,oo+m,none⟩).getD undef,by simp,fun m u hm=> ?_,fun i x hx j c hc=> ?_⟩
    · rw[List.getElem?_map]at hm
      obtain⟨m',hm',rfl⟩:=Option.map_eq_some_iff.1 hm;have hlt:m<ys.length*q.size:=by
       have:=(List.getElem?_eq_some_iff.1 hm').1;simpa using this
      rw[List.getElem?_range hlt]at hm';injection hm' with hm'
      subst hm';have hi:=Tx hlt hsz;have hj:m % q.size<q.size:=Nat.mod_lt _ hsz;obtain⟨u,hu,_⟩:=hcell (m/q.size) ys[m/q.size] (List.getElem?_eq_getElem hi) (m % q.size) _ (List.getElem?_eq_getElem (by rw[q.cells_length];exact hj))
      have hdm:m/q.size*q.size+m % q.size=m:=by rw[Nat.mul_comm];exact Nat.div_add_mod m q.size
      rw[hdm]at hu;exact⟨b,oo,by rw[←hA,hb],by rw[hu];rfl⟩
    · obtain⟨u,hu,hf⟩:=hcell i x hx j c hc
      have hi:i<ys.length:=(List.getElem?_eq_some_iff.1 hx).1;have hj:j<q.size:=by rw[←q.cells_length x];exact(List.getElem?_eq_some_iff.1 hc).1
      have hlt:i*q.size+j<ys.length*q.size:=by
       have:=Nat.mul_le_mul_right q.size (show i+1≤ys.length by omega)
       rw[Nat.add_mul]at this;omega
      refine⟨u,?_,hf⟩;rw[List.getElem?_map,List.getElem?_range hlt];simp[hu]
theorem Zo(hh:HR tyK R H w){H2:List E}(h2: ∀q kd xs ho,AE H2 q=.root kd xs ho→ho.whole=true→AE H q=.root kd xs ho){vy:V}{u:Value}(hv:VR R H w vy u)(s n:Nat){k:Kd}{ys:List k.T}{ws:List (Nat×E)}(h:Cb k H2 vy=some (ys,ws)):
 ∃B cB news fy,u=.slice B ys.length cB∧YOk tyK R H w s n k ys ws B news fy:=by
 have empty: ∀A,u=.slice A 0 0→ys=[]→ws=[]→ ∃B cB news fy,u=.slice B ys.length cB∧YOk tyK R H w s n k ys ws B news fy:=by
  intro A e1 e2 e3;subst e2;subst e3;exact⟨A,0,[],id,e1,by simp,fun j u h=>by simp at h,fun y hy=>(by cases hy),fun p hp=>(by cases hp),rfl,fun _ _ _ _=>rfl,fun _ _ _ h=>.inr h,fun T' w' _ i x hx=>by simp at hx⟩
 cases vy with
 |nil=>
  simp only[Cb,Option.some.injEq,Prod.mk.injEq]at h;have eu:u=.slice none 0 0:=by cases hv;rfl
  exact empty none eu h.1.symm h.2.symm
 |emp=>
  simp only[Cb,Option.some.injEq,Prod.mk.injEq]at h;have eu: ∃A,u=.slice A 0 0:=by cases hv;exact⟨_,rfl⟩
  obtain⟨A,eu⟩:=eu;exact empty A eu h.1.symm h.2.symm
 |em b=>
  simp only[Cb,Option.some.injEq,Prod.mk.injEq]at h;obtain⟨A,cap,eu⟩: ∃A cap,u=.slice A 0 cap:=by cases hv;exact⟨_,_,rfl⟩
  obtain⟨e2,e3⟩:=h;subst e2;subst e3;exact⟨A,cap,[],id,eu,by simp,fun j u h=>by simp at h,fun y hy=>(by cases hy),fun p hp=>(by cases hp),rfl,fun _ _ _ _=>rfl,fun _ _ _ h=>.inr h,fun T' w' _ i x hx=>by simp at hx⟩
 |ro p q xs=>
  simp only[Cb]at h;split at h
  · rename_i hk
    subst hk;obtain⟨hn,h⟩:=Dz h;simp only[Option.some.injEq,Prod.mk.injEq]at h;obtain⟨rfl,rfl⟩:=h;obtain⟨A,cap,eA,_,_,h3⟩:=hv.ro_inv;obtain⟨news,h4,h5,h6⟩:=bm (w:=w) q xs A (fun _ c u=>Bc c u) (fun i x hx=>by
     obtain⟨b,o,e,_,hc⟩:=h3 i x hx;exact⟨b,o,e,fun j c hj=>by
      obtain⟨u,hu,hcr⟩:=hc j c hj;exact⟨u,hu,hcr.scal_of (Lu hn hj)⟩⟩)
    refine⟨A,cap,news,id,eA,h4,h5,fun y hy=> ?_,fun p hp=>(by cases hp),rfl,fun _ _ _ _=>rfl,fun _ _ _ h=>.inr h,fun T' w' _ i x hx j c hc=> ?_⟩
    · obtain⟨m,hm,rfl⟩:=List.getElem_of_mem hy
      have hlt:m<xs.length*q.size:=by rw[←h4];exact hm
      have hsz:=q.size_pos;have hi:=Tx hlt hsz;obtain⟨u,hu,hs⟩:=h6 (m/q.size) xs[m/q.size] (List.getElem?_eq_getElem hi) (m % q.size) _ (List.getElem?_eq_getElem (by rw[q.cells_length];exact Nat.mod_lt _ hsz))
      have hdm:m/q.size*q.size+m % q.size=m:=by rw[Nat.mul_comm];exact Nat.div_add_mod m q.size
      rw[hdm,List.getElem?_eq_getElem hm]at hu;injection hu with hu
      rw[hu];exact hs.one
    · obtain⟨u,hu,hs⟩:=h6 i x hx j c hc
      exact⟨u,hu,hs.own⟩
  ·cases h
 |bor q=>
  simp only[Cb]at h;split at h
  · rename_i k' xs ho e2
    split at h
    · rename_i hk
      subst hk;obtain⟨hw,h⟩:=AQ h;simp only[Option.some.injEq,Prod.mk.injEq]at h;obtain⟨rfl,hws⟩:=h;have e:=h2 q _ _ _ e2 hw;have eu:=hv.bor_inv e;have hal:AE H q≠ .fresh:=by rw[e];exact(fun h=>by cases h)
      rcases Bq hh e with⟨A,h1,hx⟩|⟨flat,h1,ht,h3,h4⟩
      · subst hx
        refine⟨A,0,[],id,eu.trans h1,by simp,fun j u h=>by simp at h,fun y hy=>(by cases hy),fun p hp=> ?_,rfl,fun _ _ _ _=>rfl,fun _ _ _ h=>.inr h,fun T' w' _ i x hx=>by simp at hx⟩
        rw[←hws]at hp;cases hn:k'.nests<;>rw[hn]at hp
        ·cases hp
        ·simp at hp;subst hp;exact⟨rfl,hal⟩
      · have hsl: ∃A cap,R.ρ q=.slice A xs.length cap∧ ∀(j:Nat) (u:Value),flat[j]? =some u→ ∃b o,A=some ⟨b,o,none⟩∧w.cell? ⟨b,o+j,none⟩=some u:=by
         rcases h1.2 with⟨h5,h6⟩|⟨g,cap,cur,h5,_⟩
         · refine⟨none,0,by rw[h5,h6],fun j u hu=> ?_⟩
           have:flat=[]:=List.eq_nil_of_length_eq_zero (by rw[h1.1,h6];simp)
           subst this;simp at hu
         · refine⟨_,cap,h5,fun j u hu=>⟨g,0,rfl,?_⟩⟩
           have:=h1.cells (g:=g) (by rw[h5];rfl) j u hu
           rwa[Cy]at this
        obtain⟨A,cap,h5,h6⟩:=hsl;cases hn:k'.nests with
        |false=>
         rw[hn]at hws;simp at hws;subst hws;exact⟨A,cap,flat,id,eu.trans h5,h1.1,h6,h3,fun p hp=>(by cases hp),rfl,fun _ _ _ _=>rfl,fun _ _ _ h=>.inr h,fun T' w' _ i x hx j c hc=>by
          obtain⟨y,hy,ho⟩:=h4 i x hx j c hc (Ho.not_at hw i j);exact⟨y,hy,(ho.scal_of (Lu hn hc)).own⟩⟩
        |true=>
         rw[hn]at hws;simp at hws;subst hws;refine⟨A,cap,flat,Lt q s n,eu.trans h5,h1.1,h6,h3,fun p hp=>by simp at hp;subst hp;exact⟨rfl,hal⟩,rfl,fun s' t hne hof=>dn hof (fun e=>hne (q,.dead) (by simp) e.symm),fun t p hp hof=>by
          simp at hp;subst hp;cases t with
          |slot a=>exact .inr hof
          |nest a i j=>
           have:a=q:=hof;subst this;exact .inl (by simp[Lt,Tag.of])
          |frozen=>exact hof.elim,fun T' w' hT' i x hx j c hc=> ?_⟩
         obtain⟨y,hy,ho⟩:=h4 i x hx j c hc (Ho.not_at hw i j);refine⟨y,hy,?_⟩;cases c with
         |nest zs=>
          rcases ho with h7|⟨h7,h8⟩
          ·exact .inl h7
          · refine .inr ⟨ED h7 fun g hg=>(hT' g _ (h8 g hg) ⟨(q,.dead),by simp,rfl⟩).2,fun g hg=> ?_⟩
            rw[(hT' g _ (h8 g hg) ⟨(q,.dead),by simp,rfl⟩).1]
            simp[Lt]
         |_=>exact ho
    ·cases h
  ·cases h
 |_=>simp[Cb]at h
theorem Zp{H2:List E}{vy:V}{k:Kd}{ys:List k.T}{ws:List (Nat×E)}(h:Cb k H2 vy=some (ys,ws)): ∀p∈ws,∃(kd:Kd) (xs:List kd.T) (ho:Ho),AE H2 p.1=.root kd xs ho∧ho.whole=true:=by
 cases vy with
 |nil=>simp only[Cb,Option.some.injEq,Prod.mk.injEq]at h;obtain⟨_,rfl⟩:=h;intro p hp;cases hp
 |emp=>simp only[Cb,Option.some.injEq,Prod.mk.injEq]at h;obtain⟨_,rfl⟩:=h;intro p hp;cases hp
 |em=>simp only[Cb,Option.some.injEq,Prod.mk.injEq]at h;obtain⟨_,rfl⟩:=h;intro p hp;cases hp
 |ro p q xs=>
  simp only[Cb]at h;split at h
  · obtain⟨_,h⟩:=Dz h
    simp only[Option.some.injEq,Prod.mk.injEq]at h;obtain⟨_,rfl⟩:=h;intro p hp;cases hp
  ·cases h
 |bor q=>
  simp only[Cb]at h;split at h
  · rename_i k' xs ho e
    split at h
    · rename_i hk
      subst hk;obtain⟨hw,h⟩:=AQ h;simp only[Option.some.injEq,Prod.mk.injEq]at h;obtain⟨_,rfl⟩:=h;intro p hp;cases hn:k'.nests<;>rw[hn]at hp
      ·cases hp
      ·simp at hp;subst hp;exact⟨_,_,_,e,hw⟩
    ·cases h
  ·cases h
 |_=>simp[Cb]at h
variable (hT:TbOk P Tb tyK)(hh:HR tyK R H w)(ht:VRs R H w tm a.tmps.toList)
include hT hh ht
theorem eJ{c:Go.Call}(hs: ∀s q,oa=.slot s q→s<H.length)(hc:c.callee=.builtin .append)(ho:o.op=.call c)(h:opK Tb tyK Co o oa tm H k=some r):Aa P tyK o a w R H k r:=by
 simp only[opK,ho,hc]at h;unfold Dy at h;generalize hvs:c.args.toList.map (ev tm)=vs at h;split at h<;>first|(rename_i hq;cases hq;done)|(cases h;done)|skip
 rename_i vx vy hq;have two: ∃x y,c.args= #[x,y]∧ev tm x=vx∧ev tm y=vy:=by
  have h1:c.args.toList.length=2:=by have:=congrArg List.length hvs;simpa using this
  match hl:c.args.toList,h1 with
  | [x,y],_=>
    rw[hl]at hvs;simp at hvs;exact⟨x,y,by apply Array.ext';rw[hl],hvs.1,hvs.2⟩
 obtain⟨x,y,hargs,hx,hy⟩:=two;split at h
 · rename_i oa' s q t tl hts
   have hlt:=hs s q rfl;split at h
   · rename_i e z1 z2 z3 htb hf
     obtain⟨⟨xs,wsa,hoo⟩,hxa,h⟩:=Option.bind_eq_some_iff.1 h;obtain⟨⟨ys,wsb⟩,hyb,h⟩:=Option.bind_eq_some_iff.1 h;obtain⟨h1,hK⟩:=AQ h;simp only[Bool.and_eq_true,decide_eq_true_eq]at h1;obtain⟨⟨⟨hkd,hsz2⟩,hall⟩,hlim⟩:=h1;dsimp only at hyb hlim hK;obtain⟨rfl,hsz⟩:=Ol hT hkd;obtain⟨ti,inf,_,_,hi,hz,hsi,hby,hzs,hb17⟩:=Ec (P:=P) hT hsz;obtain⟨hun,_⟩:=hT.inf _ _ htb;have hat:c.argTypes= #[t,t]:=by
      apply Array.ext';have hl2:c.argTypes.toList.length=2:=by rw[Array.length_toList];exact hsz2
      rw[hts]at hl2 hall⊢
      match tl,hl2 with
      | [t'],_=>
        simp at hall;subst hall;rfl
     have hvx:=A6 ht x;have hvy:=A6 ht y;rw[hx]at hvx;rw[hy]at hvy;obtain⟨flat,fx,X⟩:=Zr hh hvx hf hxa;have hH2: ∀p∈wsa,¬ ∃(kd:Kd) (xs:List kd.T) (ho:Ho),AE (AJ H wsa) p.1=.root kd xs ho∧ho.whole=true:=by
      rintro p hp ⟨kd,xs',ho',e1,e2⟩;have hpl:=BO (X.alive p hp);rcases X.ws with hw|⟨r1,hw⟩|⟨r1,kd',ys',i',j',hw,_⟩
      ·rw[hw]at hp;cases hp
      · rw[hw]at hp e1
        simp at hp;subst hp;simp only[AJ]at e1;rw[Bo hpl]at e1;cases e1
      · rw[hw]at hp e1
        simp at hp;subst hp;simp only[AJ]at e1;rw[Bo hpl]at e1;cases e1;cases e2
     obtain⟨B,cB,news,fy,eu,Y⟩:=Zo (tyK:=tyK) (R:=R) (w:=w) hh (H2:=AJ H wsa) (fun q' kd xs' ho' e1 e2=>by
      by_cases hin: ∃p∈wsa,p.1=q'
      · obtain⟨p,hp,rfl⟩:=hin
        exact absurd ⟨kd,xs',ho',e1,e2⟩ (hH2 p hp)
      ·rwa[EU (fun p hp e=>hin ⟨p,hp,e⟩)]at e1) hvy s xs.length hyb
     have hdis: ∀p∈wsa,∀p'∈wsb,p.1≠p'.1:=fun p hp p' hp' e=>hH2 p hp (by rw[e];exact Zp hyb p' hp')
     have hrow:(∃A,a.eval x=.slice A 0 0∧xs.length=0∧flat=[])∨((∀g,(a.eval x).ownBlock=some g→ ∃t,R.T g=some t∧fx t=.slot s∧(∃p∈wsa,t.of p.1)∧ ∀t',R.T g=some t'→t'=t)∧w.ownsRow 0 (tyK q) q.size (a.eval x) xs.length flat):=by
      rcases X.row with h1|⟨e1,e2⟩
      ·exact .inl h1
      ·exact .inr ⟨e2,e1⟩
     obtain⟨v',w',hrun,hrow',⟨rowb,hgrow,hrb⟩,hob,hm0,hmp⟩:=SP (P:=P) (w:=w) t o.type (tyK q) inf ti.zero q.size hun hi hz hsi (by rw[hby];exact hb17) hzs q.size_pos (a.eval x) xs.length flat _ hrow B ys.length cB news Y.len Y.read Y.one hlim
     have hsa: ∀p∈wsa,p.1≠s:=fun p hp e=>X.alive p hp (by rw[e];exact hf)
     have hsb: ∀p∈wsb,p.1≠s:=fun p hp e=>(Y.dead p hp).2 (by rw[e];exact hf)
     have hturn: ∀g t',R.T g=some t'→rowb=some g→(a.eval x).ownBlock=some g∧fx t'=.slot s∧ ∃p∈wsa,t'.of p.1:=by
      intro g t' hg hr;rcases hrb with h2|⟨h2,h3⟩
      ·rw[h2]at hr;cases hr
      · obtain⟨t1,ht1,hfx,hof,huniq⟩:=h3 g (by rw[←h2];exact hr)
        rw[huniq t' hg];exact⟨by rw[←h2];exact hr,hfx,hof⟩
     have hfa: ∀t,(∃p∈wsa,t.of p.1)→fy t=t:=fun t ⟨p,hp,hof⟩=>Y.fo p.1 t (fun p' hp' e=>hdis p hp p' hp' e.symm) hof
     have hfb: ∀t p,p∈wsb→t.of p.1→fx (fy t)=fy t:=fun t p hp hof=>by
      rcases Y.img t p hp hof with h2|h2
      ·exact X.fo s _ (fun p' hp' e=>hsa p' hp' e) h2
      ·exact X.fo p.1 _ (fun p' hp' e=>hdis p' hp' p hp e) h2
     have hwlt: ∀g t',R.T g=some t'→g<w.heap.size:=fun g t' h=>IQ hh h
     have hTt: ∀g t',R.T g=some t'→(R.turn w w' (fun t=>fx (fy t)) s v').T g=some (fx (fy t')):=by
      intro g t' hg;show(if g<w.heap.size then(R.T g).map _ else _)=_
      rw[if_pos (hwlt g t' hg),hg];rfl
     have hH1: ∀s',AE (AJ H (wsa++wsb)) s'=AE (AJ (AJ H wsa) wsb) s':=fun s'=>by rw[Dr]
     have hw:Grew R w w' (fun s'=> ∃p∈wsa++wsb,p.1=s'):=by
      refine⟨hgrow.os,hgrow.tape,hgrow.output,hgrow.size,fun g hg hno=> ?_⟩
      by_cases hr:some g=rowb
      · cases hTg:R.T g with
        |none=>
         rcases hrb with h2|⟨h2,h3⟩
         ·rw[h2]at hr;cases hr
         · obtain⟨t1,ht1,_⟩:=h3 g (by rw[←h2,←hr])
           rw[hTg]at ht1;cases ht1
        |some t1=>
         obtain⟨_,_,p,hp,hof⟩:=hturn g t1 hTg hr.symm;exact absurd hof (hno p.1 t1 ⟨p,by simp[hp],rfl⟩ hTg)
      ·exact hgrow.block g hg hr
     have hshut: ∀g t' s',R.T g=some t'→t'.of s'→(∀p∈wsa,p.1≠s')→w'.heap[g]? =w.heap[g]? :=by
      intro g t' s' hg hof hne;refine hgrow.block g (hwlt g t' hg) fun e=> ?_
      obtain⟨_,_,p,hp,hof'⟩:=hturn g t' hg e.symm;exact hne p hp (IE hof' hof)
     have hXc:=X.cells (R.turn w w' (fun t=>fx (fy t)) s v').T w' (fun g t' hg hp=>by
      refine⟨by rw[hTt g t' hg,hfa t' hp],fun hne=>hgrow.block g (hwlt g t' hg) fun e=> ?_⟩
      exact hne (hturn g t' hg e.symm).1)
     have hYc:=Y.cells (R.turn w w' (fun t=>fx (fy t)) s v').T w' (fun g t' hg ⟨p,hp,hof⟩=>by
      refine⟨by rw[hTt g t' hg,hfb t' p hp hof],?_⟩
      exact hshut g t' p.1 hg hof (fun p' hp' e=>hdis p' hp' p hp e))
     have hE:A8 tyK (R.turn w w' (fun t=>fx (fy t)) s v').T w' s q (xs++ys) hoo v':=by
      have hlen:(xs++ys).length=xs.length+ys.length:=by simp
      rcases hrow' with⟨A,e1,e2,e3⟩|hown
      ·exact .inl ⟨A,e1,List.eq_nil_of_length_eq_zero (by rw[hlen];exact e2)⟩
      · refine Classical.byCases (fun hem: ∃A,v'=.slice A 0 0∧xs++ys=[]=>.inl hem) fun hem=>.inr ⟨flat++news,by rw[hlen];exact hown,fun g hg=> ?_,fun y hy=> ?_,fun i z hz' j c hc _=> ?_⟩
        · rcases hob with⟨e1,e2⟩|e1
          · have tagged:(∀g,(a.eval x).ownBlock=some g→ ∃t,R.T g=some t∧fx t=.slot s∧(∃p∈wsa,t.of p.1)∧ ∀t',R.T g=some t'→t'=t)→(R.turn w w' (fun t=>fx (fy t)) s v').T g=some (.slot s):=by
             intro h3;obtain⟨t1,ht1,hfx,hof,_⟩:=h3 g (by rw[←e1];exact hg)
             rw[hTt g t1 ht1,hfa t1 hof,hfx]
            rcases e2 with e2|e2|e2
            · rcases hrow with⟨A,e3,e4,_⟩|⟨e3,_⟩
              · obtain⟨e5,_⟩:=hm0 e2
                exact absurd ⟨A,e5.trans e3,List.eq_nil_of_length_eq_zero (by rw[hlen];omega)⟩ hem
              ·exact tagged e3
            ·exact tagged e2
            ·rw[←e1,hg]at e2;cases e2
          · rw[e1]at hg
            injection hg with hg
            subst hg;have h5:=(hown.lt _ e1).2;show(if w.heap.size<w.heap.size then _ else if w.heap.size<w'.heap.size then _ else _)=_
            rw[if_neg (by omega),if_pos h5]
        · rw[List.mem_append]at hy
          rcases hy with hy|hy
          ·exact X.one y hy
          ·exact Y.one y hy
        · have hfl:flat.length=xs.length*q.size:=by
           rcases hrow with⟨A,_,e4,e5⟩|⟨_,e5⟩
           ·rw[e5,e4];simp
           ·exact e5.1
          have hj:j<q.size:=by rw[←q.cells_length z];exact(List.getElem?_eq_some_iff.1 hc).1
          by_cases hi:i<xs.length
          · rw[List.getElem?_append_left hi]at hz'
            obtain⟨y,hy,hoc⟩:=hXc i z hz' j c hc;have:i*q.size+j<flat.length:=(List.getElem?_eq_some_iff.1 hy).1;exact⟨y,by rw[List.getElem?_append_left this];exact hy,hoc⟩
          · rw[List.getElem?_append_right (by omega)]at hz'
            obtain⟨y,hy,hoc⟩:=hYc (i-xs.length) z hz' j c hc;have hmul:xs.length*q.size≤i*q.size:=Nat.mul_le_mul_right _ (by omega)
            refine⟨y,?_,by rw[show xs.length+(i-xs.length)=i by omega]at hoc;exact hoc⟩
            rw[List.getElem?_append_right (by rw[hfl];omega)]
            rw[←hy]
            congr 1
            rw[hfl,Nat.sub_mul];omega
     have hCh: ∀s',(∃p∈wsa++wsb,p.1=s')→AE H s'≠ .fresh∧AE (AJ H (wsa++wsb)) s'≠ .fresh∧
      ∀(k:Kd) (xs:List k.T) (ho:Ho),AE (AJ H (wsa++wsb)) s'=.root k xs ho→ ∃xs0 ho0,AE H s'=.root k xs0 ho0∧xs.length=xs0.length∧ho≠ .ok:=by
      rintro s' ⟨p,hp,rfl⟩;rw[List.mem_append]at hp;rcases hp with hp|hp
      · have hpl:=BO (X.alive p hp)
        have hg:AE (AJ H (wsa++wsb)) p.1=AE (AJ H wsa) p.1:=by rw[Dr,EU (fun p' hp' e=>hdis p hp p' hp' e.symm)]
        rw[hg];clear hg;have hal:=X.alive p hp;rcases X.ws with hw2|⟨r1,hw2⟩|⟨r1,kd',ys',i',j',hw2,e1,_⟩
        ·rw[hw2]at hp;cases hp
        · rw[hw2]at hp⊢
          simp at hp;subst hp;simp only[AJ];rw[Bo hpl];exact⟨hal,(fun h=>by cases h),fun _ _ _ h=>by cases h⟩
        · rw[hw2]at hp⊢
          simp at hp;subst hp;simp only[AJ];rw[Bo hpl];exact⟨by rw[e1];exact(fun h=>by cases h),(fun h=>by cases h),fun k2 xs2 ho2 h=>by cases h;exact⟨ys',.ok,e1,rfl,fun h=>by cases h⟩⟩
      · have h3:AE (AJ H (wsa++wsb)) p.1=.dead:=by
         rw[Dr];exact Hn (fun p' hp'=>(Y.dead p' hp').1) ⟨p,hp,rfl⟩ (by rw[EE];exact BO (Y.dead p hp).2)
        rw[h3];exact⟨(Y.dead p hp).2,(fun h=>by cases h),fun _ _ _ h=>by cases h⟩
     have hnew:=IB (s:=s) (k:=q) (xs:=xs++ys) (ho:=hoo) (v:=v') (H1:=AJ H (wsa++wsb)) (f:=fun t=>fx (fy t)) hh hlt hf hw (by rw[Y.fz,X.fz])
      (fun s' t' hc hss hof=>by
        rw[Y.fo s' t' (fun p hp e=>hc ⟨p,by simp[hp],e⟩) hof]
        exact X.fo s' t' (fun p hp e=>hc ⟨p,by simp[hp],e⟩) hof)
      (EE _ H) (fun s' hc=>EU fun p hp e=>hc ⟨p,hp,e⟩) hCh hE
      (fun s' hc hp=>by
        obtain⟨p,hp',rfl⟩:=hc;rw[List.mem_append]at hp';rcases hp' with hp'|hp'
        · have hpl:=BO (X.alive p hp')
          have hg:AE (AJ H (wsa++wsb)) p.1=AE (AJ H wsa) p.1:=by rw[Dr,EU (fun p2 hp2 e=>hdis p hp' p2 hp2 e.symm)]
          rw[hg];rcases X.ws with hw2|⟨r1,hw2⟩|⟨r1,kd',ys',i',j',hw2,e1,efx⟩
          ·rw[hw2]at hp';cases hp'
          · rw[hw2]at hp'⊢
            simp at hp';subst hp';simp only[AJ];rw[Bo hpl];trivial
          · have hsr:s≠r1:=fun e=>hsa (r1,E.root kd' ys' (.hole i' j')) (by rw[hw2];simp) e.symm
            rw[hw2]at hp';simp at hp';subst hp';have e2:AE (AJ H wsa) r1=.root kd' ys' (.hole i' j'):=by rw[hw2];simp only[AJ];exact Bo hpl
            rw[e2];show A8 tyK _ w' r1 kd' ys' (.hole i' j') (upd R.ρ s v' r1);rw[IV (Ne.symm hsr)];have inA: ∃p∈wsa,p.1=r1:=⟨(r1,E.root kd' ys' (.hole i' j')),by rw[hw2];simp,rfl⟩
            have keepT: ∀g t',R.T g=some t'→t'.of r1→t'≠ .nest r1 i' j'→(R.turn w w' (fun t=>fx (fy t)) s v').T g=some t'∧w'.heap[g]? =w.heap[g]? :=by
             intro g t' hg hof hne;have hfx:fx t'=t':=by
              rw[efx];cases t' with
              |slot b=>rfl
              |nest b i2 j2=>
               have:b=r1:=hof;subst this;simp only[Gz];rw[if_neg];rintro⟨_,rfl,rfl⟩;exact hne rfl
              |frozen=>exact hof.elim
             obtain⟨p3,hp3,e3⟩:=inA;refine⟨by rw[hTt g t' hg,hfa t' ⟨p3,hp3,by rw[e3];exact hof⟩,hfx],hgrow.block g (hwlt g t' hg) fun e=> ?_⟩
             obtain⟨_,h6,_⟩:=hturn g t' hg e.symm;rw[hfx]at h6;subst h6;exact hsr hof
            rcases Bq hh e1 with h7|⟨fl,h7,h8,h9,h10⟩
            ·exact .inl h7
            · refine .inr ⟨fl,ED h7 fun g hg=>(keepT g _ (h8 g hg) rfl (fun h=>by cases h)).2,fun g hg=>(keepT g _ (h8 g hg) rfl (fun h=>by cases h)).1,h9,fun i z hz' j c hc hna=> ?_⟩
              obtain⟨y,hy,hoc⟩:=h10 i z hz' j c hc (fun h=>h)
              refine⟨y,hy,?_⟩;cases c with
              |nest zs=>
               rcases hoc with h11|⟨h11,h12⟩
               ·exact .inl h11
               · have hne:Tag.nest r1 i j≠ .nest r1 i' j':=fun e=>by
                  injection e with _ e4 e5
                  exact hna ⟨e4,e5⟩
                 exact .inr ⟨ED h11 fun g hg=>(keepT g _ (h12 g hg) rfl hne).2,fun g hg=>(keepT g _ (h12 g hg) rfl hne).1⟩
              |_=>exact hoc
        · have h3:AE (AJ H (wsa++wsb)) p.1=.dead:=by
           rw[Dr];exact Hn (fun p2 hp2=>(Y.dead p2 hp2).1) ⟨p,hp',rfl⟩ (by rw[EE];exact BO (Y.dead p hp').2)
          rw[h3];trivial)
     have hpe:AJ H (wsa++wsb++[(s,.root q (xs++ys) hoo)])=(AJ H (wsa++wsb)).set s (.root q (xs++ys) hoo):=by rw[Dr];rfl
     refine⟨_,hK,Cj.value (v:=v') (w':=w') (R':=R.turn w w' (fun t=>fx (fy t)) s v') ?_ ?_ ?_ ?_⟩
     ·simp[execOp,ho,resolve,hc,invoke,builtin,hat,hargs,eu,hrun]
     ·rw[hpe];exact hnew.1
     ·rw[hpe];exact hnew.2
     · rw[hpe]
       have hone:v'.oneCell'=true:=by
        rcases hrow' with⟨A,e1,_⟩|h5
        ·rw[e1];rfl
        ·rcases h5.2 with⟨e1,_⟩|⟨_,_,_,e1,_⟩<;>rw[e1]<;>rfl
       refine .bor s _ hone (by rw[Bo (by rw[EE];exact hlt)];exact(fun h=>by cases h)) fun k' xs' ho' _=> ?_
       exact(Ds _ _ _).symm
   ·cases h
 ·cases h
end
end Go.Proofs.YthoholbeacojfaaGreat.VR
end
section
set_option linter.unusedVariables false
set_option linter.unusedSimpArgs false
set_option linter.unusedSectionVars false
namespace Go.Proofs.YthoholbeacojfaaGreat.VR
open Go
section
variable {P:Program}{Tb:TypeId→Option TI}{tyK:Kd→TypeId}{R:Re}{H:List E}{w:World}{a:Act}{o:Oper}{oa:OA}{tm:List V}{α:Type}{r:α}{Co:Orc}{k:Eff→Option α}
def TE(ho:Ho)(i j:Nat)(cs:List C)(ho':Ho):Prop:=
 (C.anyNest cs=false∧ho'=ho)∨(C.anyNest cs=true∧ho'=.dirty∧ ∀i0 j0,ho=.hole i0 j0→i0=i∧j≤j0∧j0<j+cs.length)
theorem Ho.store_spec{ho:Ho}{i j:Nat}{cs:List C}{k:Ho→Option α}(h:ho.store i j cs k=some r): ∃ho',TE ho i j cs ho'∧k ho'=some r:=by
 unfold Ho.store at h;cases ha:C.anyNest cs with
 |false=>rw[ha]at h;exact⟨ho,.inl ⟨ha,rfl⟩,h⟩
 |true=>
  rw[ha]at h;simp only[cond_true]at h;split at h
  · rename_i i0 j0
    obtain⟨h1,h⟩:=AQ h;simp only[Bool.and_eq_true,decide_eq_true_eq]at h1;obtain⟨⟨h1,h2⟩,h3⟩:=h1;exact⟨.dirty,.inr ⟨ha,rfl,fun i1 j1 e=>by injection e with e1 e2;omega⟩,h⟩
  · rename_i hno
    exact⟨.dirty,.inr ⟨ha,rfl,fun i1 j1 e=>absurd e (hno i1 j1)⟩,h⟩
theorem Zl{cs:List C}(h:C.anyNest cs=false){j:Nat}{ys:List Int}(hj:cs[j]? =some (.nest ys)):False:=by
 induction cs generalizing j with
 |nil=>simp at hj
 |cons c cs ih=>
  simp only[C.anyNest,Bool.or_eq_false_iff]at h;cases j with
  |zero=>simp at hj;subst hj;cases h.1
  |succ j=>exact ih h.2 (by simpa using hj)
theorem Vo{q:Kd}(x:q.T){j:Nat}(h:q.nestAt j=true): ∃ys,(q.cells x)[j]? =some (.nest ys):=by
 obtain⟨rfl,rfl⟩:=G0 h;exact⟨x.Waits,rfl⟩
theorem Uo{i i' sz j j':Nat}(hj:j<sz)(hj':j'<sz)(h:i*sz+j=i'*sz+j'):i=i'∧j=j':=by
 have h1:(i*sz+j)/sz=i:=by rw[Nat.add_comm,Nat.add_mul_div_right _ _ (by omega),Nat.div_eq_of_lt hj];omega
 have h2:(i'*sz+j')/sz=i':=by rw[Nat.add_comm,Nat.add_mul_div_right _ _ (by omega),Nat.div_eq_of_lt hj'];omega
 rw[h]at h1;rw[h1]at h2;subst h2;exact⟨rfl,by omega⟩
theorem tO(hh:HR tyK R H w){q:Nat}{kd:Kd}{xs:List kd.T}{ho:Ho}(e:AE H q=.root kd xs ho){i j:Nat}(hi:i<xs.length){ws:List (Nat×E)}{cs:List C}{us:List Value}
 (hrel:S9 R H ws cs us) (hle:j+cs.length≤kd.size) {x':kd.T} (hof:kd.ofCells (A5 (row kd xs i) j cs)=some x') {ho':Ho} (hho:TE ho i j cs ho') (h1: ∀u∈us,u.oneCell'=true)
 {g n cap:Nat} (hr:R.ρ q=.slice (some ⟨g,0,none⟩) n cap):
 ∃w' R',(storeCells ⟨g,i*kd.size+j,none⟩ us).run P w=.ok () w'∧Pres R H w R' (AJ H (ws++[(q,.root kd (xs.set i x') ho')])) w'∧HR tyK R' (AJ H (ws++[(q,.root kd (xs.set i x') ho')])) w':=by
 obtain⟨hl,hrel⟩:=hrel;have hq0:AE H q≠ .fresh:=by rw[e];exact(fun h=>by cases h)
 have hql:=BO hq0;obtain⟨g',cap',cur,hr',hg,hTg,hnc,hcm,hcs,hones,_⟩:=G5 hh e hi;rw[hr]at hr';simp only[Value.slice.injEq,Option.some.injEq,Addr.mk.injEq,and_true]at hr';obtain⟨rfl,rfl,rfl⟩:=hr';have hf: ∃f:Tag→Tag,f .frozen=.frozen∧(∀s' t,(∀p∈ws,p.1≠s')→t.of s'→f t=t)∧(∀p∈ws,p.2=.dead∧AE H p.1≠ .fresh∧p.1≠q)∧
  ∀(T':Nat→Option Tag) (w':World),(∀g0 t,R.T g0=some t→(∃p∈ws,t.of p.1)→T' g0=some (f t)∧w'.heap[g0]? =w.heap[g0]?)→
   ∀(m:Nat) (c:C) (u:Value),cs[m]? =some c→us[m]? =some u→Be tyK T' w' q i (j+m) c u:=by
  rcases hrel with⟨rfl,hs⟩|⟨j0,ys,u0,hc0,hu0,⟨r0,ho0,rfl,e0,hw0,rfl⟩,hs⟩
  ·exact⟨id,rfl,fun _ _ _ _=>rfl,fun p hp=>(by cases hp),fun T' w' _ m c u hc hu=>(hs m c u hc hu).own⟩
  · have hne:r0≠q:=by
     rintro rfl;rw[e]at e0;cases e0;have h2:(Kd.int.cells x')[j+j0]? =some (.nest ys):=by
      rw[Kd.cells_ofCells hof,Br _ _ _ (by unfold row;rw[Kd.cells_length];exact hle)]
      have:=(List.getElem?_eq_some_iff.1 hc0).1;rw[if_neg (by omega),if_pos (by omega),show j+j0-j=j0 by omega]
      exact hc0
     have:=Vp h2;obtain⟨h3,_⟩:=G0 this;cases h3
    refine⟨Jv r0 q i (j+j0),rfl,fun s' t hn hof=>Vn hof (fun e=>hn (r0,.dead) (by simp) e.symm),fun p hp=>by simp at hp;subst hp;exact⟨rfl,by rw[e0];exact(fun h=>by cases h),hne⟩,fun T' w' hT' m c u hc hu=> ?_⟩
    by_cases hm:m=j0
    · subst hm
      rw[hc]at hc0;injection hc0 with hc0
      subst hc0;rw[hu]at hu0;injection hu0 with hu0
      subst hu0;rcases VH hh e0 hw0 with h2|⟨h2,h3⟩
      ·exact .inl h2
      · refine .inr ⟨ED h2 fun g0 hg0=>(hT' g0 _ (h3 g0 hg0) ⟨(r0,.dead),by simp,rfl⟩).2,fun g0 hg0=> ?_⟩
        rw[(hT' g0 _ (h3 g0 hg0) ⟨(r0,.dead),by simp,rfl⟩).1]
        simp[Jv]
    ·exact(hs m c u hc hu hm).own
 obtain⟨f,hff,hfo,hws,hcell⟩:=hf;have hwq: ∀p∈ws,p.1≠q:=fun p hp=>(hws p hp).2.2
 have hfit:i*kd.size+j+us.length≤cur.size:=by
  rw[←hl,hcs];have h3:=Nat.mul_le_mul_right kd.size (show i+1≤xs.length by omega)
  have h4:=Nat.mul_le_mul_right kd.size hnc;rw[Nat.add_mul]at h3;omega
 have hrun:=run_storeCells_at P g (i*kd.size+j) (tyK kd) us 0 cur w hg (by rw[Nat.add_zero];exact hfit) h1
 simp only[Nat.add_zero]at hrun;have hw:=Turned.setRow w g (cur.toList.take (i*kd.size+j)++us++cur.toList.drop (i*kd.size+j+us.length)).toArray;have hg':=setRow_heap w g cur (cur.toList.take (i*kd.size+j)++us++cur.toList.drop (i*kd.size+j+us.length)).toArray (tyK kd) _ hg;generalize hw':w.setRow g (cur.toList.take (i*kd.size+j)++us++cur.toList.drop (i*kd.size+j+us.length)).toArray=w' at hrun hw hg';have hcurl:cur.toList.length=cur.size:=Array.length_toList;have hgetH: ∀s',AE (AJ H (ws++[(q,.root kd (xs.set i x') ho')])) s'=if s'=q then .root kd (xs.set i x') ho' else AE (AJ H ws) s':=by
  intro s';rw[Dr];simp only[AJ];rw[C8]
  by_cases h2:s'=q
  · subst h2
    rw[if_pos ⟨rfl,by rw[EE];exact hql⟩,if_pos rfl]
  ·rw[if_neg (fun h=>h2 h.1.symm),if_neg h2]
 have hgetD: ∀s',AE (AJ H ws) s'=if∃p∈ws,p.1=s' then(if s'<H.length then .dead else .fresh)else AE H s':=by
  intro s';split
  · rename_i h2
    obtain⟨p,hp,rfl⟩:=h2;have:=BO (hws p hp).2.1;rw[if_pos this];exact Hn (fun p hp=>(hws p hp).1) ⟨p,hp,rfl⟩ this
  · rename_i h2
    exact EU fun p hp e=>h2 ⟨p,hp,e⟩
 let R':Re:=⟨fun g0=>(R.T g0).map f,R.β,R.ρ⟩
 have hnestcell: ∀i' j',C.anyNest cs=false→kd.nestAt j'=true→w'.cell? ⟨g,i'*kd.size+j',none⟩=w.cell? ⟨g,i'*kd.size+j',none⟩:=by
  intro i' j' han hj';have hjs:j'<kd.size:=by obtain⟨rfl,rfl⟩:=G0 hj';decide
  rw[cell_of_row w' g _ _ _ _ hg',cell_of_row w g _ cur _ _ hg];have:(A5 cur.toList (i*kd.size+j) us)[i'*kd.size+j']? =cur.toList[i'*kd.size+j']? :=by
   rw[Br _ _ _ (by rw[hcurl];exact hfit)]
   by_cases c1:i'*kd.size+j'<i*kd.size+j
   ·rw[if_pos c1]
   · rw[if_neg c1]
     by_cases c2:i'*kd.size+j'<i*kd.size+j+us.length
     · exfalso
       have hii:i'*kd.size+j'=i*kd.size+(j+(i'*kd.size+j'-(i*kd.size+j))):=by omega
       obtain⟨_,h3⟩:=Uo hjs (by omega) hii
       obtain⟨ys,hys⟩:=Vo x' hj';rw[Kd.cells_ofCells hof,Br _ _ _ (by unfold row;rw[Kd.cells_length];exact hle),if_neg (by omega),if_pos (by omega)]at hys
       exact Zl han hys
     ·rw[if_neg c2]
  rw[List.getElem?_toArray,←Array.getElem?_toList];exact this
 have hkeepblk: ∀g0 t s',R.T g0=some t→t.of s'→s'≠q→w'.heap[g0]? =w.heap[g0]? :=by
  intro g0 t s' ht hof hne;refine hw.block g0 fun e2=> ?_
  subst e2;rw[hTg]at ht;injection ht with ht
  subst ht;exact hne hof.symm
 have hp:Pres R H w R' (AJ H (ws++[(q,.root kd (xs.set i x') ho')])) w':=by
  refine⟨⟨hw.os,hw.tape,hw.output,by rw[hw.size];exact Nat.le_refl _,fun g0 _ ho2=> ?_⟩,fun s' h'=> ?_,fun _ _=>rfl,fun s' k' xs2 ho2 h' e2=> ?_⟩
  · refine⟨?_,hw.block g0 fun e2=> ?_⟩
    · show(R.T g0).map f=R.T g0
      rcases ho2 with h2|⟨_,h2⟩
      ·rw[h2];rfl
      ·rw[h2];simp[hff]
    · subst e2
      rw[hTg]at ho2;rcases ho2 with h2|⟨_,h2⟩
      ·cases h2
      ·injection h2 with h2;cases h2
  · rw[hgetH,hgetD]
    split
    ·exact(fun h=>by cases h)
    · split
      ·rw[if_pos (BO h')];exact(fun h=>by cases h)
      ·exact h'
  · rw[hgetH,hgetD]at e2
    split at e2
    · rename_i hsq
      subst hsq;cases e2;refine⟨xs,ho,e,rfl,by simp,fun hok=> ?_⟩
      rcases hho with⟨h2,h3⟩|⟨_,h3,_⟩
      · refine⟨by rw[←h3];exact hok,fun g0 n0 cap0 i' j' hr0 hj' _=> ?_⟩
        rw[hr]at hr0;simp only[Value.slice.injEq,Option.some.injEq,Addr.mk.injEq,and_true]at hr0;obtain⟨rfl,_⟩:=hr0;exact hnestcell i' j' h2 hj'
      ·rw[h3]at hok;cases hok
    · rename_i hsq
      split at e2
      ·rw[if_pos (BO h')]at e2;cases e2
      · refine⟨xs2,ho2,e2,rfl,rfl,fun hok=>⟨hok,fun g0 n0 cap0 i' j' hr0 _ hi'=> ?_⟩⟩
        obtain⟨h3,_,_⟩:=IJ hh e2 hr0 (by omega)
        exact World.cell?_of_block (a:=⟨g0,_,none⟩) (hkeepblk g0 _ s' h3 rfl hsq)
 refine⟨w',R',by rw[←hw'];rw[hw'];exact hrun,hp,hh.next hp (by rw[EE]) (fun s' hs'=> ?_) (fun g0 hg0=> ?_)⟩
 · by_cases hsq:s'=q
   · subst hsq
     refine .inr ?_;rw[hgetH,if_pos rfl];show A8 tyK R'.T w' s' kd (xs.set i x') ho' (R.ρ s');rcases Bq hh e with⟨A,_,hx⟩|⟨flat,h2,h3,h4,h5⟩
     ·subst hx;simp at hi
     · have hflat:flat=cur.toList.take (xs.length*kd.size):=by
        rcases h2.2 with⟨h6,_⟩|⟨g2,cap2,cur2,h6,_,h7,_,_,_,h8⟩
        ·rw[hr]at h6;cases h6
        · rw[hr]at h6
          simp only[Value.slice.injEq,Option.some.injEq,Addr.mk.injEq,and_true]at h6;obtain⟨rfl,_⟩:=h6;rw[hg]at h7;injection h7 with h7
          injection h7 with h7 _ _
          subst h7;exact h8.symm
       have hfl:flat.length=xs.length*kd.size:=h2.1;have hfit2:i*kd.size+j+us.length≤flat.length:=by
        rw[hfl,←hl];have h3:=Nat.mul_le_mul_right kd.size (show i+1≤xs.length by omega)
        rw[Nat.add_mul]at h3;omega
       refine .inr ⟨A5 flat (i*kd.size+j) us,⟨by rw[EF _ _ _ hfit2,hfl];simp,.inr ⟨g,cap,_,by simpa using hr,Nat.zero_le _,hg',by simpa using hnc,hcm,?_,?_⟩⟩,fun g0 hg0=> ?_,fun y hy=> ?_,fun i' z hz j' c hc hna=> ?_⟩
       · show(A5 cur.toList (i*kd.size+j) us).toArray.size=_
         rw[List.size_toArray,EF _ _ _ (by rw[hcurl];exact hfit),hcurl,hcs]
       · have h9:xs.length*kd.size≤cur.toList.length:=by rw[hcurl,hcs];exact Nat.mul_le_mul_right _ hnc
         show(A5 cur.toList (i*kd.size+j) us).take ((xs.set i x').length*kd.size)=_;apply List.ext_getElem?;intro m;rw[List.length_set,List.getElem?_take,Br _ _ _ hfit2]
         by_cases c0:m<xs.length*kd.size
         · rw[if_pos c0,Br _ _ _ (by rw[hcurl];exact hfit)]
           have:flat[m]? =cur.toList[m]? :=by rw[hflat,List.getElem?_take,if_pos c0]
           rw[this]
         ·rw[if_neg c0,if_neg (by omega),if_neg (by omega),List.getElem?_eq_none (by omega)]
       · show(R.T g0).map f=_
         rw[h3 g0 hg0];simp[hfo s' (.slot s') hwq rfl]
       · obtain⟨m,hm,rfl⟩:=List.getElem_of_mem hy
         have h6:=List.getElem?_eq_getElem hm;rw[Br _ _ _ hfit2]at h6;split at h6
         ·exact h4 _ (List.mem_of_getElem? h6)
         · split at h6
           ·exact h1 _ (List.mem_of_getElem? h6)
           ·exact h4 _ (List.mem_of_getElem? h6)
       · have hj's:j'<kd.size:=by rw[←kd.cells_length z];exact(List.getElem?_eq_some_iff.1 hc).1
         have retag: ∀(i2 j2:Nat) (c:C) (u:Value),Be tyK R.T w s' i2 j2 c u→Be tyK R'.T w' s' i2 j2 c u:=by
          intro i2 j2 c u hoc;cases c with
          |nest zs=>
           rcases hoc with h6|⟨h6,h7⟩
           ·exact .inl h6
           · refine .inr ⟨ED h6 fun g0 hg0=>hw.block g0 fun e2=> ?_,fun g0 hg0=> ?_⟩
             · subst e2
               have:=h7 g0 hg0;rw[hTg]at this;cases this
             · show(R.T g0).map f=_
               rw[h7 g0 hg0];simp[hfo s' (.nest s' i2 j2) hwq rfl]
          |_=>exact hoc
         rw[List.getElem?_set]at hz
         by_cases hii:i=i'
         · subst hii
           rw[if_pos rfl,if_pos hi]at hz;injection hz with hz
           subst hz;rw[Kd.cells_ofCells hof,Br _ _ _ (by unfold row;rw[Kd.cells_length];exact hle)]at hc
           by_cases c1:j'<j
           · rw[if_pos c1]at hc
             have hna': ¬ho.at i j':=by
              rcases hho with⟨_,h6⟩|⟨_,_,h6⟩
              ·rw[←h6];exact hna
              · intro h7
                cases ho with
                |hole i0 j0=>obtain⟨_,h8,_⟩:=h6 i0 j0 rfl;have:=h7.2;omega
                |ok=>exact h7
                |dirty=>exact h7
             obtain⟨y,hy,hoc⟩:=h5 i xs[i] (List.getElem?_eq_getElem hi) j' c (by unfold row at hc;rw[List.getD_eq_getElem?_getD,List.getElem?_eq_getElem hi]at hc;exact hc) hna'
             exact⟨y,by rw[Br _ _ _ hfit2,if_pos (by omega)];exact hy,retag _ _ _ _ hoc⟩
           · rw[if_neg c1]at hc
             by_cases c2:j'<j+cs.length
             · rw[if_pos c2]at hc
               have hlt:j'-j<us.length:=by rw[←hl];omega
               refine⟨us[j'-j],?_,?_⟩
               · rw[Br _ _ _ hfit2,if_neg (by omega),if_pos (by omega),show i*kd.size+j'-(i*kd.size+j)=j'-j by omega]
                 exact List.getElem?_eq_getElem hlt
               · have:=hcell R'.T w' (fun g0 t ht hp2=>⟨by show(R.T g0).map f=_;rw[ht];rfl,by obtain⟨p,hp3,hof3⟩:=hp2;exact hkeepblk g0 t p.1 ht hof3 (hwq p hp3)⟩) (j'-j) c us[j'-j] hc (List.getElem?_eq_getElem hlt)
                 rw[show j+(j'-j)=j' by omega]at this
                 exact this
             · rw[if_neg c2]at hc
               have hna': ¬ho.at i j':=by
                rcases hho with⟨_,h6⟩|⟨_,_,h6⟩
                ·rw[←h6];exact hna
                · intro h7
                  cases ho with
                  |hole i0 j0=>obtain⟨_,_,h8⟩:=h6 i0 j0 rfl;have:=h7.2;omega
                  |ok=>exact h7
                  |dirty=>exact h7
               obtain⟨y,hy,hoc⟩:=h5 i xs[i] (List.getElem?_eq_getElem hi) j' c (by unfold row at hc;rw[List.getD_eq_getElem?_getD,List.getElem?_eq_getElem hi]at hc;exact hc) hna'
               exact⟨y,by rw[Br _ _ _ hfit2,if_neg (by omega),if_neg (by rw[←hl];omega)];exact hy,retag _ _ _ _ hoc⟩
         · rw[if_neg hii]at hz
           have hna': ¬ho.at i' j':=by
            rcases hho with⟨_,h6⟩|⟨_,_,h6⟩
            ·rw[←h6];exact hna
            · intro h7
              cases ho with
              |hole i0 j0=>obtain⟨h8,_⟩:=h6 i0 j0 rfl;exact hii (h8▸h7.1.symm)
              |ok=>exact h7
              |dirty=>exact h7
           obtain⟨y,hy,hoc⟩:=h5 i' z hz j' c hc hna';refine⟨y,?_,retag _ _ _ _ hoc⟩;rw[Br _ _ _ hfit2]
           by_cases c1:i'*kd.size+j'<i*kd.size+j
           ·rw[if_pos c1];exact hy
           · rw[if_neg c1,if_neg,hy]
             intro c2;have hii2:i'*kd.size+j'=i*kd.size+(j+(i'*kd.size+j'-(i*kd.size+j))):=by omega
             obtain⟨h6,_⟩:=Uo hj's (by rw[←hl]at c2;omega) hii2
             exact hii h6.symm
   · rw[hgetH,if_neg hsq,hgetD]
     split
     ·exact .inr trivial
     · rename_i hno
       refine .inl ⟨rfl,fun g0 t ht hof=>⟨?_,hkeepblk g0 t s' ht hof hsq⟩⟩
       show(R.T g0).map f=_;rw[ht];simp[hfo s' t (fun p hp e=>hno ⟨p,hp,e⟩) hof]
 · show(R.T g0).map f=none
   rw[hh.none_ g0 (by rw[←hw.size];exact hg0)]
   rfl
end
end Go.Proofs.YthoholbeacojfaaGreat.VR
end
