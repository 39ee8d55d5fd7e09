/- Small laws for the printed functions. -/
import Derived.Test.YthoholbeacojfaaGreatA6
import Derived.IntWalk
set_option linter.unusedVariables false
set_option linter.unusedSimpArgs false
set_option linter.unusedSectionVars false
section
set_option linter.unusedVariables false
namespace Go.Proofs.YthoholbeacojfaaGreat.VR
open Go
theorem Ek{P:Program}{tyK:Kd→TypeId}{f:FuncId}{bs:List A}{b:Bool}(h:CK P tyK f bs (.pair .bool .one) (b,())):CK P tyK f bs .bool b:=by
 intro Rc w us hh hv;refine(h Rc w us hh hv).mono ?_;rintro e w' ⟨v,rfl,Rc',Hf,vf,h1,h2,h3,h4,rest,Hf',ht⟩;refine⟨v,rfl,Rc',Hf,vf,h1,h2,h3,h4,?_⟩;simp only[AZ]at ht;obtain⟨⟨r1,r2,r3⟩,e1,ht⟩:=Option.bind_eq_some_iff.1 ht;obtain⟨⟨q1,q2,q3⟩,e2,ht⟩:=Option.bind_eq_some_iff.1 ht;simp only[Option.some.injEq,Prod.mk.injEq]at ht;obtain⟨⟨rfl,_⟩,_⟩:=ht;exact⟨r2,r3,e1⟩
theorem BT{p:Prop}[Decidable p]{α:Type}(x y:α):cond (decide p) x y=if p then x else y:=by by_cases h:p<;>simp[h]
theorem QE{x y:Bool}(h:x=true↔y=true):x=y:=Bool.eq_iff_iff.2 h
theorem AV{n:Int}(h1: -9223372036854775808≤n)(h2:n≤9223372036854775807):w64 n=n:=by
 exact IntWalk.i64_in _ ⟨h1,h2⟩
theorem D0{β:Type}(b:Bool)(x y:β):cond b (some (x,())) (some (y,()))=some (cond b x y,()):=by cases b<;>rfl
theorem CC(b x y:Bool):(cond b x y=true)↔((b=true∧x=true)∨(b=false∧y=true)):=by cases b<;>simp
theorem DK{β:Type}(b:Bool)(x y:β):cond (!b) x y=cond b y x:=by cases b<;>rfl
theorem DO{P:Prop}[Decidable P]{x:Bool}(h:x=true↔P):(some (x,()):Option (Bool×Unit))=some (decide P,()):=by
 rw[QE (h.trans decide_eq_true_iff.symm)]
def Ab:Nat:=4611686018427387904
theorem AG{i n:Nat}(h:i<n):decide ((i:Int)<(n:Int))=true:=decide_eq_true (by omega)
theorem AW(n:Nat):decide ((n:Int)<(n:Int))=false:=decide_eq_false (by omega)
theorem AI(i:Nat):decide (0≤(i:Int))=true:=decide_eq_true (by omega)
theorem AL{i:Nat}(h:i<Ab):w64 ((i:Int)+1)=((i+1:Nat):Int):=by
 unfold Ab at h;rw[AV (by omega) (by omega)];omega
theorem AH{β:Type}{xs:List β}{i:Nat}(h:i<xs.length)(d:β):List.getD xs (Int.toNat (i:Int)) d=xs[i]:=by
 simp[List.getD_eq_getElem?_getD,List.getElem?_eq_getElem h]
theorem Af{β:Type}{xs:List β}{i:Nat}(h:i<xs.length)(d:β):List.getD xs i d=xs[i]:=by
 simp[List.getD_eq_getElem?_getD,List.getElem?_eq_getElem h]
theorem Ak{R:Type}{l:Nat→Nat→R}{len:Nat}{r:R}(Inv:Nat→Prop)(h0:Inv 0)(hend: ∀m,Inv len→l (m+1) len=r)
 (hstep: ∀m i,i<len→Inv i→(l (m+1) i=l m (i+1)∧Inv (i+1))∨l (m+1) i=r) {m:Nat} (hm:len<m):l m 0=r:=by
 have: ∀(d i m:Nat),i+d=len→d<m→Inv i→l m i=r:=by
  intro d
  induction d with
  |zero=>
   intro i m hi hm hI;obtain⟨m,rfl⟩: ∃q,m=q+1:=⟨m-1,by omega⟩
   have:i=len:=by omega
   subst this;exact hend m hI
  |succ d ih=>
   intro i m hi hm hI;obtain⟨m,rfl⟩: ∃q,m=q+1:=⟨m-1,by omega⟩
   rcases hstep m i (by omega) hI with⟨h1,h2⟩|h1
   ·rw[h1];exact ih (i+1) m (by omega) (by omega) h2
   ·exact h1
 exact this len 0 m (by omega) hm h0
theorem Du{R β:Type}{l:Nat→Int→R}{xs:List β}{p:β→Bool}{k0 k1:R}(hend: ∀m,l (m+1) (xs.length:Int)=k1)
 (hstep: ∀m (i:Nat) (h:i<xs.length),l (m+1) (i:Int)=cond (p xs[i]) (l m ((i+1:Nat):Int)) k0) {m:Nat} (hm:xs.length<m):l m 0=cond (xs.all p) k1 k0:=by
 have: ∀(d i m:Nat),i+d=xs.length→d<m→l m (i:Int)=cond ((xs.drop i).all p) k1 k0:=by
  intro d
  induction d with
  |zero=>
   intro i m hi hm;obtain⟨m,rfl⟩: ∃q,m=q+1:=⟨m-1,by omega⟩
   have:i=xs.length:=by omega
   subst this;rw[hend,List.drop_length];rfl
  |succ d ih=>
   intro i m hi hm;obtain⟨m,rfl⟩: ∃q,m=q+1:=⟨m-1,by omega⟩
   have h:i<xs.length:=by omega
   rw[hstep m i h,ih (i+1) m (by omega) (by omega),List.drop_eq_getElem_cons h,List.all_cons]
   cases p xs[i]<;>rfl
 have:=this xs.length 0 m (by omega) hm
 simpa using this
theorem C0{R β:Type}{l:Nat→Int→R}{xs:List β}{p:β→Bool}{k0:Int→R}{k1:R}(hend: ∀m,l (m+1) (xs.length:Int)=k1)
 (hstep: ∀m (i:Nat) (h:i<xs.length),l (m+1) (i:Int)=cond (p xs[i]) (k0 (i:Int)) (l m ((i+1:Nat):Int))) {m:Nat} (hm:xs.length<m):
 l m 0=match xs.findIdx? p with|some i=>k0 (i:Int)|none=>k1:=by
 have: ∀(d i m:Nat),i+d=xs.length→d<m→l m (i:Int)=match(xs.drop i).findIdx? p with|some j=>k0 ((i+j:Nat):Int)|none=>k1:=by
  intro d
  induction d with
  |zero=>
   intro i m hi hm;obtain⟨m,rfl⟩: ∃q,m=q+1:=⟨m-1,by omega⟩
   have:i=xs.length:=by omega
   subst this;rw[hend,List.drop_length];rfl
  |succ d ih=>
   intro i m hi hm;obtain⟨m,rfl⟩: ∃q,m=q+1:=⟨m-1,by omega⟩
   have h:i<xs.length:=by omega
   rw[hstep m i h,ih (i+1) m (by omega) (by omega),List.drop_eq_getElem_cons h,List.findIdx?_cons]
   cases hp:p xs[i]with
   |true=>simp
   |false=>
    simp only[cond_false,Bool.false_eq_true,if_false];cases (xs.drop (i+1)).findIdx? p with
    |none=>rfl
    |some j=>simp;congr 1;omega
 have:=this xs.length 0 m (by omega) hm
 simpa using this
theorem P5{β:Type}(p:β→Bool)(xs:List β)(i:Nat):(xs.take i).countP p≤i:=Nat.le_trans List.countP_le_length (List.length_take_le _ _)
theorem P6{β:Type}(p:β→Bool){xs:List β}{i:Nat}(h:i<xs.length):(xs.take (i+1)).countP p=(xs.take i).countP p+cond (p xs[i]) 1 0:=by
 rw[List.take_succ_eq_append_getElem h,List.countP_append,List.countP_singleton];cases p xs[i]<;>simp
theorem dh{β γ:Type}(f:β→γ){xs:List β}{i:Nat}(h:i<xs.length):(xs.take (i+1)).map f=(xs.take i).map f++[f xs[i]]:=by
 rw[List.take_succ_eq_append_getElem h,List.map_append];rfl
theorem Ev{β:Type}(p:β→Bool){xs:List β}{i:Nat}(h:i<xs.length):(xs.take (i+1)).filter p=(xs.take i).filter p++cond (p xs[i]) [xs[i]] []:=by
 rw[List.take_succ_eq_append_getElem h,List.filter_append];cases hp:p xs[i]<;>simp[List.filter_cons,hp]
end Go.Proofs.YthoholbeacojfaaGreat.VR
end
section
set_option linter.unusedVariables false
set_option linter.unusedSimpArgs false
namespace Go.Proofs.YthoholbeacojfaaGreat.VR
open Go
structure Small(B:Nat)(s:Sys):Prop where
 tasks:s.Tasks.length≤B
 locks:s.Locks.length≤B
 waits: ∀x∈s.Locks,x.Waits.length≤B
 ghosts:s.Ghosts.length≤B
 floors:s.Floors.length≤B
 trace:s.Trace.length≤B
def BS(l:List Lock)(no:Int):Option Nat:=l.findIdx? fun k=>decide (no∈k.Waits)
def next(l:List Lock)(no:Int):Option Int:=match BS l no with
 |none=>none
 |some i=>some (l.getD i (Kd.dflt .lock)).Owner
def Ao(l:List Lock):Nat→Int→Option (List Int)
 |0,_=>none
 |k+1,no=>match next l no with
  |none=>some []
  |some o=>(Ao l k o).map (o:: ·)
theorem KV{l:List Lock}: ∀{k:Nat} {no:Int} {c:List Int},Ao l k no=some c→ ∀k',k≤k'→Ao l k' no=some c
 |0,no,c,h,k',hk=>by cases h
 |k+1,no,c,h,k',hk=>by
  obtain⟨k',rfl⟩: ∃q,k'=q+1:=⟨k'-1,by omega⟩
  unfold Ao at h⊢;cases hn:next l no with
  |none=>rw[hn]at h;exact h
  |some o=>
   rw[hn]at h;simp only at h⊢;obtain⟨c',h1,rfl⟩:=Option.map_eq_some_iff.1 h;rw[KV h1 k' (by omega)];rfl
theorem aR{l:List Lock}{k k':Nat}{no:Int}{c c':List Int}(h:Ao l k no=some c)(h':Ao l k' no=some c'):c=c':=by
 have h1:=KV h (k+k') (by omega)
 have h2:=KV h' (k+k') (by omega)
 rw[h1]at h2;exact Option.some.inj h2
theorem Tl{l:List Lock}: ∀{k:Nat} {no:Int} {c:List Int},Ao l k no=some c→ ∀(p s:List Int) (x:Int),no::c=p++x::s→Ao l k x=some s
 |0,no,c,h,p,s,x,e=>by cases h
 |k+1,no,c,h,p,s,x,e=>by
  cases p with
  |nil=>
   simp only[List.nil_append,List.cons.injEq]at e;obtain⟨rfl,rfl⟩:=e;exact h
  |cons y p=>
   simp only[List.cons_append,List.cons.injEq]at e;obtain⟨rfl,e⟩:=e;unfold Ao at h;cases hn:next l no with
   |none=>rw[hn]at h;injection h with h;subst h;cases p<;>cases e
   |some o=>
    rw[hn]at h;simp only at h;obtain⟨c',h1,rfl⟩:=Option.map_eq_some_iff.1 h;exact KV (Tl h1 p s x e) _ (by omega)
theorem MZ{l:List Lock}: ∀{k:Nat} {no:Int} {c:List Int},Ao l k no=some c→(no::c).Nodup
 |0,no,c,h=>by cases h
 |k+1,no,c,h=>by
  have h0:=h;unfold Ao at h;cases hn:next l no with
  |none=>rw[hn]at h;injection h with h;subst h;simp
  |some o=>
   rw[hn]at h;simp only at h;obtain⟨c',h1,rfl⟩:=Option.map_eq_some_iff.1 h;refine List.nodup_cons.2 ⟨fun hm=> ?_,MZ h1⟩
   obtain⟨s1,s2,e⟩:=List.append_of_mem hm;have h2:=Tl h0 (no::s1) s2 no (by rw[e];rfl)
   have h3:=congrArg List.length (aR h2 h0);have h4:=congrArg List.length e;simp at h3 h4;omega
theorem Ou: ∀{c L:List Int},c.Nodup→(∀x∈c,x∈L)→c.length≤L.length
 | [],L,_,_=>Nat.zero_le _
 |x::c,L,hn,hs=>by
  rw[List.nodup_cons]at hn;have hx:=hs x (List.mem_cons_self ..);have h1:=Ou (L:=L.erase x) hn.2 fun y hy=>by
   have hne:y≠x:=fun e=>hn.1 (e▸hy)
   exact(List.mem_erase_of_ne hne).2 (hs y (List.mem_cons_of_mem _ hy))
  have h2:=List.length_erase_of_mem hx;have h3:=List.length_pos_of_mem hx;simp;omega
theorem ZU{l:List Lock}{no:Int}{i:Nat}(h:BS l no=some i):i<l.length:=by
 unfold BS at h;rw[List.findIdx?_eq_some_iff_findIdx_eq]at h;exact h.1
theorem Rf{l:List Lock}{no o:Int}(h:next l no=some o):o∈l.map (·.Owner):=by
 unfold next at h
 split at h
 ·cases h
 · rename_i i hi
   injection h with h
   have hl:=ZU hi;rw[←h,List.getD_eq_getElem?_getD,List.getElem?_eq_getElem hl];exact List.mem_map.2 ⟨_,List.getElem_mem hl,rfl⟩
theorem Tj{l:List Lock}: ∀{k:Nat} {no:Int} {c:List Int},Ao l k no=some c→ ∀x∈c,x∈l.map (·.Owner)
 |0,no,c,h=>by cases h
 |k+1,no,c,h=>by
  unfold Ao at h;cases hn:next l no with
  |none=>rw[hn]at h;injection h with h;subst h;intro x hx;cases hx
  |some o=>
   rw[hn]at h;simp only at h;obtain⟨c',h1,rfl⟩:=Option.map_eq_some_iff.1 h;intro x hx;rcases List.mem_cons.1 hx with rfl|hx
   ·exact Rf hn
   ·exact Tj h1 x hx
theorem HO{l:List Lock}{k:Nat}{no:Int}{c:List Int}(h:Ao l k no=some c):c.length≤l.length:=by
 have:=Ou (List.nodup_cons.1 (MZ h)).2 (Tj h);simpa using this
theorem Ti{l:List Lock}: ∀{k:Nat} {no:Int} {c:List Int},Ao l k no=some c→Ao l (c.length+1) no=some c
 |0,no,c,h=>by cases h
 |k+1,no,c,h=>by
  unfold Ao at h⊢;cases hn:next l no with
  |none=>rw[hn]at h;exact h
  |some o=>
   rw[hn]at h;simp only at h⊢;obtain⟨c',h1,rfl⟩:=Option.map_eq_some_iff.1 h;rw[List.length_cons,Ti h1];rfl
def BD(l:List Lock)(no:Int):Option (List Int):=Ao l (l.length+1) no
theorem Im{l:List Lock}{k:Nat}{no:Int}{c:List Int}(h:Ao l k no=some c):BD l no=some c:=by
 have:=HO h;exact KV (Ti h) _ (by omega)
theorem aQ{l:List Lock}{no:Int}(h:BD l no=none)(k:Nat):Ao l k no=none:=by
 cases e:Ao l k no with
 |none=>rfl
 |some c=>rw[Im e]at h;cases h
theorem KU{l:List Lock}{no o:Int}(h:next l no=some o):BD l no=(BD l o).map (o:: ·):=by
 cases e:BD l o with
 |some c=>
  have:Ao l (l.length+2) no=some (o::c):=by
   show(match next l no with|none=>some []|some o=>(Ao l (l.length+1) o).map (o:: ·))=_
   rw[h];show(Ao l (l.length+1) o).map (o:: ·)=_
   unfold BD at e;rw[e];rfl
  rw[Im this];rfl
 |none=>
  have:Ao l (l.length+1) no=none:=by
   show(match next l no with|none=>some []|some o=>(Ao l l.length o).map (o:: ·))=_
   rw[h];show(Ao l l.length o).map (o:: ·)=_
   rw[aQ e];rfl
  exact this
theorem MY{l:List Lock}{no:Int}(h:next l no=none):BD l no=some []:=by
 show(match next l no with|none=>some []|some o=>(Ao l l.length o).map (o:: ·))=_
 rw[h]
def AT(l:List Lock):List Int:=l.flatMap (·.Waits)
structure LocksOk(l:List Lock):Prop where
 len:l.length≤5
 own: ∀k∈l,(0≤k.Owner∧k.Owner≤1000)∧(k.Owner=0→k.Waits=[])
 nos: ∀x∈AT l,1≤x∧x≤1000
 nodup:(AT l).Nodup
 ends: ∀x∈AT l,(BD l x).isSome=true
theorem Gy(l:List Lock):LocksOk l↔l.length≤5∧(∀k∈l,(0≤k.Owner∧k.Owner≤1000)∧(k.Owner=0→k.Waits=[]))∧(∀x∈AT l,1≤x∧x≤1000)∧(AT l).Nodup∧ ∀x∈AT l,(BD l x).isSome=true:=
 ⟨fun h=>⟨h.1,h.2,h.3,h.4,h.5⟩,fun h=>⟨h.1,h.2.1,h.2.2.1,h.2.2.2.1,h.2.2.2.2⟩⟩
instance (l:List Lock):Decidable (LocksOk l):=decidable_of_iff _ (Gy l).symm
def A9(s:Share):Prop:=(1≤s.P∧s.P≤40)∧1≤s.Q∧s.Q≤s.P
instance (s:Share):Decidable (A9 s):=by unfold A9;infer_instance
def Ci(n:Int):Prop:= -4≤n∧n≤4
instance (n:Int):Decidable (Ci n):=by unfold Ci;infer_instance
structure DueOk(t:Task):Prop where
 cls:t.Class=1
 share:(1≤t.P∧t.P≤40)∧1≤t.Q∧t.Q≤t.P
 left:0≤t.Left∧t.Left≤t.Q
 due:0≤t.Due∧t.Due≤100040
 z:t.Prio=0∧t.Round=0∧t.Seq=0∧t.Nice=0∧t.V=0
structure FixedOk(t:Task):Prop where
 cls:t.Class=2
 prio:1≤t.Prio∧t.Prio≤20
 round:0≤t.Round∧t.Round≤10
 left:(1≤t.Left∨t.Left=0∧t.Round=0)∧t.Left≤t.Round
 seq:0≤t.Seq∧t.Seq≤1000000
 z:t.Q=0∧t.P=0∧t.Due=0∧t.Nice=0∧t.V=0
structure FairOk(t:Task):Prop where
 cls:t.Class=3
 nice: -4≤t.Nice∧t.Nice≤4
 v:0≤t.V∧t.V≤100000000
 z:t.Q=0∧t.P=0∧t.Due=0∧t.Prio=0∧t.Round=0∧t.Seq=0∧t.Left=0
structure TaskOk(t:Task):Prop where
 no:1≤t.No∧t.No≤1000
 cpu:0≤t.Cpu∧t.Cpu≤3
 state:t.State=1∨t.State=2
 cls:DueOk t∨FixedOk t∨FairOk t
theorem P9(t:Task):DueOk t↔t.Class=1∧((1≤t.P∧t.P≤40)∧1≤t.Q∧t.Q≤t.P)∧(0≤t.Left∧t.Left≤t.Q)∧(0≤t.Due∧t.Due≤100040)∧(t.Prio=0∧t.Round=0∧t.Seq=0∧t.Nice=0∧t.V=0):=
 ⟨fun h=>⟨h.1,h.2,h.3,h.4,h.5⟩,fun h=>⟨h.1,h.2.1,h.2.2.1,h.2.2.2.1,h.2.2.2.2⟩⟩
theorem Qt(t:Task):FixedOk t↔t.Class=2∧(1≤t.Prio∧t.Prio≤20)∧(0≤t.Round∧t.Round≤10)∧((1≤t.Left∨t.Left=0∧t.Round=0)∧t.Left≤t.Round)∧(0≤t.Seq∧t.Seq≤1000000)∧(t.Q=0∧t.P=0∧t.Due=0∧t.Nice=0∧t.V=0):=
 ⟨fun h=>⟨h.1,h.2,h.3,h.4,h.5,h.6⟩,fun h=>⟨h.1,h.2.1,h.2.2.1,h.2.2.2.1,h.2.2.2.2.1,h.2.2.2.2.2⟩⟩
theorem Qn(t:Task):FairOk t↔t.Class=3∧(-4≤t.Nice∧t.Nice≤4)∧(0≤t.V∧t.V≤100000000)∧(t.Q=0∧t.P=0∧t.Due=0∧t.Prio=0∧t.Round=0∧t.Seq=0∧t.Left=0):=
 ⟨fun h=>⟨h.1,h.2,h.3,h.4⟩,fun h=>⟨h.1,h.2.1,h.2.2.1,h.2.2.2⟩⟩
instance (t:Task):Decidable (DueOk t):=decidable_of_iff _ (P9 t).symm
instance (t:Task):Decidable (FixedOk t):=decidable_of_iff _ (Qt t).symm
instance (t:Task):Decidable (FairOk t):=decidable_of_iff _ (Qn t).symm
theorem Sp(t:Task):TaskOk t↔(1≤t.No∧t.No≤1000)∧(0≤t.Cpu∧t.Cpu≤3)∧(t.State=1∨t.State=2)∧(DueOk t∨FixedOk t∨FairOk t):=
 ⟨fun h=>⟨h.1,h.2,h.3,h.4⟩,fun h=>⟨h.1,h.2.1,h.2.2.1,h.2.2.2⟩⟩
instance (t:Task):Decidable (TaskOk t):=decidable_of_iff _ (Sp t).symm
structure Before(a b:Task):Prop where
 l:TaskOk a
 r:TaskOk b
 lt:a.Class<b.Class∨a.Class=b.Class∧((a.Class=1∧(a.Due<b.Due∨a.Due=b.Due∧a.No<b.No))∨
  (a.Class=2∧(b.Prio<a.Prio∨a.Prio=b.Prio∧(a.Seq<b.Seq∨a.Seq=b.Seq∧a.No<b.No)))∨(a.Class=3∧(a.V<b.V∨a.V=b.V∧a.No<b.No)))
theorem F8(a b:Task):Before a b↔TaskOk a∧TaskOk b∧(a.Class<b.Class∨a.Class=b.Class∧((a.Class=1∧(a.Due<b.Due∨a.Due=b.Due∧a.No<b.No))∨
 (a.Class=2∧(b.Prio<a.Prio∨a.Prio=b.Prio∧(a.Seq<b.Seq∨a.Seq=b.Seq∧a.No<b.No)))∨(a.Class=3∧(a.V<b.V∨a.V=b.V∧a.No<b.No)))):=
 ⟨fun h=>⟨h.1,h.2,h.3⟩,fun h=>⟨h.1,h.2.1,h.2.2⟩⟩
instance (a b:Task):Decidable (Before a b):=decidable_of_iff _ (F8 a b).symm
theorem TaskOk.class{t:Task}(h:TaskOk t):t.Class=1∨t.Class=2∨t.Class=3:=by
 rcases h.cls with h|h|h
 ·exact .inl h.cls
 ·exact .inr (.inl h.cls)
 ·exact .inr (.inr h.cls)
def AR(ts:List Task)(no:Int):Option Nat:=ts.findIdx? fun t=>decide (t.No=no)
theorem Bj{ts:List Task}{no:Int}{i:Nat}(h:AR ts no=some i): ∃hi:i<ts.length,ts[i].No=no:=by
 unfold AR at h;rw[List.findIdx?_eq_some_iff_getElem]at h;obtain⟨hi,h1,_⟩:=h;exact⟨hi,by simpa using h1⟩
structure TasksOk(ts:List Task):Prop where
 each: ∀t∈ts,TaskOk t
 sorted:ts.Pairwise fun a b=>a.No<b.No
 len:ts.length≤12
theorem Sr(ts:List Task):TasksOk ts↔(∀t∈ts,TaskOk t)∧(ts.Pairwise fun a b=>a.No<b.No)∧ts.length≤12:=⟨fun h=>⟨h.1,h.2,h.3⟩,fun h=>⟨h.1,h.2.1,h.2.2⟩⟩
instance (ts:List Task):Decidable (TasksOk ts):=decidable_of_iff _ (Sr ts).symm
def DN(ts:List Task)(i:Nat):Prop:= ∃h:i<ts.length,TaskOk ts[i]∧(0<i→ ∃h':i-1<ts.length,ts[i-1].No<ts[i].No)
theorem YN: ∀(ts:List Task),(∀i (h:i+1<ts.length),ts[i].No<ts[i+1].No)→ts.Pairwise fun a b=>a.No<b.No
 | [],_=>List.Pairwise.nil
 | [a],_=>List.pairwise_singleton _ _
 |a::b::ts,h=>by
  have ih:=YN (b::ts) fun i hi=>h (i+1) (by simpa using hi)
  have hab:a.No<b.No:=h 0 (by simp)
  refine List.pairwise_cons.2 ⟨fun x hx=> ?_,ih⟩
  rcases List.mem_cons.1 hx with rfl|hx
  ·exact hab
  ·have:=(List.pairwise_cons.1 ih).1 x hx;omega
theorem J9{ts:List Task}:(∀i,i<ts.length→DN ts i)↔(∀t∈ts,TaskOk t)∧ts.Pairwise fun a b=>a.No<b.No:=by
 constructor
 · intro h
   refine⟨fun t ht=> ?_,YN ts fun i hi=> ?_⟩
   · obtain⟨i,hi,rfl⟩:=List.getElem_of_mem ht
     exact(h i hi).2.1
   · obtain⟨_,_,h2⟩:=h (i+1) hi
     obtain⟨_,h3⟩:=h2 (by omega)
     exact h3
 · rintro⟨h1,h2⟩ i hi
   refine⟨hi,h1 _ (List.getElem_mem hi),fun h0=>⟨by omega,?_⟩⟩
   exact List.pairwise_iff_getElem.1 h2 (i-1) i (by omega) hi (by omega)
instance (ts:List Task) (i:Nat):Decidable (DN ts i):=by unfold DN;infer_instance
theorem ZZ{i:Nat}(h:i<Ab)(h0:0<i):w64 ((i:Int)-1)=((i-1:Nat):Int):=by
 unfold Ab at h;rw[AV (by omega) (by omega)];omega
theorem X0{ts:List Task}:(some (decide ((ts.length:Int)≤12),()):Option (Bool×Unit))=some (decide (ts.length≤12),()):=by
 congr 2;exact decide_eq_decide.2 (by omega)
def Bw(s:Sys)(cpu:Int):Int:=if 0≤cpu∧cpu≤(s.Floors.length:Int)-1 then s.Floors.getD cpu.toNat 0 else 0
theorem UX{s:Sys}{cpu:Int}(hb:s.Floors.length≤lim):(cond (!(decide (0≤cpu∧cpu≤w64 ((s.Floors.length:Int)-1)))) (some (0,()))
 (cond ((decide (0≤cpu))&&(decide (cpu<(s.Floors.length:Int)))) (some ((List.getD s.Floors (Int.toNat cpu) (Kd.dflt .int)),())) none):Option (Int×Unit))=some (Bw s cpu,()):=by
 have:w64 ((s.Floors.length:Int)-1)=(s.Floors.length:Int)-1:=by unfold lim at hb;exact AV (by omega) (by omega)
 rw[this];unfold Bw
 by_cases h:0≤cpu∧cpu≤(s.Floors.length:Int)-1
 · have h1:cpu<(s.Floors.length:Int):=by omega
   simp only[h,decide_eq_true h,Bool.not_true,cond_false,decide_eq_true h.1,decide_eq_true h1,Bool.and_self,cond_true,if_true,and_self];rfl
 ·simp[h]
theorem AY{n:Nat}(h:n≤lim):n<Ab:=by unfold lim at h;unfold Ab;omega
def idx:Option Nat→Int
 |some i=>(i:Int)
 |none=> -1
theorem DU(o:Option Nat):decide (idx o<0)=o.isNone:=by
 cases o with
 |none=>rfl
 |some i=>exact decide_eq_false (by simp[idx])
theorem GY(o:Option Nat):decide (0≤idx o)=o.isSome:=by
 cases o with
 |none=>rfl
 |some i=>exact decide_eq_true (by simp[idx])
theorem EA(i:Nat):decide ((i:Int)<0)=false:=decide_eq_false (by omega)
structure LSmall(B:Nat)(l:List Lock):Prop where
 len:l.length≤B
 waits: ∀k∈l,k.Waits.length≤B
theorem G1(l:List Lock)(no:Int):(BS l no=none∧next l no=none)∨ ∃i,BS l no=some i∧ ∃h:i<l.length,next l no=some l[i].Owner:=by
 unfold next
 cases e:BS l no with
 |none=>exact .inl ⟨rfl,rfl⟩
 |some i=>
  have hi:=ZU e;refine .inr ⟨i,rfl,hi,?_⟩;simp[List.getD_eq_getElem?_getD,List.getElem?_eq_getElem hi]
theorem HG{l:List Lock}{i:Nat}(h:i<l.length):AT (l.take (i+1))=AT (l.take i)++l[i].Waits:=by
 unfold AT;rw[List.take_succ_eq_append_getElem h,List.flatMap_append];simp
structure LBound(B:Nat)(l:List Lock):Prop where
 len:l.length≤B
 all:(AT l).length≤B
theorem Dd{l:List Lock}{k:Lock}(h:k∈l):k.Waits.length≤(AT l).length:=by
 obtain⟨a,b,rfl⟩:=List.append_of_mem h;simp[AT];omega
theorem LBound.small{B:Nat}{l:List Lock}(h:LBound B l):LSmall B l:=⟨h.len,fun k hk=>Nat.le_trans (Dd hk) h.all⟩
theorem Y1{l:List Lock}(i:Nat):(AT (l.take i)).length≤(AT l).length:=by
 have:AT l=AT (l.take i)++AT (l.drop i):=by
  unfold AT;rw[←List.flatMap_append,List.take_append_drop]
 rw[this];simp
def FK(k:Lock):Prop:=(0≤k.Owner∧k.Owner≤1000)∧(k.Owner=0→k.Waits=[])
instance (k:Lock):Decidable (FK k):=by unfold FK;infer_instance
def F7(W ys:List Int):Prop:=(∀y∈ys,1≤y∧y≤1000)∧(W++ys).Nodup
instance (W ys:List Int):Decidable (F7 W ys):=by unfold F7;infer_instance
structure LPre(l:List Lock):Prop where
 own: ∀k∈l,FK k
 nos: ∀x∈AT l,1≤x∧x≤1000
 nodup:(AT l).Nodup
theorem dY(l:List Lock):LPre l↔(∀k∈l,FK k)∧(∀x∈AT l,1≤x∧x≤1000)∧(AT l).Nodup:=⟨fun h=>⟨h.1,h.2,h.3⟩,fun h=>⟨h.1,h.2.1,h.2.2⟩⟩
instance (l:List Lock):Decidable (LPre l):=decidable_of_iff _ (dY l).symm
theorem LPre.take{l:List Lock}(h:LPre l)(i:Nat):LPre (l.take i):=by
 have e:AT l=AT (l.take i)++AT (l.drop i):=by unfold AT;rw[←List.flatMap_append,List.take_append_drop]
 refine⟨fun k hk=>h.own k (List.mem_of_mem_take hk),fun x hx=>h.nos x (by rw[e];exact List.mem_append_left _ hx),?_⟩
 have:=h.nodup;rw[e,List.nodup_append]at this;exact this.1
theorem Jt{l:List Lock}{i:Nat}(h:i<l.length):LPre (l.take (i+1))↔LPre (l.take i)∧FK l[i]∧(∀y∈l[i].Waits,1≤y∧y≤1000)∧(AT (l.take i)++l[i].Waits).Nodup:=by
 constructor
 · intro hp
   refine⟨?_,hp.own _ ?_,fun y hy=>hp.nos y ?_,?_⟩
   · have:=hp.take i
     rwa[List.take_take,Nat.min_eq_left (by omega)]at this
   ·rw[List.take_succ_eq_append_getElem h];exact List.mem_append_right _ (List.mem_singleton.2 rfl)
   ·rw[HG h];exact List.mem_append_right _ hy
   ·rw[←HG h];exact hp.nodup
 · rintro⟨h1,h2,h3,h4⟩
   refine⟨fun k hk=> ?_,fun x hx=> ?_,by rw[HG h];exact h4⟩
   · rw[List.take_succ_eq_append_getElem h]at hk
     rcases List.mem_append.1 hk with hk|hk
     ·exact h1.own k hk
     ·simp at hk;subst hk;exact h2
   · rw[HG h]at hx
     rcases List.mem_append.1 hx with hx|hx
     ·exact h1.nos x hx
     ·exact h3 x hx
def CT(x:Int)(w:List Int):Nat:=w.countP fun y=>decide (y=x)
theorem Vs{w:List Int}:w.Nodup↔ ∀x∈w,CT x w=1:=by
 have e: ∀x,CT x w=w.count x:=fun x=>by
  unfold CT;rw[List.count_eq_countP];rfl
 rw[List.nodup_iff_count];constructor
 · intro h x hx
   rw[e];have:=h x;have:=List.one_le_count_iff.2 hx;omega
 · intro h a
   by_cases ha:a∈w
   ·rw[←e,h a ha];exact Nat.le_refl _
   ·rw[List.count_eq_zero_of_not_mem ha];omega
def FJ(l:List Lock)(x:Int):Prop:=(1≤x∧x≤1000)∧CT x (AT l)=1∧(BD l x).isSome=true
instance (l:List Lock) (x:Int):Decidable (FJ l x):=by unfold FJ;infer_instance
structure TLB(B:Nat)(ts:List Task)(ls:List Lock):Prop where
 tasks:ts.length≤B
 locks:LBound B ls
theorem F9{l:List Lock}(h:LocksOk l)(no:Int): ∃c,BD l no=some c:=by
 rcases G1 l no with⟨e1,e2⟩|⟨i,e1,hi,e2⟩
 ·exact⟨[],MY e2⟩
 · unfold BS at e1
   rw[List.findIdx?_eq_some_iff_getElem]at e1;obtain⟨hi',h1,_⟩:=e1;have:=h.ends no (List.mem_flatMap.2 ⟨l[i],List.getElem_mem hi,by simpa using h1⟩)
   exact Option.isSome_iff_exists.1 this
def DY:Int→List Int→Int
 |x,[]=>x
 |_,y::c=>DY y c
theorem VO: ∀(x:Int) (c:List Int),List.getD (x::c) c.length 0=DY x c
 |x,[]=>rfl
 |x,y::c=>by
  have:=VO y c;simp only[List.length_cons,DY];rw[←this];rfl
theorem On: ∀(x:Int) (c:List Int),DY x c∈x::c
 |x,[]=>List.mem_cons_self ..
 |x,y::c=>List.mem_cons_of_mem _ (On y c)
def BH(ts:List Task)(ls:List Lock)(no:Int):Int:=match BD ls no with
 |some c=>if(no::c).all (fun x=>(AR ts x).isSome)then DY no c else 0
 |none=>0
theorem VP(no:Int)(c:List Int)(hc:c.length+1≤lim):(cond ((decide (0≤(w64 (((no::c).length:Int)-1))))&&(decide ((w64 (((no::c).length:Int)-1))<((no::c).length:Int))))
 (some ((List.getD (no::c) (Int.toNat (w64 (((no::c).length:Int)-1))) (Kd.dflt .int)),())) none:Option (Int×Unit))=some (DY no c,()):=by
 have e:w64 (((no::c).length:Int)-1)=(c.length:Int):=by
  unfold lim at hc;rw[List.length_cons,AV (by omega) (by omega)];omega
 have h2:decide ((c.length:Int)<((no::c).length:Int))=true:=decide_eq_true (by simp;omega)
 rw[e,AI,h2,Bool.and_self,cond_true,Int.toNat_natCast];exact congrArg (fun x=>some (x,())) (VO no c)
theorem Ml{ts:List Task}{ls:List Lock}{no:Int}(h:BH ts ls no≠0):(∃i,AR ts no=some i)∧ ∃j,AR ts (BH ts ls no)=some j:=by
 unfold BH at h⊢;cases e:BD ls no with
 |none=>rw[e]at h;exact absurd rfl h
 |some c=>
  rw[e]at h;simp only at h⊢;split at h
  · rename_i ha
    rw[if_pos ha];rw[List.all_eq_true]at ha;exact⟨Option.isSome_iff_exists.1 (ha no (List.mem_cons_self ..)),Option.isSome_iff_exists.1 (ha _ (On no c))⟩
  ·exact absurd rfl h
def Az(ts:List Task)(no:Int):Task:=match AR ts no with
 |some i=>ts.getD i (Kd.dflt .task)
 |none=>Kd.dflt .task
def BX(ts:List Task)(ls:List Lock)(no:Int):Bool:=decide (BH ts ls no≠0)&&decide ((Az ts no).State=1)&&decide ((Az ts (BH ts ls no)).State=1)
def Dh(ts:List Task)(ls:List Lock)(no:Int):Bool:=BX ts ls no&&(decide ((Az ts no).Class≠1)||decide (0<(Az ts no).Left))
theorem TL{ts:List Task}{e no:Int}{i j:Nat}(hi:AR ts no=some i)(hj:AR ts e=some j):((some (idx (AR ts no),()):Option (Int×Unit)).bind fun r2=>
 cond ((decide (0≤r2.1))&&(decide (r2.1<((ts).length:Int))))
  (cond (decide ((List.getD ts (Int.toNat r2.1) (Kd.dflt .task)).State=1))
    ((some (idx (AR ts e),()):Option (Int×Unit)).bind fun r4=>
     cond ((decide (0≤r4.1))&&(decide (r4.1<((ts).length:Int))))
      (some ((decide ((List.getD ts (Int.toNat r4.1) (Kd.dflt .task)).State=1)),()))
      (none))
    (some (false,())))
  (none):Option (Bool×Unit))=some (decide ((Az ts no).State=1)&&decide ((Az ts e).State=1),()):=by
 obtain⟨h1,_⟩:=Bj hi;obtain⟨h2,_⟩:=Bj hj;simp only[hi,hj,idx,Option.bind_some,AI,AG h1,AG h2,Bool.and_self,cond_true,Az,Int.toNat_natCast];cases decide ((List.getD ts i (Kd.dflt .task)).State=1)<;>rfl
def KN(ts:List Task)(ls:List Lock)(no:Int):Bool:=decide (TasksOk ts∧LocksOk ls)&&BX ts ls no
def BQ(ts:List Task)(ls:List Lock)(no:Int):Bool:=decide (TasksOk ts∧LocksOk ls)&&Dh ts ls no
theorem Tf{ts:List Task}{no:Int}{i:Nat}(hi:AR ts no=some i):((some (idx (AR ts no),()):Option (Int×Unit)).bind fun r2=>
 cond ((decide (0≤r2.1))&&(decide (r2.1<((ts).length:Int))))
  (cond (!(decide ((List.getD ts (Int.toNat r2.1) (Kd.dflt .task)).Class=1))) (some (true,())) (some ((decide (0<(List.getD ts (Int.toNat r2.1) (Kd.dflt .task)).Left)),())))
  (none):Option (Bool×Unit))=some (decide ((Az ts no).Class≠1)||decide (0<(Az ts no).Left),()):=by
 obtain⟨h1,_⟩:=Bj hi;simp only[hi,idx,Option.bind_some,AI,AG h1,Bool.and_self,cond_true,Az,Int.toNat_natCast]
 by_cases h2:(List.getD ts i (Kd.dflt .task)).Class=1
 ·simp only[h2,ne_eq,not_true_eq_false,decide_true,decide_false,Bool.not_true,cond_false,Bool.false_or]
 ·simp only[h2,ne_eq,not_false_eq_true,decide_true,decide_false,Bool.not_false,cond_true,Bool.true_or]
theorem TM{ts:List Task}{ls:List Lock}{no:Int}(h:BX ts ls no=true): ∃i,AR ts no=some i:=by
 unfold BX at h;simp only[Bool.and_eq_true,decide_eq_true_eq]at h;exact(Ml h.1.1).1
def B1(b:Option Task)(t:Task):Option Task:=match b with
 |none=>some t
 |some b=>if Before t b then some t else some b
def Ai(l:List Task):Option Task:=l.foldl B1 none
def FI(b:Option Task):Int:=match b with
 |none=>0
 |some t=>t.No
def Ag(ts:List Task)(ls:List Lock)(cpu:Int):List Task:=ts.filter fun t=>decide (t.Cpu=cpu)&&BQ ts ls t.No
def RL(b:Option Task):Task:=match b with
 |none=>⟨0,0,0,0,false,0,0,0,0,0,0,0,0,0⟩
 |some t=>t
def pick(ts:List Task)(ls:List Lock)(cpu:Int):Int×Int:=match Ai (Ag ts ls cpu)with
 |none=>(0,0)
 |some t=>(t.No,BH ts ls t.No)
theorem EN: ∀(l:List Task) (b:Option Task) (t:Task),l.foldl B1 b=some t→t∈l∨b=some t
 | [],b,t,h=>.inr h
 |x::l,b,t,h=>by
  rcases EN l (B1 b x) t h with h|h
  ·exact .inl (List.mem_cons_of_mem _ h)
  · unfold B1 at h
    split at h
    ·injection h with h;subst h;exact .inl (List.mem_cons_self ..)
    · split at h<;>injection h with h<;>subst h
      ·exact .inl (List.mem_cons_self ..)
      ·exact .inr rfl
theorem Sz{ts:List Task}{ls:List Lock}{cpu:Int}(h: ¬(TasksOk ts∧LocksOk ls)):Ag ts ls cpu=[]:=by
 unfold Ag BQ;simp[h]
def Bi(ts:List Task)(b:Option Task):Int:=match b with
 |none=> -1
 |some t=>idx (AR ts t.No)
theorem KF{ts:List Task}(h:TasksOk ts){i:Nat}(hi:i<ts.length):AR ts ts[i].No=some i:=by
 unfold AR;rw[List.findIdx?_eq_some_iff_getElem];refine⟨hi,by simp,fun j hj=> ?_⟩
 have:=List.pairwise_iff_getElem.1 h.sorted j i (by omega) hi hj
 simp;omega
theorem Cq{ts:List Task}(h:TasksOk ts){t:Task}(ht:t∈ts): ∃i,∃hi:i<ts.length,ts[i]=t∧AR ts t.No=some i:=by
 obtain⟨i,hi,rfl⟩:=List.getElem_of_mem ht;exact⟨i,hi,rfl,KF h hi⟩
theorem Uh(a b:Nat):Nat.gcd a b=Nat.gcd b (a % b):=by
 rw[Nat.gcd_comm a b,Nat.gcd_rec b a,Nat.gcd_comm]
theorem ZP(a b:Nat):Int.tmod (a:Int) (b:Int)=((a % b:Nat):Int):=rfl
theorem tZ(a b:Nat):Int.tdiv (a:Int) (b:Int)=((a/b:Nat):Int):=rfl
def DP(p:Nat×Nat)(s:Share):Nat×Nat:=((p.1*s.P.toNat+s.Q.toNat*p.2)/Nat.gcd (p.1*s.P.toNat+s.Q.toNat*p.2) (p.2*s.P.toNat),(p.2*s.P.toNat)/Nat.gcd (p.1*s.P.toNat+s.Q.toNat*p.2) (p.2*s.P.toNat))
def A7(l:List Share):Nat×Nat:=l.foldl DP (0,1)
structure SumInv(i:Nat)(p:Nat×Nat):Prop where
 le:p.1≤i*p.2
 pos:0<p.2
 hi:p.2≤40^i
theorem SumInv.step{i:Nat}{p:Nat×Nat}{s:Share}(h:SumInv i p)(hs:A9 s):SumInv (i+1) (DP p s)∧p.1*s.P.toNat+s.Q.toNat*p.2≤(i+1)*(p.2*s.P.toNat)∧0<p.2*s.P.toNat∧p.2*s.P.toNat≤40^(i+1):=by
 obtain⟨⟨p1,p2⟩,q1,q2⟩:=hs;have hP:1≤s.P.toNat∧s.P.toNat≤40:=by omega
 have hQ:s.Q.toNat≤s.P.toNat:=by omega
 have hx:p.1*s.P.toNat+s.Q.toNat*p.2≤(i+1)*(p.2*s.P.toNat):=by
  have e1:p.1*s.P.toNat≤i*p.2*s.P.toNat:=Nat.mul_le_mul_right _ h.le;have e2:s.Q.toNat*p.2≤s.P.toNat*p.2:=Nat.mul_le_mul_right _ hQ;have e3:(i+1)*(p.2*s.P.toNat)=i*p.2*s.P.toNat+s.P.toNat*p.2:=by
   rw[Nat.succ_mul,Nat.mul_assoc,Nat.mul_comm s.P.toNat]
  omega
 have hy:0<p.2*s.P.toNat:=Nat.mul_pos h.pos hP.1;have hy2:p.2*s.P.toNat≤40^(i+1):=by
  rw[Nat.pow_succ];exact Nat.mul_le_mul h.hi hP.2
 have hg:=Nat.gcd_pos_of_pos_right (p.1*s.P.toNat+s.Q.toNat*p.2) hy;have hd:Nat.gcd (p.1*s.P.toNat+s.Q.toNat*p.2) (p.2*s.P.toNat)∣p.2*s.P.toNat:=Nat.gcd_dvd_right _ _;refine⟨⟨?_,?_,?_⟩,hx,hy,hy2⟩
 · simp only[DP]
   rw[←Nat.mul_div_assoc _ hd];exact Nat.div_le_div_right hx
 ·exact Nat.div_pos (Nat.le_of_dvd hy hd) hg
 ·exact Nat.le_trans (Nat.div_le_self _ _) hy2
theorem Yu{l:List Share}(h: ∀s∈l,A9 s):SumInv l.length (A7 l):=by
 have: ∀(l:List Share) (i:Nat) (p:Nat×Nat),(∀s∈l,A9 s)→SumInv i p→SumInv (i+l.length) (l.foldl DP p):=by
  intro l
  induction l with
  |nil=>intro i p _ h;exact h
  |cons s l ih=>
   intro i p hs h;have:=ih (i+1) (DP p s) (fun t ht=>hs t (List.mem_cons_of_mem _ ht)) (h.step (hs s (List.mem_cons_self ..))).1
   rw[List.length_cons,Nat.add_comm l.length,←Nat.add_assoc];exact this
 have h0:=this l 0 (0,1) h ⟨Nat.zero_le _,Nat.one_pos,Nat.le_refl _⟩;rw[Nat.zero_add]at h0;exact h0
theorem Yw{l:List Share}{i:Nat}(hi:i<l.length):A7 (l.take (i+1))=DP (A7 (l.take i)) l[i]:=by
 unfold A7;rw[List.take_succ_eq_append_getElem hi,List.foldl_append];rfl
def GN:Nat:=40^8
theorem Yx{i:Nat}{p:Nat×Nat}{s:Share}(h:SumInv i p)(hs:A9 s)(hi:i<7):
 w64 ((p.1:Int)*s.P)=((p.1*s.P.toNat:Nat):Int)∧w64 (s.Q*(p.2:Int))=((s.Q.toNat*p.2:Nat):Int)∧w64 ((p.2:Int)*s.P)=((p.2*s.P.toNat:Nat):Int)∧
 w64 (((p.1*s.P.toNat:Nat):Int)+((s.Q.toNat*p.2:Nat):Int))=((p.1*s.P.toNat+s.Q.toNat*p.2:Nat):Int)∧
 p.1*s.P.toNat+s.Q.toNat*p.2≤4000000000000000000∧p.2*s.P.toNat≤4000000000000000000∧p.2*s.P.toNat<GN∧
 0<Nat.gcd (p.1*s.P.toNat+s.Q.toNat*p.2) (p.2*s.P.toNat):=by
 obtain⟨_,h1,h2,h3⟩:=h.step hs;obtain⟨⟨p1,p2⟩,q1,q2⟩:=hs;have h4:40^(i+1)≤40^7:=Nat.pow_le_pow_right (by omega) (by omega)
 have h5:(40:Nat)^7=163840000000:=by decide
 have h7:(40:Nat)^8=6553600000000:=by decide
 have h6:(i+1)*(p.2*s.P.toNat)≤7*(p.2*s.P.toNat):=Nat.mul_le_mul_right _ (by omega)
 have eP:s.P=(s.P.toNat:Int):=by omega
 have eQ:s.Q=(s.Q.toNat:Int):=by omega
 have b1:p.1*s.P.toNat≤4000000000000000000:=by omega
 have b2:s.Q.toNat*p.2≤4000000000000000000:=by omega
 have b3:p.2*s.P.toNat≤4000000000000000000:=by omega
 have a1:(p.1:Int)*s.P=((p.1*s.P.toNat:Nat):Int):=by rw[Int.natCast_mul,←eP]
 have a2:s.Q*(p.2:Int)=((s.Q.toNat*p.2:Nat):Int):=by rw[Int.natCast_mul,←eQ]
 have a3:(p.2:Int)*s.P=((p.2*s.P.toNat:Nat):Int):=by rw[Int.natCast_mul,←eP]
 refine⟨?_,?_,?_,?_,by omega,b3,by unfold GN;omega,Nat.gcd_pos_of_pos_right _ h2⟩
 ·rw[a1];exact AV (by omega) (by omega)
 ·rw[a2];exact AV (by omega) (by omega)
 ·rw[a3];exact AV (by omega) (by omega)
 ·rw[←Int.natCast_add];exact AV (by omega) (by omega)
theorem Mf{x g:Nat}(hx:x≤4000000000000000000):w64 (Int.tdiv (x:Int) (g:Int))=((x/g:Nat):Int):=by
 rw[tZ];have:=Nat.div_le_self x g;generalize x/g=q at this;exact AV (by omega) (by omega)
def If(l:List Share):Prop:=l.length≤7∧ ∀s∈l,A9 s
instance (l:List Share):Decidable (If l):=by unfold If;infer_instance
def HC(l:List Share):Int×Int×Bool×Unit:=if If l then(((A7 l).1:Int),((A7 l).2:Int),true,())else(0,0,false,())
def Bg(l:List Share):Bool:=decide (If l)&&decide ((A7 l).1≤(A7 l).2)
theorem US(l:List Share):(cond (HC l).2.2.1 (some ((decide ((HC l).1≤(HC l).2.1)),())) (some (false,())):Option (Bool×Unit))=some (Bg l,()):=by
 unfold HC Bg
 by_cases h:If l
 · rw[if_pos h,decide_eq_true h,cond_true,Bool.true_and]
   exact DO (P:=(A7 l).1≤(A7 l).2) (by simp)
 ·rw[if_neg h,decide_eq_false h,cond_false,Bool.false_and]
def Ac(ts:List Task)(cpu:Int):List Share:=(ts.filter fun t=>decide (t.Cpu=cpu)&&decide (t.Class=1)).map fun t=>⟨t.Q,t.P⟩
def A3(gs:List Ghost)(cpu:Int):List Share:=(gs.filter fun g=>decide (g.Cpu=cpu)).map fun g=>g.S
def Aj(s:Sys)(cpu:Int):List Share:=Ac s.Tasks cpu++A3 s.Ghosts cpu
theorem PT{ts:List Task}{cpu:Int}{i:Nat}(hi:i<ts.length):Ac (ts.take (i+1)) cpu=Ac (ts.take i) cpu++cond (decide (ts[i].Cpu=cpu)&&decide (ts[i].Class=1)) [⟨ts[i].Q,ts[i].P⟩] []:=by
 unfold Ac;rw[Ev _ hi,List.map_append];cases decide (ts[i].Cpu=cpu)&&decide (ts[i].Class=1)<;>rfl
theorem Oa{gs:List Ghost}{cpu:Int}{i:Nat}(hi:i<gs.length):A3 (gs.take (i+1)) cpu=A3 (gs.take i) cpu++cond (decide (gs[i].Cpu=cpu)) [gs[i].S] []:=by
 unfold A3;rw[Ev _ hi,List.map_append];cases decide (gs[i].Cpu=cpu)<;>rfl
theorem F4(ts:List Task)(cpu:Int)(i:Nat):(Ac (ts.take i) cpu).length≤i:=by
 unfold Ac;rw[List.length_map];exact Nat.le_trans (List.length_filter_le _ _) (List.length_take_le _ _)
theorem Lf(gs:List Ghost)(cpu:Int)(i:Nat):(A3 (gs.take i) cpu).length≤i:=by
 unfold A3;rw[List.length_map];exact Nat.le_trans (List.length_filter_le _ _) (List.length_take_le _ _)
theorem G9(s:Sys)(cpu:Int):(Aj s cpu).length≤s.Tasks.length+s.Ghosts.length:=by
 have h1:=F4 s.Tasks cpu s.Tasks.length;have h2:=Lf s.Ghosts cpu s.Ghosts.length;rw[List.take_length]at h1 h2;unfold Aj;rw[List.length_append];omega
theorem CB{β:Type}{xs:List β}{x:β}{B:Nat}(h:xs.length<B)(hb:B≤lim):decide (xs.length+[x].length≤lim)=true:=decide_eq_true (by simp only[List.length_cons,List.length_nil];omega)
theorem Tu{β:Type}(xs:List β)(p:β→Bool):((some (idx (xs.findIdx? p),()):Option (Int×Unit)).bind fun r1=>some ((decide (0≤r1.1)),()))=some (xs.any p,()):=by
 rw[Option.bind_some,GY,List.findIdx?_isSome]
theorem UQ{β:Type}(xs:List β)(p:β→Bool):(match xs.findIdx? p with|some i=>some ((i:Int),())|none=>some (-1,()):Option (Int×Unit))=some (idx (xs.findIdx? p),()):=by
 cases xs.findIdx? p<;>rfl
theorem In{β:Type}(xs:List β)(p:β→Bool):((match xs.findIdx? p with|some i=>some ((i:Int),())|none=>some (-1,()):Option (Int×Unit)).bind fun r1=>some ((decide (0≤r1.1)),()))=some (xs.any p,()):=by
 rw[UQ,Tu]
theorem CO{P Q:Prop}[Decidable P][Decidable Q]{X:Option (Bool×Unit)}(hn:Q→P)(h:P→X=some (decide Q,())):cond (!decide P) (some (false,())) X=some (decide Q,()):=by
 by_cases hp:P
 ·rw[decide_eq_true hp];exact h hp
 ·rw[decide_eq_false hp,decide_eq_false (fun q=>hp (hn q))];rfl
theorem Uf{P Q:Prop}[Decidable P][Decidable Q]{X:Option (Bool×Unit)}(hn:Q→ ¬P)(h: ¬P→X=some (decide Q,())):cond (decide P) (some (false,())) X=some (decide Q,()):=by
 by_cases hp:P
 ·rw[decide_eq_true hp,decide_eq_false (fun q=>hn q hp)];rfl
 ·rw[decide_eq_false hp];exact h hp
theorem Q0{b:Bool}{Q:Prop}[Decidable Q]{X:Option (Bool×Unit)}(hn:Q→b=false)(h:b=false→X=some (decide Q,())):cond b (some (false,())) X=some (decide Q,()):=by
 cases hb:b with
 |false=>exact h hb
 |true=>rw[decide_eq_false (fun q=>by rw[hn q]at hb;cases hb)];rfl
theorem Ug{P Q:Prop}[Decidable P][Decidable Q]{X:Option (Bool×Unit)}(hn:Q→P)(h:P→X=some (decide Q,())):cond (decide P) X (some (false,()))=some (decide Q,()):=by
 by_cases hp:P
 ·rw[decide_eq_true hp];exact h hp
 ·rw[decide_eq_false hp,decide_eq_false (fun q=>hp (hn q))];rfl
theorem bv{b:Bool}{Q:Prop}[Decidable Q]{X:Option (Bool×Unit)}(hn:Q→b=false)(h:b=false→X=some (decide Q,())):cond (!b) X (some (false,()))=some (decide Q,()):=by
 cases hb:b with
 |false=>exact h hb
 |true=>rw[decide_eq_false (fun q=>by rw[hn q]at hb;cases hb)];rfl
def B8(ts:List Task)(k:Lock):Bool:=decide (k.Owner=0)||((AR ts k.Owner).isSome&&k.Waits.all fun y=>(AR ts y).isSome&&decide ((Az ts y).Cpu=(Az ts k.Owner).Cpu))
theorem KG{ts:List Task}{no:Int}{i:Nat}(h:AR ts no=some i):Az ts no=ts.getD i (Kd.dflt .task):=by unfold Az;rw[h]
theorem tT{ts:List Task}{no:Int}{i:Nat}(h:AR ts no=some i):Az ts no∈ts:=by
 rw[KG h,Af (Bj h).1];exact List.getElem_mem _
def FT(s:Sys):Prop:=s.Locks.length=5∧LocksOk s.Locks∧ ∀k∈s.Locks,B8 s.Tasks k=true
instance (s:Sys):Decidable (FT s):=by unfold FT;infer_instance
def DG(cpus:Int)(g:Ghost):Prop:=(0≤g.Cpu∧g.Cpu≤cpus-1)∧A9 g.S∧0≤g.Until∧g.Until≤100040
instance (c:Int) (g:Ghost):Decidable (DG c g):=by unfold DG;infer_instance
def F6(s:Sys):Prop:=s.Ghosts.length≤12∧ ∀g∈s.Ghosts,DG s.Cpus g
instance (s:Sys):Decidable (F6 s):=by unfold F6;infer_instance
structure SysOk(s:Sys):Prop where
 now:0≤s.Now∧s.Now≤100000
 cpus:1≤s.Cpus∧s.Cpus≤4
 tasks:TasksOk s.Tasks
 tcpu: ∀t∈s.Tasks,t.Cpu<s.Cpus
 locks:FT s
 ghosts:F6 s
 fits: ∀c,c<s.Cpus.toNat→Bg (Aj s (c:Int))=true
 flen:(s.Floors.length:Int)=s.Cpus
 floors: ∀f∈s.Floors,0≤f∧f≤100000000
 seq:0≤s.Seq∧s.Seq≤1000000
 missed:0≤s.Missed∧s.Missed≤100000
 trace:s.Trace.length≤400
theorem tR(s:Sys):SysOk s↔(0≤s.Now∧s.Now≤100000)∧(1≤s.Cpus∧s.Cpus≤4)∧TasksOk s.Tasks∧(∀t∈s.Tasks,t.Cpu<s.Cpus)∧FT s∧F6 s∧(∀c,c<s.Cpus.toNat→Bg (Aj s (c:Int))=true)∧((s.Floors.length:Int)=s.Cpus)∧
 (∀f∈s.Floors,0≤f∧f≤100000000)∧(0≤s.Seq∧s.Seq≤1000000)∧(0≤s.Missed∧s.Missed≤100000)∧s.Trace.length≤400:=
 ⟨fun h=>⟨h.1,h.2,h.3,h.4,h.5,h.6,h.7,h.8,h.9,h.10,h.11,h.12⟩,fun⟨a,b,c,d,e,f,g,h,i,j,k,l⟩=>⟨a,b,c,d,e,f,g,h,i,j,k,l⟩⟩
instance (s:Sys):Decidable (SysOk s):=decidable_of_iff _ (tR s).symm
def SN(n:Nat):Prop:=GN+big+big+3<n
theorem IA{R:Type}{l:Nat→Nat→R}{len:Nat}{P:Nat→Prop}[DecidablePred P]{k0 k1:R}(hend: ∀m,l (m+1) len=k1)(hstep: ∀m i,i<len→l (m+1) i=if P i then l m (i+1)else k0){m:Nat}(hm:len<m):
 l m 0=if(∀i,i<len→P i)then k1 else k0:=by
 by_cases h: ∀i,i<len→P i
 · rw[if_pos h]
   exact Ak (l:=l) (fun _=>True) trivial (fun m _=>hend m) (fun m i hi _=>.inl ⟨by rw[hstep m i hi,if_pos (h i hi)],trivial⟩) hm
 · rw[if_neg h]
   refine Ak (l:=l) (fun i=> ∀j,j<i→P j) (fun j hj=>absurd hj (Nat.not_lt_zero j)) (fun m hI=>absurd hI h) (fun m i hi hI=> ?_) hm
   rw[hstep m i hi]
   by_cases hr:P i
   · rw[if_pos hr]
     exact .inl ⟨rfl,fun j hj=>by
      by_cases e:j=i
      ·subst e;exact hr
      ·exact hI j (by omega)⟩
   ·rw[if_neg hr];exact .inr rfl
structure SysWf(s:Sys):Prop where
 now:Cp s.Now
 cpus:Cp s.Cpus
 tasks:wfL .task s.Tasks
 locks:wfL .lock s.Locks
 ghosts:wfL .ghost s.Ghosts
 floors:wfL .int s.Floors
 seq:Cp s.Seq
 missed:Cp s.Missed
 trace:wfL .turn s.Trace
structure SysB(s:Sys):Prop where
 tl:TLB big s.Tasks s.Locks
 small:Small big s
theorem Dx:big≤lim:=by unfold big lim;omega
theorem EO:big+2≤lim:=by unfold big lim;omega
def Fz(s:Sys)(k no:Int):Bool:=match AR s.Tasks no with
 |none=>false
 |some i=>if 0≤k∧k≤(s.Locks.length:Int)-1 then
   (if(s.Locks.getD k.toNat (Kd.dflt .lock)).Owner=0 then true else match AR s.Tasks (s.Locks.getD k.toNat (Kd.dflt .lock)).Owner with
     |none=>false
     |some j=>decide ((s.Tasks.getD j (Kd.dflt .task)).Cpu=(s.Tasks.getD i (Kd.dflt .task)).Cpu))
  else false
def Fh(s:Sys):Bool:=decide (SysOk s)&&decide (s.Missed=0)
def FO(s:Sys)(no:Int):Int×Bool×Unit:=if SysOk s then
 (match AR s.Tasks no with
   |none=>(0,false,())
   |some i=>if(s.Tasks.getD i (Kd.dflt .task)).Class=1 then(w64 ((s.Tasks.getD i (Kd.dflt .task)).Left-w64 ((s.Tasks.getD i (Kd.dflt .task)).Due-s.Now)),true,())else(0,false,()))
 else(0,false,())
theorem SN.tasks{s:Sys}{n:Nat}(h:SysB s)(hn:SN n):s.Tasks.length<n∧s.Tasks.length≤lim:=by
 have:=h.small.tasks;have e1:big=1048576:=rfl;have e2:10000000≤lim:=by unfold lim;omega
 unfold SN at hn;omega
def LZ(s:Sys)(t:Task):Bool:= !decide (t.Class=3)||(t.Idle||decide (0≤t.V-s.Floors.getD t.Cpu.toNat 0∧t.V-s.Floors.getD t.Cpu.toNat 0≤48))
def Fi(s:Sys):Bool:=decide (SysOk s)&&s.Tasks.all (LZ s)
theorem SysOk.floor{s:Sys}(h:SysOk s){t:Task}(ht:t∈s.Tasks):0≤t.Cpu∧t.Cpu<(s.Floors.length:Int)∧0≤s.Floors.getD t.Cpu.toNat 0∧s.Floors.getD t.Cpu.toNat 0≤100000000:=by
 have h1:=(h.tasks.each t ht).cpu.1;have h2:=h.tcpu t ht;have h3:=h.flen;have h4:t.Cpu.toNat<s.Floors.length:=by omega
 rw[Af h4];exact⟨h1,by omega,h.floors _ (List.getElem_mem h4)⟩
theorem Sq{t:Task}(h:TaskOk t)(hc:t.Class=3):0≤t.V∧t.V≤100000000:=by
 rcases h.cls with h|h|h
 ·have:=h.cls;omega
 ·have:=h.cls;omega
 ·exact h.v
def IS(s:Sys)(i:Nat):Bool:=decide ((s.Trace.getD i (Kd.dflt .turn)).Cpu=Int.tmod (i:Int) s.Cpus)&&(decide ((s.Trace.getD i (Kd.dflt .turn)).Context=0)==decide ((s.Trace.getD i (Kd.dflt .turn)).Executor=0))
def Dt(s:Sys):Prop:=SysOk s∧Int.tmod (s.Trace.length:Int) s.Cpus=0∧ ∀i,i<s.Trace.length→IS s i=true
instance (s:Sys):Decidable (Dt s):=by unfold Dt;infer_instance
def G2(ob:Option Task)(t:Task):Bool:=match ob with
 |none=>false
 |some b=> !decide (Before t b)
def FU(s:Sys)(t:Task):Bool:= !BQ s.Tasks s.Locks t.No||G2 (Ai (Ag s.Tasks s.Locks t.Cpu)) t
def E0(s:Sys):Bool:=decide (SysOk s)&&s.Tasks.all (FU s)
theorem KS{l:List Task}(h:Ai l=none):l=[]:=by
 have: ∀(l:List Task) (b:Task),∃c,l.foldl B1 (some b)=some c:=by
  intro l
  induction l with
  |nil=>exact fun b=>⟨b,rfl⟩
  |cons x l ih=>
   intro b;rw[List.foldl_cons];unfold B1;simp only;split
   ·exact ih x
   ·exact ih b
 cases l with
 |nil=>rfl
 |cons x l=>
  obtain⟨c,hc⟩:=this l x;unfold Ai at h;rw[List.foldl_cons]at h
  change l.foldl B1 (some x)=none at h
  rw[hc]at h;cases h
theorem SN.tl{s:Sys}{n:Nat}(hn:SN n):big+2<n∧big+2≤lim:=by
 have e1:big=1048576:=rfl;have e2:10000000≤lim:=by unfold lim;omega
 unfold SN at hn;omega
def Cc(s:Sys)(i:Nat):List Int:=(List.range i).map fun(c:Nat)=>(pick s.Tasks s.Locks (c:Int)).2
theorem UF(s:Sys)(i:Nat):Cc s (i+1)=Cc s i++[(pick s.Tasks s.Locks (i:Int)).2]:=by
 unfold Cc;rw[List.range_succ,List.map_append];rfl
def DQ(s:Sys)(i:Nat):Prop:=(pick s.Tasks s.Locks (i:Int)).2=0∨(pick s.Tasks s.Locks (i:Int)).2∉Cc s i
instance (s:Sys) (i:Nat):Decidable (DQ s i):=by unfold DQ;infer_instance
def EK(s:Sys):Prop:=SysOk s∧ ∀i,i<s.Cpus.toNat→DQ s i
instance (s:Sys):Decidable (EK s):=by unfold EK;infer_instance
theorem fN{s:Sys}(hs:SysOk s)(cpu:Int):0≤(pick s.Tasks s.Locks cpu).2:=by
 unfold pick;cases e:Ai (Ag s.Tasks s.Locks cpu)with
 |none=>exact Int.le_refl _
 |some t=>
  by_cases h0:BH s.Tasks s.Locks t.No=0
  ·simp only[h0];exact Int.le_refl _
  · obtain⟨_,j,hj⟩:=Ml h0
    obtain⟨hj1,hj2⟩:=Bj hj;have:=(hs.tasks.each _ (List.getElem_mem hj1)).no;simp only;omega
def RK(s:Sys):Bool:=decide (Dt s)&&(Fh s&&(Fi s&&(E0 s&&decide (EK s))))
theorem rx{β:Type}{v:List β}{i:Nat}(h:i<v.length)(x d:β):List.getD (List.set v i x) i d=x:=by
 rw[Af (by rw[List.length_set];exact h),List.getElem_set_self]
structure Marked(s:Sys)where
 t:Int
 l:Int
 g:Int
 f:Int
 r:Int
structure SysC(B:Nat)(s:Sys):Prop where
 small:Small B s
 lb:LBound B s.Locks
theorem SysB.c{s:Sys}(h:SysB s):SysC big s:=⟨h.small,h.tl.locks⟩
end Go.Proofs.YthoholbeacojfaaGreat.VR
end
section
set_option linter.unusedVariables false
set_option linter.unusedSimpArgs false
namespace Go.Proofs.YthoholbeacojfaaGreat.VR
open Go
def DD:Nat:=5342931457063200
theorem TB(p:Nat)(h1:1≤p)(h2:p≤40):DD/p*p=DD:=by
 have: ∀q:Fin 41,q.1=0∨DD/q.1*q.1=DD:=by decide
 rcases this ⟨p,by omega⟩with h|h
 ·simp at h;omega
 ·exact h
def uN(s:Share):Nat:=s.Q.toNat*(DD/s.P.toNat)
def Bt:List Share→Nat
 | []=>0
 |s::l=>uN s+Bt l
theorem S3: ∀a b:List Share,Bt (a++b)=Bt a+Bt b
 | [],b=>by simp[Bt]
 |x::a,b=>by simp[Bt,S3 a b,Nat.add_assoc]
theorem uY{a b:List Share}(h:a.Sublist b):Bt a≤Bt b:=by
 induction h with
 |slnil=>exact Nat.le_refl _
 |cons x _ ih=>simp only[Bt];omega
 |cons_cons x _ ih=>simp only[Bt];omega
theorem uX{a b:List Share}(h:a.Perm b):Bt a=Bt b:=by
 induction h with
 |nil=>rfl
 |cons x _ ih=>simp only[Bt,ih]
 |swap x y l=>simp only[Bt];omega
 |trans _ _ ih1 ih2=>exact ih1.trans ih2
theorem Zi{D q P n d U:Nat}(hP:1≤P)(hd:D/P*P=D)(h1:n*D=U*d)(h2:0<d):
 (n*P+q*d)/Nat.gcd (n*P+q*d) (d*P)*D=(U+q*(D/P))*(d*P/Nat.gcd (n*P+q*d) (d*P))∧0<d*P/Nat.gcd (n*P+q*d) (d*P):=by
 have hden:0<d*P:=Nat.mul_pos h2 hP;have key:(n*P+q*d)*D=(U+q*(D/P))*(d*P):=by
  have e1:n*P*D=U*(d*P):=by rw[Nat.mul_right_comm,h1,Nat.mul_assoc]
  have e2:q*d*D=q*(D/P)*(d*P):=by
   conv=>lhs;rw[←hd]
   generalize D/P=z;simp only[Nat.mul_assoc,Nat.mul_left_comm,Nat.mul_comm]
  rw[Nat.add_mul,e1,e2,Nat.add_mul]
 generalize n*P+q*d=num at*;generalize d*P=den at*;generalize U+q*(D/P)=W at*;have hg:0<Nat.gcd num den:=Nat.gcd_pos_of_pos_right _ hden;have e1:=Nat.div_mul_cancel (Nat.gcd_dvd_left num den);have e2:=Nat.div_mul_cancel (Nat.gcd_dvd_right num den);generalize Nat.gcd num den=g at*;refine⟨?_,?_⟩
 · apply Nat.eq_of_mul_eq_mul_right hg
   rw[Nat.mul_right_comm,e1,key,Nat.mul_assoc,e2]
 · rcases Nat.eq_zero_or_pos (den/g)with h|h
   ·rw[h]at e2;omega
   ·exact h
theorem Zj{p:Nat×Nat}{s:Share}{U:Nat}(hs:A9 s)(h1:p.1*DD=U*p.2)(h2:0<p.2):(DP p s).1*DD=(U+uN s)*(DP p s).2∧0<(DP p s).2:=by
 obtain⟨⟨a1,a2⟩,a3,a4⟩:=hs;have hP:1≤s.P.toNat∧s.P.toNat≤40:=by omega
 have hd:=TB s.P.toNat hP.1 hP.2;unfold DP uN;exact Zi hP.1 hd h1 h2
theorem br(l:List Share): ∀(p:Nat×Nat) (U:Nat),(∀s∈l,A9 s)→p.1*DD=U*p.2→0<p.2→(l.foldl DP p).1*DD=(U+Bt l)*(l.foldl DP p).2∧0<(l.foldl DP p).2:=by
 induction l with
 |nil=>intro p U _ h1 h2;simp only[List.foldl_nil,Bt,Nat.add_zero];exact⟨h1,h2⟩
 |cons s l ih=>
  intro p U hs h1 h2;obtain⟨h3,h4⟩:=Zj (hs s (List.mem_cons_self ..)) h1 h2;have:=ih (DP p s) (U+uN s) (fun x hx=>hs x (List.mem_cons_of_mem _ hx)) h3 h4
  simp only[List.foldl_cons,Bt];rw[Nat.add_assoc]at this;exact this
theorem Yv{l:List Share}(h: ∀s∈l,A9 s):(A7 l).1≤(A7 l).2↔Bt l≤DD:=by
 obtain⟨h1,h2⟩:=br l (0,1) 0 h (by rw[Nat.zero_mul,Nat.zero_mul]) Nat.one_pos
 rw[Nat.zero_add]at h1
 change (A7 l).1*DD=Bt l*(A7 l).2 at h1
 change 0<(A7 l).2 at h2
 have hD:0<DD:=by decide
 generalize DD=D at*;constructor
 · intro h3
   have:Bt l*(A7 l).2≤D*(A7 l).2:=by rw[←h1,Nat.mul_comm];exact Nat.mul_le_mul_left _ h3
   exact Nat.le_of_mul_le_mul_right this h2
 · intro h3
   have:(A7 l).1*D≤(A7 l).2*D:=by rw[h1,Nat.mul_comm (A7 l).2];exact Nat.mul_le_mul_right _ h3
   exact Nat.le_of_mul_le_mul_right this hD
theorem Qr(l:List Share):Bg l=true↔If l∧Bt l≤DD:=by
 unfold Bg;rw[Bool.and_eq_true,decide_eq_true_eq,decide_eq_true_eq];exact⟨fun⟨a,b⟩=>⟨a,(Yv a.2).1 b⟩,fun⟨a,b⟩=>⟨a,(Yv a.2).2 b⟩⟩
theorem UR{a b:List Share}(h:a.Sublist b)(hb:Bg b=true):Bg a=true:=by
 rw[Qr]at hb⊢;exact⟨⟨Nat.le_trans h.length_le hb.1.1,fun s hs=>hb.1.2 s (h.subset hs)⟩,Nat.le_trans (uY h) hb.2⟩
theorem Qs{a b:List Share}(h:a.Perm b):Bg a=Bg b:=by
 have key: ∀{a b:List Share},a.Perm b→Bg a=true→Bg b=true:=fun h ha=>by
  rw[Qr]at ha⊢;exact⟨⟨by rw[←h.length_eq];exact ha.1.1,fun s hs=>ha.1.2 s (h.mem_iff.2 hs)⟩,by rw[←uX h];exact ha.2⟩
 exact Bool.eq_iff_iff.2 ⟨key h,key h.symm⟩
def CD(t:Task)(now:Int):Task:=if(TaskOk t∧t.Class=1)∧0≤now∧now≤100000 then(if t.Due≤now∨(t.Due-now)*t.Q<t.Left*t.P then{t with Left:=t.Q,Due:=now+t.P}else t)else t
def FW(t:Task)(now:Int):Task:=if(TaskOk t∧t.Class=1)∧(0≤now∧now≤100000)∧t.Due≤now then{t with Left:=t.Q,Due:=t.Due+t.P}else t
def BZ(t:Task):Task:=if(TaskOk t∧t.Class=1)∧0<t.Left then{t with Left:=t.Left-1}else t
def Ba(t:Task)(seq:Int):Task×Bool:=
 if(TaskOk t∧t.Class=2)∧t.Round≠0 then(if 1<t.Left then({t with Left:=t.Left-1},false)else if 0≤seq∧seq≤1000000 then({t with Left:=t.Round,Seq:=seq},true)else(t,false))else(t,false)
def Cw(t:Task)(v:Int):Task:=if 0≤v∧v≤100000000 then{t with V:=v}else t
def EG(n:Int):Int:=if n= -4 then 2 else if n= -3 then 3 else if n= -2 then 4 else if n= -1 then 6 else if n=0 then 8 else if n=1 then 12 else if n=2 then 16 else if n=3 then 24 else if n=4 then 48 else 0
def BR(t:Task):Bool:=decide (TaskOk t∧t.Class=3)
def CM(t:Task):Task:=if BR t then Cw t (t.V+EG t.Nice)else t
def CF(t:Task)(floor:Int):Task:=if BR t then Cw t (max t.V floor)else t
def Ck(o:Option (Int×Int))(t:Task):Option (Int×Int):=if BR t then(match o with|none=>some (t.V,t.V)|some (a,b)=>some (min a t.V,max b t.V))else o
def Bm(l:List Task):Option (Int×Int):=l.foldl Ck none
def B6(l:List Task)(floor:Int):Int:=match Bm l with
 |none=>floor
 |some (a,_)=>max floor a
def Hl(l:List Task):Int:=match Bm l with
 |none=>0
 |some (a,b)=>b-a
def ET(t:Task)(cpu src to:Int):Task:=
 if BR t∧(0≤cpu∧cpu≤3)∧(0≤src∧src≤100000000)∧(0≤to∧to≤100000000)∧to+max 0 (t.V-src)≤100000000 then{t with Cpu:=cpu,V:=to+max 0 (t.V-src)}else t
def B9(now:Int)(t:Task):Task:=if t.Class=1∧t.Idle=false∧t.Due≤now then FW t now else t
def CQ(now:Int)(m:Int)(t:Task):Int:=if(t.Class=1∧t.Idle=false∧t.Due≤now)∧0<t.Left then min (m+1) 100000 else m
def B4(ts:List Task)(ls:List Lock)(floors:List Int)(now:Int)(t:Task):Task:=
 if BX ts ls t.No then(if t.Idle then CF (CD {t with Idle:=false} now) (floors.getD t.Cpu.toNat 0)else t)else{t with Idle:=true}
def BK(ts:List Task)(cpu:Int):List Task:=ts.filter fun t=>decide (t.Cpu=cpu)&& !t.Idle
def CN(ts:List Task)(fs:List Int):List Int:=(List.range fs.length).map fun(i:Nat)=>B6 (BK ts (i:Int)) (fs.getD i 0)
structure Turns where
 ts:List Task
 seq:Int
 tr:List Turn
def Bk(ls:List Lock)(x:Turns)(cpu:Int):Turns:=match Ai (Ag x.ts ls cpu)with
 |none=>⟨x.ts,x.seq,x.tr++[⟨cpu,0,0⟩]⟩
 |some t=>⟨x.ts.set ((AR x.ts t.No).getD 0) (CM (BZ (Ba t (x.seq+1)).1)),cond (Ba t (x.seq+1)).2 (x.seq+1) x.seq,x.tr++[⟨cpu,t.No,BH x.ts ls t.No⟩]⟩
def BG(ls:List Lock)(x:Turns)(k:Nat):Turns:=(List.range k).foldl (fun x (c:Nat)=>Bk ls x (c:Int)) x
def F3(s:Sys):List Task:=s.Tasks.map (B9 s.Now)
def AF(s:Sys):List Task:=(F3 s).map (B4 (F3 s) s.Locks s.Floors s.Now)
def CZ(s:Sys):Turns:=BG s.Locks ⟨AF s,s.Seq,s.Trace⟩ s.Cpus.toNat
def Av(s:Sys):Sys:=⟨s.Now+1,s.Cpus,(CZ s).ts,s.Locks,s.Ghosts.filter fun g=>decide (s.Now<g.Until),CN (AF s) s.Floors,(CZ s).seq,s.Tasks.foldl (CQ s.Now) s.Missed,(CZ s).tr⟩
def Aw(s:Sys):Prop:=s.Now≠100000∧s.Seq≤900000∧(s.Trace.length:Int)+s.Cpus≤400
instance (s:Sys):Decidable (Aw s):=by unfold Aw;infer_instance
def IX:Sys:=⟨0,0,[],[],[],[],0,0,[]⟩
def BM(s:Sys):Sys×Bool:=if SysOk s then(if Aw s then(Av s,true)else(s,false))else(IX,false)
def BC:Nat→Sys→Nat→Sys×Nat
 |0,s,k=>(s,k)
 |m+1,s,k=>if Aw s then BC m (Av s) (k+1)else(s,k)
end Go.Proofs.YthoholbeacojfaaGreat.VR
end
section
set_option linter.unusedVariables false
set_option linter.unusedSimpArgs false
namespace Go.Proofs.YthoholbeacojfaaGreat.VR
open Go
def insT(ts:List Task)(t:Task):List Task:=(ts.takeWhile fun x=>decide (x.No<t.No))++t::ts.dropWhile fun x=>decide (x.No<t.No)
def CG(t:Task):Task×Bool:=if TaskOk t then(t,true)else(Kd.dflt .task,false)
def EB(no cpu q p now:Int):Task×Bool:=if(0≤now∧now≤100000)∧A9 ⟨q,p⟩then CG ⟨no,1,cpu,1,false,q,p,q,now+p,0,0,0,0,0⟩else(Kd.dflt .task,false)
def EC(no cpu prio round seq:Int):Task×Bool:=CG ⟨no,2,cpu,1,false,0,0,round,0,prio,round,seq,0,0⟩
def Ea(no cpu nice v:Int):Task×Bool:=CG ⟨no,3,cpu,1,false,0,0,0,0,0,0,0,nice,v⟩
def Al(s:Sys)(c:Call):Task×Bool:=if c.Kind=1 then EB c.No c.Cpu c.A c.B s.Now else if c.Kind=2 then EC c.No c.Cpu c.A c.B (s.Seq+1)else Ea c.No c.Cpu c.A (Bw s c.Cpu)
def BP(s:Sys)(c:Call):Sys×Int:=
 if s.Cpus≤c.Cpu∨(Al s c).2=false then(s,1)
 else if(AR s.Tasks c.No).isSome then(s,3)
 else if¬TasksOk (insT s.Tasks (Al s c).1)then(s,4)
 else if c.Kind=1∧Bg (Aj s c.Cpu++[⟨c.A,c.B⟩])=false then(s,4)
 else if c.Kind=2 then(if 900000<s.Seq then(s,4)else({s with Tasks:=insT s.Tasks (Al s c).1,Seq:=s.Seq+1},0))
 else({s with Tasks:=insT s.Tasks (Al s c).1},0)
def C2(ls:List Lock)(no:Int):Bool:=decide (no≠0)&&ls.any fun k=>decide (k.Owner=no)
def waits(ls:List Lock)(no:Int):Bool:=(BS ls no).isSome
def Cl(s:Sys)(i:Nat)(t:Task):Sys×Int:=
 if C2 s.Locks t.No||waits s.Locks t.No then(s,5)
 else if t.Class=1∧s.Now<t.Due then(if 12≤s.Ghosts.length then(s,4)else({s with Tasks:=s.Tasks.eraseIdx i,Ghosts:=s.Ghosts++[⟨t.Cpu,⟨t.Q,t.P⟩,t.Due⟩]},0))
 else({s with Tasks:=s.Tasks.eraseIdx i},0)
def EL(ts:List Task)(l:List Int):Int:=if TasksOk ts then FI (Ai (ts.filter fun t=>decide (t.No∈l)))else 0
def DR(ls:List Lock)(i:Nat)(no:Int):List Lock×Bool:=
 if(ls.getD i (Kd.dflt .lock)).Owner=0 then(ls.set i ⟨no,(ls.getD i (Kd.dflt .lock)).Waits⟩,true)
 else if no∈(match BD ls (ls.getD i (Kd.dflt .lock)).Owner with|some c=>(ls.getD i (Kd.dflt .lock)).Owner::c|none=>[])then(ls,false)
 else(ls.set i ⟨(ls.getD i (Kd.dflt .lock)).Owner,(ls.getD i (Kd.dflt .lock)).Waits++[no]⟩,true)
def Ff(ls:List Lock)(i:Nat)(next:Int):List Lock:=ls.set i ⟨next,(ls.getD i (Kd.dflt .lock)).Waits.filter fun y=>decide (y≠next)⟩
def Ce(s:Sys)(c:Call)(t:Task):Sys×Int:=
 if¬(0≤c.A∧c.A≤4)then(s,2)
 else if t.State=2∨waits s.Locks t.No=true∨((s.Locks.getD c.A.toNat (Kd.dflt .lock)).Owner=t.No↔c.Kind=7)then(s,5)
 else if c.Kind=8 then({s with Locks:=Ff s.Locks c.A.toNat (EL s.Tasks (s.Locks.getD c.A.toNat (Kd.dflt .lock)).Waits)},0)
 else if Fz s c.A t.No=false then(s,5)
 else if(DR s.Locks c.A.toNat t.No).2=false then(s,6)
 else({s with Locks:=(DR s.Locks c.A.toNat t.No).1},0)
def Cz(s:Sys)(c:Call)(i:Nat)(t:Task):Sys×Int:=
 if t.Class≠3 then(s,5)
 else if c.Kind=9 then(if Ci c.A then({s with Tasks:=s.Tasks.set i {t with Nice:=c.A}},0)else(s,1))
 else if C2 s.Locks t.No||waits s.Locks t.No then(s,5)
 else if¬(0≤c.Cpu∧c.Cpu≤s.Cpus-1)then(s,1)
 else({s with Tasks:=s.Tasks.set i (ET t c.Cpu (Bw s t.Cpu) (Bw s c.Cpu))},0)
def Cu(s:Sys)(c:Call)(i:Nat)(t:Task):Sys×Int:=
 if c.Kind=4 then(if t.State=2∨waits s.Locks t.No=true then(s,5)else({s with Tasks:=s.Tasks.set i {t with State:=2}},0))
 else if c.Kind=5 then(if t.State≠2 then(s,5)else({s with Tasks:=s.Tasks.set i {t with State:=1}},0))
 else if c.Kind=6 then Cl s i t
 else if c.Kind=7∨c.Kind=8 then Ce s c t
 else Cz s c i t
def EH(s:Sys)(n:Int):Sys×Int:=if 1≤n∧n≤50 then(if(BC n.toNat s 0).2<n.toNat then(s,4)else((BC n.toNat s 0).1,0))else(s,1)
def Bb(s:Sys)(c:Call):Sys×Int:=
 if c.Kind=11 then EH s c.A
 else if 1≤c.Kind∧c.Kind≤3 then BP s c
 else match AR s.Tasks c.No with
  |none=>(s,2)
  |some i=>Cu s c i (s.Tasks.getD i (Kd.dflt .task))
def BY(c:Call):Bool:=
 if c.Kind=1∨c.Kind=2 then true
 else if c.Kind=3 then decide (c.B=0)
 else if c.Kind=4∨c.Kind=5∨c.Kind=6 then decide (c.Cpu=0∧c.A=0∧c.B=0)
 else if c.Kind=7∨c.Kind=8∨c.Kind=9 then decide (c.Cpu=0∧c.B=0)
 else if c.Kind=10 then decide (c.A=0∧c.B=0)
 else if c.Kind=11 then decide (c.No=0∧c.Cpu=0∧c.B=0)
 else false
def Ad(s:Sys)(c:Call):Sys×Int:=if SysOk s∧BY c=true then Bb s c else(IX,1)
end Go.Proofs.YthoholbeacojfaaGreat.VR
end
section
set_option linter.unusedVariables false
set_option linter.unusedSimpArgs false
namespace Go.Proofs.YthoholbeacojfaaGreat.VR
open Go
theorem TaskOk.due{t:Task}(h:TaskOk t)(hc:t.Class=1):DueOk t:=by
 rcases h.cls with h|h|h
 ·exact h
 ·have:=h.cls;omega
 ·have:=h.cls;omega
theorem TaskOk.fixed{t:Task}(h:TaskOk t)(hc:t.Class=2):FixedOk t:=by
 rcases h.cls with h|h|h
 ·have:=h.cls;omega
 ·exact h
 ·have:=h.cls;omega
theorem TaskOk.fair{t:Task}(h:TaskOk t)(hc:t.Class=3):FairOk t:=by
 rcases h.cls with h|h|h
 ·have:=h.cls;omega
 ·have:=h.cls;omega
 ·exact h
theorem C9(t:Task):BR t=true↔TaskOk t∧t.Class=3:=by unfold BR;simp
structure Keeps(t t':Task):Prop where
 no:t'.No=t.No
 cls:t'.Class=t.Class
 cpu:t'.Cpu=t.Cpu
 state:t'.State=t.State
 share:t'.Q=t.Q∧t'.P=t.P
 ok:TaskOk t→TaskOk t'
theorem Keeps.refl(t:Task):Keeps t t:=⟨rfl,rfl,rfl,rfl,⟨rfl,rfl⟩,id⟩
theorem Keeps.trans{a b c:Task}(h:Keeps a b)(h':Keeps b c):Keeps a c:=
 ⟨h'.no.trans h.no,h'.cls.trans h.cls,h'.cpu.trans h.cpu,h'.state.trans h.state,⟨h'.share.1.trans h.share.1,h'.share.2.trans h.share.2⟩,fun x=>h'.ok (h.ok x)⟩
theorem Ln(t:Task)(b:Bool):Keeps t {t with Idle:=b}:=
 ⟨rfl,rfl,rfl,rfl,⟨rfl,rfl⟩,fun h=>⟨h.no,h.cpu,h.state,by
  rcases h.cls with h|h|h
  ·exact .inl ⟨h.cls,h.share,h.left,h.due,h.z⟩
  ·exact .inr (.inl ⟨h.cls,h.prio,h.round,h.left,h.seq,h.z⟩)
  ·exact .inr (.inr ⟨h.cls,h.nice,h.v,h.z⟩)⟩⟩
theorem RM{t:Task}{l d:Int}(hc:t.Class=1)(hl:TaskOk t→0≤l∧l≤t.Q)(hd:TaskOk t→0≤d∧d≤100040):Keeps t {t with Left:=l,Due:=d}:=
 ⟨rfl,rfl,rfl,rfl,⟨rfl,rfl⟩,fun h=>⟨h.no,h.cpu,h.state,.inl ⟨hc,(h.due hc).share,hl h,hd h,(h.due hc).z⟩⟩⟩
theorem bF{t:Task}{now:Int}(h99:now<100000):Keeps t (FW t now):=by
 unfold FW;split
 · rename_i h
   have d:=h.1.1.due h.1.2;have h1:=d.share;have h2:=d.due;exact RM h.1.2 (fun _=>by omega) (fun _=>by omega)
 ·exact Keeps.refl t
theorem bI{t:Task}{now:Int}(h99:now<100000):Keeps t (CD t now):=by
 unfold CD;split
 · rename_i h
   split
   · have d:=h.1.1.due h.1.2
     have h1:=d.share;have h2:=d.due;exact RM h.1.2 (fun _=>by omega) (fun _=>by omega)
   ·exact Keeps.refl t
 ·exact Keeps.refl t
theorem T5(t:Task):Keeps t (BZ t):=by
 unfold BZ;split
 · rename_i h
   have d:=h.1.1.due h.1.2;have h1:=d.left;have h2:=d.due;exact RM (d:=t.Due) h.1.2 (fun _=>by omega) (fun _=>h2)
 ·exact Keeps.refl t
theorem UT(t:Task)(seq:Int):Keeps t (Ba t seq).1:=by
 unfold Ba;split
 · rename_i h
   have d:=h.1.1.fixed h.1.2;have h1:=d.left;have h2:=d.round;split
   ·exact⟨rfl,rfl,rfl,rfl,⟨rfl,rfl⟩,fun x=>⟨x.no,x.cpu,x.state,.inr (.inl ⟨d.cls,d.prio,d.round,⟨.inl (show 1≤t.Left-1 by omega),show t.Left-1≤t.Round by omega⟩,d.seq,d.z⟩)⟩⟩
   · split
     · rename_i hs
       exact⟨rfl,rfl,rfl,rfl,⟨rfl,rfl⟩,fun x=>⟨x.no,x.cpu,x.state,.inr (.inl ⟨d.cls,d.prio,d.round,⟨.inl (show 1≤t.Round by omega),Int.le_refl _⟩,hs,d.z⟩)⟩⟩
     ·exact Keeps.refl t
 ·exact Keeps.refl t
theorem ZW{t:Task}(v:Int)(hf:BR t=true):Keeps t (Cw t v):=by
 rw[C9]at hf;have d:=hf.1.fair hf.2;unfold Cw;split
 · rename_i h
   exact⟨rfl,rfl,rfl,rfl,⟨rfl,rfl⟩,fun x=>⟨x.no,x.cpu,x.state,.inr (.inr ⟨d.cls,d.nice,h,d.z⟩)⟩⟩
 ·exact Keeps.refl t
theorem UJ(t:Task):Keeps t (CM t):=by
 unfold CM;split
 ·rename_i h;exact ZW _ h
 ·exact Keeps.refl t
theorem bg(t:Task)(f:Int):Keeps t (CF t f):=by
 unfold CF;split
 ·rename_i h;exact ZW _ h
 ·exact Keeps.refl t
theorem G7{t:Task}{now:Int}(h:now<100000):Keeps t (B9 now t):=by
 unfold B9;split
 ·exact bF h
 ·exact Keeps.refl t
theorem uc{ts:List Task}{ls:List Lock}{fs:List Int}{now:Int}(h:now<100000)(t:Task):Keeps t (B4 ts ls fs now t):=by
 unfold B4;split
 · split
   ·exact((Ln t false).trans (bI h)).trans (bg _ _)
   ·exact Keeps.refl t
 ·exact Ln t true
theorem tG(t:Task)(seq:Int):Keeps t (CM (BZ (Ba t seq).1)):=((UT t seq).trans (T5 _)).trans (UJ _)
inductive KeepsL:List Task→List Task→Prop
 |nil:KeepsL [] []
 |cons {a b xs ys}:Keeps a b→KeepsL xs ys→KeepsL (a::xs) (b::ys)
theorem KeepsL.refl: ∀l:List Task,KeepsL l l
 | []=>.nil
 |t::l=>.cons (Keeps.refl t) (KeepsL.refl l)
theorem KeepsL.trans{a b c:List Task}(h:KeepsL a b):KeepsL b c→KeepsL a c:=by
 induction h generalizing c with
 |nil=>intro h;exact h
 |cons h1 _ ih=>
  intro h;cases h with
  |cons h2 h3=>exact .cons (h1.trans h2) (ih h3)
theorem KeepsL.map{g:Task→Task}: ∀(l:List Task),(∀t∈l,Keeps t (g t))→KeepsL l (l.map g)
 | [],_=>.nil
 |t::l,h=>.cons (h t (List.mem_cons_self ..)) (KeepsL.map l fun x hx=>h x (List.mem_cons_of_mem _ hx))
theorem KeepsL.set{t':Task}(l:List Task): ∀(i:Nat) (hi:i<l.length),Keeps l[i] t'→KeepsL l (l.set i t'):=by
 induction l with
 |nil=>intro i hi;simp at hi
 |cons t l ih=>
  intro i hi h;cases i with
  |zero=>rw[List.set_cons_zero];exact .cons h (KeepsL.refl l)
  |succ i=>rw[List.set_cons_succ];exact .cons (Keeps.refl t) (ih i (by simpa using hi) h)
theorem KeepsL.len{a b:List Task}(h:KeepsL a b):b.length=a.length:=by
 induction h with
 |nil=>rfl
 |cons _ _ ih=>simp[ih]
theorem KeepsL.at_{a b:List Task}(h:KeepsL a b): ∀(i:Nat) (hi:i<a.length),Keeps a[i] (b[i]'(by rw[h.len];exact hi)):=by
 induction h with
 |nil=>intro i hi;simp at hi
 |cons h1 _ ih=>
  intro i hi;cases i with
  |zero=>exact h1
  |succ i=>exact ih i (by simpa using hi)
theorem KeepsL.mem{a b:List Task}(h:KeepsL a b){t':Task}(ht:t'∈b): ∃t∈a,Keeps t t':=by
 obtain⟨i,hi,rfl⟩:=List.getElem_of_mem ht;rw[h.len]at hi;exact⟨a[i],List.getElem_mem hi,h.at_ i hi⟩
theorem KeepsL.nos{a b:List Task}(h:KeepsL a b):b.map (·.No)=a.map (·.No):=by
 induction h with
 |nil=>rfl
 |cons h1 _ ih=>simp[h1.no,ih]
theorem KeepsL.tasksOk{a b:List Task}(h:KeepsL a b)(ha:TasksOk a):TasksOk b:=by
 refine⟨fun t' ht=> ?_,?_,by rw[h.len];exact ha.len⟩
 · obtain⟨t,ht1,hk⟩:=h.mem ht
   exact hk.ok (ha.each t ht1)
 · have:=ha.sorted
   rw[←List.pairwise_map (f:=fun t:Task=>t.No) (R:=fun x y:Int=>x<y)]at this⊢
   rw[h.nos];exact this
theorem KeepsL.taskIdx{a b:List Task}(h:KeepsL a b)(no:Int):AR b no=AR a no:=by
 unfold VR.AR
 induction h with
 |nil=>rfl
 |cons h1 _ ih=>rw[List.findIdx?_cons,List.findIdx?_cons,h1.no,ih]
theorem KeepsL.taskOf{a b:List Task}(h:KeepsL a b)(no:Int):Keeps (Az a no) (Az b no):=by
 unfold VR.Az;rw[h.taskIdx];cases e:VR.AR a no with
 |none=>exact Keeps.refl _
 |some i=>
  obtain⟨hi,_⟩:=Bj e;simp only;rw[Af hi,Af (by rw[h.len];exact hi)]
  exact h.at_ i hi
theorem KeepsL.executor{a b:List Task}(h:KeepsL a b)(ls:List Lock)(no:Int):BH b ls no=BH a ls no:=by
 unfold VR.BH;cases BD ls no with
 |none=>rfl
 |some c=>
  have e:(no::c).all (fun x=>(VR.AR b x).isSome)=(no::c).all (fun x=>(VR.AR a x).isSome):=by
   congr 1
   funext x
   rw[h.taskIdx]
  simp only[e]
theorem KeepsL.able{a b:List Task}(h:KeepsL a b)(ls:List Lock)(no:Int):BX b ls no=BX a ls no:=by
 unfold VR.BX;rw[h.executor,(h.taskOf no).state,(h.taskOf _).state]
theorem HD{ts:List Task}(h:TasksOk ts){t:Task}(ht:t∈ts):Az ts t.No=t:=by
 obtain⟨i,hi,e,h2⟩:=Cq h ht;unfold Az;rw[h2];simp only;rw[Af hi,e]
theorem Sy(ls:List Lock)(x:Turns)(cpu:Int)(h:TasksOk x.ts):KeepsL x.ts (Bk ls x cpu).ts:=by
 unfold Bk;cases e:Ai (Ag x.ts ls cpu)with
 |none=>exact KeepsL.refl _
 |some t=>
  have hm:=(EN _ none t e).resolve_right (fun h=>by cases h)
  have ht:t∈x.ts:=(List.mem_filter.1 hm).1;obtain⟨i,hi,e1,e2⟩:=Cq h ht;simp only[e2,Option.getD_some];exact KeepsL.set _ i hi (by rw[e1];exact tG t _)
theorem S0(ls:List Lock)(x:Turns)(h:TasksOk x.ts): ∀k,KeepsL x.ts (BG ls x k).ts
 |0=>KeepsL.refl _
 |k+1=>by
  unfold BG;rw[List.range_succ,List.foldl_append];have:=S0 ls x h k;exact this.trans (Sy ls _ _ (this.tasksOk h))
theorem HF(ls:List Lock)(x:Turns)(k:Nat):BG ls x (k+1)=Bk ls (BG ls x k) (k:Int):=by
 unfold BG;rw[List.range_succ,List.foldl_append];rfl
theorem uM(ls:List Lock)(x:Turns)(cpu:Int):x.seq≤(Bk ls x cpu).seq∧(Bk ls x cpu).seq≤x.seq+1:=by
 unfold Bk;cases Ai (Ag x.ts ls cpu)with
 |none=>exact⟨Int.le_refl _,by show x.seq≤x.seq+1;omega⟩
 |some t=>
  simp only;cases (Ba t (x.seq+1)).2<;>simp<;>omega
theorem S1(ls:List Lock)(x:Turns): ∀k:Nat,x.seq≤(BG ls x k).seq∧(BG ls x k).seq≤x.seq+k
 |0=>by simp[BG]
 |k+1=>by
  have h1:=S1 ls x k;have h2:=uM ls (BG ls x k) (k:Int);rw[HF];omega
theorem uO(ls:List Lock)(x:Turns)(cpu:Int):(Bk ls x cpu).tr.length=x.tr.length+1:=by
 unfold Bk;cases Ai (Ag x.ts ls cpu)<;>simp
theorem S2(ls:List Lock)(x:Turns): ∀k:Nat,(BG ls x k).tr.length=x.tr.length+k
 |0=>by simp[BG]
 |k+1=>by rw[HF,uO,S2 ls x k];omega
theorem FS{s:Sys}(h:s.Now<100000):KeepsL s.Tasks (AF s):=
 (KeepsL.map _ fun t _=>G7 h).trans (KeepsL.map _ fun t _=>uc h t)
theorem PV{s:Sys}(h:s.Now<100000)(ht:TasksOk s.Tasks):KeepsL s.Tasks (Av s).Tasks:=
 (FS h).trans (S0 s.Locks ⟨AF s,s.Seq,s.Trace⟩ ((FS h).tasksOk ht) s.Cpus.toNat)
end Go.Proofs.YthoholbeacojfaaGreat.VR
end
section
set_option linter.unusedVariables false
set_option linter.unusedSimpArgs false
namespace Go.Proofs.YthoholbeacojfaaGreat.VR
open Go
theorem Before.trans{a b c:Task}(h:Before a b)(h':Before b c):Before a c:=by
 refine⟨h.l,h'.r,?_⟩;have h1:=h.lt;have h2:=h'.lt;rcases h.l.class with k1|k1|k1<;>rcases h'.r.class with k3|k3|k3<;>rcases h.r.class with k2|k2|k2<;>rw[k1,k2]at h1<;>rw[k2,k3]at h2<;>rw[k1,k3]<;>omega
theorem Before.irrefl{a:Task}(h:Before a a):False:=by
 have h1:=h.lt;omega
theorem Before.total{a b:Task}(ha:TaskOk a)(hb:TaskOk b)(h:a.No≠b.No):Before a b∨Before b a:=by
 by_cases q:Before a b
 ·exact .inl q
 · refine .inr ⟨hb,ha,?_⟩
   rw[F8]at q;have q1:=not_and.1 (not_and.1 q ha) hb;rcases ha.class with k1|k1|k1<;>rcases hb.class with k2|k2|k2<;>rw[k1,k2]at q1<;>rw[k1,k2]<;>omega
def Pf(S:Task→Prop):Prop:= ∀u v,S u→S v→TaskOk u∧TaskOk v∧(u=v∨u.No≠v.No)
theorem PU{ts:List Task}(h:TasksOk ts):Pf (· ∈ts):=by
 intro u v hu hv;refine⟨h.each u hu,h.each v hv,?_⟩;obtain⟨i,hi,e1,e2⟩:=Cq h hu;obtain⟨j,hj,e3,e4⟩:=Cq h hv
 by_cases q:u.No=v.No
 · rw[q,e4]at e2
   injection e2 with e2
   subst e2;exact .inl (e1.symm.trans e3)
 ·exact .inr q
theorem HM{S:Task→Prop}(hS:Pf S): ∀(l:List Task) (b:Option Task) (t:Task),(∀u∈l,S u)→(∀x,b=some x→S x)→l.foldl B1 b=some t→S t∧(∀u∈l,¬Before u t)∧ ∀x,b=some x→ ¬Before x t
 | [],b,t,_,hb,h=>by
   simp only[List.foldl_nil]at h;refine⟨hb t h,fun u hu=>(by cases hu),fun x hx=> ?_⟩
   rw[h]at hx;injection hx with hx
   subst hx;exact Before.irrefl
 |u::l,b,t,hl,hb,h=>by
  have hu0:=hl u (List.mem_cons_self ..);have hl':=fun v hv=>hl v (List.mem_cons_of_mem _ hv)
  have hu:S t∧(∀v∈l,¬Before v t)∧ ¬Before u t∧ ∀x,b=some x→ ¬Before x t:=by
   cases b with
   |none=>
    obtain⟨h0,h1,h2⟩:=HM hS l (some u) t hl' (fun x hx=>by injection hx with hx;subst hx;exact hu0) h
    exact⟨h0,h1,h2 u rfl,fun x hx=>by cases hx⟩
   |some x=>
    have hx0:=hb x rfl;rw[List.foldl_cons]at h;unfold B1 at h;simp only at h
    by_cases q:Before u x
    · rw[if_pos q]at h
      obtain⟨h0,h1,h2⟩:=HM hS l (some u) t hl' (fun x hx=>by injection hx with hx;subst hx;exact hu0) h
      have h3:=h2 u rfl;exact⟨h0,h1,h3,fun y hy hb=>by injection hy with hy;subst hy;exact h3 (q.trans hb)⟩
    · rw[if_neg q]at h
      obtain⟨h0,h1,h2⟩:=HM hS l (some x) t hl' (fun y hy=>by injection hy with hy;subst hy;exact hx0) h
      have h3:=h2 x rfl;refine⟨h0,h1,fun hb=> ?_,fun y hy=>by injection hy with hy;subst hy;exact h3⟩
      obtain⟨g1,g2,g3⟩:=hS x u hx0 hu0;rcases g3 with rfl|g3
      ·exact h3 hb
      · rcases Before.total g1 g2 g3 with g4|g4
        ·exact h3 (g4.trans hb)
        ·exact q g4
  exact⟨hu.1,fun v hv=>by
   rcases List.mem_cons.1 hv with rfl|hv
   ·exact hu.2.2.1
   ·exact hu.2.1 v hv,hu.2.2.2⟩
theorem Ta{l:List Task}(h:l≠ []): ∃t,Ai l=some t:=by
 cases e:Ai l with
 |none=>exact absurd (KS e) h
 |some t=>exact⟨t,rfl⟩
theorem HK{l:List Task}{t:Task}(h:Ai l=some t):t∈l:=by
 rcases EN l none t h with h|h
 ·exact h
 ·cases h
theorem Zz{S:Task→Prop}(hS:Pf S){l l':List Task}(hl: ∀u∈l,S u)(h: ∀u,u∈l↔u∈l'):Ai l=Ai l':=by
 have hl': ∀u∈l',S u:=fun u hu=>hl u ((h u).2 hu)
 cases e:Ai l with
 |none=>
  have e1:=KS e;subst e1;have:l'=[]:=by
   cases l' with
   |nil=>rfl
   |cons x r=>exact absurd ((h x).2 (List.mem_cons_self ..)) (by simp)
  rw[this];rfl
 |some t=>
  have ht:=HK e;have hne:l'≠ []:=fun q=>by have:=(h t).1 ht;rw[q]at this;cases this
  obtain⟨t',e'⟩:=Ta hne;have ht':=HK e';obtain⟨a1,a2,_⟩:=HM hS l none t hl (fun x hx=>by cases hx) e
  obtain⟨b1,b2,_⟩:=HM hS l' none t' hl' (fun x hx=>by cases hx) e'
  obtain⟨c1,c2,c3⟩:=hS t t' a1 b1;rcases c3 with rfl|c3
  ·exact e'.symm
  · rcases Before.total c1 c2 c3 with c4|c4
    ·exact absurd c4 (b2 t ((h t).1 ht))
    ·exact absurd c4 (a2 t' ((h t').2 ht'))
def Ew(ts:List Task)(l:List Int):List Task:=l.filterMap fun y=>(AR ts y).map fun i=>ts.getD i (Kd.dflt .task)
theorem UZ(ts:List Task)(l:List Int):(Ew ts l).length≤l.length:=List.length_filterMap_le _ _
theorem bt{ts:List Task}{l:List Int}{i:Nat}(hi:i<l.length):Ew ts (l.take (i+1))=Ew ts (l.take i)++(match AR ts l[i]with|some j=>[ts.getD j (Kd.dflt .task)]|none=>[]):=by
 unfold Ew;rw[List.take_succ_eq_append_getElem hi,List.filterMap_append]
 congr 1
 simp only[List.filterMap_cons,List.filterMap_nil];cases AR ts l[i]<;>rfl
theorem Qy{ts:List Task}(h:TasksOk ts){l:List Int}{t:Task}:t∈Ew ts l↔t∈ts.filter fun t=>decide (t.No∈l):=by
 unfold Ew;simp only[List.mem_filterMap,List.mem_filter,decide_eq_true_eq,Option.map_eq_some_iff];constructor
 · rintro⟨y,hy,j,hj,rfl⟩
   obtain⟨hlt,hno⟩:=Bj hj;rw[Af hlt];exact⟨List.getElem_mem _,by rw[hno];exact hy⟩
 · rintro⟨ht,hno⟩
   obtain⟨j,hj,rfl,e⟩:=Cq h ht;exact⟨_,hno,j,e,Af hj _⟩
theorem Z0{ts:List Task}(h:TasksOk ts)(l:List Int):Ai (Ew ts l)=Ai (ts.filter fun t=>decide (t.No∈l)):=
 Zz (PU h) (fun u hu=>(List.mem_filter.1 ((Qy h).1 hu)).1) fun u=>Qy h
theorem UD{x:Int}: ∀(xs:List Int) (j:Nat),xs.Nodup→xs[j]? =some x→xs.eraseIdx j=xs.filter fun y=>decide (y≠x)
 | [],j,_,h=>by simp at h
 |y::ys,0,hn,h=>by
  simp only[List.getElem?_cons_zero,Option.some.injEq]at h;subst h;have h1:=(List.nodup_cons.1 hn).1;simp only[List.eraseIdx_cons_zero,List.filter_cons,ne_eq,not_true_eq_false,decide_false,Bool.false_eq_true,if_false];refine(List.filter_eq_self.2 fun z hz=> ?_).symm
  exact decide_eq_true (fun e=>h1 (by rw[←e];exact hz))
 |y::ys,j+1,hn,h=>by
  simp only[List.getElem?_cons_succ]at h;have hn':=List.nodup_cons.1 hn;have hyx:y≠x:=fun e=>hn'.1 (by rw[e];exact List.mem_of_getElem? h)
  simp only[List.eraseIdx_cons_succ,List.filter_cons,ne_eq,hyx,not_false_eq_true,decide_true,if_true,UD ys j hn'.2 h]
theorem ua{l:List Lock}{i:Nat}(h:i<l.length):(l[i].Waits).Sublist (AT l):=by
 unfold AT
 induction l generalizing i with
 |nil=>simp at h
 |cons k l ih=>
  cases i with
  |zero=>simp
  |succ i=>simp only[List.getElem_cons_succ,List.flatMap_cons];exact(ih (by simpa using h)).trans (List.sublist_append_right _ _)
theorem Pu{ts:List Task}{l:List Int}(h:TasksOk ts)(hl: ∀y∈l,(AR ts y).isSome=true):(l=[]∧EL ts l=0)∨EL ts l∈l:=by
 unfold EL;rw[if_pos h];cases l with
 |nil=>
  refine .inl ⟨rfl,?_⟩;have:(ts.filter fun t=>decide (t.No∈([]:List Int)))=[]:=by simp
  rw[this];rfl
 |cons y r=>
  refine .inr ?_;obtain⟨i,hi⟩:=Option.isSome_iff_exists.1 (hl y (List.mem_cons_self ..));obtain⟨hlt,hno⟩:=Bj hi;have hm:ts[i]∈ts.filter fun t=>decide (t.No∈y::r):=List.mem_filter.2 ⟨List.getElem_mem _,by simp[hno]⟩
  obtain⟨t,ht⟩:=Ta (l:=ts.filter fun t=>decide (t.No∈y::r)) (fun e=>by rw[e]at hm;cases hm)
  have:=HK ht;rw[ht];exact of_decide_eq_true (List.mem_filter.1 this).2
theorem RT{ts:List Task}{k:Lock}(h:B8 ts k=true)(h0:k.Owner=0→k.Waits=[]): ∀y∈k.Waits,(AR ts y).isSome=true:=by
 intro y hy;unfold B8 at h;rw[Bool.or_eq_true]at h;rcases h with h|h
 · have:=h0 (of_decide_eq_true h)
   rw[this]at hy;cases hy
 · rw[Bool.and_eq_true]at h
   have:=List.all_eq_true.1 h.2 y hy;rw[Bool.and_eq_true]at this;exact this.1
end Go.Proofs.YthoholbeacojfaaGreat.VR
end
section
set_option linter.unusedVariables false
set_option linter.unusedSimpArgs false
namespace Go.Proofs.YthoholbeacojfaaGreat.VR
open Go
theorem Pe{l:List Lock}(h:LocksOk l):(AT l).length≤1000:=by
 have:=Ou (L:=(List.range 1000).map fun(i:Nat)=>(i:Int)+1) h.nodup (fun x hx=>by
  have:=h.nos x hx;rw[List.mem_map];exact⟨(x-1).toNat,List.mem_range.2 (by omega),by omega⟩)
 simpa using this
theorem PR{s:Sys}(h:SysOk s):SysB s:=by
 have h1:=h.tasks.len;have h2:=h.locks.1;have h3:=Pe h.locks.2.1;have h4:=h.ghosts.1;have h5:=h.flen;have h6:=h.cpus;have h7:=h.trace;have hb:(1000:Nat)≤big:=by unfold big;omega
 exact⟨⟨by omega,⟨by omega,by omega⟩⟩,⟨by omega,by omega,fun k hk=>by have:=Dd hk;omega,by omega,by omega,by omega⟩⟩
theorem KeepsL.shares{a b:List Task}(h:KeepsL a b)(cpu:Int):Ac b cpu=Ac a cpu:=by
 unfold Ac
 induction h with
 |nil=>rfl
 |cons h1 _ ih=>
  rw[List.filter_cons,List.filter_cons,h1.cpu,h1.cls];split
  ·simp only[List.map_cons,ih,h1.share.1,h1.share.2]
  ·exact ih
theorem KeepsL.lockOn{a b:List Task}(h:KeepsL a b)(k:Lock):B8 b k=B8 a k:=by
 unfold VR.B8;rw[h.taskIdx,(h.taskOf k.Owner).cpu]
 congr 2
 refine List.all_congr rfl fun y=> ?_
 rw[h.taskIdx,(h.taskOf y).cpu]
theorem T9: ∀(l:List Task) (o:Option (Int×Int)),(∀t∈l,TaskOk t)→(∀a b,o=some (a,b)→(0≤a∧a≤100000000)∧0≤b∧b≤100000000)→ ∀a b,l.foldl Ck o=some (a,b)→(0≤a∧a≤100000000)∧0≤b∧b≤100000000
 | [],o,_,h0,a,b,h=>h0 a b h
 |t::l,o,hl,h0,a,b,h=>by
  refine T9 l (Ck o t) (fun x hx=>hl x (List.mem_cons_of_mem _ hx)) (fun a b e=> ?_) a b h
  unfold Ck at e;split at e
  · rename_i hf
    rw[C9]at hf;have hv:=(hf.1.fair hf.2).v;cases o with
    |none=>simp only[Option.some.injEq,Prod.mk.injEq]at e;omega
    |some p=>
     obtain⟨x,y⟩:=p;have:=h0 x y rfl;simp only[Option.some.injEq,Prod.mk.injEq]at e;omega
  ·exact h0 a b e
theorem UI{l:List Task}{f:Int}(hl: ∀t∈l,TaskOk t)(hf:0≤f∧f≤100000000):f≤B6 l f∧0≤B6 l f∧B6 l f≤100000000:=by
 unfold B6;cases e:Bm l with
 |none=>exact⟨Int.le_refl _,hf⟩
 |some p=>
  obtain⟨a,b⟩:=p;have:=T9 l none hl (fun _ _ h=>by cases h) a b e
  simp only;omega
theorem dm{now m:Int}(t:Task)(h:0≤m∧m≤100000):0≤CQ now m t∧CQ now m t≤100000:=by
 unfold CQ;split<;>omega
theorem Vm{now:Int}: ∀(l:List Task) (m:Int),0≤m∧m≤100000→0≤l.foldl (CQ now) m∧l.foldl (CQ now) m≤100000
 | [],_,h=>h
 |t::l,m,h=>Vm l _ (dm t h)
theorem IR{s:Sys}(h:SysOk s)(hc:Aw s):SysOk (Av s):=by
 have hnow:s.Now<100000:=by have:=h.now;have:=hc.1;omega
 have hk:=PV hnow h.tasks;have hcp:=h.cpus;have hcn:s.Cpus.toNat=s.Cpus:=by omega
 have hw:=(FS (s:=s) hnow).tasksOk h.tasks;refine⟨?_,hcp,hk.tasksOk h.tasks,fun t ht=> ?_,⟨h.locks.1,h.locks.2.1,fun k hk2=> ?_⟩,⟨?_,fun g hg=> ?_⟩,fun c hcc=> ?_,?_,fun f hf=> ?_,?_,Vm _ _ h.missed,?_⟩
 · show 0≤s.Now+1∧s.Now+1≤100000
   have:=h.now;omega
 · obtain⟨u,hu,ku⟩:=hk.mem ht
   rw[ku.cpu];exact h.tcpu u hu
 ·rw[hk.lockOn];exact h.locks.2.2 k hk2
 ·exact Nat.le_trans (List.length_filter_le _ _) h.ghosts.1
 ·exact h.ghosts.2 g (List.mem_filter.1 hg).1
 · refine UR ?_ (h.fits c hcc)
   unfold Aj;rw[hk.shares];refine(List.Sublist.refl _).append ?_;unfold A3;exact(((List.filter_sublist).filter _)).map _
 · show((CN (AF s) s.Floors).length:Int)=s.Cpus
   unfold CN;simp[h.flen]
 · have hf':f∈CN (AF s) s.Floors:=hf
   unfold CN at hf';obtain⟨i,hi,rfl⟩:=List.mem_map.1 hf';have hi:=List.mem_range.1 hi;rw[Af hi];have:=UI (l:=BK (AF s) (i:Int)) (f:=s.Floors[i]) (fun t ht=>hw.each t (List.mem_filter.1 ht).1) (h.floors _ (List.getElem_mem hi))
   exact this.2
 · show 0≤(CZ s).seq∧(CZ s).seq≤1000000
   have h1:=S1 s.Locks ⟨AF s,s.Seq,s.Trace⟩ s.Cpus.toNat;have h2:=h.seq;have h3:=hc.2.1;unfold CZ;simp only at h1;omega
 · show(CZ s).tr.length≤400
   have h1:=S2 s.Locks ⟨AF s,s.Seq,s.Trace⟩ s.Cpus.toNat;have h3:=hc.2.2;unfold CZ;simp only at h1;omega
end Go.Proofs.YthoholbeacojfaaGreat.VR
end
section
set_option linter.unusedVariables false
set_option linter.unusedSimpArgs false
namespace Go.Proofs.YthoholbeacojfaaGreat.VR
open Go
theorem Pb{l:List Lock}(hn:(AT l).Nodup){x:Int}{j:Nat}:BS l x=some j↔ ∃h:j<l.length,x∈l[j].Waits:=by
 unfold BS;rw[List.findIdx?_eq_some_iff_getElem];constructor
 · rintro⟨h,h1,_⟩
   exact⟨h,by simpa using h1⟩
 · rintro⟨h,h1⟩
   refine⟨h,by simpa using h1,fun i hi h2=> ?_⟩
   have h2:x∈l[i].Waits:=by simpa using h2
   have e:AT l=AT (l.take j)++AT (l.drop j):=by unfold AT;rw[←List.flatMap_append,List.take_append_drop]
   rw[e,List.nodup_append]at hn;refine hn.2.2 x ?_ x ?_ rfl
   ·exact List.mem_flatMap.2 ⟨l[i],List.mem_take_iff_getElem.2 ⟨i,by omega,rfl⟩,h2⟩
   ·exact List.mem_flatMap.2 ⟨l[j],List.mem_drop_iff_getElem.2 ⟨0,by omega,by simp⟩,h1⟩
theorem Pc{l:List Lock}{x:Int}:BS l x=none↔ ∀k∈l,x∉k.Waits:=by
 unfold BS;rw[List.findIdx?_eq_none_iff];simp
theorem FH{l:List Lock}(hn:(AT l).Nodup){x:Int}{j:Nat}(h:j<l.length)(hx:x∈l[j].Waits):next l x=some l[j].Owner:=by
 unfold next
 rw[(Pb hn).2 ⟨h,hx⟩];simp only;rw[Af h]
theorem ID{l:List Lock}{x:Int}:next l x=none↔ ∀k∈l,x∉k.Waits:=by
 unfold next
 rw[←Pc];cases BS l x<;>simp
theorem EJ{l:List Lock}{x:Int}:x∈AT l↔ ∃k∈l,x∈k.Waits:=by unfold AT;exact List.mem_flatMap
theorem S5{l:List Lock}{i:Nat}(h:i<l.length)(k:Lock):AT (l.set i k)=AT (l.take i)++(k.Waits++AT (l.drop (i+1)))∧AT l=AT (l.take i)++(l[i].Waits++AT (l.drop (i+1))):=by
 constructor
 · rw[List.set_eq_take_append_cons_drop,if_pos h]
   unfold AT;rw[List.flatMap_append,List.flatMap_cons]
 · have e:l=l.take i++l[i]::l.drop (i+1):=by rw[List.getElem_cons_drop h,List.take_append_drop]
   conv=>lhs;rw[e]
   unfold AT;rw[List.flatMap_append,List.flatMap_cons]
theorem Di(l:List Lock)(k:Nat)(x:Int):Ao l (k+1) x=match next l x with|none=>some []|some o=>(Ao l k o).map (o:: ·):=rfl
theorem P3{l l':List Lock}{no:Int}(h: ∀x,x≠no→next l' x=next l x): ∀(k:Nat) (x:Int) (c:List Int),Ao l k x=some c→no∉x::c→Ao l' k x=some c
 |0,x,c,hc,_=>by cases hc
 |k+1,x,c,hc,hn=>by
  rw[Di]at hc⊢;rw[h x (fun e=>hn (by rw[e];exact List.mem_cons_self ..))]
  cases e:next l x with
  |none=>rw[e]at hc;exact hc
  |some o=>
   rw[e]at hc;obtain⟨c',h1,rfl⟩:=Option.map_eq_some_iff.1 hc;simp only;rw[P3 h k o c' h1 (fun q=>hn (List.mem_cons_of_mem _ q))]
   rfl
theorem To{l l':List Lock}{no o:Int}{c0:List Int}(h: ∀x,x≠no→next l' x=next l x)(ho:next l' no=some o)(hc0:BD l o=some c0)(hn:no∉o::c0):
 ∀(k:Nat) (x:Int) (c:List Int),Ao l k x=some c→ ∃k' c',Ao l' k' x=some c'
 |0,x,c,hc=>by cases hc
 |k+1,x,c,hc=>by
  by_cases e:x=no
  · subst e
    exact⟨_,_,by rw[Di,ho];simp only;rw[P3 h _ _ _ hc0 hn];rfl⟩
  · rw[Di]at hc
    cases e2:next l x with
    |none=>exact⟨1,[],by rw[Di,h x e,e2]⟩
    |some y=>
     rw[e2]at hc;obtain⟨c',h1,rfl⟩:=Option.map_eq_some_iff.1 hc;obtain⟨k',c2,h2⟩:=To h ho hc0 hn k y c' h1;exact⟨k'+1,y::c2,by rw[Di,h x e,e2];simp only;rw[h2];rfl⟩
theorem TW{ls:List Lock}{i:Nat}{no:Int}{c0:List Int}(h:LocksOk ls)(hi:i<ls.length)(h1:1≤no∧no≤1000)(hw:BS ls no=none)(h0:ls[i].Owner≠0)(hc0:BD ls ls[i].Owner=some c0)(hn:no∉ls[i].Owner::c0):
 LocksOk (ls.set i ⟨ls[i].Owner,ls[i].Waits++[no]⟩):=by
 obtain⟨e1,e2⟩:=S5 hi ⟨ls[i].Owner,ls[i].Waits++[no]⟩;have hperm:(AT (ls.set i ⟨ls[i].Owner,ls[i].Waits++[no]⟩)).Perm (no::AT ls):=by
  rw[e1,e2];have:AT (ls.take i)++(ls[i].Waits++[no]++AT (ls.drop (i+1)))=(AT (ls.take i)++ls[i].Waits)++no::AT (ls.drop (i+1)):=by simp
  simp only;rw[this,←List.append_assoc];exact List.perm_middle
 have hno:no∉AT ls:=fun q=>by
  obtain⟨k,hk,hx⟩:=EJ.1 q;exact Pc.1 hw k hk hx
 have hnd:(AT (ls.set i ⟨ls[i].Owner,ls[i].Waits++[no]⟩)).Nodup:=hperm.nodup_iff.2 (List.nodup_cons.2 ⟨hno,h.nodup⟩);have hmem: ∀x,x∈AT (ls.set i ⟨ls[i].Owner,ls[i].Waits++[no]⟩)↔x=no∨x∈AT ls:=fun x=>by rw[hperm.mem_iff,List.mem_cons]
 have hlen:i<(ls.set i ⟨ls[i].Owner,ls[i].Waits++[no]⟩).length:=by rw[List.length_set];exact hi
 have hnx:next (ls.set i ⟨ls[i].Owner,ls[i].Waits++[no]⟩) no=some ls[i].Owner:=by
  rw[FH hnd hlen (by rw[List.getElem_set_self];simp),List.getElem_set_self]
 have hrest: ∀x,x≠no→next (ls.set i ⟨ls[i].Owner,ls[i].Waits++[no]⟩) x=next ls x:=by
  intro x hx
  by_cases hin:x∈AT ls
  · obtain⟨k,hk,hxk⟩:=EJ.1 hin
    obtain⟨j,hj,rfl⟩:=List.getElem_of_mem hk;have hj':j<(ls.set i ⟨ls[i].Owner,ls[i].Waits++[no]⟩).length:=by rw[List.length_set];exact hj
    rw[FH h.nodup hj hxk]
    by_cases e:i=j
    · subst e
      rw[FH hnd hj' (by rw[List.getElem_set_self];simp[hxk]),List.getElem_set_self]
    ·rw[FH hnd hj' (by rw[List.getElem_set_ne e];exact hxk),List.getElem_set_ne e]
  · have a1:next ls x=none:=ID.2 fun k hk q=>hin (EJ.2 ⟨k,hk,q⟩)
    have a2:next (ls.set i ⟨ls[i].Owner,ls[i].Waits++[no]⟩) x=none:=ID.2 fun k hk q=>by
     rcases(hmem x).1 (EJ.2 ⟨k,hk,q⟩)with e|e
     ·exact hx e
     ·exact hin e
    rw[a1,a2]
 refine⟨by rw[List.length_set];exact h.len,fun k hk=> ?_,fun x hx=> ?_,hnd,fun x hx=> ?_⟩
 · rcases List.mem_or_eq_of_mem_set hk with hk|rfl
   ·exact h.own k hk
   ·exact⟨(h.own _ (List.getElem_mem hi)).1,fun q=>absurd q h0⟩
 · rcases(hmem x).1 hx with rfl|hx
   ·exact h1
   ·exact h.nos x hx
 · have: ∃k c,Ao ls k x=some c∨x=no:=by
    rcases(hmem x).1 hx with e|hx
    ·exact⟨0,[],.inr e⟩
    · obtain⟨c,hc⟩:=Option.isSome_iff_exists.1 (h.ends x hx)
      exact⟨_,c,.inl hc⟩
   obtain⟨k,c,hc|rfl⟩:=this
   · obtain⟨k',c',h2⟩:=To hrest hnx hc0 hn k x c hc
     rw[Im h2];rfl
   ·rw[KU hnx,Im (P3 hrest _ _ _ hc0 hn)];rfl
theorem Tn{l l':List Lock}{nx:Int}{W:List Int}(h: ∀x,x∉W→x≠nx→next l' x=next l x)(hW: ∀x∈W,next l' x=some nx)(hn:next l' nx=none):
 ∀(k:Nat) (x:Int) (c:List Int),Ao l k x=some c→ ∃k' c',Ao l' k' x=some c'
 |0,x,c,hc=>by cases hc
 |k+1,x,c,hc=>by
  have h0:Ao l' 1 nx=some []:=by rw[Di,hn]
  by_cases e0:x=nx
  ·subst e0;exact⟨1,[],h0⟩
  by_cases e:x∈W
  ·exact⟨2,[nx],by rw[Di,hW x e];simp only;rw[h0];rfl⟩
  · rw[Di]at hc
    cases e2:next l x with
    |none=>exact⟨1,[],by rw[Di,h x e e0,e2]⟩
    |some y=>
     rw[e2]at hc;obtain⟨c',h1,rfl⟩:=Option.map_eq_some_iff.1 hc;obtain⟨k',c2,h2⟩:=Tn h hW hn k y c' h1;exact⟨k'+1,y::c2,by rw[Di,h x e e0,e2];simp only;rw[h2];rfl⟩
theorem bu{ls:List Lock}{i:Nat}{nx:Int}(h:LocksOk ls)(hi:i<ls.length)(hx:(ls[i].Waits=[]∧nx=0)∨nx∈ls[i].Waits):LocksOk (Ff ls i nx):=by
 unfold Ff;rw[Af hi];have hwi: ∀y∈ls[i].Waits,1≤y∧y≤1000:=fun y hy=>h.nos y (EJ.2 ⟨_,List.getElem_mem hi,hy⟩)
 have hnx:0≤nx∧nx≤1000:=by
  rcases hx with⟨_,rfl⟩|hx
  ·omega
  ·have:=hwi nx hx;omega
 have hsub:(AT (ls.set i ⟨nx,ls[i].Waits.filter fun y=>decide (y≠nx)⟩)).Sublist (AT ls):=by
  obtain⟨e1,e2⟩:=S5 hi ⟨nx,ls[i].Waits.filter fun y=>decide (y≠nx)⟩
  rw[e1,e2];exact(List.Sublist.refl _).append ((List.filter_sublist).append (List.Sublist.refl _))
 have hnd:=h.nodup.sublist hsub;have hlen:i<(ls.set i ⟨nx,ls[i].Waits.filter fun y=>decide (y≠nx)⟩).length:=by rw[List.length_set];exact hi
 have hW: ∀x∈ls[i].Waits.filter (fun y=>decide (y≠nx)),next (ls.set i ⟨nx,ls[i].Waits.filter fun y=>decide (y≠nx)⟩) x=some nx:=fun x hxx=>by
  rw[FH hnd hlen (by rw[List.getElem_set_self];exact hxx),List.getElem_set_self]
 have only: ∀{x:Int} {j:Nat} (hj:j<ls.length),x∈ls[i].Waits→x∈ls[j].Waits→i=j:=fun hj h1 h2=>by
  have a1:=(Pb h.nodup).2 ⟨hi,h1⟩;have a2:=(Pb h.nodup).2 ⟨hj,h2⟩;rw[a1]at a2;injection a2
 have hn:next (ls.set i ⟨nx,ls[i].Waits.filter fun y=>decide (y≠nx)⟩) nx=none:=by
  rw[ID];intro k hk q;obtain⟨j,hj,rfl⟩:=List.getElem_of_mem hk;have hj2:j<ls.length:=by rw[List.length_set]at hj;exact hj
  by_cases e:i=j
  · subst e
    rw[List.getElem_set_self]at q;simp at q
  · rw[List.getElem_set_ne e]at q
    rcases hx with⟨_,rfl⟩|hx
    ·have:=h.nos 0 (EJ.2 ⟨_,List.getElem_mem hj2,q⟩);omega
    ·exact e (only hj2 hx q)
 have hrest: ∀x,x∉ls[i].Waits.filter (fun y=>decide (y≠nx))→x≠nx→next (ls.set i ⟨nx,ls[i].Waits.filter fun y=>decide (y≠nx)⟩) x=next ls x:=by
  intro x h1 h2;have h3:x∉ls[i].Waits:=fun q=>h1 (List.mem_filter.2 ⟨q,decide_eq_true h2⟩)
  by_cases hin:x∈AT ls
  · obtain⟨k,hk,hxk⟩:=EJ.1 hin
    obtain⟨j,hj,rfl⟩:=List.getElem_of_mem hk;have e:i≠j:=fun e=>by subst e;exact h3 hxk
    have hj':j<(ls.set i ⟨nx,ls[i].Waits.filter fun y=>decide (y≠nx)⟩).length:=by rw[List.length_set];exact hj
    rw[FH h.nodup hj hxk,FH hnd hj' (by rw[List.getElem_set_ne e];exact hxk),List.getElem_set_ne e]
  ·rw[ID.2 fun k hk q=>hin (EJ.2 ⟨k,hk,q⟩),ID.2 fun k hk q=>hin (hsub.subset (EJ.2 ⟨k,hk,q⟩))]
 refine⟨by rw[List.length_set];exact h.len,fun k hk=> ?_,fun x hxx=>h.nos x (hsub.subset hxx),hnd,fun x hxx=> ?_⟩
 · rcases List.mem_or_eq_of_mem_set hk with hk|rfl
   ·exact h.own k hk
   · refine⟨hnx,fun q=> ?_⟩
     have q:nx=0:=q;rcases hx with⟨e,_⟩|hx
     · show ls[i].Waits.filter _=[]
       rw[e];rfl
     ·have:=hwi nx hx;omega
 · obtain⟨c,hc⟩:=Option.isSome_iff_exists.1 (h.ends x (hsub.subset hxx))
   obtain⟨k',c',h2⟩:=Tn hrest hW hn _ x c hc;rw[Im h2];rfl
end Go.Proofs.YthoholbeacojfaaGreat.VR
end
section
set_option linter.unusedVariables false
set_option linter.unusedSimpArgs false
namespace Go.Proofs.YthoholbeacojfaaGreat.VR
open Go
theorem Up{ts:List Task}{no:Int}(h:(AR ts no).isSome=true): ∃t∈ts,t.No=no:=by
 obtain⟨i,hi⟩:=Option.isSome_iff_exists.1 h;obtain⟨hlt,e⟩:=Bj hi;exact⟨_,List.getElem_mem hlt,e⟩
theorem Rh{ts:List Task}(h:TasksOk ts){t:Task}(ht:t∈ts):(AR ts t.No).isSome=true∧Az ts t.No=t:=by
 obtain⟨i,hi,_,e⟩:=Cq h ht;exact⟨by rw[e];rfl,HD h ht⟩
theorem RS{ts ts':List Task}{k:Lock}(h:TasksOk ts)(h':TasksOk ts')(hk:B8 ts k=true)(hr: ∀t∈ts,(t.No=k.Owner∨t.No∈k.Waits)→ ∃t'∈ts',t'.No=t.No∧t'.Cpu=t.Cpu):B8 ts' k=true:=by
 unfold B8 at hk⊢
 by_cases h0:k.Owner=0
 ·simp[h0]
 · rw[decide_eq_false h0,Bool.false_or,Bool.and_eq_true,List.all_eq_true]at hk⊢
   have key: ∀y,(y=k.Owner∨y∈k.Waits)→(AR ts y).isSome=true→(AR ts' y).isSome=true∧(Az ts' y).Cpu=(Az ts y).Cpu:=by
    intro y hy hs;obtain⟨t,ht,rfl⟩:=Up hs;obtain⟨t',ht',e1,e2⟩:=hr t ht hy;have a:=Rh h ht;have b:=Rh h' ht';rw[e1]at b;exact⟨b.1,by rw[b.2,a.2,e2]⟩
   have ko:=key k.Owner (.inl rfl) hk.1;refine⟨ko.1,fun y hy=> ?_⟩
   have hy':=hk.2 y hy;rw[Bool.and_eq_true,decide_eq_true_eq]at hy'⊢;have ky:=key y (.inr hy) hy'.1;exact⟨ky.1,by rw[ky.2,ko.2];exact hy'.2⟩
theorem I7{ts:List Task}{t u:Task}:u∈insT ts t↔u=t∨u∈ts:=by
 unfold insT;have e:=List.takeWhile_append_dropWhile (p:=fun x:Task=>decide (x.No<t.No)) (l:=ts)
 rw[List.mem_append,List.mem_cons];constructor
 · rintro(h|h|h)
   ·exact .inr (by rw[←e];exact List.mem_append_left _ h)
   ·exact .inl h
   ·exact .inr (by rw[←e];exact List.mem_append_right _ h)
 · rintro(h|h)
   ·exact .inr (.inl h)
   · rw[←e]at h
     rcases List.mem_append.1 h with h|h
     ·exact .inl h
     ·exact .inr (.inr h)
theorem RG(ts:List Task)(t:Task):(insT ts t).Perm (t::ts):=by
 unfold insT;refine List.perm_middle.trans ?_;rw[List.takeWhile_append_dropWhile]
theorem ST{a b:List Task}(h:a.Perm b)(cpu:Int):(Ac a cpu).Perm (Ac b cpu):=by
 unfold Ac;exact(h.filter _).map _
theorem HA(t:Task)(ts:List Task)(cpu:Int):Ac (t::ts) cpu=(if t.Cpu=cpu∧t.Class=1 then[⟨t.Q,t.P⟩]else[])++Ac ts cpu:=by
 unfold Ac;rw[List.filter_cons]
 by_cases h:t.Cpu=cpu∧t.Class=1
 ·rw[if_pos h,if_pos (by simp[h.1,h.2])];rfl
 ·rw[if_neg h,if_neg (by intro q;rw[Bool.and_eq_true,decide_eq_true_eq,decide_eq_true_eq]at q;exact h q)];rfl
theorem Jw{s:Sys}{c:Call}(h:(Al s c).2=true)(hk:1≤c.Kind∧c.Kind≤3):(Al s c).1.No=c.No∧(Al s c).1.Cpu=c.Cpu∧(Al s c).1.Class=c.Kind∧(c.Kind=1→(Al s c).1.Q=c.A∧(Al s c).1.P=c.B):=by
 unfold Al at h⊢
 by_cases k1:c.Kind=1
 · rw[if_pos k1]at h⊢
   unfold EB at h⊢;split at h
   · rename_i q
     rw[if_pos q];unfold CG at h⊢;split at h
     ·rename_i q2;rw[if_pos q2];exact⟨rfl,rfl,k1.symm,fun _=>⟨rfl,rfl⟩⟩
     ·cases h
   ·cases h
 · rw[if_neg k1]at h⊢
   by_cases k2:c.Kind=2
   · rw[if_pos k2]at h⊢
     unfold EC CG at h⊢;split at h
     ·rename_i q2;rw[if_pos q2];exact⟨rfl,rfl,k2.symm,fun q=>absurd q k1⟩
     ·cases h
   · rw[if_neg k2]at h⊢
     unfold Ea CG at h⊢;split at h
     ·rename_i q2;rw[if_pos q2];exact⟨rfl,rfl,(show c.Kind=3 by omega).symm,fun q=>absurd q k1⟩
     ·cases h
theorem PS{s:Sys}(h:SysOk s)(ts:List Task)(gs:List Ghost)(sq:Int)(ht:TasksOk ts)(hc: ∀t∈ts,t.Cpu<s.Cpus)(hl: ∀k∈s.Locks,B8 ts k=true)(hg:gs.length≤12∧ ∀g∈gs,DG s.Cpus g)
 (hf: ∀c,c<s.Cpus.toNat→Bg (Ac ts (c:Int)++A3 gs (c:Int))=true) (hs:0≤sq∧sq≤1000000):SysOk {s with Tasks:=ts,Ghosts:=gs,Seq:=sq}:=
 ⟨h.now,h.cpus,ht,hc,⟨h.locks.1,h.locks.2.1,hl⟩,hg,hf,h.flen,h.floors,hs,h.missed,h.trace⟩
theorem dg{s:Sys}{c:Call}(h:SysOk s)(hk:1≤c.Kind∧c.Kind≤3):SysOk (BP s c).1:=by
 unfold BP;split
 ·exact h
 rename_i h1;split
 ·exact h
 rename_i h2;split
 ·exact h
 rename_i h3;split
 ·exact h
 rename_i h4;have h3:=Decidable.not_not.1 h3;have hok:(Al s c).2=true:=by
  cases e:(Al s c).2 with
  |true=>rfl
  |false=>exact absurd (.inr e) h1
 have hcpu:c.Cpu<s.Cpus:=by
  have:=fun q=>h1 (.inl q)
  omega
 obtain⟨n1,n2,n3,n4⟩:=Jw hok hk;have base: ∀sq,0≤sq∧sq≤1000000→SysOk {s with Tasks:=insT s.Tasks (Al s c).1,Ghosts:=s.Ghosts,Seq:=sq}:=fun sq hsq=>by
  refine PS h _ _ _ h3 (fun t ht=> ?_) (fun k hk2=> ?_) h.ghosts (fun cp hcp=> ?_) hsq
  · rcases I7.1 ht with rfl|ht
    ·rw[n2];exact hcpu
    ·exact h.tcpu t ht
  ·exact RS h.tasks h3 (h.locks.2.2 k hk2) fun t ht _=>⟨t,I7.2 (.inr ht),rfl,rfl⟩
  · have hp:=ST (RG s.Tasks (Al s c).1) (cp:Int)
    rw[HA]at hp;have hf:=h.fits cp hcp
    by_cases q:(Al s c).1.Cpu=(cp:Int)∧(Al s c).1.Class=1
    · rw[if_pos q]at hp
      have k1:c.Kind=1:=by rw[←n3];exact q.2
      obtain⟨a1,a2⟩:=n4 k1;have hcp2:c.Cpu=(cp:Int):=by rw[←n2];exact q.1
      have h5:Bg (Aj s c.Cpu++[⟨c.A,c.B⟩])=true:=by
       cases e:Bg (Aj s c.Cpu++[⟨c.A,c.B⟩])with
       |true=>rfl
       |false=>exact absurd ⟨k1,e⟩ h4
      rw[←h5];refine Qs ?_;rw[a1,a2]at hp;unfold Aj;rw[hcp2];refine(hp.append_right _).trans ?_;simp only[List.singleton_append,List.cons_append];exact(List.perm_append_singleton _ _).symm
    · rw[if_neg q,List.nil_append]at hp
      rw[←hf];exact Qs (hp.append_right _)
 split
 · split
   ·exact h
   ·exact base (s.Seq+1) (by have:=h.seq;omega)
 ·exact base s.Seq h.seq
theorem KY{ts:List Task}{i:Nat}(hi:i<ts.length):ts.Perm (ts[i]::ts.eraseIdx i):=by
 rw[List.eraseIdx_eq_take_drop_succ];refine(List.Perm.of_eq ?_).trans List.perm_middle;rw[List.getElem_cons_drop hi,List.take_append_drop]
theorem tW{ts:List Task}(h:TasksOk ts)(i:Nat):TasksOk (ts.eraseIdx i):=
 ⟨fun t ht=>h.each t ((List.eraseIdx_sublist ts i).subset ht),h.sorted.sublist (List.eraseIdx_sublist ts i),Nat.le_trans (List.eraseIdx_sublist ts i).length_le h.len⟩
theorem bU{s:Sys}{i:Nat}(h:SysOk s)(hi:i<s.Tasks.length):SysOk (Cl s i s.Tasks[i]).1:=by
 unfold Cl;split
 ·exact h
 rename_i h1;have h1:C2 s.Locks s.Tasks[i].No=false∧waits s.Locks s.Tasks[i].No=false:=by
  rw[Bool.not_eq_true,Bool.or_eq_false_iff]at h1;exact h1
 have hm:=List.getElem_mem hi;have ht:=h.tasks.each _ hm;have hno:=ht.no;have hown: ∀k∈s.Locks,k.Owner≠s.Tasks[i].No:=fun k hk e=>by
  have:=h1.1;unfold C2 at this;rw[Bool.and_eq_false_iff]at this;rcases this with q|q
  · have:s.Tasks[i].No=0:=by simpa using q
    omega
  · rw[List.any_eq_false]at q
    exact q k hk (decide_eq_true e)
 have hwt: ∀k∈s.Locks,s.Tasks[i].No∉k.Waits:=Pc.1 (by
  have:=h1.2;unfold waits at this;exact Option.isNone_iff_eq_none.1 (by simpa using this))
 have hts:=tW h.tasks i;have hl: ∀k∈s.Locks,B8 (s.Tasks.eraseIdx i) k=true:=fun k hk=>by
  refine RS h.tasks hts (h.locks.2.2 k hk) fun t htm hy=> ?_
  have:=(KY hi).mem_iff.1 htm;rcases List.mem_cons.1 this with rfl|hin
  · rcases hy with e|e
    ·exact absurd e.symm (hown k hk)
    ·exact absurd e (hwt k hk)
  ·exact⟨t,hin,rfl,rfl⟩
 have hc: ∀t∈s.Tasks.eraseIdx i,t.Cpu<s.Cpus:=fun t q=>h.tcpu t ((List.eraseIdx_sublist _ _).subset q)
 split
 · rename_i h2
   split
   ·exact h
   rename_i h3;have hd:=ht.due h2.1;refine PS h _ _ _ hts hc hl ⟨by simp;omega,fun g hg=> ?_⟩ (fun cp hcp=> ?_) h.seq
   · rcases List.mem_append.1 hg with hg|hg
     ·exact h.ghosts.2 g hg
     · rw[List.mem_singleton]at hg
       subst hg;have:=h.tcpu _ hm;exact⟨⟨ht.cpu.1,by show s.Tasks[i].Cpu≤s.Cpus-1;omega⟩,hd.share,hd.due⟩
   · rw[←h.fits cp hcp]
     refine Qs ?_;have hp:=ST (KY hi) (cp:Int);rw[HA]at hp;unfold Aj;refine List.Perm.symm ((hp.append_right _).trans ?_);have eg:A3 (s.Ghosts++[⟨s.Tasks[i].Cpu,⟨s.Tasks[i].Q,s.Tasks[i].P⟩,s.Tasks[i].Due⟩]) (cp:Int)=A3 s.Ghosts (cp:Int)++(if s.Tasks[i].Cpu=(cp:Int)∧s.Tasks[i].Class=1 then[⟨s.Tasks[i].Q,s.Tasks[i].P⟩]else[]):=by
      unfold A3;rw[List.filter_append,List.map_append]
      congr 1
      by_cases q:s.Tasks[i].Cpu=(cp:Int)
      ·rw[if_pos ⟨q,h2.1⟩];simp[q]
      ·rw[if_neg (fun z=>q z.1)];simp[q]
     rw[eg,←List.append_assoc,List.append_assoc];exact List.perm_append_comm
 · refine PS h _ _ _ hts hc hl h.ghosts (fun cp hcp=> ?_) h.seq
   refine UR ?_ (h.fits cp hcp);unfold Aj Ac;exact((((List.eraseIdx_sublist s.Tasks i).filter _).map _)).append (List.Sublist.refl _)
end Go.Proofs.YthoholbeacojfaaGreat.VR
end
section
set_option linter.unusedVariables false
set_option linter.unusedSimpArgs false
namespace Go.Proofs.YthoholbeacojfaaGreat.VR
open Go
theorem MG{ts:List Task}{i:Nat}{t' u:Task}(hi:i<ts.length)(hu:u∈ts.set i t'):u=t'∨u∈ts:=(List.mem_or_eq_of_mem_set hu).symm
theorem tX{ts:List Task}{i:Nat}{t':Task}(h:TasksOk ts)(hi:i<ts.length)(hn:t'.No=ts[i].No)(hk:TaskOk t'):TasksOk (ts.set i t'):=by
 refine⟨fun u hu=> ?_,?_,by rw[List.length_set];exact h.len⟩
 · rcases MG hi hu with rfl|hu
   ·exact hk
   ·exact h.each u hu
 · have:=h.sorted
   rw[←List.pairwise_map (f:=fun t:Task=>t.No) (R:=fun x y:Int=>x<y)]at this⊢
   rw[List.map_set,hn];have e:(ts.map fun t:Task=>t.No).set i ts[i].No=ts.map fun t:Task=>t.No:=by
    have:ts[i].No=(ts.map fun t:Task=>t.No)[i]'(by simpa using hi):=by simp
    rw[this,List.set_getElem_self]
   rw[e];exact this
theorem dj{ts:List Task}{i:Nat}{t' u:Task}(h:TasksOk ts)(hi:i<ts.length)(hu:u∈ts)(hne:u.No≠ts[i].No):u∈ts.set i t':=by
 obtain⟨j,hj,rfl⟩:=List.getElem_of_mem hu;have e:i≠j:=fun e=>by subst e;exact hne rfl
 have:(ts.set i t')[j]'(by rw[List.length_set];exact hj)=ts[j]:=List.getElem_set_ne e _
 rw[←this];exact List.getElem_mem _
theorem sD{ts:List Task}{i:Nat}{t':Task}(hi:i<ts.length)(cpu:Int)(h:(t'.Cpu=ts[i].Cpu∧t'.Class=ts[i].Class∧t'.Q=ts[i].Q∧t'.P=ts[i].P)∨(t'.Class≠1∧ts[i].Class≠1)):Ac (ts.set i t') cpu=Ac ts cpu:=by
 have e:ts.set i t'=ts.take i++t'::ts.drop (i+1):=by rw[List.set_eq_take_append_cons_drop,if_pos hi]
 have e2:ts=ts.take i++ts[i]::ts.drop (i+1):=by rw[List.getElem_cons_drop hi,List.take_append_drop]
 have key: ∀t:Task,Ac (ts.take i++t::ts.drop (i+1)) cpu=Ac (ts.take i) cpu++Ac (t::ts.drop (i+1)) cpu:=fun t=>by unfold Ac;rw[List.filter_append,List.map_append]
 rw[e,key]
 conv=>rhs;rw[e2,key]
 congr 1
 rw[HA,HA]
 congr 1
 rcases h with⟨h1,h2,h3,h4⟩|⟨h1,h2⟩
 ·rw[h1,h2,h3,h4]
 ·rw[if_neg (fun q=>h1 q.2),if_neg (fun q=>h2 q.2)]
theorem MH{s:Sys}{i:Nat}{t':Task}(h:SysOk s)(hi:i<s.Tasks.length)(hn:t'.No=s.Tasks[i].No)(hk:TaskOk t')(hc:t'.Cpu<s.Cpus)
 (hl:t'.Cpu=s.Tasks[i].Cpu∨ ∀k∈s.Locks,s.Tasks[i].No≠k.Owner∧s.Tasks[i].No∉k.Waits)
 (hs:(t'.Cpu=s.Tasks[i].Cpu∧t'.Class=s.Tasks[i].Class∧t'.Q=s.Tasks[i].Q∧t'.P=s.Tasks[i].P)∨(t'.Class≠1∧s.Tasks[i].Class≠1)):SysOk {s with Tasks:=s.Tasks.set i t'}:=by
 have ht:=tX h.tasks hi hn hk;refine PS h _ s.Ghosts s.Seq ht (fun t q=> ?_) (fun k hk2=> ?_) h.ghosts (fun cp hcp=> ?_) h.seq
 · rcases MG hi q with rfl|q
   ·exact hc
   ·exact h.tcpu t q
 · refine RS h.tasks ht (h.locks.2.2 k hk2) fun t htm hy=> ?_
   by_cases e:t.No=s.Tasks[i].No
   · have:t'∈s.Tasks.set i t':=List.mem_set hi _
     rcases hl with hl|hl
     · obtain⟨_,_,q⟩:=PU h.tasks t s.Tasks[i] htm (List.getElem_mem hi)
       rcases q with q|q
       ·exact⟨t',this,hn.trans e.symm,by rw[hl,q]⟩
       ·exact absurd e q
     · have:=hl k hk2
       rw[←e]at this;rcases hy with hy|hy
       ·exact absurd hy this.1
       ·exact absurd hy this.2
   ·exact⟨t,dj h.tasks hi htm e,rfl,rfl⟩
 ·rw[sD hi _ hs];exact h.fits cp hcp
theorem RU{s:Sys}{i:Nat}{k:Lock}(h:SysOk s)(hi:i<s.Locks.length)(hl:LocksOk (s.Locks.set i k))(hk:B8 s.Tasks k=true):SysOk {s with Locks:=s.Locks.set i k}:=
 ⟨h.now,h.cpus,h.tasks,h.tcpu,⟨by rw[List.length_set];exact h.locks.1,hl,fun k' hk'=>by
  rcases List.mem_or_eq_of_mem_set hk' with q|rfl
  ·exact h.locks.2.2 k' q
  ·exact hk⟩,h.ghosts,h.fits,h.flen,h.floors,h.seq,h.missed,h.trace⟩
theorem Tp{l l':List Lock}(h: ∀x,next l' x=next l x): ∀(k:Nat) (x:Int),Ao l' k x=Ao l k x
 |0,x=>rfl
 |k+1,x=>by
  rw[Di,Di,h x];cases next l x with
  |none=>rfl
  |some o=>simp only;rw[Tp h k o]
theorem Y0{ls:List Lock}{i:Nat}{no:Int}(h:LocksOk ls)(hi:i<ls.length)(h1:1≤no∧no≤1000)(h0:ls[i].Owner=0):LocksOk (ls.set i ⟨no,ls[i].Waits⟩):=by
 have hw:ls[i].Waits=[]:=(h.own _ (List.getElem_mem hi)).2 h0;obtain⟨e1,e2⟩:=S5 hi ⟨no,ls[i].Waits⟩;have e:AT (ls.set i ⟨no,ls[i].Waits⟩)=AT ls:=by rw[e1,e2]
 have hnd:(AT (ls.set i ⟨no,ls[i].Waits⟩)).Nodup:=by rw[e];exact h.nodup
 have hx: ∀x,next (ls.set i ⟨no,ls[i].Waits⟩) x=next ls x:=by
  intro x
  by_cases hin:x∈AT ls
  · obtain⟨k,hk,hxk⟩:=EJ.1 hin
    obtain⟨j,hj,rfl⟩:=List.getElem_of_mem hk;have ne:i≠j:=fun q=>by subst q;rw[hw]at hxk;cases hxk
    have hj':j<(ls.set i ⟨no,ls[i].Waits⟩).length:=by rw[List.length_set];exact hj
    rw[FH h.nodup hj hxk,FH hnd hj' (by rw[List.getElem_set_ne ne];exact hxk),List.getElem_set_ne ne]
  ·rw[ID.2 fun k hk q=>hin (EJ.2 ⟨k,hk,q⟩),ID.2 fun k hk q=>hin (by rw[←e];exact EJ.2 ⟨k,hk,q⟩)]
 refine⟨by rw[List.length_set];exact h.len,fun k hk=> ?_,by rw[e];exact h.nos,hnd,fun x hxx=> ?_⟩
 · rcases List.mem_or_eq_of_mem_set hk with hk|rfl
   ·exact h.own k hk
   ·exact⟨by show 0≤no∧no≤1000;omega,fun _=>hw⟩
 · rw[e]at hxx
   obtain⟨c,hc⟩:=Option.isSome_iff_exists.1 (h.ends x hxx);have:Ao (ls.set i ⟨no,ls[i].Waits⟩) (ls.length+1) x=some c:=by rw[Tp hx];exact hc
   rw[Im this];rfl
theorem dV{ts:List Task}{k:Lock}{nx:Int}(h:B8 ts k=true)(h0:k.Owner≠0)(hx:(k.Waits=[]∧nx=0)∨nx∈k.Waits):B8 ts ⟨nx,k.Waits.filter fun y=>decide (y≠nx)⟩=true:=by
 unfold B8 at h⊢;rw[decide_eq_false h0,Bool.false_or,Bool.and_eq_true,List.all_eq_true]at h;rcases hx with⟨_,rfl⟩|hx
 ·simp
 · have a:=h.2 nx hx
   rw[Bool.and_eq_true,decide_eq_true_eq]at a;rw[Bool.or_eq_true,Bool.and_eq_true,List.all_eq_true];refine .inr ⟨a.1,fun y hy=> ?_⟩
   have b:=h.2 y (List.mem_filter.1 hy).1;rw[Bool.and_eq_true,decide_eq_true_eq]at b⊢;exact⟨b.1,by rw[b.2];exact a.2.symm⟩
theorem dW{s:Sys}{c:Call}{t:Task}(h:SysOk s)(ht:t∈s.Tasks)(hk:c.Kind=7∨c.Kind=8):SysOk (Ce s c t).1:=by
 have hno:=(h.tasks.each t ht).no;unfold Ce;split
 ·exact h
 rename_i hA;have hA:=Decidable.not_not.1 hA;have hi:c.A.toNat<s.Locks.length:=by have:=h.locks.1;omega
 have hm:=List.getElem_mem hi;have hkl:=h.locks.2.2 _ hm;have hkw:=(h.locks.2.1.own _ hm).2;rw[Af hi];split
 ·exact h
 rename_i h1;have hwn:BS s.Locks t.No=none:=by
  have:waits s.Locks t.No=false:=by
   cases e:waits s.Locks t.No with
   |false=>rfl
   |true=>exact absurd (.inr (.inl e)) h1
  unfold waits at this;exact Option.isNone_iff_eq_none.1 (by simpa using this)
 split
 · rename_i k8
   have ho:s.Locks[c.A.toNat].Owner=t.No:=by
    by_cases q:s.Locks[c.A.toNat].Owner=t.No
    ·exact q
    ·exact absurd (.inr (.inr ⟨fun z=>absurd z q,fun z=>by omega⟩)) h1
   have hb:=Pu h.tasks (RT hkl hkw);have hf:=bu h.locks.2.1 hi hb;unfold Ff at hf⊢;rw[Af hi]at hf⊢;exact RU h hi hf (dV hkl (by omega) hb)
 · rename_i k8
   have ho:s.Locks[c.A.toNat].Owner≠t.No:=fun q=>h1 (.inr (.inr ⟨fun _=>by omega,fun _=>q⟩))
   split
   ·exact h
   rename_i hsc;split
   ·exact h
   rename_i ha;have hti:=Rh h.tasks ht;unfold DR at ha⊢;rw[Af hi]at ha⊢
   by_cases hz:s.Locks[c.A.toNat].Owner=0
   · rw[if_pos hz]
     refine RU h hi (Y0 h.locks.2.1 hi hno hz) ?_;unfold B8;rw[hkw hz];simp[hti.1]
   · rw[if_neg hz]at ha⊢
     obtain⟨c0,hc0⟩:=F9 h.locks.2.1 s.Locks[c.A.toNat].Owner;rw[hc0]at ha⊢;simp only at ha⊢
     by_cases hin:t.No∈s.Locks[c.A.toNat].Owner::c0
     ·rw[if_pos hin]at ha;exact absurd rfl ha
     · rw[if_neg hin]
       refine RU h hi (TW h.locks.2.1 hi hno hwn hz hc0 hin) ?_;have hs2:Fz s c.A t.No=true:=by simpa using hsc
       unfold Fz at hs2;obtain⟨i,hil,e1,e2⟩:=Cq h.tasks ht;rw[e2]at hs2;simp only at hs2;rw[if_pos (by have:=h.locks.1;omega),Af hi,if_neg hz]at hs2
       unfold B8 at hkl⊢;rw[decide_eq_false hz,Bool.false_or,Bool.and_eq_true,List.all_eq_true]at hkl;rw[decide_eq_false hz,Bool.false_or,Bool.and_eq_true,List.all_eq_true];refine⟨hkl.1,fun y hy=> ?_⟩
       rcases List.mem_append.1 hy with hy|hy
       ·exact hkl.2 y hy
       · rw[List.mem_singleton]at hy
         subst hy;rw[Bool.and_eq_true,decide_eq_true_eq];refine⟨hti.1,?_⟩;rw[hti.2];obtain⟨j,hj⟩:=Option.isSome_iff_exists.1 hkl.1;rw[hj]at hs2;rw[KG hj];have:=of_decide_eq_true hs2;rw[this,Af hil,e1]
theorem bi{s:Sys}{c:Call}{i:Nat}(h:SysOk s)(hi:i<s.Tasks.length):SysOk (Cz s c i s.Tasks[i]).1:=by
 have hm:=List.getElem_mem hi;have ht:=h.tasks.each _ hm;unfold Cz;split
 ·exact h
 rename_i h3;have h3:s.Tasks[i].Class=3:=Decidable.not_not.1 h3;have hf:=ht.fair h3;split
 · split
   · rename_i hN
     exact MH h hi rfl ⟨ht.no,ht.cpu,ht.state,.inr (.inr ⟨h3,hN,hf.v,hf.z⟩)⟩ (show s.Tasks[i].Cpu<s.Cpus from h.tcpu _ hm) (.inl rfl) (.inl ⟨rfl,rfl,rfl,rfl⟩)
   ·exact h
 split
 ·exact h
 rename_i h1;have h1:C2 s.Locks s.Tasks[i].No=false∧waits s.Locks s.Tasks[i].No=false:=by
  rw[Bool.not_eq_true,Bool.or_eq_false_iff]at h1;exact h1
 split
 ·exact h
 rename_i hc;have hc:=Decidable.not_not.1 hc;have hcp:=h.cpus;have hown: ∀k∈s.Locks,s.Tasks[i].No≠k.Owner∧s.Tasks[i].No∉k.Waits:=fun k hk=>by
  refine⟨fun e=> ?_,Pc.1 (by
   have:=h1.2;unfold waits at this;exact Option.isNone_iff_eq_none.1 (by simpa using this)) k hk⟩
  have:=h1.1;unfold C2 at this;rw[Bool.and_eq_false_iff]at this;rcases this with q|q
  · have q0:s.Tasks[i].No=0:=by simpa using q
    have:=ht.no;omega
  · rw[List.any_eq_false]at q
    exact q k hk (decide_eq_true e.symm)
 unfold ET;split
 · rename_i q
   obtain⟨q1,q2,q3,q4,q5⟩:=q;exact MH h hi rfl ⟨ht.no,q2,ht.state,.inr (.inr ⟨h3,hf.nice,⟨by show 0≤_+_;omega,q5⟩,hf.z⟩)⟩ (by show c.Cpu<s.Cpus;omega) (.inr hown) (.inr ⟨by show s.Tasks[i].Class≠1;omega,by omega⟩)
 ·exact MH h hi rfl ht (show s.Tasks[i].Cpu<s.Cpus from h.tcpu _ hm) (.inl rfl) (.inl ⟨rfl,rfl,rfl,rfl⟩)
theorem Yn{t:Task}{x:Int}(h:TaskOk t)(hx:x=1∨x=2):TaskOk {t with State:=x}:=⟨h.no,h.cpu,hx,by
 rcases h.cls with h|h|h
 ·exact .inl ⟨h.cls,h.share,h.left,h.due,h.z⟩
 ·exact .inr (.inl ⟨h.cls,h.prio,h.round,h.left,h.seq,h.z⟩)
 ·exact .inr (.inr ⟨h.cls,h.nice,h.v,h.z⟩)⟩
theorem tV{s:Sys}{c:Call}{i:Nat}(h:SysOk s)(hi:i<s.Tasks.length):SysOk (Cu s c i s.Tasks[i]).1:=by
 have hm:=List.getElem_mem hi;have ht:=h.tasks.each _ hm;unfold Cu;split
 · split
   ·exact h
   ·exact MH h hi rfl (Yn ht (.inr rfl)) (show s.Tasks[i].Cpu<s.Cpus from h.tcpu _ hm) (.inl rfl) (.inl ⟨rfl,rfl,rfl,rfl⟩)
 split
 · split
   ·exact h
   ·exact MH h hi rfl (Yn ht (.inl rfl)) (show s.Tasks[i].Cpu<s.Cpus from h.tcpu _ hm) (.inl rfl) (.inl ⟨rfl,rfl,rfl,rfl⟩)
 split
 ·exact bU h hi
 split
 ·rename_i k;exact dW h hm k
 ·exact bi h hi
theorem ZO: ∀(m:Nat) (s:Sys) (k:Nat),SysOk s→SysOk (BC m s k).1
 |0,s,k,h=>h
 |m+1,s,k,h=>by
  unfold BC;split
  ·rename_i hc;exact ZO m (Av s) (k+1) (IR h hc)
  ·exact h
theorem aM{s:Sys}(c:Call)(h:SysOk s):SysOk (Bb s c).1:=by
 unfold Bb;split
 · unfold EH
   split
   · split
     ·exact h
     ·exact ZO _ _ _ h
   ·exact h
 split
 ·rename_i k;exact dg h k
 · cases e:AR s.Tasks c.No with
   |none=>exact h
   |some i=>
    obtain⟨hi,_⟩:=Bj e;simp only;rw[Af hi];exact tV h hi
theorem IP{s:Sys}(c:Call)(h:SysOk s)(hc:BY c=true):SysOk (Ad s c).1:=by
 unfold Ad;rw[if_pos ⟨h,hc⟩];exact aM c h
end Go.Proofs.YthoholbeacojfaaGreat.VR
end
section
set_option linter.unusedVariables false
set_option linter.unusedSimpArgs false
namespace Go.Proofs.YthoholbeacojfaaGreat.VR
open Go
structure Bd(s:Sys):Prop where
 tasks:s.Tasks.length≤20
 locks:s.Locks.length≤5
 waits:(AT s.Locks).length≤3000
 ghosts:s.Ghosts.length≤20
 floors:s.Floors.length≤4
 trace:s.Trace.length≤400
theorem Bd.b{s:Sys}(h:Bd s):SysB s:=by
 have h1:=h.tasks;have h2:=h.locks;have h3:=h.waits;have h4:=h.ghosts;have h5:=h.floors;have h6:=h.trace;have hb:(3000:Nat)≤big:=by unfold big;omega
 exact⟨⟨by omega,⟨by omega,by omega⟩⟩,⟨by omega,by omega,fun k hk=>by have:=Dd hk;omega,by omega,by omega,by omega⟩⟩
theorem SysOk.bd{s:Sys}(h:SysOk s):(s.Tasks.length≤12∧s.Ghosts.length≤12∧(AT s.Locks).length≤1000)∧Bd s:=by
 have h1:=h.tasks.len;have h2:=h.locks.1;have h3:=Pe h.locks.2.1;have h4:=h.ghosts.1;have h5:=h.flen;have h6:=h.cpus;have h7:=h.trace;exact⟨⟨h1,h4,h3⟩,⟨by omega,by omega,by omega,by omega,by omega,h7⟩⟩
theorem S4(k:Lock): ∀(l:List Lock) (i:Nat),(AT (l.set i k)).length≤(AT l).length+k.Waits.length
 | [],i=>by simp[AT]
 |x::l,0=>by simp only[List.set_cons_zero,AT,List.flatMap_cons,List.length_append];omega
 |x::l,i+1=>by
  have:=S4 k l i;simp only[List.set_cons_succ,AT,List.flatMap_cons,List.length_append]at this⊢;omega
end Go.Proofs.YthoholbeacojfaaGreat.VR
end
section
set_option linter.unusedVariables false
set_option linter.unusedSimpArgs false
namespace Go.Proofs.YthoholbeacojfaaGreat.VR
open Go
theorem Si(t:Task)(seq:Int):(CM (BZ (Ba t seq).1)).Idle=t.Idle:=by
 have h1: ∀t:Task,(CM t).Idle=t.Idle:=fun t=>by unfold CM Cw;(repeat' split)<;>rfl
 have h2: ∀t:Task,(BZ t).Idle=t.Idle:=fun t=>by unfold BZ;split<;>rfl
 have h3:(Ba t seq).1.Idle=t.Idle:=by unfold Ba;(repeat' split)<;>rfl
 rw[h1,h2,h3]
def Ee(ls:List Lock)(x:Turns)(cpu:Int):Turn:=match Ai (Ag x.ts ls cpu)with
 |none=>⟨cpu,0,0⟩
 |some t=>⟨cpu,t.No,BH x.ts ls t.No⟩
theorem uP(ls:List Lock)(x:Turns)(cpu:Int):(Bk ls x cpu).tr=x.tr++[Ee ls x cpu]:=by
 unfold Bk Ee;cases Ai (Ag x.ts ls cpu)<;>rfl
theorem P2{ts:List Task}{ls:List Lock}{no:Int}(h:BQ ts ls no=true):BX ts ls no=true:=by
 unfold BQ Dh at h;simp only[Bool.and_eq_true]at h;exact h.2.1
structure TurnsOf(ls:List Lock)(ts:List Task)(us:List Turn)(ts':List Task):Prop where
 keeps:KeepsL ts ts'
 cpu: ∀j (h:j<us.length),us[j].Cpu=(j:Int)
 who: ∀u∈us,(u.Context=0∧u.Executor=0)∨(BX ts ls u.Context=true∧u.Executor=BH ts ls u.Context∧ ∃t∈ts,t.No=u.Context∧t.Cpu=u.Cpu)
 idle: ∀i (h:i<ts.length) (h':i<ts'.length),ts'[i].Idle=ts[i].Idle
 rest: ∀i (h:i<ts.length) (h':i<ts'.length),(∀u∈us,u.Context≠ts[i].No)→ts'[i]=ts[i]
theorem ZT(ls:List Lock)(x:Turns)(h:TasksOk x.ts): ∀k:Nat,∃us:List Turn,us.length=k∧(BG ls x k).tr=x.tr++us∧TurnsOf ls x.ts us (BG ls x k).ts
 |0=>⟨[],rfl,by simp[BG],⟨KeepsL.refl _,fun j h=>by simp at h,fun u hu=>(by simp at hu),fun i _ _=>rfl,fun i _ _ _=>rfl⟩⟩
 |k+1=>by
  obtain⟨us,hl,htr,hk⟩:=ZT ls x h k;rw[HF];have hkk:=hk.keeps;generalize BG ls x k=y at htr hk hkk;have hy:=hkk.tasksOk h;refine⟨us++[Ee ls y (k:Int)],by simp[hl],by rw[uP,htr,List.append_assoc],?_⟩
  have hcpu:(Ee ls y (k:Int)).Cpu=(k:Int):=by unfold Ee;split<;>rfl
  have hcp: ∀j (h:j<(us++[Ee ls y (k:Int)]).length),(us++[Ee ls y (k:Int)])[j].Cpu=(j:Int):=fun j hj=>by
   by_cases hjk:j<us.length
   ·rw[List.getElem_append_left hjk];exact hk.cpu j hjk
   · have:j=us.length:=by simp at hj;omega
     subst this;rw[List.getElem_append_right (Nat.le_refl _)];simp only[Nat.sub_self,List.getElem_cons_zero,hcpu,hl]
  have hkeep:=hkk.trans (Sy ls y (k:Int) hy);cases e:Ai (Ag y.ts ls (k:Int))with
  |none=>
   have e1:Ee ls y (k:Int)=⟨k,0,0⟩:=by unfold Ee;rw[e]
   have e2:(Bk ls y (k:Int)).ts=y.ts:=by unfold Bk;rw[e]
   refine⟨hkeep,hcp,fun u hu=> ?_,?_,?_⟩
   · rcases List.mem_append.1 hu with hu|hu
     ·exact hk.who u hu
     ·rw[List.mem_singleton.1 hu,e1];exact .inl ⟨rfl,rfl⟩
   ·rw[e2];exact hk.idle
   ·rw[e2];exact fun i a b hi=>hk.rest i a b fun u hu=>hi u (List.mem_append_left _ hu)
  |some t=>
   have hm:=List.mem_filter.1 (HK e);have e1:Ee ls y (k:Int)=⟨k,t.No,BH y.ts ls t.No⟩:=by unfold Ee;rw[e]
   obtain⟨i,hi,hit,hix⟩:=Cq hy hm.1;have e2:(Bk ls y (k:Int)).ts=y.ts.set i (CM (BZ (Ba t (y.seq+1)).1)):=by unfold Bk;rw[e];simp only[hix,Option.getD_some]
   simp only[Bool.and_eq_true,decide_eq_true_eq]at hm;have hyl:=hkk.len;refine⟨hkeep,hcp,fun u hu=> ?_,?_,?_⟩
   · rcases List.mem_append.1 hu with hu|hu
     ·exact hk.who u hu
     · rw[List.mem_singleton.1 hu,e1]
       obtain⟨t0,ht0,k0⟩:=hkk.mem hm.1;exact .inr ⟨by rw[←hkk.able];exact P2 hm.2.2,hkk.executor ls _,t0,ht0,k0.no.symm,k0.cpu.symm.trans hm.2.1⟩
   · rw[e2]
     intro j a b;rw[List.getElem_set];split
     · rename_i hj
       subst hj;rw[Si,←hit];exact hk.idle i a hi
     ·exact hk.idle j a (by rw[hyl];exact a)
   · rw[e2]
     intro j a b hj;rw[List.getElem_set];split
     · rename_i hji
       subst hji;refine absurd ?_ (hj _ (List.mem_append_right _ (List.mem_singleton.2 rfl)));rw[e1];have:=(hkk.at_ i a).no;rw[hit]at this;exact this
     ·exact hk.rest j a (by rw[hyl];exact a) fun u hu=>hj u (List.mem_append_left _ hu)
structure Woken(ls:List Lock)(ts ts':List Task):Prop where
 idle: ∀i (h:i<ts.length) (h':i<ts'.length),ts'[i].Idle= !BX ts ls ts[i].No
 fair: ∀i (h:i<ts.length) (h':i<ts'.length),ts[i].Class=3→ts[i].Idle=false→ts'[i].V=ts[i].V
 fixed: ∀i (h:i<ts.length) (h':i<ts'.length),ts[i].Class=2→ts'[i]={ts[i]with Idle:=ts'[i].Idle}
theorem pN{s:Sys}(h:s.Now<100000):KeepsL s.Tasks (F3 s):=KeepsL.map _ fun t _=>G7 h
theorem SM{now:Int}{t:Task}(h:t.Class≠1):B9 now t=t:=by
 unfold B9;rw[if_neg fun x=>h x.1]
theorem ub(ts:List Task)(ls:List Lock)(fs:List Int)(now:Int)(t:Task):(B4 ts ls fs now t).Idle= !BX ts ls t.No:=by
 have h1: ∀(t:Task) (f:Int),(CF t f).Idle=t.Idle:=fun t f=>by unfold CF Cw;(repeat' split)<;>rfl
 have h2: ∀(t:Task) (f:Int),(CD t f).Idle=t.Idle:=fun t f=>by unfold CD;(repeat' split)<;>rfl
 unfold B4;cases hb:BX ts ls t.No with
 |true=>
  rw[if_pos rfl];cases hi:t.Idle with
  |true=>rw[if_pos rfl,h1,h2];rfl
  |false=>rw[if_neg (by simp),hi];rfl
 |false=>rw[if_neg (by simp)];rfl
theorem S7{s:Sys}(h:s.Now<100000):Woken s.Locks s.Tasks (AF s):=by
 have hr:=pN h;have hat: ∀i (h:i<s.Tasks.length) (h':i<(AF s).length),(AF s)[i]=B4 (F3 s) s.Locks s.Floors s.Now (B9 s.Now s.Tasks[i]):=fun i a b=>by
  simp only[AF,F3,List.getElem_map]
 refine⟨fun i a b=> ?_,fun i a b hc hi=> ?_,fun i a b hc=> ?_⟩
 ·rw[hat i a b,ub,hr.able,(G7 h).no]
 · rw[hat i a b,SM (by omega)]
   unfold B4;split
   ·rw[hi];rfl
   ·rfl
 · rw[hat i a b,SM (by omega)]
   unfold B4;split
   · split
     · have e1:CD {s.Tasks[i]with Idle:=false} s.Now={s.Tasks[i]with Idle:=false}:=by
        unfold CD;rw[if_neg];intro x;have:=x.1.2;simp only at this;omega
       have e2: ∀f,CF {s.Tasks[i]with Idle:=false} f={s.Tasks[i]with Idle:=false}:=fun f=>by
        unfold CF;rw[if_neg];intro x;have:=((C9 _).1 x).2;simp only at this;omega
       rw[e1,e2]
     ·rfl
   ·rfl
end Go.Proofs.YthoholbeacojfaaGreat.VR
end
section
set_option linter.unusedVariables false
set_option linter.unusedSimpArgs false
namespace Go.Proofs.YthoholbeacojfaaGreat.VR
open Go
theorem Vq{s:Sys}(h:SysOk s){no o:Int}(hn:next s.Locks no=some o):(AR s.Tasks no).isSome=true∧(AR s.Tasks o).isSome=true∧(Az s.Tasks no).Cpu=(Az s.Tasks o).Cpu:=by
 rcases G1 s.Locks no with⟨_,h2⟩|⟨i,h1,hi,h2⟩
 ·rw[h2]at hn;cases hn
 · rw[h2]at hn
   injection hn with hn
   subst hn;obtain⟨_,hw⟩:=(Pb ((Gy _).1 h.locks.2.1).2.2.2.1).1 h1;have hk:=h.locks.2.2 _ (List.getElem_mem hi);have h0:=(((Gy _).1 h.locks.2.1).2.1 _ (List.getElem_mem hi)).2;unfold B8 at hk;simp only[Bool.or_eq_true,Bool.and_eq_true,decide_eq_true_eq,List.all_eq_true]at hk;rcases hk with hk|⟨hk1,hk2⟩
   ·rw[h0 hk]at hw;cases hw
   · obtain⟨a,b⟩:=hk2 no hw
     exact⟨a,hk1,b⟩
theorem P4{s:Sys}(h:SysOk s): ∀(k:Nat) (no:Int) (c:List Int),Ao s.Locks k no=some c→ ∀x∈c,(AR s.Tasks x).isSome=true∧(Az s.Tasks x).Cpu=(Az s.Tasks no).Cpu
 |0,no,c,e,x,hx=>by cases e
 |k+1,no,c,e,x,hx=>by
  rw[Di]at e;cases hn:next s.Locks no with
  |none=>rw[hn]at e;injection e with e;subst e;cases hx
  |some o=>
   rw[hn]at e;cases hc:Ao s.Locks k o with
   |none=>simp only[hc,Option.map_none]at e;cases e
   |some c0=>
    simp only[hc,Option.map_some]at e;injection e with e
    subst e;obtain⟨_,h1,h2⟩:=Vq h hn;rcases List.mem_cons.1 hx with rfl|hx
    ·exact⟨h1,h2.symm⟩
    · have:=P4 h k o c0 hc x hx
      exact⟨this.1,this.2.trans h2.symm⟩
theorem bS{s:Sys}(h:SysOk s){no:Int}(he:BH s.Tasks s.Locks no≠0):(Az s.Tasks (BH s.Tasks s.Locks no)).Cpu=(Az s.Tasks no).Cpu:=by
 unfold BH at he⊢;cases e:BD s.Locks no with
 |none=>rw[e]at he;exact absurd rfl he
 |some c=>
  rw[e]at he;simp only at he⊢;split at he
  · rename_i ha
    rw[if_pos ha];rcases List.mem_cons.1 (On no c)with hx|hx
    ·rw[hx]
    ·exact(P4 h _ _ _ e _ hx).2
  ·exact absurd rfl he
theorem dF{s:Sys}(h:SysOk s):E0 s=true:=by
 unfold E0;rw[Bool.and_eq_true,decide_eq_true_eq,List.all_eq_true];refine⟨h,fun t ht=> ?_⟩
 unfold FU;cases hc:BQ s.Tasks s.Locks t.No with
 |false=>rfl
 |true=>
  have hm:t∈Ag s.Tasks s.Locks t.Cpu:=List.mem_filter.2 ⟨ht,by simp[hc]⟩
  cases e:Ai (Ag s.Tasks s.Locks t.Cpu)with
  |none=>rw[KS e]at hm;cases hm
  |some b=>
   have:=(HM (PU h.tasks) _ none b (fun u hu=>(List.mem_filter.1 hu).1) (fun _ hx=>by cases hx) e).2.1 t hm
   simp[G2,this]
theorem WA{s:Sys}(h:SysOk s){cpu:Int}(h0:(pick s.Tasks s.Locks cpu).2≠0):(Az s.Tasks (pick s.Tasks s.Locks cpu).2).Cpu=cpu:=by
 unfold pick at h0⊢;cases e:Ai (Ag s.Tasks s.Locks cpu)with
 |none=>rw[e]at h0;exact absurd rfl h0
 |some t=>
  rw[e]at h0;simp only at h0⊢;have hm:=List.mem_filter.1 (HK e);rw[bS h h0,HD h.tasks hm.1];simp only[Bool.and_eq_true,decide_eq_true_eq]at hm;exact hm.2.1
theorem dE{s:Sys}(h:SysOk s):EK s:=by
 refine⟨h,fun i hi=> ?_⟩
 unfold DQ
 by_cases h0:(pick s.Tasks s.Locks (i:Int)).2=0
 ·exact .inl h0
 · refine .inr fun hm=> ?_
   unfold Cc at hm;obtain⟨c,hc,e⟩:=List.mem_map.1 hm;have hc:=List.mem_range.1 hc;have h1:=WA h h0;have h2:=WA h (cpu:=(c:Int)) (by rw[e];exact h0)
   rw[e,h1]at h2;omega
end Go.Proofs.YthoholbeacojfaaGreat.VR
end
section
set_option linter.unusedVariables false
set_option linter.unusedSimpArgs false
namespace Go.Proofs.YthoholbeacojfaaGreat.VR
open Go
def BF:Nat→Sys→Sys
 |0,s=>s
 |m+1,s=>BF m (Av s)
theorem Ok: ∀(a b:Nat) (s:Sys),BF (a+b) s=BF b (BF a s)
 |0,b,s=>by rw[Nat.zero_add];rfl
 |a+1,b,s=>by rw[Nat.add_right_comm];exact Ok a b (Av s)
theorem Hq(a:Nat)(s:Sys):BF (a+1) s=Av (BF a s):=Ok a 1 s
theorem PW: ∀(n:Nat) (s:Sys) (k:Nat),∃j,j≤n∧BC n s k=(BF j s,k+j)∧(∀i,i<j→Aw (BF i s))∧(j<n→ ¬Aw (BF j s))
 |0,s,k=>⟨0,Nat.le_refl _,rfl,fun i h=>(by omega),fun h=>(by omega)⟩
 |n+1,s,k=>by
  unfold BC
  by_cases hc:Aw s
  · rw[if_pos hc]
    obtain⟨j,h1,h2,h3,h4⟩:=PW n (Av s) (k+1);refine⟨j+1,by omega,by rw[h2,Nat.add_assoc,Nat.add_comm 1 j];rfl,fun i hi=> ?_,fun hj=>h4 (by omega)⟩
    cases i with
    |zero=>exact hc
    |succ i=>exact h3 i (by omega)
  · rw[if_neg hc]
    exact⟨0,Nat.zero_le _,rfl,fun i h=>(by omega),fun _=>hc⟩
theorem Sv: ∀(n:Nat) (s:Sys) (k:Nat),(∀i,i<n→Aw (BF i s))→BC n s k=(BF n s,k+n)
 |0,s,k,_=>rfl
 |n+1,s,k,h=>by
  unfold BC;have h0:Aw s:=h 0 (by omega)
  rw[if_pos h0,Sv n (Av s) (k+1) fun i hi=>h (i+1) (by omega),Nat.add_assoc,Nat.add_comm 1 n]
  rfl
theorem RJ: ∀(n:Nat) (s:Sys),(BF n s).Now=s.Now+n
 |0,s=>by simp[BF]
 |n+1,s=>by rw[Hq];show(BF n s).Now+1=_;rw[RJ n s];omega
theorem Fg: ∀(n:Nat) (s:Sys),SysOk s→(∀i,i<n→Aw (BF i s))→SysOk (BF n s)
 |0,s,h,_=>h
 |n+1,s,h,hc=>by rw[Hq];exact IR (Fg n s h fun i hi=>hc i (by omega)) (hc n (by omega))
theorem ZN{s:Sys}(h:SysOk s)(hc:Aw s): ∃us:List Turn,(us.length:Int)=s.Cpus∧(Av s).Trace=s.Trace++us∧TurnsOf s.Locks (AF s) us (Av s).Tasks:=by
 have hnow:s.Now<100000:=by have:=h.now;have:=hc.1;omega
 have hw:=(FS (s:=s) hnow).tasksOk h.tasks;obtain⟨us,h1,h2,h3⟩:=ZT s.Locks ⟨AF s,s.Seq,s.Trace⟩ hw s.Cpus.toNat;have:=h.cpus;exact⟨us,by omega,h2,h3⟩
theorem El{s:Sys}(h:SysOk s)(hc:Aw s):s.Now<100000:=by have:=h.now;have:=hc.1;omega
theorem Su{s:Sys}(h:SysOk s)(hc:Aw s): ∃us:List Turn,(us.length:Int)=s.Cpus∧(Av s).Trace=s.Trace++us∧(∀j (h:j<us.length),us[j].Cpu=(j:Int))∧
 (∀u∈us,(u.Context=0∧u.Executor=0)∨(BX s.Tasks s.Locks u.Context=true∧u.Executor=BH s.Tasks s.Locks u.Context∧ ∃t∈s.Tasks,t.No=u.Context∧t.Cpu=u.Cpu)):=by
 have hk:=FS (s:=s) (El h hc);obtain⟨us,h1,h2,h3⟩:=ZN h hc;refine⟨us,h1,h2,h3.cpu,fun u hu=>(h3.who u hu).imp id fun⟨a,b,t,ht,c,d⟩=> ?_⟩
 obtain⟨t0,ht0,k0⟩:=hk.mem ht;exact⟨by rw[←hk.able];exact a,by rw[←hk.executor];exact b,t0,ht0,k0.no.symm.trans c,k0.cpu.symm.trans d⟩
theorem TK{ts:List Task}{ls:List Lock}{no:Int}(h:BX ts ls no=true):BH ts ls no≠0∧(Az ts no).State=1∧(Az ts (BH ts ls no)).State=1:=by
 unfold BX at h;simp only[Bool.and_eq_true,decide_eq_true_eq]at h;exact⟨h.1.1,h.1.2,h.2⟩
theorem VK{no:Int}(h0:no≠0): ∀(n:Nat) (s:Sys),SysOk s→(∀i,i<n→Aw (BF i s))→(Az s.Tasks no).State≠1→
 ∃us:List Turn,(BF n s).Trace=s.Trace++us∧(∀u∈us,u.Context≠no∧u.Executor≠no)∧(Az (BF n s).Tasks no).State≠1
 |0,s,h,_,hs=>⟨[],by simp[BF],fun u hu=>(by cases hu),hs⟩
 |n+1,s,h,hc,hs=>by
  obtain⟨us,h1,h2,h3⟩:=VK h0 n s h (fun i hi=>hc i (by omega)) hs
  have hok:=Fg n s h fun i hi=>hc i (by omega)
  obtain⟨vs,_,g2,_,g4⟩:=Su hok (hc n (by omega))
  rw[Hq];refine⟨us++vs,by rw[g2,h1,List.append_assoc],fun u hu=> ?_,?_⟩
  · rcases List.mem_append.1 hu with hu|hu
    ·exact h2 u hu
    · rcases g4 u hu with⟨a,b⟩|⟨a,b,_⟩
      ·rw[a,b];exact⟨h0.symm,h0.symm⟩
      · obtain⟨_,q2,q3⟩:=TK a
        exact⟨fun e=>h3 (e▸q2),fun e=>by rw[←b,e]at q3;exact h3 q3⟩
  · have:=((PV (El hok (hc n (by omega))) hok.tasks).taskOf no).state
    rw[this];exact h3
end Go.Proofs.YthoholbeacojfaaGreat.VR
end
section
set_option linter.unusedVariables false
set_option linter.unusedSimpArgs false
namespace Go.Proofs.YthoholbeacojfaaGreat.VR
open Go
theorem bn{s:Sys}{i:Nat}(h:i<s.Floors.length):Bw s (i:Int)=s.Floors[i]:=by
 unfold Bw;rw[if_pos (by omega),Int.toNat_natCast,Af h]
theorem bq(s:Sys):(Av s).Floors.length=s.Floors.length:=by show(CN _ _).length=_;unfold CN;simp
structure TaskTick(s:Sys)(us:List Turn)(a b:Task):Prop where
 no:b.No=a.No
 state:b.State=a.State
 idle:b.Idle= !BX s.Tasks s.Locks a.No
 mine:(∃u∈us,u.Context=a.No)→b.Idle=false
 fair:a.Class=3→(∀u∈us,u.Context≠a.No)→a.Idle=false→b.V=a.V
 fixed:a.Class=2→(∀u∈us,u.Context≠a.No)→b={a with Idle:=b.Idle}
end Go.Proofs.YthoholbeacojfaaGreat.VR
end
section
set_option linter.unusedVariables false
set_option linter.unusedSimpArgs false
namespace Go.Proofs.YthoholbeacojfaaGreat.VR
open Go
theorem Th{s:Sys}(h:SysOk s){no:Int}{c:List Int}(hc:BD s.Locks no=some c)(hn:(AR s.Tasks no).isSome=true):((no::c).all fun x=>(AR s.Tasks x).isSome)=true:=by
 rw[List.all_eq_true];intro x hx;rcases List.mem_cons.1 hx with rfl|hx
 ·exact hn
 ·exact(P4 h _ _ _ hc x hx).1
theorem dQ{s:Sys}(h:SysOk s){i:Nat}(hi:i<s.Locks.length){w:Int}(hw:w∈s.Locks[i].Waits):BH s.Tasks s.Locks w≠w∧BH s.Tasks s.Locks w=BH s.Tasks s.Locks s.Locks[i].Owner:=by
 have hn:next s.Locks w=some s.Locks[i].Owner:=FH ((Gy _).1 h.locks.2.1).2.2.2.1 hi hw
 obtain⟨h1,h2,_⟩:=Vq h hn;obtain⟨c,hc⟩:=F9 h.locks.2.1 s.Locks[i].Owner;have hc':BD s.Locks w=some (s.Locks[i].Owner::c):=by rw[KU hn,hc];rfl
 have e1:BH s.Tasks s.Locks w=DY w (s.Locks[i].Owner::c):=by
  unfold BH;rw[hc'];simp only;rw[if_pos (Th h hc' h1)]
 have e2:BH s.Tasks s.Locks s.Locks[i].Owner=DY s.Locks[i].Owner c:=by
  unfold BH;rw[hc];simp only;rw[if_pos (Th h hc h2)]
 have e3:DY w (s.Locks[i].Owner::c)=DY s.Locks[i].Owner c:=rfl;refine⟨?_,by rw[e1,e2,e3]⟩
 rw[e1,e3];intro e;have hd:=MZ hc';have:=On s.Locks[i].Owner c;rw[e]at this;exact(List.nodup_cons.1 hd).1 this
theorem Eb{s:Sys}{c:Call}(h:SysOk s)(hc:BY c=true):Ad s c=Bb s c:=if_pos ⟨h,hc⟩
theorem dR{s:Sys}(h:SysOk s){i:Nat}(hi:i<s.Locks.length)(hd:(Ad s ⟨8,s.Locks[i].Owner,0,(i:Int),0⟩).2=0):
 ((Ad s ⟨8,s.Locks[i].Owner,0,(i:Int),0⟩).1.Locks.getD i (Kd.dflt .lock)).Owner=EL s.Tasks s.Locks[i].Waits:=by
 have no: ∀(x:Int),x≠0→ ∀{p:Prop},(s,x).2=0→p:=fun x hx p hp=>absurd hp hx
 rw[Eb h rfl]at hd⊢;unfold Bb at hd⊢;dsimp only at hd⊢;rw[if_neg (by decide),if_neg (by decide)]at hd⊢
 cases e:AR s.Tasks s.Locks[i].Owner with
 |none=>simp only[e]at hd;exact no 2 (by decide) hd
 |some j=>
  simp only[e]at hd⊢;unfold Cu Ce at hd⊢;dsimp only at hd⊢;rw[if_neg (by decide),if_neg (by decide),if_neg (by decide),if_pos (.inr rfl)]at hd⊢
  simp only[Int.toNat_natCast,Af hi,if_true]at hd⊢;split at hd
  ·exact no 2 (by decide) hd
  · rename_i h1
    rw[if_neg h1];split at hd
    ·exact no 5 (by decide) hd
    · rename_i h2
      rw[if_neg h2];simp only[Ff,rx hi,Af hi]
end Go.Proofs.YthoholbeacojfaaGreat.VR
end
section
set_option linter.unusedVariables false
set_option linter.unusedSimpArgs false
namespace Go.Proofs.YthoholbeacojfaaGreat.VR
open Go
theorem Q2{s:Sys}(h:SysOk s){i:Nat}(hi:i<s.Tasks.length):AR s.Tasks s.Tasks[i].No=some i:=KF h.tasks hi
theorem UE{ts:List Task}(h:TasksOk ts){i:Nat}(hi:i<ts.length):AR (ts.eraseIdx i) ts[i].No=none:=by
 cases e:AR (ts.eraseIdx i) ts[i].No with
 |none=>rfl
 |some j=>
  obtain⟨t,ht,e2⟩:=Up (by rw[e];rfl:(AR (ts.eraseIdx i) ts[i].No).isSome=true)
  exfalso
  have hp:=KY hi;have hd:(ts.map (·.No)).Nodup:=by
   have:=h.sorted;exact List.pairwise_map.2 (this.imp fun hab=>by omega)
  have hd2:=(hp.map (·.No)).nodup_iff.1 hd
  rw[List.map_cons,List.nodup_cons]at hd2;exact hd2.1 (List.mem_map.2 ⟨t,ht,e2⟩)
theorem b8{s:Sys}(h:SysOk s){i:Nat}(hi:i<s.Tasks.length)(hc:s.Tasks[i].Class=1):
 ((Ad s ⟨6,s.Tasks[i].No,0,0,0⟩).2≠0→C2 s.Locks s.Tasks[i].No=true∨waits s.Locks s.Tasks[i].No=true∨12≤s.Ghosts.length)∧
 ((Ad s ⟨6,s.Tasks[i].No,0,0,0⟩).2=0→AR (Ad s ⟨6,s.Tasks[i].No,0,0,0⟩).1.Tasks s.Tasks[i].No=none∧
   (Aj (Ad s ⟨6,s.Tasks[i].No,0,0,0⟩).1 s.Tasks[i].Cpu).length+(if s.Now<s.Tasks[i].Due then 0 else 1)=(Aj s s.Tasks[i].Cpu).length):=by
 have hsh:(Ac s.Tasks s.Tasks[i].Cpu).length=(Ac (s.Tasks.eraseIdx i) s.Tasks[i].Cpu).length+1:=by
  rw[(ST (KY hi) _).length_eq,HA,if_pos ⟨rfl,hc⟩];simp
 have e:Ad s ⟨6,s.Tasks[i].No,0,0,0⟩=Cl s i s.Tasks[i]:=by
  rw[Eb h rfl];unfold Bb;dsimp only;rw[if_neg (by decide),if_neg (by decide),Q2 h hi]
  unfold Cu;dsimp only;rw[if_neg (by decide),if_neg (by decide),if_pos rfl,Af hi]
 rw[e];unfold Cl;split
 · rename_i h1
   rw[Bool.or_eq_true]at h1;exact⟨fun _=>by rcases h1 with h1|h1;exact .inl h1;exact .inr (.inl h1),fun h=>absurd h (by simp)⟩
 · split
   · rename_i h2
     split
     · rename_i h3
       exact⟨fun _=>.inr (.inr h3),fun h=>absurd h (by simp)⟩
     · refine⟨fun h=>absurd rfl h,fun _=>⟨UE h.tasks hi,?_⟩⟩
       rw[if_pos h2.2];have:(Aj {s with Tasks:=s.Tasks.eraseIdx i,Ghosts:=s.Ghosts++[⟨s.Tasks[i].Cpu,⟨s.Tasks[i].Q,s.Tasks[i].P⟩,s.Tasks[i].Due⟩]} s.Tasks[i].Cpu).length=(Ac (s.Tasks.eraseIdx i) s.Tasks[i].Cpu).length+((A3 s.Ghosts s.Tasks[i].Cpu).length+1):=by
        unfold Aj A3;simp only[List.length_append,List.filter_append,List.map_append,List.filter_cons,decide_true,if_true,List.filter_nil,List.map_cons,List.map_nil,List.length_cons,List.length_nil]
       rw[this];unfold Aj;rw[List.length_append];omega
   · rename_i h2
     refine⟨fun h=>absurd rfl h,fun _=>⟨UE h.tasks hi,?_⟩⟩
     rw[if_neg fun x=>h2 ⟨hc,x⟩]
     unfold Aj;rw[List.length_append,List.length_append];show(Ac (s.Tasks.eraseIdx i) _).length+(A3 s.Ghosts _).length+1=_;omega
theorem RF{ts:List Task}{t u:Task}(h:TasksOk (insT ts t))(hu:u=t∨u∈ts): ∃j,AR (insT ts t) u.No=some j∧ ∃hj:j<(insT ts t).length,(insT ts t)[j]=u:=by
 obtain⟨j,hj,e1,e2⟩:=Cq h (I7.2 hu);exact⟨j,e2,hj,e1⟩
theorem Vh{s:Sys}{c:Call}(h:SysOk s)(hk:1≤c.Kind∧c.Kind≤3)(hd:(BP s c).2=0):
 TasksOk (insT s.Tasks (Al s c).1)∧(BP s c).1.Tasks=insT s.Tasks (Al s c).1∧(Al s c).2=true∧c.Cpu<s.Cpus∧(BP s c).1.Cpus=s.Cpus∧(BP s c).1.Now=s.Now∧(BP s c).1.Floors=s.Floors∧
 (BP s c).1.Locks=s.Locks∧(BP s c).1.Trace=s.Trace∧(c.Kind=2→(BP s c).1.Seq=s.Seq+1∧s.Seq≤900000)∧AR s.Tasks c.No=none:=by
 have no: ∀(x:Int),x≠0→ ∀{p:Prop},(s,x).2=0→p:=fun x hx p hp=>absurd hp hx
 unfold BP at hd⊢;split at hd
 ·exact no 1 (by decide) hd
 · rename_i h1
   rw[if_neg h1];have h1': ¬s.Cpus≤c.Cpu∧(Al s c).2=true:=⟨fun x=>h1 (.inl x),by cases hb:(Al s c).2 with
    |true=>rfl
    |false=>exact absurd (.inr hb) h1⟩
   split at hd
   ·exact no 3 (by decide) hd
   · rename_i h2
     rw[if_neg h2];split at hd
     ·exact no 4 (by decide) hd
     · rename_i h3
       have h3':=Decidable.not_not.1 h3;have h2':AR s.Tasks c.No=none:=by simpa using h2
       rw[if_neg h3];split at hd
       ·exact no 4 (by decide) hd
       · rename_i h4
         rw[if_neg h4];split at hd
         · rename_i h5
           rw[if_pos h5];split at hd
           ·exact no 4 (by decide) hd
           · rename_i h6
             rw[if_neg h6];exact⟨h3',rfl,h1'.2,by omega,rfl,rfl,rfl,rfl,rfl,fun _=>⟨rfl,by omega⟩,h2'⟩
         · rename_i h5
           rw[if_neg h5];exact⟨h3',rfl,h1'.2,by omega,rfl,rfl,rfl,rfl,rfl,fun x=>absurd x h5,h2'⟩
theorem dq{s:Sys}{c:Call}(h:(Al s c).2=true):(Al s c).1.State=1:=by
 have hm: ∀t:Task,(CG t).2=true→(CG t).1=t:=fun t ht=>by
  unfold CG at ht⊢;split
  ·rfl
  ·rename_i h;rw[if_neg h]at ht;cases ht
 unfold Al at h⊢;split
 · rename_i h1
   rw[if_pos h1]at h;unfold EB at h⊢;split
   ·rename_i h2;rw[if_pos h2]at h;rw[hm _ h]
   ·rename_i h2;rw[if_neg h2]at h;cases h
 · rename_i h1
   rw[if_neg h1]at h;split
   ·rename_i h2;rw[if_pos h2]at h;unfold EC at h⊢;rw[hm _ h]
   ·rename_i h2;rw[if_neg h2]at h;unfold Ea at h⊢;rw[hm _ h]
theorem RV{t:Task}:(CG t).2=true↔TaskOk t:=by
 unfold CG;split
 ·rename_i h;exact⟨fun _=>h,fun _=>rfl⟩
 ·rename_i h;exact⟨fun x=>(by cases x),fun x=>absurd x h⟩
theorem P0{s:Sys}{c:Call}(h:SysOk s)(hc:BY c=true)(hk:1≤c.Kind∧c.Kind≤3):Ad s c=BP s c:=by
 rw[Eb h hc];unfold Bb;rw[if_neg (by omega),if_pos hk]
theorem da{s:Sys}{c:Call}(h:SysOk s)(hc:BY c=true)(hk:1≤c.Kind∧c.Kind≤3)(hd:(Ad s c).2=0):(Ad (Ad s c).1 c).2=3:=by
 have hok:=IP c h hc;rw[P0 hok hc hk];rw[P0 h hc hk]at hd hok⊢;obtain⟨h1,h2,h3,h4,h5,h6,h7,h8,h9,h10,h11⟩:=Vh h hk hd;have hn:(Al (BP s c).1 c).2=true:=by
  have hf:Bw (BP s c).1 c.Cpu=Bw s c.Cpu:=by unfold Bw;rw[h7]
  unfold Al at h3⊢;rw[h6,hf];split
  ·rename_i q;rw[if_pos q]at h3;exact h3
  · rename_i q
    rw[if_neg q]at h3;split
    · rename_i q2
      rw[if_pos q2]at h3;obtain⟨g1,g2⟩:=h10 q2;rw[g1];unfold EC at h3⊢;rw[RV]at h3⊢;have hx:=h3.fixed rfl;have hsq:=h.seq;exact⟨h3.no,h3.cpu,h3.state,.inr (.inl ⟨rfl,hx.prio,hx.round,hx.left,by show 0≤s.Seq+1+1∧s.Seq+1+1≤1000000;omega,⟨rfl,rfl,rfl,rfl,rfl⟩⟩)⟩
    ·rename_i q2;rw[if_neg q2]at h3;exact h3
 have hi:(AR (BP s c).1.Tasks c.No).isSome=true:=by
  rw[h2];obtain⟨j,e,_⟩:=RF h1 (u:=(Al s c).1) (.inl rfl);rw[(Jw h3 hk).1]at e;rw[e];rfl
 generalize BP s c=r at*;unfold BP;rw[if_neg (by rw[h5,hn];simp;omega),if_pos hi]
end Go.Proofs.YthoholbeacojfaaGreat.VR
end
