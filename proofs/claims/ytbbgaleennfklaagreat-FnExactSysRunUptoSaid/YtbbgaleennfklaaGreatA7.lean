/- Small laws for the printed functions. -/
import Derived.Test.YtbbgaleennfklaaGreatA6
import Derived.IntWalk
section
set_option linter.unusedVariables false
namespace Go.Proofs.YtbbgaleennfklaaGreat.VR
open Go
theorem Ko{P:Program}{tyK:Kd→TypeId}{f:FuncId}{bs:List A}{b:Bool}(h:CL P tyK f bs (.pair .bool .one) (b,())):CL P tyK f bs .bool b:=by
 intro Rc w us hh hv;refine(h Rc w us hh hv).mono ?_;rintro e w' ⟨v,rfl,Rc',Hf,vf,h1,h2,h3,h4,rest,Hf',ht⟩;refine⟨v,rfl,Rc',Hf,vf,h1,h2,h3,h4,?_⟩;simp only[AR]at ht;obtain⟨⟨r1,r2,r3⟩,e1,ht⟩:=Option.bind_eq_some_iff.1 ht;obtain⟨⟨q1,q2,q3⟩,e2,ht⟩:=Option.bind_eq_some_iff.1 ht;simp only[Option.some.injEq,Prod.mk.injEq]at ht;obtain⟨⟨rfl,_⟩,_⟩:=ht;exact⟨r2,r3,e1⟩
theorem BA{p:Prop}[Decidable p]{α:Type}(x y:α):cond (decide p) x y=if p then x else y:=by by_cases h:p<;>simp[h]
theorem OE{x y:Bool}(h:x=true↔y=true):x=y:=Bool.eq_iff_iff.2 h
theorem AO{n:Int}(h1: -9223372036854775808≤n)(h2:n≤9223372036854775807):w64 n=n:=by
 exact IntWalk.i64_in _ ⟨h1,h2⟩
theorem Bt{β:Type}(b:Bool)(x y:β):cond b (some (x,())) (some (y,()))=some (cond b x y,()):=by cases b<;>rfl
theorem BB(b x y:Bool):(cond b x y=true)↔((b=true∧x=true)∨(b=false∧y=true)):=by cases b<;>simp
theorem CP{β:Type}(b:Bool)(x y:β):cond (!b) x y=cond b y x:=by cases b<;>rfl
theorem Be{P:Prop}[Decidable P]{x:Bool}(h:x=true↔P):(some (x,()):Option (Bool×Unit))=some (decide P,()):=by
 rw[OE (h.trans decide_eq_true_iff.symm)]
def Aa:Nat:=4611686018427387904
theorem AD{i n:Nat}(h:i<n):decide ((i:Int)<(n:Int))=true:=decide_eq_true (by omega)
theorem AP(n:Nat):decide ((n:Int)<(n:Int))=false:=decide_eq_false (by omega)
theorem AF(i:Nat):decide (0≤(i:Int))=true:=decide_eq_true (by omega)
theorem AG{i:Nat}(h:i<Aa):w64 ((i:Int)+1)=((i+1:Nat):Int):=by
 unfold Aa at h;rw[AO (by omega) (by omega)];omega
theorem AE{β:Type}{xs:List β}{i:Nat}(h:i<xs.length)(d:β):List.getD xs (Int.toNat (i:Int)) d=xs[i]:=by
 simp[List.getD_eq_getElem?_getD,List.getElem?_eq_getElem h]
theorem Ab{β:Type}{xs:List β}{i:Nat}(h:i<xs.length)(d:β):List.getD xs i d=xs[i]:=by
 simp[List.getD_eq_getElem?_getD,List.getElem?_eq_getElem h]
theorem AU{R:Type}{l:Nat→Nat→R}{len:Nat}{r:R}(Inv:Nat→Prop)(h0:Inv 0)(hend: ∀m,Inv len→l (m+1) len=r)
 (hstep: ∀m i,i<len→Inv i→(l (m+1) i=l m (i+1)∧Inv (i+1))∨l (m+1) i=r) {m:Nat} (hm:len<m):l m 0=r:=by
 have: ∀(d i m:Nat),i+d=len→d<m→Inv i→l m i=r:=by
  intro d
  induction d with
  |zero=>
   intro i m hi hm hI;obtain⟨m,rfl⟩: ∃q,m=q+1:=⟨m-1,by omega⟩
   have:i=len:=by omega
   subst this;exact hend m hI
  |succ d ih=>
   intro i m hi hm hI;obtain⟨m,rfl⟩: ∃q,m=q+1:=⟨m-1,by omega⟩
   rcases hstep m i (by omega) hI with⟨h1,h2⟩|h1
   ·rw[h1];exact ih (i+1) m (by omega) (by omega) h2
   ·exact h1
 exact this len 0 m (by omega) hm h0
theorem Di{R β:Type}{l:Nat→Int→R}{xs:List β}{p:β→Bool}{k0 k1:R}(hend: ∀m,l (m+1) (xs.length:Int)=k1)
 (hstep: ∀m (i:Nat) (h:i<xs.length),l (m+1) (i:Int)=cond (p xs[i]) (l m ((i+1:Nat):Int)) k0) {m:Nat} (hm:xs.length<m):l m 0=cond (xs.all p) k1 k0:=by
 have: ∀(d i m:Nat),i+d=xs.length→d<m→l m (i:Int)=cond ((xs.drop i).all p) k1 k0:=by
  intro d
  induction d with
  |zero=>
   intro i m hi hm;obtain⟨m,rfl⟩: ∃q,m=q+1:=⟨m-1,by omega⟩
   have:i=xs.length:=by omega
   subst this;rw[hend,List.drop_length];rfl
  |succ d ih=>
   intro i m hi hm;obtain⟨m,rfl⟩: ∃q,m=q+1:=⟨m-1,by omega⟩
   have h:i<xs.length:=by omega
   rw[hstep m i h,ih (i+1) m (by omega) (by omega),List.drop_eq_getElem_cons h,List.all_cons]
   cases p xs[i]<;>rfl
 have:=this xs.length 0 m (by omega) hm
 simpa using this
theorem CT{R β:Type}{l:Nat→Int→R}{xs:List β}{p:β→Bool}{k0:Int→R}{k1:R}(hend: ∀m,l (m+1) (xs.length:Int)=k1)
 (hstep: ∀m (i:Nat) (h:i<xs.length),l (m+1) (i:Int)=cond (p xs[i]) (k0 (i:Int)) (l m ((i+1:Nat):Int))) {m:Nat} (hm:xs.length<m):
 l m 0=match xs.findIdx? p with|some i=>k0 (i:Int)|none=>k1:=by
 have: ∀(d i m:Nat),i+d=xs.length→d<m→l m (i:Int)=match(xs.drop i).findIdx? p with|some j=>k0 ((i+j:Nat):Int)|none=>k1:=by
  intro d
  induction d with
  |zero=>
   intro i m hi hm;obtain⟨m,rfl⟩: ∃q,m=q+1:=⟨m-1,by omega⟩
   have:i=xs.length:=by omega
   subst this;rw[hend,List.drop_length];rfl
  |succ d ih=>
   intro i m hi hm;obtain⟨m,rfl⟩: ∃q,m=q+1:=⟨m-1,by omega⟩
   have h:i<xs.length:=by omega
   rw[hstep m i h,ih (i+1) m (by omega) (by omega),List.drop_eq_getElem_cons h,List.findIdx?_cons]
   cases hp:p xs[i]with
   |true=>simp
   |false=>
    simp only[cond_false,Bool.false_eq_true,if_false];cases(xs.drop (i+1)).findIdx? p with
    |none=>rfl
    |some j=>simp;congr 1;omega
 have:=this xs.length 0 m (by omega) hm
 simpa using this
theorem W5{β:Type}(p:β→Bool)(xs:List β)(i:Nat):(xs.take i).countP p≤i:=Nat.le_trans List.countP_le_length (List.length_take_le _ _)
theorem W6{β:Type}(p:β→Bool){xs:List β}{i:Nat}(h:i<xs.length):(xs.take (i+1)).countP p=(xs.take i).countP p+cond (p xs[i]) 1 0:=by
 rw[List.take_succ_eq_append_getElem h,List.countP_append,List.countP_singleton];cases p xs[i]<;>simp
theorem ZF{β γ:Type}(f:β→γ){xs:List β}{i:Nat}(h:i<xs.length):(xs.take (i+1)).map f=(xs.take i).map f++[f xs[i]]:=by
 rw[List.take_succ_eq_append_getElem h,List.map_append];rfl
theorem Ds{β:Type}(p:β→Bool){xs:List β}{i:Nat}(h:i<xs.length):(xs.take (i+1)).filter p=(xs.take i).filter p++cond (p xs[i]) [xs[i]] []:=by
 rw[List.take_succ_eq_append_getElem h,List.filter_append];cases hp:p xs[i]<;>simp[List.filter_cons,hp]
end Go.Proofs.YtbbgaleennfklaaGreat.VR
end
section
set_option linter.unusedVariables false
set_option linter.unusedSimpArgs false
namespace Go.Proofs.YtbbgaleennfklaaGreat.VR
open Go
structure Small(B:Nat)(s:Sys):Prop where
 tasks:s.Tasks.length≤B
 locks:s.Locks.length≤B
 waits: ∀x∈s.Locks,x.Waits.length≤B
 ghosts:s.Ghosts.length≤B
 floors:s.Floors.length≤B
 trace:s.Trace.length≤B
def Bf(l:List Lock)(no:Int):Option Nat:=l.findIdx? fun k=>decide (no∈k.Waits)
def next(l:List Lock)(no:Int):Option Int:=match Bf l no with
 |none=>none
 |some i=>some (l.getD i (Kd.dflt .lock)).Owner
def Ak(l:List Lock):Nat→Int→Option (List Int)
 |0,_=>none
 |k+1,no=>match next l no with
  |none=>some []
  |some o=>(Ak l k o).map (o:: ·)
theorem I5{l:List Lock}: ∀{k:Nat} {no:Int} {c:List Int},Ak l k no=some c→ ∀k',k≤k'→Ak l k' no=some c
 |0,no,c,h,k',hk=>by cases h
 |k+1,no,c,h,k',hk=>by
  obtain⟨k',rfl⟩: ∃q,k'=q+1:=⟨k'-1,by omega⟩
  unfold Ak at h⊢;cases hn:next l no with
  |none=>rw[hn]at h;exact h
  |some o=>
   rw[hn]at h;simp only at h⊢;obtain⟨c',h1,rfl⟩:=Option.map_eq_some_iff.1 h;rw[I5 h1 k' (by omega)];rfl
theorem Wz{l:List Lock}{k k':Nat}{no:Int}{c c':List Int}(h:Ak l k no=some c)(h':Ak l k' no=some c'):c=c':=by
 have h1:=I5 h (k+k') (by omega)
 have h2:=I5 h' (k+k') (by omega)
 rw[h1]at h2;exact Option.some.inj h2
theorem Q8{l:List Lock}: ∀{k:Nat} {no:Int} {c:List Int},Ak l k no=some c→ ∀(p s:List Int) (x:Int),no::c=p++x::s→Ak l k x=some s
 |0,no,c,h,p,s,x,e=>by cases h
 |k+1,no,c,h,p,s,x,e=>by
  cases p with
  |nil=>
   simp only[List.nil_append,List.cons.injEq]at e;obtain⟨rfl,rfl⟩:=e;exact h
  |cons y p=>
   simp only[List.cons_append,List.cons.injEq]at e;obtain⟨rfl,e⟩:=e;unfold Ak at h;cases hn:next l no with
   |none=>rw[hn]at h;injection h with h;subst h;cases p<;>cases e
   |some o=>
    rw[hn]at h;simp only at h;obtain⟨c',h1,rfl⟩:=Option.map_eq_some_iff.1 h;exact I5 (Q8 h1 p s x e) _ (by omega)
theorem N8{l:List Lock}: ∀{k:Nat} {no:Int} {c:List Int},Ak l k no=some c→(no::c).Nodup
 |0,no,c,h=>by cases h
 |k+1,no,c,h=>by
  have h0:=h;unfold Ak at h;cases hn:next l no with
  |none=>rw[hn]at h;injection h with h;subst h;simp
  |some o=>
   rw[hn]at h;simp only at h;obtain⟨c',h1,rfl⟩:=Option.map_eq_some_iff.1 h;refine List.nodup_cons.2 ⟨fun hm=> ?_,N8 h1⟩
   obtain⟨s1,s2,e⟩:=List.append_of_mem hm;have h2:=Q8 h0 (no::s1) s2 no (by rw[e];rfl)
   have h3:=congrArg List.length (Wz h2 h0);have h4:=congrArg List.length e;simp at h3 h4;omega
theorem M5: ∀{c L:List Int},c.Nodup→(∀x∈c,x∈L)→c.length≤L.length
 | [],L,_,_=>Nat.zero_le _
 |x::c,L,hn,hs=>by
  rw[List.nodup_cons]at hn;have hx:=hs x (List.mem_cons_self ..);have h1:=M5 (L:=L.erase x) hn.2 fun y hy=>by
   have hne:y≠x:=fun e=>hn.1 (e▸hy)
   exact(List.mem_erase_of_ne hne).2 (hs y (List.mem_cons_of_mem _ hy))
  have h2:=List.length_erase_of_mem hx;have h3:=List.length_pos_of_mem hx;simp;omega
theorem V5{l:List Lock}{no:Int}{i:Nat}(h:Bf l no=some i):i<l.length:=by
 unfold Bf at h;rw[List.findIdx?_eq_some_iff_findIdx_eq]at h;exact h.1
theorem Pc{l:List Lock}{no o:Int}(h:next l no=some o):o∈l.map (·.Owner):=by
 unfold next at h
 split at h
 ·cases h
 · rename_i i hi
   injection h with h
   have hl:=V5 hi;rw[←h,List.getD_eq_getElem?_getD,List.getElem?_eq_getElem hl];exact List.mem_map.2 ⟨_,List.getElem_mem hl,rfl⟩
theorem Q7{l:List Lock}: ∀{k:Nat} {no:Int} {c:List Int},Ak l k no=some c→ ∀x∈c,x∈l.map (·.Owner)
 |0,no,c,h=>by cases h
 |k+1,no,c,h=>by
  unfold Ak at h;cases hn:next l no with
  |none=>rw[hn]at h;injection h with h;subst h;intro x hx;cases hx
  |some o=>
   rw[hn]at h;simp only at h;obtain⟨c',h1,rfl⟩:=Option.map_eq_some_iff.1 h;intro x hx;rcases List.mem_cons.1 hx with rfl|hx
   ·exact Pc hn
   ·exact Q7 h1 x hx
theorem GB{l:List Lock}{k:Nat}{no:Int}{c:List Int}(h:Ak l k no=some c):c.length≤l.length:=by
 have:=M5 (List.nodup_cons.1 (N8 h)).2 (Q7 h);simpa using this
theorem Q6{l:List Lock}: ∀{k:Nat} {no:Int} {c:List Int},Ak l k no=some c→Ak l (c.length+1) no=some c
 |0,no,c,h=>by cases h
 |k+1,no,c,h=>by
  unfold Ak at h⊢;cases hn:next l no with
  |none=>rw[hn]at h;exact h
  |some o=>
   rw[hn]at h;simp only at h⊢;obtain⟨c',h1,rfl⟩:=Option.map_eq_some_iff.1 h;rw[List.length_cons,Q6 h1];rfl
def Ay(l:List Lock)(no:Int):Option (List Int):=Ak l (l.length+1) no
theorem Q5{l:List Lock}{k:Nat}{no:Int}{c:List Int}(h:Ak l k no=some c):Ay l no=some c:=by
 have:=GB h;exact I5 (Q6 h) _ (by omega)
theorem Wy{l:List Lock}{no:Int}(h:Ay l no=none)(k:Nat):Ak l k no=none:=by
 cases e:Ak l k no with
 |none=>rfl
 |some c=>rw[Q5 e]at h;cases h
theorem N7{l:List Lock}{no o:Int}(h:next l no=some o):Ay l no=(Ay l o).map (o:: ·):=by
 cases e:Ay l o with
 |some c=>
  have:Ak l (l.length+2) no=some (o::c):=by
   show(match next l no with|none=>some []|some o=>(Ak l (l.length+1) o).map (o:: ·))=_
   rw[h];show(Ak l (l.length+1) o).map (o:: ·)=_
   unfold Ay at e;rw[e];rfl
  rw[Q5 this];rfl
 |none=>
  have:Ak l (l.length+1) no=none:=by
   show(match next l no with|none=>some []|some o=>(Ak l l.length o).map (o:: ·))=_
   rw[h];show(Ak l l.length o).map (o:: ·)=_
   rw[Wy e];rfl
  exact this
theorem Kp{l:List Lock}{no:Int}(h:next l no=none):Ay l no=some []:=by
 show(match next l no with|none=>some []|some o=>(Ak l l.length o).map (o:: ·))=_
 rw[h]
def AT(l:List Lock):List Int:=l.flatMap (·.Waits)
structure LocksOk(l:List Lock):Prop where
 len:l.length≤5
 own: ∀k∈l,(0≤k.Owner∧k.Owner≤1000)∧(k.Owner=0→k.Waits=[])
 nos: ∀x∈AT l,1≤x∧x≤1000
 nodup:(AT l).Nodup
 ends: ∀x∈AT l,(Ay l x).isSome=true
theorem PR(l:List Lock):LocksOk l↔l.length≤5∧(∀k∈l,(0≤k.Owner∧k.Owner≤1000)∧(k.Owner=0→k.Waits=[]))∧(∀x∈AT l,1≤x∧x≤1000)∧(AT l).Nodup∧ ∀x∈AT l,(Ay l x).isSome=true:=
 ⟨fun h=>⟨h.1,h.2,h.3,h.4,h.5⟩,fun h=>⟨h.1,h.2.1,h.2.2.1,h.2.2.2.1,h.2.2.2.2⟩⟩
instance (l:List Lock):Decidable (LocksOk l):=decidable_of_iff _ (PR l).symm
def Av(s:Share):Prop:=(1≤s.P∧s.P≤40)∧1≤s.Q∧s.Q≤s.P
instance (s:Share):Decidable (Av s):=by unfold Av;infer_instance
def Bz(n:Int):Prop:= -4≤n∧n≤4
instance (n:Int):Decidable (Bz n):=by unfold Bz;infer_instance
structure DueOk(t:Task):Prop where
 cls:t.Class=1
 share:(1≤t.P∧t.P≤40)∧1≤t.Q∧t.Q≤t.P
 left:0≤t.Left∧t.Left≤t.Q
 due:0≤t.Due∧t.Due≤100040
 z:t.Prio=0∧t.Round=0∧t.Seq=0∧t.Nice=0∧t.V=0
structure FixedOk(t:Task):Prop where
 cls:t.Class=2
 prio:1≤t.Prio∧t.Prio≤20
 round:0≤t.Round∧t.Round≤10
 left:(1≤t.Left∨t.Left=0∧t.Round=0)∧t.Left≤t.Round
 seq:0≤t.Seq∧t.Seq≤1000000
 z:t.Q=0∧t.P=0∧t.Due=0∧t.Nice=0∧t.V=0
structure FairOk(t:Task):Prop where
 cls:t.Class=3
 nice: -4≤t.Nice∧t.Nice≤4
 v:0≤t.V∧t.V≤100000000
 z:t.Q=0∧t.P=0∧t.Due=0∧t.Prio=0∧t.Round=0∧t.Seq=0∧t.Left=0
structure TaskOk(t:Task):Prop where
 no:1≤t.No∧t.No≤1000
 cpu:0≤t.Cpu∧t.Cpu≤3
 state:t.State=1∨t.State=2
 cls:DueOk t∨FixedOk t∨FairOk t
theorem OB(t:Task):DueOk t↔t.Class=1∧((1≤t.P∧t.P≤40)∧1≤t.Q∧t.Q≤t.P)∧(0≤t.Left∧t.Left≤t.Q)∧(0≤t.Due∧t.Due≤100040)∧(t.Prio=0∧t.Round=0∧t.Seq=0∧t.Nice=0∧t.V=0):=
 ⟨fun h=>⟨h.1,h.2,h.3,h.4,h.5⟩,fun h=>⟨h.1,h.2.1,h.2.2.1,h.2.2.2.1,h.2.2.2.2⟩⟩
theorem Ox(t:Task):FixedOk t↔t.Class=2∧(1≤t.Prio∧t.Prio≤20)∧(0≤t.Round∧t.Round≤10)∧((1≤t.Left∨t.Left=0∧t.Round=0)∧t.Left≤t.Round)∧(0≤t.Seq∧t.Seq≤1000000)∧(t.Q=0∧t.P=0∧t.Due=0∧t.Nice=0∧t.V=0):=
 ⟨fun h=>⟨h.1,h.2,h.3,h.4,h.5,h.6⟩,fun h=>⟨h.1,h.2.1,h.2.2.1,h.2.2.2.1,h.2.2.2.2.1,h.2.2.2.2.2⟩⟩
theorem Ot(t:Task):FairOk t↔t.Class=3∧(-4≤t.Nice∧t.Nice≤4)∧(0≤t.V∧t.V≤100000000)∧(t.Q=0∧t.P=0∧t.Due=0∧t.Prio=0∧t.Round=0∧t.Seq=0∧t.Left=0):=
 ⟨fun h=>⟨h.1,h.2,h.3,h.4⟩,fun h=>⟨h.1,h.2.1,h.2.2.1,h.2.2.2⟩⟩
instance (t:Task):Decidable (DueOk t):=decidable_of_iff _ (OB t).symm
instance (t:Task):Decidable (FixedOk t):=decidable_of_iff _ (Ox t).symm
instance (t:Task):Decidable (FairOk t):=decidable_of_iff _ (Ot t).symm
theorem QR(t:Task):TaskOk t↔(1≤t.No∧t.No≤1000)∧(0≤t.Cpu∧t.Cpu≤3)∧(t.State=1∨t.State=2)∧(DueOk t∨FixedOk t∨FairOk t):=
 ⟨fun h=>⟨h.1,h.2,h.3,h.4⟩,fun h=>⟨h.1,h.2.1,h.2.2.1,h.2.2.2⟩⟩
instance (t:Task):Decidable (TaskOk t):=decidable_of_iff _ (QR t).symm
structure Before(a b:Task):Prop where
 l:TaskOk a
 r:TaskOk b
 lt:a.Class<b.Class∨a.Class=b.Class∧((a.Class=1∧(a.Due<b.Due∨a.Due=b.Due∧a.No<b.No))∨
  (a.Class=2∧(b.Prio<a.Prio∨a.Prio=b.Prio∧(a.Seq<b.Seq∨a.Seq=b.Seq∧a.No<b.No)))∨(a.Class=3∧(a.V<b.V∨a.V=b.V∧a.No<b.No)))
theorem E9(a b:Task):Before a b↔TaskOk a∧TaskOk b∧(a.Class<b.Class∨a.Class=b.Class∧((a.Class=1∧(a.Due<b.Due∨a.Due=b.Due∧a.No<b.No))∨
 (a.Class=2∧(b.Prio<a.Prio∨a.Prio=b.Prio∧(a.Seq<b.Seq∨a.Seq=b.Seq∧a.No<b.No)))∨(a.Class=3∧(a.V<b.V∨a.V=b.V∧a.No<b.No)))):=
 ⟨fun h=>⟨h.1,h.2,h.3⟩,fun h=>⟨h.1,h.2.1,h.2.2⟩⟩
instance (a b:Task):Decidable (Before a b):=decidable_of_iff _ (E9 a b).symm
theorem TaskOk.class{t:Task}(h:TaskOk t):t.Class=1∨t.Class=2∨t.Class=3:=by
 rcases h.cls with h|h|h
 ·exact .inl h.cls
 ·exact .inr (.inl h.cls)
 ·exact .inr (.inr h.cls)
def AY(ts:List Task)(no:Int):Option Nat:=ts.findIdx? fun t=>decide (t.No=no)
theorem B5{ts:List Task}{no:Int}{i:Nat}(h:AY ts no=some i): ∃hi:i<ts.length,ts[i].No=no:=by
 unfold AY at h;rw[List.findIdx?_eq_some_iff_getElem]at h;obtain⟨hi,h1,_⟩:=h;exact⟨hi,by simpa using h1⟩
structure TasksOk(ts:List Task):Prop where
 each: ∀t∈ts,TaskOk t
 sorted:ts.Pairwise fun a b=>a.No<b.No
 len:ts.length≤12
theorem QS(ts:List Task):TasksOk ts↔(∀t∈ts,TaskOk t)∧(ts.Pairwise fun a b=>a.No<b.No)∧ts.length≤12:=⟨fun h=>⟨h.1,h.2,h.3⟩,fun h=>⟨h.1,h.2.1,h.2.2⟩⟩
instance (ts:List Task):Decidable (TasksOk ts):=decidable_of_iff _ (QS ts).symm
def CY(ts:List Task)(i:Nat):Prop:= ∃h:i<ts.length,TaskOk ts[i]∧(0<i→ ∃h':i-1<ts.length,ts[i-1].No<ts[i].No)
theorem U4: ∀(ts:List Task),(∀i (h:i+1<ts.length),ts[i].No<ts[i+1].No)→ts.Pairwise fun a b=>a.No<b.No
 | [],_=>List.Pairwise.nil
 | [a],_=>List.pairwise_singleton _ _
 |a::b::ts,h=>by
  have ih:=U4 (b::ts) fun i hi=>h (i+1) (by simpa using hi)
  have hab:a.No<b.No:=h 0 (by simp)
  refine List.pairwise_cons.2 ⟨fun x hx=> ?_,ih⟩
  rcases List.mem_cons.1 hx with rfl|hx
  ·exact hab
  ·have:=(List.pairwise_cons.1 ih).1 x hx;omega
theorem In{ts:List Task}:(∀i,i<ts.length→CY ts i)↔(∀t∈ts,TaskOk t)∧ts.Pairwise fun a b=>a.No<b.No:=by
 constructor
 · intro h
   refine⟨fun t ht=> ?_,U4 ts fun i hi=> ?_⟩
   · obtain⟨i,hi,rfl⟩:=List.getElem_of_mem ht
     exact(h i hi).2.1
   · obtain⟨_,_,h2⟩:=h (i+1) hi
     obtain⟨_,h3⟩:=h2 (by omega)
     exact h3
 · rintro⟨h1,h2⟩ i hi
   refine⟨hi,h1 _ (List.getElem_mem hi),fun h0=>⟨by omega,?_⟩⟩
   exact List.pairwise_iff_getElem.1 h2 (i-1) i (by omega) hi (by omega)
instance (ts:List Task) (i:Nat):Decidable (CY ts i):=by unfold CY;infer_instance
theorem WB{i:Nat}(h:i<Aa)(h0:0<i):w64 ((i:Int)-1)=((i-1:Nat):Int):=by
 unfold Aa at h;rw[AO (by omega) (by omega)];omega
theorem Uo{ts:List Task}:(some (decide ((ts.length:Int)≤12),()):Option (Bool×Unit))=some (decide (ts.length≤12),()):=by
 congr 2;exact decide_eq_decide.2 (by omega)
def Cp(s:Sys)(cpu:Int):Int:=if 0≤cpu∧cpu≤(s.Floors.length:Int)-1 then s.Floors.getD cpu.toNat 0 else 0
theorem Rg{s:Sys}{cpu:Int}(hb:s.Floors.length≤lim):(cond (!(decide (0≤cpu∧cpu≤w64 ((s.Floors.length:Int)-1)))) (some (0,()))
 (cond ((decide (0≤cpu))&&(decide (cpu<(s.Floors.length:Int)))) (some ((List.getD s.Floors (Int.toNat cpu) (Kd.dflt .int)),())) none):Option (Int×Unit))=some (Cp s cpu,()):=by
 have:w64 ((s.Floors.length:Int)-1)=(s.Floors.length:Int)-1:=by unfold lim at hb;exact AO (by omega) (by omega)
 rw[this];unfold Cp
 by_cases h:0≤cpu∧cpu≤(s.Floors.length:Int)-1
 · have h1:cpu<(s.Floors.length:Int):=by omega
   simp only[h,decide_eq_true h,Bool.not_true,cond_false,decide_eq_true h.1,decide_eq_true h1,Bool.and_self,cond_true,if_true,and_self];rfl
 ·simp[h]
theorem AQ{n:Nat}(h:n≤lim):n<Aa:=by unfold lim at h;unfold Aa;omega
def idx:Option Nat→Int
 |some i=>(i:Int)
 |none=> -1
theorem Cq(o:Option Nat):decide (idx o<0)=o.isNone:=by
 cases o with
 |none=>rfl
 |some i=>exact decide_eq_false (by simp[idx])
theorem FP(o:Option Nat):decide (0≤idx o)=o.isSome:=by
 cases o with
 |none=>rfl
 |some i=>exact decide_eq_true (by simp[idx])
theorem Er(i:Nat):decide ((i:Int)<0)=false:=decide_eq_false (by omega)
structure LSmall(B:Nat)(l:List Lock):Prop where
 len:l.length≤B
 waits: ∀k∈l,k.Waits.length≤B
theorem Gq(l:List Lock)(no:Int):(Bf l no=none∧next l no=none)∨ ∃i,Bf l no=some i∧ ∃h:i<l.length,next l no=some l[i].Owner:=by
 unfold next
 cases e:Bf l no with
 |none=>exact .inl ⟨rfl,rfl⟩
 |some i=>
  have hi:=V5 e;refine .inr ⟨i,rfl,hi,?_⟩;simp[List.getD_eq_getElem?_getD,List.getElem?_eq_getElem hi]
theorem Dg{l:List Lock}{i:Nat}(h:i<l.length):AT (l.take (i+1))=AT (l.take i)++l[i].Waits:=by
 unfold AT;rw[List.take_succ_eq_append_getElem h,List.flatMap_append];simp
structure LBound(B:Nat)(l:List Lock):Prop where
 len:l.length≤B
 all:(AT l).length≤B
theorem F4{l:List Lock}{k:Lock}(h:k∈l):k.Waits.length≤(AT l).length:=by
 obtain⟨a,b,rfl⟩:=List.append_of_mem h;simp[AT];omega
theorem LBound.small{B:Nat}{l:List Lock}(h:LBound B l):LSmall B l:=⟨h.len,fun k hk=>Nat.le_trans (F4 hk) h.all⟩
theorem Nh{l:List Lock}(i:Nat):(AT (l.take i)).length≤(AT l).length:=by
 have:AT l=AT (l.take i)++AT (l.drop i):=by
  unfold AT;rw[←List.flatMap_append,List.take_append_drop]
 rw[this];simp
def ED(k:Lock):Prop:=(0≤k.Owner∧k.Owner≤1000)∧(k.Owner=0→k.Waits=[])
instance (k:Lock):Decidable (ED k):=by unfold ED;infer_instance
def E8(W ys:List Int):Prop:=(∀y∈ys,1≤y∧y≤1000)∧(W++ys).Nodup
instance (W ys:List Int):Decidable (E8 W ys):=by unfold E8;infer_instance
structure LPre(l:List Lock):Prop where
 own: ∀k∈l,ED k
 nos: ∀x∈AT l,1≤x∧x≤1000
 nodup:(AT l).Nodup
theorem ZD(l:List Lock):LPre l↔(∀k∈l,ED k)∧(∀x∈AT l,1≤x∧x≤1000)∧(AT l).Nodup:=⟨fun h=>⟨h.1,h.2,h.3⟩,fun h=>⟨h.1,h.2.1,h.2.2⟩⟩
instance (l:List Lock):Decidable (LPre l):=decidable_of_iff _ (ZD l).symm
theorem LPre.take{l:List Lock}(h:LPre l)(i:Nat):LPre (l.take i):=by
 have e:AT l=AT (l.take i)++AT (l.drop i):=by unfold AT;rw[←List.flatMap_append,List.take_append_drop]
 refine⟨fun k hk=>h.own k (List.mem_of_mem_take hk),fun x hx=>h.nos x (by rw[e];exact List.mem_append_left _ hx),?_⟩
 have:=h.nodup;rw[e,List.nodup_append]at this;exact this.1
theorem IY{l:List Lock}{i:Nat}(h:i<l.length):LPre (l.take (i+1))↔LPre (l.take i)∧ED l[i]∧(∀y∈l[i].Waits,1≤y∧y≤1000)∧(AT (l.take i)++l[i].Waits).Nodup:=by
 constructor
 · intro hp
   refine⟨?_,hp.own _ ?_,fun y hy=>hp.nos y ?_,?_⟩
   · have:=hp.take i
     rwa[List.take_take,Nat.min_eq_left (by omega)]at this
   ·rw[List.take_succ_eq_append_getElem h];exact List.mem_append_right _ (List.mem_singleton.2 rfl)
   ·rw[Dg h];exact List.mem_append_right _ hy
   ·rw[←Dg h];exact hp.nodup
 · rintro⟨h1,h2,h3,h4⟩
   refine⟨fun k hk=> ?_,fun x hx=> ?_,by rw[Dg h];exact h4⟩
   · rw[List.take_succ_eq_append_getElem h]at hk
     rcases List.mem_append.1 hk with hk|hk
     ·exact h1.own k hk
     ·simp at hk;subst hk;exact h2
   · rw[Dg h]at hx
     rcases List.mem_append.1 hx with hx|hx
     ·exact h1.nos x hx
     ·exact h3 x hx
def Bk(x:Int)(w:List Int):Nat:=w.countP fun y=>decide (y=x)
theorem Su{w:List Int}:w.Nodup↔ ∀x∈w,Bk x w=1:=by
 have e: ∀x,Bk x w=w.count x:=fun x=>by
  unfold Bk;rw[List.count_eq_countP];rfl
 rw[List.nodup_iff_count];constructor
 · intro h x hx
   rw[e];have:=h x;have:=List.one_le_count_iff.2 hx;omega
 · intro h a
   by_cases ha:a∈w
   ·rw[←e,h a ha];exact Nat.le_refl _
   ·rw[List.count_eq_zero_of_not_mem ha];omega
def EC(l:List Lock)(x:Int):Prop:=(1≤x∧x≤1000)∧Bk x (AT l)=1∧(Ay l x).isSome=true
instance (l:List Lock) (x:Int):Decidable (EC l x):=by unfold EC;infer_instance
structure TLB(B:Nat)(ts:List Task)(ls:List Lock):Prop where
 tasks:ts.length≤B
 locks:LBound B ls
theorem I6{l:List Lock}(h:LocksOk l)(no:Int): ∃c,Ay l no=some c:=by
 rcases Gq l no with⟨e1,e2⟩|⟨i,e1,hi,e2⟩
 ·exact⟨[],Kp e2⟩
 · unfold Bf at e1
   rw[List.findIdx?_eq_some_iff_getElem]at e1;obtain⟨hi',h1,_⟩:=e1;have:=h.ends no (List.mem_flatMap.2 ⟨l[i],List.getElem_mem hi,by simpa using h1⟩)
   exact Option.isSome_iff_exists.1 this
def EA:Int→List Int→Int
 |x,[]=>x
 |_,y::c=>EA y c
theorem ST: ∀(x:Int) (c:List Int),List.getD (x::c) c.length 0=EA x c
 |x,[]=>rfl
 |x,y::c=>by
  have:=ST y c;simp only[List.length_cons,EA];rw[←this];rfl
theorem SU: ∀(x:Int) (c:List Int),EA x c∈x::c
 |x,[]=>List.mem_cons_self ..
 |x,y::c=>List.mem_cons_of_mem _ (SU y c)
def Bu(ts:List Task)(ls:List Lock)(no:Int):Int:=match Ay ls no with
 |some c=>if(no::c).all (fun x=>(AY ts x).isSome)then EA no c else 0
 |none=>0
theorem SV(no:Int)(c:List Int)(hc:c.length+1≤lim):(cond ((decide (0≤(w64 (((no::c).length:Int)-1))))&&(decide ((w64 (((no::c).length:Int)-1))<((no::c).length:Int))))
 (some ((List.getD (no::c) (Int.toNat (w64 (((no::c).length:Int)-1))) (Kd.dflt .int)),())) none:Option (Int×Unit))=some (EA no c,()):=by
 have e:w64 (((no::c).length:Int)-1)=(c.length:Int):=by
  unfold lim at hc;rw[List.length_cons,AO (by omega) (by omega)];omega
 have h2:decide ((c.length:Int)<((no::c).length:Int))=true:=decide_eq_true (by simp;omega)
 rw[e,AF,h2,Bool.and_self,cond_true,Int.toNat_natCast];exact congrArg (fun x=>some (x,())) (ST no c)
theorem OH{ts:List Task}{ls:List Lock}{no:Int}(h:Bu ts ls no≠0):(∃i,AY ts no=some i)∧ ∃j,AY ts (Bu ts ls no)=some j:=by
 unfold Bu at h⊢;cases e:Ay ls no with
 |none=>rw[e]at h;exact absurd rfl h
 |some c=>
  rw[e]at h;simp only at h⊢;split at h
  · rename_i ha
    rw[if_pos ha];rw[List.all_eq_true]at ha;exact⟨Option.isSome_iff_exists.1 (ha no (List.mem_cons_self ..)),Option.isSome_iff_exists.1 (ha _ (SU no c))⟩
  ·exact absurd rfl h
def A6(ts:List Task)(no:Int):Task:=match AY ts no with
 |some i=>ts.getD i (Kd.dflt .task)
 |none=>Kd.dflt .task
def Bm(ts:List Task)(ls:List Lock)(no:Int):Bool:=decide (Bu ts ls no≠0)&&decide ((A6 ts no).State=1)&&decide ((A6 ts (Bu ts ls no)).State=1)
def HH(ts:List Task)(ls:List Lock)(no:Int):Bool:=Bm ts ls no&&(decide ((A6 ts no).Class≠1)||decide (0<(A6 ts no).Left))
theorem Qm{ts:List Task}{e no:Int}{i j:Nat}(hi:AY ts no=some i)(hj:AY ts e=some j):((some (idx (AY ts no),()):Option (Int×Unit)).bind fun r2=>
 cond ((decide (0≤r2.1))&&(decide (r2.1<((ts).length:Int))))
  (cond (decide ((List.getD ts (Int.toNat r2.1) (Kd.dflt .task)).State=1))
    ((some (idx (AY ts e),()):Option (Int×Unit)).bind fun r4=>
     cond ((decide (0≤r4.1))&&(decide (r4.1<((ts).length:Int))))
      (some ((decide ((List.getD ts (Int.toNat r4.1) (Kd.dflt .task)).State=1)),()))
      (none))
    (some (false,())))
  (none):Option (Bool×Unit))=some (decide ((A6 ts no).State=1)&&decide ((A6 ts e).State=1),()):=by
 obtain⟨h1,_⟩:=B5 hi;obtain⟨h2,_⟩:=B5 hj;simp only[hi,hj,idx,Option.bind_some,AF,AD h1,AD h2,Bool.and_self,cond_true,A6,Int.toNat_natCast];cases decide ((List.getD ts i (Kd.dflt .task)).State=1)<;>rfl
def Iz(ts:List Task)(ls:List Lock)(no:Int):Bool:=decide (TasksOk ts∧LocksOk ls)&&Bm ts ls no
def Bs(ts:List Task)(ls:List Lock)(no:Int):Bool:=decide (TasksOk ts∧LocksOk ls)&&HH ts ls no
theorem Q3{ts:List Task}{no:Int}{i:Nat}(hi:AY ts no=some i):((some (idx (AY ts no),()):Option (Int×Unit)).bind fun r2=>
 cond ((decide (0≤r2.1))&&(decide (r2.1<((ts).length:Int))))
  (cond (!(decide ((List.getD ts (Int.toNat r2.1) (Kd.dflt .task)).Class=1))) (some (true,())) (some ((decide (0<(List.getD ts (Int.toNat r2.1) (Kd.dflt .task)).Left)),())))
  (none):Option (Bool×Unit))=some (decide ((A6 ts no).Class≠1)||decide (0<(A6 ts no).Left),()):=by
 obtain⟨h1,_⟩:=B5 hi;simp only[hi,idx,Option.bind_some,AF,AD h1,Bool.and_self,cond_true,A6,Int.toNat_natCast]
 by_cases h2:(List.getD ts i (Kd.dflt .task)).Class=1
 ·simp only[h2,ne_eq,not_true_eq_false,decide_true,decide_false,Bool.not_true,cond_false,Bool.false_or]
 ·simp only[h2,ne_eq,not_false_eq_true,decide_true,decide_false,Bool.not_false,cond_true,Bool.true_or]
theorem Qn{ts:List Task}{ls:List Lock}{no:Int}(h:Bm ts ls no=true): ∃i,AY ts no=some i:=by
 unfold Bm at h;simp only[Bool.and_eq_true,decide_eq_true_eq]at h;exact(OH h.1.1).1
def BQ(b:Option Task)(t:Task):Option Task:=match b with
 |none=>some t
 |some b=>if Before t b then some t else some b
def Ai(l:List Task):Option Task:=l.foldl BQ none
def EB(b:Option Task):Int:=match b with
 |none=>0
 |some t=>t.No
def B6(ts:List Task)(ls:List Lock)(cpu:Int):List Task:=ts.filter fun t=>decide (t.Cpu=cpu)&&Bs ts ls t.No
def PH(b:Option Task):Task:=match b with
 |none=>⟨0,0,0,0,false,0,0,0,0,0,0,0,0,0⟩
 |some t=>t
def pick(ts:List Task)(ls:List Lock)(cpu:Int):Int×Int:=match Ai (B6 ts ls cpu)with
 |none=>(0,0)
 |some t=>(t.No,Bu ts ls t.No)
theorem FA: ∀(l:List Task) (b:Option Task) (t:Task),l.foldl BQ b=some t→t∈l∨b=some t
 | [],b,t,h=>.inr h
 |x::l,b,t,h=>by
  rcases FA l (BQ b x) t h with h|h
  ·exact .inl (List.mem_cons_of_mem _ h)
  · unfold BQ at h
    split at h
    ·injection h with h;subst h;exact .inl (List.mem_cons_self ..)
    · split at h<;>injection h with h<;>subst h
      ·exact .inl (List.mem_cons_self ..)
      ·exact .inr rfl
theorem oj{ts:List Task}{ls:List Lock}{cpu:Int}(h: ¬(TasksOk ts∧LocksOk ls)):B6 ts ls cpu=[]:=by
 unfold B6 Bs;simp[h]
def BT(ts:List Task)(b:Option Task):Int:=match b with
 |none=> -1
 |some t=>idx (AY ts t.No)
theorem Kb{ts:List Task}(h:TasksOk ts){i:Nat}(hi:i<ts.length):AY ts ts[i].No=some i:=by
 unfold AY;rw[List.findIdx?_eq_some_iff_getElem];refine⟨hi,by simp,fun j hj=> ?_⟩
 have:=List.pairwise_iff_getElem.1 h.sorted j i (by omega) hi hj
 simp;omega
theorem EY{ts:List Task}(h:TasksOk ts){t:Task}(ht:t∈ts): ∃i,∃hi:i<ts.length,ts[i]=t∧AY ts t.No=some i:=by
 obtain⟨i,hi,rfl⟩:=List.getElem_of_mem ht;exact⟨i,hi,rfl,Kb h hi⟩
theorem Rp(a b:Nat):Nat.gcd a b=Nat.gcd b (a % b):=by
 rw[Nat.gcd_comm a b,Nat.gcd_rec b a,Nat.gcd_comm]
theorem V2(a b:Nat):Int.tmod (a:Int) (b:Int)=((a % b:Nat):Int):=rfl
theorem ny(a b:Nat):Int.tdiv (a:Int) (b:Int)=((a/b:Nat):Int):=rfl
def Ca(p:Nat×Nat)(s:Share):Nat×Nat:=((p.1*s.P.toNat+s.Q.toNat*p.2)/Nat.gcd (p.1*s.P.toNat+s.Q.toNat*p.2) (p.2*s.P.toNat),(p.2*s.P.toNat)/Nat.gcd (p.1*s.P.toNat+s.Q.toNat*p.2) (p.2*s.P.toNat))
def Am(l:List Share):Nat×Nat:=l.foldl Ca (0,1)
structure SumInv(i:Nat)(p:Nat×Nat):Prop where
 le:p.1≤i*p.2
 pos:0<p.2
 hi:p.2≤40^i
theorem SumInv.step{i:Nat}{p:Nat×Nat}{s:Share}(h:SumInv i p)(hs:Av s):SumInv (i+1) (Ca p s)∧p.1*s.P.toNat+s.Q.toNat*p.2≤(i+1)*(p.2*s.P.toNat)∧0<p.2*s.P.toNat∧p.2*s.P.toNat≤40^(i+1):=by
 obtain⟨⟨p1,p2⟩,q1,q2⟩:=hs;have hP:1≤s.P.toNat∧s.P.toNat≤40:=by omega
 have hQ:s.Q.toNat≤s.P.toNat:=by omega
 have hx:p.1*s.P.toNat+s.Q.toNat*p.2≤(i+1)*(p.2*s.P.toNat):=by
  have e1:p.1*s.P.toNat≤i*p.2*s.P.toNat:=Nat.mul_le_mul_right _ h.le;have e2:s.Q.toNat*p.2≤s.P.toNat*p.2:=Nat.mul_le_mul_right _ hQ;have e3:(i+1)*(p.2*s.P.toNat)=i*p.2*s.P.toNat+s.P.toNat*p.2:=by
   rw[Nat.succ_mul,Nat.mul_assoc,Nat.mul_comm s.P.toNat]
  omega
 have hy:0<p.2*s.P.toNat:=Nat.mul_pos h.pos hP.1;have hy2:p.2*s.P.toNat≤40^(i+1):=by
  rw[Nat.pow_succ];exact Nat.mul_le_mul h.hi hP.2
 have hg:=Nat.gcd_pos_of_pos_right (p.1*s.P.toNat+s.Q.toNat*p.2) hy;have hd:Nat.gcd (p.1*s.P.toNat+s.Q.toNat*p.2) (p.2*s.P.toNat)∣p.2*s.P.toNat:=Nat.gcd_dvd_right _ _;refine⟨⟨?_,?_,?_⟩,hx,hy,hy2⟩
 · simp only[Ca]
   rw[←Nat.mul_div_assoc _ hd];exact Nat.div_le_div_right hx
 ·exact Nat.div_pos (Nat.le_of_dvd hy hd) hg
 ·exact Nat.le_trans (Nat.div_le_self _ _) hy2
theorem VQ{l:List Share}(h: ∀s∈l,Av s):SumInv l.length (Am l):=by
 have: ∀(l:List Share) (i:Nat) (p:Nat×Nat),(∀s∈l,Av s)→SumInv i p→SumInv (i+l.length) (l.foldl Ca p):=by
  intro l
  induction l with
  |nil=>intro i p _ h;exact h
  |cons s l ih=>
   intro i p hs h;have:=ih (i+1) (Ca p s) (fun t ht=>hs t (List.mem_cons_of_mem _ ht)) (h.step (hs s (List.mem_cons_self ..))).1
   rw[List.length_cons,Nat.add_comm l.length,←Nat.add_assoc];exact this
 have h0:=this l 0 (0,1) h ⟨Nat.zero_le _,Nat.one_pos,Nat.le_refl _⟩;rw[Nat.zero_add]at h0;exact h0
theorem VT{l:List Share}{i:Nat}(hi:i<l.length):Am (l.take (i+1))=Ca (Am (l.take i)) l[i]:=by
 unfold Am;rw[List.take_succ_eq_append_getElem hi,List.foldl_append];rfl
def GN:Nat:=40^8
theorem VU{i:Nat}{p:Nat×Nat}{s:Share}(h:SumInv i p)(hs:Av s)(hi:i<7):
 w64 ((p.1:Int)*s.P)=((p.1*s.P.toNat:Nat):Int)∧w64 (s.Q*(p.2:Int))=((s.Q.toNat*p.2:Nat):Int)∧w64 ((p.2:Int)*s.P)=((p.2*s.P.toNat:Nat):Int)∧
 w64 (((p.1*s.P.toNat:Nat):Int)+((s.Q.toNat*p.2:Nat):Int))=((p.1*s.P.toNat+s.Q.toNat*p.2:Nat):Int)∧
 p.1*s.P.toNat+s.Q.toNat*p.2≤4000000000000000000∧p.2*s.P.toNat≤4000000000000000000∧p.2*s.P.toNat<GN∧
 0<Nat.gcd (p.1*s.P.toNat+s.Q.toNat*p.2) (p.2*s.P.toNat):=by
 obtain⟨_,h1,h2,h3⟩:=h.step hs;obtain⟨⟨p1,p2⟩,q1,q2⟩:=hs;have h4:40^(i+1)≤40^7:=Nat.pow_le_pow_right (by omega) (by omega)
 have h5:(40:Nat)^7=163840000000:=by decide
 have h7:(40:Nat)^8=6553600000000:=by decide
 have h6:(i+1)*(p.2*s.P.toNat)≤7*(p.2*s.P.toNat):=Nat.mul_le_mul_right _ (by omega)
 have eP:s.P=(s.P.toNat:Int):=by omega
 have eQ:s.Q=(s.Q.toNat:Int):=by omega
 have b1:p.1*s.P.toNat≤4000000000000000000:=by omega
 have b2:s.Q.toNat*p.2≤4000000000000000000:=by omega
 have b3:p.2*s.P.toNat≤4000000000000000000:=by omega
 have a1:(p.1:Int)*s.P=((p.1*s.P.toNat:Nat):Int):=by rw[Int.natCast_mul,←eP]
 have a2:s.Q*(p.2:Int)=((s.Q.toNat*p.2:Nat):Int):=by rw[Int.natCast_mul,←eQ]
 have a3:(p.2:Int)*s.P=((p.2*s.P.toNat:Nat):Int):=by rw[Int.natCast_mul,←eP]
 refine⟨?_,?_,?_,?_,by omega,b3,by unfold GN;omega,Nat.gcd_pos_of_pos_right _ h2⟩
 ·rw[a1];exact AO (by omega) (by omega)
 ·rw[a2];exact AO (by omega) (by omega)
 ·rw[a3];exact AO (by omega) (by omega)
 ·rw[←Int.natCast_add];exact AO (by omega) (by omega)
theorem Kx{x g:Nat}(hx:x≤4000000000000000000):w64 (Int.tdiv (x:Int) (g:Int))=((x/g:Nat):Int):=by
 rw[ny];have:=Nat.div_le_self x g;generalize x/g=q at this;exact AO (by omega) (by omega)
def HA(l:List Share):Prop:=l.length≤7∧ ∀s∈l,Av s
instance (l:List Share):Decidable (HA l):=by unfold HA;infer_instance
def F2(l:List Share):Int×Int×Bool×Unit:=if HA l then(((Am l).1:Int),((Am l).2:Int),true,())else(0,0,false,())
def Bn(l:List Share):Bool:=decide (HA l)&&decide ((Am l).1≤(Am l).2)
theorem RZ(l:List Share):(cond (F2 l).2.2.1 (some ((decide ((F2 l).1≤(F2 l).2.1)),())) (some (false,())):Option (Bool×Unit))=some (Bn l,()):=by
 unfold F2 Bn
 by_cases h:HA l
 · rw[if_pos h,decide_eq_true h,cond_true,Bool.true_and]
   exact Be (P:=(Am l).1≤(Am l).2) (by simp)
 ·rw[if_neg h,decide_eq_false h,cond_false,Bool.false_and]
def BC(ts:List Task)(cpu:Int):List Share:=(ts.filter fun t=>decide (t.Cpu=cpu)&&decide (t.Class=1)).map fun t=>⟨t.Q,t.P⟩
def Bv(gs:List Ghost)(cpu:Int):List Share:=(gs.filter fun g=>decide (g.Cpu=cpu)).map fun g=>g.S
def BH(s:Sys)(cpu:Int):List Share:=BC s.Tasks cpu++Bv s.Ghosts cpu
theorem Ni{ts:List Task}{cpu:Int}{i:Nat}(hi:i<ts.length):BC (ts.take (i+1)) cpu=BC (ts.take i) cpu++cond (decide (ts[i].Cpu=cpu)&&decide (ts[i].Class=1)) [⟨ts[i].Q,ts[i].P⟩] []:=by
 unfold BC;rw[Ds _ hi,List.map_append];cases decide (ts[i].Cpu=cpu)&&decide (ts[i].Class=1)<;>rfl
theorem Mn{gs:List Ghost}{cpu:Int}{i:Nat}(hi:i<gs.length):Bv (gs.take (i+1)) cpu=Bv (gs.take i) cpu++cond (decide (gs[i].Cpu=cpu)) [gs[i].S] []:=by
 unfold Bv;rw[Ds _ hi,List.map_append];cases decide (gs[i].Cpu=cpu)<;>rfl
theorem E5(ts:List Task)(cpu:Int)(i:Nat):(BC (ts.take i) cpu).length≤i:=by
 unfold BC;rw[List.length_map];exact Nat.le_trans (List.length_filter_le _ _) (List.length_take_le _ _)
theorem J6(gs:List Ghost)(cpu:Int)(i:Nat):(Bv (gs.take i) cpu).length≤i:=by
 unfold Bv;rw[List.length_map];exact Nat.le_trans (List.length_filter_le _ _) (List.length_take_le _ _)
theorem NW(s:Sys)(cpu:Int):(BH s cpu).length≤s.Tasks.length+s.Ghosts.length:=by
 have h1:=E5 s.Tasks cpu s.Tasks.length;have h2:=J6 s.Ghosts cpu s.Ghosts.length;rw[List.take_length]at h1 h2;unfold BH;rw[List.length_append];omega
theorem BV{β:Type}{xs:List β}{x:β}{B:Nat}(h:xs.length<B)(hb:B≤lim):decide (xs.length+[x].length≤lim)=true:=decide_eq_true (by simp only[List.length_cons,List.length_nil];omega)
theorem RD{β:Type}(xs:List β)(p:β→Bool):((some (idx (xs.findIdx? p),()):Option (Int×Unit)).bind fun r1=>some ((decide (0≤r1.1)),()))=some (xs.any p,()):=by
 rw[Option.bind_some,FP,List.findIdx?_isSome]
theorem RY{β:Type}(xs:List β)(p:β→Bool):(match xs.findIdx? p with|some i=>some ((i:Int),())|none=>some (-1,()):Option (Int×Unit))=some (idx (xs.findIdx? p),()):=by
 cases xs.findIdx? p<;>rfl
theorem Kv{β:Type}(xs:List β)(p:β→Bool):((match xs.findIdx? p with|some i=>some ((i:Int),())|none=>some (-1,()):Option (Int×Unit)).bind fun r1=>some ((decide (0≤r1.1)),()))=some (xs.any p,()):=by
 rw[RY,RD]
theorem CU{P Q:Prop}[Decidable P][Decidable Q]{X:Option (Bool×Unit)}(hn:Q→P)(h:P→X=some (decide Q,())):cond (!decide P) (some (false,())) X=some (decide Q,()):=by
 by_cases hp:P
 ·rw[decide_eq_true hp];exact h hp
 ·rw[decide_eq_false hp,decide_eq_false (fun q=>hp (hn q))];rfl
theorem Rm{P Q:Prop}[Decidable P][Decidable Q]{X:Option (Bool×Unit)}(hn:Q→ ¬P)(h: ¬P→X=some (decide Q,())):cond (decide P) (some (false,())) X=some (decide Q,()):=by
 by_cases hp:P
 ·rw[decide_eq_true hp,decide_eq_false (fun q=>hn q hp)];rfl
 ·rw[decide_eq_false hp];exact h hp
theorem O3{b:Bool}{Q:Prop}[Decidable Q]{X:Option (Bool×Unit)}(hn:Q→b=false)(h:b=false→X=some (decide Q,())):cond b (some (false,())) X=some (decide Q,()):=by
 cases hb:b with
 |false=>exact h hb
 |true=>rw[decide_eq_false (fun q=>by rw[hn q]at hb;cases hb)];rfl
theorem Ro{P Q:Prop}[Decidable P][Decidable Q]{X:Option (Bool×Unit)}(hn:Q→P)(h:P→X=some (decide Q,())):cond (decide P) X (some (false,()))=some (decide Q,()):=by
 by_cases hp:P
 ·rw[decide_eq_true hp];exact h hp
 ·rw[decide_eq_false hp,decide_eq_false (fun q=>hp (hn q))];rfl
theorem Xh{b:Bool}{Q:Prop}[Decidable Q]{X:Option (Bool×Unit)}(hn:Q→b=false)(h:b=false→X=some (decide Q,())):cond (!b) X (some (false,()))=some (decide Q,()):=by
 cases hb:b with
 |false=>exact h hb
 |true=>rw[decide_eq_false (fun q=>by rw[hn q]at hb;cases hb)];rfl
def De(ts:List Task)(k:Lock):Bool:=decide (k.Owner=0)||((AY ts k.Owner).isSome&&k.Waits.all fun y=>(AY ts y).isSome&&decide ((A6 ts y).Cpu=(A6 ts k.Owner).Cpu))
theorem Kc{ts:List Task}{no:Int}{i:Nat}(h:AY ts no=some i):A6 ts no=ts.getD i (Kd.dflt .task):=by unfold A6;rw[h]
theorem nu{ts:List Task}{no:Int}{i:Nat}(h:AY ts no=some i):A6 ts no∈ts:=by
 rw[Kc h,Ab (B5 h).1];exact List.getElem_mem _
def EK(s:Sys):Prop:=s.Locks.length=5∧LocksOk s.Locks∧ ∀k∈s.Locks,De s.Tasks k=true
instance (s:Sys):Decidable (EK s):=by unfold EK;infer_instance
def CZ(cpus:Int)(g:Ghost):Prop:=(0≤g.Cpu∧g.Cpu≤cpus-1)∧Av g.S∧0≤g.Until∧g.Until≤100040
instance (c:Int) (g:Ghost):Decidable (CZ c g):=by unfold CZ;infer_instance
def E7(s:Sys):Prop:=s.Ghosts.length≤12∧ ∀g∈s.Ghosts,CZ s.Cpus g
instance (s:Sys):Decidable (E7 s):=by unfold E7;infer_instance
structure SysOk(s:Sys):Prop where
 now:0≤s.Now∧s.Now≤100000
 cpus:1≤s.Cpus∧s.Cpus≤4
 tasks:TasksOk s.Tasks
 tcpu: ∀t∈s.Tasks,t.Cpu<s.Cpus
 locks:EK s
 ghosts:E7 s
 fits: ∀c,c<s.Cpus.toNat→Bn (BH s (c:Int))=true
 flen:(s.Floors.length:Int)=s.Cpus
 floors: ∀f∈s.Floors,0≤f∧f≤100000000
 seq:0≤s.Seq∧s.Seq≤1000000
 missed:0≤s.Missed∧s.Missed≤100000
 trace:s.Trace.length≤400
theorem ni(s:Sys):SysOk s↔(0≤s.Now∧s.Now≤100000)∧(1≤s.Cpus∧s.Cpus≤4)∧TasksOk s.Tasks∧(∀t∈s.Tasks,t.Cpu<s.Cpus)∧EK s∧E7 s∧(∀c,c<s.Cpus.toNat→Bn (BH s (c:Int))=true)∧((s.Floors.length:Int)=s.Cpus)∧
 (∀f∈s.Floors,0≤f∧f≤100000000)∧(0≤s.Seq∧s.Seq≤1000000)∧(0≤s.Missed∧s.Missed≤100000)∧s.Trace.length≤400:=
 ⟨fun h=>⟨h.1,h.2,h.3,h.4,h.5,h.6,h.7,h.8,h.9,h.10,h.11,h.12⟩,fun⟨a,b,c,d,e,f,g,h,i,j,k,l⟩=>⟨a,b,c,d,e,f,g,h,i,j,k,l⟩⟩
instance (s:Sys):Decidable (SysOk s):=decidable_of_iff _ (ni s).symm
def SN(n:Nat):Prop:=GN+big+big+3<n
theorem Sk{R:Type}{l:Nat→Nat→R}{len:Nat}{P:Nat→Prop}[DecidablePred P]{k0 k1:R}(hend: ∀m,l (m+1) len=k1)(hstep: ∀m i,i<len→l (m+1) i=if P i then l m (i+1)else k0){m:Nat}(hm:len<m):
 l m 0=if(∀i,i<len→P i)then k1 else k0:=by
 by_cases h: ∀i,i<len→P i
 · rw[if_pos h]
   exact AU (l:=l) (fun _=>True) trivial (fun m _=>hend m) (fun m i hi _=>.inl ⟨by rw[hstep m i hi,if_pos (h i hi)],trivial⟩) hm
 · rw[if_neg h]
   refine AU (l:=l) (fun i=> ∀j,j<i→P j) (fun j hj=>absurd hj (Nat.not_lt_zero j)) (fun m hI=>absurd hI h) (fun m i hi hI=> ?_) hm
   rw[hstep m i hi]
   by_cases hr:P i
   · rw[if_pos hr]
     exact .inl ⟨rfl,fun j hj=>by
      by_cases e:j=i
      ·subst e;exact hr
      ·exact hI j (by omega)⟩
   ·rw[if_neg hr];exact .inr rfl
theorem Pb{β:Type}[DecidableEq β](x:β){α:Type}(a b:α):cond (!(decide (x=x))) a b=b:=by simp
def szR(b:Int)(c:Nat):Int:=if b-(c:Int)<0 then-1 else b-(c:Int)
theorem Nc{b:Int}{c:Nat}(h0:0≤b)(h1:b≤1048576)(h2:c≤big):(cond (decide ((w64 (b-(c:Int)))<0)) (some ((-1),())) (some ((w64 (b-(c:Int))),())):Option (Int×Unit))=some (szR b c,()):=by
 unfold big at h2;rw[AO (by omega) (by omega),szR,BA]
 split<;>rfl
theorem Ka{b:Int}{c:Nat}(h: ¬szR b c<0):0≤b-(c:Int)∧szR b c=b-(c:Int):=by
 unfold szR at h⊢;split at h
 ·omega
 ·rename_i h';rw[if_neg h'];omega
theorem np{b:Int}{c:Nat}(h:0≤b-(c:Int)):szR b c=b-(c:Int):=by unfold szR;rw[if_neg (by omega)]
theorem ox{xs:List Lock}(h:wfL .lock xs): ∀k∈xs,k.Waits.length≤big:=fun k hk=>by
 have:=h.2 k hk (.nest k.Waits) (by simp[Kd.cells])
 exact this.1
structure SysWf(s:Sys):Prop where
 now:A1 s.Now
 cpus:A1 s.Cpus
 tasks:wfL .task s.Tasks
 locks:wfL .lock s.Locks
 ghosts:wfL .ghost s.Ghosts
 floors:wfL .int s.Floors
 seq:A1 s.Seq
 missed:A1 s.Missed
 trace:wfL .turn s.Trace
structure SysB(s:Sys):Prop where
 tl:TLB big s.Tasks s.Locks
 small:Small big s
theorem BM:big≤lim:=by unfold big lim;omega
theorem DQ:big+2≤lim:=by unfold big lim;omega
def Gx(s:Sys)(k no:Int):Bool:=match AY s.Tasks no with
 |none=>false
 |some i=>if 0≤k∧k≤(s.Locks.length:Int)-1 then
   (if(s.Locks.getD k.toNat (Kd.dflt .lock)).Owner=0 then true else match AY s.Tasks (s.Locks.getD k.toNat (Kd.dflt .lock)).Owner with
     |none=>false
     |some j=>decide ((s.Tasks.getD j (Kd.dflt .task)).Cpu=(s.Tasks.getD i (Kd.dflt .task)).Cpu))
  else false
theorem SN.tasks{s:Sys}{n:Nat}(h:SysB s)(hn:SN n):s.Tasks.length<n∧s.Tasks.length≤lim:=by
 have:=h.small.tasks;have e1:big=1048576:=rfl;have e2:10000000≤lim:=by unfold lim;omega
 unfold SN at hn;omega
theorem SysOk.floor{s:Sys}(h:SysOk s){t:Task}(ht:t∈s.Tasks):0≤t.Cpu∧t.Cpu<(s.Floors.length:Int)∧0≤s.Floors.getD t.Cpu.toNat 0∧s.Floors.getD t.Cpu.toNat 0≤100000000:=by
 have h1:=(h.tasks.each t ht).cpu.1;have h2:=h.tcpu t ht;have h3:=h.flen;have h4:t.Cpu.toNat<s.Floors.length:=by omega
 rw[Ab h4];exact⟨h1,by omega,h.floors _ (List.getElem_mem h4)⟩
def oe(s:Sys)(i:Nat):Bool:=decide ((s.Trace.getD i (Kd.dflt .turn)).Cpu=Int.tmod (i:Int) s.Cpus)&&(decide ((s.Trace.getD i (Kd.dflt .turn)).Context=0)==decide ((s.Trace.getD i (Kd.dflt .turn)).Executor=0))
def Ql(s:Sys):Prop:=SysOk s∧Int.tmod (s.Trace.length:Int) s.Cpus=0∧ ∀i,i<s.Trace.length→oe s i=true
instance (s:Sys):Decidable (Ql s):=by unfold Ql;infer_instance
theorem Q0{l:List Task}(h:Ai l=none):l=[]:=by
 have: ∀(l:List Task) (b:Task),∃c,l.foldl BQ (some b)=some c:=by
  intro l
  induction l with
  |nil=>exact fun b=>⟨b,rfl⟩
  |cons x l ih=>
   intro b;rw[List.foldl_cons];unfold BQ;simp only;split
   ·exact ih x
   ·exact ih b
 cases l with
 |nil=>rfl
 |cons x l=>
  obtain⟨c,hc⟩:=this l x;unfold Ai at h;rw[List.foldl_cons]at h
  change l.foldl BQ (some x)=none at h
  rw[hc]at h;cases h
theorem SN.tl{s:Sys}{n:Nat}(hn:SN n):big+2<n∧big+2≤lim:=by
 have e1:big=1048576:=rfl;have e2:10000000≤lim:=by unfold lim;omega
 unfold SN at hn;omega
def XP(s:Sys)(i:Nat):List Int:=(List.range i).map fun(c:Nat)=>(pick s.Tasks s.Locks (c:Int)).2
def Nv(s:Sys)(i:Nat):Prop:=(pick s.Tasks s.Locks (i:Int)).2=0∨(pick s.Tasks s.Locks (i:Int)).2∉XP s i
instance (s:Sys) (i:Nat):Decidable (Nv s i):=by unfold Nv;infer_instance
def Qe(s:Sys):Prop:=SysOk s∧ ∀i,i<s.Cpus.toNat→Nv s i
instance (s:Sys):Decidable (Qe s):=by unfold Qe;infer_instance
theorem Ip{β:Type}{v:List β}{i:Nat}(h:i<v.length)(x d:β):List.getD (List.set v i x) i d=x:=by
 rw[Ab (by rw[List.length_set];exact h),List.getElem_set_self]
theorem Iq{β:Type}{A xs:List β}{i:Nat}(hA:A.length=i)(hi:i<xs.length)(x:β):List.set (A++xs.drop i) i x=(A++[x])++xs.drop (i+1):=by
 rw[List.set_append_right _ _ (by omega),List.drop_eq_getElem_cons hi,hA,Nat.sub_self,List.set_cons_zero,List.append_assoc];rfl
theorem DF{β:Type}{A xs:List β}{i:Nat}(hA:A.length=i)(hi:i≤xs.length):(A++xs.drop i).length=xs.length:=by
 rw[List.length_append,List.length_drop,hA];omega
def AZ{β:Type}(mk:Int→β)(c:Int)(k:Int)(len:Nat):List β:=(List.range len).map fun(i:Nat)=>mk (k+c*(i:Int))
theorem KE{β:Type}(mk:Int→β)(c k:Int)(i:Nat):AZ mk c k (i+1)=AZ mk c k i++[mk (k+c*(i:Int))]:=by
 unfold AZ;rw[List.range_succ,List.map_append];rfl
theorem B3{β:Type}(mk:Int→β)(c k:Int)(i:Nat):(AZ mk c k i).length=i:=by unfold AZ;rw[List.length_map,List.length_range]
theorem M3{β:Type}(mk:Int→β)(c k:Int){len i:Nat}(h:i<(AZ mk c k len).length):(AZ mk c k len)[i]=mk (k+c*(i:Int)):=by
 simp[AZ]
def CX(k:Int):Turn:=⟨k,k+1,k+1+1⟩
def CW(k:Int):Ghost:=⟨k,⟨k+1,k+1+1⟩,k+1+1+1⟩
def B4(k:Int):Int:=k
def Cg(k:Int):Task:=⟨k,k+1,k+1+1,k+1+1+1,decide (Int.tmod (k+1+1+1+1) 3=0),k+1+1+1+1+1,k+1+1+1+1+1+1,k+1+1+1+1+1+1+1,k+1+1+1+1+1+1+1+1,k+1+1+1+1+1+1+1+1+1,k+1+1+1+1+1+1+1+1+1+1,k+1+1+1+1+1+1+1+1+1+1+1,k+1+1+1+1+1+1+1+1+1+1+1+1,k+1+1+1+1+1+1+1+1+1+1+1+1+1⟩
def A4:Int→List Lock→List Lock
 |_,[]=>[]
 |k,x::l=>⟨k,AZ B4 1 (k+1) x.Waits.length⟩::A4 (k+1+(x.Waits.length:Int)) l
def Ao(k:Int)(l:List Lock):Int:=k+(l.length:Int)+((AT l).length:Int)
theorem PT: ∀(a b:List Lock) (k:Int),A4 k (a++b)=A4 k a++A4 (Ao k a) b
 | [],b,k=>by simp[A4,Ao,AT]
 |x::a,b,k=>by
  rw[List.cons_append,A4,A4,PT a b,List.cons_append];have:Ao (k+1+(x.Waits.length:Int)) a=Ao k (x::a):=by
   unfold Ao AT;rw[List.flatMap_cons,List.length_append,List.length_cons];omega
  rw[this]
theorem IZ: ∀(l:List Lock) (k:Int),(A4 k l).length=l.length
 | [],_=>rfl
 |x::l,k=>by rw[A4,List.length_cons,List.length_cons,IZ l]
theorem ZM{xs:List Lock}{k:Int}{i:Nat}(hi:i<xs.length):A4 k (xs.take (i+1))=A4 k (xs.take i)++[⟨Ao k (xs.take i),AZ B4 1 (Ao k (xs.take i)+1) xs[i].Waits.length⟩]:=by
 rw[List.take_succ_eq_append_getElem hi,PT];rfl
theorem Ku{xs:List Lock}{k:Int}{i:Nat}(hi:i<xs.length):Ao k (xs.take (i+1))=Ao k (xs.take i)+1+(xs[i].Waits.length:Int):=by
 unfold Ao;rw[Dg hi,List.length_append,List.length_take,List.length_take];omega
theorem ZL{xs:List Lock}{k:Int}{i:Nat}(hi:i<xs.length)(d:Lock):List.getD (A4 k xs) i d=⟨Ao k (xs.take i),AZ B4 1 (Ao k (xs.take i)+1) xs[i].Waits.length⟩:=by
 have e:xs=xs.take i++xs[i]::xs.drop (i+1):=by rw[←List.drop_eq_getElem_cons hi,List.take_append_drop]
 have hl:(A4 k (xs.take i)).length=i:=by rw[IZ,List.length_take];omega
 have e2:A4 k xs=A4 k (xs.take i)++A4 (Ao k (xs.take i)) (xs[i]::xs.drop (i+1)):=by
  rw[←PT,←e]
 rw[e2,A4,List.getD_eq_getElem?_getD,List.getElem?_append_right (by omega),hl,Nat.sub_self];rfl
theorem Kt{B:Nat}{l:List Lock}(h:LBound B l)(k:Int)(i:Nat):Ao k (l.take i)≤k+2*(B:Int)∧k≤Ao k (l.take i):=by
 have h1:=h.len;have h2:=h.all;have h3:=Nh (l:=l) i;unfold Ao;rw[List.length_take];omega
structure Marked(s:Sys)where
 t:Int
 l:Int
 g:Int
 f:Int
 r:Int
def Ad(s:Sys):Marked s:=
 let t:=1+14*(s.Tasks.length:Int)
 let l:=Ao t s.Locks
 let g:=l+4*(s.Ghosts.length:Int)
 let f:=g+1*(s.Floors.length:Int)
 ⟨t,l,g,f,f+3*(s.Trace.length:Int)⟩
def Gn(s:Sys):Unit×Unit×List Task×List Lock×List Ghost×List Int×Unit×Unit×List Turn×Unit:=
 ((),(),AZ Cg 14 1 s.Tasks.length,A4 (Ad s).t s.Locks,AZ CW 4 (Ad s).l s.Ghosts.length,AZ B4 1 (Ad s).g s.Floors.length,(),(),AZ CX 3 (Ad s).f s.Trace.length,())
structure SysC(B:Nat)(s:Sys):Prop where
 small:Small B s
 lb:LBound B s.Locks
theorem SysB.c{s:Sys}(h:SysB s):SysC big s:=⟨h.small,h.tl.locks⟩
theorem Fr{s:Sys}{B:Nat}(h:SysC B s):1≤(Ad s).t∧(Ad s).t≤(Ad s).l∧(Ad s).l≤(Ad s).g∧(Ad s).g≤(Ad s).f∧(Ad s).f≤(Ad s).r∧(Ad s).r≤1+30*(B:Int):=by
 have h1:=h.small.tasks;have h2:=h.lb.len;have h3:=h.lb.all;have h4:=h.small.ghosts;have h5:=h.small.floors;have h6:=h.small.trace;simp only[Ad,Ao];omega
end Go.Proofs.YtbbgaleennfklaaGreat.VR
end
section
set_option linter.unusedVariables false
set_option linter.unusedSimpArgs false
namespace Go.Proofs.YtbbgaleennfklaaGreat.VR
open Go
def DD:Nat:=5342931457063200
theorem WJ(p:Nat)(h1:1≤p)(h2:p≤40):DD/p*p=DD:=by
 have: ∀q:Fin 41,q.1=0∨DD/q.1*q.1=DD:=by decide
 rcases this ⟨p,by omega⟩with h|h
 ·simp at h;omega
 ·exact h
def uN(s:Share):Nat:=s.Q.toNat*(DD/s.P.toNat)
def DN:List Share→Nat
 | []=>0
 |s::l=>uN s+DN l
theorem oq{a b:List Share}(h:a.Sublist b):DN a≤DN b:=by
 induction h with
 |slnil=>exact Nat.le_refl _
 |cons x _ ih=>simp only[DN];omega
 |cons_cons x _ ih=>simp only[DN];omega
theorem WM{D q P n d U:Nat}(hP:1≤P)(hd:D/P*P=D)(h1:n*D=U*d)(h2:0<d):
 (n*P+q*d)/Nat.gcd (n*P+q*d) (d*P)*D=(U+q*(D/P))*(d*P/Nat.gcd (n*P+q*d) (d*P))∧0<d*P/Nat.gcd (n*P+q*d) (d*P):=by
 have hden:0<d*P:=Nat.mul_pos h2 hP;have key:(n*P+q*d)*D=(U+q*(D/P))*(d*P):=by
  have e1:n*P*D=U*(d*P):=by rw[Nat.mul_right_comm,h1,Nat.mul_assoc]
  have e2:q*d*D=q*(D/P)*(d*P):=by
   conv=>lhs;rw[←hd]
   generalize D/P=z;simp only[Nat.mul_assoc,Nat.mul_left_comm,Nat.mul_comm]
  rw[Nat.add_mul,e1,e2,Nat.add_mul]
 generalize n*P+q*d=num at*;generalize d*P=den at*;generalize U+q*(D/P)=W at*;have hg:0<Nat.gcd num den:=Nat.gcd_pos_of_pos_right _ hden;have e1:=Nat.div_mul_cancel (Nat.gcd_dvd_left num den);have e2:=Nat.div_mul_cancel (Nat.gcd_dvd_right num den);generalize Nat.gcd num den=g at*;refine⟨?_,?_⟩
 · apply Nat.eq_of_mul_eq_mul_right hg
   rw[Nat.mul_right_comm,e1,key,Nat.mul_assoc,e2]
 · rcases Nat.eq_zero_or_pos (den/g)with h|h
   ·rw[h]at e2;omega
   ·exact h
theorem WN{p:Nat×Nat}{s:Share}{U:Nat}(hs:Av s)(h1:p.1*DD=U*p.2)(h2:0<p.2):(Ca p s).1*DD=(U+uN s)*(Ca p s).2∧0<(Ca p s).2:=by
 obtain⟨⟨a1,a2⟩,a3,a4⟩:=hs;have hP:1≤s.P.toNat∧s.P.toNat≤40:=by omega
 have hd:=WJ s.P.toNat hP.1 hP.2;unfold Ca uN;exact WM hP.1 hd h1 h2
theorem Xf(l:List Share): ∀(p:Nat×Nat) (U:Nat),(∀s∈l,Av s)→p.1*DD=U*p.2→0<p.2→(l.foldl Ca p).1*DD=(U+DN l)*(l.foldl Ca p).2∧0<(l.foldl Ca p).2:=by
 induction l with
 |nil=>intro p U _ h1 h2;simp only[List.foldl_nil,DN,Nat.add_zero];exact⟨h1,h2⟩
 |cons s l ih=>
  intro p U hs h1 h2;obtain⟨h3,h4⟩:=WN (hs s (List.mem_cons_self ..)) h1 h2;have:=ih (Ca p s) (U+uN s) (fun x hx=>hs x (List.mem_cons_of_mem _ hx)) h3 h4
  simp only[List.foldl_cons,DN];rw[Nat.add_assoc]at this;exact this
theorem VS{l:List Share}(h: ∀s∈l,Av s):(Am l).1≤(Am l).2↔DN l≤DD:=by
 obtain⟨h1,h2⟩:=Xf l (0,1) 0 h (by rw[Nat.zero_mul,Nat.zero_mul]) Nat.one_pos
 rw[Nat.zero_add]at h1
 change(Am l).1*DD=DN l*(Am l).2 at h1
 change 0<(Am l).2 at h2
 have hD:0<DD:=by decide
 generalize DD=D at*;constructor
 · intro h3
   have:DN l*(Am l).2≤D*(Am l).2:=by rw[←h1,Nat.mul_comm];exact Nat.mul_le_mul_left _ h3
   exact Nat.le_of_mul_le_mul_right this h2
 · intro h3
   have:(Am l).1*D≤(Am l).2*D:=by rw[h1,Nat.mul_comm (Am l).2];exact Nat.mul_le_mul_right _ h3
   exact Nat.le_of_mul_le_mul_right this hD
theorem Xc(l:List Share):Bn l=true↔HA l∧DN l≤DD:=by
 unfold Bn;rw[Bool.and_eq_true,decide_eq_true_eq,decide_eq_true_eq];exact⟨fun⟨a,b⟩=>⟨a,(VS a.2).1 b⟩,fun⟨a,b⟩=>⟨a,(VS a.2).2 b⟩⟩
theorem Xd{a b:List Share}(h:a.Sublist b)(hb:Bn b=true):Bn a=true:=by
 rw[Xc]at hb⊢;exact⟨⟨Nat.le_trans h.length_le hb.1.1,fun s hs=>hb.1.2 s (h.subset hs)⟩,Nat.le_trans (oq h) hb.2⟩
def Dm(t:Task)(now:Int):Task:=if(TaskOk t∧t.Class=1)∧0≤now∧now≤100000 then(if t.Due≤now∨(t.Due-now)*t.Q<t.Left*t.P then{t with Left:=t.Q,Due:=now+t.P}else t)else t
def GC(t:Task)(now:Int):Task:=if(TaskOk t∧t.Class=1)∧(0≤now∧now≤100000)∧t.Due≤now then{t with Left:=t.Q,Due:=t.Due+t.P}else t
def Cb(t:Task):Task:=if(TaskOk t∧t.Class=1)∧0<t.Left then{t with Left:=t.Left-1}else t
def Bg(t:Task)(seq:Int):Task×Bool:=
 if(TaskOk t∧t.Class=2)∧t.Round≠0 then(if 1<t.Left then({t with Left:=t.Left-1},false)else if 0≤seq∧seq≤1000000 then({t with Left:=t.Round,Seq:=seq},true)else(t,false))else(t,false)
def DO(t:Task)(v:Int):Task:=if 0≤v∧v≤100000000 then{t with V:=v}else t
def E4(n:Int):Int:=if n= -4 then 2 else if n= -3 then 3 else if n= -2 then 4 else if n= -1 then 6 else if n=0 then 8 else if n=1 then 12 else if n=2 then 16 else if n=3 then 24 else if n=4 then 48 else 0
def BN(t:Task):Bool:=decide (TaskOk t∧t.Class=3)
def Cn(t:Task):Task:=if BN t then DO t (t.V+E4 t.Nice)else t
def EW(t:Task)(floor:Int):Task:=if BN t then DO t (max t.V floor)else t
def DR(o:Option (Int×Int))(t:Task):Option (Int×Int):=if BN t then(match o with|none=>some (t.V,t.V)|some (a,b)=>some (min a t.V,max b t.V))else o
def BW(l:List Task):Option (Int×Int):=l.foldl DR none
def Cm(l:List Task)(floor:Int):Int:=match BW l with
 |none=>floor
 |some (a,_)=>max floor a
def J1(l:List Task):Int:=match BW l with
 |none=>0
 |some (a,b)=>b-a
def J0(t:Task)(cpu src to:Int):Task:=
 if BN t∧(0≤cpu∧cpu≤3)∧(0≤src∧src≤100000000)∧(0≤to∧to≤100000000)∧to+max 0 (t.V-src)≤100000000 then{t with Cpu:=cpu,V:=to+max 0 (t.V-src)}else t
def Cw(now:Int)(t:Task):Task:=if t.Class=1∧t.Idle=false∧t.Due≤now then GC t now else t
def CB(now:Int)(m:Int)(t:Task):Int:=if(t.Class=1∧t.Idle=false∧t.Due≤now)∧0<t.Left then min (m+1) 100000 else m
def F5(ts:List Task)(ls:List Lock)(floors:List Int)(now:Int)(t:Task):Task:=
 if Bm ts ls t.No then(if t.Idle then EW (Dm {t with Idle:=false} now) (floors.getD t.Cpu.toNat 0)else t)else{t with Idle:=true}
def BF(ts:List Task)(cpu:Int):List Task:=ts.filter fun t=>decide (t.Cpu=cpu)&& !t.Idle
def Bo(ts:List Task)(fs:List Int):List Int:=(List.range fs.length).map fun(i:Nat)=>Cm (BF ts (i:Int)) (fs.getD i 0)
structure Turns where
 ts:List Task
 seq:Int
 tr:List Turn
def CC(ls:List Lock)(x:Turns)(cpu:Int):Turns:=match Ai (B6 x.ts ls cpu)with
 |none=>⟨x.ts,x.seq,x.tr++[⟨cpu,0,0⟩]⟩
 |some t=>⟨x.ts.set ((AY x.ts t.No).getD 0) (Cn (Cb (Bg t (x.seq+1)).1)),cond (Bg t (x.seq+1)).2 (x.seq+1) x.seq,x.tr++[⟨cpu,t.No,Bu x.ts ls t.No⟩]⟩
def A3(ls:List Lock)(x:Turns)(k:Nat):Turns:=(List.range k).foldl (fun x (c:Nat)=>CC ls x (c:Int)) x
def Nf(s:Sys):List Task:=s.Tasks.map (Cw s.Now)
def AS(s:Sys):List Task:=(Nf s).map (F5 (Nf s) s.Locks s.Floors s.Now)
def Bq(s:Sys):Turns:=A3 s.Locks ⟨AS s,s.Seq,s.Trace⟩ s.Cpus.toNat
def DL(s:Sys):Sys:=⟨s.Now+1,s.Cpus,(Bq s).ts,s.Locks,s.Ghosts.filter fun g=>decide (s.Now<g.Until),Bo (AS s) s.Floors,(Bq s).seq,s.Tasks.foldl (CB s.Now) s.Missed,(Bq s).tr⟩
def BR(s:Sys):Prop:=s.Now≠100000∧s.Seq≤900000∧(s.Trace.length:Int)+s.Cpus≤400
instance (s:Sys):Decidable (BR s):=by unfold BR;infer_instance
def B7:Sys:=⟨0,0,[],[],[],[],0,0,[]⟩
def BY(s:Sys):Sys×Bool:=if SysOk s then(if BR s then(DL s,true)else(s,false))else(B7,false)
def BZ:Nat→Sys→Nat→Sys×Nat
 |0,s,k=>(s,k)
 |m+1,s,k=>if BR s then BZ m (DL s) (k+1)else(s,k)
end Go.Proofs.YtbbgaleennfklaaGreat.VR
end
section
set_option linter.unusedVariables false
set_option linter.unusedSimpArgs false
namespace Go.Proofs.YtbbgaleennfklaaGreat.VR
open Go
def insT(ts:List Task)(t:Task):List Task:=(ts.takeWhile fun x=>decide (x.No<t.No))++t::ts.dropWhile fun x=>decide (x.No<t.No)
def Ep(t:Task):Task×Bool:=if TaskOk t then(t,true)else(Kd.dflt .task,false)
def Es(no cpu q p now:Int):Task×Bool:=if(0≤now∧now≤100000)∧Av ⟨q,p⟩then Ep ⟨no,1,cpu,1,false,q,p,q,now+p,0,0,0,0,0⟩else(Kd.dflt .task,false)
def Eu(no cpu prio round seq:Int):Task×Bool:=Ep ⟨no,2,cpu,1,false,0,0,round,0,prio,round,seq,0,0⟩
def Et(no cpu nice v:Int):Task×Bool:=Ep ⟨no,3,cpu,1,false,0,0,0,0,0,0,0,nice,v⟩
def CH(s:Sys)(c:Call):Task×Bool:=if c.Kind=1 then Es c.No c.Cpu c.A c.B s.Now else if c.Kind=2 then Eu c.No c.Cpu c.A c.B (s.Seq+1)else Et c.No c.Cpu c.A (Cp s c.Cpu)
def DC(s:Sys)(c:Call):Sys×Int:=
 if s.Cpus≤c.Cpu∨(CH s c).2=false then(s,1)
 else if(AY s.Tasks c.No).isSome then(s,3)
 else if¬TasksOk (insT s.Tasks (CH s c).1)then(s,4)
 else if c.Kind=1∧Bn (BH s c.Cpu++[⟨c.A,c.B⟩])=false then(s,4)
 else if c.Kind=2 then(if 900000<s.Seq then(s,4)else({s with Tasks:=insT s.Tasks (CH s c).1,Seq:=s.Seq+1},0))
 else({s with Tasks:=insT s.Tasks (CH s c).1},0)
def EE(ls:List Lock)(no:Int):Bool:=decide (no≠0)&&ls.any fun k=>decide (k.Owner=no)
def waits(ls:List Lock)(no:Int):Bool:=(Bf ls no).isSome
def DS(s:Sys)(i:Nat)(t:Task):Sys×Int:=
 if EE s.Locks t.No||waits s.Locks t.No then(s,5)
 else if t.Class=1∧s.Now<t.Due then(if 12≤s.Ghosts.length then(s,4)else({s with Tasks:=s.Tasks.eraseIdx i,Ghosts:=s.Ghosts++[⟨t.Cpu,⟨t.Q,t.P⟩,t.Due⟩]},0))
 else({s with Tasks:=s.Tasks.eraseIdx i},0)
def Dj(ts:List Task)(l:List Int):Int:=if TasksOk ts then EB (Ai (ts.filter fun t=>decide (t.No∈l)))else 0
def DP(ls:List Lock)(i:Nat)(no:Int):List Lock×Bool:=
 if(ls.getD i (Kd.dflt .lock)).Owner=0 then(ls.set i ⟨no,(ls.getD i (Kd.dflt .lock)).Waits⟩,true)
 else if no∈(match Ay ls (ls.getD i (Kd.dflt .lock)).Owner with|some c=>(ls.getD i (Kd.dflt .lock)).Owner::c|none=>[])then(ls,false)
 else(ls.set i ⟨(ls.getD i (Kd.dflt .lock)).Owner,(ls.getD i (Kd.dflt .lock)).Waits++[no]⟩,true)
def Ha(ls:List Lock)(i:Nat)(next:Int):List Lock:=ls.set i ⟨next,(ls.getD i (Kd.dflt .lock)).Waits.filter fun y=>decide (y≠next)⟩
def Cr(s:Sys)(c:Call)(t:Task):Sys×Int:=
 if¬(0≤c.A∧c.A≤4)then(s,2)
 else if t.State=2∨waits s.Locks t.No=true∨((s.Locks.getD c.A.toNat (Kd.dflt .lock)).Owner=t.No↔c.Kind=7)then(s,5)
 else if c.Kind=8 then({s with Locks:=Ha s.Locks c.A.toNat (Dj s.Tasks (s.Locks.getD c.A.toNat (Kd.dflt .lock)).Waits)},0)
 else if Gx s c.A t.No=false then(s,5)
 else if(DP s.Locks c.A.toNat t.No).2=false then(s,6)
 else({s with Locks:=(DP s.Locks c.A.toNat t.No).1},0)
def C5(s:Sys)(c:Call)(i:Nat)(t:Task):Sys×Int:=
 if t.Class≠3 then(s,5)
 else if c.Kind=9 then(if Bz c.A then({s with Tasks:=s.Tasks.set i {t with Nice:=c.A}},0)else(s,1))
 else if EE s.Locks t.No||waits s.Locks t.No then(s,5)
 else if¬(0≤c.Cpu∧c.Cpu≤s.Cpus-1)then(s,1)
 else({s with Tasks:=s.Tasks.set i (J0 t c.Cpu (Cp s t.Cpu) (Cp s c.Cpu))},0)
def EI(s:Sys)(c:Call)(i:Nat)(t:Task):Sys×Int:=
 if c.Kind=4 then(if t.State=2∨waits s.Locks t.No=true then(s,5)else({s with Tasks:=s.Tasks.set i {t with State:=2}},0))
 else if c.Kind=5 then(if t.State≠2 then(s,5)else({s with Tasks:=s.Tasks.set i {t with State:=1}},0))
 else if c.Kind=6 then DS s i t
 else if c.Kind=7∨c.Kind=8 then Cr s c t
 else C5 s c i t
def G1(s:Sys)(n:Int):Sys×Int:=if 1≤n∧n≤50 then(if(BZ n.toNat s 0).2<n.toNat then(s,4)else((BZ n.toNat s 0).1,0))else(s,1)
def CO(s:Sys)(c:Call):Sys×Int:=
 if c.Kind=11 then G1 s c.A
 else if 1≤c.Kind∧c.Kind≤3 then DC s c
 else match AY s.Tasks c.No with
  |none=>(s,2)
  |some i=>EI s c i (s.Tasks.getD i (Kd.dflt .task))
def C1(c:Call):Bool:=
 if c.Kind=1∨c.Kind=2 then true
 else if c.Kind=3 then decide (c.B=0)
 else if c.Kind=4∨c.Kind=5∨c.Kind=6 then decide (c.Cpu=0∧c.A=0∧c.B=0)
 else if c.Kind=7∨c.Kind=8∨c.Kind=9 then decide (c.Cpu=0∧c.B=0)
 else if c.Kind=10 then decide (c.A=0∧c.B=0)
 else if c.Kind=11 then decide (c.No=0∧c.Cpu=0∧c.B=0)
 else false
def Bj(s:Sys)(c:Call):Sys×Int:=if SysOk s∧C1 c=true then CO s c else(B7,1)
def Fz:List Call→Sys→List Int→Sys×List Int
 | [],s,l=>(s,l)
 |c::cs,s,l=>Fz cs (if(Bj s c).2=0 then(Bj s c).1 else s) (l++[(Bj s c).2])
def BX(s:Sys)(l:List Call):Sys×List Int:=if SysOk s∧l.length≤150 then Fz l s []else(s,[])
end Go.Proofs.YtbbgaleennfklaaGreat.VR
end
section
set_option linter.unusedVariables false
set_option linter.unusedSimpArgs false
namespace Go.Proofs.YtbbgaleennfklaaGreat.VR
open Go
theorem NV{R β σ:Type}{l:Nat→Int→List β→σ→R}{xs:List β}{g:σ→β→β}{f:σ→β→σ}{k:List β→σ→R}(Inv:List β→σ→Prop)
 (hend: ∀m ys s,ys.length=xs.length→l (m+1) (xs.length:Int) ys s=k ys s)
 (hstep: ∀m (i:Nat) ys s (hi:i<xs.length) (hl:ys.length=xs.length),Inv ys s→ys[i]'(by omega)=xs[i]→l (m+1) (i:Int) ys s=l m ((i+1:Nat):Int) (ys.set i (g s xs[i])) (f s xs[i])∧Inv (ys.set i (g s xs[i])) (f s xs[i]))
 (gs:List β→σ→List β) (hgs0: ∀s,gs [] s=[]) (hgs: ∀x r s,gs (x::r) s=g s x::gs r (f s x)) {m:Nat} {s:σ} (h0:Inv xs s) (hm:xs.length<m):l m 0 xs s=k (gs xs s) (xs.foldl f s):=by
 have: ∀(d i m:Nat) (A B:List β) (s:σ),i+d=xs.length→d<m→A.length=i→B=xs.drop i→Inv (A++B) s→l m (i:Int) (A++B) s=k (A++gs B s) (B.foldl f s):=by
  intro d
  induction d with
  |zero=>
   intro i m A B s hi hm hA hB _;obtain⟨m,rfl⟩: ∃q,m=q+1:=⟨m-1,by omega⟩
   have:i=xs.length:=by omega
   subst this;rw[List.drop_length]at hB;subst hB;rw[hend _ _ _ (by simp[hA]),hgs0]
   rfl
  |succ d ih=>
   intro i m A B s hi hm hA hB hI;obtain⟨m,rfl⟩: ∃q,m=q+1:=⟨m-1,by omega⟩
   have h:i<xs.length:=by omega
   have hB':B=xs[i]::xs.drop (i+1):=hB.trans (List.drop_eq_getElem_cons h);have hl:(A++B).length=xs.length:=by rw[List.length_append,hA,hB,List.length_drop];omega
   obtain⟨h1,h2⟩:=hstep m i (A++B) s h hl hI (by subst hA;rw[List.getElem_append_right (Nat.le_refl _)];simp[hB'])
   have e:(A++B).set i (g s xs[i])=(A++[g s xs[i]])++xs.drop (i+1):=by
    subst hA;rw[hB',List.set_append_right _ _ (Nat.le_refl _),Nat.sub_self,List.set_cons_zero,List.append_assoc];rfl
   rw[e]at h1 h2;rw[h1,ih (i+1) m _ _ _ (by omega) (by omega) (by simp[hA]) rfl h2,hB',hgs,List.append_assoc]
   rfl
 have:=this xs.length 0 m [] xs s (by omega) hm rfl (by simp) (by simpa using h0)
 simpa using this
theorem Sm{R β:Type}{l:Nat→Int→List β→R}{xs:List β}{g:β→β}{k:List β→R}
 (hend: ∀m ys,ys.length=xs.length→l (m+1) (xs.length:Int) ys=k ys)
 (hstep: ∀m (i:Nat) ys (hi:i<xs.length) (hl:ys.length=xs.length),ys[i]'(by omega)=xs[i]→l (m+1) (i:Int) ys=l m ((i+1:Nat):Int) (ys.set i (g xs[i])))
 {m:Nat} (hm:xs.length<m):l m 0 xs=k (xs.map g):=by
 have:=NV (l:=fun m i ys (_:Unit)=>l m i ys) (xs:=xs) (g:=fun _ x=>g x) (f:=fun s _=>s) (k:=fun ys _=>k ys) (fun _ _=>True) (fun m ys _ h=>hend m ys h)
  (fun m i ys s hi hl _ h=>⟨hstep m i ys hi hl h,trivial⟩) (fun xs _=>xs.map g) (fun _=>rfl) (fun _ _ _=>rfl) (m:=m) (s:=()) trivial hm
 exact this
theorem XA{R β:Type}{l:Nat→List β→Int→Int→R}{xs:List β}{p:β→Bool}{k:Int→List β→R}
 (hend: ∀m ys (i:Nat),ys.length=xs.length→l (m+1) ys (i:Int) (xs.length:Int)=k (i:Int) ys)
 (hstep: ∀m ys (i j:Nat) (hj:j<xs.length) (hl:ys.length=xs.length),i<j→ys[j]'(by omega)=xs[j]→
   l (m+1) ys (i:Int) (j:Int)=cond (p xs[j]) (l m ys (i:Int) ((j+1:Nat):Int)) (l m (ys.set i xs[j]) ((i+1:Nat):Int) ((j+1:Nat):Int)))
 (i0:Nat) (h0:i0<xs.length) (hf:((xs.take (i0+1)).filter fun x=> !p x).length=i0) (hpre:(xs.take (i0+1)).filter (fun x=> !p x)=xs.take i0) {m:Nat} (hm:xs.length<m):
 ∃ys,ys.length=xs.length∧(xs.filter fun x=> !p x).length<xs.length∧ys.take (xs.filter fun x=> !p x).length=xs.filter (fun x=> !p x)∧l m xs (i0:Int) ((i0+1:Nat):Int)=k (((xs.filter fun x=> !p x).length:Nat):Int) ys:=by
 have: ∀(d j m:Nat) (ys:List β),j+d=xs.length→d<m→ys.length=xs.length→((xs.take j).filter fun x=> !p x).length<j→ys.take ((xs.take j).filter fun x=> !p x).length=(xs.take j).filter (fun x=> !p x)→ys.drop j=xs.drop j→
  ∃zs,zs.length=xs.length∧(xs.filter fun x=> !p x).length<xs.length∧zs.take (xs.filter fun x=> !p x).length=xs.filter (fun x=> !p x)∧l m ys ((((xs.take j).filter fun x=> !p x).length:Nat):Int) (j:Int)=k (((xs.filter fun x=> !p x).length:Nat):Int) zs:=by
  intro d
  induction d with
  |zero=>
   intro j m ys hj hm hl hlt ht hd;obtain⟨m,rfl⟩: ∃q,m=q+1:=⟨m-1,by omega⟩
   have:j=xs.length:=by omega
   subst this;rw[List.take_length]at hlt ht⊢;exact⟨ys,hl,hlt,ht,hend m ys _ hl⟩
  |succ d ih=>
   intro j m ys hj hm hl hlt ht hd;obtain⟨m,rfl⟩: ∃q,m=q+1:=⟨m-1,by omega⟩
   have h:j<xs.length:=by omega
   have hy:ys[j]'(by omega)=xs[j]:=by
    have h1:=List.getElem?_drop (xs:=ys) (i:=j) (j:=0);have h2:=List.getElem?_drop (xs:=xs) (i:=j) (j:=0);rw[hd,h2]at h1;simp only[Nat.add_zero]at h1;rw[List.getElem?_eq_getElem h,List.getElem?_eq_getElem (by omega)]at h1
    injection h1 with h1
    exact h1.symm
   have hd1:ys.drop (j+1)=xs.drop (j+1):=by
    have:=congrArg (List.drop 1) hd;simpa[List.drop_drop,Nat.add_comm]using this
   rw[hstep m ys _ j h hl hlt hy];have ef:=Ds (fun x=> !p x) h
   cases hp:p xs[j]with
   |true=>
    rw[hp]at ef;simp only[Bool.not_true,cond_false,List.append_nil]at ef;have:=ih (j+1) m ys (by omega) (by omega) hl (by rw[ef];omega) (by rw[ef];exact ht) hd1
    rw[ef]at this;exact this
   |false=>
    rw[hp]at ef;simp only[Bool.not_false,cond_true]at ef;have el:((xs.take (j+1)).filter fun x=> !p x).length=((xs.take j).filter fun x=> !p x).length+1:=by rw[ef,List.length_append];rfl
    have:=ih (j+1) m (ys.set ((xs.take j).filter fun x=> !p x).length xs[j]) (by omega) (by omega) (by rw[List.length_set];exact hl) (by rw[el];omega)
     (by rw[el,ef,List.take_succ_eq_append_getElem (by rw[List.length_set];omega),List.take_set_of_le (Nat.le_refl _),ht];congr 1;simp)
     (by rw[List.drop_set_of_lt (by omega)];exact hd1)
    rw[el]at this;exact this
 have e:i0=((xs.take (i0+1)).filter fun x=> !p x).length:=hf.symm
 have h1:=this (xs.length-(i0+1)) (i0+1) m xs (by omega) (by omega) rfl (by rw[hf];omega) (by rw[hf,hpre]) rfl
 rw[hf]at h1;exact h1
end Go.Proofs.YtbbgaleennfklaaGreat.VR
end
section
set_option linter.unusedVariables false
set_option linter.unusedSimpArgs false
namespace Go.Proofs.YtbbgaleennfklaaGreat.VR
open Go
theorem TaskOk.due{t:Task}(h:TaskOk t)(hc:t.Class=1):DueOk t:=by
 rcases h.cls with h|h|h
 ·exact h
 ·have:=h.cls;omega
 ·have:=h.cls;omega
theorem TaskOk.fixed{t:Task}(h:TaskOk t)(hc:t.Class=2):FixedOk t:=by
 rcases h.cls with h|h|h
 ·have:=h.cls;omega
 ·exact h
 ·have:=h.cls;omega
theorem TaskOk.fair{t:Task}(h:TaskOk t)(hc:t.Class=3):FairOk t:=by
 rcases h.cls with h|h|h
 ·have:=h.cls;omega
 ·have:=h.cls;omega
 ·exact h
theorem FR(t:Task):BN t=true↔TaskOk t∧t.Class=3:=by unfold BN;simp
structure Keeps(t t':Task):Prop where
 no:t'.No=t.No
 cls:t'.Class=t.Class
 cpu:t'.Cpu=t.Cpu
 state:t'.State=t.State
 share:t'.Q=t.Q∧t'.P=t.P
 ok:TaskOk t→TaskOk t'
theorem Keeps.refl(t:Task):Keeps t t:=⟨rfl,rfl,rfl,rfl,⟨rfl,rfl⟩,id⟩
theorem Keeps.trans{a b c:Task}(h:Keeps a b)(h':Keeps b c):Keeps a c:=
 ⟨h'.no.trans h.no,h'.cls.trans h.cls,h'.cpu.trans h.cpu,h'.state.trans h.state,⟨h'.share.1.trans h.share.1,h'.share.2.trans h.share.2⟩,fun x=>h'.ok (h.ok x)⟩
theorem SQ(t:Task)(b:Bool):Keeps t {t with Idle:=b}:=
 ⟨rfl,rfl,rfl,rfl,⟨rfl,rfl⟩,fun h=>⟨h.no,h.cpu,h.state,by
  rcases h.cls with h|h|h
  ·exact .inl ⟨h.cls,h.share,h.left,h.due,h.z⟩
  ·exact .inr (.inl ⟨h.cls,h.prio,h.round,h.left,h.seq,h.z⟩)
  ·exact .inr (.inr ⟨h.cls,h.nice,h.v,h.z⟩)⟩⟩
theorem PI{t:Task}{l d:Int}(hc:t.Class=1)(hl:TaskOk t→0≤l∧l≤t.Q)(hd:TaskOk t→0≤d∧d≤100040):Keeps t {t with Left:=l,Due:=d}:=
 ⟨rfl,rfl,rfl,rfl,⟨rfl,rfl⟩,fun h=>⟨h.no,h.cpu,h.state,.inl ⟨hc,(h.due hc).share,hl h,hd h,(h.due hc).z⟩⟩⟩
theorem XI{t:Task}{now:Int}(h99:now<100000):Keeps t (GC t now):=by
 unfold GC;split
 · rename_i h
   have d:=h.1.1.due h.1.2;have h1:=d.share;have h2:=d.due;exact PI h.1.2 (fun _=>by omega) (fun _=>by omega)
 ·exact Keeps.refl t
theorem XJ{t:Task}{now:Int}(h99:now<100000):Keeps t (Dm t now):=by
 unfold Dm;split
 · rename_i h
   split
   · have d:=h.1.1.due h.1.2
     have h1:=d.share;have h2:=d.due;exact PI h.1.2 (fun _=>by omega) (fun _=>by omega)
   ·exact Keeps.refl t
 ·exact Keeps.refl t
theorem RJ(t:Task):Keeps t (Cb t):=by
 unfold Cb;split
 · rename_i h
   have d:=h.1.1.due h.1.2;have h1:=d.left;have h2:=d.due;exact PI (d:=t.Due) h.1.2 (fun _=>by omega) (fun _=>h2)
 ·exact Keeps.refl t
theorem Ra(t:Task)(seq:Int):Keeps t (Bg t seq).1:=by
 unfold Bg;split
 · rename_i h
   have d:=h.1.1.fixed h.1.2;have h1:=d.left;have h2:=d.round;split
   ·exact⟨rfl,rfl,rfl,rfl,⟨rfl,rfl⟩,fun x=>⟨x.no,x.cpu,x.state,.inr (.inl ⟨d.cls,d.prio,d.round,⟨.inl (show 1≤t.Left-1 by omega),show t.Left-1≤t.Round by omega⟩,d.seq,d.z⟩)⟩⟩
   · split
     · rename_i hs
       exact⟨rfl,rfl,rfl,rfl,⟨rfl,rfl⟩,fun x=>⟨x.no,x.cpu,x.state,.inr (.inl ⟨d.cls,d.prio,d.round,⟨.inl (show 1≤t.Round by omega),Int.le_refl _⟩,hs,d.z⟩)⟩⟩
     ·exact Keeps.refl t
 ·exact Keeps.refl t
theorem V9{t:Task}(v:Int)(hf:BN t=true):Keeps t (DO t v):=by
 rw[FR]at hf;have d:=hf.1.fair hf.2;unfold DO;split
 · rename_i h
   exact⟨rfl,rfl,rfl,rfl,⟨rfl,rfl⟩,fun x=>⟨x.no,x.cpu,x.state,.inr (.inr ⟨d.cls,d.nice,h,d.z⟩)⟩⟩
 ·exact Keeps.refl t
theorem RS(t:Task):Keeps t (Cn t):=by
 unfold Cn;split
 ·rename_i h;exact V9 _ h
 ·exact Keeps.refl t
theorem Xb(t:Task)(f:Int):Keeps t (EW t f):=by
 unfold EW;split
 ·rename_i h;exact V9 _ h
 ·exact Keeps.refl t
theorem KS{t:Task}{now:Int}(h:now<100000):Keeps t (Cw now t):=by
 unfold Cw;split
 ·exact XI h
 ·exact Keeps.refl t
theorem ou{ts:List Task}{ls:List Lock}{fs:List Int}{now:Int}(h:now<100000)(t:Task):Keeps t (F5 ts ls fs now t):=by
 unfold F5;split
 · split
   ·exact((SQ t false).trans (XJ h)).trans (Xb _ _)
   ·exact Keeps.refl t
 ·exact SQ t true
theorem nb(t:Task)(seq:Int):Keeps t (Cn (Cb (Bg t seq).1)):=((Ra t seq).trans (RJ _)).trans (RS _)
inductive KeepsL:List Task→List Task→Prop
 |nil:KeepsL [] []
 |cons {a b xs ys}:Keeps a b→KeepsL xs ys→KeepsL (a::xs) (b::ys)
theorem KeepsL.refl: ∀l:List Task,KeepsL l l
 | []=>.nil
 |t::l=>.cons (Keeps.refl t) (KeepsL.refl l)
theorem KeepsL.trans{a b c:List Task}(h:KeepsL a b):KeepsL b c→KeepsL a c:=by
 induction h generalizing c with
 |nil=>intro h;exact h
 |cons h1 _ ih=>
  intro h;cases h with
  |cons h2 h3=>exact .cons (h1.trans h2) (ih h3)
theorem KeepsL.map{g:Task→Task}: ∀(l:List Task),(∀t∈l,Keeps t (g t))→KeepsL l (l.map g)
 | [],_=>.nil
 |t::l,h=>.cons (h t (List.mem_cons_self ..)) (KeepsL.map l fun x hx=>h x (List.mem_cons_of_mem _ hx))
theorem KeepsL.set{t':Task}(l:List Task): ∀(i:Nat) (hi:i<l.length),Keeps l[i] t'→KeepsL l (l.set i t'):=by
 induction l with
 |nil=>intro i hi;simp at hi
 |cons t l ih=>
  intro i hi h;cases i with
  |zero=>rw[List.set_cons_zero];exact .cons h (KeepsL.refl l)
  |succ i=>rw[List.set_cons_succ];exact .cons (Keeps.refl t) (ih i (by simpa using hi) h)
theorem KeepsL.len{a b:List Task}(h:KeepsL a b):b.length=a.length:=by
 induction h with
 |nil=>rfl
 |cons _ _ ih=>simp[ih]
theorem KeepsL.at_{a b:List Task}(h:KeepsL a b): ∀(i:Nat) (hi:i<a.length),Keeps a[i] (b[i]'(by rw[h.len];exact hi)):=by
 induction h with
 |nil=>intro i hi;simp at hi
 |cons h1 _ ih=>
  intro i hi;cases i with
  |zero=>exact h1
  |succ i=>exact ih i (by simpa using hi)
theorem KeepsL.mem{a b:List Task}(h:KeepsL a b){t':Task}(ht:t'∈b): ∃t∈a,Keeps t t':=by
 obtain⟨i,hi,rfl⟩:=List.getElem_of_mem ht;rw[h.len]at hi;exact⟨a[i],List.getElem_mem hi,h.at_ i hi⟩
theorem KeepsL.nos{a b:List Task}(h:KeepsL a b):b.map (·.No)=a.map (·.No):=by
 induction h with
 |nil=>rfl
 |cons h1 _ ih=>simp[h1.no,ih]
theorem KeepsL.tasksOk{a b:List Task}(h:KeepsL a b)(ha:TasksOk a):TasksOk b:=by
 refine⟨fun t' ht=> ?_,?_,by rw[h.len];exact ha.len⟩
 · obtain⟨t,ht1,hk⟩:=h.mem ht
   exact hk.ok (ha.each t ht1)
 · have:=ha.sorted
   rw[←List.pairwise_map (f:=fun t:Task=>t.No) (R:=fun x y:Int=>x<y)]at this⊢
   rw[h.nos];exact this
theorem KeepsL.taskIdx{a b:List Task}(h:KeepsL a b)(no:Int):AY b no=AY a no:=by
 unfold VR.AY
 induction h with
 |nil=>rfl
 |cons h1 _ ih=>rw[List.findIdx?_cons,List.findIdx?_cons,h1.no,ih]
theorem KeepsL.taskOf{a b:List Task}(h:KeepsL a b)(no:Int):Keeps (A6 a no) (A6 b no):=by
 unfold VR.A6;rw[h.taskIdx];cases e:VR.AY a no with
 |none=>exact Keeps.refl _
 |some i=>
  obtain⟨hi,_⟩:=B5 e;simp only;rw[Ab hi,Ab (by rw[h.len];exact hi)]
  exact h.at_ i hi
theorem KeepsL.executor{a b:List Task}(h:KeepsL a b)(ls:List Lock)(no:Int):Bu b ls no=Bu a ls no:=by
 unfold VR.Bu;cases Ay ls no with
 |none=>rfl
 |some c=>
  have e:(no::c).all (fun x=>(VR.AY b x).isSome)=(no::c).all (fun x=>(VR.AY a x).isSome):=by
   congr 1
   funext x
   rw[h.taskIdx]
  simp only[e]
theorem KeepsL.able{a b:List Task}(h:KeepsL a b)(ls:List Lock)(no:Int):Bm b ls no=Bm a ls no:=by
 unfold VR.Bm;rw[h.executor,(h.taskOf no).state,(h.taskOf _).state]
theorem og(ls:List Lock)(x:Turns)(cpu:Int)(h:TasksOk x.ts):KeepsL x.ts (CC ls x cpu).ts:=by
 unfold CC;cases e:Ai (B6 x.ts ls cpu)with
 |none=>exact KeepsL.refl _
 |some t=>
  have hm:=(FA _ none t e).resolve_right (fun h=>by cases h)
  have ht:t∈x.ts:=(List.mem_filter.1 hm).1;obtain⟨i,hi,e1,e2⟩:=EY h ht;simp only[e2,Option.getD_some];exact KeepsL.set _ i hi (by rw[e1];exact nb t _)
theorem QY(ls:List Lock)(x:Turns)(h:TasksOk x.ts): ∀k,KeepsL x.ts (A3 ls x k).ts
 |0=>KeepsL.refl _
 |k+1=>by
  unfold A3;rw[List.range_succ,List.foldl_append];have:=QY ls x h k;exact this.trans (og ls _ _ (this.tasksOk h))
theorem Iu(ls:List Lock)(x:Turns)(k:Nat):A3 ls x (k+1)=CC ls (A3 ls x k) (k:Int):=by
 unfold A3;rw[List.range_succ,List.foldl_append];rfl
theorem oh(ls:List Lock)(x:Turns)(cpu:Int):x.seq≤(CC ls x cpu).seq∧(CC ls x cpu).seq≤x.seq+1:=by
 unfold CC;cases Ai (B6 x.ts ls cpu)with
 |none=>exact⟨Int.le_refl _,by show x.seq≤x.seq+1;omega⟩
 |some t=>
  simp only;cases(Bg t (x.seq+1)).2<;>simp<;>omega
theorem QZ(ls:List Lock)(x:Turns): ∀k:Nat,x.seq≤(A3 ls x k).seq∧(A3 ls x k).seq≤x.seq+k
 |0=>by simp[A3]
 |k+1=>by
  have h1:=QZ ls x k;have h2:=oh ls (A3 ls x k) (k:Int);rw[Iu];omega
theorem oi(ls:List Lock)(x:Turns)(cpu:Int):(CC ls x cpu).tr.length=x.tr.length+1:=by
 unfold CC;cases Ai (B6 x.ts ls cpu)<;>simp
theorem Nk(ls:List Lock)(x:Turns): ∀k:Nat,(A3 ls x k).tr.length=x.tr.length+k
 |0=>by simp[A3]
 |k+1=>by rw[Iu,oi,Nk ls x k];omega
theorem Ng{s:Sys}(h:s.Now<100000):KeepsL s.Tasks (AS s):=
 (KeepsL.map _ fun t _=>KS h).trans (KeepsL.map _ fun t _=>ou h t)
theorem V0{s:Sys}(h:s.Now<100000)(ht:TasksOk s.Tasks):KeepsL s.Tasks (DL s).Tasks:=
 (Ng h).trans (QY s.Locks ⟨AS s,s.Seq,s.Trace⟩ ((Ng h).tasksOk ht) s.Cpus.toNat)
end Go.Proofs.YtbbgaleennfklaaGreat.VR
end
