/- Slices that are cut and filled in place: what a caller gets back; copies of elements of more than one cell. -/
import Derived.Test.YthoholbeacojfaaGreatA9
import Derived.Laws.IdiomCopy
import Derived.Laws.CopyRow
import Derived.ArgAppend
set_option linter.unusedVariables false
set_option linter.unusedSimpArgs false
set_option linter.unusedSectionVars false
set_option linter.unusedVariables false
set_option linter.unusedSimpArgs false
set_option linter.unusedSectionVars false
set_option maxRecDepth 100000
namespace Go.Proofs.YthoholbeacojfaaGreat.VR
open Go
section
variable {P:Program}{ty:Kd→TypeId}{R:Re}{w w':World}
theorem SR{g:Nat}{t:TypeId}: ∀(vs:List Value) (o:Nat) (cur:Array Value) (w:World),w.heap[g]? =some (.cells cur t (0,0))→o+vs.length≤cur.size→
 w.setCells g o vs=w.setRow g (cur.toList.take o++vs++cur.toList.drop (o+vs.length)).toArray
 | [],o,cur,w,hg,_=>by
   simp only[World.setCells,List.append_nil,List.length_nil,Nat.add_zero,List.take_append_drop,Array.toArray_toList];exact(setRow_self w g cur t (0,0) hg).symm
 |v::r,o,cur,w,hg,hl=>by
  have hi:o<cur.size:=by simp at hl;omega
  rw[World.setCells,setCell_eq_setRow w g o cur t (0,0) v hg,SR r (o+1) (cur.setIfInBounds o v) _ (setRow_heap w g cur _ t _ hg) (by simp at hl⊢;omega),setRow_setRow]
  congr 2
  have e:=list_seg_step cur.toList o v r (by simp at hl⊢;omega)
  simpa[Array.toList_setIfInBounds,Nat.add_assoc]using e
theorem setRow_other{w:World}{g:Nat}{cur:Array Value}{k:Nat}(h:k≠g):(w.setRow g cur).heap[k]? =w.heap[k]? :=by
 simp[World.setRow,Array.getElem?_modify,Ne.symm h]
theorem G8(w:World)(g:Nat)(cur:Array Value):w.grownBy (w.setRow g cur) (some g):=
 ⟨rfl,rfl,rfl,by simp[World.setRow],fun k hk hne=>setRow_other (fun e=>hne (by rw[e]))⟩
theorem PK(w:World)(dT sT t' elem:TypeId)(size:Nat)(g o dLen dCap:Nat)(a:Addr)(sLen sCap:Nat)(cur:Array Value)(t:TypeId)(cs:List Value)
 (hu:P.underlying dT=some (.slice elem)) (hs:(P.info? elem).map (·.size)=some size)
 (hg:w.heap[g]? =some (.cells cur t (0,0))) (hn:cs.length=Nat.min sLen dLen*size)
 (hsrc: ∀j v,cs[j]? =some v→w.cell? (a.add j)=some v) (hfit:o+cs.length≤cur.size) (h1: ∀v∈cs,v.oneCell'=true):
 (Builtin.copy_ #[dT,sT] t' #[.slice (some ⟨g,o,none⟩) dLen dCap,.slice (some a) sLen sCap]).run P w=
   .ok (goInt (Nat.min sLen dLen)) (w.setRow g (cur.toList.take o++cs++cur.toList.drop (o+cs.length)).toArray):=by
 have hfc:=run_firstCells_some (P:=P) w size (Nat.min sLen dLen) a sLen sCap cs hn hsrc;have hst:=run_storeCells_at P g o t cs 0 cur w hg (by simpa using hfit) h1
 cases hq:P.info? elem with
 |none=>simp[hq]at hs
 |some i=>
  have hi:i.size=size:=by simpa[hq]using hs
  simp[Builtin.copy_,run_underlying hu,Builtin.lenOf,sizeOf,typeInfo,hq,hi,hfc,hst]
theorem sE{β:Type}(L:List β)(a b:Nat)(cs vs L1:List β)(h1:b≤L.length)(hi:a+vs.length=b)(e:L1=L.take b++cs++L.drop (b+cs.length))(c:Nat)(hc:c=b+cs.length):
 (L1.take a++vs++L1.drop (a+vs.length)).take c=L.take a++vs++cs:=by
 have hb:(L.take b).length=b:=by rw[List.length_take];exact Nat.min_eq_left h1
 have e1:L1.take a=L.take a:=by
  rw[e,List.append_assoc,List.take_append_of_le_length (by omega),List.take_take,Nat.min_eq_left (by omega)]
 have e2:L1.drop (a+vs.length)=cs++L.drop (b+cs.length):=by
  rw[hi,e,List.append_assoc];exact List.drop_left' hb
 rw[e1,e2,←List.append_assoc];exact List.take_left' (by rw[List.length_append,List.length_append,List.length_take,Nat.min_eq_left (by omega)];omega)
theorem YC(w:World)(t e t':TypeId)(i:TypeInfo)(z:Value)(size:Nat)(hu:P.underlying t=some (.slice e))(hi:P.info? e=some i)(hz:i.zero=some z)(hzs:z.cells.size=size)
 (hone: ∀u∈z.cells.toList,u.oneCell'=true) (hs0:0<size) (g o c cc:Nat) (cur:Array Value) (e':TypeId) (hg:w.heap[g]? =some (.cells cur e' (0,0))) (hfit:o+c*size≤cur.size) (hc:0<c):
 (Builtin.clear_ #[t] t' #[.slice (some ⟨g,o,none⟩) c cc]).run P w=.ok (.tuple #[]) (w.setRow g (cur.toList.take o++(Builtin.zeroCells z.cells c).toList++cur.toList.drop (o+c*size)).toArray):=by
 have hl:(Builtin.zeroCells z.cells c).toList.length=c*size:=by rw[Array.length_toList,size_zeroCells,hzs]
 have hst:=run_storeCells_at P g o e' (Builtin.zeroCells z.cells c).toList 0 cur w hg (by rw[hl];simpa using hfit) (fun u hu=>by
  obtain⟨m,hm,rfl⟩:=List.getElem_of_mem hu;have hm':m<c*size:=by rw[←hl];exact hm
  simp only[Builtin.zeroCells,Array.getElem_toList,Array.getElem_map,Array.getElem_range];have h2:m % z.cells.size<z.cells.size:=Nat.mod_lt _ (by omega)
  rw[getElem!_def,Array.getElem?_eq_getElem h2];exact hone _ (by simp))
 obtain⟨c',rfl⟩: ∃c',c=c'+1:=⟨c-1,by omega⟩
 rw[hl]at hst;simp only[Nat.add_zero]at hst;simp[Builtin.clear_,run_underlying hu,zeroValue,typeInfo,hi,hz,hst]
theorem I9{Tb:TypeId→Option TI}(hT:TbOk P Tb ty){q:Kd}(hk:Cg Tb (ty q) q=true):
 ∃inf z,P.info? (ty q)=some inf∧inf.zero=some z∧inf.size=q.size∧z.cells.size=q.size∧inf.bytes≤131072∧ ∀u∈z.cells.toList,u.oneCell'=true:=by
 obtain⟨ti,inf,htk,hsz2,hi2,hz,hsi,hby,hzs,hb17⟩:=Ec (P:=P) hT hk;refine⟨inf,ti.zero,hi2,hz,hsi,hzs,by rw[hby];exact hb17,fun u hu=> ?_⟩
 obtain⟨m,hm,rfl⟩:=List.getElem_of_mem hu;have hm2:m<(q.cells q.dflt).length:=by rw[q.cells_length,←hzs,←Array.length_toList];exact hm
 obtain⟨u',h8,h9⟩:=hT.zero q ti htk hsz2 m _ (List.getElem?_eq_getElem hm2);rw[List.getElem?_eq_getElem hm]at h8;injection h8 with h8
 rw[h8];exact h9.one
theorem Rl{H:List E}(hh:HR ty R H w)(hrt: ∀s,s<H.length→ ∃k xs ho,AE H s=.root k xs ho){k:Kd}{xs:List k.T}{v:Value}{flat:List Value}
 (hos:w'.os=w.os) (htape:w'.tape=w.tape) (hout:w'.output=w.output) (hsize:w.heap.size≤w'.heap.size)
 (hblk: ∀g,g<w.heap.size→(∀s,s<H.length→R.T g≠some (.slot s))→w'.heap[g]? =w.heap[g]?)
 (hrow:w'.ownsRow 0 (ty k) k.size v xs.length flat) (hb: ∀g,v.ownBlock=some g→R.T g=some (.slot 0)∨w.heap.size≤g) (h1: ∀u∈flat,u.oneCell'=true)
 (hc: ∀i x,xs[i]? =some x→ ∀j c,(k.cells x)[j]? =some c→ ∃u,flat[i*k.size+j]? =some u∧Bc c u):
 ∃R',Step R w R' w'∧HR ty R' (List.replicate H.length .dead++[.root k xs .ok]) w'∧VR R' (List.replicate H.length .dead++[.root k xs .ok]) w' (.bor H.length) v:=by
 have hgl: ∀s,AE (H++[.fresh]) s=AE H s:=fun s=>OZ H 1 s
 have hh':HR ty R (H++[.fresh]) w:=by
  refine⟨fun s hs=> ?_,hh.none_⟩
  rw[hgl]
  by_cases h:s<H.length
  · obtain⟨k,xs,ho,e⟩:=hrt s h
    have:=hh.at_ s h;rw[e]at this⊢;exact this
  · have:AE H s=.fresh:=by
     by_cases h2:AE H s=.fresh
     ·exact h2
     ·exact absurd (BO h2) h
    rw[this];trivial
 have hfr:AE (H++[.fresh]) H.length=.fresh:=by
  rw[hgl]
  by_cases h2:AE H H.length=.fresh
  ·exact h2
  ·exact absurd (BO h2) (Nat.lt_irrefl _)
 have hd: ∀s,s<H.length→AE (List.replicate H.length E.dead++[.fresh]) s=.dead:=fun s hs=>by
  rw[show(List.replicate H.length E.dead++[E.fresh])=List.replicate H.length E.dead++List.replicate 1 E.fresh from rfl,OZ]
  simp[AE,List.getD,List.getElem?_replicate,hs]
 have hd2: ∀s,¬s<H.length→AE (List.replicate H.length E.dead++[E.fresh]) s=.fresh:=fun s hs=>by
  rw[show(List.replicate H.length E.dead++[E.fresh])=List.replicate H.length E.dead++List.replicate 1 E.fresh from rfl,OZ]
  simp[AE,List.getD,List.getElem?_replicate,hs]
 have hset:(List.replicate H.length E.dead++[E.fresh]).set H.length (.root k xs .ok)=List.replicate H.length E.dead++[E.root k xs .ok]:=by
  rw[List.set_append_right _ _ (by simp)]
  simp
 have hw:Grew R w w' (fun s=>s<H.length):=⟨hos,htape,hout,hsize,fun g hg hk=>hblk g hg fun s hs ht=>hk s _ hs ht rfl⟩
 have hnew:=IB (s:=H.length) (k:=k) (xs:=xs) (ho:=.ok) (v:=v) (H1:=List.replicate H.length E.dead++[.fresh]) (f:=CX 0 H.length) hh' (by simp) hfr hw rfl
  (fun s' t hc hne hof=>Ls hof (fun e=>by subst e;omega))
  (by simp)
  (fun s' hc=>by
    have e1:AE H s'=.fresh:=by
     by_cases h2:AE H s'=.fresh
     ·exact h2
     ·exact absurd (BO h2) hc
    rw[hgl,e1,hd2 s' hc])
  (fun s' hc=>by
    refine⟨?_,(by rw[hd s' hc];exact fun h=>(by cases h)),fun k' xs' ho' e=>(by rw[hd s' hc]at e;cases e)⟩
    obtain⟨k',xs',ho',e⟩:=hrt s' hc;rw[hgl,e];exact fun h=>by cases h)
  (.inr ⟨flat,hrow,fun g hg=>by
    show(if g<w.heap.size then(R.T g).map (CX 0 H.length)else if g<w'.heap.size then _ else _)=_
    rcases hb g hg with h3|h3
    · rw[if_pos (IQ hh h3),h3]
      simp[CX]
    ·rw[if_neg (by omega),if_pos (hrow.lt g hg).2],h1,fun i x hx j c hcc _=>by
    obtain⟨u,hu,hs⟩:=hc i x hx j c hcc;exact⟨u,hu,hs.own⟩⟩)
  (fun s' hc _=>by rw[hd s' hc];trivial)
 rw[hset]at hnew;refine⟨_,hnew.1.step,hnew.2,.bor _ _ ?_ ?_ fun k' xs' ho' e=>(Ds _ _ _).symm⟩
 ·rcases hrow.2 with⟨rfl,_⟩|⟨g,cap,cur,rfl,_⟩<;>rfl
 · have:AE (List.replicate H.length E.dead++[.root k xs .ok]) H.length=.root k xs .ok:=by simp[AE,List.getD]
   rw[this];exact fun h=>by cases h
structure DelW(P:Program)(f:FuncId)(e:TypeId)(sz:Nat):Prop where
 same: ∀(A:Option Addr) (n cap i:Nat) (w:World),i≤n→n≤cap→cap≤maxLen→
  Calls P f #[.slice A n cap,.int .i64 i,.int .i64 i] w fun x w'=>x=.returned (.slice A n cap)∧w'=w
 cut: ∀(w:World) (g cap:Nat) (cur:Array Value) (n i j:Nat),w.heap[g]? =some (.cells cur e (0,0))→cur.size=cap*sz→n≤cap→cap≤maxLen→i<j→j≤n→
  (∀u∈cur.toList.take (n*sz),u.oneCell'=true)→
  Calls P f #[.slice (some ⟨g,0,none⟩) n cap,.int .i64 i,.int .i64 j] w fun x w'=>x=.returned (.slice (some ⟨g,0,none⟩) (n-(j-i)) cap)∧w.grownBy w' (some g)∧
   ∃cur',w'.heap[g]? =some (.cells cur' e (0,0))∧cur'.size=cap*sz∧cur'.toList.take ((n-(j-i))*sz)=cur.toList.take (i*sz)++(cur.toList.take (n*sz)).drop (j*sz)
structure InsW(P:Program)(f:FuncId)(e:TypeId)(sz:Nat):Prop where
 same: ∀(A B:Option Addr) (n cap i cB:Nat) (w:World),i≤n→n≤cap→cap≤maxLen→
  Calls P f #[.slice A n cap,.int .i64 i,.slice B 0 cB] w fun x w'=>x=.returned (.slice A n cap)∧w'=w
 fill0: ∀(w:World) (A:Option Addr) (gb m cB:Nat) (curb:Array Value),w.heap[gb]? =some (.cells curb e (0,0))→m*sz≤curb.size→(∀u∈curb.toList.take (m*sz),u.oneCell'=true)→0<m→m≤lim→
  Calls P f #[.slice A 0 0,.int .i64 (0:Nat),.slice (some ⟨gb,0,none⟩) m cB] w fun x w'=> ∃v',x=.returned v'∧w'.ownsRow 0 e sz v' m (curb.toList.take (m*sz))∧w.grownBy w' none∧
   ∀q,v'.ownBlock=some q→w.heap.size≤q
 fill: ∀(w:World) (v:Value) (n:Nat) (flat:List Value) (gb m cB:Nat) (curb:Array Value) (i:Nat),w.ownsRow 0 e sz v n flat→(∀u∈flat,u.oneCell'=true)→
  w.heap[gb]? =some (.cells curb e (0,0))→m*sz≤curb.size→(∀u∈curb.toList.take (m*sz),u.oneCell'=true)→v.ownBlock≠some gb→0<m→i≤n→n+m≤lim→
  Calls P f #[v,.int .i64 i,.slice (some ⟨gb,0,none⟩) m cB] w fun x w'=> ∃v',x=.returned v'∧w'.ownsRow 0 e sz v' (n+m) (flat.take (i*sz)++curb.toList.take (m*sz)++flat.drop (i*sz))∧
   (∃row,w.grownBy w' row∧(row=none∨row=v.ownBlock))∧ ∀q,v'.ownBlock=some q→v.ownBlock=some q∨w.heap.size≤q
theorem Qw{k:Kd}{xs:List k.T}{flat:List Value}{T:Nat→Option Tag}{s:Nat}(hn:k.nests=false)
 (h: ∀i x,xs[i]? =some x→ ∀j c,(k.cells x)[j]? =some c→ ¬Ho.ok.at i j→ ∃u,flat[i*k.size+j]? =some u∧Be ty T w s i j c u):
 ∀i x,xs[i]? =some x→ ∀j c,(k.cells x)[j]? =some c→ ∃u,flat[i*k.size+j]? =some u∧Bc c u:=by
 intro i x hx j c hc;obtain⟨u,hu,ho⟩:=h i x hx j c hc (Ho.not_at rfl i j);exact⟨u,hu,ho.scal_of (Lu hn hc)⟩
theorem Qv{k:Kd}{xs ys:List k.T}{fx fy:List Value}(hl:fx.length=xs.length*k.size)
 (hx: ∀i x,xs[i]? =some x→ ∀j c,(k.cells x)[j]? =some c→ ∃u,fx[i*k.size+j]? =some u∧Bc c u)
 (hy: ∀i x,ys[i]? =some x→ ∀j c,(k.cells x)[j]? =some c→ ∃u,fy[i*k.size+j]? =some u∧Bc c u):
 ∀i x,(xs++ys)[i]? =some x→ ∀j c,(k.cells x)[j]? =some c→ ∃u,(fx++fy)[i*k.size+j]? =some u∧Bc c u:=by
 intro i x h j c hc;have hj:j<k.size:=by rw[←k.cells_length x];exact(List.getElem?_eq_some_iff.1 hc).1
 by_cases hi:i<xs.length
 · rw[List.getElem?_append_left hi]at h
   obtain⟨u,hu,hs⟩:=hx i x h j c hc;exact⟨u,by rw[List.getElem?_append_left (List.getElem?_eq_some_iff.1 hu).1];exact hu,hs⟩
 · rw[List.getElem?_append_right (by omega)]at h
   obtain⟨u,hu,hs⟩:=hy _ x h j c hc;refine⟨u,?_,hs⟩;have e:(i-xs.length)*k.size=i*k.size-xs.length*k.size:=Nat.sub_mul _ _ _;have hle:xs.length*k.size≤i*k.size:=Nat.mul_le_mul_right _ (by omega)
   rw[List.getElem?_append_right (by omega),hl,show i*k.size+j-xs.length*k.size=(i-xs.length)*k.size+j by omega]
   exact hu
theorem UW{k:Kd}{xs:List k.T}{fx:List Value}(n:Nat)(hx: ∀i x,xs[i]? =some x→ ∀j c,(k.cells x)[j]? =some c→ ∃u,fx[i*k.size+j]? =some u∧Bc c u):
 ∀i x,(xs.take n)[i]? =some x→ ∀j c,(k.cells x)[j]? =some c→ ∃u,(fx.take (n*k.size))[i*k.size+j]? =some u∧Bc c u:=by
 intro i x h j c hc;have hj:j<k.size:=by rw[←k.cells_length x];exact(List.getElem?_eq_some_iff.1 hc).1
 rw[List.getElem?_take]at h;split at h
 · rename_i hi
   obtain⟨u,hu,hs⟩:=hx i x h j c hc;have:=Nat.mul_le_mul_right k.size (show i+1≤n by omega)
   rw[Nat.add_mul]at this;exact⟨u,by rw[List.getElem?_take,if_pos (by omega)];exact hu,hs⟩
 ·cases h
theorem UV{k:Kd}{xs:List k.T}{fx:List Value}(n:Nat)(hx: ∀i x,xs[i]? =some x→ ∀j c,(k.cells x)[j]? =some c→ ∃u,fx[i*k.size+j]? =some u∧Bc c u):
 ∀i x,(xs.drop n)[i]? =some x→ ∀j c,(k.cells x)[j]? =some c→ ∃u,(fx.drop (n*k.size))[i*k.size+j]? =some u∧Bc c u:=by
 intro i x h j c hc;rw[List.getElem?_drop]at h;obtain⟨u,hu,hs⟩:=hx _ x h j c hc;refine⟨u,?_,hs⟩;rw[List.getElem?_drop,←hu,Nat.add_mul,Nat.add_assoc]
theorem Tv{f:FuncId}{k:Kd}(hn:k.nests=false)(hD:DelW P f (ty k) k.size){xs:List k.T}{i j:Int}(h0:0≤i)(hij:i≤j)(hj:j≤(xs.length:Int)):
 CK P ty f [.own k xs,.v (.int i),.v (.int j)] (.pair (.own k) .one) (xs.take i.toNat++xs.drop j.toNat,()):=by
 obtain⟨i,rfl⟩:=Int.eq_ofNat_of_zero_le h0;obtain⟨j,rfl⟩:=Int.eq_ofNat_of_zero_le (show 0≤j by omega)
 simp only[Int.toNat_natCast];have hij:i≤j:=by omega
 have hj:j≤xs.length:=by omega
 intro Rc w us hh hv;obtain⟨u0,u1,u2,rfl⟩: ∃u0 u1 u2,us=[u0,u1,u2]:=by
  have:=hv.1
  match us,this with
  | [u0,u1,u2],_=>exact⟨u0,u1,u2,rfl⟩
 have hu0:=hv.2 0 _ _ rfl rfl;have hu1:=(hv.2 1 _ _ rfl rfl).int_inv;have hu2:=(hv.2 2 _ _ rfl rfl).int_inv;subst hu1;subst hu2;have hb1:u0.oneCell'=true:=by cases hu0;assumption
 have e0:=hu0.bor_inv (kd:=k) (xs:=xs) (ho:=.ok) rfl;have hown:=Bq hh (r:=0) (q:=k) (xs:=xs) (ho:=.ok) rfl;rw[←e0]at hown
 by_cases he:i=j
 · subst he
   obtain⟨A,cap,rfl,hc1,hc2⟩: ∃A cap,u0=.slice A xs.length cap∧xs.length≤cap∧cap≤maxLen:=by
    rcases hown with⟨A,rfl,rfl⟩|⟨flat,hr,_⟩
    ·exact⟨A,0,rfl,Nat.le_refl _,Nat.zero_le _⟩
    · rcases hr.2 with⟨rfl,h⟩|⟨g,cap,cur,rfl,_,_,h1,h2,_⟩
      ·exact⟨none,0,by rw[h],by rw[h];exact Nat.le_refl _,Nat.zero_le _⟩
      ·exact⟨_,cap,rfl,h1,h2⟩
   refine(hD.same A xs.length cap i w hj hc1 hc2).mono ?_;rintro x w' ⟨rfl,rfl⟩;refine⟨_,rfl,Rc,[.root k xs .ok],.bor 0,Step.refl _ _,hh,hu0,hv,[.bor 0,.int i,.int i],[.dead],?_⟩;rw[List.take_append_drop];simp[layL,lay,AZ,AE,Ho.whole]
 · have hlt:i<j:=by omega
   rcases hown with⟨A,rfl,rfl⟩|⟨flat,hr,hT,h1,hcs⟩
   ·simp at hj;omega
   rcases hr.2 with⟨rfl,h⟩|⟨g,cap,cur,rfl,_,hg,hc1,hc2,hcs2,hfl⟩
   ·omega
   have hTg:Rc.T g=some (.slot 0):=hT g rfl;refine(hD.cut w g cap cur xs.length i j hg hcs2 hc1 hc2 hlt hj (by rw[hfl];exact h1)).mono ?_
   rintro x w' ⟨rfl,hgr,cur',hg',hs',hfl'⟩;rw[hfl]at hfl';have hl0:flat.length=xs.length*k.size:=hr.1;have hxl:(xs.take i++xs.drop j).length=xs.length-(j-i):=by simp;omega
   have hget:=Qw hn hcs;have hlk:=k.size_pos;have hil:i*k.size≤xs.length*k.size:=Nat.mul_le_mul_right _ (by omega)
   have hti:cur.toList.take (i*k.size)=flat.take (i*k.size):=by rw[←hfl,List.take_take,Nat.min_eq_left hil]
   rw[hti]at hfl';obtain⟨R',h2,h3,h4⟩:=Rl (H:=[.root k xs .ok]) (k:=k) (xs:=xs.take i++xs.drop j) (v:=.slice (some ⟨g,0,none⟩) (xs.length-(j-i)) cap) (flat:=flat.take (i*k.size)++flat.drop (j*k.size)) hh
    (fun s hs=>by have:s=0:=by simpa using hs
                  subst this;exact⟨k,xs,.ok,rfl⟩) hgr.os hgr.tape hgr.output hgr.size
    (fun g' hg' hne=>hgr.block g' hg' fun e=>hne 0 (by simp) (by injection e with e;rw[e];exact hTg))
    (by
      rw[hxl];refine⟨?_,.inr ⟨g,cap,cur',rfl,Nat.zero_le _,hg',by omega,hc2,hs',hfl'⟩⟩
      rw[←hfl',List.length_take,show cur'.toList.length=cap*k.size from Array.length_toList.trans hs']
      exact Nat.min_eq_left (Nat.mul_le_mul_right _ (by omega)))
    (fun g' hg'=>by simp[Value.ownBlock]at hg';subst hg';exact .inl hTg)
    (fun u hu=>by
      rcases List.mem_append.1 hu with hu|hu
      ·exact h1 u (List.mem_of_mem_take hu)
      ·exact h1 u (List.mem_of_mem_drop hu))
    (Qv (by rw[List.length_take,List.length_take,hl0,Nat.min_eq_left hil,Nat.min_eq_left (by omega)]) (UW i hget) (UV j hget))
   refine⟨_,rfl,R',[.dead,.root k (xs.take i++xs.drop j) .ok],.bor 1,h2,h3,h4,?_,[.bor 0,.int i,.int j],[.dead,.dead],?_⟩
   ·exact VRs.mk (.bor 0 _ hb1 (by simp[AE]) fun k' xs' ho' e=>by simp[AE]at e) (VRs.mk (.int _) (VRs.mk (.int _) VRs.nil))
   ·simp[layL,lay,AZ,AE,Ho.whole]
theorem c9{f:FuncId}{k:Kd}(hn:k.nests=false)(hI:InsW P f (ty k) k.size){xs ys:List k.T}{i:Int}(h0:0≤i)(hi:i≤(xs.length:Int))(hlim:xs.length+ys.length≤lim):
 CK P ty f [.own k xs,.v (.int i),.own k ys] (.pair (.own k) .one) (xs.take i.toNat++ys++xs.drop i.toNat,()):=by
 obtain⟨i,rfl⟩:=Int.eq_ofNat_of_zero_le h0;simp only[Int.toNat_natCast];have hi:i≤xs.length:=by omega
 intro Rc w us hh hv;obtain⟨u0,u1,u2,rfl⟩: ∃u0 u1 u2,us=[u0,u1,u2]:=by
  have:=hv.1
  match us,this with
  | [u0,u1,u2],_=>exact⟨u0,u1,u2,rfl⟩
 have hu0:=hv.2 0 _ _ rfl rfl;have hu1:=(hv.2 1 _ _ rfl rfl).int_inv;have hu2:=hv.2 2 _ _ rfl rfl;subst hu1;have hb1:u0.oneCell'=true:=by cases hu0;assumption
 have hb2:u2.oneCell'=true:=by cases hu2;assumption
 have e0:=hu0.bor_inv (kd:=k) (xs:=xs) (ho:=.ok) rfl;have e2:u2=Rc.ρ 1:=VR.bor_inv (q:=1) hu2 (kd:=k) (xs:=ys) (ho:=.ok) rfl;have hown:=Bq hh (r:=0) (q:=k) (xs:=xs) (ho:=.ok) rfl;have hown2:=Bq hh (r:=1) (q:=k) (xs:=ys) (ho:=.ok) rfl;rw[←e0]at hown;rw[←e2]at hown2
 by_cases hm:ys.length=0
 · have hy:ys=[]:=List.eq_nil_of_length_eq_zero hm
   subst hy;obtain⟨A,cap,rfl,hc1,hc2⟩: ∃A cap,u0=.slice A xs.length cap∧xs.length≤cap∧cap≤maxLen:=by
    rcases hown with⟨A,rfl,rfl⟩|⟨flat,hr,_⟩
    ·exact⟨A,0,rfl,Nat.le_refl _,Nat.zero_le _⟩
    · rcases hr.2 with⟨rfl,h⟩|⟨g,cap,cur,rfl,_,_,h1,h2,_⟩
      ·exact⟨none,0,by rw[h],by rw[h];exact Nat.le_refl _,Nat.zero_le _⟩
      ·exact⟨_,cap,rfl,h1,h2⟩
   obtain⟨B,cB,rfl⟩: ∃B cB,u2=.slice B 0 cB:=by
    rcases hown2 with⟨A,rfl,_⟩|⟨flat,hr,_⟩
    ·exact⟨A,0,rfl⟩
    · rcases hr.2 with⟨rfl,h⟩|⟨g,cap,cur,rfl,_⟩
      ·exact⟨none,0,rfl⟩
      ·exact⟨_,cap,rfl⟩
   refine(hI.same A B xs.length cap i cB w hi hc1 hc2).mono ?_;rintro x w' ⟨rfl,rfl⟩;refine⟨_,rfl,Rc,[.root k xs .ok,.root k [] .ok],.bor 0,Step.refl _ _,hh,hu0,hv,[.bor 0,.int i,.bor 1],[.dead,.root k [] .ok],?_⟩;rw[List.append_nil,List.take_append_drop];simp[layL,lay,AZ,AE,Ho.whole]
 · obtain⟨gb,cB,curb,rfl,hgb,hmb,h1b,hTb,hcb⟩: ∃gb cB curb,u2=.slice (some ⟨gb,0,none⟩) ys.length cB∧w.heap[gb]? =some (.cells curb (ty k) (0,0))∧ys.length*k.size≤curb.size∧
    (∀u∈curb.toList.take (ys.length*k.size),u.oneCell'=true)∧Rc.T gb=some (.slot 1)∧
    ∀i x,ys[i]? =some x→ ∀j c,(k.cells x)[j]? =some c→ ∃u,(curb.toList.take (ys.length*k.size))[i*k.size+j]? =some u∧Bc c u:=by
    rcases hown2 with⟨A,rfl,rfl⟩|⟨flat,hr,hT,h1,hcs⟩
    ·simp at hm
    · rcases hr.2 with⟨rfl,h⟩|⟨g,cap,cur,rfl,_,hg,hc1,hc2,hcs2,hfl⟩
      ·omega
      · refine⟨g,cap,cur,rfl,hg,by rw[hcs2];exact Nat.mul_le_mul_right _ hc1,by rw[hfl];exact h1,hT g rfl,?_⟩
        rw[hfl];exact Qw hn hcs
   have hlk:=k.size_pos;have hml:(curb.toList.take (ys.length*k.size)).length=ys.length*k.size:=by rw[List.length_take,Array.length_toList];exact Nat.min_eq_left hmb
   have hroots: ∀s,s<([.root k xs .ok,.root k ys .ok]:List E).length→ ∃k' xs' ho,AE [.root k xs .ok,.root k ys .ok] s=.root k' xs' ho:=fun s hs=>by
    have:s=0∨s=1:=by have:s<2:=by simpa using hs
                     omega
    rcases this with rfl|rfl
    ·exact⟨k,xs,.ok,rfl⟩
    ·exact⟨k,ys,.ok,rfl⟩
   have fin: ∀(w':World) (v:Value) (R':Re),Step Rc w R' w'→HR ty R' [.dead,.dead,.root k (xs.take i++ys++xs.drop i) .ok] w'→VR R' [.dead,.dead,.root k (xs.take i++ys++xs.drop i) .ok] w' (.bor 2) v→
    ∃v1,Ending.returned v=.returned v1∧ ∃(Rc':Re) (Hf:List E) (vf:V),Step Rc w Rc' w'∧HR ty Rc' Hf w'∧VR Rc' Hf w' vf v1∧VRs Rc' Hf w' (layL [.own k xs,.v (.int i),.own k ys] 0).1 [u0,.int .i64 i,.slice (some ⟨gb,0,none⟩) ys.length cB]∧
     ∃rest Hf',AZ (.pair (.own k) .one) (vf::(layL [.own k xs,.v (.int i),.own k ys] 0).1) Hf=some ((xs.take i++ys++xs.drop i,()),rest,Hf'):=by
    intro w' v R' h2 h3 h4;refine⟨_,rfl,R',_,.bor 2,h2,h3,h4,?_,[.bor 0,.int i,.bor 1],[.dead,.dead,.dead],?_⟩
    ·exact VRs.mk (.bor 0 _ hb1 (by simp[AE]) fun k' xs' ho' e=>by simp[AE]at e) (VRs.mk (.int _) (VRs.mk (.bor 1 _ hb2 (by simp[AE]) fun k' xs' ho' e=>by simp[AE]at e) VRs.nil))
    ·simp[layL,lay,AZ,AE,Ho.whole]
   rcases hown with⟨A,rfl,rfl⟩|⟨flat,hr,hT,h1,hcs⟩
   · have h00:i=0:=by simpa using hi
     subst h00;refine(hI.fill0 w A gb ys.length cB curb hgb hmb h1b (by omega) (by simpa using hlim)).mono ?_
     rintro x w' ⟨v,rfl,hrow,hgr,hq⟩;obtain⟨R',h2,h3,h4⟩:=Rl (H:=[.root k [] .ok,.root k ys .ok]) (k:=k) (xs:=ys) (v:=v) (flat:=curb.toList.take (ys.length*k.size)) hh hroots hgr.os hgr.tape hgr.output hgr.size
      (fun g' hg' hne=>hgr.block g' hg' (fun e=>by cases e)) hrow (fun g hg=>.inr (hq g hg)) h1b hcb
     exact fin w' v R' h2 (by simpa using h3) (by simpa using h4)
   · have hl0:flat.length=xs.length*k.size:=hr.1
     have hil:i*k.size≤xs.length*k.size:=Nat.mul_le_mul_right _ hi;have hget:=Qw hn hcs;have hne:u0.ownBlock≠some gb:=fun e=>by
      have:=hT gb e;rw[hTb]at this;cases this
     refine(hI.fill w u0 xs.length flat gb ys.length cB curb i hr h1 hgb hmb h1b hne (by omega) hi hlim).mono ?_
     rintro x w' ⟨v,rfl,hrow,⟨row,hgr,hrw⟩,hq⟩;obtain⟨R',h2,h3,h4⟩:=Rl (H:=[.root k xs .ok,.root k ys .ok]) (k:=k) (xs:=xs.take i++ys++xs.drop i) (v:=v) (flat:=flat.take (i*k.size)++curb.toList.take (ys.length*k.size)++flat.drop (i*k.size)) hh hroots hgr.os hgr.tape hgr.output hgr.size
      (fun g' hg' hnn=>hgr.block g' hg' (fun e=>by
        rcases hrw with rfl|rfl
        ·cases e
        ·exact hnn 0 (by simp) (hT g' e.symm)))
      (by
        have e:(xs.take i++ys++xs.drop i).length=xs.length+ys.length:=by simp;omega
        rw[e];exact hrow)
      (fun g hg=>(hq g hg).imp (hT g) id)
      (fun u hu=>by
        rcases List.mem_append.1 hu with hu|hu
        · rcases List.mem_append.1 hu with hu|hu
          ·exact h1 u (List.mem_of_mem_take hu)
          ·exact h1b u hu
        ·exact h1 u (List.mem_of_mem_drop hu))
      (Qv (by rw[List.length_append,hml,List.length_append,List.length_take,List.length_take,hl0,Nat.min_eq_left hil,Nat.min_eq_left hi,Nat.add_mul])
        (Qv (by rw[List.length_take,List.length_take,hl0,Nat.min_eq_left hil,Nat.min_eq_left hi]) (UW i hget) hcb) (UV i hget))
     exact fin w' v R' h2 h3 h4
end
end Go.Proofs.YthoholbeacojfaaGreat.VR
