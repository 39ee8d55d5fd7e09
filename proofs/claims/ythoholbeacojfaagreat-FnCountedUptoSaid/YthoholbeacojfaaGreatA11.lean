/- slices.Insert, slices.Delete: what they come to. -/
import Derived.Test.YthoholbeacojfaaGreatA10
import Derived.Shelf.RegionOpenPlain
import Derived.Deep.LoopGhost
import Derived.Deep.RegionLaw
import Derived.Lib.Walk
import Derived.Lib.JoinLaws
import Derived.Lib.AppendZeros
import Derived.Lib.AppendZerosOnto
import Derived.Lib.Overlaps
import Derived.Laws.Externs
import Derived.Laws.NewBlocks
set_option linter.unusedVariables false
set_option linter.unusedSimpArgs false
set_option linter.unusedSectionVars false
section
set_option linter.unusedVariables false
set_option linter.unusedSimpArgs false
namespace Go.Proofs.YthoholbeacojfaaGreat.VR
open Go Go.Shelf Go.RowKit Go.Lib
set_option maxHeartbeats 4000000 in
set_option maxRecDepth 1000000 in
theorem af (A:Option Addr) (n cap i:Nat) (w:World) (hi:i≤n) (hn:n≤cap) (hm:cap≤maxLen):
 Calls Go.Proofs.Tryz.prog 242 #[.slice A n cap,.int .i64 i,.int .i64 i] w fun x w'=>x=.returned (.slice A n cap)∧w'=w:=by
 unfold maxLen at hm
 go_enter Go.Proofs.Tryz.func242,Go.Proofs.Tryz.ntmps242
 go_wp2
 all_goals(go_ret;exact⟨rfl,rfl⟩)
set_option maxHeartbeats 4000000 in
set_option maxRecDepth 1000000 in
theorem ab (w:World) (g cap:Nat) (cur:Array Value) (n i j:Nat) (hg:w.heap[g]? =some (.cells cur (tyK .task) (0,0))) (hcs:cur.size=cap*14) (hc1:n≤cap) (hc2:cap≤maxLen) (hlt:i<j) (hj:j≤n)
 (hone: ∀u∈cur.toList.take (n*14),u.oneCell'=true):
 Calls Go.Proofs.Tryz.prog 242 #[.slice (some ⟨g,0,none⟩) n cap,.int .i64 i,.int .i64 j] w fun x w'=>x=.returned (.slice (some ⟨g,0,none⟩) (n-(j-i)) cap)∧w.grownBy w' (some g)∧
  ∃cur',w'.heap[g]? =some (.cells cur' (tyK .task) (0,0))∧cur'.size=cap*14∧cur'.toList.take ((n-(j-i))*14)=cur.toList.take (i*14)++(cur.toList.take (n*14)).drop (j*14):=by
 have hc3:cap≤9223372036854775807:=hc2;have mixed:=Ju;obtain⟨inf,z,hi2,hz,hsi,hzs,hb17,hzo⟩:=I9 (q:=.task) Cv (by kernel_rfl)
 obtain⟨news,hnews⟩: ∃news,news=(cur.toList.take (n*14)).drop (j*14):=⟨_,rfl⟩;have hcl:cur.toList.length=cap*14:=Array.length_toList.trans hcs;have hlen:news.length=(n-j)*14:=by rw[hnews,List.length_drop,List.length_take,hcl];omega
 obtain⟨A,hA,hsrc⟩: ∃A:Addr,(if cap=j then some (⟨g,0,none⟩:Addr)else some ⟨g,j*14,none⟩)=some A∧Hid (∀t u,news[t]? =some u→w.drew.cell? (A.add t)=some u):=by
  by_cases h:cap=j
  · refine⟨⟨g,0,none⟩,by simp[h],fun t u hu=> ?_⟩
    have h0:news.length=0:=by rw[hlen];omega
    rw[List.length_eq_zero_iff.1 h0]at hu;simp at hu
  · refine⟨⟨g,j*14,none⟩,by simp[h],fun t u hu=> ?_⟩
    rw[Cy];rw[hnews,List.getElem?_drop,List.getElem?_take]at hu;split at hu
    · show w.cell? _=_
      rw[Array.getElem?_toList]at hu;simp[World.cell?,hg,hu]
    ·cases hu
 have s1:Hid (news.length=(n-j)*14):=hlen;have s2:Hid (∀u∈news,u.oneCell'=true):=fun u hu=>hone u (by rw[hnews]at hu;exact List.mem_of_mem_drop hu)
 have s3:Hid (∀t,t<news.length→(w.drew.cell? ⟨g,0+i*14+t,none⟩).isSome=true∧w.drew.frozen? ⟨g,0+i*14+t,none⟩=false):=by
  intro t ht;rw[hlen]at ht;refine⟨?_,?_⟩
  · show(w.cell? _).isSome=true
    have:0+i*14+t<cur.size:=by rw[hcs];omega
    simp only[World.cell?,hg];rw[Array.getElem?_eq_getElem this];rfl
  · show w.frozen? _=false
    simp[World.frozen?,hg]
 obtain⟨W1,hW1⟩: ∃W1,W1=w.drew.setCells g (0+i*14) news:=⟨_,rfl⟩;obtain⟨cur1,hcur1⟩: ∃cur1,cur1=(cur.toList.take (0+i*14)++news++cur.toList.drop (0+i*14+news.length)).toArray:=⟨_,rfl⟩;have hW1':W1=w.drew.setRow g cur1:=by rw[hW1,hcur1];exact SR news _ cur w.drew hg (by rw[hlen,hcs];omega)
 have hs1:cur1.size=cap*14:=by rw[hcur1];simp[hlen,hcs];omega
 have hg1:W1.heap[g]? =some (.cells cur1 (tyK .task) (0,0)):=by rw[hW1'];exact setRow_heap w.drew g cur cur1 _ _ hg
 obtain⟨cur2,hcur2⟩: ∃cur2,cur2=(cur1.toList.take ((i+(n-j))*14)++(Builtin.zeroCells z.cells (n-(i+(n-j)))).toList++cur1.toList.drop ((i+(n-j))*14+(n-(i+(n-j)))*14)).toArray:=⟨_,rfl⟩;have hcl2: ∀ty,(Builtin.clear_ #[24] ty #[.slice (some ⟨g,(i+(n-j))*14,none⟩) (n-(i+(n-j))) (cap-(i+(n-j)))]).run Go.Proofs.Tryz.prog W1=.ok (.tuple #[]) (W1.setRow g cur2):=fun ty=>by
  rw[hcur2];exact YC W1 24 (tyK .task) ty inf z 14 (by kernel_rfl) hi2 hz hzs hzo (by decide) g _ _ _ cur1 (tyK .task) hg1 (by rw[hs1];omega) (by omega)
 have hW:Hid (W1=w.drew.setCells g (0+i*14) news):=hW1;have hic:i≤cap:=by omega
 have hjc:j≤cap:=by omega
 have X1:Hid (W1=w.drew.setRow g cur1):=hW1';have X2:Hid (cur1=(cur.toList.take (0+i*14)++news++cur.toList.drop (0+i*14+news.length)).toArray):=hcur1;have X3:Hid (cur2=(cur1.toList.take ((i+(n-j))*14)++(Builtin.zeroCells z.cells (n-(i+(n-j)))).toList++cur1.toList.drop ((i+(n-j))*14+(n-(i+(n-j)))*14)).toArray):=hcur2;have X4:Hid (news=(cur.toList.take (n*14)).drop (j*14)):=hnews;have X5:Hid (cur1.size=cap*14):=hs1;have X6:Hid (cur.size=cap*14):=hcs;have X7:Hid (W1.heap[g]? =some (.cells cur1 (tyK .task) (0,0))):=hg1;have X8:Hid (w.heap[g]? =some (.cells cur (tyK .task) (0,0))):=hg;have X9:Hid (Go.Proofs.Tryz.prog.info? (tyK .task)=some inf):=hi2;have X12:Hid (z.cells.size=14):=hzs;have X10:Hid (inf.size=14):=hsi;clear hW1 hW1' hcur1 hcur2 hnews hlen hs1 hg1 hcs hg hone hcl hi2 hz hsi hzs hb17 hzo
 go_enter Go.Proofs.Tryz.func242,Go.Proofs.Tryz.ntmps242
 go_wp2_with fail
 go_region_law_o (refine step_append_room rfl (.tmp 22) (.tmp 25) 24 rfl (tyK .task) inf 14 (by kernel_rfl) X9.out X10.out g 0 i cap (by simp[Act.eval,Act.put]) A (n-j) (cap-j) news (by simp[Act.eval,Act.put,hA]) s1.out hsrc.out s2.out (by omega) s3.out ?_;rw[←hW.out])
 go_wp2
 go_ret
 refine⟨by rw[show n-(j-i)=i+(n-j) by omega];rfl,?_,cur2,setRow_heap W1 g cur1 cur2 _ _ X7.out,?_,?_⟩
 · rw[X1.out]
   refine⟨rfl,rfl,rfl,Nat.le_trans (G8 w.drew g cur1).size (G8 _ g cur2).size,fun k hk hne=> ?_⟩
   have hne':k≠g:=fun e=>hne (by rw[e])
   rw[setRow_other hne',setRow_other hne'];rfl
 · have h5:=X5.out
   rw[X3.out];simp[size_zeroCells,X12.out,h5];omega
 · have h5:=X5.out
   have h6:=X6.out;have hl1:(cur1.toList.take ((i+(n-j))*14)).length=(n-(j-i))*14:=by rw[List.length_take,Array.length_toList,h5];omega
   rw[X3.out];simp only[List.toList_toArray];rw[List.append_assoc,←hl1,List.take_left];have hl2:(cur.toList.take (0+i*14)++news).length=(i+(n-j))*14:=by rw[List.length_append,s1.out,List.length_take,Array.length_toList,h6];omega
   rw[X2.out];simp only[List.toList_toArray];rw[←hl2,List.take_left,X4.out,Nat.zero_add]
set_option maxHeartbeats 4000000 in
set_option maxRecDepth 1000000 in
theorem ae (A:Option Addr) (n cap i:Nat) (w:World) (hi:i≤n) (hn:n≤cap) (hm:cap≤maxLen):
 Calls Go.Proofs.Tryz.prog 255 #[.slice A n cap,.int .i64 i,.int .i64 i] w fun x w'=>x=.returned (.slice A n cap)∧w'=w:=by
 unfold maxLen at hm
 go_enter Go.Proofs.Tryz.func255,Go.Proofs.Tryz.ntmps255
 go_wp2
 all_goals(go_ret;exact⟨rfl,rfl⟩)
set_option maxHeartbeats 4000000 in
set_option maxRecDepth 1000000 in
theorem aZ (w:World) (g cap:Nat) (cur:Array Value) (n i j:Nat) (hg:w.heap[g]? =some (.cells cur (tyK .int) (0,0))) (hcs:cur.size=cap*1) (hc1:n≤cap) (hc2:cap≤maxLen) (hlt:i<j) (hj:j≤n)
 (hone: ∀u∈cur.toList.take (n*1),u.oneCell'=true):
 Calls Go.Proofs.Tryz.prog 255 #[.slice (some ⟨g,0,none⟩) n cap,.int .i64 i,.int .i64 j] w fun x w'=>x=.returned (.slice (some ⟨g,0,none⟩) (n-(j-i)) cap)∧w.grownBy w' (some g)∧
  ∃cur',w'.heap[g]? =some (.cells cur' (tyK .int) (0,0))∧cur'.size=cap*1∧cur'.toList.take ((n-(j-i))*1)=cur.toList.take (i*1)++(cur.toList.take (n*1)).drop (j*1):=by
 have hc3:cap≤9223372036854775807:=hc2;have mixed:=Ju;obtain⟨inf,z,hi2,hz,hsi,hzs,hb17,hzo⟩:=I9 (q:=.int) Cv (by kernel_rfl)
 obtain⟨news,hnews⟩: ∃news,news=(cur.toList.take (n*1)).drop (j*1):=⟨_,rfl⟩;have hcl:cur.toList.length=cap*1:=Array.length_toList.trans hcs;have hlen:news.length=(n-j)*1:=by rw[hnews,List.length_drop,List.length_take,hcl];omega
 obtain⟨A,hA,hsrc⟩: ∃A:Addr,(if cap=j then some (⟨g,0,none⟩:Addr)else some ⟨g,j,none⟩)=some A∧Hid (∀t u,news[t]? =some u→w.drew.cell? (A.add t)=some u):=by
  by_cases h:cap=j
  · refine⟨⟨g,0,none⟩,by simp[h],fun t u hu=> ?_⟩
    have h0:news.length=0:=by rw[hlen];omega
    rw[List.length_eq_zero_iff.1 h0]at hu;simp at hu
  · refine⟨⟨g,j,none⟩,by simp[h],fun t u hu=> ?_⟩
    rw[Cy];rw[hnews,List.getElem?_drop,List.getElem?_take]at hu;split at hu
    · show w.cell? _=_
      rw[Array.getElem?_toList,Nat.mul_one]at hu;simp[World.cell?,hg,hu]
    ·cases hu
 have s1:Hid (news.length=(n-j)*1):=hlen;have s2:Hid (∀u∈news,u.oneCell'=true):=fun u hu=>hone u (by rw[hnews]at hu;exact List.mem_of_mem_drop hu)
 have s3:Hid (∀t,t<news.length→(w.drew.cell? ⟨g,0+i*1+t,none⟩).isSome=true∧w.drew.frozen? ⟨g,0+i*1+t,none⟩=false):=by
  intro t ht;rw[hlen]at ht;refine⟨?_,?_⟩
  · show(w.cell? _).isSome=true
    have:0+i*1+t<cur.size:=by rw[hcs];omega
    simp only[World.cell?,hg];rw[Array.getElem?_eq_getElem this];rfl
  · show w.frozen? _=false
    simp[World.frozen?,hg]
 obtain⟨W1,hW1⟩: ∃W1,W1=w.drew.setCells g (0+i*1) news:=⟨_,rfl⟩;obtain⟨cur1,hcur1⟩: ∃cur1,cur1=(cur.toList.take (0+i*1)++news++cur.toList.drop (0+i*1+news.length)).toArray:=⟨_,rfl⟩;have hW1':W1=w.drew.setRow g cur1:=by rw[hW1,hcur1];exact SR news _ cur w.drew hg (by rw[hlen,hcs];omega)
 have hs1:cur1.size=cap*1:=by rw[hcur1];simp[hlen,hcs];omega
 have hg1:W1.heap[g]? =some (.cells cur1 (tyK .int) (0,0)):=by rw[hW1'];exact setRow_heap w.drew g cur cur1 _ _ hg
 obtain⟨cur2,hcur2⟩: ∃cur2,cur2=(cur1.toList.take (i+(n-j))++(Builtin.zeroCells z.cells (n-(i+(n-j)))).toList++cur1.toList.drop (i+(n-j)+(n-(i+(n-j)))*1)).toArray:=⟨_,rfl⟩;have hcl2: ∀ty,(Builtin.clear_ #[27] ty #[.slice (some ⟨g,i+(n-j),none⟩) (n-(i+(n-j))) (cap-(i+(n-j)))]).run Go.Proofs.Tryz.prog W1=.ok (.tuple #[]) (W1.setRow g cur2):=fun ty=>by
  rw[hcur2];exact YC W1 27 (tyK .int) ty inf z 1 (by kernel_rfl) hi2 hz hzs hzo (by decide) g _ _ _ cur1 (tyK .int) hg1 (by rw[hs1];omega) (by omega)
 have hW:Hid (W1=w.drew.setCells g (0+i*1) news):=hW1;have hic:i≤cap:=by omega
 have hjc:j≤cap:=by omega
 have X1:Hid (W1=w.drew.setRow g cur1):=hW1';have X2:Hid (cur1=(cur.toList.take (0+i*1)++news++cur.toList.drop (0+i*1+news.length)).toArray):=hcur1;have X3:Hid (cur2=(cur1.toList.take (i+(n-j))++(Builtin.zeroCells z.cells (n-(i+(n-j)))).toList++cur1.toList.drop (i+(n-j)+(n-(i+(n-j)))*1)).toArray):=hcur2;have X4:Hid (news=(cur.toList.take (n*1)).drop (j*1)):=hnews;have X5:Hid (cur1.size=cap*1):=hs1;have X6:Hid (cur.size=cap*1):=hcs;have X7:Hid (W1.heap[g]? =some (.cells cur1 (tyK .int) (0,0))):=hg1;have X8:Hid (w.heap[g]? =some (.cells cur (tyK .int) (0,0))):=hg;have X9:Hid (Go.Proofs.Tryz.prog.info? (tyK .int)=some inf):=hi2;have X12:Hid (z.cells.size=1):=hzs;have X10:Hid (inf.size=1):=hsi;clear hW1 hW1' hcur1 hcur2 hnews hlen hs1 hg1 hcs hg hone hcl hi2 hz hsi hzs hb17 hzo
 go_enter Go.Proofs.Tryz.func255,Go.Proofs.Tryz.ntmps255
 go_wp2_with fail
 go_region_law_o (refine step_append_room rfl (.tmp 22) (.tmp 25) 27 rfl (tyK .int) inf 1 (by kernel_rfl) X9.out X10.out g 0 i cap (by simp[Act.eval,Act.put]) A (n-j) (cap-j) news (by simp[Act.eval,Act.put,hA]) s1.out hsrc.out s2.out (by omega) s3.out ?_;rw[←hW.out])
 go_wp2
 go_ret
 refine⟨by rw[show n-(j-i)=i+(n-j) by omega];rfl,?_,cur2,setRow_heap W1 g cur1 cur2 _ _ X7.out,?_,?_⟩
 · rw[X1.out]
   refine⟨rfl,rfl,rfl,Nat.le_trans (G8 w.drew g cur1).size (G8 _ g cur2).size,fun k hk hne=> ?_⟩
   have hne':k≠g:=fun e=>hne (by rw[e])
   rw[setRow_other hne',setRow_other hne'];rfl
 · have h5:=X5.out
   rw[X3.out];simp[size_zeroCells,X12.out,h5];omega
 · have h5:=X5.out
   have h6:=X6.out;have hl1:(cur1.toList.take (i+(n-j))).length=(n-(j-i))*1:=by rw[List.length_take,Array.length_toList,h5];omega
   rw[X3.out];simp only[List.toList_toArray];rw[List.append_assoc,←hl1,List.take_left];have hl2:(cur.toList.take (0+i*1)++news).length=(i+(n-j)):=by rw[List.length_append,s1.out,List.length_take,Array.length_toList,h6];omega
   rw[X2.out];simp only[List.toList_toArray];rw[←hl2,List.take_left,X4.out,Nat.zero_add]
variable {P:Program}
theorem ZY(w:World){ops:Array Oper}{rest:List Oper}{o:Oper}{a:Act}{Q:Exit→Act→World→Prop}(hgd:o.guard=none)(d s:Operand)(t t':TypeId)
 (ho:o.op=.call {callee:=.builtin .copy,args:= #[d,s],argTypes:= #[t,t']}) (v u:Value) (hd:a.eval d=v) (hs:a.eval s=u) {v':Value} {w':World}
 (hr:(Builtin.copy_ #[t,t'] o.type #[v,u]).run P w=.ok v' w') (h:wpList P ops Q rest (a.put o.dst v') w'):wpList P ops Q (o::rest) a w:=
 wpList_plain hgd fun _ hK=>by
  unfold Oper.wp execOp;simp only[ho,resolve,invoke,builtin,Sem.run_bind,Sem.run_pure,Result.andThen_ok,List.map_toArray,List.map_cons,List.map_nil,hd,hs,hr];exact hK _ _ h
theorem Yo{ops:Array Oper}{o:Oper}{a:Act}{w:World}{K:Act→World→Prop}{Q:Exit→Act→World→Prop}{E:Prop}
 (hg:o.guard=none) (d x:Operand) (dT sT:TypeId) (hop:o.op=Op.call {callee:=Callee.builtin Builtin.copy,args:= #[d,x],argTypes:= #[dT,sT]})
 (v u:Value) (hd:a.eval d=v) (hx:a.eval x=u) {v':Value} {w':World} (hr:(Builtin.copy_ #[dT,sT] o.type #[v,u]).run P w=.ok v' w') (hK:K (a.put o.dst v') w'):
 if Region.wanted o (yielded ops a.tmps)=true then Oper.wp P o a w K Q else E:=by
 have hw:Region.wanted o (yielded ops a.tmps)=true:=by simp[Region.wanted,hg]
 rw[if_pos hw];unfold Oper.wp;simp[execOp,hop,resolve,invoke,builtin,hd,hx,hr,Result.andThen];exact hK
set_option maxHeartbeats 4000000 in
set_option maxRecDepth 1000000 in
theorem dB (A B:Option Addr) (n cap i cB:Nat) (w:World) (hi:i≤n) (hn:n≤cap) (hm:cap≤maxLen):
 Calls Go.Proofs.Tryz.prog 241 #[.slice A n cap,.int .i64 i,.slice B 0 cB] w fun x w'=>x=.returned (.slice A n cap)∧w'=w:=by
 unfold maxLen at hm
 go_enter Go.Proofs.Tryz.func241,Go.Proofs.Tryz.ntmps241
 go_wp2
 all_goals(go_ret;exact⟨rfl,rfl⟩)
theorem VG(w:World)(v v':Value)(w':World)(n gb m cB:Nat)(hv: ∃A cap,v=.slice A n cap∧n≤cap∧cap≤maxLen)(hm:0<m)(hm2:m≤lim)
 (hrun: ∀ty,(Builtin.append_ #[24,24] ty #[v,.slice (some ⟨gb,0,none⟩) m cB]).run Go.Proofs.Tryz.prog w=.ok v' w'):
 Calls Go.Proofs.Tryz.prog 241 #[v,.int .i64 n,.slice (some ⟨gb,0,none⟩) m cB] w fun x w2=>x=.returned v'∧w2=w':=by
 obtain⟨A,cap,rfl,hn,hc⟩:=hv;unfold maxLen at hc;unfold lim at hm2;have hz1: ¬((m:Int)=0):=by omega
 go_enter Go.Proofs.Tryz.func241,Go.Proofs.Tryz.ntmps241
 go_wp2_with (at_builtin;refine Lib.wpList_append_run _ rfl _ _ _ _ rfl _ _ rfl rfl _ _ (hrun _) ?_)
 all_goals(go_ret;exact⟨rfl,rfl⟩)
set_option maxHeartbeats 4000000 in
set_option maxRecDepth 1000000 in
theorem dC (w:World) (g cap:Nat) (cur:Array Value) (n i gb m cB:Nat) (curb:Array Value) (hg:w.heap[g]? =some (.cells cur (tyK .task) (0,0))) (hcs:cur.size=cap*14) (hc2:cap≤maxLen)
 (hone: ∀u∈cur.toList.take (n*14),u.oneCell'=true) (hgb:w.heap[gb]? =some (.cells curb (tyK .task) (0,0))) (hmb:m*14≤curb.size) (hob: ∀u∈curb.toList.take (m*14),u.oneCell'=true) (hne:gb≠g)
 (hm:0<m) (hi:i<n) (hroom:n+m≤cap):
 Calls Go.Proofs.Tryz.prog 241 #[.slice (some ⟨g,0,none⟩) n cap,.int .i64 i,.slice (some ⟨gb,0,none⟩) m cB] w fun x w'=>x=.returned (.slice (some ⟨g,0,none⟩) (n+m) cap)∧w.grownBy w' (some g)∧
  ∃cur',w'.heap[g]? =some (.cells cur' (tyK .task) (0,0))∧cur'.size=cap*14∧cur'.toList.take ((n+m)*14)=cur.toList.take (i*14)++curb.toList.take (m*14)++(cur.toList.take (n*14)).drop (i*14):=by
 have hc3:cap≤9223372036854775807:=hc2;have mixed:=Ju;obtain⟨inf,z,hi2,hz,hsi,hzs,hb17,hzo⟩:=I9 (q:=.task) Cv (by kernel_rfl)
 have hsz:(Go.Proofs.Tryz.prog.info? (tyK .task)).map (·.size)=some 14:=by rw[hi2];simp[hsi];rfl
 have hz1: ¬((m:Int)=0):=by omega
 have hz2: ¬((i:Int)=(n:Int)):=by omega
 have hcl:cur.toList.length=cap*14:=Array.length_toList.trans hcs;obtain⟨cs,hcs0⟩: ∃cs,cs=(cur.toList.take (n*14)).drop (i*14):=⟨_,rfl⟩;obtain⟨vs,hvs0⟩: ∃vs,vs=curb.toList.take (m*14):=⟨_,rfl⟩;have hdl:cs.length=(n-i)*14:=by rw[hcs0,List.length_drop,List.length_take,hcl];omega
 have hvl:vs.length=m*14:=by rw[hvs0,List.length_take,Array.length_toList];omega
 have hov: ∀lb cb,(callFunc 253 #[.slice (some ⟨gb,0,none⟩) m cB,.slice (some ⟨g,(i+m)*14,none⟩) lb cb]).run Go.Proofs.Tryz.prog w=.ok (.value (.bool false)) w:=fun lb cb=>by
  rw[run_callFunc_extern Go.Proofs.Tryz.func253 (by kernel_rfl) (by kernel_rfl) (by kernel_rfl) (e:=Extern.SlicesOverlaps.overlaps #[24,24] #[4]) (by kernel_rfl),
   Lib.run_overlaps_apart w 24 4 (tyK .task) (by kernel_rfl) 14 (fun w=>by simp[sizeOf,typeInfo,hi2];rw[hsi];rfl) ⟨gb,0,none⟩ ⟨g,(i+m)*14,none⟩ m cB lb cb hne (tyK .task) (tyK .task) curb.size cur.size (by simp[World.shape?,hgb]) (by simp[World.shape?,hg]) (by rw[hcs];omega) (by simp[World.frozen?,hgb]) (by simp[World.frozen?,hgb])]
  rfl
 have hw1:IntKind.i64.wrap ((i:Int)+(m:Int))=(i:Int)+(m:Int):=by rw[IntKind.wrap_i64];omega
 have hb1:(0:Int)≤(i:Int)+(m:Int):=by omega
 have hin:i≤n:=by omega
 have htn:((i:Int)+(m:Int)).toNat=i+m:=by omega
 have hb2: ¬(cap=i+m):=by omega
 have hb3:(i:Int)≤(n:Int)+(m:Int):=by omega
 have hb4: ¬(cap=i):=by omega
 obtain⟨cur1,hcur1⟩: ∃cur1,cur1=(cur.toList.take ((i+m)*14)++cs++cur.toList.drop ((i+m)*14+cs.length)).toArray:=⟨_,rfl⟩;obtain⟨cur2,hcur2⟩: ∃cur2,cur2=(cur1.toList.take (i*14)++vs++cur1.toList.drop (i*14+vs.length)).toArray:=⟨_,rfl⟩;have hs1:cur1.size=cap*14:=by rw[hcur1];simp[hdl,hcs];omega
 have hs2:cur2.size=cap*14:=by rw[hcur2];simp[hvl,hs1];omega
 have hcp1: ∀ty dc sc,(Builtin.copy_ #[24,24] ty #[.slice (some ⟨g,(i+m)*14,none⟩) (n+m-(i+m)) dc,.slice (some ⟨g,i*14,none⟩) (n+m-i) sc]).run Go.Proofs.Tryz.prog w.drew=
  .ok (goInt (Nat.min (n+m-i) (n+m-(i+m)))) (w.drew.setRow g cur1):=fun ty dc sc=>by
  rw[hcur1];refine PK w.drew 24 24 ty (tyK .task) 14 g ((i+m)*14) (n+m-(i+m)) dc ⟨g,i*14,none⟩ (n+m-i) sc cur (tyK .task) cs (by kernel_rfl) hsz hg (by rw[hdl,show Nat.min (n+m-i) (n+m-(i+m))=n-i by simp only[Nat.min_def];split<;>omega])
   (fun j v hj=> ?_) (by rw[hdl,hcs];omega) (fun u hu=>hone u (by rw[hcs0]at hu;exact List.mem_of_mem_drop hu))
  rw[Cy];rw[hcs0,List.getElem?_drop,List.getElem?_take]at hj;split at hj
  · show w.cell? _=_
    rw[Array.getElem?_toList]at hj;simp[World.cell?,hg,hj]
  ·cases hj
 have hg1:(w.drew.setRow g cur1).heap[g]? =some (.cells cur1 (tyK .task) (0,0)):=setRow_heap w.drew g cur cur1 _ _ hg;have hgb1:(w.drew.setRow g cur1).heap[gb]? =some (.cells curb (tyK .task) (0,0)):=(setRow_other hne).trans hgb;obtain⟨W1,hW1⟩: ∃W1,W1=w.drew.setRow g cur1:=⟨_,rfl⟩;rw[←hW1]at hcp1 hg1 hgb1;have hcp2: ∀ty dc,(Builtin.copy_ #[24,24] ty #[.slice (some ⟨g,i*14,none⟩) (n+m-i) dc,.slice (some ⟨gb,0,none⟩) m cB]).run Go.Proofs.Tryz.prog W1=.ok (goInt (Nat.min m (n+m-i))) (W1.setRow g cur2):=fun ty dc=>by
  rw[hcur2];refine PK W1 24 24 ty (tyK .task) 14 g (i*14) (n+m-i) dc ⟨gb,0,none⟩ m cB cur1 (tyK .task) vs (by kernel_rfl) hsz hg1 (by rw[hvl,show Nat.min m (n+m-i)=m by simp only[Nat.min_def];split<;>omega])
   (fun j v hj=> ?_) (by rw[hvl,hs1];omega) (fun u hu=>hob u (by rw[hvs0]at hu;exact hu))
  rw[Cy];rw[hvs0,List.getElem?_take]at hj;split at hj
  · rw[Array.getElem?_toList]at hj
    simp[World.cell?,hgb1,hj]
  ·cases hj
 have X1:Hid (W1=w.drew.setRow g cur1):=hW1;have X2:Hid (cur1=(cur.toList.take ((i+m)*14)++cs++cur.toList.drop ((i+m)*14+cs.length)).toArray):=hcur1;have X3:Hid (cur2=(cur1.toList.take (i*14)++vs++cur1.toList.drop (i*14+vs.length)).toArray):=hcur2;have X4:Hid (cs=(cur.toList.take (n*14)).drop (i*14)):=hcs0;have X5:Hid (vs=curb.toList.take (m*14)):=hvs0;have X6:Hid (cur1.size=cap*14):=hs1;have X7:Hid (cur2.size=cap*14):=hs2;have X8:Hid (cur.size=cap*14):=hcs;have X9:Hid (W1.heap[g]? =some (.cells cur1 (tyK .task) (0,0))):=hg1;have X10:Hid (cs.length=(n-i)*14):=hdl;have X11:Hid (vs.length=m*14):=hvl;clear hW1 hcur1 hcur2 hcs0 hvs0 hs1 hs2 hcs hg1 hgb1 hdl hvl hg hgb hone hob hmb hcl hsz hi2 hz hsi hzs hb17 hzo
 go_enter Go.Proofs.Tryz.func241,Go.Proofs.Tryz.ntmps241
 go_wp2_with (simp only[hov])
 go_region_law_o (refine Yo rfl _ _ 24 24 rfl _ _ (by simp[Act.eval,Act.put]) (by simp[Act.eval,Act.put]) (hcp1 _ _ _) ?_)
 go_wp2_with (at_builtin;refine ZY _ rfl _ _ 24 24 rfl _ _ rfl rfl (hcp2 _ _) ?_)
 go_ret
 refine⟨rfl,?_,cur2,setRow_heap W1 g cur1 cur2 _ _ X9.out,X7.out,?_⟩
 · rw[X1.out]
   refine⟨rfl,rfl,rfl,Nat.le_trans (G8 w.drew g cur1).size (G8 _ g cur2).size,fun k hk hne=> ?_⟩
   have hne':k≠g:=fun e=>hne (by rw[e])
   rw[setRow_other hne',setRow_other hne'];rfl
 · have h8:=X8.out
   have h10:=X10.out;have h11:=X11.out;rw[X3.out,←X5.out,←X4.out];refine sE cur.toList (i*14) ((i+m)*14) cs vs cur1.toList (by rw[Array.length_toList,h8];omega) (by rw[h11];omega) (by rw[X2.out]) _ (by rw[h10];omega)
set_option maxHeartbeats 4000000 in
set_option maxRecDepth 1000000 in
theorem dA (w:World) (g cap:Nat) (cur:Array Value) (n i gb m cB:Nat) (curb:Array Value) (hg:w.heap[g]? =some (.cells cur (tyK .task) (0,0))) (hcs:cur.size=cap*14) (hc1:n≤cap)
 (hone: ∀u∈cur.toList.take (n*14),u.oneCell'=true) (hgb:w.heap[gb]? =some (.cells curb (tyK .task) (0,0))) (hmb:m*14≤curb.size) (hob: ∀u∈curb.toList.take (m*14),u.oneCell'=true)
 (hm:0<m) (hi:i<n) (hroom:cap<n+m) (hlim:n+m≤lim):
 Calls Go.Proofs.Tryz.prog 241 #[.slice (some ⟨g,0,none⟩) n cap,.int .i64 i,.slice (some ⟨gb,0,none⟩) m cB] w fun x w'=> ∃G,x=.returned (.slice (some ⟨w.heap.size,0,none⟩) (n+m) G)∧n+m≤G∧G≤maxLen∧w.grownBy w' none∧
  ∃cur',w'.heap[w.heap.size]? =some (.cells cur' (tyK .task) (0,0))∧cur'.size=G*14∧cur'.toList.take ((n+m)*14)=cur.toList.take (i*14)++curb.toList.take (m*14)++(cur.toList.take (n*14)).drop (i*14):=by
 have hl3:n+m≤1073741824:=hlim;have mixed:=Ju;obtain⟨inf,z,hi2,hz,hsi,hzs,hb17,hzo⟩:=I9 (q:=.task) Cv (by kernel_rfl)
 have hsi:inf.size=14:=hsi;have hzs:z.cells.size=14:=hzs;have hsz:(Go.Proofs.Tryz.prog.info? (tyK .task)).map (·.size)=some 14:=by rw[hi2];simp[hsi]
 have hz1: ¬((m:Int)=0):=by omega
 have hz2: ¬((i:Int)=(n:Int)):=by omega
 have hz3:(cap:Int)<(n:Int)+(m:Int):=by omega
 have hcl:cur.toList.length=cap*14:=Array.length_toList.trans hcs;obtain⟨cs,hcs0⟩: ∃cs,cs=(cur.toList.take (n*14)).drop (i*14):=⟨_,rfl⟩;obtain⟨vs,hvs0⟩: ∃vs,vs=curb.toList.take (m*14):=⟨_,rfl⟩;have hdl:cs.length=(n-i)*14:=by rw[hcs0,List.length_drop,List.length_take,hcl];omega
 have hvl:vs.length=m*14:=by rw[hvs0,List.length_take,Array.length_toList];omega
 have hkk:(n:Int)+(m:Int)-(i:Int)=((n+m-i:Nat):Int):=by omega
 have hik:i+(n+m-i)=n+m:=by omega
 have hbytes:(n+m)*inf.bytes≤140737488355328:=by
  have:=Nat.mul_le_mul hl3 hb17;omega
 have hold:(Builtin.firstCells inf.size i (.slice (some ⟨g,0,none⟩) i cap)).run Go.Proofs.Tryz.prog w.drew=.ok (cur.toList.take (i*14)).toArray w.drew:=by
  rw[hsi];refine run_firstCells_some w.drew 14 i ⟨g,0,none⟩ i cap (cur.toList.take (i*14)) (by rw[List.length_take,hcl];omega) (fun j v hj=> ?_)
  rw[Cy];rw[List.getElem?_take]at hj;split at hj
  · show w.cell? _=_
    rw[Array.getElem?_toList]at hj;simp[World.cell?,hg,hj]
  ·cases hj
 have hik2:(n+m-i)*inf.bytes≤281474976710656:=by
  have:=Nat.mul_le_mul_right inf.bytes (show n+m-i≤n+m by omega)
  omega
 obtain⟨G,hG⟩: ∃G,G=grownCap w (n+m) cap (tyK .task):=⟨_,rfl⟩;obtain⟨row,hrow⟩: ∃row:Array Value,row=(cur.toList.take (i*14)).toArray++Builtin.zeroCells z.cells (n+m-i)++Builtin.zeroCells z.cells (G-(n+m)):=⟨_,rfl⟩;obtain⟨N,hN⟩: ∃N,N=w.heap.size:=⟨_,rfl⟩;obtain⟨W1,hW1⟩: ∃W1,W1=w.drew.alloc (.cells row (tyK .task)):=⟨_,rfl⟩;have hrz: ∀ty,(Builtin.append_ #[24,3] ty #[.slice (some ⟨g,0,none⟩) i cap,.int .i64 ((n:Int)+(m:Int)-(i:Int))]).run Go.Proofs.Tryz.prog w=.ok (.slice (some ⟨N,0,none⟩) (n+m) G) W1:=fun ty=>by
  have h:=Lib.run_append_grow_zeros w 24 3 ty (tyK .task) inf z .i64 .i64 (by kernel_rfl) (by kernel_rfl) hi2 hz (some ⟨g,0,none⟩) i cap (cur.toList.take (i*14)) hold (n+m-i) (by omega) (by rw[hsi];decide) (by omega) (by omega) hik2 (by rw[hik];exact growslice_fits hroom hbytes)
  rw[hik]at h;rw[hkk,hW1,hrow,hG,hN];exact h
 have hGn:n+m≤G:=by rw[hG];exact grownCap_ge w _ _ _
 have hGm:G≤maxLen:=by rw[hG];exact grownCap_le_maxLen w (n+m) cap _ (by unfold maxLen;omega)
 have hG63:G≤9223372036854775807:=hGm;have hrs:row.size=G*14:=by
  rw[hrow];simp only[Array.size_append,size_zeroCells,hzs,List.size_toArray,List.length_take,hcl];omega
 have hgN:W1.heap[N]? =some (.cells row (tyK .task) (0,0)):=by rw[hW1,hN];exact _root_.Go.heap_alloc_new w.drew _
 have hgl:g<w.heap.size:=(Array.getElem?_eq_some_iff.1 hg).1;have hgbl:gb<w.heap.size:=(Array.getElem?_eq_some_iff.1 hgb).1;have hg1:W1.heap[g]? =some (.cells cur (tyK .task) (0,0)):=by rw[hW1];exact(_root_.Go.heap_alloc_old w.drew _ hgl).trans hg
 have hgb1:W1.heap[gb]? =some (.cells curb (tyK .task) (0,0)):=by rw[hW1];exact(_root_.Go.heap_alloc_old w.drew _ hgbl).trans hgb
 obtain⟨row1,hrow1⟩: ∃row1,row1=(row.toList.take (i*14)++vs++row.toList.drop (i*14+vs.length)).toArray:=⟨_,rfl⟩;obtain⟨row2,hrow2⟩: ∃row2,row2=(row1.toList.take ((i+m)*14)++cs++row1.toList.drop ((i+m)*14+cs.length)).toArray:=⟨_,rfl⟩;have hs1:row1.size=G*14:=by rw[hrow1];simp[hvl,hrs];omega
 have hs2:row2.size=G*14:=by rw[hrow2];simp[hdl,hs1];omega
 obtain⟨W2,hW2⟩: ∃W2,W2=W1.setRow N row1:=⟨_,rfl⟩;obtain⟨W3,hW3⟩: ∃W3,W3=W2.drew.setRow N row2:=⟨_,rfl⟩;have hcpA: ∀ty dc,(Builtin.copy_ #[24,24] ty #[.slice (some ⟨N,i*14,none⟩) (n+m-i) dc,.slice (some ⟨gb,0,none⟩) m cB]).run Go.Proofs.Tryz.prog W1=.ok (goInt (Nat.min m (n+m-i))) W2:=fun ty dc=>by
  rw[hW2,hrow1];refine PK W1 24 24 ty (tyK .task) 14 N (i*14) (n+m-i) dc ⟨gb,0,none⟩ m cB row (tyK .task) vs (by kernel_rfl) hsz hgN (by rw[hvl,show Nat.min m (n+m-i)=m by simp only[Nat.min_def];split<;>omega])
   (fun j v hj=> ?_) (by rw[hvl,hrs];omega) (fun u hu=>hob u (by rw[hvs0]at hu;exact hu))
  rw[Cy];rw[hvs0,List.getElem?_take]at hj;split at hj
  · rw[Array.getElem?_toList]at hj
    simp[World.cell?,hgb1,hj]
  ·cases hj
 have hgN2:W2.drew.heap[N]? =some (.cells row1 (tyK .task) (0,0)):=by rw[hW2];exact setRow_heap W1 N row row1 _ _ hgN
 have hg2:W2.drew.heap[g]? =some (.cells cur (tyK .task) (0,0)):=by rw[hW2];exact(setRow_other (by omega)).trans hg1
 have hcpB: ∀ty dc sc,(Builtin.copy_ #[24,24] ty #[.slice (some ⟨N,(i+m)*14,none⟩) (n+m-(i+m)) dc,.slice (some ⟨g,i*14,none⟩) (n-i) sc]).run Go.Proofs.Tryz.prog W2.drew=.ok (goInt (Nat.min (n-i) (n+m-(i+m)))) W3:=fun ty dc sc=>by
  rw[hW3,hrow2];refine PK W2.drew 24 24 ty (tyK .task) 14 N ((i+m)*14) (n+m-(i+m)) dc ⟨g,i*14,none⟩ (n-i) sc row1 (tyK .task) cs (by kernel_rfl) hsz hgN2 (by rw[hdl,show Nat.min (n-i) (n+m-(i+m))=n-i by simp only[Nat.min_def];split<;>omega])
   (fun j v hj=> ?_) (by rw[hdl,hs1];omega) (fun u hu=>hone u (by rw[hcs0]at hu;exact List.mem_of_mem_drop hu))
  rw[Cy];rw[hcs0,List.getElem?_drop,List.getElem?_take]at hj;split at hj
  · rw[Array.getElem?_toList]at hj
    simp[World.cell?,hg2,hj]
  ·cases hj
 have hgN3:W3.heap[N]? =some (.cells row2 (tyK .task) (0,0)):=by rw[hW3];exact setRow_heap W2.drew N row1 row2 _ _ hgN2
 have hgrow:w.grownBy W3 none:=by
  rw[hW3,hW2,hW1];refine⟨rfl,rfl,rfl,?_,fun k hk _=> ?_⟩
  · refine Nat.le_trans ?_ (G8 _ N row2).size
    refine Nat.le_trans ?_ (G8 _ N row1).size;simp
  · have hne:k≠N:=by omega
    rw[setRow_other hne];show((w.drew.alloc (.cells row (tyK .task))).setRow N row1).heap[k]? =_;rw[setRow_other hne];exact _root_.Go.heap_alloc_old w.drew _ hk
 have hfin:row2.toList.take ((n+m)*14)=cur.toList.take (i*14)++vs++cs:=by
  have e0:row.toList.take (i*14)=cur.toList.take (i*14):=by
   rw[hrow];simp only[Array.toList_append,List.append_assoc];exact List.take_left' (by rw[List.length_take,hcl];omega)
  have e1:(row.toList.take (i*14)++vs).length=(i+m)*14:=by rw[List.length_append,List.length_take,Array.length_toList,hrs,hvl];omega
  have e2:row1.toList.take ((i+m)*14)=cur.toList.take (i*14)++vs:=by
   rw[hrow1];simp only[];rw[List.take_left' e1,e0]
  rw[hrow2];simp only[];rw[e2];refine List.take_left' ?_;rw[←e0,List.length_append,e1,hdl];omega
 have hgi: ¬(G=i):=by omega
 have hgim: ¬(G=i+m):=by omega
 have hci: ¬(cap=i):=by omega
 have hw1:IntKind.i64.wrap ((i:Int)+(m:Int))=(i:Int)+(m:Int):=by rw[IntKind.wrap_i64];omega
 have hb1:(0:Int)≤(i:Int)+(m:Int):=by omega
 have hin:i≤n:=by omega
 have htn:((i:Int)+(m:Int)).toNat=i+m:=by omega
 have hb3:(i:Int)≤(n:Int):=by omega
 have X1:Hid (w.grownBy W3 none):=hgrow;have X2:Hid (W3.heap[N]? =some (.cells row2 (tyK .task) (0,0))):=hgN3;have X3:Hid (row2.size=G*14):=hs2;have X4:Hid (row2.toList.take ((n+m)*14)=cur.toList.take (i*14)++vs++cs):=hfin;have X5:Hid (cs=(cur.toList.take (n*14)).drop (i*14)):=hcs0;have X6:Hid (vs=curb.toList.take (m*14)):=hvs0;have X7:Hid (N=w.heap.size):=hN;clear hgrow hgN3 hs2 hfin hcs0 hvs0 hN hW1 hW2 hW3 hG hrow hrow1 hrow2 hgN hgN2 hg1 hg2 hgb1 hs1 hrs hold hkk hik hik2 hbytes hdl hvl hg hgb hone hob hmb hcl hsz hi2 hz hsi hzs hb17 hzo hcs hgl hgbl
 go_enter Go.Proofs.Tryz.func241,Go.Proofs.Tryz.ntmps241
 go_wp2_with (first
  |(at_builtin;refine Lib.wpList_append_run _ rfl _ _ _ _ rfl _ _ rfl rfl _ _ (hrz _) ?_)
  |(at_builtin;refine ZY _ rfl _ _ 24 24 rfl _ _ rfl rfl (hcpA _ _) ?_))
 go_region_law_o (refine Yo rfl _ _ 24 24 rfl (.slice (some ⟨N,(i+m)*14,none⟩) (n+m-(i+m)) (G-(i+m))) (.slice (some ⟨g,i*14,none⟩) (n-i) (cap-i)) (by simp[Act.eval,Act.put]) (by simp[Act.eval,Act.put]) (hcpB _ (G-(i+m)) (cap-i)) ?_)
 go_wp2
 go_ret
 exact⟨G,by rw[←X7.out];rfl,hGn,hGm,X1.out,row2,by rw[←X7.out];exact X2.out,X3.out,by rw[X4.out,X5.out,X6.out]⟩
theorem c8:InsW Go.Proofs.Tryz.prog 241 (tyK .task) 14 where
 same:=dB
 fill0:=by
  intro w A gb m cB curb hgb hmb hob hm hlim;obtain⟨inf,z,hi2,hz,hsi,hzs,hb17,hzo⟩:=I9 (q:=.task) Cv (by kernel_rfl)
  obtain⟨v',w',hrun,hR,⟨rw',hgr,hrw⟩,hob2,_,hown⟩:=SP (P:=Go.Proofs.Tryz.prog) (w:=w) 24 0 (tyK .task) inf z 14 (by kernel_rfl) hi2 hz hsi hb17 hzs (by decide) (.slice A 0 0) 0 [] False (.inl ⟨A,rfl,rfl,rfl⟩) (some ⟨gb,0,none⟩) m cB (curb.toList.take (m*14))
   (by rw[List.length_take,Array.length_toList];omega)
   (fun j u hu=>⟨gb,0,rfl,by
     rw[List.getElem?_take]at hu;split at hu
     · rw[Array.getElem?_toList]at hu
       simp[World.cell?,hgb,hu]
     ·cases hu⟩) hob (by omega)
  have hrun': ∀ty,(Builtin.append_ #[24,24] ty #[.slice A 0 0,.slice (some ⟨gb,0,none⟩) m cB]).run Go.Proofs.Tryz.prog w=.ok v' w':=fun ty=>hrun
  refine(VG w (.slice A 0 0) v' w' 0 gb m cB ⟨A,0,rfl,Nat.le_refl _,Nat.zero_le _⟩ hm hlim hrun').mono ?_;rintro x w2 ⟨rfl,rfl⟩;have hrow:=hown hm;rw[Nat.zero_add,List.nil_append]at hrow;refine⟨v',rfl,hrow,?_,fun q hq=> ?_⟩
  · rcases hrw with rfl|⟨_,h⟩
    ·exact hgr
    ·exact h.elim
  · rcases hob2 with⟨h,h2⟩|h
    · rcases h2 with h2|h2|h2
      ·omega
      ·exact h2.elim
      ·rw[h,h2]at hq;cases hq
    ·rw[h]at hq;injection hq with hq;omega
 fill:=by
  intro w v n flat gb m cB curb i hrow h1 hgb hmb hob hne hm hi hlim;have hl0:flat.length=n*14:=hrow.1
  by_cases hin:i=n
  · subst hin
    obtain⟨inf,z,hi2,hz,hsi,hzs,hb17,hzo⟩:=I9 (q:=.task) Cv (by kernel_rfl)
    obtain⟨v',w',hrun,hR,⟨rw',hgr,hrw⟩,hob2,_,hown⟩:=SP (P:=Go.Proofs.Tryz.prog) (w:=w) 24 0 (tyK .task) inf z 14 (by kernel_rfl) hi2 hz hsi hb17 hzs (by decide) v i flat True (.inr ⟨trivial,hrow⟩) (some ⟨gb,0,none⟩) m cB (curb.toList.take (m*14))
     (by rw[List.length_take,Array.length_toList];omega)
     (fun j u hu=>⟨gb,0,rfl,by
       rw[List.getElem?_take]at hu;split at hu
       · rw[Array.getElem?_toList]at hu
         simp[World.cell?,hgb,hu]
       ·cases hu⟩) hob hlim
    have hrun': ∀ty,(Builtin.append_ #[24,24] ty #[v,.slice (some ⟨gb,0,none⟩) m cB]).run Go.Proofs.Tryz.prog w=.ok v' w':=fun ty=>hrun
    have hv: ∃A cap,v=.slice A i cap∧i≤cap∧cap≤maxLen:=by
     rcases hrow.2 with⟨rfl,rfl⟩|⟨g,cap,cur,rfl,_,_,h1,h2,_⟩
     ·exact⟨none,0,rfl,Nat.le_refl _,Nat.zero_le _⟩
     ·exact⟨_,cap,rfl,h1,h2⟩
    refine(VG w v v' w' i gb m cB hv hm (by omega) hrun').mono ?_
    rintro x w2 ⟨rfl,rfl⟩;have hrow2:=hown hm;refine⟨v',rfl,?_,⟨rw',hgr,?_⟩,fun q hq=> ?_⟩
    · rw[List.take_of_length_le (by omega),List.drop_of_length_le (by omega),List.append_nil]
      exact hrow2
    · rcases hrw with rfl|⟨h,_⟩
      ·exact .inl rfl
      ·exact .inr h
    · rcases hob2 with⟨h,h2⟩|h
      ·rw[h]at hq;exact .inl hq
      ·rw[h]at hq;injection hq with hq;exact .inr (by omega)
  · have hlt:i<n:=by omega
    rcases hrow.2 with⟨rfl,rfl⟩|⟨g,cap,cur,rfl,_,hg,hc1,hc2,hcs,hfl⟩
    ·omega
    have hti:cur.toList.take (i*14)=flat.take (i*14):=by rw[←hfl,List.take_take,Nat.min_eq_left (by omega)]
    have hnn:gb≠g:=fun e=>hne (by rw[e];rfl)
    by_cases hroom:n+m≤cap
    · refine(dC w g cap cur n i gb m cB curb hg hcs hc2 (by rw[hfl];exact h1) hgb hmb hob hnn hm hlt hroom).mono ?_
      rintro x w2 ⟨rfl,hgr,cur',hg',hs',hf'⟩;rw[hti,hfl]at hf';refine⟨_,rfl,⟨?_,.inr ⟨g,cap,cur',rfl,Nat.zero_le _,hg',hroom,hc2,hs',hf'⟩⟩,⟨_,hgr,.inr rfl⟩,fun q hq=>.inl hq⟩
      rw[←hf',List.length_take,Array.length_toList,hs'];omega
    · refine(dA w g cap cur n i gb m cB curb hg hcs hc1 (by rw[hfl];exact h1) hgb hmb hob hm hlt (by omega) hlim).mono ?_
      rintro x w2 ⟨G,rfl,hG,hG2,hgr,cur',hg',hs',hf'⟩;rw[hti,hfl]at hf';refine⟨_,rfl,⟨?_,.inr ⟨w.heap.size,G,cur',rfl,Nat.zero_le _,hg',hG,hG2,hs',hf'⟩⟩,⟨_,hgr,.inl rfl⟩,fun q hq=>.inr ?_⟩
      ·rw[←hf',List.length_take,Array.length_toList,hs'];omega
      ·simp[Value.ownBlock]at hq;omega
def GM(a0:List Task)(a1:Int)(a2:List Task):Option (List Task×Unit):=cond (decide (0≤a1)&&decide (a1≤(a0.length:Int))) (cond (decide (a0.length+a2.length≤lim)) (some (a0.take a1.toNat++a2++a0.drop a1.toNat,())) none) none
def lw:Rw:=⟨241,(.pair (.own .task) (.pair (.v (.int)) (.pair (.own .task) .one))),(.pair (.own .task) .one),fun x=>GM x.1 x.2.1 x.2.2.1⟩
theorem lx:RwOk Go.Proofs.Tryz.prog tyK (lw):=by
 refine⟨fun x r h=> ?_,Mj Go.Proofs.Tryz.func241 (by kernel_rfl) (by kernel_rfl)⟩
 obtain⟨h1,h⟩:=AQ h;obtain⟨h2,h⟩:=AQ h;simp only[Bool.and_eq_true,decide_eq_true_eq]at h1 h2;injection h with h
 subst h;exact c9 rfl c8 h1.1 h1.2 h2
def GL(a0:List Task)(a1 a2:Int):Option (List Task×Unit):=cond (decide (0≤a1)&&decide (a1≤a2)&&(decide (a2≤(a0.length:Int)))) (some (a0.take a1.toNat++a0.drop a2.toNat,())) none
def lL:Rw:=⟨242,(.pair (.own .task) (.pair (.v (.int)) (.pair (.v (.int)) .one))),(.pair (.own .task) .one),fun x=>GL x.1 x.2.1 x.2.2.1⟩
theorem lM:RwOk Go.Proofs.Tryz.prog tyK (lL):=by
 refine⟨fun x r h=> ?_,Mj Go.Proofs.Tryz.func242 (by kernel_rfl) (by kernel_rfl)⟩
 obtain⟨h1,h⟩:=AQ h;simp only[Bool.and_eq_true,decide_eq_true_eq]at h1;injection h with h
 subst h;exact Tv rfl ⟨af,ab⟩ h1.1.1 h1.1.2 h1.2
def K4(a0:List Int)(a1 a2:Int):Option (List Int×Unit):=cond (decide (0≤a1)&&decide (a1≤a2)&&(decide (a2≤(a0.length:Int)))) (some (a0.take a1.toNat++a0.drop a2.toNat,())) none
def lN:Rw:=⟨255,(.pair (.own .int) (.pair (.v (.int)) (.pair (.v (.int)) .one))),(.pair (.own .int) .one),fun x=>K4 x.1 x.2.1 x.2.2.1⟩
theorem lO:RwOk Go.Proofs.Tryz.prog tyK (lN):=by
 refine⟨fun x r h=> ?_,Mj Go.Proofs.Tryz.func255 (by kernel_rfl) (by kernel_rfl)⟩
 obtain⟨h1,h⟩:=AQ h;simp only[Bool.and_eq_true,decide_eq_true_eq]at h1;injection h with h
 subst h;exact Tv rfl ⟨ae,aZ⟩ h1.1.1 h1.1.2 h1.2
end Go.Proofs.YthoholbeacojfaaGreat.VR
end
section
set_option linter.unusedVariables false
set_option maxRecDepth 100000
namespace Go.Proofs.YthoholbeacojfaaGreat.VR
open Go
def Dm(a0:List Int):Option (Bool×Unit):=some ((decide (1048576<(a0.length:Int))),())
def j9:Rw:=⟨14,pV [.rog .u8],pS [.bool],fun x=>Dm x.1⟩
theorem FM:RO (j9):=
 rE ⟨Go.Proofs.Tryz.f14,⟨[],[],[]⟩,0⟩ 0 en Go.Proofs.Tryz.func14 (by kernel_rfl) (fun x=>by kernel_rfl)
def Lp{α:Type}(n:Nat):Nat→List Int→Int→Int→(Int→Option α)→Option α|0,_,_,_,_=>none|m0+1,v1,v2,v3,k0_0=>cond (decide (v3<(v1.length:Int))) (cond (decide (v3<4000)) (cond (decide (0≤v3)&&decide (v3<(v1.length:Int))) (let e4:=(w64 ((w64 (v2*131))+(w64 (List.getD v1 (Int.toNat v3) (Kd.dflt .u8)))));let e5:=(w64 (BitVec.ofInt 64 (w64 (e4+7))&&&BitVec.ofInt 64 1073741823).toNat);Lp n m0 v1 e5 (w64 (v3+1)) k0_0) none) (k0_0 v2)) (k0_0 v2)
def Es(n:Nat)(a0:List Int):Option (B5×Unit):=Lp n n a0 (w64 (18511+(a0.length:Int))) 0 (fun w6=>some ((AP (⟨a0,0,w6⟩:Cur)),()))
def oU(n:Nat):Rw:=⟨67,pV [.rog .u8],pS [.box q0],fun x=>Es n x.1⟩
def rV(n:Nat):LS:=AN ⟨3,[0,3,4],[],[],[0,3],[0]⟩ 32 [0,3,4] 3 (pD [.rog .u8,.int,.int]) [] (fun m x k=>Lp n m x.1.1 x.1.2.1 x.1.2.2.1 (fun w0=>k (.exit 0) (eS 32 [0,3] [.ro true .u8 x.1.1,.int w0] 3 [])))
theorem IH(n:Nat):RO (oU n):=
 rL ⟨Go.Proofs.Tryz.f67,⟨[(6,[(3,.slot 0 .int)])],[],[]⟩,1⟩ [rV n] n en Go.Proofs.Tryz.func67 (by kernel_rfl) ⟨AO (fun m x k=>by kernel_rfl) (fun _ _=>rfl),trivial⟩ (fun x=>by kernel_rfl)
def LP(a0:List Int)(a1:Int)(a2:Int):Option (Int×Unit):=let e1:=(decide (a2<(w64 (a1+(w64 (Int.tdiv (a0.length:Int) 4))))));cond e1 (some (a2,())) (some ((w64 (a1+(w64 (Int.tdiv (a0.length:Int) 4)))),()))
def oR:Rw:=⟨140,pV [.rog .u8,.int,.int],pS [.int],fun x=>LP x.1 x.2.1 x.2.2.1⟩
theorem Xi:RO (oR):=
 rE ⟨Go.Proofs.Tryz.f140,⟨[],[],[]⟩,0⟩ 0 en Go.Proofs.Tryz.func140 (by kernel_rfl) (fun x=>by kernel_rfl)
def GU(a0:Cur):Option (Int×B5×Unit):=let e1:=(w64 ((w64 (a0.h*6364136223846793005))+1442695040888963407));let e2:=(w64 (BitVec.ofInt 64 (Int.fdiv e1 (2^33))^^^BitVec.ofInt 64 (Int.fdiv e1 (2^45))).toNat);cond (decide (a0.i<(a0.b.length:Int))) (cond (decide (0≤a0.i)&&decide (a0.i<(a0.b.length:Int))) (let e3:=(w64 ((w64 (BitVec.ofInt 64 e2&&&BitVec.ofInt 64 255).toNat)+(w64 (List.getD a0.b (Int.toNat a0.i) (Kd.dflt .u8)))));some ((w64 (BitVec.ofInt 64 e3&&&BitVec.ofInt 64 255).toNat),(AP (⟨a0.b,(w64 (a0.i+1)),e1⟩:Cur)),())) none) (some ((w64 (BitVec.ofInt 64 e2&&&BitVec.ofInt 64 255).toNat),(AP (⟨a0.b,a0.i,e1⟩:Cur)),()))
def oL:Rw:=⟨170,pA [.box (pV [.rog .u8,.int,.int])],q1,fun x=>GU (AD x.1)⟩
theorem oM:RO (oL):=
 rE ⟨Go.Proofs.Tryz.f170,⟨[],[(2,dr 13 [(1,[0],[]),(2,[0],[]),(3,[0],[]),(6,[0],[]),(7,[0],[]),(8,[0],[])]),(3,dr 10 [(1,[0],[]),(2,[0],[]),(3,[0],[]),(5,[0],[]),(6,[0],[]),(7,[0],[])]),(4,dr 15 [(2,[0],[]),(3,[0],[]),(4,[0],[]),(6,[0],[]),(7,[0],[]),(8,[0],[])])],[]⟩,1⟩ 0 en Go.Proofs.Tryz.func170 (by kernel_rfl) (fun x=>by kernel_rfl)
def AU(a0:Cur)(a1:Int):Option (Int×B5×Unit):=cond (decide (a1≤0)) (some (0,(AP a0),())) (cond (decide (a1≤256)) ((GU a0).bind fun r1=>cond (decide (a1=0)) none (some ((Int.tmod r1.1 a1),(AP (AD r1.2.1)),()))) ((GU a0).bind fun r2=>(GU (AD r2.2.1)).bind fun r3=>(GU (AD r3.2.1)).bind fun r4=>(GU (AD r4.2.1)).bind fun r5=>let e6:=(w64 ((w64 ((w64 (r2.1*16777216))+(w64 (r3.1*65536))))+(w64 (r4.1*256))));cond (decide (a1=0)) none (some ((Int.tmod (w64 (e6+r5.1)) a1),(AP (AD r5.2.1)),()))))
def oK:Rw:=⟨103,pA [.box (pV [.rog .u8,.int,.int]),.v .int],q1,fun x=>AU (AD x.1) x.2.1⟩
theorem Ct:RO (oK):=
 rE ⟨Go.Proofs.Tryz.f103,⟨[(4,[(1,q2)]),(5,[(1,q2)]),(6,[(1,q2)]),(7,[(1,q2)]),(8,[(1,q2)])],[],[]⟩,1⟩ 0 (ec oM en) Go.Proofs.Tryz.func103 (by kernel_rfl) (fun x=>by kernel_rfl)
def Ay(a0:Int)(a1:Int)(a2:Int):Option (Bool×Unit):=cond (decide (a1≤a0)) (some ((decide (a0≤a2)),())) (some (false,()))
def oQ:Rw:=⟨86,pV [.int,.int,.int],pS [.bool],fun x=>Ay x.1 x.2.1 x.2.2.1⟩
theorem Bz:RO (oQ):=
 rE ⟨Go.Proofs.Tryz.f86,⟨[],[],[]⟩,0⟩ 0 en Go.Proofs.Tryz.func86 (by kernel_rfl) (fun x=>by kernel_rfl)
def CE(a0:Cur)(a1:Int):Option (Bool×B5×Unit):=(AU a0 a1).bind fun r1=>some ((decide (r1.1=0)),(AP (AD r1.2.1)),())
def oV:Rw:=⟨146,pA [.box (pV [.rog .u8,.int,.int]),.v .int],(pS [.bool,.box q0]),fun x=>CE (AD x.1) x.2.1⟩
theorem PF:RO (oV):=
 rE ⟨Go.Proofs.Tryz.f146,⟨[(1,[(2,q3)])],[],[]⟩,1⟩ 0 (ec Ct en) Go.Proofs.Tryz.func146 (by kernel_rfl) (fun x=>by kernel_rfl)
def LM(a0:Cur)(a1:Sys):Option (Int×B5×Unit):=cond (decide ((a1.Tasks.length:Int)=0)) ((AU a0 9).bind fun r1=>some ((w64 (1+r1.1)),(AP (AD r1.2.1)),())) ((CE a0 15).bind fun r2=>cond r2.1 ((AU (AD r2.2.1) 9).bind fun r3=>some ((w64 (1+r3.1)),(AP (AD r3.2.1)),())) ((AU (AD r2.2.1) (a1.Tasks.length:Int)).bind fun r4=>cond (decide (0≤r4.1)&&decide (r4.1<(a1.Tasks.length:Int))) (some ((List.getD a1.Tasks (Int.toNat r4.1) (Kd.dflt .task)).No,(AP (AD r4.2.1)),())) none))
def oE:Rw:=⟨105,pA [.box (pV [.rog .u8,.int,.int]),.v Aq],q1,fun x=>LM (AD x.1) (AS x.2.1)⟩
theorem Xf:RO (oE):=
 rE ⟨Go.Proofs.Tryz.f105,⟨[(0,[(0,.slot 1 .int)]),(1,[(6,q5)]),(2,[(1,q3)]),(3,[(6,q3)])],[(3,dr 11 [(0,[1],[]),(1,[1],[]),(3,[1],[]),(4,[1],[]),(6,[0],[0])])],[]⟩,2⟩ 0 (ec Ct (ec PF en)) Go.Proofs.Tryz.func105 (by kernel_rfl) (fun x=>by kernel_rfl)
def C7(a0:Int)(a1:Int):Option (Int×Unit):=cond (decide (a1<a0)) (some (a0,())) (some (a1,()))
def oS:Rw:=⟨123,pV [.int,.int],pS [.int],fun x=>C7 x.1 x.2.1⟩
theorem IG:RO (oS):=
 rE ⟨Go.Proofs.Tryz.f123,⟨[],[],[]⟩,0⟩ 0 en Go.Proofs.Tryz.func123 (by kernel_rfl) (fun x=>by kernel_rfl)
def Gs{α:Type}(n:Nat):Nat→Cur→Sys→Call→Int→Int→Int→(Cur→Call→Option α)→(Cur→Option α)→Option α|0,_,_,_,_,_,_,_,_=>none|m0+1,v23,v24,v25,v26,v27,v28,k0_0,k0_1=>cond (decide (v28<(v24.Tasks.length:Int))) (cond (decide (0≤v28)&&decide (v28<(v24.Tasks.length:Int))) (let e29:=(decide ((List.getD v24.Tasks (Int.toNat v28) (Kd.dflt .task)).State=2));cond e29 ((CE v23 5).bind fun r30=>cond r30.1 (cond (decide (0≤v28)&&decide (v28<(v24.Tasks.length:Int))) (k0_0 (AD r30.2.1) (⟨5,(List.getD v24.Tasks (Int.toNat v28) (Kd.dflt .task)).No,0,0,0⟩:Call)) none) (Gs n m0 (AD r30.2.1) v24 v25 v26 v27 (w64 (v28+1)) k0_0 k0_1)) (Gs n m0 v23 v24 v25 v26 v27 (w64 (v28+1)) k0_0 k0_1)) none) (k0_1 v23)
def LG(n:Nat)(a0:Cur)(a1:Sys):Option (Ic×B5×Unit):=(LM a0 a1).bind fun r1=>(C7 a1.Cpus 1).bind fun r2=>(AU (AD r1.2.1) r2.1).bind fun r3=>cond (decide ((a1.Tasks.length:Int)<3)) ((AU (AD r3.2.1) 12).bind fun r4=>(AU (AD r4.2.1) 4).bind fun r5=>cond (decide (r5.1=0)) ((AU (AD r5.2.1) 9).bind fun r6=>(AU (AD r6.2.1) (w64 (Int.tdiv (w64 (2+r6.1)) 2))).bind fun r7=>some ((As (⟨1,(w64 (1+r4.1)),r3.1,(w64 (1+r7.1)),(w64 (2+r6.1))⟩:Call)),(AP (AD r7.2.1)),())) (cond (decide (r5.1=1)) ((AU (AD r5.2.1) 9).bind fun r8=>(AU (AD r8.2.1) (w64 (Int.tdiv (w64 (2+r8.1)) 2))).bind fun r9=>some ((As (⟨1,(w64 (1+r4.1)),r3.1,(w64 (1+r9.1)),(w64 (2+r8.1))⟩:Call)),(AP (AD r9.2.1)),())) (cond (decide (r5.1=2)) ((AU (AD r5.2.1) 3).bind fun r10=>(AU (AD r10.2.1) 4).bind fun r11=>some ((As (⟨2,(w64 (1+r4.1)),r3.1,(w64 (1+r10.1)),r11.1⟩:Call)),(AP (AD r11.2.1)),())) ((AU (AD r5.2.1) 9).bind fun r12=>some ((As (⟨3,(w64 (1+r4.1)),r3.1,(w64 (r12.1-4)),0⟩:Call)),(AP (AD r12.2.1)),()))))) ((CE (AD r3.2.1) 8).bind fun r13=>cond r13.1 ((AU (AD r13.2.1) 12).bind fun r14=>(AU (AD r14.2.1) 4).bind fun r15=>cond (decide (r15.1=0)) ((AU (AD r15.2.1) 9).bind fun r16=>(AU (AD r16.2.1) (w64 (Int.tdiv (w64 (2+r16.1)) 2))).bind fun r17=>some ((As (⟨1,(w64 (1+r14.1)),r3.1,(w64 (1+r17.1)),(w64 (2+r16.1))⟩:Call)),(AP (AD r17.2.1)),())) (cond (decide (r15.1=1)) ((AU (AD r15.2.1) 9).bind fun r18=>(AU (AD r18.2.1) (w64 (Int.tdiv (w64 (2+r18.1)) 2))).bind fun r19=>some ((As (⟨1,(w64 (1+r14.1)),r3.1,(w64 (1+r19.1)),(w64 (2+r18.1))⟩:Call)),(AP (AD r19.2.1)),())) (cond (decide (r15.1=2)) ((AU (AD r15.2.1) 3).bind fun r20=>(AU (AD r20.2.1) 4).bind fun r21=>some ((As (⟨2,(w64 (1+r14.1)),r3.1,(w64 (1+r20.1)),r21.1⟩:Call)),(AP (AD r21.2.1)),())) ((AU (AD r15.2.1) 9).bind fun r22=>some ((As (⟨3,(w64 (1+r14.1)),r3.1,(w64 (r22.1-4)),0⟩:Call)),(AP (AD r22.2.1)),()))))) (Gs n n (AD r13.2.1) a1 (⟨0,0,0,0,0⟩:Call) r1.1 r3.1 0 (fun w31 w32=>some ((As w32),(AP w31),())) (fun w33=>(AU w33 16).bind fun r34=>cond (decide (r34.1=0)) (some ((As (⟨4,r1.1,0,0,0⟩:Call)),(AP (AD r34.2.1)),())) (cond (decide (r34.1=1)) (some ((As (⟨4,r1.1,0,0,0⟩:Call)),(AP (AD r34.2.1)),())) (cond (decide (r34.1=2)) (some ((As (⟨5,r1.1,0,0,0⟩:Call)),(AP (AD r34.2.1)),())) (cond (decide (r34.1=3)) (some ((As (⟨6,r1.1,0,0,0⟩:Call)),(AP (AD r34.2.1)),())) (cond (decide (r34.1=4)) ((AU (AD r34.2.1) 3).bind fun r35=>some ((As (⟨7,r1.1,0,r35.1,0⟩:Call)),(AP (AD r35.2.1)),())) (cond (decide (r34.1=5)) ((AU (AD r34.2.1) 3).bind fun r36=>some ((As (⟨7,r1.1,0,r36.1,0⟩:Call)),(AP (AD r36.2.1)),())) (cond (decide (r34.1=6)) ((AU (AD r34.2.1) 3).bind fun r37=>some ((As (⟨7,r1.1,0,r37.1,0⟩:Call)),(AP (AD r37.2.1)),())) (cond (decide (r34.1=7)) ((AU (AD r34.2.1) 3).bind fun r38=>cond (decide (3<(a1.Locks.length:Int))) (cond (decide (0≤r38.1)&&decide (r38.1<(a1.Locks.length:Int))) (let e39:=(decide (0<(List.getD a1.Locks (Int.toNat r38.1) (Kd.dflt .lock)).Owner));cond e39 (cond (decide (0≤r38.1)&&decide (r38.1<(a1.Locks.length:Int))) (some ((As (⟨8,(List.getD a1.Locks (Int.toNat r38.1) (Kd.dflt .lock)).Owner,0,r38.1,0⟩:Call)),(AP (AD r38.2.1)),())) none) (some ((As (⟨8,r1.1,0,r38.1,0⟩:Call)),(AP (AD r38.2.1)),()))) none) (some ((As (⟨8,r1.1,0,r38.1,0⟩:Call)),(AP (AD r38.2.1)),()))) (cond (decide (r34.1=8)) ((AU (AD r34.2.1) 3).bind fun r40=>cond (decide (3<(a1.Locks.length:Int))) (cond (decide (0≤r40.1)&&decide (r40.1<(a1.Locks.length:Int))) (let e41:=(decide (0<(List.getD a1.Locks (Int.toNat r40.1) (Kd.dflt .lock)).Owner));cond e41 (cond (decide (0≤r40.1)&&decide (r40.1<(a1.Locks.length:Int))) (some ((As (⟨8,(List.getD a1.Locks (Int.toNat r40.1) (Kd.dflt .lock)).Owner,0,r40.1,0⟩:Call)),(AP (AD r40.2.1)),())) none) (some ((As (⟨8,r1.1,0,r40.1,0⟩:Call)),(AP (AD r40.2.1)),()))) none) (some ((As (⟨8,r1.1,0,r40.1,0⟩:Call)),(AP (AD r40.2.1)),()))) (cond (decide (r34.1=9)) ((AU (AD r34.2.1) 9).bind fun r42=>some ((As (⟨9,r1.1,0,(w64 (r42.1-4)),0⟩:Call)),(AP (AD r42.2.1)),())) (cond (decide (r34.1=10)) (some ((As (⟨10,r1.1,r3.1,0,0⟩:Call)),(AP (AD r34.2.1)),())) ((AU (AD r34.2.1) 6).bind fun r43=>some ((As (⟨11,0,0,(w64 (1+r43.1)),0⟩:Call)),(AP (AD r43.2.1)),())))))))))))))))
def n5(n:Nat):Rw:=⟨70,pA [.box (pV [.rog .u8,.int,.int]),.v Aq],q7,fun x=>LG n (AD x.1) (AS x.2.1)⟩
def rI(n:Nat):LS:=AN ⟨14,([0,3,4,5,6,8]),[],[],([0,3,4,5,6]),[0,1,2]⟩ 153 [0,3,4,5,6,8] 111 (pD [.ptr 0 0,.ptr 1 0,.ptr 2 0,.int,.int,.int]) [.box Ia,.box Ah,.box IZ] (fun m x k=>Gs n m (AD x.2.1) (AS x.2.2.1) (Ar x.2.2.2.1) x.1.2.2.2.1 x.1.2.2.2.2.1 x.1.2.2.2.2.2.1 (fun w0 w1=>k .ret (eS 153 [0,3,4,5,6] [.ptr 0 0,.ptr 1 0,.ptr 2 0,.int x.1.2.2.2.1,.int x.1.2.2.2.2.1] 111 [.box [.ro true .u8 w0.b,.int w0.i,.int w0.h],.box (Ah.make x.2.2.1),.box [.int w1.Kind,.int w1.No,.int w1.Cpu,.int w1.A,.int w1.B]])) (fun w0=>k (.exit 1) (eS 153 [0,3,4,5,6] [.ptr 0 0,.ptr 1 0,.ptr 2 0,.int x.1.2.2.2.1,.int x.1.2.2.2.2.1] 111 [.box [.ro true .u8 w0.b,.int w0.i,.int w0.h],.box (Ah.make x.2.2.1),.box (IZ.make x.2.2.2.1)])))
theorem XZ(n:Nat):RO (n5 n):=
 rL ⟨Go.Proofs.Tryz.f70,⟨[(0,[(0,.slot 1 .int),(1,.slot 2 .int)]),(1,[(2,q3)]),(2,[(3,cl 2 .int 0),(4,q3)]),(3,[(6,q5)]),(4,[(1,q3)]),(5,[(1,q3)]),(8,[(1,q3)]),(9,[(5,q3)]),(11,[(3,q3),(6,q3)]),(12,[(3,q3)]),(16,[(9,q5)]),(18,[(1,q3)]),(29,[(2,q3)]),(32,[(1,q3)]),(37,[(2,q3)]),(40,[(1,q3)])],[],[]⟩,3⟩ [rI n] n (ec Xf (ec IG (ec Ct (ec PF en)))) Go.Proofs.Tryz.func70 (by kernel_rfl) ⟨AO (fun m x k=>by kernel_rfl) (fun _ _=>rfl),trivial⟩ (fun x=>by kernel_rfl)
def OS(a0:Task):Option (Bool×Unit):=cond (decide (a0.Q=0)) (cond (decide (a0.P=0)) (cond (decide (a0.Prio=0)) (cond (decide (a0.Round=0)) (cond (decide (a0.Nice=0)) (cond (decide (a0.Class=1)) (cond (decide (a0.Seq=0)) (some ((decide (a0.V=0)),())) (some (false,()))) (cond (decide (a0.Class=2)) (cond (decide (a0.Due=0)) (some ((decide (a0.V=0)),())) (some (false,()))) (cond (decide (a0.Due=0)) (cond (decide (a0.Seq=0)) (some ((decide (a0.Left=0)),())) (some (false,()))) (some (false,()))))) (cond (decide (a0.Class=1)) (cond (decide (a0.Seq=0)) (some (false,())) (some (false,()))) (cond (decide (a0.Class=2)) (cond (decide (a0.Due=0)) (some (false,())) (some (false,()))) (cond (decide (a0.Due=0)) (cond (decide (a0.Seq=0)) (some ((decide (a0.Left=0)),())) (some (false,()))) (some (false,())))))) (cond (decide (a0.Nice=0)) (cond (decide (a0.Class=1)) (some (false,())) (cond (decide (a0.Class=2)) (cond (decide (a0.Due=0)) (some ((decide (a0.V=0)),())) (some (false,()))) (cond (decide (a0.Due=0)) (some (false,())) (some (false,()))))) (cond (decide (a0.Class=1)) (some (false,())) (cond (decide (a0.Class=2)) (cond (decide (a0.Due=0)) (some (false,())) (some (false,()))) (cond (decide (a0.Due=0)) (some (false,())) (some (false,()))))))) (cond (decide (a0.Nice=0)) (cond (decide (a0.Class=1)) (some (false,())) (cond (decide (a0.Class=2)) (cond (decide (a0.Due=0)) (some ((decide (a0.V=0)),())) (some (false,()))) (cond (decide (a0.Due=0)) (some (false,())) (some (false,()))))) (cond (decide (a0.Class=1)) (some (false,())) (cond (decide (a0.Class=2)) (cond (decide (a0.Due=0)) (some (false,())) (some (false,()))) (cond (decide (a0.Due=0)) (some (false,())) (some (false,()))))))) (cond (decide (a0.Prio=0)) (cond (decide (a0.Round=0)) (cond (decide (a0.Nice=0)) (cond (decide (a0.Class=1)) (cond (decide (a0.Seq=0)) (some ((decide (a0.V=0)),())) (some (false,()))) (cond (decide (a0.Class=2)) (some (false,())) (some (false,())))) (cond (decide (a0.Class=1)) (cond (decide (a0.Seq=0)) (some (false,())) (some (false,()))) (cond (decide (a0.Class=2)) (some (false,())) (some (false,()))))) (cond (decide (a0.Nice=0)) (cond (decide (a0.Class=1)) (some (false,())) (cond (decide (a0.Class=2)) (some (false,())) (some (false,())))) (cond (decide (a0.Class=1)) (some (false,())) (cond (decide (a0.Class=2)) (some (false,())) (some (false,())))))) (cond (decide (a0.Nice=0)) (cond (decide (a0.Class=1)) (some (false,())) (cond (decide (a0.Class=2)) (some (false,())) (some (false,())))) (cond (decide (a0.Class=1)) (some (false,())) (cond (decide (a0.Class=2)) (some (false,())) (some (false,()))))))) (cond (decide (a0.Prio=0)) (cond (decide (a0.Round=0)) (cond (decide (a0.Nice=0)) (cond (decide (a0.Class=1)) (cond (decide (a0.Seq=0)) (some ((decide (a0.V=0)),())) (some (false,()))) (cond (decide (a0.Class=2)) (some (false,())) (some (false,())))) (cond (decide (a0.Class=1)) (cond (decide (a0.Seq=0)) (some (false,())) (some (false,()))) (cond (decide (a0.Class=2)) (some (false,())) (some (false,()))))) (cond (decide (a0.Nice=0)) (cond (decide (a0.Class=1)) (some (false,())) (cond (decide (a0.Class=2)) (some (false,())) (some (false,())))) (cond (decide (a0.Class=1)) (some (false,())) (cond (decide (a0.Class=2)) (some (false,())) (some (false,())))))) (cond (decide (a0.Nice=0)) (cond (decide (a0.Class=1)) (some (false,())) (cond (decide (a0.Class=2)) (some (false,())) (some (false,())))) (cond (decide (a0.Class=1)) (some (false,())) (cond (decide (a0.Class=2)) (some (false,())) (some (false,()))))))
def oX:Rw:=⟨210,pV [Au],pS [.bool],fun x=>OS (AC x.1)⟩
theorem oY:RO (oX):=
 rE ⟨Go.Proofs.Tryz.f210,⟨[(0,[(0,.slot 0 .int)])],[],[]⟩,1⟩ 0 en Go.Proofs.Tryz.func210 (by kernel_rfl) (fun x=>by kernel_rfl)
def Hb(a0:Share):Option (Bool×Unit):=(Ay a0.P 1 40).bind fun r1=>cond r1.1 ((Ay a0.Q 1 a0.P).bind fun r2=>some (r2.1,())) (some (false,()))
def nI:Rw:=⟨156,pV [Pi],pS [.bool],fun x=>Hb (GC x.1)⟩
theorem PC:RO (nI):=
 rE ⟨Go.Proofs.Tryz.f156,⟨[(0,[(0,.slot 0 .int)]),(1,[(2,cl 3 .bool 0),(8,cl 3 .bool 0)])],[],[]⟩,1⟩ 0 (ec Bz en) Go.Proofs.Tryz.func156 (by kernel_rfl) (fun x=>by kernel_rfl)
def He(a0:Int)(a1:Int):Option (Int×Unit):=cond (decide (a0<a1)) (some (a0,())) (some (a1,()))
def oT:Rw:=⟨129,pV [.int,.int],pS [.int],fun x=>He x.1 x.2.1⟩
theorem SF:RO (oT):=
 rE ⟨Go.Proofs.Tryz.f129,⟨[],[],[]⟩,0⟩ 0 en Go.Proofs.Tryz.func129 (by kernel_rfl) (fun x=>by kernel_rfl)
def GS(a0:Int):Option (Bool×Unit):=(Ay a0 (-4) 4).bind fun r1=>some (r1.1,())
def nC:Rw:=⟨167,pV [.int],pS [.bool],fun x=>GS x.1⟩
theorem MA:RO (nC):=
 rE ⟨Go.Proofs.Tryz.f167,⟨[(1,[(1,cl 3 .bool 0)])],[],[]⟩,0⟩ 0 (ec Bz en) Go.Proofs.Tryz.func167 (by kernel_rfl) (fun x=>by kernel_rfl)
def Er(a0:Task):Option (Bool×Unit):=(Ay a0.No 1 1000).bind fun r1=>cond (!r1.1) (some (false,())) ((Ay a0.Class 1 3).bind fun r2=>cond (!r2.1) (some (false,())) ((Ay a0.Cpu 0 3).bind fun r3=>cond (!r3.1) (some (false,())) ((Ay a0.State 1 2).bind fun r4=>cond (!r4.1) (some (false,())) ((OS a0).bind fun r5=>cond (!r5.1) (some (false,())) (cond (decide (a0.Class=1)) ((Hb (⟨a0.Q,a0.P⟩:Share)).bind fun r6=>cond r6.1 ((Ay a0.Left 0 a0.Q).bind fun r7=>cond r7.1 ((Ay a0.Due 0 100040).bind fun r8=>some (r8.1,())) (some (false,()))) (some (false,()))) (cond (decide (a0.Class=2)) ((Ay a0.Prio 1 20).bind fun r9=>cond r9.1 ((Ay a0.Round 0 10).bind fun r10=>cond r10.1 ((He a0.Round 1).bind fun r11=>(Ay a0.Left r11.1 a0.Round).bind fun r12=>cond r12.1 ((Ay a0.Seq 0 1000000).bind fun r13=>some (r13.1,())) (some (false,()))) (some (false,()))) (some (false,()))) ((GS a0.Nice).bind fun r14=>cond r14.1 ((Ay a0.V 0 100000000).bind fun r15=>some (r15.1,())) (some (false,())))))))))
def ni:Rw:=⟨154,pV [Au],pS [.bool],fun x=>Er (AC x.1)⟩
theorem J3:RO (ni):=
 rE ⟨Go.Proofs.Tryz.f154,⟨[(0,[(0,.slot 0 .int)]),(1,[(2,cl 3 .bool 0),(7,cl 3 .bool 0),(13,cl 3 .bool 0),(19,cl 3 .bool 0),(24,cl 1 .bool 0)]),(5,[(5,cl 1 .bool 0),(11,cl 3 .bool 0),(16,cl 3 .bool 0)]),(7,[(2,cl 3 .bool 0),(6,cl 3 .bool 0),(13,cl 2 .int 0),(16,cl 3 .bool 0),(21,cl 3 .bool 0)]),(8,[(2,cl 1 .bool 0),(6,cl 3 .bool 0)])],[(7,dr 24 [(0,[0],[]),(1,[0],[]),(4,[0],[]),(5,[0],[]),(9,[0],[]),(10,[0],[]),(11,[0],[]),(12,[0],[]),(14,[0],[]),(15,[0],[]),(19,[0],[]),(20,[0],[])])],[]⟩,1⟩ 0 (ec Bz (ec oY (ec PC (ec SF (ec MA en))))) Go.Proofs.Tryz.func154 (by kernel_rfl) (fun x=>by kernel_rfl)
def D9{α:Type}(n:Nat):Nat→List Task→Int→(Option α)→(Option α)→Option α|0,_,_,_,_=>none|m0+1,v1,v2,k0_0,k0_1=>cond (decide (v2<(v1.length:Int))) (cond (decide (0≤v2)&&decide (v2<(v1.length:Int))) ((Er (List.getD v1 (Int.toNat v2) (Kd.dflt .task))).bind fun r3=>cond (!r3.1) k0_0 (cond (decide (0<v2)) (cond ((decide (0≤(w64 (v2-1))))&&(decide ((w64 (v2-1))<(v1.length:Int)))) (cond (decide (0≤v2)&&decide (v2<(v1.length:Int))) (let e4:=(decide ((List.getD v1 (Int.toNat v2) (Kd.dflt .task)).No≤(List.getD v1 (Int.toNat (w64 (v2-1))) (Kd.dflt .task)).No));cond e4 k0_0 (D9 n m0 v1 (w64 (v2+1)) k0_0 k0_1)) none) none) (D9 n m0 v1 (w64 (v2+1)) k0_0 k0_1))) none) k0_1
def EP(n:Nat)(a0:List Task):Option (Bool×Unit):=D9 n n a0 0 (some (false,())) (some ((decide ((a0.length:Int)≤12)),()))
def nk(n:Nat):Rw:=⟨87,pV [.ro .task],pS [.bool],fun x=>EP n x.1.2⟩
def rA(n:Nat):LS:=AN ⟨2,[0,3],[],[],[0,2],[]⟩ 37 [0,3] 0 (pD [.ro .task,.int]) [] (fun m x k=>D9 n m x.1.1.2 x.1.2.1 (k .ret (eS 37 [0,2] [.ro x.1.1.1 .task x.1.1.2,.bool false] 0 [])) (k (.exit 0) (eS 37 [0] [.ro x.1.1.1 .task x.1.1.2] 0 [])))
theorem PE(n:Nat):RO (nk n):=
 rL ⟨Go.Proofs.Tryz.f87,⟨[(4,[(4,cl 1 .bool 0)])],[(4,dr 24 [])],[]⟩,0⟩ [rA n] n (ec J3 en) Go.Proofs.Tryz.func87 (by kernel_rfl) ⟨AO (fun m x k=>by kernel_rfl) (fun _ _=>rfl),trivial⟩ (fun x=>by kernel_rfl)
def Fq{α:Type}(n:Nat):Nat→List Int→Int→Int→(Option α)→(Option α)→Option α|0,_,_,_,_,_=>none|m0+1,v1,v2,v3,k0_0,k0_1=>cond (decide (v3<(v1.length:Int))) (cond (decide (0≤v3)&&decide (v3<(v1.length:Int))) (cond (decide ((List.getD v1 (Int.toNat v3) (Kd.dflt .int))=v2)) k0_0 (Fq n m0 v1 v2 (w64 (v3+1)) k0_0 k0_1)) none) k0_1
def Et(n:Nat)(a0:List Int)(a1:Int):Option (Bool×Unit):=Fq n n a0 a1 0 (some (true,())) (some (false,()))
def o0(n:Nat):Rw:=⟨121,pV [.ro .int,.int],pS [.bool],fun x=>Et n x.1.2 x.2.1⟩
def rc(n:Nat):LS:=AN ⟨2,[0,1,5],[],[],[4],[]⟩ 18 [0,1,5] 0 (pD [.ro .int,.int,.int]) [] (fun m x k=>Fq n m x.1.1.2 x.1.2.1 x.1.2.2.1 (k .ret (eS 18 [4] [.bool true] 0 [])) (k (.exit 0) (eS 18 [] [] 0 [])))
theorem J7(n:Nat):RO (o0 n):=
 rL ⟨Go.Proofs.Tryz.f121,⟨[],[],[]⟩,0⟩ [rc n] n en Go.Proofs.Tryz.func121 (by kernel_rfl) ⟨AO (fun m x k=>by kernel_rfl) (fun _ _=>rfl),trivial⟩ (fun x=>by kernel_rfl)
def Jl{α:Type}(n:Nat):Nat→List Lock→Int→Int→(Int→Option α)→(Option α)→Option α|0,_,_,_,_,_=>none|m0+1,v1,v2,v3,k0_0,k0_1=>cond (decide (v3<(v1.length:Int))) (cond (decide (0≤v3)&&decide (v3<(v1.length:Int))) ((Et n ((List.getD v1 (Int.toNat v3) (Kd.dflt .lock)).Waits) v2).bind fun r4=>cond r4.1 (k0_0 v3) (Jl n m0 v1 v2 (w64 (v3+1)) k0_0 k0_1)) none) k0_1
def Dn(n:Nat)(a0:List Lock)(a1:Int):Option (Int×Unit):=Jl n n a0 a1 0 (fun w5=>some (w5,())) (some ((-1),()))
def nl(n:Nat):Rw:=⟨163,pV [.ro .lock,.int],pS [.int],fun x=>Dn n x.1.2 x.2.1⟩
def rB(n:Nat):LS:=AN ⟨2,[0,1,5],[],[],[4],[]⟩ 20 [0,1,5] 0 (pD [.ro .lock,.int,.int]) [] (fun m x k=>Jl n m x.1.1.2 x.1.2.1 x.1.2.2.1 (fun w0=>k .ret (eS 20 [4] [.int w0] 0 [])) (k (.exit 0) (eS 20 [] [] 0 [])))
theorem FN(n:Nat):RO (nl n):=
 rL ⟨Go.Proofs.Tryz.f163,⟨[(4,[(6,cl 2 .bool 0)])],[],[]⟩,0⟩ [rB n] n (ec (J7 n) en) Go.Proofs.Tryz.func163 (by kernel_rfl) ⟨AO (fun m x k=>by kernel_rfl) (fun _ _=>rfl),trivial⟩ (fun x=>by kernel_rfl)
def EY{α:Type}(n:Nat):Nat→List Lock→Int→List Int→Int→(List Int→Option α)→(List Int→Option α)→Option α|0,_,_,_,_,_,_=>none|m0+1,v1,v2,v3,v4,k0_0,k0_1=>cond (decide (v4≤(v1.length:Int))) ((Dn n v1 v2).bind fun r5=>cond (decide (r5.1<0)) (k0_0 v3) (cond (decide (0≤r5.1)&&decide (r5.1<(v1.length:Int))) (let e6:=([(List.getD v1 (Int.toNat r5.1) (Kd.dflt .lock)).Owner]:List Int);cond (decide ((v3).length+(e6).length≤lim)) (EY n m0 v1 ((List.getD v1 (Int.toNat r5.1) (Kd.dflt .lock)).Owner) (v3++e6) (w64 (v4+1)) k0_0 k0_1) none) none)) (k0_1 v3)
def Hh(n:Nat)(a0:List Lock)(a1:Int):Option ((List Int×Bool×Unit)×Unit):=EY n n a0 a1 ([a1]:List Int) 0 (fun w7=>some ((w7,true,()),())) (fun w8=>some ((w8,false,()),()))
def ol(n:Nat):Rw:=⟨211,pV [.ro .lock,.int],q11,fun x=>Hh n x.1.2 x.2.1⟩
def rX(n:Nat):LS:=AN ⟨3,[0,1,6,7],[(.t 6,1,.int)],[2,3],[4,5,6],[1,2,3]⟩ 33 [0,1,6,7] 4133 (pD [.ro .lock,.int,.bor 1,.int]) [.root .int] (fun m x k=>EY n m x.1.1.2 x.1.2.1 x.2.1 x.1.2.2.2.1 (fun w0=>k .ret (eS 33 [4,5,6] [.bor 1,.bool true,.bor 1] 4133 [.root .int w0 .ok])) (fun w0=>k (.exit 0) (eS 33 [6] [.bor 1] 4133 [.root .int w0 .ok])))
theorem Xn(n:Nat):RO (ol n):=
 rL ⟨Go.Proofs.Tryz.f211,⟨[(1,[(1,.slot 0 .int)]),(5,[(2,cl 2 .int 0)]),(9,[(2,.slot 2 .int),(3,.slot 3 .int)])],[],[]⟩,4⟩ [rX n] n (ec (FN n) en) Go.Proofs.Tryz.func211 (by kernel_rfl) ⟨AO (fun m x k=>by kernel_rfl) (fun _ _=>rfl),trivial⟩ (fun x=>by kernel_rfl)
def Gv{α:Type}(n:Nat):Nat→List Lock→Int→Int→Int→Int→(Int→Option α)→Option α|0,_,_,_,_,_,_=>none|m1+1,v5,v6,v7,v8,v9,k1_0=>cond (decide (0≤v8)&&decide (v8<(v5.length:Int))) (let e10:=(((List.getD v5 (Int.toNat v8) (Kd.dflt .lock)).Waits).length:Int);cond (decide (v9<e10)) (cond (decide (0≤v8)&&decide (v8<(v5.length:Int))) (cond ((decide (0≤v9))&&(decide (v9<(((List.getD v5 (Int.toNat v8) (Kd.dflt .lock)).Waits).length:Int)))) (let e11:=(List.getD (List.getD v5 (Int.toNat v8) (Kd.dflt .lock)).Waits (Int.toNat v9) (Kd.dflt .int));cond (decide (e11=v6)) (Gv n m1 v5 v6 (w64 (v7+1)) v8 (w64 (v9+1)) k1_0) (Gv n m1 v5 v6 v7 v8 (w64 (v9+1)) k1_0)) none) none) (k1_0 v7)) none
def Jp{α:Type}(n:Nat):Nat→List Lock→Int→Int→Int→(Int→Option α)→Option α|0,_,_,_,_,_=>none|m0+1,v1,v2,v3,v4,k0_0=>cond (decide (v4<(v1.length:Int))) (Gv n n v1 v2 v3 v4 0 (fun w12=>Jp n m0 v1 v2 w12 (w64 (v4+1)) k0_0)) (k0_0 v3)
def OV(n:Nat)(a0:List Lock)(a1:Int):Option (Int×Unit):=Jp n n a0 a1 0 0 (fun w13=>some (w13,()))
def o3(n:Nat):Rw:=⟨212,pV [.ro .lock,.int],pS [.int],fun x=>OV n x.1.2 x.2.1⟩
def rg(n:Nat):LS:=AN ⟨3,[0,1,5,6],[],[],[5],[]⟩ 37 [0,1,5,6] 0 (pD [.ro .lock,.int,.int,.int]) [] (fun m x k=>Jp n m x.1.1.2 x.1.2.1 x.1.2.2.1 x.1.2.2.2.1 (fun w0=>k (.exit 0) (eS 37 [5] [.int w0] 0 [])))
def rh(n:Nat):LS:=AN ⟨6,([0,1,5,6,7]),[],[],[0,1,5,6],[]⟩ 37 [0,1,5,6,7] 0 (pD [.ro .lock,.int,.int,.int,.int]) [] (fun m x k=>Gv n m x.1.1.2 x.1.2.1 x.1.2.2.1 x.1.2.2.2.1 x.1.2.2.2.2.1 (fun w0=>k (.exit 2) (eS 37 [0,1,5,6] [.ro x.1.1.1 .lock x.1.1.2,.int x.1.2.1,.int w0,.int x.1.2.2.2.1] 0 [])))
theorem o4(n:Nat):RO (o3 n):=
 rL ⟨Go.Proofs.Tryz.f212,⟨[],[],[]⟩,0⟩ [rg n,rh n] n en Go.Proofs.Tryz.func212 (by kernel_rfl) ⟨AO (fun m x k=>by kernel_rfl) (fun _ _=>rfl),AO (fun m x k=>by kernel_rfl) (fun _ _=>rfl),trivial⟩ (fun x=>by kernel_rfl)
def EV{α:Type}(n:Nat):Nat→List Lock→Int→Int→(Option α)→(Option α)→Option α|0,_,_,_,_,_=>none|m1+1,v6,v7,v8,k1_0,k1_1=>cond (decide (0≤v7)&&decide (v7<(v6.length:Int))) (let e9:=(((List.getD v6 (Int.toNat v7) (Kd.dflt .lock)).Waits).length:Int);cond (decide (v8<e9)) (cond (decide (0≤v7)&&decide (v7<(v6.length:Int))) (cond ((decide (0≤v8))&&(decide (v8<(((List.getD v6 (Int.toNat v7) (Kd.dflt .lock)).Waits).length:Int)))) (let e10:=(List.getD (List.getD v6 (Int.toNat v7) (Kd.dflt .lock)).Waits (Int.toNat v8) (Kd.dflt .int));(Hh n v6 e10).bind fun r11=>(Ay e10 1 1000).bind fun r12=>cond (!r12.1) k1_0 ((OV n v6 e10).bind fun r13=>cond (!(decide (r13.1=1))) k1_0 (cond (!r11.1.2.1) k1_0 (EV n m1 v6 v7 (w64 (v8+1)) k1_0 k1_1)))) none) none) k1_1) none
def FA{α:Type}(n:Nat):Nat→List Lock→Int→(Option α)→(Option α)→Option α|0,_,_,_,_=>none|m0+1,v1,v2,k0_0,k0_1=>cond (decide (v2<(v1.length:Int))) (cond (decide (0≤v2)&&decide (v2<(v1.length:Int))) ((Ay ((List.getD v1 (Int.toNat v2) (Kd.dflt .lock)).Owner) 0 1000).bind fun r3=>cond (!r3.1) k0_0 (cond (decide (0≤v2)&&decide (v2<(v1.length:Int))) (let e4:=(decide ((List.getD v1 (Int.toNat v2) (Kd.dflt .lock)).Owner=0));cond e4 (cond (decide (0≤v2)&&decide (v2<(v1.length:Int))) (let e5:=(((List.getD v1 (Int.toNat v2) (Kd.dflt .lock)).Waits).length:Int);cond (decide (0<e5)) k0_0 (EV n n v1 v2 0 k0_0 (FA n m0 v1 (w64 (v2+1)) k0_0 k0_1))) none) (EV n n v1 v2 0 k0_0 (FA n m0 v1 (w64 (v2+1)) k0_0 k0_1))) none)) none) k0_1
def Fb(n:Nat)(a0:List Lock):Option (Bool×Unit):=cond (decide (5<(a0.length:Int))) (some (false,())) (FA n n a0 0 (some (false,())) (some (true,())))
def m8(n:Nat):Rw:=⟨155,pV [.ro .lock],pS [.bool],fun x=>Fb n x.1.2⟩
def qj(n:Nat):LS:=AN ⟨4,[0,3],[],[],[2],[]⟩ 78 [0,3] 0 (pD [.ro .lock,.int]) [] (fun m x k=>FA n m x.1.1.2 x.1.2.1 (k .ret (eS 78 [2] [.bool false] 0 [])) (k (.exit 0) (eS 78 [] [] 0 [])))
def qk(n:Nat):LS:=AN ⟨9,[0,3,4],[],[],[0,2,3],[]⟩ 78 [0,3,4] 0 (pD [.ro .lock,.int,.int]) [] (fun m x k=>EV n m x.1.1.2 x.1.2.1 x.1.2.2.1 (k .ret (eS 78 [0,2,3] [.ro x.1.1.1 .lock x.1.1.2,.bool false,.int x.1.2.1] 0 [])) (k (.exit 2) (eS 78 [0,3] [.ro x.1.1.1 .lock x.1.1.2,.int x.1.2.1] 0 [])))
theorem J2(n:Nat):RO (m8 n):=
 rL ⟨Go.Proofs.Tryz.f155,⟨[(6,[(5,cl 3 .bool 0)]),(12,[(2,q13)]),(13,[(1,cl 3 .bool 0),(6,cl 2 .int 0)])],[],[]⟩,0⟩ [qj n,qk n] n (ec Bz (ec (Xn n) (ec (o4 n) en))) Go.Proofs.Tryz.func155 (by kernel_rfl) ⟨AO (fun m x k=>by kernel_rfl) (fun _ _=>rfl),AO (fun m x k=>by kernel_rfl) (fun _ _=>rfl),trivial⟩ (fun x=>by kernel_rfl)
end Go.Proofs.YthoholbeacojfaaGreat.VR
end
section
set_option linter.unusedVariables false
set_option maxRecDepth 100000
namespace Go.Proofs.YthoholbeacojfaaGreat.VR
open Go
def Jk{α:Type}(n:Nat):Nat→List Task→Int→Int→(Int→Option α)→(Option α)→Option α|0,_,_,_,_,_=>none|m0+1,v1,v2,v3,k0_0,k0_1=>cond (decide (v3<(v1.length:Int))) (cond (decide (0≤v3)&&decide (v3<(v1.length:Int))) (let e4:=(decide ((List.getD v1 (Int.toNat v3) (Kd.dflt .task)).No=v2));cond e4 (k0_0 v3) (Jk n m0 v1 v2 (w64 (v3+1)) k0_0 k0_1)) none) k0_1
def Cm(n:Nat)(a0:List Task)(a1:Int):Option (Int×Unit):=Jk n n a0 a1 0 (fun w5=>some (w5,())) (some ((-1),()))
def nh(n:Nat):Rw:=⟨106,pV [.ro .task,.int],pS [.int],fun x=>Cm n x.1.2 x.2.1⟩
def q8(n:Nat):LS:=AN ⟨2,[0,1,5],[],[],[4],[]⟩ 20 [0,1,5] 0 (pD [.ro .task,.int,.int]) [] (fun m x k=>Jk n m x.1.1.2 x.1.2.1 x.1.2.2.1 (fun w0=>k .ret (eS 20 [4] [.int w0] 0 [])) (k (.exit 0) (eS 20 [] [] 0 [])))
theorem Fw(n:Nat):RO (nh n):=
 rL ⟨Go.Proofs.Tryz.f106,⟨[],[],[]⟩,0⟩ [q8 n] n en Go.Proofs.Tryz.func106 (by kernel_rfl) ⟨AO (fun m x k=>by kernel_rfl) (fun _ _=>rfl),trivial⟩ (fun x=>by kernel_rfl)
def Js{α:Type}(n:Nat):Nat→Sys→Int→Lock→Int→Int→(Option α)→(Option α)→Option α|0,_,_,_,_,_,_,_=>none|m1+1,v6,v7,v8,v9,v10,k1_0,k1_1=>cond (decide (v10<(v8.Waits.length:Int))) (cond (decide (0≤v10)&&decide (v10<(v8.Waits.length:Int))) ((Cm n v6.Tasks (List.getD v8.Waits (Int.toNat v10) (Kd.dflt .int))).bind fun r11=>cond (decide (r11.1<0)) k1_0 (cond (decide (0≤r11.1)&&decide (r11.1<(v6.Tasks.length:Int))) (cond (decide (0≤v9)&&decide (v9<(v6.Tasks.length:Int))) (let e12:=(!(decide ((List.getD v6.Tasks (Int.toNat r11.1) (Kd.dflt .task)).Cpu=(List.getD v6.Tasks (Int.toNat v9) (Kd.dflt .task)).Cpu)));cond e12 k1_0 (Js n m1 v6 v7 v8 v9 (w64 (v10+1)) k1_0 k1_1)) none) none)) none) k1_1
def Fr{α:Type}(n:Nat):Nat→Sys→Int→(Option α)→(Option α)→Option α|0,_,_,_,_=>none|m0+1,v2,v3,k0_0,k0_1=>cond (decide (v3<(v2.Locks.length:Int))) (cond (decide (0≤v3)&&decide (v3<(v2.Locks.length:Int))) (let e4:=(decide ((List.getD v2.Locks (Int.toNat v3) (Kd.dflt .lock)).Owner=0));cond e4 (Fr n m0 v2 (w64 (v3+1)) k0_0 k0_1) ((Cm n v2.Tasks ((List.getD v2.Locks (Int.toNat v3) (Kd.dflt .lock)).Owner)).bind fun r5=>cond (decide (r5.1<0)) k0_0 (Js n n v2 v3 (List.getD v2.Locks (Int.toNat v3) (Kd.dflt .lock)) r5.1 0 k0_0 (Fr n m0 v2 (w64 (v3+1)) k0_0 k0_1)))) none) k0_1
def OX(n:Nat)(a0:Sys):Option (Bool×Unit):=cond (!(decide ((a0.Locks.length:Int)=5))) (some (false,())) ((Fb n a0.Locks).bind fun r1=>cond (!r1.1) (some (false,())) (Fr n n a0 0 (some (false,())) (some (true,()))))
def pF(n:Nat):Rw:=⟨88,pV [Aq],pS [.bool],fun x=>OX n (AS x.1)⟩
def rl(n:Nat):LS:=AN ⟨4,[1,3],[],[1],[2],[]⟩ 72 [1,3] 13 (pD [.ptr 0 0,.int]) [.box Ah] (fun m x k=>Fr n m (AS x.2.1) x.1.2.1 (k .ret (eS 72 [2] [.bool false] 44 [])) (k (.exit 0) (eS 72 [] [] 44 [])))
def rm(n:Nat):LS:=AN ⟨12,([1,3,4,5,6]),[],[],[1,2,3],[0]⟩ 72 [1,3,4,5,6] 11 (pD [.ptr 0 0,.int,.ptr 1 0,.int,.int]) [.box Ah,.box (pD [.int,.ro .int])] (fun m x k=>Js n m (AS x.2.1) x.1.2.1 (Ld x.2.2.1) x.1.2.2.2.1 x.1.2.2.2.2.1 (k .ret (eS 72 [1,2,3] [.ptr 0 0,.bool false,.int x.1.2.1] 14 [.box (Ah.make x.2.1)])) (k (.exit 2) (eS 72 [1,3] [.ptr 0 0,.int x.1.2.1] 14 [.box (Ah.make x.2.1)])))
theorem pG(n:Nat):RO (pF n):=
 rL ⟨Go.Proofs.Tryz.f88,⟨[(0,[(0,.slot 0 .int)]),(1,[(7,cl 1 .bool 0)]),(6,[(5,.slot 1 .int)]),(8,[(4,cl 2 .int 0)]),(14,[(7,cl 2 .int 0)])],[(14,dr 9 [(0,[0],[]),(1,[0],[]),(2,[1],[]),(3,[1],[])]),(15,dr 17 [(3,[0],[]),(4,[0],[]),(9,[0],[]),(10,[0],[])])],[]⟩,2⟩ [rl n,rm n] n (ec (J2 n) (ec (Fw n) en)) Go.Proofs.Tryz.func88 (by kernel_rfl) ⟨AO (fun m x k=>by kernel_rfl) (fun _ _=>rfl),AO (fun m x k=>by kernel_rfl) (fun _ _=>rfl),trivial⟩ (fun x=>by kernel_rfl)
def Jr{α:Type}(n:Nat):Nat→Sys→Int→(Option α)→(Option α)→Option α|0,_,_,_,_=>none|m0+1,v1,v2,k0_0,k0_1=>cond (decide (v2<(v1.Ghosts.length:Int))) (cond (decide (0≤v2)&&decide (v2<(v1.Ghosts.length:Int))) ((Ay ((List.getD v1.Ghosts (Int.toNat v2) (Kd.dflt .ghost)).Cpu) 0 (w64 (v1.Cpus-1))).bind fun r3=>cond (!r3.1) k0_0 ((Hb ((List.getD v1.Ghosts (Int.toNat v2) (Kd.dflt .ghost)).S)).bind fun r4=>cond (!r4.1) k0_0 ((Ay ((List.getD v1.Ghosts (Int.toNat v2) (Kd.dflt .ghost)).Until) 0 100040).bind fun r5=>cond (!r5.1) k0_0 (Jr n m0 v1 (w64 (v2+1)) k0_0 k0_1)))) none) k0_1
def OW(n:Nat)(a0:Sys):Option (Bool×Unit):=Jr n n a0 0 (some (false,())) (some ((decide ((a0.Ghosts.length:Int)≤12)),()))
def pC(n:Nat):Rw:=⟨89,pV [Aq],pS [.bool],fun x=>OW n (AS x.1)⟩
def rk(n:Nat):LS:=AN ⟨2,[1,3],[],[1],[1,2],[0]⟩ 40 [1,3] 13 (pD [.ptr 0 0,.int]) [.box Ah] (fun m x k=>Jr n m (AS x.2.1) x.1.2.1 (k .ret (eS 40 [1,2] [.ptr 0 0,.bool false] 14 [.box (Ah.make x.2.1)])) (k (.exit 0) (eS 40 [1] [.ptr 0 0] 14 [.box (Ah.make x.2.1)])))
theorem pE(n:Nat):RO (pC n):=
 rL ⟨Go.Proofs.Tryz.f89,⟨[(0,[(0,.slot 0 .int)]),(4,[(5,.slot 1 .int)]),(5,[(5,cl 3 .bool 0),(10,cl 1 .bool 0),(16,cl 3 .bool 0)])],[],[]⟩,2⟩ [rk n] n (ec Bz (ec PC en)) Go.Proofs.Tryz.func89 (by kernel_rfl) ⟨AO (fun m x k=>by kernel_rfl) (fun _ _=>rfl),trivial⟩ (fun x=>by kernel_rfl)
def Gw{α:Type}(n:Nat):Nat→Int→Sys→List Share→Int→(List Share→Option α)→Option α|0,_,_,_,_,_=>none|m0+1,v1,v2,v3,v4,k0_0=>cond (decide (v4<(v2.Tasks.length:Int))) (cond (decide (0≤v4)&&decide (v4<(v2.Tasks.length:Int))) (let e5:=(decide ((List.getD v2.Tasks (Int.toNat v4) (Kd.dflt .task)).Cpu=v1));cond e5 (let e6:=(decide ((List.getD v2.Tasks (Int.toNat v4) (Kd.dflt .task)).Class=1));cond e6 (let e7:=([(⟨(List.getD v2.Tasks (Int.toNat v4) (Kd.dflt .task)).Q,(List.getD v2.Tasks (Int.toNat v4) (Kd.dflt .task)).P⟩:Share)]:List Share);cond (decide ((v3).length+(e7).length≤lim)) (Gw n m0 v1 v2 (v3++e7) (w64 (v4+1)) k0_0) none) (Gw n m0 v1 v2 v3 (w64 (v4+1)) k0_0)) (Gw n m0 v1 v2 v3 (w64 (v4+1)) k0_0)) none) (k0_0 v3)
def Fs{α:Type}(n:Nat):Nat→Int→Sys→List Share→Int→(List Share→Option α)→Option α|0,_,_,_,_,_=>none|m1+1,v9,v10,v11,v12,k1_0=>cond (decide (v12<(v10.Ghosts.length:Int))) (cond (decide (0≤v12)&&decide (v12<(v10.Ghosts.length:Int))) (let e13:=(decide ((List.getD v10.Ghosts (Int.toNat v12) (Kd.dflt .ghost)).Cpu=v9));cond e13 (cond (decide (0≤v12)&&decide (v12<(v10.Ghosts.length:Int))) (let e14:=([(List.getD v10.Ghosts (Int.toNat v12) (Kd.dflt .ghost)).S]:List Share);cond (decide ((v11).length+(e14).length≤lim)) (Fs n m1 v9 v10 (v11++e14) (w64 (v12+1)) k1_0) none) none) (Fs n m1 v9 v10 v11 (w64 (v12+1)) k1_0)) none) (k1_0 v11)
def LY(n:Nat)(a0:Sys)(a1:Int):Option (List Share×Unit):=Gw n n a1 a0 ([]:List Share) 0 (fun w8=>Fs n n a1 a0 w8 0 (fun w15=>some (w15,())))
def pH(n:Nat):Rw:=⟨91,pV [Aq,.int],q15,fun x=>LY n (AS x.1) x.2.1⟩
def rn(n:Nat):LS:=AN ⟨3,[1,2,5,6],[(.t 5,2,.share)],[3,4,5],[1,2,5],q16⟩ 64 [1,2,5,6] 141333333 (pD [.int,.ptr 0 0,.bor 2,.int]) [.box Ah,.root .share] (fun m x k=>Gw n m x.1.1 (AS x.2.1) x.2.2.1 x.1.2.2.2.1 (fun w0=>k (.exit 0) (eS 64 [1,2,5] [.int x.1.1,.ptr 0 0,.bor 2] 141333333 [.box (Ah.make x.2.1),.root .share w0 .ok])))
def rq(n:Nat):LS:=AN ⟨9,[1,2,5,8],[(.t 5,6,.share)],[7,8],[5],q17⟩ 64 [1,2,5,8] 144333133 (pD [.int,.ptr 0 0,.bor 6,.int]) [.box Ah,.root .share] (fun m x k=>Fs n m x.1.1 (AS x.2.1) x.2.2.1 x.1.2.2.2.1 (fun w0=>k (.exit 2) (eS 64 [5] [.bor 6] 444333133 [.root .share w0 .ok])))
theorem Xs(n:Nat):RO (pH n):=
 rL ⟨Go.Proofs.Tryz.f91,⟨[(0,[(0,.slot 0 .int)]),(1,[(0,.slot 1 .share)]),(5,[(5,.slot 3 .int)]),(7,[(6,.slot 4 .share),(7,.slot 5 .share)]),(12,[(7,.slot 7 .share),(8,.slot 8 .share)])],[],[]⟩,9⟩ [rn n,rq n] n en Go.Proofs.Tryz.func91 (by kernel_rfl) ⟨AO (fun m x k=>by kernel_rfl) (fun _ _=>rfl),AO (fun m x k=>by kernel_rfl) (fun _ _=>rfl),trivial⟩ (fun x=>by kernel_rfl)
def Jm{α:Type}(n:Nat):Nat→Int→Int→(Int→Option α)→Option α|0,_,_,_=>none|m0+1,v1,v2,k0_0=>cond (decide (0<v2)) (cond (decide (v2=0)) none (Jm n m0 v2 (Int.tmod v1 v2) k0_0)) (k0_0 v1)
def OR(n:Nat)(a0:Int)(a1:Int):Option (Int×Unit):=Jm n n a0 a1 (fun w3=>some (w3,()))
def oO(n:Nat):Rw:=⟨213,pV [.int,.int],pS [.int],fun x=>OR n x.1 x.2.1⟩
def rU(n:Nat):LS:=AN ⟨1,[0,1],[],[],[0],[]⟩ 12 [0,1] 0 (pD [.int,.int]) [] (fun m x k=>Jm n m x.1.1 x.1.2.1 (fun w0=>k (.exit 0) (eS 12 [0] [.int w0] 0 [])))
theorem oP(n:Nat):RO (oO n):=
 rL ⟨Go.Proofs.Tryz.f213,⟨[],[(2,dr 6 [])],[]⟩,0⟩ [rU n] n en Go.Proofs.Tryz.func213 (by kernel_rfl) ⟨AO (fun m x k=>by kernel_rfl) (fun _ _=>rfl),trivial⟩ (fun x=>by kernel_rfl)
def FC{α:Type}(n:Nat):Nat→List Share→Int→Int→Int→(Int→Int→Option α)→(Int→Int→Option α)→Option α|0,_,_,_,_,_,_=>none|m0+1,v1,v2,v3,v4,k0_0,k0_1=>cond (decide (v4<(v1.length:Int))) (cond (decide (0≤v4)&&decide (v4<(v1.length:Int))) ((Hb (List.getD v1 (Int.toNat v4) (Kd.dflt .share))).bind fun r5=>cond (!r5.1) (k0_0 v2 v3) (cond (decide (0≤v4)&&decide (v4<(v1.length:Int))) (let e6:=(w64 (v2*(List.getD v1 (Int.toNat v4) (Kd.dflt .share)).P));cond (decide (0≤v4)&&decide (v4<(v1.length:Int))) (let e7:=(w64 ((List.getD v1 (Int.toNat v4) (Kd.dflt .share)).Q*v3));cond (decide (0≤v4)&&decide (v4<(v1.length:Int))) (let e8:=(w64 (v3*(List.getD v1 (Int.toNat v4) (Kd.dflt .share)).P));(OR n (w64 (e6+e7)) e8).bind fun r9=>cond (decide (r9.1=0)) none (cond (decide (r9.1=0)) none (FC n m0 v1 (w64 (Int.tdiv (w64 (e6+e7)) r9.1)) (w64 (Int.tdiv e8 r9.1)) (w64 (v4+1)) k0_0 k0_1))) none) none) none)) none) (k0_1 v2 v3)
def OI(n:Nat)(a0:List Share):Option ((Int×Int×Bool×Unit)×Unit):=cond (decide (7<(a0.length:Int))) (some ((0,0,false,()),())) (FC n n a0 0 1 0 (fun w10 w11=>some ((0,0,false,()),())) (fun w12 w13=>some ((w12,w13,true,()),())))
def nR(n:Nat):Rw:=⟨157,pV [.ro .share],q19,fun x=>OI n x.1.2⟩
def qm(n:Nat):LS:=AN ⟨5,[0,5,6,7],[],[],([2,3,4,5,6]),[]⟩ 57 [0,5,6,7] 0 (pD [.ro .share,.int,.int,.int]) [] (fun m x k=>FC n m x.1.1.2 x.1.2.1 x.1.2.2.1 x.1.2.2.2.1 (fun w0 w1=>k .ret (eS 57 [2,3,4,5,6] [.int 0,.int 0,.bool false,.int w0,.int w1] 0 [])) (fun w0 w1=>k (.exit 0) (eS 57 [5,6] [.int w0,.int w1] 0 [])))
theorem nS(n:Nat):RO (nR n):=
 rL ⟨Go.Proofs.Tryz.f157,⟨[(7,[(4,cl 1 .bool 0)]),(11,[(2,cl 2 .int 0)])],[(9,dr 16 [])],[]⟩,0⟩ [qm n] n (ec PC (ec (oP n) en)) Go.Proofs.Tryz.func157 (by kernel_rfl) ⟨AO (fun m x k=>by kernel_rfl) (fun _ _=>rfl),trivial⟩ (fun x=>by kernel_rfl)
def GQ(n:Nat)(a0:List Share):Option (Bool×Unit):=(OI n a0).bind fun r1=>cond r1.1.2.2.1 (some ((decide (r1.1.1≤r1.1.2.1)),())) (some (false,()))
def mb(n:Nat):Rw:=⟨90,pV [.ro .share],pS [.bool],fun x=>GQ n x.1.2⟩
theorem XQ(n:Nat):RO (mb n):=
 rE ⟨Go.Proofs.Tryz.f90,⟨[(1,[(1,q21)])],[],[]⟩,0⟩ n (ec (nS n) en) Go.Proofs.Tryz.func90 (by kernel_rfl) (fun x=>by kernel_rfl)
def Jg{α:Type}(n:Nat):Nat→Sys→Int→(Option α)→(Option α)→Option α|0,_,_,_,_=>none|m0+1,v8,v9,k0_0,k0_1=>cond (decide (v9<(v8.Tasks.length:Int))) (cond (decide (0≤v9)&&decide (v9<(v8.Tasks.length:Int))) (let e10:=(decide (v8.Cpus≤(List.getD v8.Tasks (Int.toNat v9) (Kd.dflt .task)).Cpu));cond e10 k0_0 (Jg n m0 v8 (w64 (v9+1)) k0_0 k0_1)) none) k0_1
def Gj{α:Type}(n:Nat):Nat→Sys→Int→(Option α)→(Option α)→Option α|0,_,_,_,_=>none|m1+1,v11,v12,k1_0,k1_1=>cond (decide (v12<v11.Cpus)) (cond (decide (0≤v12)&&decide (v12<(v11.Floors.length:Int))) ((Ay (List.getD v11.Floors (Int.toNat v12) (Kd.dflt .int)) 0 100000000).bind fun r13=>cond (!r13.1) k1_0 ((LY n v11 v12).bind fun r14=>(GQ n r14.1).bind fun r15=>cond (!r15.1) k1_0 (Gj n m1 v11 (w64 (v12+1)) k1_0 k1_1))) none) k1_1
def Bf(n:Nat)(a0:Sys):Option (Bool×Unit):=(Ay a0.Now 0 100000).bind fun r1=>cond (!r1.1) (some (false,())) ((Ay a0.Cpus 1 4).bind fun r2=>cond (!r2.1) (some (false,())) ((EP n a0.Tasks).bind fun r3=>cond (!r3.1) (some (false,())) ((OX n a0).bind fun r4=>cond (!r4.1) (some (false,())) ((OW n a0).bind fun r5=>cond (!r5.1) (some (false,())) (cond (!(decide ((a0.Floors.length:Int)=a0.Cpus))) (some (false,())) ((Ay a0.Seq 0 1000000).bind fun r6=>cond (!r6.1) (some (false,())) ((Ay a0.Missed 0 100000).bind fun r7=>cond (!r7.1) (some (false,())) (cond (decide (400<(a0.Trace.length:Int))) (some (false,())) (Jg n n a0 0 (some (false,())) (Gj n n a0 0 (some (false,())) (some (true,()))))))))))))
def nY(n:Nat):Rw:=⟨17,pV [Aq],pS [.bool],fun x=>Bf n (AS x.1)⟩
def qn(n:Nat):LS:=AN ⟨4,[1,3],[],[],[1,2],[0]⟩ 93 [1,3] 1 (pD [.ptr 0 0,.int]) [.box Ah] (fun m x k=>Jg n m (AS x.2.1) x.1.2.1 (k .ret (eS 93 [1,2] [.ptr 0 0,.bool false] 1 [.box (Ah.make x.2.1)])) (k (.exit 0) (eS 93 [1] [.ptr 0 0] 1 [.box (Ah.make x.2.1)])))
def qo(n:Nat):LS:=AN ⟨9,[1,4],[],[],[2],[]⟩ 93 [1,4] 1 (pD [.ptr 0 0,.int]) [.box Ah] (fun m x k=>Gj n m (AS x.2.1) x.1.2.1 (k .ret (eS 93 [2] [.bool false] 4 [])) (k (.exit 2) (eS 93 [] [] 4 [])))
theorem CY(n:Nat):RO (nY n):=
 rL ⟨Go.Proofs.Tryz.f17,⟨[(0,[(0,.slot 0 .int)]),(1,[(2,cl 3 .bool 0),(7,cl 3 .bool 0),(13,cl 1 .bool 0),(18,cl 1 .bool 0),(23,cl 1 .bool 0),(37,cl 3 .bool 0),(43,cl 3 .bool 0)]),(11,[(5,cl 3 .bool 0),(10,q22),(11,cl 1 .bool 0)])],[(6,dr 9 [(0,[0],[]),(1,[0],[]),(6,[0],[]),(7,[0],[])])],[]⟩,1⟩ [qn n,qo n] n (ec Bz (ec (PE n) (ec (pG n) (ec (pE n) (ec (Xs n) (ec (XQ n) en)))))) Go.Proofs.Tryz.func17 (by kernel_rfl) ⟨AO (fun m x k=>by kernel_rfl) (fun _ _=>rfl),AO (fun m x k=>by kernel_rfl) (fun _ _=>rfl),trivial⟩ (fun x=>by kernel_rfl)
def ON(a0:Call):Option (Ic×Unit):=cond (decide (a0.Kind=1)) (some ((As a0),())) (cond (decide (a0.Kind=2)) (some ((As a0),())) (cond (decide (a0.Kind=3)) (some ((As (⟨a0.Kind,a0.No,a0.Cpu,a0.A,0⟩:Call)),())) (cond (decide (a0.Kind=4)) (some ((As (⟨a0.Kind,a0.No,0,0,0⟩:Call)),())) (cond (decide (a0.Kind=5)) (some ((As (⟨a0.Kind,a0.No,0,0,0⟩:Call)),())) (cond (decide (a0.Kind=6)) (some ((As (⟨a0.Kind,a0.No,0,0,0⟩:Call)),())) (cond (decide (a0.Kind=7)) (some ((As (⟨a0.Kind,a0.No,0,a0.A,0⟩:Call)),())) (cond (decide (a0.Kind=8)) (some ((As (⟨a0.Kind,a0.No,0,a0.A,0⟩:Call)),())) (cond (decide (a0.Kind=9)) (some ((As (⟨a0.Kind,a0.No,0,a0.A,0⟩:Call)),())) (cond (decide (a0.Kind=10)) (some ((As (⟨a0.Kind,a0.No,a0.Cpu,0,0⟩:Call)),())) (cond (decide (a0.Kind=11)) (some ((As (⟨a0.Kind,0,0,a0.A,0⟩:Call)),())) (some ((As a0),()))))))))))))
def ns:Rw:=⟨137,pV [Ca],pS [.agg q6],fun x=>ON (Ar x.1)⟩
theorem nu:RO (ns):=
 rE ⟨Go.Proofs.Tryz.f137,⟨[(0,[(0,.slot 0 .int),(1,.slot 1 .int)])],[],[]⟩,2⟩ 0 en Go.Proofs.Tryz.func137 (by kernel_rfl) (fun x=>by kernel_rfl)
def HZ(a0:Call):Option (Bool×Unit):=(Ay a0.Kind 1 11).bind fun r1=>cond r1.1 ((ON a0).bind fun r2=>let e3:=((decide (a0.Kind=(Ar r2.1).Kind))&&((decide (a0.No=(Ar r2.1).No))&&((decide (a0.Cpu=(Ar r2.1).Cpu))&&((decide (a0.A=(Ar r2.1).A))&&((decide (a0.B=(Ar r2.1).B))&&true)))));some (e3,())) (some (false,()))
def l4:Rw:=⟨65,pV [Ca],pS [.bool],fun x=>HZ (Ar x.1)⟩
theorem SD:RO (l4):=
 rE ⟨Go.Proofs.Tryz.f65,⟨[(0,[(0,.slot 0 .int)]),(1,[(2,cl 3 .bool 0),(6,(cl 1 (.agg q6) 0))])],[(1,dr 10 [(0,[0],[]),(1,[0],[]),(4,[0],[]),(5,[0],[])])],[]⟩,1⟩ 0 (ec Bz (ec nu en)) Go.Proofs.Tryz.func65 (by kernel_rfl) (fun x=>by kernel_rfl)
def Jn{α:Type}(n:Nat):Nat→List Lock→List Lock→Int→(List Lock→Option α)→Option α|0,_,_,_,_=>none|m0+1,v1,v2,v3,k0_0=>cond (decide (v3<(v1.length:Int))) (cond (decide (0≤v3)&&decide (v3<(v1.length:Int))) (cond (decide (0≤v3)&&decide (v3<(v1.length:Int))) (cond (decide ((([]:List Int)).length+((List.getD v1 (Int.toNat v3) (Kd.dflt .lock)).Waits).length≤lim)) (let e4:=(([]:List Int)++(List.getD v1 (Int.toNat v3) (Kd.dflt .lock)).Waits);let e5:=([(⟨(List.getD v1 (Int.toNat v3) (Kd.dflt .lock)).Owner,e4⟩:Lock)]:List Lock);cond (decide ((v2).length+(e5).length≤lim)) (Jn n m0 v1 (v2++e5) (w64 (v3+1)) k0_0) none) none) none) none) (k0_0 v2)
def OT(n:Nat)(a0:List Lock):Option (List Lock×Unit):=Jn n n a0 ([]:List Lock) 0 (fun w6=>some (w6,()))
def ou(n:Nat):Rw:=⟨169,pV [.ro .lock],q24,fun x=>OT n x.1.2⟩
def rZ(n:Nat):LS:=AN ⟨3,[0,3,4],[(.t 3,1,.lock)],[2,3,4,5],[3],q25⟩ 29 [0,3,4] 413333 (pD [.ro .lock,.bor 1,.int]) [.root .lock] (fun m x k=>Jn n m x.1.1.2 x.2.1 x.1.2.2.1 (fun w0=>k (.exit 0) (eS 29 [3] [.bor 1] 413333 [.root .lock w0 .ok])))
theorem ow(n:Nat):RO (ou n):=
 rL ⟨Go.Proofs.Tryz.f169,⟨[(1,[(0,.slot 0 .lock)]),(5,[(6,.slot 2 .int),(12,.slot 3 .int),(14,.slot 4 .lock),(15,.slot 5 .lock)])],[(5,dr 17 [(6,[2],[2]),(12,[2,3],[2,3]),(14,[3,4],[3,4]),(15,[1,4,5],[1,4,5])])],[]⟩,6⟩ [rZ n] n en Go.Proofs.Tryz.func169 (by kernel_rfl) ⟨AO (fun m x k=>by kernel_rfl) (fun _ _=>rfl),trivial⟩ (fun x=>by kernel_rfl)
def LX(n:Nat)(a0:Sys):Option (Ap×Unit):=cond (decide ((([]:List Task)).length+(a0.Tasks).length≤lim)) ((OT n a0.Locks).bind fun r1=>cond (decide ((([]:List Ghost)).length+(a0.Ghosts).length≤lim)) (cond (decide ((([]:List Int)).length+(a0.Floors).length≤lim)) (cond (decide ((([]:List Turn)).length+(a0.Trace).length≤lim)) (some ((AB (⟨a0.Now,a0.Cpus,(([]:List Task)++a0.Tasks),r1.1,(([]:List Ghost)++a0.Ghosts),(([]:List Int)++a0.Floors),a0.Seq,a0.Missed,(([]:List Turn)++a0.Trace)⟩:Sys)),())) none) none) none) none
def o9(n:Nat):Rw:=⟨101,pV [Aq],(pS [.agg q27]),fun x=>LX n (AS x.1)⟩
theorem Xr(n:Nat):RO (o9 n):=
 rE ⟨Go.Proofs.Tryz.f101,⟨[(0,[(0,.slot 0 .int),(1,.slot 1 .int)]),(1,[(0,.slot 2 .task),(3,.slot 3 .task)]),(2,[(2,q26)]),(3,[(0,.slot 4 .ghost),(3,.slot 5 .ghost)]),(4,[(0,.slot 6 .int),(3,.slot 7 .int)]),(5,[(0,.slot 8 .turn),(3,.slot 9 .turn)])],[],[]⟩,10⟩ n (ec (ow n) en) Go.Proofs.Tryz.func101 (by kernel_rfl) (fun x=>by kernel_rfl)
def N3(a0:Sys)(a1:Int):Option (Int×Unit):=(Ay a1 0 (w64 ((a0.Floors.length:Int)-1))).bind fun r1=>cond (!r1.1) (some (0,())) (cond (decide (0≤a1)&&decide (a1<(a0.Floors.length:Int))) (some ((List.getD a0.Floors (Int.toNat a1) (Kd.dflt .int)),())) none)
def mg:Rw:=⟨220,pV [Aq,.int],pS [.int],fun x=>N3 (AS x.1) x.2.1⟩
theorem mh:RO (mg):=
 rE ⟨Go.Proofs.Tryz.f220,⟨[(0,[(0,.slot 0 .int)]),(1,[(5,cl 3 .bool 0)])],[],[]⟩,1⟩ 0 (ec Bz en) Go.Proofs.Tryz.func220 (by kernel_rfl) (fun x=>by kernel_rfl)
def I1(a0:Task):Option ((BW×Bool×Unit)×Unit):=(Er a0).bind fun r1=>cond (!r1.1) (some (((AK (⟨0,0,0,0,false,0,0,0,0,0,0,0,0,0⟩:Task)),false,()),())) (some (((AK a0),true,()),()))
def oe:Rw:=⟨247,pV [Au],q31,fun x=>I1 (AC x.1)⟩
theorem SH:RO (oe):=
 rE ⟨Go.Proofs.Tryz.f247,⟨[(0,[(0,.slot 0 .int),(1,.slot 1 .int)]),(1,[(1,cl 1 .bool 0)])],[],[]⟩,2⟩ 0 (ec J3 en) Go.Proofs.Tryz.func247 (by kernel_rfl) (fun x=>by kernel_rfl)
def K9(a0:Int)(a1:Int)(a2:Int)(a3:Int):Option ((BW×Bool×Unit)×Unit):=(I1 (⟨a0,3,a1,1,false,0,0,0,0,0,0,0,a2,a3⟩:Task)).bind fun r1=>some (((AK (AC r1.1.1)),r1.1.2.1,()),())
def nA:Rw:=⟨219,pV [.int,.int,.int,.int],q31,fun x=>K9 x.1 x.2.1 x.2.2.1 x.2.2.2.1⟩
theorem XS:RO (nA):=
 rE ⟨Go.Proofs.Tryz.f219,⟨[(0,[(0,.slot 0 .int)]),(1,[(5,q32)])],[],[]⟩,1⟩ 0 (ec SH en) Go.Proofs.Tryz.func219 (by kernel_rfl) (fun x=>by kernel_rfl)
def K8(a0:Int)(a1:Int)(a2:Int)(a3:Int)(a4:Int):Option ((BW×Bool×Unit)×Unit):=(Ay a4 0 100000).bind fun r1=>cond (!r1.1) (some (((AK (⟨0,0,0,0,false,0,0,0,0,0,0,0,0,0⟩:Task)),false,()),())) ((Hb (⟨a2,a3⟩:Share)).bind fun r2=>cond (!r2.1) (some (((AK (⟨0,0,0,0,false,0,0,0,0,0,0,0,0,0⟩:Task)),false,()),())) ((I1 (⟨a0,1,a1,1,false,a2,a3,a2,(w64 (a4+a3)),0,0,0,0,0⟩:Task)).bind fun r3=>some (((AK (AC r3.1.1)),r3.1.2.1,()),())))
def m9:Rw:=⟨221,pV [.int,.int,.int,.int,.int],q31,fun x=>K8 x.1 x.2.1 x.2.2.1 x.2.2.2.1 x.2.2.2.2.1⟩
theorem XR:RO (m9):=
 rE ⟨Go.Proofs.Tryz.f221,⟨[(0,[(0,.slot 0 .int)]),(1,[(1,cl 3 .bool 0),(7,cl 1 .bool 0)]),(3,[(9,q32)])],[],[]⟩,1⟩ 0 (ec Bz (ec PC (ec SH en))) Go.Proofs.Tryz.func221 (by kernel_rfl) (fun x=>by kernel_rfl)
def Gx{α:Type}(n:Nat):Nat→Int→Sys→List Share→Int→(List Share→Option α)→Option α|0,_,_,_,_,_=>none|m0+1,v1,v2,v3,v4,k0_0=>cond (decide (v4<(v2.Tasks.length:Int))) (cond (decide (0≤v4)&&decide (v4<(v2.Tasks.length:Int))) (let e5:=(decide ((List.getD v2.Tasks (Int.toNat v4) (Kd.dflt .task)).Cpu=v1));cond e5 (let e6:=(decide ((List.getD v2.Tasks (Int.toNat v4) (Kd.dflt .task)).Class=1));cond e6 (let e7:=([(⟨(List.getD v2.Tasks (Int.toNat v4) (Kd.dflt .task)).Q,(List.getD v2.Tasks (Int.toNat v4) (Kd.dflt .task)).P⟩:Share)]:List Share);cond (decide ((v3).length+(e7).length≤lim)) (Gx n m0 v1 v2 (v3++e7) (w64 (v4+1)) k0_0) none) (Gx n m0 v1 v2 v3 (w64 (v4+1)) k0_0)) (Gx n m0 v1 v2 v3 (w64 (v4+1)) k0_0)) none) (k0_0 v3)
def Ft{α:Type}(n:Nat):Nat→Int→Sys→List Share→Int→(List Share→Option α)→Option α|0,_,_,_,_,_=>none|m1+1,v9,v10,v11,v12,k1_0=>cond (decide (v12<(v10.Ghosts.length:Int))) (cond (decide (0≤v12)&&decide (v12<(v10.Ghosts.length:Int))) (let e13:=(decide ((List.getD v10.Ghosts (Int.toNat v12) (Kd.dflt .ghost)).Cpu=v9));cond e13 (cond (decide (0≤v12)&&decide (v12<(v10.Ghosts.length:Int))) (let e14:=([(List.getD v10.Ghosts (Int.toNat v12) (Kd.dflt .ghost)).S]:List Share);cond (decide ((v11).length+(e14).length≤lim)) (Ft n m1 v9 v10 (v11++e14) (w64 (v12+1)) k1_0) none) none) (Ft n m1 v9 v10 v11 (w64 (v12+1)) k1_0)) none) (k1_0 v11)
def Hk(n:Nat)(a0:Sys)(a1:Int):Option (List Share×Unit):=Gx n n a1 a0 ([]:List Share) 0 (fun w8=>Ft n n a1 a0 w8 0 (fun w15=>some (w15,())))
def pI(n:Nat):Rw:=⟨91,pV [Aq,.int],q15,fun x=>Hk n (AS x.1) x.2.1⟩
def rr(n:Nat):LS:=AN ⟨3,[1,2,5,6],[(.t 5,2,.share)],[3,4,5],[1,2,5],q16⟩ 64 [1,2,5,6] 141333333 (pD [.int,.ptr 0 0,.bor 2,.int]) [.box Ah,.root .share] (fun m x k=>Gx n m x.1.1 (AS x.2.1) x.2.2.1 x.1.2.2.2.1 (fun w0=>k (.exit 0) (eS 64 [1,2,5] [.int x.1.1,.ptr 0 0,.bor 2] 141333333 [.box (Ah.make x.2.1),.root .share w0 .ok])))
def rt(n:Nat):LS:=AN ⟨9,[1,2,5,8],[(.t 5,6,.share)],[7,8],[5],q17⟩ 64 [1,2,5,8] 144333133 (pD [.int,.ptr 0 0,.bor 6,.int]) [.box Ah,.root .share] (fun m x k=>Ft n m x.1.1 (AS x.2.1) x.2.2.1 x.1.2.2.2.1 (fun w0=>k (.exit 2) (eS 64 [5] [.bor 6] 444333133 [.root .share w0 .ok])))
theorem pJ(n:Nat):RO (pI n):=
 rL ⟨Go.Proofs.Tryz.f91,⟨[(0,[(0,.slot 0 .int)]),(1,[(0,.slot 1 .share)]),(5,[(5,.slot 3 .int)]),(7,[(6,.slot 4 .share),(7,.slot 5 .share)]),(12,[(7,.slot 7 .share),(8,.slot 8 .share)])],[],[]⟩,9⟩ [rr n,rt n] n en Go.Proofs.Tryz.func91 (by kernel_rfl) ⟨AO (fun m x k=>by kernel_rfl) (fun _ _=>rfl),AO (fun m x k=>by kernel_rfl) (fun _ _=>rfl),trivial⟩ (fun x=>by kernel_rfl)
def LB(a0:Int)(a1:Int)(a2:Int)(a3:Int)(a4:Int):Option ((BW×Bool×Unit)×Unit):=(I1 (⟨a0,2,a1,1,false,0,0,a3,0,a2,a3,a4,0,0⟩:Task)).bind fun r1=>some (((AK (AC r1.1.1)),r1.1.2.1,()),())
def nB:Rw:=⟨222,pV [.int,.int,.int,.int,.int],q31,fun x=>LB x.1 x.2.1 x.2.2.1 x.2.2.2.1 x.2.2.2.2.1⟩
theorem XT:RO (nB):=
 rE ⟨Go.Proofs.Tryz.f222,⟨[(0,[(0,.slot 0 .int)]),(1,[(7,q32)])],[],[]⟩,1⟩ 0 (ec SH en) Go.Proofs.Tryz.func222 (by kernel_rfl) (fun x=>by kernel_rfl)
def Gp{α:Type}(n:Nat):Nat→List Task→Task→List Task→Bool→Int→(Bool→List Task→Option α)→Option α|0,_,_,_,_,_,_=>none|m0+1,v2,v3,v4,v5,v6,k0_0=>cond (decide (v6<(v2.length:Int))) (cond (!v5) (cond (decide (0≤v6)&&decide (v6<(v2.length:Int))) (let e7:=(decide (v3.No≤(List.getD v2 (Int.toNat v6) (Kd.dflt .task)).No));cond e7 (cond (decide ((v4).length+(([v3]:List Task)).length≤lim)) (cond (decide (0≤v6)&&decide (v6<(v2.length:Int))) (let e8:=([(List.getD v2 (Int.toNat v6) (Kd.dflt .task))]:List Task);cond (decide (((v4++([v3]:List Task))).length+(e8).length≤lim)) (Gp n m0 v2 v3 ((v4++([v3]:List Task))++e8) true (w64 (v6+1)) k0_0) none) none) none) (cond (decide (0≤v6)&&decide (v6<(v2.length:Int))) (let e9:=([(List.getD v2 (Int.toNat v6) (Kd.dflt .task))]:List Task);cond (decide ((v4).length+(e9).length≤lim)) (Gp n m0 v2 v3 (v4++e9) v5 (w64 (v6+1)) k0_0) none) none)) none) (cond (decide (0≤v6)&&decide (v6<(v2.length:Int))) (let e10:=([(List.getD v2 (Int.toNat v6) (Kd.dflt .task))]:List Task);cond (decide ((v4).length+(e10).length≤lim)) (Gp n m0 v2 v3 (v4++e10) v5 (w64 (v6+1)) k0_0) none) none)) (k0_0 v5 v4)
def GT(n:Nat)(a0:List Task)(a1:Task):Option ((List Task×Bool×Unit)×Unit):=(EP n a0).bind fun r1=>cond (!r1.1) (some ((([]:List Task),false,()),())) (Gp n n a0 a1 ([]:List Task) false 0 (fun w11 w12=>cond (!w11) (cond (decide ((w12).length+(([a1]:List Task)).length≤lim)) ((EP n (w12++([a1]:List Task))).bind fun r13=>cond (!r13.1) (cond (decide ((([]:List Task)).length+(a0).length≤lim)) (some (((([]:List Task)++a0),false,()),())) none) (some (((w12++([a1]:List Task)),true,()),()))) none) ((EP n w12).bind fun r14=>cond (!r14.1) (cond (decide ((([]:List Task)).length+(a0).length≤lim)) (some (((([]:List Task)++a0),false,()),())) none) (some ((w12,true,()),())))))
def nj(n:Nat):Rw:=⟨206,pV [.ro .task,Au],q34,fun x=>GT n x.1.2 (AC x.2.1)⟩
def q9(n:Nat):LS:=AN ⟨6,([0,3,6,7,8]),[(.t 6,3,.task)],[4,5,6,7],[0,3,6,7],([0,1,3,4,5,6,7,8,9,10,11])⟩ 56 [0,3,6,7,8] 134133333333 (pD [.ro .task,.ptr 0 0,.bor 3,.bool,.int]) [.box Ib,.root .task] (fun m x k=>Gp n m x.1.1.2 (AC x.2.1) x.2.2.1 x.1.2.2.2.1 x.1.2.2.2.2.1 (fun w0 w1=>k (.exit 0) (eS 56 [0,3,6,7] [.ro x.1.1.1 .task x.1.1.2,.ptr 0 0,.bor 3,.bool w0] 134133333333 [.box (Ib.make x.2.1),.root .task w1 .ok])))
theorem XW(n:Nat):RO (nj n):=
 rL ⟨Go.Proofs.Tryz.f206,⟨[(0,[(0,.slot 0 .int)]),(1,[(1,cl 1 .bool 0)]),(2,[(0,.slot 1 .task)]),(3,[(0,.slot 2 .task)]),(9,[(2,.slot 4 .task),(3,.slot 5 .task)]),(11,[(5,.slot 6 .task),(6,.slot 7 .task)]),(13,[(2,.slot 8 .task),(3,.slot 9 .task)]),(14,[(1,cl 1 .bool 0)]),(15,[(0,.slot 10 .task),(2,.slot 11 .task)])],[(8,dr 12 [(8,[0],[]),(9,[0],[])])],[]⟩,12⟩ [q9 n] n (ec (PE n) en) Go.Proofs.Tryz.func206 (by kernel_rfl) ⟨AO (fun m x k=>by kernel_rfl) (fun _ _=>rfl),trivial⟩ (fun x=>by kernel_rfl)
def Fe(a0:Task):Option (Bool×Unit):=(Er a0).bind fun r1=>cond r1.1 (some ((decide (a0.Class=1)),())) (some (false,()))
def og:Rw:=⟨199,pV [Au],pS [.bool],fun x=>Fe (AC x.1)⟩
theorem PG:RO (og):=
 rE ⟨Go.Proofs.Tryz.f199,⟨[(0,[(0,.slot 0 .int)]),(1,[(1,cl 1 .bool 0)])],[],[]⟩,1⟩ 0 (ec J3 en) Go.Proofs.Tryz.func199 (by kernel_rfl) (fun x=>by kernel_rfl)
def Ha(a0:Task)(a1:Int):Option (BW×Unit):=(Fe a0).bind fun r1=>cond (!r1.1) (some ((AK a0),())) ((Ay a1 0 100000).bind fun r2=>cond (!r2.1) (some ((AK a0),())) (cond (decide (a1<a0.Due)) (some ((AK a0),())) (some ((AK (⟨a0.No,a0.Class,a0.Cpu,a0.State,a0.Idle,a0.Q,a0.P,a0.Q,(w64 (a0.Due+a0.P)),a0.Prio,a0.Round,a0.Seq,a0.Nice,a0.V⟩:Task)),()))))
def mL:Rw:=⟨130,pV [Au,.int],q37,fun x=>Ha (AC x.1) x.2.1⟩
theorem XO:RO (mL):=
 rE ⟨Go.Proofs.Tryz.f130,⟨[(0,[(0,.slot 0 .int),(1,.slot 1 .int)]),(1,[(1,cl 1 .bool 0),(5,cl 3 .bool 0)])],[],[]⟩,2⟩ 0 (ec PG (ec Bz en)) Go.Proofs.Tryz.func130 (by kernel_rfl) (fun x=>by kernel_rfl)
def Jo{α:Type}(n:Nat):Nat→List Lock→List Lock→Int→(List Lock→Option α)→Option α|0,_,_,_,_=>none|m0+1,v1,v2,v3,k0_0=>cond (decide (v3<(v1.length:Int))) (cond (decide (0≤v3)&&decide (v3<(v1.length:Int))) (cond (decide (0≤v3)&&decide (v3<(v1.length:Int))) (cond (decide ((([]:List Int)).length+((List.getD v1 (Int.toNat v3) (Kd.dflt .lock)).Waits).length≤lim)) (let e4:=(([]:List Int)++(List.getD v1 (Int.toNat v3) (Kd.dflt .lock)).Waits);let e5:=([(⟨(List.getD v1 (Int.toNat v3) (Kd.dflt .lock)).Owner,e4⟩:Lock)]:List Lock);cond (decide ((v2).length+(e5).length≤lim)) (Jo n m0 v1 (v2++e5) (w64 (v3+1)) k0_0) none) none) none) none) (k0_0 v2)
def Hi(n:Nat)(a0:List Lock):Option (List Lock×Unit):=Jo n n a0 ([]:List Lock) 0 (fun w6=>some (w6,()))
def ov(n:Nat):Rw:=⟨169,pV [.ro .lock],q24,fun x=>Hi n x.1.2⟩
def ra(n:Nat):LS:=AN ⟨3,[0,3,4],[(.t 3,1,.lock)],[2,3,4,5],[3],q25⟩ 29 [0,3,4] 413333 (pD [.ro .lock,.bor 1,.int]) [.root .lock] (fun m x k=>Jo n m x.1.1.2 x.2.1 x.1.2.2.1 (fun w0=>k (.exit 0) (eS 29 [3] [.bor 1] 413333 [.root .lock w0 .ok])))
theorem PH(n:Nat):RO (ov n):=
 rL ⟨Go.Proofs.Tryz.f169,⟨[(1,[(0,.slot 0 .lock)]),(5,[(6,.slot 2 .int),(12,.slot 3 .int),(14,.slot 4 .lock),(15,.slot 5 .lock)])],[(5,dr 17 [(6,[2],[2]),(12,[2,3],[2,3]),(14,[3,4],[3,4]),(15,[1,4,5],[1,4,5])])],[]⟩,6⟩ [ra n] n en Go.Proofs.Tryz.func169 (by kernel_rfl) ⟨AO (fun m x k=>by kernel_rfl) (fun _ _=>rfl),trivial⟩ (fun x=>by kernel_rfl)
def Eu(n:Nat)(a0:Sys):Option (Ap×Unit):=cond (decide ((([]:List Task)).length+(a0.Tasks).length≤lim)) ((Hi n a0.Locks).bind fun r1=>cond (decide ((([]:List Ghost)).length+(a0.Ghosts).length≤lim)) (cond (decide ((([]:List Int)).length+(a0.Floors).length≤lim)) (cond (decide ((([]:List Turn)).length+(a0.Trace).length≤lim)) (some ((AB (⟨a0.Now,a0.Cpus,(([]:List Task)++a0.Tasks),r1.1,(([]:List Ghost)++a0.Ghosts),(([]:List Int)++a0.Floors),a0.Seq,a0.Missed,(([]:List Turn)++a0.Trace)⟩:Sys)),())) none) none) none) none
def pB(n:Nat):Rw:=⟨101,pV [Aq],q40,fun x=>Eu n (AS x.1)⟩
theorem J8(n:Nat):RO (pB n):=
 rE ⟨Go.Proofs.Tryz.f101,⟨[(0,[(0,.slot 0 .int),(1,.slot 1 .int)]),(1,[(0,.slot 2 .task),(3,.slot 3 .task)]),(2,[(2,(.call [.ro] (.own .lock) [] [some 4]))]),(3,[(0,.slot 5 .ghost),(3,.slot 6 .ghost)]),(4,[(0,.slot 7 .int),(3,.slot 8 .int)]),(5,[(0,.slot 9 .turn),(3,.slot 10 .turn)])],[],[]⟩,11⟩ n (ec (PH n) en) Go.Proofs.Tryz.func101 (by kernel_rfl) (fun x=>by kernel_rfl)
end Go.Proofs.YthoholbeacojfaaGreat.VR
end
section
set_option linter.unusedVariables false
set_option maxRecDepth 100000
namespace Go.Proofs.YthoholbeacojfaaGreat.VR
open Go
def Jq{α:Type}(n:Nat):Nat→List Task→List Int→Int→(Option α)→(Option α)→Option α|0,_,_,_,_,_=>none|m0+1,v2,v3,v4,k0_0,k0_1=>cond (decide (v4<(v3.length:Int))) (cond (decide (0≤v4)&&decide (v4<(v3.length:Int))) ((Cm n v2 (List.getD v3 (Int.toNat v4) (Kd.dflt .int))).bind fun r5=>cond (decide (r5.1<0)) k0_0 (Jq n m0 v2 v3 (w64 (v4+1)) k0_0 k0_1)) none) k0_1
def I2(n:Nat)(a0:List Task)(a1:List Lock)(a2:Int):Option (Int×Unit):=(Hh n a1 a2).bind fun r1=>Jq n n a0 r1.1.1 0 (some (0,())) (cond ((decide (0≤(w64 ((r1.1.1.length:Int)-1))))&&(decide ((w64 ((r1.1.1.length:Int)-1))<(r1.1.1.length:Int)))) (let e6:=(List.getD r1.1.1 (Int.toNat (w64 ((r1.1.1.length:Int)-1))) (Kd.dflt .int));some (e6,())) none)
def o7(n:Nat):Rw:=⟨187,pV [.ro .task,.ro .lock,.int],pS [.int],fun x=>I2 n x.1.2 x.2.1.2 x.2.2.1⟩
def ri(n:Nat):LS:=AN ⟨3,[0,7,9],[],[],[6,7],[]⟩ 35 [0,7,9] 0 (pD [.ro .task,.rog .int,.int]) [] (fun m x k=>Jq n m x.1.1.2 x.1.2.1 x.1.2.2.1 (k .ret (eS 35 [6,7] [.int 0,.ro true .int x.1.2.1] 0 [])) (k (.exit 0) (eS 35 [7] [.ro true .int x.1.2.1] 0 [])))
theorem SI(n:Nat):RO (o7 n):=
 rL ⟨Go.Proofs.Tryz.f187,⟨[(1,[(2,q13)]),(5,[(5,cl 2 .int 0)])],[],[]⟩,0⟩ [ri n] n (ec (Xn n) (ec (Fw n) en)) Go.Proofs.Tryz.func187 (by kernel_rfl) ⟨AO (fun m x k=>by kernel_rfl) (fun _ _=>rfl),trivial⟩ (fun x=>by kernel_rfl)
def LV(n:Nat)(a0:List Task)(a1:List Lock)(a2:Int):Option (Bool×Unit):=(I2 n a0 a1 a2).bind fun r1=>cond (!(decide (r1.1=0))) ((Cm n a0 a2).bind fun r2=>cond (decide (0≤r2.1)&&decide (r2.1<(a0.length:Int))) (let e3:=(decide ((List.getD a0 (Int.toNat r2.1) (Kd.dflt .task)).State=1));cond e3 ((Cm n a0 r1.1).bind fun r4=>cond (decide (0≤r4.1)&&decide (r4.1<(a0.length:Int))) (let e5:=(decide ((List.getD a0 (Int.toNat r4.1) (Kd.dflt .task)).State=1));some (e5,())) none) (some (false,()))) none) (some (false,()))
def o5(n:Nat):Rw:=⟨183,pV [.ro .task,.ro .lock,.int],pS [.bool],fun x=>LV n x.1.2 x.2.1.2 x.2.2.1⟩
theorem Xp(n:Nat):RO (o5 n):=
 rE ⟨Go.Proofs.Tryz.f183,⟨[(1,[(3,cl 3 .int 0)]),(2,[(6,cl 2 .int 0),(16,cl 2 .int 0)])],[],[]⟩,0⟩ n (ec (SI n) (ec (Fw n) en)) Go.Proofs.Tryz.func183 (by kernel_rfl) (fun x=>by kernel_rfl)
def Nx(a0:Task)(a1:Int):Option (BW×Unit):=(Fe a0).bind fun r1=>cond (!r1.1) (some ((AK a0),())) ((Ay a1 0 100000).bind fun r2=>cond (!r2.1) (some ((AK a0),())) (cond (decide (a0.Due≤a1)) (some ((AK (⟨a0.No,a0.Class,a0.Cpu,a0.State,a0.Idle,a0.Q,a0.P,a0.Q,(w64 (a1+a0.P)),a0.Prio,a0.Round,a0.Seq,a0.Nice,a0.V⟩:Task)),())) (let e3:=(decide ((w64 ((w64 (a0.Due-a1))*a0.Q))<(w64 (a0.Left*a0.P))));cond e3 (some ((AK (⟨a0.No,a0.Class,a0.Cpu,a0.State,a0.Idle,a0.Q,a0.P,a0.Q,(w64 (a1+a0.P)),a0.Prio,a0.Round,a0.Seq,a0.Nice,a0.V⟩:Task)),())) (some ((AK a0),())))))
def mO:Rw:=⟨201,pV [Au,.int],q37,fun x=>Nx (AC x.1) x.2.1⟩
theorem mP:RO (mO):=
 rE ⟨Go.Proofs.Tryz.f201,⟨[(0,[(0,.slot 0 .int),(1,.slot 1 .int)]),(1,[(1,cl 1 .bool 0),(5,cl 3 .bool 0)])],[],[]⟩,2⟩ 0 (ec PG (ec Bz en)) Go.Proofs.Tryz.func201 (by kernel_rfl) (fun x=>by kernel_rfl)
def ES(a0:Task):Option (Bool×Unit):=(Er a0).bind fun r1=>cond r1.1 (some ((decide (a0.Class=3)),())) (some (false,()))
def oi:Rw:=⟨178,pV [Au],pS [.bool],fun x=>ES (AC x.1)⟩
theorem J6:RO (oi):=
 rE ⟨Go.Proofs.Tryz.f178,⟨[(0,[(0,.slot 0 .int)]),(1,[(1,cl 1 .bool 0)])],[],[]⟩,1⟩ 0 (ec J3 en) Go.Proofs.Tryz.func178 (by kernel_rfl) (fun x=>by kernel_rfl)
def LT(a0:Task)(a1:Int):Option (BW×Unit):=(Ay a1 0 100000000).bind fun r1=>cond r1.1 (some ((AK (⟨a0.No,a0.Class,a0.Cpu,a0.State,a0.Idle,a0.Q,a0.P,a0.Left,a0.Due,a0.Prio,a0.Round,a0.Seq,a0.Nice,a1⟩:Task)),())) (some ((AK a0),()))
def oj:Rw:=⟨236,pV [Au,.int],q37,fun x=>LT (AC x.1) x.2.1⟩
theorem Xm:RO (oj):=
 rE ⟨Go.Proofs.Tryz.f236,⟨[(0,[(0,.slot 0 .int),(1,.slot 1 .int)]),(1,[(1,cl 3 .bool 0)])],[],[]⟩,2⟩ 0 (ec Bz en) Go.Proofs.Tryz.func236 (by kernel_rfl) (fun x=>by kernel_rfl)
def N1(a0:Task)(a1:Int):Option (BW×Unit):=(ES a0).bind fun r1=>cond (!r1.1) (some ((AK a0),())) ((C7 a0.V a1).bind fun r2=>(LT a0 r2.1).bind fun r3=>some ((AK (AC r3.1)),()))
def mZ:Rw:=⟨200,pV [Au,.int],q37,fun x=>N1 (AC x.1) x.2.1⟩
theorem ma:RO (mZ):=
 rE ⟨Go.Proofs.Tryz.f200,⟨[(0,[(0,.slot 0 .int),(1,.slot 1 .int)]),(1,[(1,cl 1 .bool 0)]),(3,[(4,cl 2 .int 0),(5,q41)])],[(3,dr 7 [(0,[0],[]),(1,[0],[]),(2,[0],[]),(6,[1],[1])])],[]⟩,2⟩ 0 (ec J6 (ec IG (ec Xm en))) Go.Proofs.Tryz.func200 (by kernel_rfl) (fun x=>by kernel_rfl)
def Gq{α:Type}(n:Nat):Nat→Int→Sys→List Task→Int→(List Task→Option α)→Option α|0,_,_,_,_,_=>none|m0+1,v1,v2,v3,v4,k0_0=>cond (decide (v4<(v2.Tasks.length:Int))) (cond (decide (0≤v4)&&decide (v4<(v2.Tasks.length:Int))) (let e5:=(decide ((List.getD v2.Tasks (Int.toNat v4) (Kd.dflt .task)).Cpu=v1));cond e5 (cond (decide (0≤v4)&&decide (v4<(v2.Tasks.length:Int))) (cond (!(List.getD v2.Tasks (Int.toNat v4) (Kd.dflt .task)).Idle) (cond (decide (0≤v4)&&decide (v4<(v2.Tasks.length:Int))) (let e6:=([(List.getD v2.Tasks (Int.toNat v4) (Kd.dflt .task))]:List Task);cond (decide ((v3).length+(e6).length≤lim)) (Gq n m0 v1 v2 (v3++e6) (w64 (v4+1)) k0_0) none) none) (Gq n m0 v1 v2 v3 (w64 (v4+1)) k0_0)) none) (Gq n m0 v1 v2 v3 (w64 (v4+1)) k0_0)) none) (k0_0 v3)
def I0(n:Nat)(a0:Sys)(a1:Int):Option (List Task×Unit):=Gq n n a1 a0 ([]:List Task) 0 (fun w7=>some (w7,()))
def np(n:Nat):Rw:=⟨110,pV [Aq,.int],q42,fun x=>I0 n (AS x.1) x.2.1⟩
def rD(n:Nat):LS:=AN ⟨3,[1,2,5,6],[(.t 5,2,.task)],[3,4],[5],[2,3,4]⟩ 41 [1,2,5,6] 14133 (pD [.int,.ptr 0 0,.bor 2,.int]) [.box Ah,.root .task] (fun m x k=>Gq n m x.1.1 (AS x.2.1) x.2.2.1 x.1.2.2.2.1 (fun w0=>k (.exit 0) (eS 41 [5] [.bor 2] 44133 [.root .task w0 .ok])))
theorem SE(n:Nat):RO (np n):=
 rL ⟨Go.Proofs.Tryz.f110,⟨[(0,[(0,.slot 0 .int)]),(1,[(0,.slot 1 .task)]),(6,[(6,.slot 3 .task),(7,.slot 4 .task)])],[],[]⟩,5⟩ [rD n] n en Go.Proofs.Tryz.func110 (by kernel_rfl) ⟨AO (fun m x k=>by kernel_rfl) (fun _ _=>rfl),trivial⟩ (fun x=>by kernel_rfl)
def Fo{α:Type}(n:Nat):Nat→List Task→Int→Int→Int→(Int→Option α)→Option α|0,_,_,_,_,_=>none|m0+1,v1,v2,v3,v4,k0_0=>cond (decide (v4<(v1.length:Int))) (cond (decide (0≤v4)&&decide (v4<(v1.length:Int))) ((ES (List.getD v1 (Int.toNat v4) (Kd.dflt .task))).bind fun r5=>cond r5.1 (cond (decide (v3<0)) (cond (decide (0≤v4)&&decide (v4<(v1.length:Int))) (Fo n m0 v1 v2 ((List.getD v1 (Int.toNat v4) (Kd.dflt .task)).V) (w64 (v4+1)) k0_0) none) (cond (decide (0≤v4)&&decide (v4<(v1.length:Int))) (let e6:=(decide ((List.getD v1 (Int.toNat v4) (Kd.dflt .task)).V<v3));cond e6 (cond (decide (0≤v4)&&decide (v4<(v1.length:Int))) (Fo n m0 v1 v2 ((List.getD v1 (Int.toNat v4) (Kd.dflt .task)).V) (w64 (v4+1)) k0_0) none) (Fo n m0 v1 v2 v3 (w64 (v4+1)) k0_0)) none)) (Fo n m0 v1 v2 v3 (w64 (v4+1)) k0_0)) none) (k0_0 v3)
def K7(n:Nat)(a0:List Task)(a1:Int):Option (Int×Unit):=Fo n n a0 a1 (-1) 0 (fun w7=>cond (decide (w7<0)) (some (a1,())) ((C7 a1 w7).bind fun r8=>some (r8.1,())))
def mS(n:Nat):Rw:=⟨132,pV [.ro .task,.int],pS [.int],fun x=>K7 n x.1.2 x.2.1⟩
def qd(n:Nat):LS:=AN ⟨3,[0,1,5,6],[],[],[1,5],[]⟩ 42 [0,1,5,6] 0 (pD [.ro .task,.int,.int,.int]) [] (fun m x k=>Fo n m x.1.1.2 x.1.2.1 x.1.2.2.1 x.1.2.2.2.1 (fun w0=>k (.exit 0) (eS 42 [1,5] [.int x.1.2.1,.int w0] 0 [])))
theorem XP(n:Nat):RO (mS n):=
 rL ⟨Go.Proofs.Tryz.f132,⟨[(5,[(4,cl 1 .bool 0)]),(9,[(2,cl 2 .int 0)])],[],[]⟩,0⟩ [qd n] n (ec J6 (ec IG en)) Go.Proofs.Tryz.func132 (by kernel_rfl) ⟨AO (fun m x k=>by kernel_rfl) (fun _ _=>rfl),trivial⟩ (fun x=>by kernel_rfl)
def Gr{α:Type}(n:Nat):Nat→Sys→Sys→Sys→Int→(List Task→Option α)→Option α|0,_,_,_,_,_=>none|m0+1,v2,v3,v4,v5,k0_0=>cond (decide (v5<(v2.Tasks.length:Int))) (cond (decide (0≤v5)&&decide (v5<(v2.Tasks.length:Int))) ((LV n v2.Tasks v2.Locks ((List.getD v2.Tasks (Int.toNat v5) (Kd.dflt .task)).No)).bind fun r6=>cond r6.1 (cond ((List.getD v2.Tasks (Int.toNat v5) (Kd.dflt .task)).Idle) ((Nx (⟨(List.getD v2.Tasks (Int.toNat v5) (Kd.dflt .task)).No,(List.getD v2.Tasks (Int.toNat v5) (Kd.dflt .task)).Class,(List.getD v2.Tasks (Int.toNat v5) (Kd.dflt .task)).Cpu,(List.getD v2.Tasks (Int.toNat v5) (Kd.dflt .task)).State,false,(List.getD v2.Tasks (Int.toNat v5) (Kd.dflt .task)).Q,(List.getD v2.Tasks (Int.toNat v5) (Kd.dflt .task)).P,(List.getD v2.Tasks (Int.toNat v5) (Kd.dflt .task)).Left,(List.getD v2.Tasks (Int.toNat v5) (Kd.dflt .task)).Due,(List.getD v2.Tasks (Int.toNat v5) (Kd.dflt .task)).Prio,(List.getD v2.Tasks (Int.toNat v5) (Kd.dflt .task)).Round,(List.getD v2.Tasks (Int.toNat v5) (Kd.dflt .task)).Seq,(List.getD v2.Tasks (Int.toNat v5) (Kd.dflt .task)).Nice,(List.getD v2.Tasks (Int.toNat v5) (Kd.dflt .task)).V⟩:Task) v2.Now).bind fun r7=>cond ((decide (0≤(List.getD v2.Tasks (Int.toNat v5) (Kd.dflt .task)).Cpu))&&(decide ((List.getD v2.Tasks (Int.toNat v5) (Kd.dflt .task)).Cpu<(v2.Floors.length:Int)))) (let e8:=(List.getD v2.Floors (Int.toNat (List.getD v2.Tasks (Int.toNat v5) (Kd.dflt .task)).Cpu) (Kd.dflt .int));(N1 (AC r7.1) e8).bind fun r9=>cond (decide (0≤v5)&&decide (v5<(v4.Tasks.length:Int))) (cond (decide ((Int.toNat v5)<(v4.Tasks).length)) (let e10:=(List.set v4.Tasks (Int.toNat v5) (⟨(AC r9.1).No,(AC r9.1).Class,(AC r9.1).Cpu,(AC r9.1).State,(!r6.1),(AC r9.1).Q,(AC r9.1).P,(AC r9.1).Left,(AC r9.1).Due,(AC r9.1).Prio,(AC r9.1).Round,(AC r9.1).Seq,(AC r9.1).Nice,(AC r9.1).V⟩:Task));Gr n m0 v2 (⟨v3.Now,v3.Cpus,[],[],[],[],v3.Seq,v3.Missed,[]⟩:Sys) (⟨v4.Now,v4.Cpus,e10,v4.Locks,v4.Ghosts,v4.Floors,v4.Seq,v4.Missed,v4.Trace⟩:Sys) (w64 (v5+1)) k0_0) none) none) none) (cond (decide (0≤v5)&&decide (v5<(v4.Tasks.length:Int))) (cond (decide ((Int.toNat v5)<(v4.Tasks).length)) (let e11:=(List.set v4.Tasks (Int.toNat v5) (⟨(List.getD v2.Tasks (Int.toNat v5) (Kd.dflt .task)).No,(List.getD v2.Tasks (Int.toNat v5) (Kd.dflt .task)).Class,(List.getD v2.Tasks (Int.toNat v5) (Kd.dflt .task)).Cpu,(List.getD v2.Tasks (Int.toNat v5) (Kd.dflt .task)).State,(!r6.1),(List.getD v2.Tasks (Int.toNat v5) (Kd.dflt .task)).Q,(List.getD v2.Tasks (Int.toNat v5) (Kd.dflt .task)).P,(List.getD v2.Tasks (Int.toNat v5) (Kd.dflt .task)).Left,(List.getD v2.Tasks (Int.toNat v5) (Kd.dflt .task)).Due,(List.getD v2.Tasks (Int.toNat v5) (Kd.dflt .task)).Prio,(List.getD v2.Tasks (Int.toNat v5) (Kd.dflt .task)).Round,(List.getD v2.Tasks (Int.toNat v5) (Kd.dflt .task)).Seq,(List.getD v2.Tasks (Int.toNat v5) (Kd.dflt .task)).Nice,(List.getD v2.Tasks (Int.toNat v5) (Kd.dflt .task)).V⟩:Task));Gr n m0 v2 (⟨v3.Now,v3.Cpus,[],[],[],[],v3.Seq,v3.Missed,[]⟩:Sys) (⟨v4.Now,v4.Cpus,e11,v4.Locks,v4.Ghosts,v4.Floors,v4.Seq,v4.Missed,v4.Trace⟩:Sys) (w64 (v5+1)) k0_0) none) none)) (cond (decide (0≤v5)&&decide (v5<(v4.Tasks.length:Int))) (cond (decide ((Int.toNat v5)<(v4.Tasks).length)) (let e12:=(List.set v4.Tasks (Int.toNat v5) (⟨(List.getD v2.Tasks (Int.toNat v5) (Kd.dflt .task)).No,(List.getD v2.Tasks (Int.toNat v5) (Kd.dflt .task)).Class,(List.getD v2.Tasks (Int.toNat v5) (Kd.dflt .task)).Cpu,(List.getD v2.Tasks (Int.toNat v5) (Kd.dflt .task)).State,(!r6.1),(List.getD v2.Tasks (Int.toNat v5) (Kd.dflt .task)).Q,(List.getD v2.Tasks (Int.toNat v5) (Kd.dflt .task)).P,(List.getD v2.Tasks (Int.toNat v5) (Kd.dflt .task)).Left,(List.getD v2.Tasks (Int.toNat v5) (Kd.dflt .task)).Due,(List.getD v2.Tasks (Int.toNat v5) (Kd.dflt .task)).Prio,(List.getD v2.Tasks (Int.toNat v5) (Kd.dflt .task)).Round,(List.getD v2.Tasks (Int.toNat v5) (Kd.dflt .task)).Seq,(List.getD v2.Tasks (Int.toNat v5) (Kd.dflt .task)).Nice,(List.getD v2.Tasks (Int.toNat v5) (Kd.dflt .task)).V⟩:Task));Gr n m0 v2 (⟨v3.Now,v3.Cpus,[],[],[],[],v3.Seq,v3.Missed,[]⟩:Sys) (⟨v4.Now,v4.Cpus,e12,v4.Locks,v4.Ghosts,v4.Floors,v4.Seq,v4.Missed,v4.Trace⟩:Sys) (w64 (v5+1)) k0_0) none) none)) none) (k0_0 v4.Tasks)
def Hd(n:Nat)(a0:Sys):Option (Ap×Unit):=(Eu n a0).bind fun r1=>Gr n n a0 (⟨0,0,[],[],[],[],0,0,[]⟩:Sys) (AA r1.1) 0 (fun w13=>some ((AB (⟨(AA r1.1).Now,(AA r1.1).Cpus,w13,(AA r1.1).Locks,(AA r1.1).Ghosts,(AA r1.1).Floors,(AA r1.1).Seq,(AA r1.1).Missed,(AA r1.1).Trace⟩:Sys)),()))
def nr(n:Nat):Rw:=⟨131,pV [Aq],q40,fun x=>Hd n (AS x.1)⟩
def rH(n:Nat):LS:=AN ⟨3,[1,2,3,4],[],[8],[2,3],([1,2,3,4,5,6,7,8])⟩ 54 [1,2,3,4] 111111113 (pD [.ptr 0 0,.ptr 1 0,.ptr 7 0,.int]) [.box Ah,q45,.root .task,.root .lock,.root .ghost,.root .int,.root .turn,q46] (fun m x k=>Gr n m (AS x.2.1) (⟨x.2.2.1.1,x.2.2.1.2.1,[],[],[],[],x.2.2.1.2.2.2.2.2.2.1,x.2.2.1.2.2.2.2.2.2.2.1,[]⟩:Sys) (⟨x.2.2.2.2.2.2.2.2.1.1,x.2.2.2.2.2.2.2.2.1.2.1,x.2.2.2.1,x.2.2.2.2.1,x.2.2.2.2.2.1,x.2.2.2.2.2.2.1,x.2.2.2.2.2.2.2.2.1.2.2.2.2.2.2.1,x.2.2.2.2.2.2.2.2.1.2.2.2.2.2.2.2.1,x.2.2.2.2.2.2.2.1⟩:Sys) x.1.2.2.2.1 (fun w0=>k (.exit 0) (eS 54 [2,3] [.ptr 1 0,.ptr 7 0] 411111113 [DE.make q45 x.2.2.1,.root .task w0 .ok,.root .lock x.2.2.2.2.1 .ok,.root .ghost x.2.2.2.2.2.1 .ok,.root .int x.2.2.2.2.2.2.1 .ok,.root .turn x.2.2.2.2.2.2.2.1 .ok,DE.make q46 x.2.2.2.2.2.2.2.2.1])))
theorem XY(n:Nat):RO (nr n):=
 rL ⟨Go.Proofs.Tryz.f131,⟨[(0,[(0,.slot 0 .int),(1,.slot 1 .int)]),(1,[(1,q43),(2,.slot 7 .int)]),(5,[(5,.slot 8 .int)]),(6,[(6,cl 3 .bool 0)]),(9,[(3,q41),(10,q41)])],[(9,dr 12 [(0,[8],[]),(1,[0],[]),(2,[0],[]),(4,[0],[]),(5,[0],[]),(6,[8],[]),(7,[8],[]),(11,[8],[8])])],[]⟩,9⟩ [rH n] n (ec (J8 n) (ec (Xp n) (ec mP (ec ma en)))) Go.Proofs.Tryz.func131 (by kernel_rfl) ⟨AO (fun m x k=>by kernel_rfl) (fun _ _=>rfl),trivial⟩ (fun x=>by kernel_rfl)
def LW(n:Nat)(a0:List Task)(a1:List Lock)(a2:Int):Option (Bool×Unit):=(LV n a0 a1 a2).bind fun r1=>cond (!r1.1) (some (false,())) ((Cm n a0 a2).bind fun r2=>cond (decide (0≤r2.1)&&decide (r2.1<(a0.length:Int))) (let e3:=(!(decide ((List.getD a0 (Int.toNat r2.1) (Kd.dflt .task)).Class=1)));cond e3 (some (true,())) (let e4:=(decide (0<(List.getD a0 (Int.toNat r2.1) (Kd.dflt .task)).Left));some (e4,()))) none)
def o6(n:Nat):Rw:=⟨118,pV [.ro .task,.ro .lock,.int],pS [.bool],fun x=>LW n x.1.2 x.2.1.2 x.2.2.1⟩
theorem Xq(n:Nat):RO (o6 n):=
 rE ⟨Go.Proofs.Tryz.f118,⟨[(1,[(3,cl 3 .bool 0)]),(3,[(3,cl 2 .int 0),(6,.slot 0 .int)])],[],[]⟩,1⟩ n (ec (Xp n) (ec (Fw n) en)) Go.Proofs.Tryz.func118 (by kernel_rfl) (fun x=>by kernel_rfl)
def Qg(a0:Task)(a1:Task):Option (Bool×Unit):=(Fe a0).bind fun r1=>cond (!r1.1) (some (false,())) ((Fe a1).bind fun r2=>cond (!r2.1) (some (false,())) (cond (decide (a0.Due<a1.Due)) (some (true,())) (cond (decide (a0.Due=a1.Due)) (some ((decide (a0.No<a1.No)),())) (some (false,())))))
def mJ:Rw:=⟨184,pV [Au,Au],pS [.bool],fun x=>Qg (AC x.1) (AC x.2.1)⟩
theorem mK:RO (mJ):=
 rE ⟨Go.Proofs.Tryz.f184,⟨[(0,[(0,.slot 0 .int),(1,.slot 1 .int)]),(1,[(1,cl 1 .bool 0),(5,cl 1 .bool 0)])],[],[]⟩,2⟩ 0 (ec PG en) Go.Proofs.Tryz.func184 (by kernel_rfl) (fun x=>by kernel_rfl)
def Hg(a0:Task):Option (Bool×Unit):=(Er a0).bind fun r1=>cond r1.1 (some ((decide (a0.Class=2)),())) (some (false,()))
def oh:Rw:=⟨233,pV [Au],pS [.bool],fun x=>Hg (AC x.1)⟩
theorem Xl:RO (oh):=
 rE ⟨Go.Proofs.Tryz.f233,⟨[(0,[(0,.slot 0 .int)]),(1,[(1,cl 1 .bool 0)])],[],[]⟩,1⟩ 0 (ec J3 en) Go.Proofs.Tryz.func233 (by kernel_rfl) (fun x=>by kernel_rfl)
def Qi(a0:Task)(a1:Task):Option (Bool×Unit):=(Hg a0).bind fun r1=>cond (!r1.1) (some (false,())) ((Hg a1).bind fun r2=>cond (!r2.1) (some (false,())) (cond (!(decide (a0.Prio=a1.Prio))) (some ((decide (a1.Prio<a0.Prio)),())) (cond (!(decide (a0.Seq=a1.Seq))) (some ((decide (a0.Seq<a1.Seq)),())) (some ((decide (a0.No<a1.No)),())))))
def mc:Rw:=⟨185,pV [Au,Au],pS [.bool],fun x=>Qi (AC x.1) (AC x.2.1)⟩
theorem md:RO (mc):=
 rE ⟨Go.Proofs.Tryz.f185,⟨[(0,[(0,.slot 0 .int),(1,.slot 1 .int)]),(1,[(1,cl 1 .bool 0),(5,cl 1 .bool 0)])],[],[]⟩,2⟩ 0 (ec Xl en) Go.Proofs.Tryz.func185 (by kernel_rfl) (fun x=>by kernel_rfl)
def Qh(a0:Task)(a1:Task):Option (Bool×Unit):=(ES a0).bind fun r1=>cond (!r1.1) (some (false,())) ((ES a1).bind fun r2=>cond (!r2.1) (some (false,())) (cond (decide (a0.V<a1.V)) (some (true,())) (cond (decide (a0.V=a1.V)) (some ((decide (a0.No<a1.No)),())) (some (false,())))))
def mQ:Rw:=⟨186,pV [Au,Au],pS [.bool],fun x=>Qh (AC x.1) (AC x.2.1)⟩
theorem mR:RO (mQ):=
 rE ⟨Go.Proofs.Tryz.f186,⟨[(0,[(0,.slot 0 .int),(1,.slot 1 .int)]),(1,[(1,cl 1 .bool 0),(5,cl 1 .bool 0)])],[],[]⟩,2⟩ 0 (ec J6 en) Go.Proofs.Tryz.func186 (by kernel_rfl) (fun x=>by kernel_rfl)
def GO(a0:Task)(a1:Task):Option (Bool×Unit):=(Er a0).bind fun r1=>cond (!r1.1) (some (false,())) ((Er a1).bind fun r2=>cond (!r2.1) (some (false,())) (cond (!(decide (a0.Class=a1.Class))) (some ((decide (a0.Class<a1.Class)),())) ((Qg a0 a1).bind fun r3=>cond r3.1 (some (true,())) ((Qi a0 a1).bind fun r4=>cond r4.1 (some (true,())) ((Qh a0 a1).bind fun r5=>some (r5.1,()))))))
def ly:Rw:=⟨119,pV [Au,Au],pS [.bool],fun x=>GO (AC x.1) (AC x.2.1)⟩
theorem SC:RO (ly):=
 rE ⟨Go.Proofs.Tryz.f119,⟨[(0,[(0,.slot 0 .int),(1,.slot 1 .int)]),(1,[(1,cl 1 .bool 0),(5,cl 1 .bool 0)]),(5,[(2,cl 2 .bool 0),(6,cl 2 .bool 0),(11,cl 2 .bool 0)])],[],[]⟩,2⟩ 0 (ec J3 (ec mK (ec md (ec mR en)))) Go.Proofs.Tryz.func119 (by kernel_rfl) (fun x=>by kernel_rfl)
def FE{α:Type}(n:Nat):Nat→List Task→List Lock→Int→Int→Int→(Int→Option α)→Option α|0,_,_,_,_,_,_=>none|m0+1,v1,v2,v3,v4,v5,k0_0=>cond (decide (v5<(v1.length:Int))) (cond (decide (0≤v5)&&decide (v5<(v1.length:Int))) (let e6:=(decide ((List.getD v1 (Int.toNat v5) (Kd.dflt .task)).Cpu=v3));cond e6 (cond (decide (0≤v5)&&decide (v5<(v1.length:Int))) ((LW n v1 v2 ((List.getD v1 (Int.toNat v5) (Kd.dflt .task)).No)).bind fun r7=>cond r7.1 (cond (decide (v4<0)) (FE n m0 v1 v2 v3 v5 (w64 (v5+1)) k0_0) (cond (decide (0≤v5)&&decide (v5<(v1.length:Int))) (cond (decide (0≤v4)&&decide (v4<(v1.length:Int))) ((GO (List.getD v1 (Int.toNat v5) (Kd.dflt .task)) (List.getD v1 (Int.toNat v4) (Kd.dflt .task))).bind fun r8=>cond r8.1 (FE n m0 v1 v2 v3 v5 (w64 (v5+1)) k0_0) (FE n m0 v1 v2 v3 v4 (w64 (v5+1)) k0_0)) none) none)) (FE n m0 v1 v2 v3 v4 (w64 (v5+1)) k0_0)) none) (FE n m0 v1 v2 v3 v4 (w64 (v5+1)) k0_0)) none) (k0_0 v4)
def I3(n:Nat)(a0:List Task)(a1:List Lock)(a2:Int):Option (Int×Unit):=FE n n a0 a1 a2 (-1) 0 (fun w9=>some (w9,()))
def o8(n:Nat):Rw:=⟨117,pV [.ro .task,.ro .lock,.int],pS [.int],fun x=>I3 n x.1.2 x.2.1.2 x.2.2.1⟩
def rj(n:Nat):LS:=AN ⟨3,([0,1,2,7,8]),[],[],[7],[]⟩ 49 [0,1,2,7,8] 0 (pD [.ro .task,.ro .lock,.int,.int,.int]) [] (fun m x k=>FE n m x.1.1.2 x.1.2.1.2 x.1.2.2.1 x.1.2.2.2.1 x.1.2.2.2.2.1 (fun w0=>k (.exit 0) (eS 49 [7] [.int w0] 0 [])))
theorem SJ(n:Nat):RO (o8 n):=
 rL ⟨Go.Proofs.Tryz.f117,⟨[(5,[(15,cl 3 .bool 0),(29,cl 2 .bool 0)])],[(5,dr 32 [])],[]⟩,0⟩ [rj n] n (ec (Xq n) (ec SC en)) Go.Proofs.Tryz.func117 (by kernel_rfl) ⟨AO (fun m x k=>by kernel_rfl) (fun _ _=>rfl),trivial⟩ (fun x=>by kernel_rfl)
def Nw(a0:Task):Option (BW×Unit):=(Fe a0).bind fun r1=>cond r1.1 (cond (decide (0<a0.Left)) (some ((AK (⟨a0.No,a0.Class,a0.Cpu,a0.State,a0.Idle,a0.Q,a0.P,(w64 (a0.Left-1)),a0.Due,a0.Prio,a0.Round,a0.Seq,a0.Nice,a0.V⟩:Task)),())) (some ((AK a0),()))) (some ((AK a0),()))
def mM:Rw:=⟨204,pV [Au],q37,fun x=>Nw (AC x.1)⟩
theorem mN:RO (mM):=
 rE ⟨Go.Proofs.Tryz.f204,⟨[(0,[(0,.slot 0 .int),(1,.slot 1 .int)]),(1,[(1,cl 1 .bool 0)])],[],[]⟩,2⟩ 0 (ec PG en) Go.Proofs.Tryz.func204 (by kernel_rfl) (fun x=>by kernel_rfl)
def UH(a0:Int):Option (Int×Unit):=(GS a0).bind fun r1=>cond (!r1.1) (some (0,())) (cond ((decide (0≤(w64 (a0+4))))&&(decide ((w64 (a0+4))<((([24,16,12,8,6,4,3,2,1]:List Int)).length:Int)))) (let e2:=(List.getD ([24,16,12,8,6,4,3,2,1]:List Int) (Int.toNat (w64 (a0+4))) (Kd.dflt .int));some (e2,())) none)
def nm:Rw:=⟨251,pV [.int],pS [.int],fun x=>UH x.1⟩
theorem nn:RO (nm):=
 rE ⟨Go.Proofs.Tryz.f251,⟨[(1,[(1,cl 1 .bool 0)]),(3,[(0,.slot 0 .int)])],[],[]⟩,1⟩ 0 (ec MA en) Go.Proofs.Tryz.func251 (by kernel_rfl) (fun x=>by kernel_rfl)
def OH(a0:Int):Option (Int×Unit):=(GS a0).bind fun r1=>cond (!r1.1) (some (0,())) ((UH a0).bind fun r2=>cond (decide (r2.1=0)) none (some ((w64 (Int.tdiv 48 r2.1)),())))
def nP:Rw:=⟨237,pV [.int],pS [.int],fun x=>OH x.1⟩
theorem nQ:RO (nP):=
 rE ⟨Go.Proofs.Tryz.f237,⟨[(1,[(1,cl 1 .bool 0)]),(3,[(1,cl 1 .int 0)])],[],[]⟩,0⟩ 0 (ec MA (ec nn en)) Go.Proofs.Tryz.func237 (by kernel_rfl) (fun x=>by kernel_rfl)
def Nz(a0:Task):Option (BW×Unit):=(ES a0).bind fun r1=>cond (!r1.1) (some ((AK a0),())) ((OH a0.Nice).bind fun r2=>(LT a0 (w64 (a0.V+r2.1))).bind fun r3=>some ((AK (AC r3.1)),()))
def mV:Rw:=⟨203,pV [Au],q37,fun x=>Nz (AC x.1)⟩
theorem mW:RO (mV):=
 rE ⟨Go.Proofs.Tryz.f203,⟨[(0,[(0,.slot 0 .int),(1,.slot 1 .int)]),(1,[(1,cl 1 .bool 0)]),(3,[(5,cl 1 .int 0),(7,q41)])],[(3,dr 9 [(0,[0],[]),(1,[0],[]),(2,[0],[]),(3,[0],[]),(4,[0],[]),(8,[1],[1])])],[]⟩,2⟩ 0 (ec J6 (ec nQ (ec Xm en))) Go.Proofs.Tryz.func203 (by kernel_rfl) (fun x=>by kernel_rfl)
def N2(a0:Task)(a1:Int):Option ((BW×Bool×Unit)×Unit):=(Hg a0).bind fun r1=>cond (!r1.1) (some (((AK a0),false,()),())) (cond (decide (a0.Round=0)) (some (((AK a0),false,()),())) (cond (decide (1<a0.Left)) (some (((AK (⟨a0.No,a0.Class,a0.Cpu,a0.State,a0.Idle,a0.Q,a0.P,(w64 (a0.Left-1)),a0.Due,a0.Prio,a0.Round,a0.Seq,a0.Nice,a0.V⟩:Task)),false,()),())) ((Ay a1 0 1000000).bind fun r2=>cond (!r2.1) (some (((AK a0),false,()),())) (some (((AK (⟨a0.No,a0.Class,a0.Cpu,a0.State,a0.Idle,a0.Q,a0.P,a0.Round,a0.Due,a0.Prio,a0.Round,a1,a0.Nice,a0.V⟩:Task)),true,()),())))))
def me:Rw:=⟨202,pV [Au,.int],q31,fun x=>N2 (AC x.1) x.2.1⟩
theorem mf:RO (me):=
 rE ⟨Go.Proofs.Tryz.f202,⟨[(0,[(0,.slot 0 .int),(1,.slot 1 .int)]),(1,[(1,cl 1 .bool 0)]),(6,[(1,cl 3 .bool 0)])],[],[]⟩,2⟩ 0 (ec Xl (ec Bz en)) Go.Proofs.Tryz.func202 (by kernel_rfl) (fun x=>by kernel_rfl)
def LE(n:Nat)(a0:Sys)(a1:Int):Option (Ap×Unit):=(I3 n a0.Tasks a0.Locks a1).bind fun r1=>cond (decide (0≤r1.1)) (cond (decide (0≤r1.1)&&decide (r1.1<(a0.Tasks.length:Int))) ((I2 n a0.Tasks a0.Locks ((List.getD a0.Tasks (Int.toNat r1.1) (Kd.dflt .task)).No)).bind fun r2=>(Nw (List.getD a0.Tasks (Int.toNat r1.1) (Kd.dflt .task))).bind fun r3=>(Nz (AC r3.1)).bind fun r4=>(N2 (AC r4.1) (w64 (a0.Seq+1))).bind fun r5=>cond r5.1.2.1 (cond (decide (0≤r1.1)&&decide (r1.1<(a0.Tasks.length:Int))) (cond (decide ((Int.toNat r1.1)<(a0.Tasks).length)) (let e6:=([(⟨a1,(List.getD a0.Tasks (Int.toNat r1.1) (Kd.dflt .task)).No,r2.1⟩:Turn)]:List Turn);cond (decide ((a0.Trace).length+(e6).length≤lim)) (some ((AB (⟨a0.Now,a0.Cpus,(List.set a0.Tasks (Int.toNat r1.1) (AC r5.1.1)),a0.Locks,a0.Ghosts,a0.Floors,(w64 (a0.Seq+1)),a0.Missed,(a0.Trace++e6)⟩:Sys)),())) none) none) none) (cond (decide (0≤r1.1)&&decide (r1.1<(a0.Tasks.length:Int))) (cond (decide ((Int.toNat r1.1)<(a0.Tasks).length)) (let e7:=([(⟨a1,(List.getD a0.Tasks (Int.toNat r1.1) (Kd.dflt .task)).No,r2.1⟩:Turn)]:List Turn);cond (decide ((a0.Trace).length+(e7).length≤lim)) (some ((AB (⟨a0.Now,a0.Cpus,(List.set a0.Tasks (Int.toNat r1.1) (AC r5.1.1)),a0.Locks,a0.Ghosts,a0.Floors,a0.Seq,a0.Missed,(a0.Trace++e7)⟩:Sys)),())) none) none) none)) none) (cond (decide ((a0.Trace).length+(([(⟨a1,0,0⟩:Turn)]:List Turn)).length≤lim)) (some ((AB (⟨a0.Now,a0.Cpus,a0.Tasks,a0.Locks,a0.Ghosts,a0.Floors,a0.Seq,a0.Missed,(a0.Trace++([(⟨a1,0,0⟩:Turn)]:List Turn))⟩:Sys)),())) none)
def nq(n:Nat):Rw:=⟨133,pA [.agg (pA [.v .int,.v .int,.own .task,.own .lock,.own .ghost,.own .int,.v .int,.v .int,.own .turn]),.v .int],q40,fun x=>LE n (AA x.1) x.2.1⟩
theorem XX(n:Nat):RO (nq n):=
 rE ⟨Go.Proofs.Tryz.f133,⟨[(0,[(0,.slot 5 .int),(1,.slot 6 .int)]),(1,[(5,cl 3 .int 0)]),(2,[(2,.slot 7 .int)]),(4,[(5,.slot 8 .int)]),(6,[(6,cl 3 .int 0)]),(7,[(1,q48),(2,q48),(6,q49),(10,.slot 9 .int)]),(11,[(3,.slot 10 .turn),(4,.slot 11 .turn)])],[(7,dr 13 [(0,[8],[]),(3,[5],[]),(4,[5],[]),(10,[9],[9]),(11,[9],[9])])],[]⟩,12⟩ n (ec (SJ n) (ec (SI n) (ec mN (ec mW (ec mf en))))) Go.Proofs.Tryz.func133 (by kernel_rfl) (fun x=>by kernel_rfl)
end Go.Proofs.YthoholbeacojfaaGreat.VR
end
