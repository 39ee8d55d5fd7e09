/- slices.Insert, slices.Delete: what they come to. -/
import Derived.Test.YtbbgaleennfklaaGreatA9
import Derived.Shelf.RegionOpenPlain
import Derived.Deep.LoopGhost
import Derived.Deep.RegionLaw
import Derived.Lib.Walk
import Derived.Lib.JoinLaws
import Derived.Lib.AppendZeros
import Derived.Lib.AppendZerosOnto
import Derived.Lib.Overlaps
import Derived.Laws.Externs
import Derived.Laws.NewBlocks
section
set_option linter.unusedVariables false
set_option linter.unusedSimpArgs false
namespace Go.Proofs.YtbbgaleennfklaaGreat.VR
open Go Go.Shelf Go.RowKit Go.Lib
set_option maxHeartbeats 4000000 in
set_option maxRecDepth 1000000 in
theorem XC (A:Option Addr) (n cap i:Nat) (w:World) (hi:i≤n) (hn:n≤cap) (hm:cap≤maxLen):
 Calls Go.Proofs.Tryz.prog 225 #[.slice A n cap,.int .i64 i,.int .i64 i] w fun x w'=>x=.returned (.slice A n cap)∧w'=w:=by
 unfold maxLen at hm
 go_enter Go.Proofs.Tryz.func225,Go.Proofs.Tryz.ntmps225
 go_wp2
 all_goals(go_ret;exact⟨rfl,rfl⟩)
set_option maxHeartbeats 4000000 in
set_option maxRecDepth 1000000 in
theorem W9 (w:World) (g cap:Nat) (cur:Array Value) (n i j:Nat) (hg:w.heap[g]? =some (.cells cur (tyK .task) (0,0))) (hcs:cur.size=cap*14) (hc1:n≤cap) (hc2:cap≤maxLen) (hlt:i<j) (hj:j≤n)
 (hone: ∀u∈cur.toList.take (n*14),u.oneCell'=true):
 Calls Go.Proofs.Tryz.prog 225 #[.slice (some ⟨g,0,none⟩) n cap,.int .i64 i,.int .i64 j] w fun x w'=>x=.returned (.slice (some ⟨g,0,none⟩) (n-(j-i)) cap)∧w.grownBy w' (some g)∧
  ∃cur',w'.heap[g]? =some (.cells cur' (tyK .task) (0,0))∧cur'.size=cap*14∧cur'.toList.take ((n-(j-i))*14)=cur.toList.take (i*14)++(cur.toList.take (n*14)).drop (j*14):=by
 have hc3:cap≤9223372036854775807:=hc2;have mixed:=Ib;obtain⟨inf,z,hi2,hz,hsi,hzs,hb17,hzo⟩:=Hd (q:=.task) DK (by kernel_rfl)
 obtain⟨news,hnews⟩: ∃news,news=(cur.toList.take (n*14)).drop (j*14):=⟨_,rfl⟩;have hcl:cur.toList.length=cap*14:=Array.length_toList.trans hcs;have hlen:news.length=(n-j)*14:=by rw[hnews,List.length_drop,List.length_take,hcl];omega
 obtain⟨A,hA,hsrc⟩: ∃A:Addr,(if cap=j then some (⟨g,0,none⟩:Addr)else some ⟨g,j*14,none⟩)=some A∧Hid (∀t u,news[t]? =some u→w.drew.cell? (A.add t)=some u):=by
  by_cases h:cap=j
  · refine⟨⟨g,0,none⟩,by simp[h],fun t u hu=> ?_⟩
    have h0:news.length=0:=by rw[hlen];omega
    rw[List.length_eq_zero_iff.1 h0]at hu;simp at hu
  · refine⟨⟨g,j*14,none⟩,by simp[h],fun t u hu=> ?_⟩
    rw[B9];rw[hnews,List.getElem?_drop,List.getElem?_take]at hu;split at hu
    · show w.cell? _=_
      rw[Array.getElem?_toList]at hu;simp[World.cell?,hg,hu]
    ·cases hu
 have s1:Hid (news.length=(n-j)*14):=hlen;have s2:Hid (∀u∈news,u.oneCell'=true):=fun u hu=>hone u (by rw[hnews]at hu;exact List.mem_of_mem_drop hu)
 have s3:Hid (∀t,t<news.length→(w.drew.cell? ⟨g,0+i*14+t,none⟩).isSome=true∧w.drew.frozen? ⟨g,0+i*14+t,none⟩=false):=by
  intro t ht;rw[hlen]at ht;refine⟨?_,?_⟩
  · show(w.cell? _).isSome=true
    have:0+i*14+t<cur.size:=by rw[hcs];omega
    simp only[World.cell?,hg];rw[Array.getElem?_eq_getElem this];rfl
  · show w.frozen? _=false
    simp[World.frozen?,hg]
 obtain⟨W1,hW1⟩: ∃W1,W1=w.drew.setCells g (0+i*14) news:=⟨_,rfl⟩;obtain⟨cur1,hcur1⟩: ∃cur1,cur1=(cur.toList.take (0+i*14)++news++cur.toList.drop (0+i*14+news.length)).toArray:=⟨_,rfl⟩;have hW1':W1=w.drew.setRow g cur1:=by rw[hW1,hcur1];exact QC news _ cur w.drew hg (by rw[hlen,hcs];omega)
 have hs1:cur1.size=cap*14:=by rw[hcur1];simp[hlen,hcs];omega
 have hg1:W1.heap[g]? =some (.cells cur1 (tyK .task) (0,0)):=by rw[hW1'];exact setRow_heap w.drew g cur cur1 _ _ hg
 obtain⟨cur2,hcur2⟩: ∃cur2,cur2=(cur1.toList.take ((i+(n-j))*14)++(Builtin.zeroCells z.cells (n-(i+(n-j)))).toList++cur1.toList.drop ((i+(n-j))*14+(n-(i+(n-j)))*14)).toArray:=⟨_,rfl⟩;have hcl2: ∀ty,(Builtin.clear_ #[31] ty #[.slice (some ⟨g,(i+(n-j))*14,none⟩) (n-(i+(n-j))) (cap-(i+(n-j)))]).run Go.Proofs.Tryz.prog W1=.ok (.tuple #[]) (W1.setRow g cur2):=fun ty=>by
  rw[hcur2];exact Ut W1 31 (tyK .task) ty inf z 14 (by kernel_rfl) hi2 hz hzs hzo (by decide) g _ _ _ cur1 (tyK .task) hg1 (by rw[hs1];omega) (by omega)
 have hW:Hid (W1=w.drew.setCells g (0+i*14) news):=hW1;have hic:i≤cap:=by omega
 have hjc:j≤cap:=by omega
 have X1:Hid (W1=w.drew.setRow g cur1):=hW1';have X2:Hid (cur1=(cur.toList.take (0+i*14)++news++cur.toList.drop (0+i*14+news.length)).toArray):=hcur1;have X3:Hid (cur2=(cur1.toList.take ((i+(n-j))*14)++(Builtin.zeroCells z.cells (n-(i+(n-j)))).toList++cur1.toList.drop ((i+(n-j))*14+(n-(i+(n-j)))*14)).toArray):=hcur2;have X4:Hid (news=(cur.toList.take (n*14)).drop (j*14)):=hnews;have X5:Hid (cur1.size=cap*14):=hs1;have X6:Hid (cur.size=cap*14):=hcs;have X7:Hid (W1.heap[g]? =some (.cells cur1 (tyK .task) (0,0))):=hg1;have X8:Hid (w.heap[g]? =some (.cells cur (tyK .task) (0,0))):=hg;have X9:Hid (Go.Proofs.Tryz.prog.info? (tyK .task)=some inf):=hi2;have X12:Hid (z.cells.size=14):=hzs;have X10:Hid (inf.size=14):=hsi;clear hW1 hW1' hcur1 hcur2 hnews hlen hs1 hg1 hcs hg hone hcl hi2 hz hsi hzs hb17 hzo
 go_enter Go.Proofs.Tryz.func225,Go.Proofs.Tryz.ntmps225
 go_wp2_with fail
 go_region_law_o (refine step_append_room rfl (.tmp 22) (.tmp 25) 31 rfl (tyK .task) inf 14 (by kernel_rfl) X9.out X10.out g 0 i cap (by simp[Act.eval,Act.put]) A (n-j) (cap-j) news (by simp[Act.eval,Act.put,hA]) s1.out hsrc.out s2.out (by omega) s3.out ?_;rw[←hW.out])
 go_wp2
 go_ret
 refine⟨by rw[show n-(j-i)=i+(n-j) by omega];rfl,?_,cur2,setRow_heap W1 g cur1 cur2 _ _ X7.out,?_,?_⟩
 · rw[X1.out]
   refine⟨rfl,rfl,rfl,Nat.le_trans (F0 w.drew g cur1).size (F0 _ g cur2).size,fun k hk hne=> ?_⟩
   have hne':k≠g:=fun e=>hne (by rw[e])
   rw[setRow_other hne',setRow_other hne'];rfl
 · have h5:=X5.out
   rw[X3.out];simp[size_zeroCells,X12.out,h5];omega
 · have h5:=X5.out
   have h6:=X6.out;have hl1:(cur1.toList.take ((i+(n-j))*14)).length=(n-(j-i))*14:=by rw[List.length_take,Array.length_toList,h5];omega
   rw[X3.out];simp only[List.toList_toArray];rw[List.append_assoc,←hl1,List.take_left];have hl2:(cur.toList.take (0+i*14)++news).length=(i+(n-j))*14:=by rw[List.length_append,s1.out,List.length_take,Array.length_toList,h6];omega
   rw[X2.out];simp only[List.toList_toArray];rw[←hl2,List.take_left,X4.out,Nat.zero_add]
set_option maxHeartbeats 4000000 in
set_option maxRecDepth 1000000 in
theorem XB (A:Option Addr) (n cap i:Nat) (w:World) (hi:i≤n) (hn:n≤cap) (hm:cap≤maxLen):
 Calls Go.Proofs.Tryz.prog 239 #[.slice A n cap,.int .i64 i,.int .i64 i] w fun x w'=>x=.returned (.slice A n cap)∧w'=w:=by
 unfold maxLen at hm
 go_enter Go.Proofs.Tryz.func239,Go.Proofs.Tryz.ntmps239
 go_wp2
 all_goals(go_ret;exact⟨rfl,rfl⟩)
set_option maxHeartbeats 4000000 in
set_option maxRecDepth 1000000 in
theorem W8 (w:World) (g cap:Nat) (cur:Array Value) (n i j:Nat) (hg:w.heap[g]? =some (.cells cur (tyK .int) (0,0))) (hcs:cur.size=cap*1) (hc1:n≤cap) (hc2:cap≤maxLen) (hlt:i<j) (hj:j≤n)
 (hone: ∀u∈cur.toList.take (n*1),u.oneCell'=true):
 Calls Go.Proofs.Tryz.prog 239 #[.slice (some ⟨g,0,none⟩) n cap,.int .i64 i,.int .i64 j] w fun x w'=>x=.returned (.slice (some ⟨g,0,none⟩) (n-(j-i)) cap)∧w.grownBy w' (some g)∧
  ∃cur',w'.heap[g]? =some (.cells cur' (tyK .int) (0,0))∧cur'.size=cap*1∧cur'.toList.take ((n-(j-i))*1)=cur.toList.take (i*1)++(cur.toList.take (n*1)).drop (j*1):=by
 have hc3:cap≤9223372036854775807:=hc2;have mixed:=Ib;obtain⟨inf,z,hi2,hz,hsi,hzs,hb17,hzo⟩:=Hd (q:=.int) DK (by kernel_rfl)
 obtain⟨news,hnews⟩: ∃news,news=(cur.toList.take (n*1)).drop (j*1):=⟨_,rfl⟩;have hcl:cur.toList.length=cap*1:=Array.length_toList.trans hcs;have hlen:news.length=(n-j)*1:=by rw[hnews,List.length_drop,List.length_take,hcl];omega
 obtain⟨A,hA,hsrc⟩: ∃A:Addr,(if cap=j then some (⟨g,0,none⟩:Addr)else some ⟨g,j,none⟩)=some A∧Hid (∀t u,news[t]? =some u→w.drew.cell? (A.add t)=some u):=by
  by_cases h:cap=j
  · refine⟨⟨g,0,none⟩,by simp[h],fun t u hu=> ?_⟩
    have h0:news.length=0:=by rw[hlen];omega
    rw[List.length_eq_zero_iff.1 h0]at hu;simp at hu
  · refine⟨⟨g,j,none⟩,by simp[h],fun t u hu=> ?_⟩
    rw[B9];rw[hnews,List.getElem?_drop,List.getElem?_take]at hu;split at hu
    · show w.cell? _=_
      rw[Array.getElem?_toList,Nat.mul_one]at hu;simp[World.cell?,hg,hu]
    ·cases hu
 have s1:Hid (news.length=(n-j)*1):=hlen;have s2:Hid (∀u∈news,u.oneCell'=true):=fun u hu=>hone u (by rw[hnews]at hu;exact List.mem_of_mem_drop hu)
 have s3:Hid (∀t,t<news.length→(w.drew.cell? ⟨g,0+i*1+t,none⟩).isSome=true∧w.drew.frozen? ⟨g,0+i*1+t,none⟩=false):=by
  intro t ht;rw[hlen]at ht;refine⟨?_,?_⟩
  · show(w.cell? _).isSome=true
    have:0+i*1+t<cur.size:=by rw[hcs];omega
    simp only[World.cell?,hg];rw[Array.getElem?_eq_getElem this];rfl
  · show w.frozen? _=false
    simp[World.frozen?,hg]
 obtain⟨W1,hW1⟩: ∃W1,W1=w.drew.setCells g (0+i*1) news:=⟨_,rfl⟩;obtain⟨cur1,hcur1⟩: ∃cur1,cur1=(cur.toList.take (0+i*1)++news++cur.toList.drop (0+i*1+news.length)).toArray:=⟨_,rfl⟩;have hW1':W1=w.drew.setRow g cur1:=by rw[hW1,hcur1];exact QC news _ cur w.drew hg (by rw[hlen,hcs];omega)
 have hs1:cur1.size=cap*1:=by rw[hcur1];simp[hlen,hcs];omega
 have hg1:W1.heap[g]? =some (.cells cur1 (tyK .int) (0,0)):=by rw[hW1'];exact setRow_heap w.drew g cur cur1 _ _ hg
 obtain⟨cur2,hcur2⟩: ∃cur2,cur2=(cur1.toList.take (i+(n-j))++(Builtin.zeroCells z.cells (n-(i+(n-j)))).toList++cur1.toList.drop (i+(n-j)+(n-(i+(n-j)))*1)).toArray:=⟨_,rfl⟩;have hcl2: ∀ty,(Builtin.clear_ #[25] ty #[.slice (some ⟨g,i+(n-j),none⟩) (n-(i+(n-j))) (cap-(i+(n-j)))]).run Go.Proofs.Tryz.prog W1=.ok (.tuple #[]) (W1.setRow g cur2):=fun ty=>by
  rw[hcur2];exact Ut W1 25 (tyK .int) ty inf z 1 (by kernel_rfl) hi2 hz hzs hzo (by decide) g _ _ _ cur1 (tyK .int) hg1 (by rw[hs1];omega) (by omega)
 have hW:Hid (W1=w.drew.setCells g (0+i*1) news):=hW1;have hic:i≤cap:=by omega
 have hjc:j≤cap:=by omega
 have X1:Hid (W1=w.drew.setRow g cur1):=hW1';have X2:Hid (cur1=(cur.toList.take (0+i*1)++news++cur.toList.drop (0+i*1+news.length)).toArray):=hcur1;have X3:Hid (cur2=(cur1.toList.take (i+(n-j))++(Builtin.zeroCells z.cells (n-(i+(n-j)))).toList++cur1.toList.drop (i+(n-j)+(n-(i+(n-j)))*1)).toArray):=hcur2;have X4:Hid (news=(cur.toList.take (n*1)).drop (j*1)):=hnews;have X5:Hid (cur1.size=cap*1):=hs1;have X6:Hid (cur.size=cap*1):=hcs;have X7:Hid (W1.heap[g]? =some (.cells cur1 (tyK .int) (0,0))):=hg1;have X8:Hid (w.heap[g]? =some (.cells cur (tyK .int) (0,0))):=hg;have X9:Hid (Go.Proofs.Tryz.prog.info? (tyK .int)=some inf):=hi2;have X12:Hid (z.cells.size=1):=hzs;have X10:Hid (inf.size=1):=hsi;clear hW1 hW1' hcur1 hcur2 hnews hlen hs1 hg1 hcs hg hone hcl hi2 hz hsi hzs hb17 hzo
 go_enter Go.Proofs.Tryz.func239,Go.Proofs.Tryz.ntmps239
 go_wp2_with fail
 go_region_law_o (refine step_append_room rfl (.tmp 22) (.tmp 25) 25 rfl (tyK .int) inf 1 (by kernel_rfl) X9.out X10.out g 0 i cap (by simp[Act.eval,Act.put]) A (n-j) (cap-j) news (by simp[Act.eval,Act.put,hA]) s1.out hsrc.out s2.out (by omega) s3.out ?_;rw[←hW.out])
 go_wp2
 go_ret
 refine⟨by rw[show n-(j-i)=i+(n-j) by omega];rfl,?_,cur2,setRow_heap W1 g cur1 cur2 _ _ X7.out,?_,?_⟩
 · rw[X1.out]
   refine⟨rfl,rfl,rfl,Nat.le_trans (F0 w.drew g cur1).size (F0 _ g cur2).size,fun k hk hne=> ?_⟩
   have hne':k≠g:=fun e=>hne (by rw[e])
   rw[setRow_other hne',setRow_other hne'];rfl
 · have h5:=X5.out
   rw[X3.out];simp[size_zeroCells,X12.out,h5];omega
 · have h5:=X5.out
   have h6:=X6.out;have hl1:(cur1.toList.take (i+(n-j))).length=(n-(j-i))*1:=by rw[List.length_take,Array.length_toList,h5];omega
   rw[X3.out];simp only[List.toList_toArray];rw[List.append_assoc,←hl1,List.take_left];have hl2:(cur.toList.take (0+i*1)++news).length=(i+(n-j)):=by rw[List.length_append,s1.out,List.length_take,Array.length_toList,h6];omega
   rw[X2.out];simp only[List.toList_toArray];rw[←hl2,List.take_left,X4.out,Nat.zero_add]
variable {P:Program}
theorem WA(w:World){ops:Array Oper}{rest:List Oper}{o:Oper}{a:Act}{Q:Exit→Act→World→Prop}(hgd:o.guard=none)(d s:Operand)(t t':TypeId)
 (ho:o.op=.call {callee:=.builtin .copy,args:= #[d,s],argTypes:= #[t,t']}) (v u:Value) (hd:a.eval d=v) (hs:a.eval s=u) {v':Value} {w':World}
 (hr:(Builtin.copy_ #[t,t'] o.type #[v,u]).run P w=.ok v' w') (h:wpList P ops Q rest (a.put o.dst v') w'):wpList P ops Q (o::rest) a w:=
 wpList_plain hgd fun _ hK=>by
  unfold Oper.wp execOp;simp only[ho,resolve,invoke,builtin,Sem.run_bind,Sem.run_pure,Result.andThen_ok,List.map_toArray,List.map_cons,List.map_nil,hd,hs,hr];exact hK _ _ h
theorem VP{ops:Array Oper}{o:Oper}{a:Act}{w:World}{K:Act→World→Prop}{Q:Exit→Act→World→Prop}{E:Prop}
 (hg:o.guard=none) (d x:Operand) (dT sT:TypeId) (hop:o.op=Op.call {callee:=Callee.builtin Builtin.copy,args:= #[d,x],argTypes:= #[dT,sT]})
 (v u:Value) (hd:a.eval d=v) (hx:a.eval x=u) {v':Value} {w':World} (hr:(Builtin.copy_ #[dT,sT] o.type #[v,u]).run P w=.ok v' w') (hK:K (a.put o.dst v') w'):
 if Region.wanted o (yielded ops a.tmps)=true then Oper.wp P o a w K Q else E:=by
 have hw:Region.wanted o (yielded ops a.tmps)=true:=by simp[Region.wanted,hg]
 rw[if_pos hw];unfold Oper.wp;simp[execOp,hop,resolve,invoke,builtin,hd,hx,hr,Result.andThen];exact hK
set_option maxHeartbeats 4000000 in
set_option maxRecDepth 1000000 in
theorem Yo (A B:Option Addr) (n cap i cB:Nat) (w:World) (hi:i≤n) (hn:n≤cap) (hm:cap≤maxLen):
 Calls Go.Proofs.Tryz.prog 222 #[.slice A n cap,.int .i64 i,.slice B 0 cB] w fun x w'=>x=.returned (.slice A n cap)∧w'=w:=by
 unfold maxLen at hm
 go_enter Go.Proofs.Tryz.func222,Go.Proofs.Tryz.ntmps222
 go_wp2
 all_goals(go_ret;exact⟨rfl,rfl⟩)
theorem SL(w:World)(v v':Value)(w':World)(n gb m cB:Nat)(hv: ∃A cap,v=.slice A n cap∧n≤cap∧cap≤maxLen)(hm:0<m)(hm2:m≤lim)
 (hrun: ∀ty,(Builtin.append_ #[31,31] ty #[v,.slice (some ⟨gb,0,none⟩) m cB]).run Go.Proofs.Tryz.prog w=.ok v' w'):
 Calls Go.Proofs.Tryz.prog 222 #[v,.int .i64 n,.slice (some ⟨gb,0,none⟩) m cB] w fun x w2=>x=.returned v'∧w2=w':=by
 obtain⟨A,cap,rfl,hn,hc⟩:=hv;unfold maxLen at hc;unfold lim at hm2;have hz1: ¬((m:Int)=0):=by omega
 go_enter Go.Proofs.Tryz.func222,Go.Proofs.Tryz.ntmps222
 go_wp2_with (at_builtin;refine Lib.wpList_append_run _ rfl _ _ _ _ rfl _ _ rfl rfl _ _ (hrun _) ?_)
 all_goals(go_ret;exact⟨rfl,rfl⟩)
set_option maxHeartbeats 4000000 in
set_option maxRecDepth 1000000 in
theorem Yp (w:World) (g cap:Nat) (cur:Array Value) (n i gb m cB:Nat) (curb:Array Value) (hg:w.heap[g]? =some (.cells cur (tyK .task) (0,0))) (hcs:cur.size=cap*14) (hc2:cap≤maxLen)
 (hone: ∀u∈cur.toList.take (n*14),u.oneCell'=true) (hgb:w.heap[gb]? =some (.cells curb (tyK .task) (0,0))) (hmb:m*14≤curb.size) (hob: ∀u∈curb.toList.take (m*14),u.oneCell'=true) (hne:gb≠g)
 (hm:0<m) (hi:i<n) (hroom:n+m≤cap):
 Calls Go.Proofs.Tryz.prog 222 #[.slice (some ⟨g,0,none⟩) n cap,.int .i64 i,.slice (some ⟨gb,0,none⟩) m cB] w fun x w'=>x=.returned (.slice (some ⟨g,0,none⟩) (n+m) cap)∧w.grownBy w' (some g)∧
  ∃cur',w'.heap[g]? =some (.cells cur' (tyK .task) (0,0))∧cur'.size=cap*14∧cur'.toList.take ((n+m)*14)=cur.toList.take (i*14)++curb.toList.take (m*14)++(cur.toList.take (n*14)).drop (i*14):=by
 have hc3:cap≤9223372036854775807:=hc2;have mixed:=Ib;obtain⟨inf,z,hi2,hz,hsi,hzs,hb17,hzo⟩:=Hd (q:=.task) DK (by kernel_rfl)
 have hsz:(Go.Proofs.Tryz.prog.info? (tyK .task)).map (·.size)=some 14:=by rw[hi2];simp[hsi];rfl
 have hz1: ¬((m:Int)=0):=by omega
 have hz2: ¬((i:Int)=(n:Int)):=by omega
 have hcl:cur.toList.length=cap*14:=Array.length_toList.trans hcs;obtain⟨cs,hcs0⟩: ∃cs,cs=(cur.toList.take (n*14)).drop (i*14):=⟨_,rfl⟩;obtain⟨vs,hvs0⟩: ∃vs,vs=curb.toList.take (m*14):=⟨_,rfl⟩;have hdl:cs.length=(n-i)*14:=by rw[hcs0,List.length_drop,List.length_take,hcl];omega
 have hvl:vs.length=m*14:=by rw[hvs0,List.length_take,Array.length_toList];omega
 have hov: ∀lb cb,(callFunc 236 #[.slice (some ⟨gb,0,none⟩) m cB,.slice (some ⟨g,(i+m)*14,none⟩) lb cb]).run Go.Proofs.Tryz.prog w=.ok (.value (.bool false)) w:=fun lb cb=>by
  rw[run_callFunc_extern Go.Proofs.Tryz.func236 (by kernel_rfl) (by kernel_rfl) (by kernel_rfl) (e:=Extern.SlicesOverlaps.overlaps #[31,31] #[4]) (by kernel_rfl),
   Lib.run_overlaps_apart w 31 4 (tyK .task) (by kernel_rfl) 14 (fun w=>by simp[sizeOf,typeInfo,hi2];rw[hsi];rfl) ⟨gb,0,none⟩ ⟨g,(i+m)*14,none⟩ m cB lb cb hne (tyK .task) (tyK .task) curb.size cur.size (by simp[World.shape?,hgb]) (by simp[World.shape?,hg]) (by rw[hcs];omega) (by simp[World.frozen?,hgb]) (by simp[World.frozen?,hgb])]
  rfl
 have hw1:IntKind.i64.wrap ((i:Int)+(m:Int))=(i:Int)+(m:Int):=by rw[IntKind.wrap_i64];omega
 have hb1:(0:Int)≤(i:Int)+(m:Int):=by omega
 have hin:i≤n:=by omega
 have htn:((i:Int)+(m:Int)).toNat=i+m:=by omega
 have hb2: ¬(cap=i+m):=by omega
 have hb3:(i:Int)≤(n:Int)+(m:Int):=by omega
 have hb4: ¬(cap=i):=by omega
 obtain⟨cur1,hcur1⟩: ∃cur1,cur1=(cur.toList.take ((i+m)*14)++cs++cur.toList.drop ((i+m)*14+cs.length)).toArray:=⟨_,rfl⟩;obtain⟨cur2,hcur2⟩: ∃cur2,cur2=(cur1.toList.take (i*14)++vs++cur1.toList.drop (i*14+vs.length)).toArray:=⟨_,rfl⟩;have hs1:cur1.size=cap*14:=by rw[hcur1];simp[hdl,hcs];omega
 have hs2:cur2.size=cap*14:=by rw[hcur2];simp[hvl,hs1];omega
 have hcp1: ∀ty dc sc,(Builtin.copy_ #[31,31] ty #[.slice (some ⟨g,(i+m)*14,none⟩) (n+m-(i+m)) dc,.slice (some ⟨g,i*14,none⟩) (n+m-i) sc]).run Go.Proofs.Tryz.prog w.drew=
  .ok (goInt (Nat.min (n+m-i) (n+m-(i+m)))) (w.drew.setRow g cur1):=fun ty dc sc=>by
  rw[hcur1];refine NT w.drew 31 31 ty (tyK .task) 14 g ((i+m)*14) (n+m-(i+m)) dc ⟨g,i*14,none⟩ (n+m-i) sc cur (tyK .task) cs (by kernel_rfl) hsz hg (by rw[hdl,show Nat.min (n+m-i) (n+m-(i+m))=n-i by simp only[Nat.min_def];split<;>omega])
   (fun j v hj=> ?_) (by rw[hdl,hcs];omega) (fun u hu=>hone u (by rw[hcs0]at hu;exact List.mem_of_mem_drop hu))
  rw[B9];rw[hcs0,List.getElem?_drop,List.getElem?_take]at hj;split at hj
  · show w.cell? _=_
    rw[Array.getElem?_toList]at hj;simp[World.cell?,hg,hj]
  ·cases hj
 have hg1:(w.drew.setRow g cur1).heap[g]? =some (.cells cur1 (tyK .task) (0,0)):=setRow_heap w.drew g cur cur1 _ _ hg;have hgb1:(w.drew.setRow g cur1).heap[gb]? =some (.cells curb (tyK .task) (0,0)):=(setRow_other hne).trans hgb;obtain⟨W1,hW1⟩: ∃W1,W1=w.drew.setRow g cur1:=⟨_,rfl⟩;rw[←hW1]at hcp1 hg1 hgb1;have hcp2: ∀ty dc,(Builtin.copy_ #[31,31] ty #[.slice (some ⟨g,i*14,none⟩) (n+m-i) dc,.slice (some ⟨gb,0,none⟩) m cB]).run Go.Proofs.Tryz.prog W1=.ok (goInt (Nat.min m (n+m-i))) (W1.setRow g cur2):=fun ty dc=>by
  rw[hcur2];refine NT W1 31 31 ty (tyK .task) 14 g (i*14) (n+m-i) dc ⟨gb,0,none⟩ m cB cur1 (tyK .task) vs (by kernel_rfl) hsz hg1 (by rw[hvl,show Nat.min m (n+m-i)=m by simp only[Nat.min_def];split<;>omega])
   (fun j v hj=> ?_) (by rw[hvl,hs1];omega) (fun u hu=>hob u (by rw[hvs0]at hu;exact hu))
  rw[B9];rw[hvs0,List.getElem?_take]at hj;split at hj
  · rw[Array.getElem?_toList]at hj
    simp[World.cell?,hgb1,hj]
  ·cases hj
 have X1:Hid (W1=w.drew.setRow g cur1):=hW1;have X2:Hid (cur1=(cur.toList.take ((i+m)*14)++cs++cur.toList.drop ((i+m)*14+cs.length)).toArray):=hcur1;have X3:Hid (cur2=(cur1.toList.take (i*14)++vs++cur1.toList.drop (i*14+vs.length)).toArray):=hcur2;have X4:Hid (cs=(cur.toList.take (n*14)).drop (i*14)):=hcs0;have X5:Hid (vs=curb.toList.take (m*14)):=hvs0;have X6:Hid (cur1.size=cap*14):=hs1;have X7:Hid (cur2.size=cap*14):=hs2;have X8:Hid (cur.size=cap*14):=hcs;have X9:Hid (W1.heap[g]? =some (.cells cur1 (tyK .task) (0,0))):=hg1;have X10:Hid (cs.length=(n-i)*14):=hdl;have X11:Hid (vs.length=m*14):=hvl;clear hW1 hcur1 hcur2 hcs0 hvs0 hs1 hs2 hcs hg1 hgb1 hdl hvl hg hgb hone hob hmb hcl hsz hi2 hz hsi hzs hb17 hzo
 go_enter Go.Proofs.Tryz.func222,Go.Proofs.Tryz.ntmps222
 go_wp2_with (simp only[hov])
 go_region_law_o (refine VP rfl _ _ 31 31 rfl _ _ (by simp[Act.eval,Act.put]) (by simp[Act.eval,Act.put]) (hcp1 _ _ _) ?_)
 go_wp2_with (at_builtin;refine WA _ rfl _ _ 31 31 rfl _ _ rfl rfl (hcp2 _ _) ?_)
 go_ret
 refine⟨rfl,?_,cur2,setRow_heap W1 g cur1 cur2 _ _ X9.out,X7.out,?_⟩
 · rw[X1.out]
   refine⟨rfl,rfl,rfl,Nat.le_trans (F0 w.drew g cur1).size (F0 _ g cur2).size,fun k hk hne=> ?_⟩
   have hne':k≠g:=fun e=>hne (by rw[e])
   rw[setRow_other hne',setRow_other hne'];rfl
 · have h8:=X8.out
   have h10:=X10.out;have h11:=X11.out;rw[X3.out,←X5.out,←X4.out];refine mg cur.toList (i*14) ((i+m)*14) cs vs cur1.toList (by rw[Array.length_toList,h8];omega) (by rw[h11];omega) (by rw[X2.out]) _ (by rw[h10];omega)
set_option maxHeartbeats 4000000 in
set_option maxRecDepth 1000000 in
theorem Yn (w:World) (g cap:Nat) (cur:Array Value) (n i gb m cB:Nat) (curb:Array Value) (hg:w.heap[g]? =some (.cells cur (tyK .task) (0,0))) (hcs:cur.size=cap*14) (hc1:n≤cap)
 (hone: ∀u∈cur.toList.take (n*14),u.oneCell'=true) (hgb:w.heap[gb]? =some (.cells curb (tyK .task) (0,0))) (hmb:m*14≤curb.size) (hob: ∀u∈curb.toList.take (m*14),u.oneCell'=true)
 (hm:0<m) (hi:i<n) (hroom:cap<n+m) (hlim:n+m≤lim):
 Calls Go.Proofs.Tryz.prog 222 #[.slice (some ⟨g,0,none⟩) n cap,.int .i64 i,.slice (some ⟨gb,0,none⟩) m cB] w fun x w'=> ∃G,x=.returned (.slice (some ⟨w.heap.size,0,none⟩) (n+m) G)∧n+m≤G∧G≤maxLen∧w.grownBy w' none∧
  ∃cur',w'.heap[w.heap.size]? =some (.cells cur' (tyK .task) (0,0))∧cur'.size=G*14∧cur'.toList.take ((n+m)*14)=cur.toList.take (i*14)++curb.toList.take (m*14)++(cur.toList.take (n*14)).drop (i*14):=by
 have hl3:n+m≤1073741824:=hlim;have mixed:=Ib;obtain⟨inf,z,hi2,hz,hsi,hzs,hb17,hzo⟩:=Hd (q:=.task) DK (by kernel_rfl)
 have hsi:inf.size=14:=hsi;have hzs:z.cells.size=14:=hzs;have hsz:(Go.Proofs.Tryz.prog.info? (tyK .task)).map (·.size)=some 14:=by rw[hi2];simp[hsi]
 have hz1: ¬((m:Int)=0):=by omega
 have hz2: ¬((i:Int)=(n:Int)):=by omega
 have hz3:(cap:Int)<(n:Int)+(m:Int):=by omega
 have hcl:cur.toList.length=cap*14:=Array.length_toList.trans hcs;obtain⟨cs,hcs0⟩: ∃cs,cs=(cur.toList.take (n*14)).drop (i*14):=⟨_,rfl⟩;obtain⟨vs,hvs0⟩: ∃vs,vs=curb.toList.take (m*14):=⟨_,rfl⟩;have hdl:cs.length=(n-i)*14:=by rw[hcs0,List.length_drop,List.length_take,hcl];omega
 have hvl:vs.length=m*14:=by rw[hvs0,List.length_take,Array.length_toList];omega
 have hkk:(n:Int)+(m:Int)-(i:Int)=((n+m-i:Nat):Int):=by omega
 have hik:i+(n+m-i)=n+m:=by omega
 have hbytes:(n+m)*inf.bytes≤140737488355328:=by
  have:=Nat.mul_le_mul hl3 hb17;omega
 have hold:(Builtin.firstCells inf.size i (.slice (some ⟨g,0,none⟩) i cap)).run Go.Proofs.Tryz.prog w.drew=.ok (cur.toList.take (i*14)).toArray w.drew:=by
  rw[hsi];refine run_firstCells_some w.drew 14 i ⟨g,0,none⟩ i cap (cur.toList.take (i*14)) (by rw[List.length_take,hcl];omega) (fun j v hj=> ?_)
  rw[B9];rw[List.getElem?_take]at hj;split at hj
  · show w.cell? _=_
    rw[Array.getElem?_toList]at hj;simp[World.cell?,hg,hj]
  ·cases hj
 have hik2:(n+m-i)*inf.bytes≤281474976710656:=by
  have:=Nat.mul_le_mul_right inf.bytes (show n+m-i≤n+m by omega)
  omega
 obtain⟨G,hG⟩: ∃G,G=grownCap w (n+m) cap (tyK .task):=⟨_,rfl⟩;obtain⟨row,hrow⟩: ∃row:Array Value,row=(cur.toList.take (i*14)).toArray++Builtin.zeroCells z.cells (n+m-i)++Builtin.zeroCells z.cells (G-(n+m)):=⟨_,rfl⟩;obtain⟨N,hN⟩: ∃N,N=w.heap.size:=⟨_,rfl⟩;obtain⟨W1,hW1⟩: ∃W1,W1=w.drew.alloc (.cells row (tyK .task)):=⟨_,rfl⟩;have hrz: ∀ty,(Builtin.append_ #[31,3] ty #[.slice (some ⟨g,0,none⟩) i cap,.int .i64 ((n:Int)+(m:Int)-(i:Int))]).run Go.Proofs.Tryz.prog w=.ok (.slice (some ⟨N,0,none⟩) (n+m) G) W1:=fun ty=>by
  have h:=Lib.run_append_grow_zeros w 31 3 ty (tyK .task) inf z .i64 .i64 (by kernel_rfl) (by kernel_rfl) hi2 hz (some ⟨g,0,none⟩) i cap (cur.toList.take (i*14)) hold (n+m-i) (by omega) (by rw[hsi];decide) (by omega) (by omega) hik2 (by rw[hik];exact growslice_fits hroom hbytes)
  rw[hik]at h;rw[hkk,hW1,hrow,hG,hN];exact h
 have hGn:n+m≤G:=by rw[hG];exact grownCap_ge w _ _ _
 have hGm:G≤maxLen:=by rw[hG];exact grownCap_le_maxLen w (n+m) cap _ (by unfold maxLen;omega)
 have hG63:G≤9223372036854775807:=hGm;have hrs:row.size=G*14:=by
  rw[hrow];simp only[Array.size_append,size_zeroCells,hzs,List.size_toArray,List.length_take,hcl];omega
 have hgN:W1.heap[N]? =some (.cells row (tyK .task) (0,0)):=by rw[hW1,hN];exact _root_.Go.heap_alloc_new w.drew _
 have hgl:g<w.heap.size:=(Array.getElem?_eq_some_iff.1 hg).1;have hgbl:gb<w.heap.size:=(Array.getElem?_eq_some_iff.1 hgb).1;have hg1:W1.heap[g]? =some (.cells cur (tyK .task) (0,0)):=by rw[hW1];exact(_root_.Go.heap_alloc_old w.drew _ hgl).trans hg
 have hgb1:W1.heap[gb]? =some (.cells curb (tyK .task) (0,0)):=by rw[hW1];exact(_root_.Go.heap_alloc_old w.drew _ hgbl).trans hgb
 obtain⟨row1,hrow1⟩: ∃row1,row1=(row.toList.take (i*14)++vs++row.toList.drop (i*14+vs.length)).toArray:=⟨_,rfl⟩;obtain⟨row2,hrow2⟩: ∃row2,row2=(row1.toList.take ((i+m)*14)++cs++row1.toList.drop ((i+m)*14+cs.length)).toArray:=⟨_,rfl⟩;have hs1:row1.size=G*14:=by rw[hrow1];simp[hvl,hrs];omega
 have hs2:row2.size=G*14:=by rw[hrow2];simp[hdl,hs1];omega
 obtain⟨W2,hW2⟩: ∃W2,W2=W1.setRow N row1:=⟨_,rfl⟩;obtain⟨W3,hW3⟩: ∃W3,W3=W2.drew.setRow N row2:=⟨_,rfl⟩;have hcpA: ∀ty dc,(Builtin.copy_ #[31,31] ty #[.slice (some ⟨N,i*14,none⟩) (n+m-i) dc,.slice (some ⟨gb,0,none⟩) m cB]).run Go.Proofs.Tryz.prog W1=.ok (goInt (Nat.min m (n+m-i))) W2:=fun ty dc=>by
  rw[hW2,hrow1];refine NT W1 31 31 ty (tyK .task) 14 N (i*14) (n+m-i) dc ⟨gb,0,none⟩ m cB row (tyK .task) vs (by kernel_rfl) hsz hgN (by rw[hvl,show Nat.min m (n+m-i)=m by simp only[Nat.min_def];split<;>omega])
   (fun j v hj=> ?_) (by rw[hvl,hrs];omega) (fun u hu=>hob u (by rw[hvs0]at hu;exact hu))
  rw[B9];rw[hvs0,List.getElem?_take]at hj;split at hj
  · rw[Array.getElem?_toList]at hj
    simp[World.cell?,hgb1,hj]
  ·cases hj
 have hgN2:W2.drew.heap[N]? =some (.cells row1 (tyK .task) (0,0)):=by rw[hW2];exact setRow_heap W1 N row row1 _ _ hgN
 have hg2:W2.drew.heap[g]? =some (.cells cur (tyK .task) (0,0)):=by rw[hW2];exact(setRow_other (by omega)).trans hg1
 have hcpB: ∀ty dc sc,(Builtin.copy_ #[31,31] ty #[.slice (some ⟨N,(i+m)*14,none⟩) (n+m-(i+m)) dc,.slice (some ⟨g,i*14,none⟩) (n-i) sc]).run Go.Proofs.Tryz.prog W2.drew=.ok (goInt (Nat.min (n-i) (n+m-(i+m)))) W3:=fun ty dc sc=>by
  rw[hW3,hrow2];refine NT W2.drew 31 31 ty (tyK .task) 14 N ((i+m)*14) (n+m-(i+m)) dc ⟨g,i*14,none⟩ (n-i) sc row1 (tyK .task) cs (by kernel_rfl) hsz hgN2 (by rw[hdl,show Nat.min (n-i) (n+m-(i+m))=n-i by simp only[Nat.min_def];split<;>omega])
   (fun j v hj=> ?_) (by rw[hdl,hs1];omega) (fun u hu=>hone u (by rw[hcs0]at hu;exact List.mem_of_mem_drop hu))
  rw[B9];rw[hcs0,List.getElem?_drop,List.getElem?_take]at hj;split at hj
  · rw[Array.getElem?_toList]at hj
    simp[World.cell?,hg2,hj]
  ·cases hj
 have hgN3:W3.heap[N]? =some (.cells row2 (tyK .task) (0,0)):=by rw[hW3];exact setRow_heap W2.drew N row1 row2 _ _ hgN2
 have hgrow:w.grownBy W3 none:=by
  rw[hW3,hW2,hW1];refine⟨rfl,rfl,rfl,?_,fun k hk _=> ?_⟩
  · refine Nat.le_trans ?_ (F0 _ N row2).size
    refine Nat.le_trans ?_ (F0 _ N row1).size;simp
  · have hne:k≠N:=by omega
    rw[setRow_other hne];show((w.drew.alloc (.cells row (tyK .task))).setRow N row1).heap[k]? =_;rw[setRow_other hne];exact _root_.Go.heap_alloc_old w.drew _ hk
 have hfin:row2.toList.take ((n+m)*14)=cur.toList.take (i*14)++vs++cs:=by
  have e0:row.toList.take (i*14)=cur.toList.take (i*14):=by
   rw[hrow];simp only[Array.toList_append,List.append_assoc];exact List.take_left' (by rw[List.length_take,hcl];omega)
  have e1:(row.toList.take (i*14)++vs).length=(i+m)*14:=by rw[List.length_append,List.length_take,Array.length_toList,hrs,hvl];omega
  have e2:row1.toList.take ((i+m)*14)=cur.toList.take (i*14)++vs:=by
   rw[hrow1];simp only[];rw[List.take_left' e1,e0]
  rw[hrow2];simp only[];rw[e2];refine List.take_left' ?_;rw[←e0,List.length_append,e1,hdl];omega
 have hgi: ¬(G=i):=by omega
 have hgim: ¬(G=i+m):=by omega
 have hci: ¬(cap=i):=by omega
 have hw1:IntKind.i64.wrap ((i:Int)+(m:Int))=(i:Int)+(m:Int):=by rw[IntKind.wrap_i64];omega
 have hb1:(0:Int)≤(i:Int)+(m:Int):=by omega
 have hin:i≤n:=by omega
 have htn:((i:Int)+(m:Int)).toNat=i+m:=by omega
 have hb3:(i:Int)≤(n:Int):=by omega
 have X1:Hid (w.grownBy W3 none):=hgrow;have X2:Hid (W3.heap[N]? =some (.cells row2 (tyK .task) (0,0))):=hgN3;have X3:Hid (row2.size=G*14):=hs2;have X4:Hid (row2.toList.take ((n+m)*14)=cur.toList.take (i*14)++vs++cs):=hfin;have X5:Hid (cs=(cur.toList.take (n*14)).drop (i*14)):=hcs0;have X6:Hid (vs=curb.toList.take (m*14)):=hvs0;have X7:Hid (N=w.heap.size):=hN;clear hgrow hgN3 hs2 hfin hcs0 hvs0 hN hW1 hW2 hW3 hG hrow hrow1 hrow2 hgN hgN2 hg1 hg2 hgb1 hs1 hrs hold hkk hik hik2 hbytes hdl hvl hg hgb hone hob hmb hcl hsz hi2 hz hsi hzs hb17 hzo hcs hgl hgbl
 go_enter Go.Proofs.Tryz.func222,Go.Proofs.Tryz.ntmps222
 go_wp2_with (first
  |(at_builtin;refine Lib.wpList_append_run _ rfl _ _ _ _ rfl _ _ rfl rfl _ _ (hrz _) ?_)
  |(at_builtin;refine WA _ rfl _ _ 31 31 rfl _ _ rfl rfl (hcpA _ _) ?_))
 go_region_law_o (refine VP rfl _ _ 31 31 rfl (.slice (some ⟨N,(i+m)*14,none⟩) (n+m-(i+m)) (G-(i+m))) (.slice (some ⟨g,i*14,none⟩) (n-i) (cap-i)) (by simp[Act.eval,Act.put]) (by simp[Act.eval,Act.put]) (hcpB _ (G-(i+m)) (cap-i)) ?_)
 go_wp2
 go_ret
 exact⟨G,by rw[←X7.out];rfl,hGn,hGm,X1.out,row2,by rw[←X7.out];exact X2.out,X3.out,by rw[X4.out,X5.out,X6.out]⟩
theorem Yl:InsW Go.Proofs.Tryz.prog 222 (tyK .task) 14 where
 same:=Yo
 fill0:=by
  intro w A gb m cB curb hgb hmb hob hm hlim;obtain⟨inf,z,hi2,hz,hsi,hzs,hb17,hzo⟩:=Hd (q:=.task) DK (by kernel_rfl)
  obtain⟨v',w',hrun,hR,⟨rw',hgr,hrw⟩,hob2,_,hown⟩:=QB (P:=Go.Proofs.Tryz.prog) (w:=w) 31 0 (tyK .task) inf z 14 (by kernel_rfl) hi2 hz hsi hb17 hzs (by decide) (.slice A 0 0) 0 [] False (.inl ⟨A,rfl,rfl,rfl⟩) (some ⟨gb,0,none⟩) m cB (curb.toList.take (m*14))
   (by rw[List.length_take,Array.length_toList];omega)
   (fun j u hu=>⟨gb,0,rfl,by
     rw[List.getElem?_take]at hu;split at hu
     · rw[Array.getElem?_toList]at hu
       simp[World.cell?,hgb,hu]
     ·cases hu⟩) hob (by omega)
  have hrun': ∀ty,(Builtin.append_ #[31,31] ty #[.slice A 0 0,.slice (some ⟨gb,0,none⟩) m cB]).run Go.Proofs.Tryz.prog w=.ok v' w':=fun ty=>hrun
  refine(SL w (.slice A 0 0) v' w' 0 gb m cB ⟨A,0,rfl,Nat.le_refl _,Nat.zero_le _⟩ hm hlim hrun').mono ?_;rintro x w2 ⟨rfl,rfl⟩;have hrow:=hown hm;rw[Nat.zero_add,List.nil_append]at hrow;refine⟨v',rfl,hrow,?_,fun q hq=> ?_⟩
  · rcases hrw with rfl|⟨_,h⟩
    ·exact hgr
    ·exact h.elim
  · rcases hob2 with⟨h,h2⟩|h
    · rcases h2 with h2|h2|h2
      ·omega
      ·exact h2.elim
      ·rw[h,h2]at hq;cases hq
    ·rw[h]at hq;injection hq with hq;omega
 fill:=by
  intro w v n flat gb m cB curb i hrow h1 hgb hmb hob hne hm hi hlim;have hl0:flat.length=n*14:=hrow.1
  by_cases hin:i=n
  · subst hin
    obtain⟨inf,z,hi2,hz,hsi,hzs,hb17,hzo⟩:=Hd (q:=.task) DK (by kernel_rfl)
    obtain⟨v',w',hrun,hR,⟨rw',hgr,hrw⟩,hob2,_,hown⟩:=QB (P:=Go.Proofs.Tryz.prog) (w:=w) 31 0 (tyK .task) inf z 14 (by kernel_rfl) hi2 hz hsi hb17 hzs (by decide) v i flat True (.inr ⟨trivial,hrow⟩) (some ⟨gb,0,none⟩) m cB (curb.toList.take (m*14))
     (by rw[List.length_take,Array.length_toList];omega)
     (fun j u hu=>⟨gb,0,rfl,by
       rw[List.getElem?_take]at hu;split at hu
       · rw[Array.getElem?_toList]at hu
         simp[World.cell?,hgb,hu]
       ·cases hu⟩) hob hlim
    have hrun': ∀ty,(Builtin.append_ #[31,31] ty #[v,.slice (some ⟨gb,0,none⟩) m cB]).run Go.Proofs.Tryz.prog w=.ok v' w':=fun ty=>hrun
    have hv: ∃A cap,v=.slice A i cap∧i≤cap∧cap≤maxLen:=by
     rcases hrow.2 with⟨rfl,rfl⟩|⟨g,cap,cur,rfl,_,_,h1,h2,_⟩
     ·exact⟨none,0,rfl,Nat.le_refl _,Nat.zero_le _⟩
     ·exact⟨_,cap,rfl,h1,h2⟩
    refine(SL w v v' w' i gb m cB hv hm (by omega) hrun').mono ?_
    rintro x w2 ⟨rfl,rfl⟩;have hrow2:=hown hm;refine⟨v',rfl,?_,⟨rw',hgr,?_⟩,fun q hq=> ?_⟩
    · rw[List.take_of_length_le (by omega),List.drop_of_length_le (by omega),List.append_nil]
      exact hrow2
    · rcases hrw with rfl|⟨h,_⟩
      ·exact .inl rfl
      ·exact .inr h
    · rcases hob2 with⟨h,h2⟩|h
      ·rw[h]at hq;exact .inl hq
      ·rw[h]at hq;injection hq with hq;exact .inr (by omega)
  · have hlt:i<n:=by omega
    rcases hrow.2 with⟨rfl,rfl⟩|⟨g,cap,cur,rfl,_,hg,hc1,hc2,hcs,hfl⟩
    ·omega
    have hti:cur.toList.take (i*14)=flat.take (i*14):=by rw[←hfl,List.take_take,Nat.min_eq_left (by omega)]
    have hnn:gb≠g:=fun e=>hne (by rw[e];rfl)
    by_cases hroom:n+m≤cap
    · refine(Yp w g cap cur n i gb m cB curb hg hcs hc2 (by rw[hfl];exact h1) hgb hmb hob hnn hm hlt hroom).mono ?_
      rintro x w2 ⟨rfl,hgr,cur',hg',hs',hf'⟩;rw[hti,hfl]at hf';refine⟨_,rfl,⟨?_,.inr ⟨g,cap,cur',rfl,Nat.zero_le _,hg',hroom,hc2,hs',hf'⟩⟩,⟨_,hgr,.inr rfl⟩,fun q hq=>.inl hq⟩
      rw[←hf',List.length_take,Array.length_toList,hs'];omega
    · refine(Yn w g cap cur n i gb m cB curb hg hcs hc1 (by rw[hfl];exact h1) hgb hmb hob hm hlt (by omega) hlim).mono ?_
      rintro x w2 ⟨G,rfl,hG,hG2,hgr,cur',hg',hs',hf'⟩;rw[hti,hfl]at hf';refine⟨_,rfl,⟨?_,.inr ⟨w.heap.size,G,cur',rfl,Nat.zero_le _,hg',hG,hG2,hs',hf'⟩⟩,⟨_,hgr,.inl rfl⟩,fun q hq=>.inr ?_⟩
      ·rw[←hf',List.length_take,Array.length_toList,hs'];omega
      ·simp[Value.ownBlock]at hq;omega
def FK(a0:List Task)(a1:Int)(a2:List Task):Option (List Task×Unit):=cond (decide (0≤a1)&&decide (a1≤(a0.length:Int))) (cond (decide (a0.length+a2.length≤lim)) (some (a0.take a1.toNat++a2++a0.drop a1.toNat,())) none) none
def gu:Rw:=⟨222,(.pair (.own .task) (.pair (.v (.int)) (.pair (.own .task) .one))),(.pair (.own .task) .one),fun x=>FK x.1 x.2.1 x.2.2.1⟩
theorem gv:RwOk Go.Proofs.Tryz.prog tyK (gu):=by
 refine⟨fun x r h=> ?_,K0 Go.Proofs.Tryz.func222 (by kernel_rfl) (by kernel_rfl)⟩
 obtain⟨h1,h⟩:=AL h;obtain⟨h2,h⟩:=AL h;simp only[Bool.and_eq_true,decide_eq_true_eq]at h1 h2;injection h with h
 subst h;exact Ym rfl Yl h1.1 h1.2 h2
def FJ(a0:List Task)(a1 a2:Int):Option (List Task×Unit):=cond (decide (0≤a1)&&decide (a1≤a2)&&(decide (a2≤(a0.length:Int)))) (some (a0.take a1.toNat++a0.drop a2.toNat,())) none
def gS:Rw:=⟨225,(.pair (.own .task) (.pair (.v (.int)) (.pair (.v (.int)) .one))),(.pair (.own .task) .one),fun x=>FJ x.1 x.2.1 x.2.2.1⟩
theorem gT:RwOk Go.Proofs.Tryz.prog tyK (gS):=by
 refine⟨fun x r h=> ?_,K0 Go.Proofs.Tryz.func225 (by kernel_rfl) (by kernel_rfl)⟩
 obtain⟨h1,h⟩:=AL h;simp only[Bool.and_eq_true,decide_eq_true_eq]at h1;injection h with h
 subst h;exact RE rfl ⟨XC,W9⟩ h1.1.1 h1.1.2 h1.2
def Jp(a0:List Int)(a1 a2:Int):Option (List Int×Unit):=cond (decide (0≤a1)&&decide (a1≤a2)&&(decide (a2≤(a0.length:Int)))) (some (a0.take a1.toNat++a0.drop a2.toNat,())) none
def gU:Rw:=⟨239,(.pair (.own .int) (.pair (.v (.int)) (.pair (.v (.int)) .one))),(.pair (.own .int) .one),fun x=>Jp x.1 x.2.1 x.2.2.1⟩
theorem gV:RwOk Go.Proofs.Tryz.prog tyK (gU):=by
 refine⟨fun x r h=> ?_,K0 Go.Proofs.Tryz.func239 (by kernel_rfl) (by kernel_rfl)⟩
 obtain⟨h1,h⟩:=AL h;simp only[Bool.and_eq_true,decide_eq_true_eq]at h1;injection h with h
 subst h;exact RE rfl ⟨XB,W8⟩ h1.1.1 h1.1.2 h1.2
end Go.Proofs.YtbbgaleennfklaaGreat.VR
end
section
set_option linter.unusedVariables false
set_option maxRecDepth 100000
namespace Go.Proofs.YtbbgaleennfklaaGreat.VR
open Go
def OW(a0:List Task)(a1:Int):Option (Int×Unit):=cond (decide ((w64 (a1-(a0.length:Int)))<0)) (some ((-1),())) (some ((w64 (a1-(a0.length:Int))),()))
def eV:Rw:=⟨28,pV [.ro .task,.int],pS [.int],fun x=>OW x.1.2 x.2.1⟩
theorem eW:RO (eV):=
 rE ⟨Go.Proofs.Tryz.f28,⟨[],[],[]⟩,0⟩ 0 en Go.Proofs.Tryz.func28 (by kernel_rfl) (fun x=>by kernel_rfl)
def Lq(a0:List Int)(a1:Int):Option (Int×Unit):=cond (decide ((w64 (a1-(a0.length:Int)))<0)) (some ((-1),())) (some ((w64 (a1-(a0.length:Int))),()))
def eM:Rw:=⟨31,pV [.ro .int,.int],pS [.int],fun x=>Lq x.1.2 x.2.1⟩
theorem UL:RO (eM):=
 rE ⟨Go.Proofs.Tryz.f31,⟨[],[],[]⟩,0⟩ 0 en Go.Proofs.Tryz.func31 (by kernel_rfl) (fun x=>by kernel_rfl)
def Lr(a0:Lock)(a1:Int):Option (Int×Unit):=(Lq a0.Waits a1).bind fun r1=>cond (decide (r1.1<0)) (some ((-1),())) (some (r1.1,()))
def eN:Rw:=⟨72,pV [EJ,.int],pS [.int],fun x=>Lr (EX x.1) x.2.1⟩
theorem eT:RO (eN):=
 rE ⟨Go.Proofs.Tryz.f72,⟨[(0,[(0,.slot 0 .int)]),(1,[(3,cl 2 .int 0)])],[],[]⟩,1⟩ 0 (ec UL en) Go.Proofs.Tryz.func72 (by kernel_rfl) (fun x=>by kernel_rfl)
def Hx{α:Type}(n:Nat):Nat→List Lock→Int→Int→(Int→Option α)→(Int→Option α)→Option α|0,_,_,_,_,_=>none|m0+1,v1,v2,v3,k0_0,k0_1=>cond (decide (v3<(v1.length:Int))) (cond (decide (0≤v3)&&decide (v3<(v1.length:Int))) ((Lr (List.getD v1 (Int.toNat v3) (Kd.dflt .lock)) v2).bind fun r4=>cond (decide (r4.1<0)) (k0_0 r4.1) (Hx n m0 v1 r4.1 (w64 (v3+1)) k0_0 k0_1)) none) (k0_1 v2)
def Ls(n:Nat)(a0:List Lock)(a1:Int):Option (Int×Unit):=cond (decide ((w64 (a1-(a0.length:Int)))<0)) (some ((-1),())) (Hx n n a0 (w64 (a1-(a0.length:Int))) 0 (fun w5=>some ((-1),())) (fun w6=>some (w6,())))
def eO(n:Nat):Rw:=⟨29,pV [.ro .lock,.int],pS [.int],fun x=>Ls n x.1.2 x.2.1⟩
def lO(n:Nat):LS:=AI ⟨5,[0,1,5],[],[],[1,4],[]⟩ 27 [0,1,5] 0 (pD [.ro .lock,.int,.int]) [] (fun m x k=>Hx n m x.1.1.2 x.1.2.1 x.1.2.2.1 (fun w0=>k .ret (eS 27 [1,4] [.int w0,.int (-1)] 0 [])) (fun w0=>k (.exit 0) (eS 27 [1] [.int w0] 0 [])))
theorem eR(n:Nat):RO (eO n):=
 rL ⟨Go.Proofs.Tryz.f29,⟨[(7,[(5,cl 2 .int 0)])],[],[]⟩,0⟩ [lO n] n (ec eT en) Go.Proofs.Tryz.func29 (by kernel_rfl) ⟨AJ (fun m x k=>by kernel_rfl) (fun _ _=>rfl),trivial⟩ (fun x=>by kernel_rfl)
def OV(a0:List Ghost)(a1:Int):Option (Int×Unit):=cond (decide ((w64 (a1-(a0.length:Int)))<0)) (some ((-1),())) (some ((w64 (a1-(a0.length:Int))),()))
def eK:Rw:=⟨30,pV [.ro .ghost,.int],pS [.int],fun x=>OV x.1.2 x.2.1⟩
theorem eL:RO (eK):=
 rE ⟨Go.Proofs.Tryz.f30,⟨[],[],[]⟩,0⟩ 0 en Go.Proofs.Tryz.func30 (by kernel_rfl) (fun x=>by kernel_rfl)
def OX(a0:List Turn)(a1:Int):Option (Int×Unit):=cond (decide ((w64 (a1-(a0.length:Int)))<0)) (some ((-1),())) (some ((w64 (a1-(a0.length:Int))),()))
def eX:Rw:=⟨32,pV [.ro .turn,.int],pS [.int],fun x=>OX x.1.2 x.2.1⟩
theorem eY:RO (eX):=
 rE ⟨Go.Proofs.Tryz.f32,⟨[],[],[]⟩,0⟩ 0 en Go.Proofs.Tryz.func32 (by kernel_rfl) (fun x=>by kernel_rfl)
def GJ(n:Nat)(a0:Sys)(a1:Int):Option (Int×Unit):=(OW a0.Tasks a1).bind fun r1=>cond (decide (r1.1<0)) (some ((-1),())) ((Ls n a0.Locks r1.1).bind fun r2=>cond (decide (r2.1<0)) (some ((-1),())) ((OV a0.Ghosts r2.1).bind fun r3=>cond (decide (r3.1<0)) (some ((-1),())) ((Lq a0.Floors r3.1).bind fun r4=>cond (decide (r4.1<0)) (some ((-1),())) ((OX a0.Trace r4.1).bind fun r5=>cond (decide (r5.1<0)) (some ((-1),())) (some (r5.1,()))))))
def eU(n:Nat):Rw:=⟨7,pV [Ae,.int],pS [.int],fun x=>GJ n (AX x.1) x.2.1⟩
theorem NG(n:Nat):RO (eU n):=
 rE ⟨Go.Proofs.Tryz.f7,⟨[(0,[(0,.slot 0 .int)]),(1,[(3,cl 2 .int 0)]),(4,[(3,cl 2 .int 0)]),(7,[(3,cl 2 .int 0)]),(10,[(3,cl 2 .int 0)]),(13,[(3,cl 2 .int 0)])],[],[]⟩,1⟩ n (ec eW (ec (eR n) (ec eL (ec UL (ec eY en))))) Go.Proofs.Tryz.func7 (by kernel_rfl) (fun x=>by kernel_rfl)
def OZ(a0:Task):Option (A8×Unit):=some ((AN a0),())
def fL:Rw:=⟨81,pV [Ac],pS [.agg q0],fun x=>OZ (AK x.1)⟩
theorem fN:RO (fL):=
 rE ⟨Go.Proofs.Tryz.f81,⟨[(0,[(0,.slot 0 .int),(1,.slot 1 .int)]),(1,[(0,.slot 2 .int)])],[],[]⟩,3⟩ 0 en Go.Proofs.Tryz.func81 (by kernel_rfl) (fun x=>by kernel_rfl)
def H7{α:Type}(n:Nat):Nat→List Task→List Task→Int→(List Task→Option α)→Option α|0,_,_,_,_=>none|m0+1,v1,v2,v3,k0_0=>cond (decide (v3<(v1.length:Int))) (cond (decide (0≤v3)&&decide (v3<(v1.length:Int))) ((OZ (List.getD v1 (Int.toNat v3) (Kd.dflt .task))).bind fun r4=>cond (decide (0≤v3)&&decide (v3<(v2.length:Int))) (cond (decide ((Int.toNat v3)<(v2).length)) (H7 n m0 v1 (List.set v2 (Int.toNat v3) (AK r4.1)) (w64 (v3+1)) k0_0) none) none) none) (k0_0 v2)
def Jk(n:Nat)(a0:List Task):Option (List Task×Unit):=cond (((decide ((a0.length:Int)=(a0.length:Int)))&&(decide (0≤(a0.length:Int))))&&(decide ((a0.length:Int)≤(lim:Int)))) (H7 n n a0 (List.replicate (Int.toNat (a0.length:Int)) (Kd.dflt .task)) 0 (fun w5=>some (w5,()))) none
def fM(n:Nat):Rw:=⟨36,pV [.ro .task],q2,fun x=>Jk n x.1.2⟩
def lU(n:Nat):LS:=AI ⟨3,[0,3,4],[],[],[3],[0]⟩ 23 [0,3,4] 1 (pD [.ro .task,.bor 0,.int]) [.root .task] (fun m x k=>H7 n m x.1.1.2 x.2.1 x.1.2.2.1 (fun w0=>k (.exit 0) (eS 23 [3] [.bor 0] 1 [.root .task w0 .ok])))
theorem UO(n:Nat):RO (fM n):=
 rL ⟨Go.Proofs.Tryz.f36,⟨[(1,[(2,.slot 0 .task)]),(5,[(6,q1)])],[],[]⟩,1⟩ [lU n] n (ec fN en) Go.Proofs.Tryz.func36 (by kernel_rfl) ⟨AJ (fun m x k=>by kernel_rfl) (fun _ _=>rfl),trivial⟩ (fun x=>by kernel_rfl)
def H5{α:Type}(n:Nat):Nat→List Int→List Int→Int→(List Int→Option α)→Option α|0,_,_,_,_=>none|m0+1,v1,v2,v3,k0_0=>cond (decide (v3<(v1.length:Int))) (cond (decide (0≤v3)&&decide (v3<(v1.length:Int))) (cond (decide (0≤v3)&&decide (v3<(v2.length:Int))) (cond (decide ((Int.toNat v3)<(v2).length)) (let e4:=(List.set v2 (Int.toNat v3) (List.getD v1 (Int.toNat v3) (Kd.dflt .int)));H5 n m0 v1 e4 (w64 (v3+1)) k0_0) none) none) none) (k0_0 v2)
def HU(n:Nat)(a0:List Int):Option (List Int×Unit):=cond (((decide ((a0.length:Int)=(a0.length:Int)))&&(decide (0≤(a0.length:Int))))&&(decide ((a0.length:Int)≤(lim:Int)))) (H5 n n a0 (List.replicate (Int.toNat (a0.length:Int)) (Kd.dflt .int)) 0 (fun w5=>some (w5,()))) none
def fD(n:Nat):Rw:=⟨39,pV [.ro .int],q3,fun x=>HU n x.1.2⟩
def lS(n:Nat):LS:=AI ⟨3,[0,3,4],[],[],[3],[0]⟩ 22 [0,3,4] 1 (pD [.ro .int,.bor 0,.int]) [.root .int] (fun m x k=>H5 n m x.1.1.2 x.2.1 x.1.2.2.1 (fun w0=>k (.exit 0) (eS 22 [3] [.bor 0] 1 [.root .int w0 .ok])))
theorem P1(n:Nat):RO (fD n):=
 rL ⟨Go.Proofs.Tryz.f39,⟨[(1,[(2,.slot 0 .int)])],[],[]⟩,1⟩ [lS n] n en Go.Proofs.Tryz.func39 (by kernel_rfl) ⟨AJ (fun m x k=>by kernel_rfl) (fun _ _=>rfl),trivial⟩ (fun x=>by kernel_rfl)
def Lu(n:Nat)(a0:Lock):Option (Nq×Unit):=(HU n a0.Waits).bind fun r1=>some ((Qb (⟨a0.Owner,r1.1⟩:Lock)),())
def fE(n:Nat):Rw:=⟨82,pV [EJ],pS [.agg q5],fun x=>Lu n (EX x.1)⟩
theorem fG(n:Nat):RO (fE n):=
 rE ⟨Go.Proofs.Tryz.f82,⟨[(0,[(0,.slot 0 .int),(1,.slot 1 .int)]),(1,[(0,.slot 2 .int)]),(3,[(2,(.call [.ro] (.own .int) [] [some 3]))])],[],[]⟩,4⟩ n (ec (P1 n) en) Go.Proofs.Tryz.func82 (by kernel_rfl) (fun x=>by kernel_rfl)
def H6{α:Type}(n:Nat):Nat→List Lock→List Lock→Int→(List Lock→Option α)→Option α|0,_,_,_,_=>none|m0+1,v1,v2,v3,k0_0=>cond (decide (v3<(v1.length:Int))) (cond (decide (0≤v3)&&decide (v3<(v1.length:Int))) ((Lu n (List.getD v1 (Int.toNat v3) (Kd.dflt .lock))).bind fun r4=>cond (decide (0≤v3)&&decide (v3<(v2.length:Int))) (cond (decide ((Int.toNat v3)<(v2).length)) (H6 n m0 v1 (List.set v2 (Int.toNat v3) (RH r4.1)) (w64 (v3+1)) k0_0) none) none) none) (k0_0 v2)
def Ji(n:Nat)(a0:List Lock):Option (List Lock×Unit):=cond (((decide ((a0.length:Int)=(a0.length:Int)))&&(decide (0≤(a0.length:Int))))&&(decide ((a0.length:Int)≤(lim:Int)))) (H6 n n a0 (List.replicate (Int.toNat (a0.length:Int)) (Kd.dflt .lock)) 0 (fun w5=>some (w5,()))) none
def fF(n:Nat):Rw:=⟨37,pV [.ro .lock],q7,fun x=>Ji n x.1.2⟩
def lT(n:Nat):LS:=AI ⟨3,[0,3,4],[],[1],[3],[0,1]⟩ 23 [0,3,4] 23 (pD [.ro .lock,.bor 0,.int]) [.dirt .lock] (fun m x k=>H6 n m x.1.1.2 x.2.1 x.1.2.2.1 (fun w0=>k (.exit 0) (eS 23 [3] [.bor 0] 13 [.root .lock w0 .dirty])))
theorem UN(n:Nat):RO (fF n):=
 rL ⟨Go.Proofs.Tryz.f37,⟨[(1,[(2,.slot 0 .lock)]),(5,[(6,(.call [.ro] (.agg q5) [] [some 1]))])],[],[]⟩,2⟩ [lT n] n (ec (fG n) en) Go.Proofs.Tryz.func37 (by kernel_rfl) ⟨AJ (fun m x k=>by kernel_rfl) (fun _ _=>rfl),trivial⟩ (fun x=>by kernel_rfl)
def RQ(a0:Share):Option (Ns×Unit):=some ((V4 a0),())
def fH:Rw:=⟨152,pV [G8],pS [.agg q8],fun x=>RQ (EL x.1)⟩
theorem fI:RO (fH):=
 rE ⟨Go.Proofs.Tryz.f152,⟨[(0,[(0,.slot 0 .int),(1,.slot 1 .int)]),(1,[(0,.slot 2 .int)])],[],[]⟩,3⟩ 0 en Go.Proofs.Tryz.func152 (by kernel_rfl) (fun x=>by kernel_rfl)
def OY(a0:Ghost):Option (Np×Unit):=(RQ a0.S).bind fun r1=>some ((Qa (⟨a0.Cpu,⟨(EL r1.1).Q,(EL r1.1).P⟩,a0.Until⟩:Ghost)),())
def fA:Rw:=⟨83,pV [G7],(pS [.agg q10]),fun x=>OY (FC x.1)⟩
theorem fC:RO (fA):=
 rE ⟨Go.Proofs.Tryz.f83,⟨[(0,[(0,.slot 0 .int),(1,.slot 1 .int)]),(1,[(0,.slot 2 .int)]),(3,[(2,(cl 1 (.agg q8) 0))])],[],[]⟩,3⟩ 0 (ec fI en) Go.Proofs.Tryz.func83 (by kernel_rfl) (fun x=>by kernel_rfl)
def H4{α:Type}(n:Nat):Nat→List Ghost→List Ghost→Int→(List Ghost→Option α)→Option α|0,_,_,_,_=>none|m0+1,v1,v2,v3,k0_0=>cond (decide (v3<(v1.length:Int))) (cond (decide (0≤v3)&&decide (v3<(v1.length:Int))) ((OY (List.getD v1 (Int.toNat v3) (Kd.dflt .ghost))).bind fun r4=>cond (decide (0≤v3)&&decide (v3<(v2.length:Int))) (cond (decide ((Int.toNat v3)<(v2).length)) (H4 n m0 v1 (List.set v2 (Int.toNat v3) (FC r4.1)) (w64 (v3+1)) k0_0) none) none) none) (k0_0 v2)
def Jh(n:Nat)(a0:List Ghost):Option (List Ghost×Unit):=cond (((decide ((a0.length:Int)=(a0.length:Int)))&&(decide (0≤(a0.length:Int))))&&(decide ((a0.length:Int)≤(lim:Int)))) (H4 n n a0 (List.replicate (Int.toNat (a0.length:Int)) (Kd.dflt .ghost)) 0 (fun w5=>some (w5,()))) none
def fB(n:Nat):Rw:=⟨38,pV [.ro .ghost],q13,fun x=>Jh n x.1.2⟩
def lR(n:Nat):LS:=AI ⟨3,[0,3,4],[],[],[3],[0]⟩ 23 [0,3,4] 1 (pD [.ro .ghost,.bor 0,.int]) [.root .ghost] (fun m x k=>H4 n m x.1.1.2 x.2.1 x.1.2.2.1 (fun w0=>k (.exit 0) (eS 23 [3] [.bor 0] 1 [.root .ghost w0 .ok])))
theorem UM(n:Nat):RO (fB n):=
 rL ⟨Go.Proofs.Tryz.f38,⟨[(1,[(2,.slot 0 .ghost)]),(5,[(6,(cl 1 (.agg q10) 0))])],[],[]⟩,1⟩ [lR n] n (ec fC en) Go.Proofs.Tryz.func38 (by kernel_rfl) ⟨AJ (fun m x k=>by kernel_rfl) (fun _ _=>rfl),trivial⟩ (fun x=>by kernel_rfl)
def Oa(a0:Turn):Option (Nu×Unit):=some ((Qc a0),())
def fO:Rw:=⟨84,pV [Nn],(pS [.agg q14]),fun x=>Oa (I8 x.1)⟩
theorem fQ:RO (fO):=
 rE ⟨Go.Proofs.Tryz.f84,⟨[(0,[(0,.slot 0 .int),(1,.slot 1 .int)]),(1,[(0,.slot 2 .int)])],[],[]⟩,3⟩ 0 en Go.Proofs.Tryz.func84 (by kernel_rfl) (fun x=>by kernel_rfl)
def H8{α:Type}(n:Nat):Nat→List Turn→List Turn→Int→(List Turn→Option α)→Option α|0,_,_,_,_=>none|m0+1,v1,v2,v3,k0_0=>cond (decide (v3<(v1.length:Int))) (cond (decide (0≤v3)&&decide (v3<(v1.length:Int))) ((Oa (List.getD v1 (Int.toNat v3) (Kd.dflt .turn))).bind fun r4=>cond (decide (0≤v3)&&decide (v3<(v2.length:Int))) (cond (decide ((Int.toNat v3)<(v2).length)) (H8 n m0 v1 (List.set v2 (Int.toNat v3) (I8 r4.1)) (w64 (v3+1)) k0_0) none) none) none) (k0_0 v2)
def Jl(n:Nat)(a0:List Turn):Option (List Turn×Unit):=cond (((decide ((a0.length:Int)=(a0.length:Int)))&&(decide (0≤(a0.length:Int))))&&(decide ((a0.length:Int)≤(lim:Int)))) (H8 n n a0 (List.replicate (Int.toNat (a0.length:Int)) (Kd.dflt .turn)) 0 (fun w5=>some (w5,()))) none
def fP(n:Nat):Rw:=⟨40,pV [.ro .turn],q17,fun x=>Jl n x.1.2⟩
def lV(n:Nat):LS:=AI ⟨3,[0,3,4],[],[],[3],[0]⟩ 23 [0,3,4] 1 (pD [.ro .turn,.bor 0,.int]) [.root .turn] (fun m x k=>H8 n m x.1.1.2 x.2.1 x.1.2.2.1 (fun w0=>k (.exit 0) (eS 23 [3] [.bor 0] 1 [.root .turn w0 .ok])))
theorem UP(n:Nat):RO (fP n):=
 rL ⟨Go.Proofs.Tryz.f40,⟨[(1,[(2,.slot 0 .turn)]),(5,[(6,(cl 1 (.agg q14) 0))])],[],[]⟩,1⟩ [lV n] n (ec fQ en) Go.Proofs.Tryz.func40 (by kernel_rfl) ⟨AJ (fun m x k=>by kernel_rfl) (fun _ _=>rfl),trivial⟩ (fun x=>by kernel_rfl)
def CS(n:Nat)(a0:Sys):Option (Ah×Unit):=(Jk n a0.Tasks).bind fun r1=>(Ji n a0.Locks).bind fun r2=>(Jh n a0.Ghosts).bind fun r3=>(HU n a0.Floors).bind fun r4=>(Jl n a0.Trace).bind fun r5=>some ((AA (⟨a0.Now,a0.Cpus,r1.1,r2.1,r3.1,r4.1,a0.Seq,a0.Missed,r5.1⟩:Sys)),())
def fJ(n:Nat):Rw:=⟨9,pV [Ae],q24,fun x=>CS n (AX x.1)⟩
theorem NH(n:Nat):RO (fJ n):=
 rE ⟨Go.Proofs.Tryz.f9,⟨[(0,[(0,.slot 0 .int),(1,.slot 1 .int)]),(1,[(0,.slot 2 .int)]),(4,[(2,q18)]),(5,[(2,q19)]),(6,[(2,q20)]),(7,[(2,q21)]),(10,[(2,q22)])],[],[]⟩,3⟩ n (ec (UO n) (ec (UN n) (ec (UM n) (ec (P1 n) (ec (UP n) en))))) Go.Proofs.Tryz.func9 (by kernel_rfl) (fun x=>by kernel_rfl)
def Ag(a0:Int)(a1:Int)(a2:Int):Option (Bool×Unit):=cond (decide (a1≤a0)) (some ((decide (a0≤a2)),())) (some (false,()))
def jY:Rw:=⟨73,pV [.int,.int,.int],pS [.bool],fun x=>Ag x.1 x.2.1 x.2.2.1⟩
theorem Bi:RO (jY):=
 rE ⟨Go.Proofs.Tryz.f73,⟨[],[],[]⟩,0⟩ 0 en Go.Proofs.Tryz.func73 (by kernel_rfl) (fun x=>by kernel_rfl)
def Me(a0:Task):Option (Bool×Unit):=cond (decide (a0.Q=0)) (cond (decide (a0.P=0)) (cond (decide (a0.Prio=0)) (cond (decide (a0.Round=0)) (cond (decide (a0.Nice=0)) (cond (decide (a0.Class=1)) (cond (decide (a0.Seq=0)) (some ((decide (a0.V=0)),())) (some (false,()))) (cond (decide (a0.Class=2)) (cond (decide (a0.Due=0)) (some ((decide (a0.V=0)),())) (some (false,()))) (cond (decide (a0.Due=0)) (cond (decide (a0.Seq=0)) (some ((decide (a0.Left=0)),())) (some (false,()))) (some (false,()))))) (cond (decide (a0.Class=1)) (cond (decide (a0.Seq=0)) (some (false,())) (some (false,()))) (cond (decide (a0.Class=2)) (cond (decide (a0.Due=0)) (some (false,())) (some (false,()))) (cond (decide (a0.Due=0)) (cond (decide (a0.Seq=0)) (some ((decide (a0.Left=0)),())) (some (false,()))) (some (false,())))))) (cond (decide (a0.Nice=0)) (cond (decide (a0.Class=1)) (some (false,())) (cond (decide (a0.Class=2)) (cond (decide (a0.Due=0)) (some ((decide (a0.V=0)),())) (some (false,()))) (cond (decide (a0.Due=0)) (some (false,())) (some (false,()))))) (cond (decide (a0.Class=1)) (some (false,())) (cond (decide (a0.Class=2)) (cond (decide (a0.Due=0)) (some (false,())) (some (false,()))) (cond (decide (a0.Due=0)) (some (false,())) (some (false,()))))))) (cond (decide (a0.Nice=0)) (cond (decide (a0.Class=1)) (some (false,())) (cond (decide (a0.Class=2)) (cond (decide (a0.Due=0)) (some ((decide (a0.V=0)),())) (some (false,()))) (cond (decide (a0.Due=0)) (some (false,())) (some (false,()))))) (cond (decide (a0.Class=1)) (some (false,())) (cond (decide (a0.Class=2)) (cond (decide (a0.Due=0)) (some (false,())) (some (false,()))) (cond (decide (a0.Due=0)) (some (false,())) (some (false,()))))))) (cond (decide (a0.Prio=0)) (cond (decide (a0.Round=0)) (cond (decide (a0.Nice=0)) (cond (decide (a0.Class=1)) (cond (decide (a0.Seq=0)) (some ((decide (a0.V=0)),())) (some (false,()))) (cond (decide (a0.Class=2)) (some (false,())) (some (false,())))) (cond (decide (a0.Class=1)) (cond (decide (a0.Seq=0)) (some (false,())) (some (false,()))) (cond (decide (a0.Class=2)) (some (false,())) (some (false,()))))) (cond (decide (a0.Nice=0)) (cond (decide (a0.Class=1)) (some (false,())) (cond (decide (a0.Class=2)) (some (false,())) (some (false,())))) (cond (decide (a0.Class=1)) (some (false,())) (cond (decide (a0.Class=2)) (some (false,())) (some (false,())))))) (cond (decide (a0.Nice=0)) (cond (decide (a0.Class=1)) (some (false,())) (cond (decide (a0.Class=2)) (some (false,())) (some (false,())))) (cond (decide (a0.Class=1)) (some (false,())) (cond (decide (a0.Class=2)) (some (false,())) (some (false,()))))))) (cond (decide (a0.Prio=0)) (cond (decide (a0.Round=0)) (cond (decide (a0.Nice=0)) (cond (decide (a0.Class=1)) (cond (decide (a0.Seq=0)) (some ((decide (a0.V=0)),())) (some (false,()))) (cond (decide (a0.Class=2)) (some (false,())) (some (false,())))) (cond (decide (a0.Class=1)) (cond (decide (a0.Seq=0)) (some (false,())) (some (false,()))) (cond (decide (a0.Class=2)) (some (false,())) (some (false,()))))) (cond (decide (a0.Nice=0)) (cond (decide (a0.Class=1)) (some (false,())) (cond (decide (a0.Class=2)) (some (false,())) (some (false,())))) (cond (decide (a0.Class=1)) (some (false,())) (cond (decide (a0.Class=2)) (some (false,())) (some (false,())))))) (cond (decide (a0.Nice=0)) (cond (decide (a0.Class=1)) (some (false,())) (cond (decide (a0.Class=2)) (some (false,())) (some (false,())))) (cond (decide (a0.Class=1)) (some (false,())) (cond (decide (a0.Class=2)) (some (false,())) (some (false,()))))))
def jb:Rw:=⟨199,pV [Ac],pS [.bool],fun x=>Me (AK x.1)⟩
theorem jd:RO (jb):=
 rE ⟨Go.Proofs.Tryz.f199,⟨[(0,[(0,.slot 0 .int)])],[],[]⟩,1⟩ 0 en Go.Proofs.Tryz.func199 (by kernel_rfl) (fun x=>by kernel_rfl)
def GS(a0:Share):Option (Bool×Unit):=(Ag a0.P 1 40).bind fun r1=>cond r1.1 ((Ag a0.Q 1 a0.P).bind fun r2=>some (r2.1,())) (some (false,()))
def ik:Rw:=⟨150,pV [G8],pS [.bool],fun x=>GS (EL x.1)⟩
theorem NN:RO (ik):=
 rE ⟨Go.Proofs.Tryz.f150,⟨[(0,[(0,.slot 0 .int)]),(1,[(2,cl 3 .bool 0),(8,cl 3 .bool 0)])],[],[]⟩,1⟩ 0 (ec Bi en) Go.Proofs.Tryz.func150 (by kernel_rfl) (fun x=>by kernel_rfl)
def GV(a0:Int)(a1:Int):Option (Int×Unit):=cond (decide (a0<a1)) (some (a0,())) (some (a1,()))
def ja:Rw:=⟨49,pV [.int,.int],pS [.int],fun x=>GV x.1 x.2.1⟩
theorem P5:RO (ja):=
 rE ⟨Go.Proofs.Tryz.f49,⟨[],[],[]⟩,0⟩ 0 en Go.Proofs.Tryz.func49 (by kernel_rfl) (fun x=>by kernel_rfl)
def GR(a0:Int):Option (Bool×Unit):=(Ag a0 (-4) 4).bind fun r1=>some (r1.1,())
def ie:Rw:=⟨143,pV [.int],pS [.bool],fun x=>GR x.1⟩
theorem NM:RO (ie):=
 rE ⟨Go.Proofs.Tryz.f143,⟨[(1,[(1,cl 3 .bool 0)])],[],[]⟩,0⟩ 0 (ec Bi en) Go.Proofs.Tryz.func143 (by kernel_rfl) (fun x=>by kernel_rfl)
def Dp(a0:Task):Option (Bool×Unit):=(Ag a0.No 1 1000).bind fun r1=>cond (!r1.1) (some (false,())) ((Ag a0.Class 1 3).bind fun r2=>cond (!r2.1) (some (false,())) ((Ag a0.Cpu 0 3).bind fun r3=>cond (!r3.1) (some (false,())) ((Ag a0.State 1 2).bind fun r4=>cond (!r4.1) (some (false,())) ((Me a0).bind fun r5=>cond (!r5.1) (some (false,())) (cond (decide (a0.Class=1)) ((GS (⟨a0.Q,a0.P⟩:Share)).bind fun r6=>cond r6.1 ((Ag a0.Left 0 a0.Q).bind fun r7=>cond r7.1 ((Ag a0.Due 0 100040).bind fun r8=>some (r8.1,())) (some (false,()))) (some (false,()))) (cond (decide (a0.Class=2)) ((Ag a0.Prio 1 20).bind fun r9=>cond r9.1 ((Ag a0.Round 0 10).bind fun r10=>cond r10.1 ((GV a0.Round 1).bind fun r11=>(Ag a0.Left r11.1 a0.Round).bind fun r12=>cond r12.1 ((Ag a0.Seq 0 1000000).bind fun r13=>some (r13.1,())) (some (false,()))) (some (false,()))) (some (false,()))) ((GR a0.Nice).bind fun r14=>cond r14.1 ((Ag a0.V 0 100000000).bind fun r15=>some (r15.1,())) (some (false,())))))))))
def i8:Rw:=⟨148,pV [Ac],pS [.bool],fun x=>Dp (AK x.1)⟩
theorem Il:RO (i8):=
 rE ⟨Go.Proofs.Tryz.f148,⟨[(0,[(0,.slot 0 .int)]),(1,[(2,cl 3 .bool 0),(7,cl 3 .bool 0),(13,cl 3 .bool 0),(19,cl 3 .bool 0),(24,cl 1 .bool 0)]),(5,[(5,cl 1 .bool 0),(11,cl 3 .bool 0),(16,cl 3 .bool 0)]),(7,[(2,cl 3 .bool 0),(6,cl 3 .bool 0),(13,cl 2 .int 0),(16,cl 3 .bool 0),(21,cl 3 .bool 0)]),(8,[(2,cl 1 .bool 0),(6,cl 3 .bool 0)])],[(7,dr 24 [(0,[0],[]),(1,[0],[]),(4,[0],[]),(5,[0],[]),(9,[0],[]),(10,[0],[]),(11,[0],[]),(12,[0],[]),(14,[0],[]),(15,[0],[]),(19,[0],[]),(20,[0],[])])],[]⟩,1⟩ 0 (ec Bi (ec jd (ec NN (ec P5 (ec NM en))))) Go.Proofs.Tryz.func148 (by kernel_rfl) (fun x=>by kernel_rfl)
def DB{α:Type}(n:Nat):Nat→List Task→Int→(Option α)→(Option α)→Option α|0,_,_,_,_=>none|m0+1,v1,v2,k0_0,k0_1=>cond (decide (v2<(v1.length:Int))) (cond (decide (0≤v2)&&decide (v2<(v1.length:Int))) ((Dp (List.getD v1 (Int.toNat v2) (Kd.dflt .task))).bind fun r3=>cond (!r3.1) k0_0 (cond (decide (0<v2)) (cond ((decide (0≤(w64 (v2-1))))&&(decide ((w64 (v2-1))<(v1.length:Int)))) (cond (decide (0≤v2)&&decide (v2<(v1.length:Int))) (let e4:=(decide ((List.getD v1 (Int.toNat v2) (Kd.dflt .task)).No≤(List.getD v1 (Int.toNat (w64 (v2-1))) (Kd.dflt .task)).No));cond e4 k0_0 (DB n m0 v1 (w64 (v2+1)) k0_0 k0_1)) none) none) (DB n m0 v1 (w64 (v2+1)) k0_0 k0_1))) none) k0_1
def Dq(n:Nat)(a0:List Task):Option (Bool×Unit):=DB n n a0 0 (some (false,())) (some ((decide ((a0.length:Int)≤12)),()))
def jB(n:Nat):Rw:=⟨74,pV [.ro .task],pS [.bool],fun x=>Dq n x.1.2⟩
def mF(n:Nat):LS:=AI ⟨2,[0,3],[],[],[0,2],[]⟩ 37 [0,3] 0 (pD [.ro .task,.int]) [] (fun m x k=>DB n m x.1.1.2 x.1.2.1 (k .ret (eS 37 [0,2] [.ro x.1.1.1 .task x.1.1.2,.bool false] 0 [])) (k (.exit 0) (eS 37 [0] [.ro x.1.1.1 .task x.1.1.2] 0 [])))
theorem P3(n:Nat):RO (jB n):=
 rL ⟨Go.Proofs.Tryz.f74,⟨[(4,[(4,cl 1 .bool 0)])],[(4,dr 24 [])],[]⟩,0⟩ [mF n] n (ec Il en) Go.Proofs.Tryz.func74 (by kernel_rfl) ⟨AJ (fun m x k=>by kernel_rfl) (fun _ _=>rfl),trivial⟩ (fun x=>by kernel_rfl)
def Ej{α:Type}(n:Nat):Nat→List Int→Int→Int→(Option α)→(Option α)→Option α|0,_,_,_,_,_=>none|m0+1,v1,v2,v3,k0_0,k0_1=>cond (decide (v3<(v1.length:Int))) (cond (decide (0≤v3)&&decide (v3<(v1.length:Int))) (cond (decide ((List.getD v1 (Int.toNat v3) (Kd.dflt .int))=v2)) k0_0 (Ej n m0 v1 v2 (w64 (v3+1)) k0_0 k0_1)) none) k0_1
def FM(n:Nat)(a0:List Int)(a1:Int):Option (Bool×Unit):=Ej n n a0 a1 0 (some (true,())) (some (false,()))
def jp(n:Nat):Rw:=⟨185,pV [.ro .int,.int],pS [.bool],fun x=>FM n x.1.2 x.2.1⟩
def mP(n:Nat):LS:=AI ⟨2,[0,1,5],[],[],[4],[]⟩ 18 [0,1,5] 0 (pD [.ro .int,.int,.int]) [] (fun m x k=>Ej n m x.1.1.2 x.1.2.1 x.1.2.2.1 (k .ret (eS 18 [4] [.bool true] 0 [])) (k (.exit 0) (eS 18 [] [] 0 [])))
theorem NQ(n:Nat):RO (jp n):=
 rL ⟨Go.Proofs.Tryz.f185,⟨[],[],[]⟩,0⟩ [mP n] n en Go.Proofs.Tryz.func185 (by kernel_rfl) ⟨AJ (fun m x k=>by kernel_rfl) (fun _ _=>rfl),trivial⟩ (fun x=>by kernel_rfl)
def IQ{α:Type}(n:Nat):Nat→List Lock→Int→Int→(Int→Option α)→(Option α)→Option α|0,_,_,_,_,_=>none|m0+1,v1,v2,v3,k0_0,k0_1=>cond (decide (v3<(v1.length:Int))) (cond (decide (0≤v3)&&decide (v3<(v1.length:Int))) ((FM n ((List.getD v1 (Int.toNat v3) (Kd.dflt .lock)).Waits) v2).bind fun r4=>cond r4.1 (k0_0 v3) (IQ n m0 v1 v2 (w64 (v3+1)) k0_0 k0_1)) none) k0_1
def DW(n:Nat)(a0:List Lock)(a1:Int):Option (Int×Unit):=IQ n n a0 a1 0 (fun w5=>some (w5,())) (some ((-1),()))
def jC(n:Nat):Rw:=⟨139,pV [.ro .lock,.int],pS [.int],fun x=>DW n x.1.2 x.2.1⟩
def mG(n:Nat):LS:=AI ⟨2,[0,1,5],[],[],[4],[]⟩ 20 [0,1,5] 0 (pD [.ro .lock,.int,.int]) [] (fun m x k=>IQ n m x.1.1.2 x.1.2.1 x.1.2.2.1 (fun w0=>k .ret (eS 20 [4] [.int w0] 0 [])) (k (.exit 0) (eS 20 [] [] 0 [])))
theorem Fy(n:Nat):RO (jC n):=
 rL ⟨Go.Proofs.Tryz.f139,⟨[(4,[(6,cl 2 .bool 0)])],[],[]⟩,0⟩ [mG n] n (ec (NQ n) en) Go.Proofs.Tryz.func139 (by kernel_rfl) ⟨AJ (fun m x k=>by kernel_rfl) (fun _ _=>rfl),trivial⟩ (fun x=>by kernel_rfl)
def Dc{α:Type}(n:Nat):Nat→List Lock→Int→List Int→Int→(List Int→Option α)→(List Int→Option α)→Option α|0,_,_,_,_,_,_=>none|m0+1,v1,v2,v3,v4,k0_0,k0_1=>cond (decide (v4≤(v1.length:Int))) ((DW n v1 v2).bind fun r5=>cond (decide (r5.1<0)) (k0_0 v3) (cond (decide (0≤r5.1)&&decide (r5.1<(v1.length:Int))) (let e6:=([(List.getD v1 (Int.toNat r5.1) (Kd.dflt .lock)).Owner]:List Int);cond (decide ((v3).length+(e6).length≤lim)) (Dc n m0 v1 ((List.getD v1 (Int.toNat r5.1) (Kd.dflt .lock)).Owner) (v3++e6) (w64 (v4+1)) k0_0 k0_1) none) none)) (k0_1 v3)
def GX(n:Nat)(a0:List Lock)(a1:Int):Option ((List Int×Bool×Unit)×Unit):=Dc n n a0 a1 ([a1]:List Int) 0 (fun w7=>some ((w7,true,()),())) (fun w8=>some ((w8,false,()),()))
def jj(n:Nat):Rw:=⟨169,pV [.ro .lock,.int],q26,fun x=>GX n x.1.2 x.2.1⟩
def mL(n:Nat):LS:=AI ⟨3,[0,1,6,7],[(.t 6,1,.int)],[2,3],[4,5,6],[1,2,3]⟩ 33 [0,1,6,7] 4133 (pD [.ro .lock,.int,.bor 1,.int]) [.root .int] (fun m x k=>Dc n m x.1.1.2 x.1.2.1 x.2.1 x.1.2.2.2.1 (fun w0=>k .ret (eS 33 [4,5,6] [.bor 1,.bool true,.bor 1] 4133 [.root .int w0 .ok])) (fun w0=>k (.exit 0) (eS 33 [6] [.bor 1] 4133 [.root .int w0 .ok])))
theorem Ud(n:Nat):RO (jj n):=
 rL ⟨Go.Proofs.Tryz.f169,⟨[(1,[(1,.slot 0 .int)]),(5,[(2,cl 2 .int 0)]),(9,[(2,.slot 2 .int),(3,.slot 3 .int)])],[],[]⟩,4⟩ [mL n] n (ec (Fy n) en) Go.Proofs.Tryz.func169 (by kernel_rfl) ⟨AJ (fun m x k=>by kernel_rfl) (fun _ _=>rfl),trivial⟩ (fun x=>by kernel_rfl)
def Fo{α:Type}(n:Nat):Nat→List Lock→Int→Int→Int→Int→(Int→Option α)→Option α|0,_,_,_,_,_,_=>none|m1+1,v5,v6,v7,v8,v9,k1_0=>cond (decide (0≤v8)&&decide (v8<(v5.length:Int))) (let e10:=(((List.getD v5 (Int.toNat v8) (Kd.dflt .lock)).Waits).length:Int);cond (decide (v9<e10)) (cond (decide (0≤v8)&&decide (v8<(v5.length:Int))) (cond ((decide (0≤v9))&&(decide (v9<(((List.getD v5 (Int.toNat v8) (Kd.dflt .lock)).Waits).length:Int)))) (let e11:=(List.getD (List.getD v5 (Int.toNat v8) (Kd.dflt .lock)).Waits (Int.toNat v9) (Kd.dflt .int));cond (decide (e11=v6)) (Fo n m1 v5 v6 (w64 (v7+1)) v8 (w64 (v9+1)) k1_0) (Fo n m1 v5 v6 v7 v8 (w64 (v9+1)) k1_0)) none) none) (k1_0 v7)) none
def IU{α:Type}(n:Nat):Nat→List Lock→Int→Int→Int→(Int→Option α)→Option α|0,_,_,_,_,_=>none|m0+1,v1,v2,v3,v4,k0_0=>cond (decide (v4<(v1.length:Int))) (Fo n n v1 v2 v3 v4 0 (fun w12=>IU n m0 v1 v2 w12 (w64 (v4+1)) k0_0)) (k0_0 v3)
def Mg(n:Nat)(a0:List Lock)(a1:Int):Option (Int×Unit):=IU n n a0 a1 0 0 (fun w13=>some (w13,()))
def js(n:Nat):Rw:=⟨200,pV [.ro .lock,.int],pS [.int],fun x=>Mg n x.1.2 x.2.1⟩
def mR(n:Nat):LS:=AI ⟨3,[0,1,5,6],[],[],[5],[]⟩ 37 [0,1,5,6] 0 (pD [.ro .lock,.int,.int,.int]) [] (fun m x k=>IU n m x.1.1.2 x.1.2.1 x.1.2.2.1 x.1.2.2.2.1 (fun w0=>k (.exit 0) (eS 37 [5] [.int w0] 0 [])))
def mS(n:Nat):LS:=AI ⟨6,([0,1,5,6,7]),[],[],[0,1,5,6],[]⟩ 37 [0,1,5,6,7] 0 (pD [.ro .lock,.int,.int,.int,.int]) [] (fun m x k=>Fo n m x.1.1.2 x.1.2.1 x.1.2.2.1 x.1.2.2.2.1 x.1.2.2.2.2.1 (fun w0=>k (.exit 2) (eS 37 [0,1,5,6] [.ro x.1.1.1 .lock x.1.1.2,.int x.1.2.1,.int w0,.int x.1.2.2.2.1] 0 [])))
theorem jt(n:Nat):RO (js n):=
 rL ⟨Go.Proofs.Tryz.f200,⟨[],[],[]⟩,0⟩ [mR n,mS n] n en Go.Proofs.Tryz.func200 (by kernel_rfl) ⟨AJ (fun m x k=>by kernel_rfl) (fun _ _=>rfl),AJ (fun m x k=>by kernel_rfl) (fun _ _=>rfl),trivial⟩ (fun x=>by kernel_rfl)
def DZ{α:Type}(n:Nat):Nat→List Lock→Int→Int→(Option α)→(Option α)→Option α|0,_,_,_,_,_=>none|m1+1,v6,v7,v8,k1_0,k1_1=>cond (decide (0≤v7)&&decide (v7<(v6.length:Int))) (let e9:=(((List.getD v6 (Int.toNat v7) (Kd.dflt .lock)).Waits).length:Int);cond (decide (v8<e9)) (cond (decide (0≤v7)&&decide (v7<(v6.length:Int))) (cond ((decide (0≤v8))&&(decide (v8<(((List.getD v6 (Int.toNat v7) (Kd.dflt .lock)).Waits).length:Int)))) (let e10:=(List.getD (List.getD v6 (Int.toNat v7) (Kd.dflt .lock)).Waits (Int.toNat v8) (Kd.dflt .int));(GX n v6 e10).bind fun r11=>(Ag e10 1 1000).bind fun r12=>cond (!r12.1) k1_0 ((Mg n v6 e10).bind fun r13=>cond (!(decide (r13.1=1))) k1_0 (cond (!r11.1.2.1) k1_0 (DZ n m1 v6 v7 (w64 (v8+1)) k1_0 k1_1)))) none) none) k1_1) none
def D5{α:Type}(n:Nat):Nat→List Lock→Int→(Option α)→(Option α)→Option α|0,_,_,_,_=>none|m0+1,v1,v2,k0_0,k0_1=>cond (decide (v2<(v1.length:Int))) (cond (decide (0≤v2)&&decide (v2<(v1.length:Int))) ((Ag ((List.getD v1 (Int.toNat v2) (Kd.dflt .lock)).Owner) 0 1000).bind fun r3=>cond (!r3.1) k0_0 (cond (decide (0≤v2)&&decide (v2<(v1.length:Int))) (let e4:=(decide ((List.getD v1 (Int.toNat v2) (Kd.dflt .lock)).Owner=0));cond e4 (cond (decide (0≤v2)&&decide (v2<(v1.length:Int))) (let e5:=(((List.getD v1 (Int.toNat v2) (Kd.dflt .lock)).Waits).length:Int);cond (decide (0<e5)) k0_0 (DZ n n v1 v2 0 k0_0 (D5 n m0 v1 (w64 (v2+1)) k0_0 k0_1))) none) (DZ n n v1 v2 0 k0_0 (D5 n m0 v1 (w64 (v2+1)) k0_0 k0_1))) none)) none) k0_1
def GQ(n:Nat)(a0:List Lock):Option (Bool×Unit):=cond (decide (5<(a0.length:Int))) (some (false,())) (D5 n n a0 0 (some (false,())) (some (true,())))
def iW(n:Nat):Rw:=⟨149,pV [.ro .lock],pS [.bool],fun x=>GQ n x.1.2⟩
def lr(n:Nat):LS:=AI ⟨4,[0,3],[],[],[2],[]⟩ 78 [0,3] 0 (pD [.ro .lock,.int]) [] (fun m x k=>D5 n m x.1.1.2 x.1.2.1 (k .ret (eS 78 [2] [.bool false] 0 [])) (k (.exit 0) (eS 78 [] [] 0 [])))
def lu(n:Nat):LS:=AI ⟨9,[0,3,4],[],[],[0,2,3],[]⟩ 78 [0,3,4] 0 (pD [.ro .lock,.int,.int]) [] (fun m x k=>DZ n m x.1.1.2 x.1.2.1 x.1.2.2.1 (k .ret (eS 78 [0,2,3] [.ro x.1.1.1 .lock x.1.1.2,.bool false,.int x.1.2.1] 0 [])) (k (.exit 2) (eS 78 [0,3] [.ro x.1.1.1 .lock x.1.1.2,.int x.1.2.1] 0 [])))
theorem NL(n:Nat):RO (iW n):=
 rL ⟨Go.Proofs.Tryz.f149,⟨[(6,[(5,cl 3 .bool 0)]),(12,[(2,q28)]),(13,[(1,cl 3 .bool 0),(6,cl 2 .int 0)])],[],[]⟩,0⟩ [lr n,lu n] n (ec Bi (ec (Ud n) (ec (jt n) en))) Go.Proofs.Tryz.func149 (by kernel_rfl) ⟨AJ (fun m x k=>by kernel_rfl) (fun _ _=>rfl),AJ (fun m x k=>by kernel_rfl) (fun _ _=>rfl),trivial⟩ (fun x=>by kernel_rfl)
end Go.Proofs.YtbbgaleennfklaaGreat.VR
end
section
set_option linter.unusedVariables false
set_option maxRecDepth 100000
namespace Go.Proofs.YtbbgaleennfklaaGreat.VR
open Go
def IP{α:Type}(n:Nat):Nat→List Task→Int→Int→(Int→Option α)→(Option α)→Option α|0,_,_,_,_,_=>none|m0+1,v1,v2,v3,k0_0,k0_1=>cond (decide (v3<(v1.length:Int))) (cond (decide (0≤v3)&&decide (v3<(v1.length:Int))) (let e4:=(decide ((List.getD v1 (Int.toNat v3) (Kd.dflt .task)).No=v2));cond e4 (k0_0 v3) (IP n m0 v1 v2 (w64 (v3+1)) k0_0 k0_1)) none) k0_1
def CF(n:Nat)(a0:List Task)(a1:Int):Option (Int×Unit):=IP n n a0 a1 0 (fun w5=>some (w5,())) (some ((-1),()))
def i7(n:Nat):Rw:=⟨138,pV [.ro .task,.int],pS [.int],fun x=>CF n x.1.2 x.2.1⟩
def mD(n:Nat):LS:=AI ⟨2,[0,1,5],[],[],[4],[]⟩ 20 [0,1,5] 0 (pD [.ro .task,.int,.int]) [] (fun m x k=>IP n m x.1.1.2 x.1.2.1 x.1.2.2.1 (fun w0=>k .ret (eS 20 [4] [.int w0] 0 [])) (k (.exit 0) (eS 20 [] [] 0 [])))
theorem Gu(n:Nat):RO (i7 n):=
 rL ⟨Go.Proofs.Tryz.f138,⟨[],[],[]⟩,0⟩ [mD n] n en Go.Proofs.Tryz.func138 (by kernel_rfl) ⟨AJ (fun m x k=>by kernel_rfl) (fun _ _=>rfl),trivial⟩ (fun x=>by kernel_rfl)
def IX{α:Type}(n:Nat):Nat→Sys→Int→Lock→Int→Int→(Option α)→(Option α)→Option α|0,_,_,_,_,_,_,_=>none|m1+1,v6,v7,v8,v9,v10,k1_0,k1_1=>cond (decide (v10<(v8.Waits.length:Int))) (cond (decide (0≤v10)&&decide (v10<(v8.Waits.length:Int))) ((CF n v6.Tasks (List.getD v8.Waits (Int.toNat v10) (Kd.dflt .int))).bind fun r11=>cond (decide (r11.1<0)) k1_0 (cond (decide (0≤r11.1)&&decide (r11.1<(v6.Tasks.length:Int))) (cond (decide (0≤v9)&&decide (v9<(v6.Tasks.length:Int))) (let e12:=(!(decide ((List.getD v6.Tasks (Int.toNat r11.1) (Kd.dflt .task)).Cpu=(List.getD v6.Tasks (Int.toNat v9) (Kd.dflt .task)).Cpu)));cond e12 k1_0 (IX n m1 v6 v7 v8 v9 (w64 (v10+1)) k1_0 k1_1)) none) none)) none) k1_1
def Ek{α:Type}(n:Nat):Nat→Sys→Int→(Option α)→(Option α)→Option α|0,_,_,_,_=>none|m0+1,v2,v3,k0_0,k0_1=>cond (decide (v3<(v2.Locks.length:Int))) (cond (decide (0≤v3)&&decide (v3<(v2.Locks.length:Int))) (let e4:=(decide ((List.getD v2.Locks (Int.toNat v3) (Kd.dflt .lock)).Owner=0));cond e4 (Ek n m0 v2 (w64 (v3+1)) k0_0 k0_1) ((CF n v2.Tasks ((List.getD v2.Locks (Int.toNat v3) (Kd.dflt .lock)).Owner)).bind fun r5=>cond (decide (r5.1<0)) k0_0 (IX n n v2 v3 (List.getD v2.Locks (Int.toNat v3) (Kd.dflt .lock)) r5.1 0 k0_0 (Ek n m0 v2 (w64 (v3+1)) k0_0 k0_1)))) none) k0_1
def Mk(n:Nat)(a0:Sys):Option (Bool×Unit):=cond (!(decide ((a0.Locks.length:Int)=5))) (some (false,())) ((GQ n a0.Locks).bind fun r1=>cond (!r1.1) (some (false,())) (Ek n n a0 0 (some (false,())) (some (true,()))))
def j7(n:Nat):Rw:=⟨75,pV [Ae],pS [.bool],fun x=>Mk n (AX x.1)⟩
def mW(n:Nat):LS:=AI ⟨4,[1,3],[],[1],[2],[]⟩ 72 [1,3] 13 (pD [.ptr 0 0,.int]) [.box Af] (fun m x k=>Ek n m (AX x.2.1) x.1.2.1 (k .ret (eS 72 [2] [.bool false] 44 [])) (k (.exit 0) (eS 72 [] [] 44 [])))
def mX(n:Nat):LS:=AI ⟨12,([1,3,4,5,6]),[],[],[1,2,3],[0]⟩ 72 [1,3,4,5,6] 11 (pD [.ptr 0 0,.int,.ptr 1 0,.int,.int]) [.box Af,.box (pD [.int,.ro .int])] (fun m x k=>IX n m (AX x.2.1) x.1.2.1 (EX x.2.2.1) x.1.2.2.2.1 x.1.2.2.2.2.1 (k .ret (eS 72 [1,2,3] [.ptr 0 0,.bool false,.int x.1.2.1] 14 [.box (Af.make x.2.1)])) (k (.exit 2) (eS 72 [1,3] [.ptr 0 0,.int x.1.2.1] 14 [.box (Af.make x.2.1)])))
theorem j8(n:Nat):RO (j7 n):=
 rL ⟨Go.Proofs.Tryz.f75,⟨[(0,[(0,.slot 0 .int)]),(1,[(7,cl 1 .bool 0)]),(6,[(5,.slot 1 .int)]),(8,[(4,cl 2 .int 0)]),(14,[(7,cl 2 .int 0)])],[(14,dr 9 [(0,[0],[]),(1,[0],[]),(2,[1],[]),(3,[1],[])]),(15,dr 17 [(3,[0],[]),(4,[0],[]),(9,[0],[]),(10,[0],[])])],[]⟩,2⟩ [mW n,mX n] n (ec (NL n) (ec (Gu n) en)) Go.Proofs.Tryz.func75 (by kernel_rfl) ⟨AJ (fun m x k=>by kernel_rfl) (fun _ _=>rfl),AJ (fun m x k=>by kernel_rfl) (fun _ _=>rfl),trivial⟩ (fun x=>by kernel_rfl)
def IW{α:Type}(n:Nat):Nat→Sys→Int→(Option α)→(Option α)→Option α|0,_,_,_,_=>none|m0+1,v1,v2,k0_0,k0_1=>cond (decide (v2<(v1.Ghosts.length:Int))) (cond (decide (0≤v2)&&decide (v2<(v1.Ghosts.length:Int))) ((Ag ((List.getD v1.Ghosts (Int.toNat v2) (Kd.dflt .ghost)).Cpu) 0 (w64 (v1.Cpus-1))).bind fun r3=>cond (!r3.1) k0_0 ((GS ((List.getD v1.Ghosts (Int.toNat v2) (Kd.dflt .ghost)).S)).bind fun r4=>cond (!r4.1) k0_0 ((Ag ((List.getD v1.Ghosts (Int.toNat v2) (Kd.dflt .ghost)).Until) 0 100040).bind fun r5=>cond (!r5.1) k0_0 (IW n m0 v1 (w64 (v2+1)) k0_0 k0_1)))) none) k0_1
def Mj(n:Nat)(a0:Sys):Option (Bool×Unit):=IW n n a0 0 (some (false,())) (some ((decide ((a0.Ghosts.length:Int)≤12)),()))
def j5(n:Nat):Rw:=⟨76,pV [Ae],pS [.bool],fun x=>Mj n (AX x.1)⟩
def mV(n:Nat):LS:=AI ⟨2,[1,3],[],[1],[1,2],[0]⟩ 40 [1,3] 13 (pD [.ptr 0 0,.int]) [.box Af] (fun m x k=>IW n m (AX x.2.1) x.1.2.1 (k .ret (eS 40 [1,2] [.ptr 0 0,.bool false] 14 [.box (Af.make x.2.1)])) (k (.exit 0) (eS 40 [1] [.ptr 0 0] 14 [.box (Af.make x.2.1)])))
theorem j6(n:Nat):RO (j5 n):=
 rL ⟨Go.Proofs.Tryz.f76,⟨[(0,[(0,.slot 0 .int)]),(4,[(5,.slot 1 .int)]),(5,[(5,cl 3 .bool 0),(10,cl 1 .bool 0),(16,cl 3 .bool 0)])],[],[]⟩,2⟩ [mV n] n (ec Bi (ec NN en)) Go.Proofs.Tryz.func76 (by kernel_rfl) ⟨AJ (fun m x k=>by kernel_rfl) (fun _ _=>rfl),trivial⟩ (fun x=>by kernel_rfl)
def Fp{α:Type}(n:Nat):Nat→Int→Sys→List Share→Int→(List Share→Option α)→Option α|0,_,_,_,_,_=>none|m0+1,v1,v2,v3,v4,k0_0=>cond (decide (v4<(v2.Tasks.length:Int))) (cond (decide (0≤v4)&&decide (v4<(v2.Tasks.length:Int))) (let e5:=(decide ((List.getD v2.Tasks (Int.toNat v4) (Kd.dflt .task)).Cpu=v1));cond e5 (let e6:=(decide ((List.getD v2.Tasks (Int.toNat v4) (Kd.dflt .task)).Class=1));cond e6 (let e7:=([(⟨(List.getD v2.Tasks (Int.toNat v4) (Kd.dflt .task)).Q,(List.getD v2.Tasks (Int.toNat v4) (Kd.dflt .task)).P⟩:Share)]:List Share);cond (decide ((v3).length+(e7).length≤lim)) (Fp n m0 v1 v2 (v3++e7) (w64 (v4+1)) k0_0) none) (Fp n m0 v1 v2 v3 (w64 (v4+1)) k0_0)) (Fp n m0 v1 v2 v3 (w64 (v4+1)) k0_0)) none) (k0_0 v3)
def El{α:Type}(n:Nat):Nat→Int→Sys→List Share→Int→(List Share→Option α)→Option α|0,_,_,_,_,_=>none|m1+1,v9,v10,v11,v12,k1_0=>cond (decide (v12<(v10.Ghosts.length:Int))) (cond (decide (0≤v12)&&decide (v12<(v10.Ghosts.length:Int))) (let e13:=(decide ((List.getD v10.Ghosts (Int.toNat v12) (Kd.dflt .ghost)).Cpu=v9));cond e13 (cond (decide (0≤v12)&&decide (v12<(v10.Ghosts.length:Int))) (let e14:=([(List.getD v10.Ghosts (Int.toNat v12) (Kd.dflt .ghost)).S]:List Share);cond (decide ((v11).length+(e14).length≤lim)) (El n m1 v9 v10 (v11++e14) (w64 (v12+1)) k1_0) none) none) (El n m1 v9 v10 v11 (w64 (v12+1)) k1_0)) none) (k1_0 v11)
def Ml(n:Nat)(a0:Sys)(a1:Int):Option (List Share×Unit):=Fp n n a1 a0 ([]:List Share) 0 (fun w8=>El n n a1 a0 w8 0 (fun w15=>some (w15,())))
def j9(n:Nat):Rw:=⟨78,pV [Ae,.int],q30,fun x=>Ml n (AX x.1) x.2.1⟩
def mY(n:Nat):LS:=AI ⟨3,[1,2,5,6],[(.t 5,2,.share)],[3,4,5],[1,2,5],q31⟩ 64 [1,2,5,6] 141333333 (pD [.int,.ptr 0 0,.bor 2,.int]) [.box Af,.root .share] (fun m x k=>Fp n m x.1.1 (AX x.2.1) x.2.2.1 x.1.2.2.2.1 (fun w0=>k (.exit 0) (eS 64 [1,2,5] [.int x.1.1,.ptr 0 0,.bor 2] 141333333 [.box (Af.make x.2.1),.root .share w0 .ok])))
def mZ(n:Nat):LS:=AI ⟨9,[1,2,5,8],[(.t 5,6,.share)],[7,8],[5],q32⟩ 64 [1,2,5,8] 144333133 (pD [.int,.ptr 0 0,.bor 6,.int]) [.box Af,.root .share] (fun m x k=>El n m x.1.1 (AX x.2.1) x.2.2.1 x.1.2.2.2.1 (fun w0=>k (.exit 2) (eS 64 [5] [.bor 6] 444333133 [.root .share w0 .ok])))
theorem kC(n:Nat):RO (j9 n):=
 rL ⟨Go.Proofs.Tryz.f78,⟨[(0,[(0,.slot 0 .int)]),(1,[(0,.slot 1 .share)]),(5,[(5,.slot 3 .int)]),(7,[(6,.slot 4 .share),(7,.slot 5 .share)]),(12,[(7,.slot 7 .share),(8,.slot 8 .share)])],[],[]⟩,9⟩ [mY n,mZ n] n en Go.Proofs.Tryz.func78 (by kernel_rfl) ⟨AJ (fun m x k=>by kernel_rfl) (fun _ _=>rfl),AJ (fun m x k=>by kernel_rfl) (fun _ _=>rfl),trivial⟩ (fun x=>by kernel_rfl)
def IR{α:Type}(n:Nat):Nat→Int→Int→(Int→Option α)→Option α|0,_,_,_=>none|m0+1,v1,v2,k0_0=>cond (decide (0<v2)) (cond (decide (v2=0)) none (IR n m0 v2 (Int.tmod v1 v2) k0_0)) (k0_0 v1)
def Md(n:Nat)(a0:Int)(a1:Int):Option (Int×Unit):=IR n n a0 a1 (fun w3=>some (w3,()))
def jW(n:Nat):Rw:=⟨201,pV [.int,.int],pS [.int],fun x=>Md n x.1 x.2.1⟩
def mK(n:Nat):LS:=AI ⟨1,[0,1],[],[],[0],[]⟩ 12 [0,1] 0 (pD [.int,.int]) [] (fun m x k=>IR n m x.1.1 x.1.2.1 (fun w0=>k (.exit 0) (eS 12 [0] [.int w0] 0 [])))
theorem jX(n:Nat):RO (jW n):=
 rL ⟨Go.Proofs.Tryz.f201,⟨[],[(2,dr 6 [])],[]⟩,0⟩ [mK n] n en Go.Proofs.Tryz.func201 (by kernel_rfl) ⟨AJ (fun m x k=>by kernel_rfl) (fun _ _=>rfl),trivial⟩ (fun x=>by kernel_rfl)
def D7{α:Type}(n:Nat):Nat→List Share→Int→Int→Int→(Int→Int→Option α)→(Int→Int→Option α)→Option α|0,_,_,_,_,_,_=>none|m0+1,v1,v2,v3,v4,k0_0,k0_1=>cond (decide (v4<(v1.length:Int))) (cond (decide (0≤v4)&&decide (v4<(v1.length:Int))) ((GS (List.getD v1 (Int.toNat v4) (Kd.dflt .share))).bind fun r5=>cond (!r5.1) (k0_0 v2 v3) (cond (decide (0≤v4)&&decide (v4<(v1.length:Int))) (let e6:=(w64 (v2*(List.getD v1 (Int.toNat v4) (Kd.dflt .share)).P));cond (decide (0≤v4)&&decide (v4<(v1.length:Int))) (let e7:=(w64 ((List.getD v1 (Int.toNat v4) (Kd.dflt .share)).Q*v3));cond (decide (0≤v4)&&decide (v4<(v1.length:Int))) (let e8:=(w64 (v3*(List.getD v1 (Int.toNat v4) (Kd.dflt .share)).P));(Md n (w64 (e6+e7)) e8).bind fun r9=>cond (decide (r9.1=0)) none (cond (decide (r9.1=0)) none (D7 n m0 v1 (w64 (Int.tdiv (w64 (e6+e7)) r9.1)) (w64 (Int.tdiv e8 r9.1)) (w64 (v4+1)) k0_0 k0_1))) none) none) none)) none) (k0_1 v2 v3)
def MR(n:Nat)(a0:List Share):Option ((Int×Int×Bool×Unit)×Unit):=cond (decide (7<(a0.length:Int))) (some ((0,0,false,()),())) (D7 n n a0 0 1 0 (fun w10 w11=>some ((0,0,false,()),())) (fun w12 w13=>some ((w12,w13,true,()),())))
def iq(n:Nat):Rw:=⟨151,pV [.ro .share],q34,fun x=>MR n x.1.2⟩
def lx(n:Nat):LS:=AI ⟨5,[0,5,6,7],[],[],([2,3,4,5,6]),[]⟩ 57 [0,5,6,7] 0 (pD [.ro .share,.int,.int,.int]) [] (fun m x k=>D7 n m x.1.1.2 x.1.2.1 x.1.2.2.1 x.1.2.2.2.1 (fun w0 w1=>k .ret (eS 57 [2,3,4,5,6] [.int 0,.int 0,.bool false,.int w0,.int w1] 0 [])) (fun w0 w1=>k (.exit 0) (eS 57 [5,6] [.int w0,.int w1] 0 [])))
theorem ir(n:Nat):RO (iq n):=
 rL ⟨Go.Proofs.Tryz.f151,⟨[(7,[(4,cl 1 .bool 0)]),(11,[(2,cl 2 .int 0)])],[(9,dr 16 [])],[]⟩,0⟩ [lx n] n (ec NN (ec (jX n) en)) Go.Proofs.Tryz.func151 (by kernel_rfl) ⟨AJ (fun m x k=>by kernel_rfl) (fun _ _=>rfl),trivial⟩ (fun x=>by kernel_rfl)
def FL(n:Nat)(a0:List Share):Option (Bool×Unit):=(MR n a0).bind fun r1=>cond r1.1.2.2.1 (some ((decide (r1.1.1≤r1.1.2.1)),())) (some (false,()))
def iL(n:Nat):Rw:=⟨77,pV [.ro .share],pS [.bool],fun x=>FL n x.1.2⟩
theorem UW(n:Nat):RO (iL n):=
 rE ⟨Go.Proofs.Tryz.f77,⟨[(1,[(1,q36)])],[],[]⟩,0⟩ n (ec (ir n) en) Go.Proofs.Tryz.func77 (by kernel_rfl) (fun x=>by kernel_rfl)
def IK{α:Type}(n:Nat):Nat→Sys→Int→(Option α)→(Option α)→Option α|0,_,_,_,_=>none|m0+1,v8,v9,k0_0,k0_1=>cond (decide (v9<(v8.Tasks.length:Int))) (cond (decide (0≤v9)&&decide (v9<(v8.Tasks.length:Int))) (let e10:=(decide (v8.Cpus≤(List.getD v8.Tasks (Int.toNat v9) (Kd.dflt .task)).Cpu));cond e10 k0_0 (IK n m0 v8 (w64 (v9+1)) k0_0 k0_1)) none) k0_1
def Ff{α:Type}(n:Nat):Nat→Sys→Int→(Option α)→(Option α)→Option α|0,_,_,_,_=>none|m1+1,v11,v12,k1_0,k1_1=>cond (decide (v12<v11.Cpus)) (cond (decide (0≤v12)&&decide (v12<(v11.Floors.length:Int))) ((Ag (List.getD v11.Floors (Int.toNat v12) (Kd.dflt .int)) 0 100000000).bind fun r13=>cond (!r13.1) k1_0 ((Ml n v11 v12).bind fun r14=>(FL n r14.1).bind fun r15=>cond (!r15.1) k1_0 (Ff n m1 v11 (w64 (v12+1)) k1_0 k1_1))) none) k1_1
def EU(n:Nat)(a0:Sys):Option (Bool×Unit):=(Ag a0.Now 0 100000).bind fun r1=>cond (!r1.1) (some (false,())) ((Ag a0.Cpus 1 4).bind fun r2=>cond (!r2.1) (some (false,())) ((Dq n a0.Tasks).bind fun r3=>cond (!r3.1) (some (false,())) ((Mk n a0).bind fun r4=>cond (!r4.1) (some (false,())) ((Mj n a0).bind fun r5=>cond (!r5.1) (some (false,())) (cond (!(decide ((a0.Floors.length:Int)=a0.Cpus))) (some (false,())) ((Ag a0.Seq 0 1000000).bind fun r6=>cond (!r6.1) (some (false,())) ((Ag a0.Missed 0 100000).bind fun r7=>cond (!r7.1) (some (false,())) (cond (decide (400<(a0.Trace.length:Int))) (some (false,())) (IK n n a0 0 (some (false,())) (Ff n n a0 0 (some (false,())) (some (true,()))))))))))))
def iu(n:Nat):Rw:=⟨33,pV [Ae],pS [.bool],fun x=>EU n (AX x.1)⟩
def ly(n:Nat):LS:=AI ⟨4,[1,3],[],[],[1,2],[0]⟩ 93 [1,3] 1 (pD [.ptr 0 0,.int]) [.box Af] (fun m x k=>IK n m (AX x.2.1) x.1.2.1 (k .ret (eS 93 [1,2] [.ptr 0 0,.bool false] 1 [.box (Af.make x.2.1)])) (k (.exit 0) (eS 93 [1] [.ptr 0 0] 1 [.box (Af.make x.2.1)])))
def lz(n:Nat):LS:=AI ⟨9,[1,4],[],[],[2],[]⟩ 93 [1,4] 1 (pD [.ptr 0 0,.int]) [.box Af] (fun m x k=>Ff n m (AX x.2.1) x.1.2.1 (k .ret (eS 93 [2] [.bool false] 4 [])) (k (.exit 2) (eS 93 [] [] 4 [])))
theorem Ik(n:Nat):RO (iu n):=
 rL ⟨Go.Proofs.Tryz.f33,⟨[(0,[(0,.slot 0 .int)]),(1,[(2,cl 3 .bool 0),(7,cl 3 .bool 0),(13,cl 1 .bool 0),(18,cl 1 .bool 0),(23,cl 1 .bool 0),(37,cl 3 .bool 0),(43,cl 3 .bool 0)]),(11,[(5,cl 3 .bool 0),(10,q37),(11,cl 1 .bool 0)])],[(6,dr 9 [(0,[0],[]),(1,[0],[]),(6,[0],[]),(7,[0],[])])],[]⟩,1⟩ [ly n,lz n] n (ec Bi (ec (P3 n) (ec (j8 n) (ec (j6 n) (ec (kC n) (ec (UW n) en)))))) Go.Proofs.Tryz.func33 (by kernel_rfl) ⟨AJ (fun m x k=>by kernel_rfl) (fun _ _=>rfl),AJ (fun m x k=>by kernel_rfl) (fun _ _=>rfl),trivial⟩ (fun x=>by kernel_rfl)
def Fl{α:Type}(n:Nat):Nat→Int→Sys→List Task→Int→(List Task→Option α)→Option α|0,_,_,_,_,_=>none|m0+1,v1,v2,v3,v4,k0_0=>cond (decide (v4<(v2.Tasks.length:Int))) (cond (decide (0≤v4)&&decide (v4<(v2.Tasks.length:Int))) (let e5:=(decide ((List.getD v2.Tasks (Int.toNat v4) (Kd.dflt .task)).Cpu=v1));cond e5 (cond (decide (0≤v4)&&decide (v4<(v2.Tasks.length:Int))) (cond (!(List.getD v2.Tasks (Int.toNat v4) (Kd.dflt .task)).Idle) (cond (decide (0≤v4)&&decide (v4<(v2.Tasks.length:Int))) (let e6:=([(List.getD v2.Tasks (Int.toNat v4) (Kd.dflt .task))]:List Task);cond (decide ((v3).length+(e6).length≤lim)) (Fl n m0 v1 v2 (v3++e6) (w64 (v4+1)) k0_0) none) none) (Fl n m0 v1 v2 v3 (w64 (v4+1)) k0_0)) none) (Fl n m0 v1 v2 v3 (w64 (v4+1)) k0_0)) none) (k0_0 v3)
def HV(n:Nat)(a0:Sys)(a1:Int):Option (List Task×Unit):=Fl n n a1 a0 ([]:List Task) 0 (fun w7=>some (w7,()))
def jF(n:Nat):Rw:=⟨35,pV [Ae,.int],q2,fun x=>HV n (AX x.1) x.2.1⟩
def mH(n:Nat):LS:=AI ⟨3,[1,2,5,6],[(.t 5,2,.task)],[3,4],[5],[2,3,4]⟩ 41 [1,2,5,6] 14133 (pD [.int,.ptr 0 0,.bor 2,.int]) [.box Af,.root .task] (fun m x k=>Fl n m x.1.1 (AX x.2.1) x.2.2.1 x.1.2.2.2.1 (fun w0=>k (.exit 0) (eS 41 [5] [.bor 2] 44133 [.root .task w0 .ok])))
theorem P4(n:Nat):RO (jF n):=
 rL ⟨Go.Proofs.Tryz.f35,⟨[(0,[(0,.slot 0 .int)]),(1,[(0,.slot 1 .task)]),(6,[(6,.slot 3 .task),(7,.slot 4 .task)])],[],[]⟩,5⟩ [mH n] n en Go.Proofs.Tryz.func35 (by kernel_rfl) ⟨AJ (fun m x k=>by kernel_rfl) (fun _ _=>rfl),trivial⟩ (fun x=>by kernel_rfl)
def DX(a0:Task):Option (Bool×Unit):=(Dp a0).bind fun r1=>cond r1.1 (some ((decide (a0.Class=3)),())) (some (false,()))
def jh:Rw:=⟨79,pV [Ac],pS [.bool],fun x=>DX (AK x.1)⟩
theorem Im:RO (jh):=
 rE ⟨Go.Proofs.Tryz.f79,⟨[(0,[(0,.slot 0 .int)]),(1,[(1,cl 1 .bool 0)])],[],[]⟩,1⟩ 0 (ec Il en) Go.Proofs.Tryz.func79 (by kernel_rfl) (fun x=>by kernel_rfl)
def Dr(a0:Int)(a1:Int):Option (Int×Unit):=cond (decide (a1<a0)) (some (a0,())) (some (a1,()))
def jZ:Rw:=⟨80,pV [.int,.int],pS [.int],fun x=>Dr x.1 x.2.1⟩
theorem NO:RO (jZ):=
 rE ⟨Go.Proofs.Tryz.f80,⟨[],[],[]⟩,0⟩ 0 en Go.Proofs.Tryz.func80 (by kernel_rfl) (fun x=>by kernel_rfl)
def Ei{α:Type}(n:Nat):Nat→List Task→Int→Int→Int→(Int→Int→Option α)→Option α|0,_,_,_,_,_=>none|m0+1,v1,v2,v3,v4,k0_0=>cond (decide (v4<(v1.length:Int))) (cond (decide (0≤v4)&&decide (v4<(v1.length:Int))) ((DX (List.getD v1 (Int.toNat v4) (Kd.dflt .task))).bind fun r5=>cond (!r5.1) (Ei n m0 v1 v2 v3 (w64 (v4+1)) k0_0) (cond (decide (v2<0)) (cond (decide (0≤v4)&&decide (v4<(v1.length:Int))) (cond (decide (0≤v4)&&decide (v4<(v1.length:Int))) ((Dr v3 ((List.getD v1 (Int.toNat v4) (Kd.dflt .task)).V)).bind fun r6=>Ei n m0 v1 ((List.getD v1 (Int.toNat v4) (Kd.dflt .task)).V) r6.1 (w64 (v4+1)) k0_0) none) none) (cond (decide (0≤v4)&&decide (v4<(v1.length:Int))) (let e7:=(decide ((List.getD v1 (Int.toNat v4) (Kd.dflt .task)).V<v2));cond e7 (cond (decide (0≤v4)&&decide (v4<(v1.length:Int))) (cond (decide (0≤v4)&&decide (v4<(v1.length:Int))) ((Dr v3 ((List.getD v1 (Int.toNat v4) (Kd.dflt .task)).V)).bind fun r8=>Ei n m0 v1 ((List.getD v1 (Int.toNat v4) (Kd.dflt .task)).V) r8.1 (w64 (v4+1)) k0_0) none) none) (cond (decide (0≤v4)&&decide (v4<(v1.length:Int))) ((Dr v3 ((List.getD v1 (Int.toNat v4) (Kd.dflt .task)).V)).bind fun r9=>Ei n m0 v1 v2 r9.1 (w64 (v4+1)) k0_0) none)) none))) none) (k0_0 v2 v3)
def MF(n:Nat)(a0:List Task):Option (Int×Unit):=Ei n n a0 (-1) (-1) 0 (fun w10 w11=>some ((w64 (w11-w10)),()))
def iH(n:Nat):Rw:=⟨34,pV [.ro .task],pS [.int],fun x=>MF n x.1.2⟩
def lq(n:Nat):LS:=AI ⟨3,[0,3,4,5],[],[],[3,4],[]⟩ 44 [0,3,4,5] 0 (pD [.ro .task,.int,.int,.int]) [] (fun m x k=>Ei n m x.1.1.2 x.1.2.1 x.1.2.2.1 x.1.2.2.2.1 (fun w0 w1=>k (.exit 0) (eS 44 [3,4] [.int w0,.int w1] 0 [])))
theorem iI(n:Nat):RO (iH n):=
 rL ⟨Go.Proofs.Tryz.f34,⟨[(5,[(4,cl 1 .bool 0)]),(8,[(6,cl 2 .int 0)])],[],[]⟩,0⟩ [lq n] n (ec Im (ec NO en)) Go.Proofs.Tryz.func34 (by kernel_rfl) ⟨AJ (fun m x k=>by kernel_rfl) (fun _ _=>rfl),trivial⟩ (fun x=>by kernel_rfl)
def MP(n:Nat)(a0:Sys)(a1:Int):Option (Int×Unit):=(EU n a0).bind fun r1=>cond (!r1.1) (some (0,())) ((HV n a0 a1).bind fun r2=>(MF n r2.1).bind fun r3=>some (r3.1,()))
def il(n:Nat):Rw:=⟨8,pV [Ae,.int],pS [.int],fun x=>MP n (AX x.1) x.2.1⟩
theorem im(n:Nat):RO (il n):=
 rE ⟨Go.Proofs.Tryz.f8,⟨[(0,[(0,.slot 0 .int)]),(1,[(1,cl 1 .bool 0)]),(3,[(2,q38),(3,cl 1 .int 0)])],[],[]⟩,1⟩ n (ec (Ik n) (ec (P4 n) (ec (iI n) en))) Go.Proofs.Tryz.func8 (by kernel_rfl) (fun x=>by kernel_rfl)
def Ap(a0:Int)(a1:Int)(a2:Int):Option (Bool×Unit):=cond (decide (a1≤a0)) (some ((decide (a0≤a2)),())) (some (false,()))
def cn:Rw:=⟨86,pV [.int,.int,.int],pS [.bool],fun x=>Ap x.1 x.2.1 x.2.2.1⟩
theorem Bc:RO (cn):=
 rE ⟨Go.Proofs.Tryz.f86,⟨[],[],[]⟩,0⟩ 0 en Go.Proofs.Tryz.func86 (by kernel_rfl) (fun x=>by kernel_rfl)
def FH(a0:Int):Option (Bool×Unit):=(Ap a0 0 100000).bind fun r1=>some (r1.1,())
def cu:Rw:=⟨85,pV [.int],pS [.bool],fun x=>FH x.1⟩
theorem NE:RO (cu):=
 rE ⟨Go.Proofs.Tryz.f85,⟨[(1,[(1,cl 3 .bool 0)])],[],[]⟩,0⟩ 0 (ec Bc en) Go.Proofs.Tryz.func85 (by kernel_rfl) (fun x=>by kernel_rfl)
def HO(a0:Int):Option (Bool×Unit):=(Ap a0 1 1000).bind fun r1=>some (r1.1,())
def cr:Rw:=⟨155,pV [.int],pS [.bool],fun x=>HO x.1⟩
theorem Ps:RO (cr):=
 rE ⟨Go.Proofs.Tryz.f155,⟨[(1,[(1,cl 3 .bool 0)])],[],[]⟩,0⟩ 0 (ec Bc en) Go.Proofs.Tryz.func155 (by kernel_rfl) (fun x=>by kernel_rfl)
def FG(a0:Share):Option (Bool×Unit):=(Ap a0.P 1 40).bind fun r1=>cond r1.1 ((Ap a0.Q 1 a0.P).bind fun r2=>some (r2.1,())) (some (false,()))
def bJ:Rw:=⟨160,pV [G8],pS [.bool],fun x=>FG (EL x.1)⟩
theorem NB:RO (bJ):=
 rE ⟨Go.Proofs.Tryz.f160,⟨[(0,[(0,.slot 0 .int)]),(1,[(2,cl 3 .bool 0),(8,cl 3 .bool 0)])],[],[]⟩,1⟩ 0 (ec Bc en) Go.Proofs.Tryz.func160 (by kernel_rfl) (fun x=>by kernel_rfl)
def HP(a0:Int):Option (Bool×Unit):=(Ap a0 0 100040).bind fun r1=>some (r1.1,())
def cw:Rw:=⟨161,pV [.int],pS [.bool],fun x=>HP x.1⟩
theorem UI:RO (cw):=
 rE ⟨Go.Proofs.Tryz.f161,⟨[(1,[(1,cl 3 .bool 0)])],[],[]⟩,0⟩ 0 (ec Bc en) Go.Proofs.Tryz.func161 (by kernel_rfl) (fun x=>by kernel_rfl)
def GH(a0:Int):Option (Bool×Unit):=(Ap a0 0 1000000).bind fun r1=>some (r1.1,())
def ct:Rw:=⟨101,pV [.int],pS [.bool],fun x=>GH x.1⟩
theorem Pt:RO (ct):=
 rE ⟨Go.Proofs.Tryz.f101,⟨[(1,[(1,cl 3 .bool 0)])],[],[]⟩,0⟩ 0 (ec Bc en) Go.Proofs.Tryz.func101 (by kernel_rfl) (fun x=>by kernel_rfl)
def FF(a0:Int):Option (Bool×Unit):=(Ap a0 (-4) 4).bind fun r1=>some (r1.1,())
def bB:Rw:=⟨202,pV [.int],pS [.bool],fun x=>FF x.1⟩
theorem NA:RO (bB):=
 rE ⟨Go.Proofs.Tryz.f202,⟨[(1,[(1,cl 3 .bool 0)])],[],[]⟩,0⟩ 0 (ec Bc en) Go.Proofs.Tryz.func202 (by kernel_rfl) (fun x=>by kernel_rfl)
def Dn(a0:Task):Option (Bool×Unit):=(HO a0.No).bind fun r1=>cond (!r1.1) (some (false,())) ((Ap a0.Cpu 0 3).bind fun r2=>cond (!r2.1) (some (false,())) (cond (!(decide (a0.State=1))) (cond (!(decide (a0.State=2))) (some (false,())) (cond (decide (a0.Class=1)) ((FG (⟨a0.Q,a0.P⟩:Share)).bind fun r3=>cond r3.1 ((Ap a0.Left 0 a0.Q).bind fun r4=>cond r4.1 ((HP a0.Due).bind fun r5=>cond r5.1 (let e6:=((decide (a0.No=a0.No))&&((decide (a0.Class=a0.Class))&&((decide (a0.Cpu=a0.Cpu))&&((decide (a0.State=a0.State))&&((a0.Idle==a0.Idle)&&((decide (a0.Q=a0.Q))&&((decide (a0.P=a0.P))&&((decide (a0.Left=a0.Left))&&((decide (a0.Due=a0.Due))&&((decide (a0.Prio=0))&&((decide (a0.Round=0))&&((decide (a0.Seq=0))&&((decide (a0.Nice=0))&&((decide (a0.V=0))&&true))))))))))))));some (e6,())) (some (false,()))) (some (false,()))) (some (false,()))) (cond (decide (a0.Class=2)) ((Ap a0.Prio 1 20).bind fun r7=>cond r7.1 ((Ap a0.Round 0 10).bind fun r8=>cond r8.1 ((Ap a0.Left (if a0.Round<1 then a0.Round else 1) a0.Round).bind fun r9=>cond r9.1 ((GH a0.Seq).bind fun r10=>cond r10.1 (let e11:=((decide (a0.No=a0.No))&&((decide (a0.Class=a0.Class))&&((decide (a0.Cpu=a0.Cpu))&&((decide (a0.State=a0.State))&&((a0.Idle==a0.Idle)&&((decide (a0.Q=0))&&((decide (a0.P=0))&&((decide (a0.Left=a0.Left))&&((decide (a0.Due=0))&&((decide (a0.Prio=a0.Prio))&&((decide (a0.Round=a0.Round))&&((decide (a0.Seq=a0.Seq))&&((decide (a0.Nice=0))&&((decide (a0.V=0))&&true))))))))))))));some (e11,())) (some (false,()))) (some (false,()))) (some (false,()))) (some (false,()))) (cond (decide (a0.Class=3)) ((FF a0.Nice).bind fun r12=>cond r12.1 ((Ap a0.V 0 100000000).bind fun r13=>cond r13.1 (let e14:=((decide (a0.No=a0.No))&&((decide (a0.Class=a0.Class))&&((decide (a0.Cpu=a0.Cpu))&&((decide (a0.State=a0.State))&&((a0.Idle==a0.Idle)&&((decide (a0.Q=0))&&((decide (a0.P=0))&&((decide (a0.Left=0))&&((decide (a0.Due=0))&&((decide (a0.Prio=0))&&((decide (a0.Round=0))&&((decide (a0.Seq=0))&&((decide (a0.Nice=a0.Nice))&&((decide (a0.V=a0.V))&&true))))))))))))));some (e14,())) (some (false,()))) (some (false,()))) (some (false,())))))) (cond (decide (a0.Class=1)) ((FG (⟨a0.Q,a0.P⟩:Share)).bind fun r15=>cond r15.1 ((Ap a0.Left 0 a0.Q).bind fun r16=>cond r16.1 ((HP a0.Due).bind fun r17=>cond r17.1 (let e18:=((decide (a0.No=a0.No))&&((decide (a0.Class=a0.Class))&&((decide (a0.Cpu=a0.Cpu))&&((decide (a0.State=a0.State))&&((a0.Idle==a0.Idle)&&((decide (a0.Q=a0.Q))&&((decide (a0.P=a0.P))&&((decide (a0.Left=a0.Left))&&((decide (a0.Due=a0.Due))&&((decide (a0.Prio=0))&&((decide (a0.Round=0))&&((decide (a0.Seq=0))&&((decide (a0.Nice=0))&&((decide (a0.V=0))&&true))))))))))))));some (e18,())) (some (false,()))) (some (false,()))) (some (false,()))) (cond (decide (a0.Class=2)) ((Ap a0.Prio 1 20).bind fun r19=>cond r19.1 ((Ap a0.Round 0 10).bind fun r20=>cond r20.1 ((Ap a0.Left (if a0.Round<1 then a0.Round else 1) a0.Round).bind fun r21=>cond r21.1 ((GH a0.Seq).bind fun r22=>cond r22.1 (let e23:=((decide (a0.No=a0.No))&&((decide (a0.Class=a0.Class))&&((decide (a0.Cpu=a0.Cpu))&&((decide (a0.State=a0.State))&&((a0.Idle==a0.Idle)&&((decide (a0.Q=0))&&((decide (a0.P=0))&&((decide (a0.Left=a0.Left))&&((decide (a0.Due=0))&&((decide (a0.Prio=a0.Prio))&&((decide (a0.Round=a0.Round))&&((decide (a0.Seq=a0.Seq))&&((decide (a0.Nice=0))&&((decide (a0.V=0))&&true))))))))))))));some (e23,())) (some (false,()))) (some (false,()))) (some (false,()))) (some (false,()))) (cond (decide (a0.Class=3)) ((FF a0.Nice).bind fun r24=>cond r24.1 ((Ap a0.V 0 100000000).bind fun r25=>cond r25.1 (let e26:=((decide (a0.No=a0.No))&&((decide (a0.Class=a0.Class))&&((decide (a0.Cpu=a0.Cpu))&&((decide (a0.State=a0.State))&&((a0.Idle==a0.Idle)&&((decide (a0.Q=0))&&((decide (a0.P=0))&&((decide (a0.Left=0))&&((decide (a0.Due=0))&&((decide (a0.Prio=0))&&((decide (a0.Round=0))&&((decide (a0.Seq=0))&&((decide (a0.Nice=a0.Nice))&&((decide (a0.V=a0.V))&&true))))))))))))));some (e26,())) (some (false,()))) (some (false,()))) (some (false,())))))))
def cG:Rw:=⟨153,pV [Ac],pS [.bool],fun x=>Dn (AK x.1)⟩
theorem Ii:RO (cG):=
 rE ⟨Go.Proofs.Tryz.f153,⟨[(0,[(0,.slot 0 .int)]),(1,[(2,cl 1 .bool 0),(7,cl 3 .bool 0)]),(3,[(11,.slot 1 .int)]),(8,[(5,cl 1 .bool 0),(11,cl 3 .bool 0),(16,cl 1 .bool 0)]),(11,[(2,cl 3 .bool 0),(6,cl 3 .bool 0),(16,cl 3 .bool 0),(21,cl 1 .bool 0)]),(14,[(2,cl 1 .bool 0),(6,cl 3 .bool 0)])],[(7,dr 16 [(0,[0],[]),(1,[0],[]),(2,[0],[]),(3,[0],[]),(4,[0],[]),(5,[0],[]),(6,[0],[]),(7,[0],[]),(8,[1],[]),(9,[1],[1]),(10,[1],[]),(11,[1],[1]),(12,[1],[]),(13,[1],[1]),(14,[1],[]),(15,[1],[1])]),(10,dr 16 [(0,[0],[]),(1,[0],[]),(2,[0],[]),(3,[0],[]),(4,[0],[]),(5,[0],[]),(6,[0],[]),(7,[0],[]),(8,[1],[]),(9,[1],[1]),(10,[1],[]),(11,[1],[1]),(12,[1],[]),(13,[1],[1]),(14,[1],[]),(15,[1],[1])]),(13,dr 8 [(0,[0],[]),(1,[0],[]),(2,[0],[]),(3,[0],[]),(4,[1],[]),(5,[1],[1]),(6,[1],[]),(7,[1],[1])])],[]⟩,2⟩ 0 (ec Ps (ec Bc (ec NB (ec UI (ec Pt (ec NA en)))))) Go.Proofs.Tryz.func153 (by kernel_rfl) (fun x=>by kernel_rfl)
def C9{α:Type}(n:Nat):Nat→List Task→List Task→Int→Int→(Option α)→(Option α)→Option α|0,_,_,_,_,_,_=>none|m0+1,v1,v2,v3,v4,k0_0,k0_1=>cond (decide (v4<v3)) (cond (decide (0≤v4)&&decide (v4<(v2.length:Int))) ((Dn (List.getD v2 (Int.toNat v4) (Kd.dflt .task))).bind fun r5=>cond (!r5.1) k0_0 (cond (decide (0<v4)) (cond ((decide (0≤(w64 (v4-1))))&&(decide ((w64 (v4-1))<(v1.length:Int)))) (let e6:=(decide ((List.getD v2 (Int.toNat v4) (Kd.dflt .task)).No≤(List.getD v1 (Int.toNat (w64 (v4-1))) (Kd.dflt .task)).No));cond e6 k0_0 (C9 n m0 v1 v2 v3 (w64 (v4+1)) k0_0 k0_1)) none) (C9 n m0 v1 v2 v3 (w64 (v4+1)) k0_0 k0_1))) none) k0_1
def C4(n:Nat)(a0:List Task):Option (Bool×Unit):=C9 n n a0 a0 (a0.length:Int) 0 (some (false,())) (some ((decide ((a0.length:Int)≤12)),()))
def cJ(n:Nat):Rw:=⟨87,pV [.ro .task],pS [.bool],fun x=>C4 n x.1.2⟩
def kj(n:Nat):LS:=AI ⟨2,[0,5,6,7],[],[0],[0,2],[]⟩ 34 [0,5,6,7] 3 (pD [.ro .task,.ro .task,.int,.int]) [] (fun m x k=>C9 n m x.1.1.2 x.1.2.1.2 x.1.2.2.1 x.1.2.2.2.1 (k .ret (eS 34 [0,2] [.ro x.1.1.1 .task x.1.1.2,.bool false] 4 [])) (k (.exit 0) (eS 34 [0] [.ro x.1.1.1 .task x.1.1.2] 4 [])))
theorem NC(n:Nat):RO (cJ n):=
 rL ⟨Go.Proofs.Tryz.f87,⟨[(3,[(3,.slot 0 .int)]),(4,[(1,cl 1 .bool 0)])],[(4,dr 18 [(0,[0],[]),(13,[0],[]),(14,[0],[])])],[]⟩,1⟩ [kj n] n (ec Ii en) Go.Proofs.Tryz.func87 (by kernel_rfl) ⟨AJ (fun m x k=>by kernel_rfl) (fun _ _=>rfl),trivial⟩ (fun x=>by kernel_rfl)
def ON(a0:Task)(a1:Sys):Option (Bool×Unit):=some ((decide (a1.Cpus≤a0.Cpu)),())
def bZ:Rw:=⟨89,pV [Ac,.rp Af 0],pS [.bool],fun x=>ON (AK x.1) (AX x.2.1)⟩
theorem ba:RO (bZ):=
 rE ⟨Go.Proofs.Tryz.f89,⟨[(0,[(0,.slot 0 .int)])],[],[]⟩,1⟩ 0 en Go.Proofs.Tryz.func89 (by kernel_rfl) (fun x=>by kernel_rfl)
def IF{α:Type}(n:Nat):Nat→List Task→Sys→Int→Int→(Int→Option α)→(Option α)→Option α|0,_,_,_,_,_,_=>none|m0+1,v1,v2,v3,v4,k0_0,k0_1=>cond (decide (v4<v3)) (cond (decide (0≤v4)&&decide (v4<(v1.length:Int))) ((ON (List.getD v1 (Int.toNat v4) (Kd.dflt .task)) v2).bind fun r5=>cond r5.1 (k0_0 v4) (IF n m0 v1 v2 v3 (w64 (v4+1)) k0_0 k0_1)) none) k0_1
def Oj(n:Nat)(a0:List Task)(a1_0:Sys):Option (Int×Unit):=IF n n a0 a1_0 (a0.length:Int) 0 (fun w6=>some (w6,())) (some ((-1),()))
def gj(n:Nat):Rw:=⟨154,pV [.ro .task,.clo 89 (pD [.rp Af 0])],pS [.int],fun x=>Oj n x.1.2 (AX x.2.1.1)⟩
def lh(n:Nat):LS:=AI ⟨2,[0,1,7,8],[],[],[4],[]⟩ 19 [0,1,7,8] 0 (pD [.ro .task,.clo 89 (pD [.rp Af 0]),.int,.int]) [] (fun m x k=>IF n m x.1.1.2 (AX x.1.2.1.1) x.1.2.2.1 x.1.2.2.2.1 (fun w0=>k .ret (eS 19 [4] [.int w0] 0 [])) (k (.exit 0) (eS 19 [] [] 0 [])))
theorem gk(n:Nat):RO (gj n):=
 rL ⟨Go.Proofs.Tryz.f154,⟨[(4,[(5,cl 1 .bool 0)])],[],[]⟩,0⟩ [lh n] n (ec ba en) Go.Proofs.Tryz.func154 (by kernel_rfl) ⟨AJ (fun m x k=>by kernel_rfl) (fun _ _=>rfl),trivial⟩ (fun x=>by kernel_rfl)
def Ly(n:Nat)(a0:List Task)(a1_0:Sys):Option (Bool×Unit):=(Oj n a0 a1_0).bind fun r1=>some ((decide (0≤r1.1)),())
def gJ(n:Nat):Rw:=⟨88,pV [.ro .task,.clo 89 (pD [.rp Af 0])],pS [.bool],fun x=>Ly n x.1.2 (AX x.2.1.1)⟩
theorem gK(n:Nat):RO (gJ n):=
 rE ⟨Go.Proofs.Tryz.f88,⟨[(1,[(2,cl 2 .int 0)])],[],[]⟩,0⟩ n (ec (gk n) en) Go.Proofs.Tryz.func88 (by kernel_rfl) (fun x=>by kernel_rfl)
end Go.Proofs.YtbbgaleennfklaaGreat.VR
end
section
set_option linter.unusedVariables false
set_option maxRecDepth 100000
namespace Go.Proofs.YtbbgaleennfklaaGreat.VR
open Go
def IJ{α:Type}(n:Nat):Nat→List Int→Int→Int→Int→(Int→Option α)→(Option α)→Option α|0,_,_,_,_,_,_=>none|m0+1,v1,v2,v3,v4,k0_0,k0_1=>cond (decide (v4<v3)) (cond (decide (0≤v4)&&decide (v4<(v1.length:Int))) (cond (decide (v2=(List.getD v1 (Int.toNat v4) (Kd.dflt .int)))) (k0_0 v4) (IJ n m0 v1 v2 v3 (w64 (v4+1)) k0_0 k0_1)) none) k0_1
def Jq(n:Nat)(a0:List Int)(a1:Int):Option (Int×Unit):=IJ n n a0 a1 (a0.length:Int) 0 (fun w5=>some (w5,())) (some ((-1),()))
def gt(n:Nat):Rw:=⟨203,pV [.ro .int,.int],pS [.int],fun x=>Jq n x.1.2 x.2.1⟩
def lm(n:Nat):LS:=AI ⟨2,[0,1,7,8],[],[],[4],[]⟩ 19 [0,1,7,8] 0 (pD [.ro .int,.int,.int,.int]) [] (fun m x k=>IJ n m x.1.1.2 x.1.2.1 x.1.2.2.1 x.1.2.2.2.1 (fun w0=>k .ret (eS 19 [4] [.int w0] 0 [])) (k (.exit 0) (eS 19 [] [] 0 [])))
theorem US(n:Nat):RO (gt n):=
 rL ⟨Go.Proofs.Tryz.f203,⟨[],[],[]⟩,0⟩ [lm n] n en Go.Proofs.Tryz.func203 (by kernel_rfl) ⟨AJ (fun m x k=>by kernel_rfl) (fun _ _=>rfl),trivial⟩ (fun x=>by kernel_rfl)
def GM(n:Nat)(a0:List Int)(a1:Int):Option (Bool×Unit):=(Jq n a0 a1).bind fun r1=>some ((decide (0≤r1.1)),())
def gN(n:Nat):Rw:=⟨156,pV [.ro .int,.int],pS [.bool],fun x=>GM n x.1.2 x.2.1⟩
theorem NK(n:Nat):RO (gN n):=
 rE ⟨Go.Proofs.Tryz.f156,⟨[(1,[(2,cl 2 .int 0)])],[],[]⟩,0⟩ n (ec (US n) en) Go.Proofs.Tryz.func156 (by kernel_rfl) (fun x=>by kernel_rfl)
def OS(n:Nat)(a0:Lock)(a1_0:Int):Option (Bool×Unit):=(GM n a0.Waits a1_0).bind fun r1=>some (r1.1,())
def cL(n:Nat):Rw:=⟨223,pV [EJ,.rp (pD [.int]) 0],pS [.bool],fun x=>OS n (EX x.1) x.2.1.1⟩
theorem cM(n:Nat):RO (cL n):=
 rE ⟨Go.Proofs.Tryz.f223,⟨[(0,[(0,.slot 0 .int)]),(1,[(3,cl 2 .bool 0)])],[],[]⟩,1⟩ n (ec (NK n) en) Go.Proofs.Tryz.func223 (by kernel_rfl) (fun x=>by kernel_rfl)
def ID{α:Type}(n:Nat):Nat→List Lock→Int→Int→Int→(Int→Option α)→(Option α)→Option α|0,_,_,_,_,_,_=>none|m0+1,v1,v2,v3,v4,k0_0,k0_1=>cond (decide (v4<v3)) (cond (decide (0≤v4)&&decide (v4<(v1.length:Int))) ((OS n (List.getD v1 (Int.toNat v4) (Kd.dflt .lock)) v2).bind fun r5=>cond r5.1 (k0_0 v4) (ID n m0 v1 v2 v3 (w64 (v4+1)) k0_0 k0_1)) none) k0_1
def L5(n:Nat)(a0:List Lock)(a1_0_0:Int):Option (Int×Unit):=ID n n a0 a1_0_0 (a0.length:Int) 0 (fun w6=>some (w6,())) (some ((-1),()))
def gf(n:Nat):Rw:=⟨158,pV [.ro .lock,.clo 223 (pD [.rp (pD [.int]) 0])],pS [.int],fun x=>L5 n x.1.2 x.2.1.1.1⟩
def lf(n:Nat):LS:=AI ⟨2,[0,1,7,8],[],[],[4],[]⟩ 19 [0,1,7,8] 0 (pD [.ro .lock,.clo 223 (pD [.rp (pD [.int]) 0]),.int,.int]) [] (fun m x k=>ID n m x.1.1.2 x.1.2.1.1.1 x.1.2.2.1 x.1.2.2.2.1 (fun w0=>k .ret (eS 19 [4] [.int w0] 0 [])) (k (.exit 0) (eS 19 [] [] 0 [])))
theorem gg(n:Nat):RO (gf n):=
 rL ⟨Go.Proofs.Tryz.f158,⟨[(4,[(5,cl 1 .bool 0)])],[],[]⟩,0⟩ [lf n] n (ec (cM n) en) Go.Proofs.Tryz.func158 (by kernel_rfl) ⟨AJ (fun m x k=>by kernel_rfl) (fun _ _=>rfl),trivial⟩ (fun x=>by kernel_rfl)
def DU(n:Nat)(a0:List Lock)(a1:Int):Option (Int×Unit):=(L5 n a0 a1).bind fun r1=>some (r1.1,())
def cK(n:Nat):Rw:=⟨195,pV [.ro .lock,.int],pS [.int],fun x=>DU n x.1.2 x.2.1⟩
theorem Ij(n:Nat):RO (cK n):=
 rE ⟨Go.Proofs.Tryz.f195,⟨[(0,[(0,.slot 0 .int)]),(1,[(2,cl 2 .int 0)])],[],[]⟩,1⟩ n (ec (gg n) en) Go.Proofs.Tryz.func195 (by kernel_rfl) (fun x=>by kernel_rfl)
def D1{α:Type}(n:Nat):Nat→List Lock→Int→List Int→(List Int→Option α)→(List Int→Option α)→Option α|0,_,_,_,_,_=>none|m0+1,v1,v2,v3,k0_0,k0_1=>(DU n v1 v2).bind fun r4=>cond (decide (r4.1<0)) (k0_0 v3) (cond (decide (0≤r4.1)&&decide (r4.1<(v1.length:Int))) ((GM n v3 ((List.getD v1 (Int.toNat r4.1) (Kd.dflt .lock)).Owner)).bind fun r5=>cond r5.1 (k0_1 v3) (let e6:=([(List.getD v1 (Int.toNat r4.1) (Kd.dflt .lock)).Owner]:List Int);cond (decide ((v3).length+(e6).length≤lim)) (D1 n m0 v1 ((List.getD v1 (Int.toNat r4.1) (Kd.dflt .lock)).Owner) (v3++e6) k0_0 k0_1) none)) none)
def HM(n:Nat)(a0:List Lock)(a1:Int):Option ((List Int×Bool×Unit)×Unit):=D1 n n a0 a1 ([a1]:List Int) (fun w7=>some ((w7,true,()),())) (fun w8=>some (([],false,()),()))
def cV(n:Nat):Rw:=⟨157,pV [.ro .lock,.int],q26,fun x=>HM n x.1.2 x.2.1⟩
def kk(n:Nat):LS:=AI ⟨2,[0,1,6],[(.t 6,1,.int)],[2,3],[4,5],[1,2,3]⟩ 28 [0,1,6] 4133 (pD [.ro .lock,.int,.bor 1]) [.root .int] (fun m x k=>D1 n m x.1.1.2 x.1.2.1 x.2.1 (fun w0=>k .ret (eS 28 [4,5] [.bor 1,.bool true] 4133 [.root .int w0 .ok])) (fun w0=>k .ret (eS 28 [4,5] [.nil,.bool false] 4133 [.root .int w0 .ok])))
theorem Pq(n:Nat):RO (cV n):=
 rL ⟨Go.Proofs.Tryz.f157,⟨[(1,[(1,.slot 0 .int)]),(2,[(2,cl 2 .int 0)]),(6,[(2,cl 2 .bool 0)]),(8,[(2,.slot 2 .int),(3,.slot 3 .int)])],[],[]⟩,4⟩ [kk n] n (ec (Ij n) (ec (NK n) en)) Go.Proofs.Tryz.func157 (by kernel_rfl) ⟨AJ (fun m x k=>by kernel_rfl) (fun _ _=>rfl),trivial⟩ (fun x=>by kernel_rfl)
def Dy{α:Type}(n:Nat):Nat→List Lock→List Int→List Lock→Int→Int→List Int→Int→Int→(List Int→Option α)→(List Int→Option α)→Option α|0,_,_,_,_,_,_,_,_,_,_=>none|m1+1,v10,v11,v12,v13,v14,v15,v16,v17,k1_0,k1_1=>cond (decide (v17<v16)) (cond (decide (0≤v17)&&decide (v17<(v15.length:Int))) ((HO (List.getD v15 (Int.toNat v17) (Kd.dflt .int))).bind fun r18=>cond (!r18.1) (k1_0 v11) ((GM n v11 (List.getD v15 (Int.toNat v17) (Kd.dflt .int))).bind fun r19=>cond r19.1 (k1_0 v11) (let e20:=([(List.getD v15 (Int.toNat v17) (Kd.dflt .int))]:List Int);cond (decide ((v11).length+(e20).length≤lim)) (Dy n m1 v10 (v11++e20) v12 v13 v14 v15 v16 (w64 (v17+1)) k1_0 k1_1) none))) none) (k1_1 v11)
def Ce{α:Type}(n:Nat):Nat→List Lock→List Int→List Lock→Int→Int→(List Int→Option α)→(List Int→Option α)→(List Int→Option α)→Option α|0,_,_,_,_,_,_,_,_=>none|m0+1,v1,v2,v3,v4,v5,k0_0,k0_1,k0_2=>cond (decide (v5<v4)) (cond (decide (0≤v5)&&decide (v5<(v3.length:Int))) ((Ap ((List.getD v3 (Int.toNat v5) (Kd.dflt .lock)).Owner) 0 1000).bind fun r6=>cond (!r6.1) (k0_0 v2) (let e7:=(decide ((List.getD v3 (Int.toNat v5) (Kd.dflt .lock)).Owner=0));cond e7 (let e8:=(((List.getD v3 (Int.toNat v5) (Kd.dflt .lock)).Waits).length:Int);cond (decide (0<e8)) (k0_0 v2) (let e9:=(((List.getD v3 (Int.toNat v5) (Kd.dflt .lock)).Waits).length:Int);Dy n n v1 v2 v3 v4 v5 ((List.getD v3 (Int.toNat v5) (Kd.dflt .lock)).Waits) e9 0 (fun w21=>k0_1 w21) (fun w22=>Ce n m0 v1 w22 v3 v4 (w64 (v5+1)) k0_0 k0_1 k0_2))) (let e23:=(((List.getD v3 (Int.toNat v5) (Kd.dflt .lock)).Waits).length:Int);Dy n n v1 v2 v3 v4 v5 ((List.getD v3 (Int.toNat v5) (Kd.dflt .lock)).Waits) e23 0 (fun w24=>k0_1 w24) (fun w25=>Ce n m0 v1 w25 v3 v4 (w64 (v5+1)) k0_0 k0_1 k0_2)))) none) (k0_2 v2)
def Ge{α:Type}(n:Nat):Nat→List Lock→List Int→Int→Int→(Option α)→(Option α)→Option α|0,_,_,_,_,_,_=>none|m2+1,v29,v30,v31,v32,k2_0,k2_1=>cond (decide (v32<v31)) (cond (decide (0≤v32)&&decide (v32<(v30.length:Int))) ((HM n v29 (List.getD v30 (Int.toNat v32) (Kd.dflt .int))).bind fun r33=>cond (!r33.1.2.1) k2_0 (Ge n m2 v29 v30 v31 (w64 (v32+1)) k2_0 k2_1)) none) k2_1
def FE(n:Nat)(a0:List Lock):Option (Bool×Unit):=Ce n n a0 ([]:List Int) a0 (a0.length:Int) 0 (fun w26=>some (false,())) (fun w27=>some (false,())) (fun w28=>Ge n n a0 w28 (w28.length:Int) 0 (some (false,())) (some ((decide ((a0.length:Int)≤5)),())))
def au(n:Nat):Rw:=⟨90,pV [.ro .lock],pS [.bool],fun x=>FE n x.1.2⟩
def kO(n:Nat):LS:=AI ⟨3,([0,3,13,14,15]),[(.t 3,1,.int)],[2,3,4,5],[0,2,3],[1,3,4,5]⟩ 73 [0,3,13,14,15] 413333 (pD [.ro .lock,.bor 1,.ro .lock,.int,.int]) [.root .int] (fun m x k=>Ce n m x.1.1.2 x.2.1 x.1.2.2.1.2 x.1.2.2.2.1 x.1.2.2.2.2.1 (fun w0=>k .ret (eS 73 [0,2,3] [.ro x.1.1.1 .lock x.1.1.2,.bool false,.bor 1] 414133 [.root .int w0 .ok,.fresh])) (fun w0=>k .ret (eS 73 [0,2,3] [.ro x.1.1.1 .lock x.1.1.2,.bool false,.bor 3] 414133 [.dead,.root .int w0 .ok])) (fun w0=>k (.exit 0) (eS 73 [0,3] [.ro x.1.1.1 .lock x.1.1.2,.bor 1] 414133 [.root .int w0 .ok,.fresh])))
def kP(n:Nat):LS:=AI ⟨8,([0,3,13,14,15,35,36,37]),[(.t 3,3,.int)],[4,5],([0,2,3,13,14,15]),[3,4,5]⟩ 73 [0,3,13,14,15,35,36,37] 444133 (pD [.ro .lock,.bor 3,.ro .lock,.int,.int,.ro .int,.int,.int]) [.root .int] (fun m x k=>Dy n m x.1.1.2 x.2.1 x.1.2.2.1.2 x.1.2.2.2.1 x.1.2.2.2.2.1 x.1.2.2.2.2.2.1.2 x.1.2.2.2.2.2.2.1 x.1.2.2.2.2.2.2.2.1 (fun w0=>k .ret (eS 73 [0,2,3,13,14,15] [.ro x.1.1.1 .lock x.1.1.2,.bool false,.bor 3,.ro x.1.2.2.1.1 .lock x.1.2.2.1.2,.int x.1.2.2.2.1,.int x.1.2.2.2.2.1] 444133 [.root .int w0 .ok])) (fun w0=>k (.exit 2) (eS 73 [0,3,13,14,15] [.ro x.1.1.1 .lock x.1.1.2,.bor 3,.ro x.1.2.2.1.1 .lock x.1.2.2.1.2,.int x.1.2.2.2.1,.int x.1.2.2.2.2.1] 444133 [.root .int w0 .ok])))
def kQ(n:Nat):LS:=AI ⟨16,([0,55,56,57]),[],[],[0,2],[3,4,5]⟩ 73 [0,55,56,57] 414333 (pD [.ro .lock,.bor 1,.int,.int]) [.root .int] (fun m x k=>Ge n m x.1.1.2 x.2.1 x.1.2.2.1 x.1.2.2.2.1 (k .ret (eS 73 [0,2] [.ro x.1.1.1 .lock x.1.1.2,.bool false] 444333 [])) (k (.exit 4) (eS 73 [0] [.ro x.1.1.1 .lock x.1.1.2] 444333 [])))
theorem KO(n:Nat):RO (au n):=
 rL ⟨Go.Proofs.Tryz.f90,⟨[(1,[(0,.slot 0 .int)]),(4,[(2,.slot 2 .int)]),(5,[(2,cl 3 .bool 0)]),(10,[(1,cl 1 .bool 0),(6,cl 2 .bool 0)]),(12,[(2,.slot 4 .int),(3,.slot 5 .int)]),(18,[(2,q28)])],[],[]⟩,6⟩ [kO n,kP n,kQ n] n (ec Bc (ec Ps (ec (NK n) (ec (Pq n) en)))) Go.Proofs.Tryz.func90 (by kernel_rfl) ⟨AJ (fun m x k=>by kernel_rfl) (fun _ _=>rfl),AJ (fun m x k=>by kernel_rfl) (fun _ _=>rfl),AJ (fun m x k=>by kernel_rfl) (fun _ _=>rfl),trivial⟩ (fun x=>by kernel_rfl)
def OR(a0:Task)(a1_0:Int):Option (Bool×Unit):=some ((decide (a0.No=a1_0)),())
def cE:Rw:=⟨177,pV [Ac,.rp (pD [.int]) 0],pS [.bool],fun x=>OR (AK x.1) x.2.1.1⟩
theorem cF:RO (cE):=
 rE ⟨Go.Proofs.Tryz.f177,⟨[(0,[(0,.slot 0 .int)])],[],[]⟩,1⟩ 0 en Go.Proofs.Tryz.func177 (by kernel_rfl) (fun x=>by kernel_rfl)
def IG{α:Type}(n:Nat):Nat→List Task→Int→Int→Int→(Int→Option α)→(Option α)→Option α|0,_,_,_,_,_,_=>none|m0+1,v1,v2,v3,v4,k0_0,k0_1=>cond (decide (v4<v3)) (cond (decide (0≤v4)&&decide (v4<(v1.length:Int))) ((OR (List.getD v1 (Int.toNat v4) (Kd.dflt .task)) v2).bind fun r5=>cond r5.1 (k0_0 v4) (IG n m0 v1 v2 v3 (w64 (v4+1)) k0_0 k0_1)) none) k0_1
def L6(n:Nat)(a0:List Task)(a1_0_0:Int):Option (Int×Unit):=IG n n a0 a1_0_0 (a0.length:Int) 0 (fun w6=>some (w6,())) (some ((-1),()))
def gl(n:Nat):Rw:=⟨154,pV [.ro .task,.clo 177 (pD [.rp (pD [.int]) 0])],pS [.int],fun x=>L6 n x.1.2 x.2.1.1.1⟩
def li(n:Nat):LS:=AI ⟨2,[0,1,7,8],[],[],[4],[]⟩ 19 [0,1,7,8] 0 (pD [.ro .task,.clo 177 (pD [.rp (pD [.int]) 0]),.int,.int]) [] (fun m x k=>IG n m x.1.1.2 x.1.2.1.1.1 x.1.2.2.1 x.1.2.2.2.1 (fun w0=>k .ret (eS 19 [4] [.int w0] 0 [])) (k (.exit 0) (eS 19 [] [] 0 [])))
theorem gm(n:Nat):RO (gl n):=
 rL ⟨Go.Proofs.Tryz.f154,⟨[(4,[(5,cl 1 .bool 0)])],[],[]⟩,0⟩ [li n] n (ec cF en) Go.Proofs.Tryz.func154 (by kernel_rfl) ⟨AJ (fun m x k=>by kernel_rfl) (fun _ _=>rfl),trivial⟩ (fun x=>by kernel_rfl)
def CQ(n:Nat)(a0:List Task)(a1:Int):Option (Int×Unit):=(L6 n a0 a1).bind fun r1=>some (r1.1,())
def cD(n:Nat):Rw:=⟨131,pV [.ro .task,.int],pS [.int],fun x=>CQ n x.1.2 x.2.1⟩
theorem EG(n:Nat):RO (cD n):=
 rE ⟨Go.Proofs.Tryz.f131,⟨[(0,[(0,.slot 0 .int)]),(1,[(2,cl 2 .int 0)])],[],[]⟩,1⟩ n (ec (gm n) en) Go.Proofs.Tryz.func131 (by kernel_rfl) (fun x=>by kernel_rfl)
def D3{α:Type}(n:Nat):Nat→List Task→Int→List Int→Int→Int→(Option α)→(Option α)→Option α|0,_,_,_,_,_,_,_=>none|m0+1,v1,v2,v3,v4,v5,k0_0,k0_1=>cond (decide (v5<v4)) (cond (decide (0≤v5)&&decide (v5<(v3.length:Int))) (cond (decide ((List.getD v3 (Int.toNat v5) (Kd.dflt .int))=0)) (D3 n m0 v1 v2 v3 v4 (w64 (v5+1)) k0_0 k0_1) ((CQ n v1 (List.getD v3 (Int.toNat v5) (Kd.dflt .int))).bind fun r6=>cond (decide (r6.1<0)) k0_0 (cond (decide (0≤v2)) (cond (decide (0≤r6.1)&&decide (r6.1<(v1.length:Int))) (let e7:=(!(decide ((List.getD v1 (Int.toNat r6.1) (Kd.dflt .task)).Cpu=v2)));cond e7 k0_0 (cond (decide (0≤r6.1)&&decide (r6.1<(v1.length:Int))) (D3 n m0 v1 ((List.getD v1 (Int.toNat r6.1) (Kd.dflt .task)).Cpu) v3 v4 (w64 (v5+1)) k0_0 k0_1) none)) none) (cond (decide (0≤r6.1)&&decide (r6.1<(v1.length:Int))) (D3 n m0 v1 ((List.getD v1 (Int.toNat r6.1) (Kd.dflt .task)).Cpu) v3 v4 (w64 (v5+1)) k0_0 k0_1) none)))) none) k0_1
def La(n:Nat)(a0:List Task)(a1:Lock):Option (Bool×Unit):=cond (decide ((([a1.Owner]:List Int)).length+(a1.Waits).length≤lim)) (D3 n n a0 (-1) (([a1.Owner]:List Int)++a1.Waits) (((([a1.Owner]:List Int)++a1.Waits)).length:Int) 0 (some (false,())) (some (true,()))) none
def cx(n:Nat):Rw:=⟨93,pV [.ro .task,EJ],pS [.bool],fun x=>La n x.1.2 (EX x.2.1)⟩
def kr(n:Nat):LS:=AI ⟨3,([0,5,14,15,16]),[],[],[4],[]⟩ 46 [0,5,14,15,16] 441 (pD [.ro .task,.int,.bor 2,.int,.int]) [.root .int] (fun m x k=>D3 n m x.1.1.2 x.1.2.1 x.2.1 x.1.2.2.2.1 x.1.2.2.2.2.1 (k .ret (eS 46 [4] [.bool false] 444 [])) (k (.exit 0) (eS 46 [] [] 444 [])))
theorem cy(n:Nat):RO (cx n):=
 rL ⟨Go.Proofs.Tryz.f93,⟨[(0,[(0,.slot 0 .int)]),(2,[(2,.slot 1 .int),(5,.slot 2 .int)]),(6,[(2,cl 2 .int 0)])],[],[]⟩,3⟩ [kr n] n (ec (EG n) en) Go.Proofs.Tryz.func93 (by kernel_rfl) ⟨AJ (fun m x k=>by kernel_rfl) (fun _ _=>rfl),trivial⟩ (fun x=>by kernel_rfl)
def OO(n:Nat)(a0:Lock)(a1:Sys):Option (Bool×Unit):=(La n a1.Tasks a0).bind fun r1=>some ((!r1.1),())
def bb(n:Nat):Rw:=⟨92,pV [EJ,.rp Af 0],pS [.bool],fun x=>OO n (EX x.1) (AX x.2.1)⟩
theorem bc(n:Nat):RO (bb n):=
 rE ⟨Go.Proofs.Tryz.f92,⟨[(0,[(0,.slot 0 .int)]),(1,[(3,cl 2 .bool 0)])],[],[]⟩,1⟩ n (ec (cy n) en) Go.Proofs.Tryz.func92 (by kernel_rfl) (fun x=>by kernel_rfl)
def IC{α:Type}(n:Nat):Nat→List Lock→Sys→Int→Int→(Int→Option α)→(Option α)→Option α|0,_,_,_,_,_,_=>none|m0+1,v1,v2,v3,v4,k0_0,k0_1=>cond (decide (v4<v3)) (cond (decide (0≤v4)&&decide (v4<(v1.length:Int))) ((OO n (List.getD v1 (Int.toNat v4) (Kd.dflt .lock)) v2).bind fun r5=>cond r5.1 (k0_0 v4) (IC n m0 v1 v2 v3 (w64 (v4+1)) k0_0 k0_1)) none) k0_1
def Oh(n:Nat)(a0:List Lock)(a1_0:Sys):Option (Int×Unit):=IC n n a0 a1_0 (a0.length:Int) 0 (fun w6=>some (w6,())) (some ((-1),()))
def gd(n:Nat):Rw:=⟨158,pV [.ro .lock,.clo 92 (pD [.rp Af 0])],pS [.int],fun x=>Oh n x.1.2 (AX x.2.1.1)⟩
def ld(n:Nat):LS:=AI ⟨2,[0,1,7,8],[],[],[4],[]⟩ 19 [0,1,7,8] 0 (pD [.ro .lock,.clo 92 (pD [.rp Af 0]),.int,.int]) [] (fun m x k=>IC n m x.1.1.2 (AX x.1.2.1.1) x.1.2.2.1 x.1.2.2.2.1 (fun w0=>k .ret (eS 19 [4] [.int w0] 0 [])) (k (.exit 0) (eS 19 [] [] 0 [])))
theorem ge(n:Nat):RO (gd n):=
 rL ⟨Go.Proofs.Tryz.f158,⟨[(4,[(5,cl 1 .bool 0)])],[],[]⟩,0⟩ [ld n] n (ec (bc n) en) Go.Proofs.Tryz.func158 (by kernel_rfl) ⟨AJ (fun m x k=>by kernel_rfl) (fun _ _=>rfl),trivial⟩ (fun x=>by kernel_rfl)
def Lw(n:Nat)(a0:List Lock)(a1_0:Sys):Option (Bool×Unit):=(Oh n a0 a1_0).bind fun r1=>some ((decide (0≤r1.1)),())
def gF(n:Nat):Rw:=⟨91,pV [.ro .lock,.clo 92 (pD [.rp Af 0])],pS [.bool],fun x=>Lw n x.1.2 (AX x.2.1.1)⟩
theorem gG(n:Nat):RO (gF n):=
 rE ⟨Go.Proofs.Tryz.f91,⟨[(1,[(2,cl 2 .int 0)])],[],[]⟩,0⟩ n (ec (ge n) en) Go.Proofs.Tryz.func91 (by kernel_rfl) (fun x=>by kernel_rfl)
def LZ(a0:Ghost)(a1:Int):Option (Bool×Unit):=(Ap a0.Cpu 0 (w64 (a1-1))).bind fun r1=>cond r1.1 ((FG a0.S).bind fun r2=>cond r2.1 ((HP a0.Until).bind fun r3=>some (r3.1,())) (some (false,()))) (some (false,()))
def ck:Rw:=⟨96,pV [G7,.int],pS [.bool],fun x=>LZ (FC x.1) x.2.1⟩
theorem cm:RO (ck):=
 rE ⟨Go.Proofs.Tryz.f96,⟨[(0,[(0,.slot 0 .int)]),(1,[(4,cl 3 .bool 0),(8,cl 1 .bool 0),(13,cl 1 .bool 0)])],[],[]⟩,1⟩ 0 (ec Bc (ec NB (ec UI en))) Go.Proofs.Tryz.func96 (by kernel_rfl) (fun x=>by kernel_rfl)
def OP(a0:Ghost)(a1:Sys):Option (Bool×Unit):=(LZ a0 a1.Cpus).bind fun r1=>some ((!r1.1),())
def be:Rw:=⟨95,pV [G7,.rp Af 0],pS [.bool],fun x=>OP (FC x.1) (AX x.2.1)⟩
theorem bf:RO (be):=
 rE ⟨Go.Proofs.Tryz.f95,⟨[(0,[(0,.slot 0 .int)]),(1,[(3,cl 2 .bool 0)])],[],[]⟩,1⟩ 0 (ec cm en) Go.Proofs.Tryz.func95 (by kernel_rfl) (fun x=>by kernel_rfl)
def H9{α:Type}(n:Nat):Nat→List Ghost→Sys→Int→Int→(Int→Option α)→(Option α)→Option α|0,_,_,_,_,_,_=>none|m0+1,v1,v2,v3,v4,k0_0,k0_1=>cond (decide (v4<v3)) (cond (decide (0≤v4)&&decide (v4<(v1.length:Int))) ((OP (List.getD v1 (Int.toNat v4) (Kd.dflt .ghost)) v2).bind fun r5=>cond r5.1 (k0_0 v4) (H9 n m0 v1 v2 v3 (w64 (v4+1)) k0_0 k0_1)) none) k0_1
def Og(n:Nat)(a0:List Ghost)(a1_0:Sys):Option (Int×Unit):=H9 n n a0 a1_0 (a0.length:Int) 0 (fun w6=>some (w6,())) (some ((-1),()))
def gW(n:Nat):Rw:=⟨159,pV [.ro .ghost,.clo 95 (pD [.rp Af 0])],pS [.int],fun x=>Og n x.1.2 (AX x.2.1.1)⟩
def lY(n:Nat):LS:=AI ⟨2,[0,1,7,8],[],[],[4],[]⟩ 19 [0,1,7,8] 0 (pD [.ro .ghost,.clo 95 (pD [.rp Af 0]),.int,.int]) [] (fun m x k=>H9 n m x.1.1.2 (AX x.1.2.1.1) x.1.2.2.1 x.1.2.2.2.1 (fun w0=>k .ret (eS 19 [4] [.int w0] 0 [])) (k (.exit 0) (eS 19 [] [] 0 [])))
theorem gX(n:Nat):RO (gW n):=
 rL ⟨Go.Proofs.Tryz.f159,⟨[(4,[(5,cl 1 .bool 0)])],[],[]⟩,0⟩ [lY n] n (ec bf en) Go.Proofs.Tryz.func159 (by kernel_rfl) ⟨AJ (fun m x k=>by kernel_rfl) (fun _ _=>rfl),trivial⟩ (fun x=>by kernel_rfl)
def Lv(n:Nat)(a0:List Ghost)(a1_0:Sys):Option (Bool×Unit):=(Og n a0 a1_0).bind fun r1=>some ((decide (0≤r1.1)),())
def gB(n:Nat):Rw:=⟨94,pV [.ro .ghost,.clo 95 (pD [.rp Af 0])],pS [.bool],fun x=>Lv n x.1.2 (AX x.2.1.1)⟩
theorem gC(n:Nat):RO (gB n):=
 rE ⟨Go.Proofs.Tryz.f94,⟨[(1,[(2,cl 2 .int 0)])],[],[]⟩,0⟩ n (ec (gX n) en) Go.Proofs.Tryz.func94 (by kernel_rfl) (fun x=>by kernel_rfl)
def FT{α:Type}(n:Nat):Nat→Int→Sys→List Share→List Task→Int→Int→(List Share→Option α)→Option α|0,_,_,_,_,_,_,_=>none|m0+1,v1,v2,v3,v4,v5,v6,k0_0=>cond (decide (v6<v5)) (cond (decide (0≤v6)&&decide (v6<(v4.length:Int))) (let e7:=(decide ((List.getD v4 (Int.toNat v6) (Kd.dflt .task)).Class=1));cond e7 (let e8:=(decide ((List.getD v4 (Int.toNat v6) (Kd.dflt .task)).Cpu=v1));cond e8 (let e9:=([(⟨(List.getD v4 (Int.toNat v6) (Kd.dflt .task)).Q,(List.getD v4 (Int.toNat v6) (Kd.dflt .task)).P⟩:Share)]:List Share);cond (decide ((v3).length+(e9).length≤lim)) (FT n m0 v1 v2 (v3++e9) v4 v5 (w64 (v6+1)) k0_0) none) (FT n m0 v1 v2 v3 v4 v5 (w64 (v6+1)) k0_0)) (FT n m0 v1 v2 v3 v4 v5 (w64 (v6+1)) k0_0)) none) (k0_0 v3)
def EZ{α:Type}(n:Nat):Nat→Int→List Share→List Ghost→Int→Int→(List Share→Option α)→Option α|0,_,_,_,_,_,_=>none|m1+1,v11,v12,v13,v14,v15,k1_0=>cond (decide (v15<v14)) (cond (decide (0≤v15)&&decide (v15<(v13.length:Int))) (let e16:=(decide ((List.getD v13 (Int.toNat v15) (Kd.dflt .ghost)).Cpu=v11));cond e16 (let e17:=([(List.getD v13 (Int.toNat v15) (Kd.dflt .ghost)).S]:List Share);cond (decide ((v12).length+(e17).length≤lim)) (EZ n m1 v11 (v12++e17) v13 v14 (w64 (v15+1)) k1_0) none) (EZ n m1 v11 v12 v13 v14 (w64 (v15+1)) k1_0)) none) (k1_0 v12)
def LH(n:Nat)(a0:Sys)(a1:Int):Option (List Share×Unit):=FT n n a1 a0 ([]:List Share) a0.Tasks (a0.Tasks.length:Int) 0 (fun w10=>EZ n n a1 w10 a0.Ghosts (a0.Ghosts.length:Int) 0 (fun w18=>some (w18,())))
def bK(n:Nat):Rw:=⟨98,pV [Ae,.int],q30,fun x=>LH n (AX x.1) x.2.1⟩
def kR(n:Nat):LS:=AI ⟨3,q44,[(.t 5,2,.share)],[3,4,5],[1,2,5],q45⟩ 54 [1,2,5,12,13,14] 1413333333 (pD [.int,.ptr 0 0,.bor 2,.ro .task,.int,.int]) [.box Af,.root .share] (fun m x k=>FT n m x.1.1 (AX x.2.1) x.2.2.1 x.1.2.2.2.1.2 x.1.2.2.2.2.1 x.1.2.2.2.2.2.1 (fun w0=>k (.exit 0) (eS 54 [1,2,5] [.int x.1.1,.ptr 0 0,.bor 2] 1413333333 [.box (Af.make x.2.1),.root .share w0 .ok])))
def kS(n:Nat):LS:=AI ⟨9,q46,[(.t 5,6,.share)],[7,8,9],[5],q47⟩ 54 [1,5,37,38,39] 4443331333 (pD [.int,.bor 6,.ro .ghost,.int,.int]) [.root .share] (fun m x k=>EZ n m x.1.1 x.2.1 x.1.2.2.1.2 x.1.2.2.2.1 x.1.2.2.2.2.1 (fun w0=>k (.exit 2) (eS 54 [5] [.bor 6] 4443331333 [.root .share w0 .ok])))
theorem bN(n:Nat):RO (bK n):=
 rL ⟨Go.Proofs.Tryz.f98,⟨[(0,[(0,.slot 0 .int)]),(1,[(0,.slot 1 .share)]),(4,[(2,.slot 3 .int)]),(6,[(6,.slot 4 .share),(7,.slot 5 .share)]),(10,[(2,.slot 7 .int)]),(12,[(3,.slot 8 .share),(4,.slot 9 .share)])],[],[]⟩,10⟩ [kR n,kS n] n en Go.Proofs.Tryz.func98 (by kernel_rfl) ⟨AJ (fun m x k=>by kernel_rfl) (fun _ _=>rfl),AJ (fun m x k=>by kernel_rfl) (fun _ _=>rfl),trivial⟩ (fun x=>by kernel_rfl)
def OM(a0:Share):Option (Bool×Unit):=(FG a0).bind fun r1=>some ((!r1.1),())
def bT:Rw:=⟨205,pV [G8],pS [.bool],fun x=>OM (EL x.1)⟩
theorem bU:RO (bT):=
 rE ⟨Go.Proofs.Tryz.f205,⟨[(0,[(0,.slot 0 .int)]),(1,[(1,cl 1 .bool 0)])],[],[]⟩,1⟩ 0 (ec NB en) Go.Proofs.Tryz.func205 (by kernel_rfl) (fun x=>by kernel_rfl)
def IE{α:Type}(n:Nat):Nat→List Share→Int→Int→(Int→Option α)→(Option α)→Option α|0,_,_,_,_,_=>none|m0+1,v1,v2,v3,k0_0,k0_1=>cond (decide (v3<v2)) (cond (decide (0≤v3)&&decide (v3<(v1.length:Int))) ((OM (List.getD v1 (Int.toNat v3) (Kd.dflt .share))).bind fun r4=>cond r4.1 (k0_0 v3) (IE n m0 v1 v2 (w64 (v3+1)) k0_0 k0_1)) none) k0_1
def Oi(n:Nat)(a0:List Share):Option (Int×Unit):=IE n n a0 (a0.length:Int) 0 (fun w5=>some (w5,())) (some ((-1),()))
def gh(n:Nat):Rw:=⟨231,pV [.ro .share,.clo 205 .one],pS [.int],fun x=>Oi n x.1.2⟩
def lg(n:Nat):LS:=AI ⟨2,[0,1,7,8],[],[],[4],[]⟩ 19 [0,1,7,8] 0 (pD [.ro .share,.clo 205 .one,.int,.int]) [] (fun m x k=>IE n m x.1.1.2 x.1.2.2.1 x.1.2.2.2.1 (fun w0=>k .ret (eS 19 [4] [.int w0] 0 [])) (k (.exit 0) (eS 19 [] [] 0 [])))
theorem gi(n:Nat):RO (gh n):=
 rL ⟨Go.Proofs.Tryz.f231,⟨[(4,[(5,cl 1 .bool 0)])],[],[]⟩,0⟩ [lg n] n (ec bU en) Go.Proofs.Tryz.func231 (by kernel_rfl) ⟨AJ (fun m x k=>by kernel_rfl) (fun _ _=>rfl),trivial⟩ (fun x=>by kernel_rfl)
def Lx(n:Nat)(a0:List Share):Option (Bool×Unit):=(Oi n a0).bind fun r1=>some ((decide (0≤r1.1)),())
def gH(n:Nat):Rw:=⟨204,pV [.ro .share,.clo 205 .one],pS [.bool],fun x=>Lx n x.1.2⟩
theorem gI(n:Nat):RO (gH n):=
 rE ⟨Go.Proofs.Tryz.f204,⟨[(1,[(2,cl 2 .int 0)])],[],[]⟩,0⟩ n (ec (gi n) en) Go.Proofs.Tryz.func204 (by kernel_rfl) (fun x=>by kernel_rfl)
def Hq{α:Type}(n:Nat):Nat→Int→Int→(Int→Option α)→Option α|0,_,_,_=>none|m0+1,v1,v2,k0_0=>cond (!(decide (v2=0))) (cond (decide (v2=0)) none (Hq n m0 v2 (Int.tmod v1 v2) k0_0)) (k0_0 v1)
def LY(n:Nat)(a0:Int)(a1:Int):Option (Int×Unit):=Hq n n a0 a1 (fun w3=>some ((if(w64 (0-w3))>w3 then(w64 (0-w3))else w3),()))
def ci(n:Nat):Rw:=⟨206,pV [.int,.int],pS [.int],fun x=>LY n x.1 x.2.1⟩
def kq(n:Nat):LS:=AI ⟨1,[0,1],[],[],[0],[]⟩ 15 [0,1] 0 (pD [.int,.int]) [] (fun m x k=>Hq n m x.1.1 x.1.2.1 (fun w0=>k (.exit 0) (eS 15 [0] [.int w0] 0 [])))
theorem cj(n:Nat):RO (ci n):=
 rL ⟨Go.Proofs.Tryz.f206,⟨[],[(2,dr 6 [])],[]⟩,0⟩ [kq n] n en Go.Proofs.Tryz.func206 (by kernel_rfl) ⟨AJ (fun m x k=>by kernel_rfl) (fun _ _=>rfl),trivial⟩ (fun x=>by kernel_rfl)
def He{α:Type}(n:Nat):Nat→Int→Int→List Share→Int→Int→(Int→Int→Option α)→Option α|0,_,_,_,_,_,_=>none|m0+1,v2,v3,v4,v5,v6,k0_0=>cond (decide (v6<v5)) (cond (decide (0≤v6)&&decide (v6<(v4.length:Int))) (let e7:=(w64 (v2*(List.getD v4 (Int.toNat v6) (Kd.dflt .share)).P));let e8:=(w64 ((List.getD v4 (Int.toNat v6) (Kd.dflt .share)).Q*v3));let e9:=(w64 (v3*(List.getD v4 (Int.toNat v6) (Kd.dflt .share)).P));(LY n (w64 (e7+e8)) e9).bind fun r10=>cond (decide (r10.1=0)) none (cond (decide (r10.1=0)) none (He n m0 (w64 (Int.tdiv (w64 (e7+e8)) r10.1)) (w64 (Int.tdiv e9 r10.1)) v4 v5 (w64 (v6+1)) k0_0))) none) (k0_0 v2 v3)
def LL(n:Nat)(a0:List Share):Option ((Int×Int×Bool×Unit)×Unit):=cond (decide (7<(a0.length:Int))) (some ((0,0,false,()),())) ((Lx n a0).bind fun r1=>cond r1.1 (some ((0,0,false,()),())) (He n n 0 1 a0 (a0.length:Int) 0 (fun w11 w12=>some ((w11,w12,true,()),()))))
def bS(n:Nat):Rw:=⟨162,pV [.ro .share],q34,fun x=>LL n x.1.2⟩
def kV(n:Nat):LS:=AI ⟨5,([5,6,17,18,19]),[],[0],[5,6],[0]⟩ 48 [5,6,17,18,19] 3 (pD [.int,.int,.ro .share,.int,.int]) [] (fun m x k=>He n m x.1.1 x.1.2.1 x.1.2.2.1.2 x.1.2.2.2.1 x.1.2.2.2.2.1 (fun w0 w1=>k (.exit 0) (eS 48 [5,6] [.int w0,.int w1] 3 [])))
theorem bV(n:Nat):RO (bS n):=
 rL ⟨Go.Proofs.Tryz.f162,⟨[(1,[(5,cl 2 .bool 0)]),(6,[(2,.slot 0 .int)]),(8,[(2,cl 2 .int 0)])],[(7,dr 15 [(1,[0],[]),(2,[0],[]),(4,[0],[]),(5,[0],[]),(10,[0],[]),(11,[0],[])]),(9,dr 8 [])],[]⟩,1⟩ [kV n] n (ec (gI n) (ec (cj n) en)) Go.Proofs.Tryz.func162 (by kernel_rfl) ⟨AJ (fun m x k=>by kernel_rfl) (fun _ _=>rfl),trivial⟩ (fun x=>by kernel_rfl)
def JH(n:Nat)(a0:List Share):Option (Bool×Unit):=(LL n a0).bind fun r1=>cond r1.1.2.2.1 (some ((decide (r1.1.1≤r1.1.2.1)),())) (some (false,()))
def ah(n:Nat):Rw:=⟨97,pV [.ro .share],pS [.bool],fun x=>JH n x.1.2⟩
theorem T2(n:Nat):RO (ah n):=
 rE ⟨Go.Proofs.Tryz.f97,⟨[(1,[(1,q36)])],[],[]⟩,0⟩ n (ec (bV n) en) Go.Proofs.Tryz.func97 (by kernel_rfl) (fun x=>by kernel_rfl)
def OQ(a0:Int):Option (Bool×Unit):=(Ap a0 0 100000000).bind fun r1=>some ((!r1.1),())
def bg:Rw:=⟨100,pV [.int],pS [.bool],fun x=>OQ x.1⟩
theorem bh:RO (bg):=
 rE ⟨Go.Proofs.Tryz.f100,⟨[(1,[(1,cl 3 .bool 0)])],[],[]⟩,0⟩ 0 (ec Bc en) Go.Proofs.Tryz.func100 (by kernel_rfl) (fun x=>by kernel_rfl)
def II{α:Type}(n:Nat):Nat→List Int→Int→Int→(Int→Option α)→(Option α)→Option α|0,_,_,_,_,_=>none|m0+1,v1,v2,v3,k0_0,k0_1=>cond (decide (v3<v2)) (cond (decide (0≤v3)&&decide (v3<(v1.length:Int))) ((OQ (List.getD v1 (Int.toNat v3) (Kd.dflt .int))).bind fun r4=>cond r4.1 (k0_0 v3) (II n m0 v1 v2 (w64 (v3+1)) k0_0 k0_1)) none) k0_1
def Ok(n:Nat)(a0:List Int):Option (Int×Unit):=II n n a0 (a0.length:Int) 0 (fun w5=>some (w5,())) (some ((-1),()))
def gq(n:Nat):Rw:=⟨163,pV [.ro .int,.clo 100 .one],pS [.int],fun x=>Ok n x.1.2⟩
def ll(n:Nat):LS:=AI ⟨2,[0,1,7,8],[],[],[4],[]⟩ 19 [0,1,7,8] 0 (pD [.ro .int,.clo 100 .one,.int,.int]) [] (fun m x k=>II n m x.1.1.2 x.1.2.2.1 x.1.2.2.2.1 (fun w0=>k .ret (eS 19 [4] [.int w0] 0 [])) (k (.exit 0) (eS 19 [] [] 0 [])))
theorem gr(n:Nat):RO (gq n):=
 rL ⟨Go.Proofs.Tryz.f163,⟨[(4,[(5,cl 1 .bool 0)])],[],[]⟩,0⟩ [ll n] n (ec bh en) Go.Proofs.Tryz.func163 (by kernel_rfl) ⟨AJ (fun m x k=>by kernel_rfl) (fun _ _=>rfl),trivial⟩ (fun x=>by kernel_rfl)
def Jo(n:Nat)(a0:List Int):Option (Bool×Unit):=(Ok n a0).bind fun r1=>some ((decide (0≤r1.1)),())
def gL(n:Nat):Rw:=⟨99,pV [.ro .int,.clo 100 .one],pS [.bool],fun x=>Jo n x.1.2⟩
theorem gM(n:Nat):RO (gL n):=
 rE ⟨Go.Proofs.Tryz.f99,⟨[(1,[(2,cl 2 .int 0)])],[],[]⟩,0⟩ n (ec (gr n) en) Go.Proofs.Tryz.func99 (by kernel_rfl) (fun x=>by kernel_rfl)
end Go.Proofs.YtbbgaleennfklaaGreat.VR
end
