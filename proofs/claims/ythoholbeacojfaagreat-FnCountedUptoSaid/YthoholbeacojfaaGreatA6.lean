/- Arguments of a law, read as values. -/
import Derived.Test.YthoholbeacojfaaGreatA5
import Derived.Test.YthoholbeacojfaaGreatRows
import Derived.DataReads
import Derived.ChangeArms
import Derived.WideKeyArgs
import Derived.ChangeSame
import Derived.RowKit3
import Derived.Carry
import Derived.WalkKit
import Derived.ProofKit
import Derived.OpenShut
import Derived.JoinedCond
set_option linter.unusedVariables false
set_option linter.unusedSimpArgs false
set_option linter.unusedSectionVars false
section
set_option linter.unusedVariables false
set_option linter.unusedSimpArgs false
set_option linter.unusedSectionVars false
namespace Go.Proofs.YthoholbeacojfaaGreat.VR
open Go
inductive Fd where
 |int|u8|bool|str|sl (k:Kd)
 deriving DecidableEq
def Kd.fds:Kd→List Fd
 | .int=>[.int]| .u8=>[.u8]| .bool=>[.bool]| .str=>[.str]| .share=>[.int,.int]
 | .task=>[.int,.int,.int,.int,.bool,.int,.int,.int,.int,.int,.int,.int,.int,.int]
 | .lock=>[.int,.sl .int]| .ghost=>[.int,.int,.int,.int]| .turn=>[.int,.int,.int]| .call=>[.int,.int,.int,.int,.int]
def dJ:List Kd:=[.int,.u8,.bool,.str,.share,.task,.lock,.ghost,.turn,.call]
def Cp(n:Int):Prop:= -9223372036854775808≤n∧n≤9223372036854775807
def big:Nat:=1048576
def C.wf:C→Prop
 | .int n=>Cp n
 | .u8 n=>0≤n∧n≤255
 | .nest ys=>ys.length≤big∧ ∀y∈ys,Cp y
 | .str s=>s.size≤big
 | .bool _=>True
def wfT(k:Kd)(x:k.T):Prop:= ∀c∈k.cells x,c.wf
def wfL(k:Kd)(xs:List k.T):Prop:=xs.length≤big∧ ∀x∈xs,wfT k x
inductive FdV:Fd→V→Prop
 |int (n:Int) (h:Cp n):FdV .int (.int n)
 |u8 (n:Int) (h:0≤n∧n≤255):FdV .u8 (.u8 n)
 |bool (b:Bool):FdV .bool (.bool b)
 |str (s:ByteArray) (h:s.size≤big):FdV .str (.str s)
 |sl (k:Kd) (xs:List k.T) (h:wfL k xs):FdV (.sl k) (.ro true k xs)
def Cx:List Fd→List V→Prop
 | [],[]=>True
 |f::fs,v::vs=>FdV f v∧Cx fs vs
 |_,_=>False
theorem Cx.append: ∀{fs fs':List Fd} {vs vs':List V},Cx fs vs→Cx fs' vs'→Cx (fs++fs') (vs++vs')
 | [],fs',[],vs',_,h=>h
 |f::fs,fs',v::vs,vs',h,h'=>⟨h.1,Cx.append h.2 h'⟩
 |f::fs,fs',[],vs',h,_=>h.elim
 | [],fs',v::vs,vs',h,_=>h.elim
theorem Cx.len: ∀{fs:List Fd} {vs:List V},Cx fs vs→vs.length=fs.length
 | [],[],_=>rfl
 |f::fs,v::vs,h=>by simp[Cx.len h.2]
 |f::fs,[],h=>h.elim
 | [],v::vs,h=>h.elim
section
variable (Tb:TypeId→Option TI)
mutual
def flat:Nat→TypeId→Option (List Fd)
 |0,_=>none
 |n+1,t=>match Tb t with
  |some ti=>match ti.und with
   | .int .i64=>cond (ti.size==1) (some [.int]) none
   | .int .u8=>cond (ti.size==1) (some [.u8]) none
   | .bool=>cond (ti.size==1) (some [.bool]) none
   | .string=>cond (ti.size==1) (some [.str]) none
   | .slice e=>(flat n e).bind fun l=>(dJ.find? fun k=>decide (k.fds=l)).bind fun k=>cond (ti.size==1) (some [.sl k]) none
   | .struct fs=>(flatFs n fs.toList 0).bind fun l=>cond (ti.size==l.length) (some l) none
   |_=>none
  |none=>none
def flatFs:Nat→List Field→Nat→Option (List Fd)
 |0,_,_=>none
 |_+1,[],_=>some []
 |n+1,f::fs,acc=>cond (f.offset==acc) ((flat n f.type).bind fun a=>(flatFs n fs (acc+a.length)).bind fun b=>some (a++b)) none
end
end
section
variable {P:Program}{Tb:TypeId→Option TI}{tyK:Kd→TypeId}
theorem Qx(hT:TbOk P Tb tyK): ∀(n:Nat) (t:TypeId) (fds:List Fd),flat Tb n t=some fds→P.cellsOf t=fds.length
 |0,t,fds,h=>by simp[flat]at h
 |n+1,t,fds,h=>by
  simp only[flat]at h;split at h
  · rename_i ti htb
    obtain⟨_,i,hi,_,hs,_⟩:=hT.inf _ _ htb;have hc:P.cellsOf t=ti.size:=by simp[Program.cellsOf,hi,hs]
    split at h
    ·obtain⟨h1,h⟩:=AQ h;injection h with h;subst h;rw[hc];simpa using h1
    ·obtain⟨h1,h⟩:=AQ h;injection h with h;subst h;rw[hc];simpa using h1
    ·obtain⟨h1,h⟩:=AQ h;injection h with h;subst h;rw[hc];simpa using h1
    ·obtain⟨h1,h⟩:=AQ h;injection h with h;subst h;rw[hc];simpa using h1
    · obtain⟨l,_,h⟩:=Option.bind_eq_some_iff.1 h
      obtain⟨k,_,h⟩:=Option.bind_eq_some_iff.1 h;obtain⟨h1,h⟩:=AQ h;injection h with h;subst h;rw[hc];simpa using h1
    · obtain⟨l,_,h⟩:=Option.bind_eq_some_iff.1 h
      obtain⟨h1,h⟩:=AQ h;injection h with h;subst h;rw[hc];simpa using h1
    ·cases h
  ·cases h
def Re.zero:Re:=⟨fun _=>none,fun _=>0,fun _=>undef⟩
variable {w:World}
theorem Tg{a:Addr}{n:Nat}{cs:List Value}(h:w.cells? 0 a n=some cs):cs.length=n∧ ∀i,i<n→w.cell? (a.add i)=cs[i]? :=by
 unfold World.cells? at h;rw[if_pos (Nat.zero_le _)]at h;refine⟨by simpa using mapM_some_length h,fun i hi=> ?_⟩
 exact mapM_some_get h i i (by rw[List.getElem?_range hi])
theorem FdV.int_inv{v:V}(h:FdV .int v): ∃n,v=.int n∧Cp n:=by cases h with|int n h=>exact⟨n,rfl,h⟩
theorem FdV.u8_inv{v:V}(h:FdV .u8 v): ∃n,v=.u8 n∧0≤n∧n≤255:=by cases h with|u8 n h=>exact⟨n,rfl,h⟩
theorem FdV.bool_inv{v:V}(h:FdV .bool v): ∃b,v=.bool b:=by cases h with|bool b=>exact⟨b,rfl⟩
theorem FdV.str_inv{v:V}(h:FdV .str v): ∃s,v=.str s∧s.size≤big:=by cases h with|str b h=>exact⟨b,rfl,h⟩
theorem FdV.sl_inv{k:Kd}{v:V}(h:FdV (.sl k) v): ∃xs,v=.ro true k xs∧wfL k xs:=by cases h with|sl k xs h=>exact⟨xs,rfl,h⟩
theorem A4{f:Fd}{fs:List Fd}{vs:List V}(h:Cx (f::fs) vs): ∃v vs',vs=v::vs'∧FdV f v∧Cx fs vs':=by
 cases vs with
 |nil=>exact h.elim
 |cons v vs=>exact⟨v,vs,rfl,h.1,h.2⟩
theorem CW{vs:List V}(h:Cx [] vs):vs=[]:=by
 cases vs with
 |nil=>rfl
 |cons v vs=>exact h.elim
theorem dG(k:Kd){vs:List V}(h:Cx k.fds vs): ∃x:k.T,vs=(k.cells x).map (C.toV true)∧wfT k x:=by
 cases k with
 |int=>
  obtain⟨v,vs,rfl,h1,h⟩:=A4 h;obtain rfl:=CW h;obtain⟨n,rfl,w1⟩:=h1.int_inv;exact⟨n,rfl,fun c hc=>by simp[Kd.cells]at hc;subst hc;exact w1⟩
 |u8=>
  obtain⟨v,vs,rfl,h1,h⟩:=A4 h;obtain rfl:=CW h;obtain⟨n,rfl,w1⟩:=h1.u8_inv;exact⟨n,rfl,fun c hc=>by simp[Kd.cells]at hc;subst hc;exact w1⟩
 |bool=>
  obtain⟨v,vs,rfl,h1,h⟩:=A4 h;obtain rfl:=CW h;obtain⟨n,rfl⟩:=h1.bool_inv;exact⟨n,rfl,fun c hc=>by simp[Kd.cells]at hc;subst hc;trivial⟩
 |str=>
  obtain⟨v,vs,rfl,h1,h⟩:=A4 h;obtain rfl:=CW h;obtain⟨n,rfl,w1⟩:=h1.str_inv;exact⟨n,rfl,fun c hc=>by simp[Kd.cells]at hc;subst hc;exact w1⟩
 |share=>
  obtain⟨v,vs,rfl,h1,h⟩:=A4 h;obtain⟨v2,vs,rfl,h2,h⟩:=A4 h;obtain rfl:=CW h;obtain⟨n,rfl,w1⟩:=h1.int_inv;obtain⟨m,rfl,w2⟩:=h2.int_inv;exact⟨⟨n,m⟩,rfl,fun c hc=>by simp[Kd.cells]at hc;rcases hc with rfl|rfl<;>assumption⟩
 |lock=>
  obtain⟨v,vs,rfl,h1,h⟩:=A4 h;obtain⟨v2,vs,rfl,h2,h⟩:=A4 h;obtain rfl:=CW h;obtain⟨n,rfl,w1⟩:=h1.int_inv;obtain⟨ys,rfl,w2⟩:=h2.sl_inv;exact⟨⟨n,ys⟩,rfl,fun c hc=>by
   simp[Kd.cells]at hc;rcases hc with rfl|rfl
   ·exact w1
   ·exact⟨w2.1,fun y hy=>w2.2 y hy (.int y) (by simp[Kd.cells])⟩⟩
 |ghost=>
  obtain⟨v,vs,rfl,h1,h⟩:=A4 h;obtain⟨v2,vs,rfl,h2,h⟩:=A4 h;obtain⟨v3,vs,rfl,h3,h⟩:=A4 h;obtain⟨v4,vs,rfl,h4,h⟩:=A4 h;obtain rfl:=CW h;obtain⟨a,rfl,w1⟩:=h1.int_inv;obtain⟨b,rfl,w2⟩:=h2.int_inv;obtain⟨c,rfl,w3⟩:=h3.int_inv;obtain⟨d,rfl,w4⟩:=h4.int_inv;exact⟨⟨a,⟨b,c⟩,d⟩,rfl,fun c hc=>by simp[Kd.cells]at hc;rcases hc with rfl|rfl|rfl|rfl<;>assumption⟩
 |turn=>
  obtain⟨v,vs,rfl,h1,h⟩:=A4 h;obtain⟨v2,vs,rfl,h2,h⟩:=A4 h;obtain⟨v3,vs,rfl,h3,h⟩:=A4 h;obtain rfl:=CW h;obtain⟨a,rfl,w1⟩:=h1.int_inv;obtain⟨b,rfl,w2⟩:=h2.int_inv;obtain⟨c,rfl,w3⟩:=h3.int_inv;exact⟨⟨a,b,c⟩,rfl,fun c hc=>by simp[Kd.cells]at hc;rcases hc with rfl|rfl|rfl<;>assumption⟩
 |call=>
  obtain⟨v,vs,rfl,h1,h⟩:=A4 h;obtain⟨v2,vs,rfl,h2,h⟩:=A4 h;obtain⟨v3,vs,rfl,h3,h⟩:=A4 h;obtain⟨v4,vs,rfl,h4,h⟩:=A4 h;obtain⟨v5,vs,rfl,h5,h⟩:=A4 h;obtain rfl:=CW h;obtain⟨a,rfl,w1⟩:=h1.int_inv;obtain⟨b,rfl,w2⟩:=h2.int_inv;obtain⟨c,rfl,w3⟩:=h3.int_inv;obtain⟨d,rfl,w4⟩:=h4.int_inv;obtain⟨e,rfl,w5⟩:=h5.int_inv;exact⟨⟨a,b,c,d,e⟩,rfl,fun c hc=>by simp[Kd.cells]at hc;rcases hc with rfl|rfl|rfl|rfl|rfl<;>assumption⟩
 |task=>
  obtain⟨v,vs,rfl,h1,h⟩:=A4 h;obtain⟨v2,vs,rfl,h2,h⟩:=A4 h;obtain⟨v3,vs,rfl,h3,h⟩:=A4 h;obtain⟨v4,vs,rfl,h4,h⟩:=A4 h;obtain⟨v5,vs,rfl,h5,h⟩:=A4 h;obtain⟨v6,vs,rfl,h6,h⟩:=A4 h;obtain⟨v7,vs,rfl,h7,h⟩:=A4 h;obtain⟨v8,vs,rfl,h8,h⟩:=A4 h;obtain⟨v9,vs,rfl,h9,h⟩:=A4 h;obtain⟨v10,vs,rfl,h10,h⟩:=A4 h;obtain⟨v11,vs,rfl,h11,h⟩:=A4 h;obtain⟨v12,vs,rfl,h12,h⟩:=A4 h;obtain⟨v13,vs,rfl,h13,h⟩:=A4 h;obtain⟨v14,vs,rfl,h14,h⟩:=A4 h;obtain rfl:=CW h;obtain⟨a1,rfl,w1⟩:=h1.int_inv;obtain⟨a2,rfl,w2⟩:=h2.int_inv;obtain⟨a3,rfl,w3⟩:=h3.int_inv;obtain⟨a4,rfl,w4⟩:=h4.int_inv;obtain⟨a5,rfl⟩:=h5.bool_inv;obtain⟨a6,rfl,w6⟩:=h6.int_inv;obtain⟨a7,rfl,w7⟩:=h7.int_inv;obtain⟨a8,rfl,w8⟩:=h8.int_inv;obtain⟨a9,rfl,w9⟩:=h9.int_inv;obtain⟨a10,rfl,w10⟩:=h10.int_inv;obtain⟨a11,rfl,w11⟩:=h11.int_inv;obtain⟨a12,rfl,w12⟩:=h12.int_inv;obtain⟨a13,rfl,w13⟩:=h13.int_inv;obtain⟨a14,rfl,w14⟩:=h14.int_inv;exact⟨⟨a1,a2,a3,a4,a5,a6,a7,a8,a9,a10,a11,a12,a13,a14⟩,rfl,fun c hc=>by
   simp[Kd.cells]at hc;rcases hc with rfl|rfl|rfl|rfl|rfl|rfl|rfl|rfl|rfl|rfl|rfl|rfl|rfl|rfl<;>first|assumption|trivial⟩
theorem Zf{R:Re}{H:List E}{p:Bool}{c:C}{u:Value}(h:VR R H w (c.toV p) u):CR R.T w p c u:=by
 cases c with
 |int n=>exact h.int_inv
 |u8 n=>exact h.u8_inv
 |bool b=>exact h.bool_inv
 |str s=>exact h.str_inv
 |nest ys=>
  obtain⟨A,cap,e,h1,h2,h3⟩:=VR.ro_inv h;refine⟨A,cap,e,h1,h2,fun i x hx=> ?_⟩
  obtain⟨b,o,ea,ho,hc⟩:=h3 i x hx;obtain⟨u',hu,hcr⟩:=hc 0 (.int x) rfl;have hcr:u'=.int .i64 x:=hcr;subst hcr;exact⟨b,o,ea,ho,by simpa[Kd.size]using hu⟩
end
end Go.Proofs.YthoholbeacojfaaGreat.VR
end
section
set_option linter.unusedVariables false
set_option linter.unusedSimpArgs false
set_option linter.unusedSectionVars false
namespace Go.Proofs.YthoholbeacojfaaGreat.VR
open Go
section
variable {P:Program}{Tb:TypeId→Option TI}{tyK:Kd→TypeId}{w:World}{H:Type}{enc:TypeId×Value→H}
theorem aC{d:DataW H}{l:List (DataW H)}(h:d∈l):Rows.uptoBulk d≤Rows.uptoBulkAll l:=by
 induction l with
 |nil=>cases h
 |cons x r ih=>
  simp only[Rows.uptoBulkAll];cases List.mem_cons.1 h with
  |inl e=>subst e;omega
  |inr e=>have:=ih e;omega
theorem aD(d:DataW H):1≤Rows.uptoBulk d:=by
 cases d with
 |lit l=>cases l<;>simp[Rows.uptoBulk]
 |_=>simp[Rows.uptoBulk]
theorem aB(l:List (DataW H)):l.length≤Rows.uptoBulkAll l:=by
 induction l with
 |nil=>simp[Rows.uptoBulkAll]
 |cons x r ih=>have:=aD x;simp only[Rows.uptoBulkAll,List.length_cons];omega
theorem VRs.app{R:Re}{G:List E}{vs vs':List V}{us us':List Value}(h:VRs R G w vs us)(h':VRs R G w vs' us'):VRs R G w (vs++vs') (us++us'):=by
 refine⟨by simp[h.1,h'.1],fun i v u hv hu=> ?_⟩
 by_cases hi:i<vs.length
 · rw[List.getElem?_append_left hi]at hv
   rw[List.getElem?_append_left (by rw[←h.1];exact hi)]at hu
   exact h.2 i v u hv hu
 · rw[List.getElem?_append_right (by omega)]at hv
   rw[List.getElem?_append_right (by rw[←h.1];omega),←h.1]at hu
   exact h'.2 _ v u hv hu
theorem VRs.one{R:Re}{G:List E}{v:V}{u:Value}(h:VR R G w v u):VRs R G w [v] [u]:=VRs.mk h VRs.nil
theorem Kd.fds_length(k:Kd):k.fds.length=k.size:=by cases k<;>rfl
theorem ug{n:Int}(h:(Lit.int .i64 n).wf=true):Cp n:=by simpa[Lit.wf,IntKind.min,IntKind.max,IntKind.signed,IntKind.bits,Cp]using h
theorem uh{n:Int}(h:(Lit.int .u8 n).wf=true):0≤n∧n≤255:=by simpa[Lit.wf,IntKind.min,IntKind.max,IntKind.signed,IntKind.bits]using h
theorem fJ(hT:TbOk P Tb tyK): ∀n:Nat,
 (∀(t:TypeId) (fds:List Fd) (fuel:Nat) (cs:List Value) (d:DataW H) (ps:List MemPlace),flat Tb n t=some fds→DataW.trod enc P w 0 (fun _=>true) true fuel t cs=some (d,ps)→Rows.uptoBulk d≤big→
   ∃vs,Cx fds vs∧VRs Re.zero [] w vs cs)∧
 (∀(fs:List Field) (acc:Nat) (fds:List Fd) (fuel:Nat) (cs:List Value) (xs:List (DataW H×List MemPlace)),flatFs Tb n fs acc=some fds→xs.length=fs.length→
   (∀(i:Nat) (f:Field),fs[i]? =some f→DataW.trod enc P w 0 (fun _=>true) true fuel f.type ((cs.drop f.offset).take (P.cellsOf f.type))=xs[i]?)→Rows.uptoBulkAll (xs.map (·.1))≤big→acc+fds.length≤cs.length→
   ∃vs,Cx fds vs∧VRs Re.zero [] w vs ((cs.drop acc).take fds.length)):=by
 intro n
 induction n with
 |zero=>exact⟨fun t fds fuel cs d ps h=>by simp[flat]at h,fun fs acc fds fuel cs xs h=>by simp[flatFs]at h⟩
 |succ n ih=>
  refine⟨fun t fds fuel cs d ps h htr hb=> ?_,fun fs acc fds fuel cs xs h hxl hx hb hle=> ?_⟩
  · have hsz:=Qx hT (n+1) t fds h
    simp only[flat]at h;split at h
    · rename_i ti htb
      obtain⟨hun,_⟩:=hT.inf _ _ htb;split at h
      · rename_i e
        rw[e]at hun;obtain⟨_,h⟩:=AQ h;injection h with h
        subst h;obtain⟨m,rfl,_,hw⟩:=DataW.trod_int hun htr;exact⟨[.int m],⟨.int m (ug hw),trivial⟩,VRs.one (.int m)⟩
      · rename_i e
        rw[e]at hun;obtain⟨_,h⟩:=AQ h;injection h with h
        subst h;obtain⟨m,rfl,_,hw⟩:=DataW.trod_int hun htr;exact⟨[.u8 m],⟨.u8 m (uh hw),trivial⟩,VRs.one (.u8 m)⟩
      · rename_i e
        rw[e]at hun;obtain⟨_,h⟩:=AQ h;injection h with h
        subst h;obtain⟨b,rfl,_⟩:=DataW.trod_bool hun htr;exact⟨[.bool b],⟨.bool b,trivial⟩,VRs.one (.bool b)⟩
      · rename_i e
        rw[e]at hun;obtain⟨_,h⟩:=AQ h;injection h with h
        subst h;obtain⟨s,rfl,hd,hw⟩:=DataW.trod_string hun htr;simp only[Prod.mk.injEq]at hd;obtain⟨rfl,_⟩:=hd;have hs:s.size≤big:=by
         simp only[Rows.uptoBulk,Array.length_toList]at hb;have:s.data.size=s.size:=rfl;omega
        exact⟨[.str s],⟨.str s hs,trivial⟩,VRs.one (.str s)⟩
      · rename_i e et
        rw[et]at hun;obtain⟨l,hfl,h⟩:=Option.bind_eq_some_iff.1 h;obtain⟨k,hk,h⟩:=Option.bind_eq_some_iff.1 h;obtain⟨h1,h⟩:=AQ h;injection h with h
        subst h;have hkl:k.fds=l:=by simpa using(List.find?_some hk)
        subst hkl;have hce:P.cellsOf e=k.size:=by rw[Qx hT n e _ hfl,Kd.fds_length]
        have hpos:=k.size_pos;rcases DataW.trod_slice hun htr with⟨rfl,_⟩|⟨a,len,cap,elems,rest,m,_,rfl,hxx,_,hl,hm,hlen,hel,_,_⟩
        ·exact⟨[.ro true k []],⟨.sl k [] ⟨Nat.zero_le _,fun x hx=>by cases hx⟩,trivial⟩,VRs.one (.ro true k [] _ ⟨none,0,rfl,Nat.le_refl _,by simp[maxLen],fun i x hx=>by simp at hx⟩)⟩
        · simp only[Prod.mk.injEq]at hxx
          obtain⟨rfl,_⟩:=hxx;simp only[Rows.uptoBulk]at hb;have each: ∀i,i<len→ ∃(x:k.T) (cs':List Value),w.cells? 0 (a.add (i*k.size)) k.size=some cs'∧wfT k x∧VRs Re.zero [] w ((k.cells x).map (C.toV true)) cs':=by
           intro i hi;have h2:=hel i hi;rw[hce,List.getElem?_eq_getElem (by omega)]at h2
           obtain⟨cs',hc1,hc2⟩:=Option.bind_eq_some_iff.1 h2;have hbe:Rows.uptoBulk elems[i].1≤big:=by
            have:=aC (d:=elems[i].1) (l:=elems.map (·.1)) (List.mem_map.2 ⟨elems[i],List.getElem_mem _,rfl⟩)
            omega
           obtain⟨vs,hv1,hv2⟩:=ih.1 e k.fds m cs' elems[i].1 elems[i].2 hfl hc2 hbe;obtain⟨x,rfl,hw⟩:=dG k hv1;exact⟨x,cs',hc1,hw,hv2⟩
          have lst: ∀j,j≤len→ ∃xs:List k.T,xs.length=j∧(∀x∈xs,wfT k x)∧ ∀i x,xs[i]? =some x→ ∃cs',w.cells? 0 (a.add (i*k.size)) k.size=some cs'∧VRs Re.zero [] w ((k.cells x).map (C.toV true)) cs':=by
           intro j
           induction j with
           |zero=>intro _;exact⟨[],rfl,fun x hx=>(by cases hx),fun i x hx=>by simp at hx⟩
           |succ j ihj=>
            intro hj;obtain⟨xs,h3,h4,h5⟩:=ihj (by omega)
            obtain⟨x,cs',h6,h7,h8⟩:=each j (by omega)
            refine⟨xs++[x],by simp[h3],fun y hy=> ?_,fun i y hy=> ?_⟩
            · rcases List.mem_append.1 hy with hy|hy
              ·exact h4 y hy
              ·simp at hy;subst hy;exact h7
            · by_cases hi:i<xs.length
              ·rw[List.getElem?_append_left hi]at hy;exact h5 i y hy
              · rw[List.getElem?_append_right (by omega)]at hy
                have hi0:i-xs.length=0:=by
                 rcases Nat.eq_zero_or_pos (i-xs.length)with h|h
                 ·exact h
                 ·rw[List.getElem?_eq_none (by simp;omega)]at hy;cases hy
                rw[hi0]at hy;simp at hy;subst hy;rw[show i=j by omega]
                exact⟨cs',h6,h8⟩
          obtain⟨xs,h3,h4,h5⟩:=lst len (Nat.le_refl _);have hlen2:xs.length≤big:=by
           have:=aB (elems.map (·.1))
           simp at this;omega
          refine⟨[.ro true k xs],⟨.sl k xs ⟨hlen2,h4⟩,trivial⟩,VRs.one (.ro true k xs _ ⟨some a,cap,by rw[h3],by omega,hm,fun i x hx=> ?_⟩)⟩
          have h0:=h5 i x hx;obtain⟨cs0,hc0,_⟩:=h5 0 _ (List.getElem?_eq_getElem (by have:=(List.getElem?_eq_some_iff.1 hx).1;omega))
          have hspot:a.spot=none:=by
           obtain⟨hl0,hg0⟩:=Tg hc0;have:=hg0 0 hpos;rw[List.getElem?_eq_getElem (by omega)]at this
           rw[Nat.zero_mul]at this;have ha0:(a.add 0).add 0=a:=by simp[Addr.add]
           rw[ha0]at this;unfold World.cell? at this;split at this
           · split at this
             ·cases this
             ·rename_i h9;simpa using h9
           ·cases this
          obtain⟨b,o,sp⟩:=a;dsimp only at hspot;subst hspot;obtain⟨cs',hc',hv'⟩:=h0;obtain⟨hl',hg'⟩:=Tg hc';refine⟨b,o,rfl,.inl rfl,fun j c hj=> ?_⟩
          have hjs:j<k.size:=by rw[←k.cells_length x];exact(List.getElem?_eq_some_iff.1 hj).1
          have h10:=hg' j hjs;rw[Cy,Cy]at h10;have h11:cs'[j]? =some (cs'[j]'(by omega)):=List.getElem?_eq_getElem (by omega)
          refine⟨_,by rw[←Nat.add_assoc,h10,h11],Zf (R:=Re.zero) (H:=[]) (hv'.2 j _ _ (by rw[List.getElem?_map,hj];rfl) h11)⟩
      · rename_i fs et
        rw[et]at hun;obtain⟨l,hfl,h⟩:=Option.bind_eq_some_iff.1 h;obtain⟨h1,h⟩:=AQ h;injection h with h
        subst h;obtain⟨xs,m,_,hxx,hcl,hxl,hx⟩:=DataW.trod_struct hun htr;simp only[Prod.mk.injEq]at hxx;obtain⟨rfl,_⟩:=hxx;simp only[Rows.uptoBulk]at hb;obtain⟨vs,hv1,hv2⟩:=ih.2 fs.toList 0 l m cs xs hfl (by rw[hxl];simp) (fun i f hf=>hx i f (by rw[←Array.getElem?_toList];exact hf)) (by omega) (by rw[hcl,hsz];omega)
        refine⟨vs,hv1,?_⟩;rw[List.drop_zero,List.take_of_length_le (by rw[hcl,hsz];exact Nat.le_refl _)]at hv2
        exact hv2
      ·cases h
    ·cases h
  · cases fs with
    |nil=>
     simp[flatFs]at h;subst h;exact⟨[],trivial,by simpa using VRs.nil⟩
    |cons f fs=>
     simp only[flatFs]at h;obtain⟨h1,h⟩:=AQ h;obtain⟨fa,h2,h⟩:=Option.bind_eq_some_iff.1 h;obtain⟨fb,h3,h⟩:=Option.bind_eq_some_iff.1 h;injection h with h
     subst h;have h1:f.offset=acc:=by simpa using h1
     have hca:=Qx hT n f.type fa h2;cases xs with
     |nil=>simp at hxl
     |cons x xs=>
      have h4:=hx 0 f rfl;rw[h1,hca]at h4;simp only[List.map_cons,Rows.uptoBulkAll]at hb;simp only[List.length_append]at hle;obtain⟨va,a1,a2⟩:=ih.1 f.type fa fuel _ x.1 x.2 h2 h4 (by omega)
      obtain⟨vb,b1,b2⟩:=ih.2 fs (acc+fa.length) fb fuel cs xs h3 (by simpa using hxl) (fun i g hg=>hx (i+1) g (by simpa using hg)) (by omega) (by omega)
      refine⟨va++vb,a1.append b1,?_⟩;have e:(cs.drop acc).take (fa++fb).length=(cs.drop acc).take fa.length++(cs.drop (acc+fa.length)).take fb.length:=by
       rw[List.length_append,List.take_add,List.drop_drop]
      rw[e];exact a2.app b2
end
end Go.Proofs.YthoholbeacojfaaGreat.VR
end
section
set_option linter.unusedVariables false
set_option linter.unusedSimpArgs false
set_option linter.unusedSectionVars false
namespace Go.Proofs.YthoholbeacojfaaGreat.VR
open Go Go.ChangeShapes Go.WideShapes Go.ChangeAt Go.RowKit
structure Pd where
 agg:Bool
 fds:List Fd
def Pd.v(p:Pd)(vs:List V):V:=cond p.agg (.agg vs) (vs.getD 0 .junk)
def De:List Pd→List (List V)→Prop
 | [],[]=>True
 |p::ps,vs::vss=>Cx p.fds vs∧De ps vss
 |_,_=>False
def Dg:List Pd→List (List V)→List V
 |p::ps,vs::vss=>p.v vs::Dg ps vss
 |_,_=>[]
def VI(d:TypeDesc):Bool:=match d with
 | .int _| .bool| .string| .slice _=>true
 |_=>false
structure PdOk(P:Program)(Tb:TypeId→Option TI)(t:TypeId)(p:Pd):Prop where
 flat: ∃n,flat Tb n t=some p.fds
 kind: ∃d,P.underlying t=some d∧((p.agg=true∧ ∃fs,d=.struct fs)∨(p.agg=false∧VI d=true))
 rec_:P.readableRec t=true
 row:t<P.types.size
inductive PdsOk (P:Program) (Tb:TypeId→Option TI):List TypeId→List Pd→Prop
 |nil:PdsOk P Tb [] []
 |cons {t ts p ps}:PdOk P Tb t p→PdsOk P Tb ts ps→PdsOk P Tb (t::ts) (p::ps)
section
variable {P:Program}{Tb:TypeId→Option TI}{tyK:Kd→TypeId}{W:World}{H:Type}{enc:TypeId×Value→H}
theorem eG{t:TypeId}{d:TypeDesc}{v:Value}{base:Nat}(hd:P.underlying t=some d)(hf:VI d=true)(hval:Value.okWide P W .any base t v):v.cells= #[v]:=by
 have hc:Cell.okWide P W .any base t v:=by
  unfold Value.okWide at hval;rw[hd]at hval;cases d<;>first|exact hval|cases hf
 unfold Cell.okWide at hc;rw[hd]at hc;cases d<;>first|(cases hf;done)|skip
 all_goals
  simp only[Cell.ok,hd]at hc;cases v<;>first|rfl|(exact absurd hc (by simp))|exact hc.elim
theorem fI(hT:TbOk P Tb tyK){t:TypeId}{p:Pd}(hp:PdOk P Tb t p){v:Value}{d:DataW H}{ps:List MemPlace}{base:Nat}(hval:Value.okWide P W .any base t v)(h:DataW.Trod enc P W 0 (fun _=>true) true t v d ps)
 (hb:Rows.uptoBulk d≤big): ∃vs,Cx p.fds vs∧VR Re.zero [] W (p.v vs) v:=by
 obtain⟨fuel,h⟩:=h;obtain⟨n,hfl⟩:=hp.flat;obtain⟨vs,h1,h2⟩:=(fJ hT n).1 t p.fds fuel _ d ps hfl h hb;refine⟨vs,h1,?_⟩;obtain⟨de,hde,hk⟩:=hp.kind;rcases hk with⟨ha,fs,rfl⟩|⟨ha,hf⟩
 · unfold Value.okWide at hval
   rw[hde]at hval;obtain⟨cs,rfl,_⟩:=hval;unfold Pd.v;rw[ha];have e:cs=cs.toList.toArray:=by simp
   show VR Re.zero [] W (.agg vs) (.agg cs);rw[e];exact .agg vs cs.toList h2.1 h2.2
 · have hc:=eG hde hf hval
   rw[hc]at h2;unfold Pd.v;rw[ha];have hl:=h2.1;simp at hl
   match vs,hl with
   | [x],_=>exact h2.2 0 x v rfl rfl
theorem V8(hT:TbOk P Tb tyK){base:Nat}: ∀{ts:List TypeId} {pds:List Pd} {vs:List Value} {ds:List (DataW H)} {ps:List MemPlace},PdsOk P Tb ts pds→(∀(j:Nat) t v,ts[j]? =some t→vs[j]? =some v→Value.okWide P W .any base t v)→
 DataW.TrodAll enc P W 0 (fun _=>true) true ts vs ds ps→Rows.uptoBulkAll ds≤big→ds.length=ts.length∧ ∃vss,De pds vss∧VRs Re.zero [] W (Dg pds vss) vs
 |_,_,[],[],ps,.nil,_,_,_=>⟨rfl,[],trivial,VRs.nil⟩
 |_,_,v::vs,d::ds,ps,.cons hp hps,hval,⟨p,q,h1,h2,_⟩,hb=>by
  simp only[Rows.uptoBulkAll]at hb;obtain⟨v1,h3,h4⟩:=fI hT hp (hval 0 _ v rfl rfl) h1 (by omega)
  obtain⟨hl,vss,h5,h6⟩:=V8 hT hps (fun j t u ht hu=>hval (j+1) t u (by simpa using ht) (by simpa using hu)) h2 (by omega)
  exact⟨by simp[hl],v1::vss,⟨h3,h5⟩,VRs.mk h4 h6⟩
 |_,_,[],d::ds,ps,.nil,_,h,_=>h.elim
 |_,_,v::vs,_,ps,.nil,_,h,_=>h.elim
 |_,_,[],_,ps,.cons _ _,_,h,_=>h.elim
 |_,_,v::vs,[],ps,.cons _ _,_,h,_=>h.elim
theorem TN(hl:laidOutB P=true){W':World}: ∀{ts:List TypeId} {pds:List Pd} {vs:List Value} {ds:List (DataW H)} {ps:List MemPlace} {sp:Nat→Bool},PdsOk P Tb ts pds→
 DataW.TrodAll enc P W 0 (fun _=>true) true ts vs ds ps→(∀p∈ps,W.sameAt W' p)→(∀p∈ps,sp p.block=true)→DataW.TrodAll enc P W' 0 sp true ts vs ds ps
 |_,_,[],[],ps,sp,.nil,h,_,_=>h
 |_,_,v::vs,d::ds,ps,sp,.cons hp hps,⟨p,q,h1,h2,e⟩,hs,hsp=>
  ⟨p,q,WideElems.Trod_stays hl hp.rec_ hp.row h1 (fun x hx=>hs x (by rw[e];exact List.mem_append_left _ hx)) (fun x hx=>hsp x (by rw[e];exact List.mem_append_left _ hx)),
   TN hl hps h2 (fun x hx=>hs x (by rw[e];exact List.mem_append_right _ hx)) (fun x hx=>hsp x (by rw[e];exact List.mem_append_right _ hx)),e⟩
 |_,_,[],d::ds,ps,sp,.nil,h,_,_=>h.elim
 |_,_,v::vs,_,ps,sp,.nil,h,_,_=>h.elim
 |_,_,[],_,ps,sp,.cons _ _,h,_,_=>h.elim
 |_,_,v::vs,[],ps,sp,.cons _ _,h,_,_=>h.elim
theorem RQ: ∀(vs:List V),layL (vs.map .v) 0=(vs,[],0)
 | []=>rfl
 |v::vs=>by simp[layL,lay,RQ vs]
theorem cE:HR tyK Re.zero [] W:=⟨fun s hs=>absurd hs (Nat.not_lt_zero s),fun _ _=>rfl⟩
theorem FF(hT:TbOk P Tb tyK)(hl:laidOutB P=true){f:FuncId}{fn:Func}{pds:List Pd}{s:ChangeSpec}(hpds:PdsOk P Tb fn.params.toList pds){tb:TypeId}(hres:fn.resultTypes= #[tb])(htb:P.underlying tb=some .bool)
 (hvars:s.vars=[]) (hs: ∀ds:List (DataW H),ds.length=fn.params.toList.length→s.fn H ds={results:=[.lit (.bool true)],args:=ds})
 (main: ∀vss,De pds vss→CK P tyK f ((Dg pds vss).map .v) .bool true)
 {apart fresh handsOn again:Bool} {base:Nat} {args:Array Value} {ds gs:List (DataW H)} {before:List MemPlace}
 (hval: ∀(j:Nat) t v,fn.params[j]? =some t→args[j]? =some v→Value.okWide P W .any base t v)
 (hW:DataW.Whole enc P fn.params.toList s.vars apart W args.toList ds gs before) (hk:Rows.uptoSmall H (ds++gs)=true):
 Calls P f args W fun e W'=> ∃v,e=.returned v∧s.post enc P fn apart fresh handsOn again W args v W':=by
 have hW':=hW;obtain⟨p,q,hA,hV,rfl,hfz,hnd⟩:=hW;rw[hvars]at hV;have hgs:gs=[]∧q=[]:=by
  cases gs with
  |nil=>exact⟨rfl,hV⟩
  |cons _ _=>exact hV.elim
 obtain⟨rfl,rfl⟩:=hgs;have hb:Rows.uptoBulkAll (ds++[])≤1048576:=of_decide_eq_true hk;rw[List.append_nil]at hb;obtain⟨hlen,vss,hvss,hvr⟩:=V8 hT hpds (fun j t v ht hv=>hval j t v (by rw[←Array.getElem?_toList];exact ht) (by rw[←Array.getElem?_toList];exact hv)) hA hb
 have hc:=main vss hvss Re.zero W args.toList (by rw[RQ];exact cE) (by rw[RQ];exact hvr)
 have e:args.toList.toArray=args:=by simp
 rw[e]at hc;refine hc.mono ?_;rintro e' W' ⟨v,rfl,Rc',Hf,vf,hst,_,hvf,_,rest,Hf',ht⟩;refine⟨v,rfl,?_⟩;have hv:v=.bool true:=by
  cases vf<;>simp[AZ]at ht;obtain⟨rfl,_⟩:=ht;exact hvf.bool_inv
 subst hv;have hblk: ∀g,g<W.heap.size→W'.heap[g]? =W.heap[g]? :=fun g hg=>(hst.ro g hg (.inl rfl)).2
 have hbel:Below W.heap.size W W':=⟨hst.os,hst.tape,hst.output,hst.size,hblk⟩;have hlt: ∀x∈p,x.block<W.heap.size:=fun x hx=>hW'.lt x (by simpa using hx)
 have hsame: ∀x∈p,W.sameAt W' x:=fun x hx=>hbel.same (hlt x hx)
 have hsfn:=hs ds hlen;have hr1: ∀(b:Nat) (sp:Nat→Bool) (hd:Bool),DataW.TrodAll enc P W' b sp hd fn.resultTypes.toList ((Value.bool true).resultList fn.resultTypes.size) [.lit (.bool true)] []:=fun b sp hd=>by
  rw[hres];exact trodAll_cons_mk (shut_bool htb _) trodAll_mk0
 have ha1: ∀sp:Nat→Bool,(∀x∈p,sp x.block=true)→DataW.TrodAll enc P W' 0 sp true fn.params.toList args.toList ds p:=fun sp hsp=>TN hl hpds hA hsame hsp
 have hv1: ∀sp:Nat→Bool,DataW.TrodVars enc P W' sp s.vars [] []:=fun sp=>by rw[hvars];rfl
 refine⟨ds,[],p++[],[],p,[],hW',?_,?_,?_,hbel.frame _,fun _=>⟨ok_one hres rfl (okWide_bool_mk htb _),[.lit (.bool true)]++ds,[],([]++p)++[],⟨[]++p,[],?_,hv1 _,rfl,?_,?_⟩,fun x hx _=>by simpa using hx⟩⟩
 ·rw[List.append_nil,hsfn];exact hr1 _ _ _
 ·rw[List.append_nil,hsfn];exact ha1 _ fun x hx=>by simpa using hlt x hx
 ·rw[List.append_nil,hsfn];exact hv1 _
 ·exact trodAll_append (ha1 (fun _=>true) fun _ _=>rfl) (hr1 0 (fun _=>true) true)
 · intro b off hx
   have hx':MemPlace.cell b off∈p:=by simpa using hx
   rw[hbel.frozen (p:=⟨b,off,none⟩) (hlt _ hx')];exact hfz b off (by simpa using hx')
 · intro h
   simpa using hnd h
end
end Go.Proofs.YthoholbeacojfaaGreat.VR
end
