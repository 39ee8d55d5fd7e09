/- Types, by program (wip/gen/emit.py). -/
import Derived.Test.YthoholbeacojfaaGreatA8
import Derived.Test.YthoholbeacojfaaGreatProg
set_option linter.unusedVariables false
set_option linter.unusedSimpArgs false
set_option linter.unusedSectionVars false
set_option linter.unusedVariables false
namespace Go.Proofs.YthoholbeacojfaaGreat.VR
open Go
def tyK:Kd→TypeId
 | .int=>3
 | .u8=>5
 | .bool=>4
 | .str=>1000000
 | .share=>51
 | .task=>37
 | .lock=>46
 | .ghost=>53
 | .turn=>64
 | .call=>32
def ti3:TI:=⟨.int .i64,.int .i64 0,1,8⟩
def ti4:TI:=⟨.bool,.bool false,1,1⟩
def ti5:TI:=⟨.int .u8,.int .u8 0,1,1⟩
def Y7:TI:=⟨.slice 5,.slice none 0 0,1,24⟩
def Y8:TI:=⟨.slice 37,.slice none 0 0,1,24⟩
def Y9:TI:=⟨.slice 46,.slice none 0 0,1,24⟩
def ZA:TI:=⟨.slice 53,.slice none 0 0,1,24⟩
def ZB:TI:=⟨.slice 3,.slice none 0 0,1,24⟩
def ZC:TI:=⟨.slice 64,.slice none 0 0,1,24⟩
def ZD:TI:=⟨.struct #[{name:= "Now",type:=3,offset:=0,embedded:=false,tag:= "",pkgPath:= "",byteOffset:=0},{name:= "Cpus",type:=3,offset:=1,embedded:=false,tag:= "",pkgPath:= "",byteOffset:=8},{name:= "Tasks",type:=24,offset:=2,embedded:=false,tag:= "",pkgPath:= "",byteOffset:=16},{name:= "Locks",type:=25,offset:=3,embedded:=false,tag:= "",pkgPath:= "",byteOffset:=40},{name:= "Ghosts",type:=26,offset:=4,embedded:=false,tag:= "",pkgPath:= "",byteOffset:=64},{name:= "Floors",type:=27,offset:=5,embedded:=false,tag:= "",pkgPath:= "",byteOffset:=88},{name:= "Seq",type:=3,offset:=6,embedded:=false,tag:= "",pkgPath:= "",byteOffset:=112},{name:= "Missed",type:=3,offset:=7,embedded:=false,tag:= "",pkgPath:= "",byteOffset:=120},{name:= "Trace",type:=28,offset:=8,embedded:=false,tag:= "",pkgPath:= "",byteOffset:=128}],.agg #[.int .i64 0,.int .i64 0,.slice none 0 0,.slice none 0 0,.slice none 0 0,.slice none 0 0,.int .i64 0,.int .i64 0,.slice none 0 0],9,152⟩
def ZE:TI:=⟨.struct #[{name:= "Kind",type:=3,offset:=0,embedded:=false,tag:= "",pkgPath:= "",byteOffset:=0},{name:= "No",type:=3,offset:=1,embedded:=false,tag:= "",pkgPath:= "",byteOffset:=8},{name:= "Cpu",type:=3,offset:=2,embedded:=false,tag:= "",pkgPath:= "",byteOffset:=16},{name:= "A",type:=3,offset:=3,embedded:=false,tag:= "",pkgPath:= "",byteOffset:=24},{name:= "B",type:=3,offset:=4,embedded:=false,tag:= "",pkgPath:= "",byteOffset:=32}],.agg #[.int .i64 0,.int .i64 0,.int .i64 0,.int .i64 0,.int .i64 0],5,40⟩
def ZF:TI:=⟨.struct #[{name:= "No",type:=3,offset:=0,embedded:=false,tag:= "",pkgPath:= "",byteOffset:=0},{name:= "Class",type:=3,offset:=1,embedded:=false,tag:= "",pkgPath:= "",byteOffset:=8},{name:= "Cpu",type:=3,offset:=2,embedded:=false,tag:= "",pkgPath:= "",byteOffset:=16},{name:= "State",type:=3,offset:=3,embedded:=false,tag:= "",pkgPath:= "",byteOffset:=24},{name:= "Idle",type:=4,offset:=4,embedded:=false,tag:= "",pkgPath:= "",byteOffset:=32},{name:= "Q",type:=3,offset:=5,embedded:=false,tag:= "",pkgPath:= "",byteOffset:=40},{name:= "P",type:=3,offset:=6,embedded:=false,tag:= "",pkgPath:= "",byteOffset:=48},{name:= "Left",type:=3,offset:=7,embedded:=false,tag:= "",pkgPath:= "",byteOffset:=56},{name:= "Due",type:=3,offset:=8,embedded:=false,tag:= "",pkgPath:= "",byteOffset:=64},{name:= "Prio",type:=3,offset:=9,embedded:=false,tag:= "",pkgPath:= "",byteOffset:=72},{name:= "Round",type:=3,offset:=10,embedded:=false,tag:= "",pkgPath:= "",byteOffset:=80},{name:= "Seq",type:=3,offset:=11,embedded:=false,tag:= "",pkgPath:= "",byteOffset:=88},{name:= "Nice",type:=3,offset:=12,embedded:=false,tag:= "",pkgPath:= "",byteOffset:=96},{name:= "V",type:=3,offset:=13,embedded:=false,tag:= "",pkgPath:= "",byteOffset:=104}],.agg #[.int .i64 0,.int .i64 0,.int .i64 0,.int .i64 0,.bool false,.int .i64 0,.int .i64 0,.int .i64 0,.int .i64 0,.int .i64 0,.int .i64 0,.int .i64 0,.int .i64 0,.int .i64 0],14,112⟩
def ZG:TI:=⟨.slice 51,.slice none 0 0,1,24⟩
def ZH:TI:=⟨.struct #[{name:= "Owner",type:=3,offset:=0,embedded:=false,tag:= "",pkgPath:= "",byteOffset:=0},{name:= "Waits",type:=27,offset:=1,embedded:=false,tag:= "",pkgPath:= "",byteOffset:=8}],.agg #[.int .i64 0,.slice none 0 0],2,32⟩
def ZI:TI:=⟨.struct #[{name:= "Q",type:=3,offset:=0,embedded:=false,tag:= "",pkgPath:= "",byteOffset:=0},{name:= "P",type:=3,offset:=1,embedded:=false,tag:= "",pkgPath:= "",byteOffset:=8}],.agg #[.int .i64 0,.int .i64 0],2,16⟩
def ZJ:TI:=⟨.struct #[{name:= "Cpu",type:=3,offset:=0,embedded:=false,tag:= "",pkgPath:= "",byteOffset:=0},{name:= "S",type:=51,offset:=1,embedded:=false,tag:= "",pkgPath:= "",byteOffset:=8},{name:= "Until",type:=3,offset:=3,embedded:=false,tag:= "",pkgPath:= "",byteOffset:=24}],.agg #[.int .i64 0,.int .i64 0,.int .i64 0,.int .i64 0],4,32⟩
def ZK:TI:=⟨.struct #[{name:= "Cpu",type:=3,offset:=0,embedded:=false,tag:= "",pkgPath:= "",byteOffset:=0},{name:= "Context",type:=3,offset:=1,embedded:=false,tag:= "",pkgPath:= "",byteOffset:=8},{name:= "Executor",type:=3,offset:=2,embedded:=false,tag:= "",pkgPath:= "",byteOffset:=16}],.agg #[.int .i64 0,.int .i64 0,.int .i64 0],3,24⟩
def ZL:TI:=⟨.pointer 115,.pointer none,1,8⟩
def Y3:TI:=⟨.struct #[{name:= "b",type:=22,offset:=0,embedded:=false,tag:= "",pkgPath:= "loop.example/g00185/spec",byteOffset:=0},{name:= "i",type:=3,offset:=1,embedded:=false,tag:= "",pkgPath:= "loop.example/g00185/spec",byteOffset:=24},{name:= "h",type:=3,offset:=2,embedded:=false,tag:= "",pkgPath:= "loop.example/g00185/spec",byteOffset:=32}],.agg #[.slice none 0 0,.int .i64 0,.int .i64 0],3,40⟩
def Y4:TI:=⟨.slice 32,.slice none 0 0,1,24⟩
def Y5:TI:=⟨.pointer 30,.pointer none,1,8⟩
def Y6:TI:=⟨.slice 4,.slice none 0 0,1,24⟩
def tis:List (TypeId×TI):=[(3,ti3),(4,ti4),(5,ti5),(22,Y7),(24,Y8),(25,Y9),(26,ZA),(27,ZB),(28,ZC),(30,ZD),(32,ZE),(37,ZF),(42,ZG),(46,ZH),(51,ZI),(53,ZJ),(64,ZK),(73,ZL),(115,Y3),(116,Y4),(143,Y5),(145,Y6)]
def Tb(t:TypeId):Option TI:=I5 t tis
theorem tu:TIok Go.Proofs.Tryz.prog 3 ti3:=⟨⟨Go.Proofs.Tryz.underlying3,Go.Proofs.Tryz.t3,by kernel_rfl,by kernel_rfl,by kernel_rfl,by kernel_rfl,by kernel_rfl,by decide⟩,fun fs h=>by cases h⟩
theorem tx:TIok Go.Proofs.Tryz.prog 4 ti4:=⟨⟨Go.Proofs.Tryz.underlying4,Go.Proofs.Tryz.t4,by kernel_rfl,by kernel_rfl,by kernel_rfl,by kernel_rfl,by kernel_rfl,by decide⟩,fun fs h=>by cases h⟩
theorem t7:TIok Go.Proofs.Tryz.prog 5 ti5:=⟨⟨Go.Proofs.Tryz.underlying5,Go.Proofs.Tryz.t5,by kernel_rfl,by kernel_rfl,by kernel_rfl,by kernel_rfl,by kernel_rfl,by decide⟩,fun fs h=>by cases h⟩
theorem tf:TIok Go.Proofs.Tryz.prog 22 Y7:=⟨⟨Go.Proofs.Tryz.underlying22,Go.Proofs.Tryz.t22,by kernel_rfl,by kernel_rfl,by kernel_rfl,by kernel_rfl,by kernel_rfl,by decide⟩,fun fs h=>by cases h⟩
theorem tg:TIok Go.Proofs.Tryz.prog 24 Y8:=⟨⟨Go.Proofs.Tryz.underlying24,Go.Proofs.Tryz.t24,by kernel_rfl,by kernel_rfl,by kernel_rfl,by kernel_rfl,by kernel_rfl,by decide⟩,fun fs h=>by cases h⟩
theorem th:TIok Go.Proofs.Tryz.prog 25 Y9:=⟨⟨Go.Proofs.Tryz.underlying25,Go.Proofs.Tryz.t25,by kernel_rfl,by kernel_rfl,by kernel_rfl,by kernel_rfl,by kernel_rfl,by decide⟩,fun fs h=>by cases h⟩
theorem tj:TIok Go.Proofs.Tryz.prog 26 ZA:=⟨⟨Go.Proofs.Tryz.underlying26,Go.Proofs.Tryz.t26,by kernel_rfl,by kernel_rfl,by kernel_rfl,by kernel_rfl,by kernel_rfl,by decide⟩,fun fs h=>by cases h⟩
theorem tk:TIok Go.Proofs.Tryz.prog 27 ZB:=⟨⟨Go.Proofs.Tryz.underlying27,Go.Proofs.Tryz.t27,by kernel_rfl,by kernel_rfl,by kernel_rfl,by kernel_rfl,by kernel_rfl,by decide⟩,fun fs h=>by cases h⟩
theorem tn:TIok Go.Proofs.Tryz.prog 28 ZC:=⟨⟨Go.Proofs.Tryz.underlying28,Go.Proofs.Tryz.t28,by kernel_rfl,by kernel_rfl,by kernel_rfl,by kernel_rfl,by kernel_rfl,by decide⟩,fun fs h=>by cases h⟩
theorem tp:TIok Go.Proofs.Tryz.prog 30 ZD:=⟨⟨Go.Proofs.Tryz.underlying30,Go.Proofs.Tryz.t30,by kernel_rfl,by kernel_rfl,by kernel_rfl,by kernel_rfl,by kernel_rfl,by decide⟩,fun fs h=>⟨Go.Proofs.Tryz.eqGuardType30,Go.Proofs.Tryz.stoodInHeld30⟩⟩
theorem tq:TIok Go.Proofs.Tryz.prog 32 ZE:=⟨⟨Go.Proofs.Tryz.underlying32,Go.Proofs.Tryz.t32,by kernel_rfl,by kernel_rfl,by kernel_rfl,by kernel_rfl,by kernel_rfl,by decide⟩,fun fs h=>⟨Go.Proofs.Tryz.eqGuardType32,Go.Proofs.Tryz.stoodInHeld32⟩⟩
theorem tt:TIok Go.Proofs.Tryz.prog 37 ZF:=⟨⟨Go.Proofs.Tryz.underlying37,Go.Proofs.Tryz.t37,by kernel_rfl,by kernel_rfl,by kernel_rfl,by kernel_rfl,by kernel_rfl,by decide⟩,fun fs h=>⟨Go.Proofs.Tryz.eqGuardType37,Go.Proofs.Tryz.stoodInHeld37⟩⟩
theorem tv:TIok Go.Proofs.Tryz.prog 42 ZG:=⟨⟨Go.Proofs.Tryz.underlying42,Go.Proofs.Tryz.t42,by kernel_rfl,by kernel_rfl,by kernel_rfl,by kernel_rfl,by kernel_rfl,by decide⟩,fun fs h=>by cases h⟩
theorem tw:TIok Go.Proofs.Tryz.prog 46 ZH:=⟨⟨Go.Proofs.Tryz.underlying46,Go.Proofs.Tryz.t46,by kernel_rfl,by kernel_rfl,by kernel_rfl,by kernel_rfl,by kernel_rfl,by decide⟩,fun fs h=>⟨Go.Proofs.Tryz.eqGuardType46,Go.Proofs.Tryz.stoodInHeld46⟩⟩
theorem tz:TIok Go.Proofs.Tryz.prog 51 ZI:=⟨⟨Go.Proofs.Tryz.underlying51,Go.Proofs.Tryz.t51,by kernel_rfl,by kernel_rfl,by kernel_rfl,by kernel_rfl,by kernel_rfl,by decide⟩,fun fs h=>⟨Go.Proofs.Tryz.eqGuardType51,Go.Proofs.Tryz.stoodInHeld51⟩⟩
theorem t6:TIok Go.Proofs.Tryz.prog 53 ZJ:=⟨⟨Go.Proofs.Tryz.underlying53,Go.Proofs.Tryz.t53,by kernel_rfl,by kernel_rfl,by kernel_rfl,by kernel_rfl,by kernel_rfl,by decide⟩,fun fs h=>⟨Go.Proofs.Tryz.eqGuardType53,Go.Proofs.Tryz.stoodInHeld53⟩⟩
theorem t8:TIok Go.Proofs.Tryz.prog 64 ZK:=⟨⟨Go.Proofs.Tryz.underlying64,Go.Proofs.Tryz.t64,by kernel_rfl,by kernel_rfl,by kernel_rfl,by kernel_rfl,by kernel_rfl,by decide⟩,fun fs h=>⟨Go.Proofs.Tryz.eqGuardType64,Go.Proofs.Tryz.stoodInHeld64⟩⟩
theorem t9:TIok Go.Proofs.Tryz.prog 73 ZL:=⟨⟨Go.Proofs.Tryz.underlying73,Go.Proofs.Tryz.t73,by kernel_rfl,by kernel_rfl,by kernel_rfl,by kernel_rfl,by kernel_rfl,by decide⟩,fun fs h=>by cases h⟩
theorem ta:TIok Go.Proofs.Tryz.prog 115 Y3:=⟨⟨Go.Proofs.Tryz.underlying115,Go.Proofs.Tryz.t115,by kernel_rfl,by kernel_rfl,by kernel_rfl,by kernel_rfl,by kernel_rfl,by decide⟩,fun fs h=>⟨Go.Proofs.Tryz.eqGuardType115,Go.Proofs.Tryz.stoodInHeld115⟩⟩
theorem tc:TIok Go.Proofs.Tryz.prog 116 Y4:=⟨⟨Go.Proofs.Tryz.underlying116,Go.Proofs.Tryz.t116,by kernel_rfl,by kernel_rfl,by kernel_rfl,by kernel_rfl,by kernel_rfl,by decide⟩,fun fs h=>by cases h⟩
theorem td:TIok Go.Proofs.Tryz.prog 143 Y5:=⟨⟨Go.Proofs.Tryz.underlying143,Go.Proofs.Tryz.t143,by kernel_rfl,by kernel_rfl,by kernel_rfl,by kernel_rfl,by kernel_rfl,by decide⟩,fun fs h=>by cases h⟩
theorem te:TIok Go.Proofs.Tryz.prog 145 Y6:=⟨⟨Go.Proofs.Tryz.underlying145,Go.Proofs.Tryz.t145,by kernel_rfl,by kernel_rfl,by kernel_rfl,by kernel_rfl,by kernel_rfl,by decide⟩,fun fs h=>by cases h⟩
theorem uE: ∀p∈tis,TIok Go.Proofs.Tryz.prog p.1 p.2:=(CJ tu (CJ tx (CJ t7 (CJ tf (CJ tg (CJ th (CJ tj (CJ tk (CJ tn (CJ tp (CJ tq (CJ tt (CJ tv (CJ tw (CJ tz (CJ t6 (CJ t8 (CJ t9 (CJ ta (CJ tc (CJ td (CJ te uD))))))))))))))))))))))
theorem Cv:TbOk Go.Proofs.Tryz.prog Tb tyK:=tY uE fun k=>by cases k<;>first|(show True;trivial)|(show F5 _ _=true;kernel_rfl)
theorem Ju:Go.Proofs.Tryz.prog.follows .mixedOrders=true:=by kernel_rfl
abbrev RO:=RwOk Go.Proofs.Tryz.prog tyK
theorem en: ∀e∈([]:List Rw),RO e:=bP
theorem ec{e:Rw}{es:List Rw}(h:RO e)(hs: ∀e∈es,RO e): ∀e'∈e::es,RO e':=bO h hs
theorem rL{e:Rw}(fa:FnA)(ls:List LS)(n:Nat){es:List Rw}(hes: ∀e'∈es,RO e')(hf:Go.Proofs.Tryz.prog.funcs[e.f]? =some fa.fn)(hk:(fa.fn.name== "runtime.NumGoroutine",fa.fn.body.isNone,fa.fn.body.map Cs,ls.map fun l=>GX (DS (cOf fa l)) ls)=(false,false,some (ls.map (cOf fa)),ls.map some))(hL:MT Tb tyK (orc es) n fa ls ls)(heq: ∀x,Il Tb tyK (orc es) n fa ls (e.d.make x) e.sh=e.run x):RO e:=ent fa ls n Ju Cv hes hf hk hL heq
theorem rE{e:Rw}(fa:FnA)(n:Nat){es:List Rw}(hes: ∀e'∈es,RO e')(hf:Go.Proofs.Tryz.prog.funcs[e.f]? =some fa.fn)(hk:(fa.fn.name== "runtime.NumGoroutine",fa.fn.body.isNone,fa.fn.body.map Cs)=(false,false,some []))(heq: ∀x,Il Tb tyK (orc es) n fa [] (e.d.make x) e.sh=e.run x):RO e:=by
 injection hk with h1 hk
 injection hk with h2 h3
 exact UA Ju Cv hes hf h1 h2 h3 (DH.nil _ _) heq
abbrev q0:Sh:=pS [.ro .u8,.int,.int]
abbrev q1:Sh:=pS [.int,.box q0]
abbrev q2:OA:=.call [.mv] .int [.box q0] []
abbrev q3:OA:=.call [.mv,.ro] .int [.box q0] []
abbrev q5:OA:=.call [.mv,.ro] .bool [.box q0] []
abbrev q6:Sh:=pS [.int,.int,.int,.int,.int]
abbrev q7:Sh:=pS [.agg q6,.box q0]
abbrev q10:Sh:=pS [.own .int,.bool]
abbrev q11:Sh:=pS [.tup q10]
abbrev q13:OA:=cl 2 (.tup q10) 1
abbrev q15:Sh:=pS [.own .share]
abbrev q16:List Nat:=[0,2,3,4,5,6,7,8]
abbrev q17:List Nat:=[3,4,5,6,7,8]
abbrev q18:Sh:=pS [.int,.int,.bool]
abbrev q19:Sh:=pS [.tup q18]
abbrev q21:OA:=cl 1 (.tup q18) 0
abbrev q22:OA:=cl 2 (.own .share) 1
abbrev q24:Sh:=pS [.own .lock]
abbrev q25:List Nat:=[1,2,3,4,5]
abbrev q26:OA:=cl 1 (.own .lock) 1
abbrev q27:Sh:=pS [.int,.int,.own .task,.ro .lock,.own .ghost,.own .int,.int,.int,.own .turn]
abbrev q29:Sh:=pS [.int,.int,.int,.int,.bool,.int,.int,.int,.int,.int,.int,.int,.int,.int]
abbrev q30:Sh:=pS [.agg q29,.bool]
abbrev q31:Sh:=pS [.tup q30]
abbrev q32:OA:=cl 1 (.tup q30) 0
abbrev q33:Sh:=pS [.own .task,.bool]
abbrev q34:Sh:=pS [.tup q33]
abbrev q37:Sh:=pS [.agg q29]
abbrev q39:Sh:=pS [.int,.int,.own .task,.own .lock,.own .ghost,.own .int,.int,.int,.own .turn]
abbrev q40:Sh:=pS [.agg q39]
abbrev q41:OA:=cl 2 (.agg q29) 0
abbrev q42:Sh:=pS [.own .task]
abbrev q43:OA:=.call [.ro] (.agg q39) [] [some 2,some 3,some 4,some 5,some 6]
abbrev q45:DE:=.box (pD [.int,.int,.nil,.nil,.nil,.nil,.int,.int,.nil])
abbrev q46:DE:=.box (pD [.int,.int,.bor 2,.bor 3,.bor 4,.bor 5,.int,.int,.bor 6])
abbrev q48:OA:=cl 1 (.agg q29) 0
abbrev q49:OA:=cl 2 (.tup q30) 0
abbrev q50:OA:=.call [.ro] (.agg q39) [] [some 12,some 13,some 14,some 15,some 16]
abbrev q51:OA:=cl 2 (.own .task) 1
abbrev q52:OA:=.call [.mv,.ro] (.agg q39) [] [some 22,some 23,some 24,some 25,some 26]
abbrev q53:Sh:=pS [.agg q39,.bool]
abbrev q54:Sh:=pS [.tup q53]
abbrev q55:List Nat:=[0,1,2,3,5,6,7,8,9,10,11,12,13,14,15,16,17,18,19,20,21,22,23,24,25,26]
abbrev q56:DE:=.box (pD [.int,.int,.bor 2,.bor 3,.bor 8,.bor 5,.int,.int,.bor 6])
abbrev q57:List Nat:=[1,2,3,5,6,7,8,9,10,11,12,13,14,15,16,17,18,19,20,21,22,23,24,25,26]
abbrev q58:List Nat:=[1,7,9,10,11,12,13,14,15,16,17,18,19,20,21,22,23,24,25,26]
abbrev q59:DE:=.box (pD [.int,.int,.bor 12,.bor 13,.bor 14,.bor 15,.int,.int,.bor 16])
abbrev q60:List Nat:=[22,23,24,25,26]
abbrev q61:List Nat:=[1,7,9,10,11,17,18,19,20,21,22,23,24,25,26]
abbrev q62:DE:=.box (pD [.int,.int,.bor 17,.bor 18,.bor 19,.bor 20,.int,.int,.bor 21])
abbrev q63:OA:=cl 1 (.agg q27) 4
abbrev q64:OA:=cl 1 (.tup q53) 5
abbrev q65:Sh:=pS [.int,.int,.ro .task,.ro .lock,.ro .ghost,.ro .int,.int,.int,.ro .turn]
abbrev q66:Sh:=pS [.agg q65,.int]
abbrev q67:Sh:=pS [.tup q66]
abbrev q68:DE:=.box (pD [.int,.int,.rog .task,.rog .lock,.rog .ghost,.rog .int,.int,.int,.rog .turn])
abbrev q70:Sh:=pS [.own .int]
abbrev q71:OA:=.call [.ro] (.own .lock) [] [some 1]
abbrev q72:OA:=cl 2 (.own .int) 1
abbrev q73:Sh:=pS [.own .lock,.int]
abbrev q74:Sh:=pS [.tup q73]
abbrev q76:Sh:=pS [.own .lock,.bool]
abbrev q77:Sh:=pS [.tup q76]
abbrev q78:OA:=cl 4 (.tup q30) 0
abbrev q79:OA:=cl 5 (.tup q30) 0
abbrev q82:Sh:=pS [.agg q39,.int]
abbrev q83:Sh:=pS [.tup q82]
abbrev q92:OA:=.call [.ro,.ro,.ro,.ro] (.tup q76) [] [some 8]
abbrev q93:OA:=cl 4 (.agg q29) 0
abbrev q94:OA:=.call [.mv,.ro] (.tup q82) [] [some 8,some 9,some 10,some 11,some 12]
abbrev q95:OA:=.call [.ro,.ro] (.tup q82) [] [some 13,some 14,some 15,some 16,some 17]
abbrev q96:OA:=.call [.mv,.ro] (.tup q82) [] [some 20,some 21,some 22,some 23,some 24]
abbrev q97:OA:=.call [.mv,.ro,.ro] (.tup q82) [] [some 25,some 26,some 27,some 28,some 29]
abbrev q98:OA:=.call [.mv,.ro,.ro] (.tup q82) [] [some 30,some 31,some 32,some 33,some 34]
abbrev q99:OA:=.call [.mv,.ro,.ro] (.tup q82) [] [some 35,some 36,some 37,some 38,some 39]
abbrev WJ:OA:=.call [.ro] (.agg q39) [] [some 3,some 4,some 5,some 6,some 7]
abbrev WK:Sh:=pS [.agg q29,.box q0]
abbrev Ly:OA:=.call [.mv] (.agg q29) [.box q0] []
abbrev WL:Sh:=pS [.own .lock,.box q0]
abbrev Ox:Sh:=pS [.int,.int]
abbrev Ro:OA:=.call [.mv,.ro] (.agg q6) [.box q0] []
abbrev fU:Sh:=pS [.int,.int,.jc,.jc,.jc,.jc,.int,.int,.jc]
abbrev WM:Sh:=pS [.agg fU,.jc,.agg q39]
abbrev WN:OA:=.call [.mv,.ro] (.tup WM) [.box q0] [some 2,some 3,some 4,some 5,some 6]
abbrev WO:OA:=.call [.mv] (.own .task) [.box q0] [some 10]
abbrev WP:OA:=.call [.mv] (.own .lock) [.box q0] [some 11]
abbrev WQ:OA:=.call [.mv] (.agg Ox) [.box q0] []
abbrev WR:Sh:=pS [.agg q39,.box q0]
abbrev WS:List Nat:=[0,1,2,3,4,5,8,9,10,11,12,13,14,15,16,17,18,19,20]
abbrev Oy:DE:=.box (pD [.int,.int,.bor 2,.bor 3,.bor 4,.bor 5,.int,.int,.bor 18])
abbrev Jz:OA:=.call [.mv,.ro] (.agg q39) [.box q0] [none,none,none,none,none]
abbrev WT:Sh:=pS [.agg q65,.agg q6]
abbrev WU:List Nat:=[1,2,5,12,13,14]
abbrev WV:List Nat:=[0,2,3,4,5,6,7,8,9]
abbrev WW:List Nat:=[1,5,37,38,39]
abbrev WX:List Nat:=[3,4,5,6,7,8,9]
abbrev WY:OA:=.call [.ro] (.own .int) [] [some 2]
abbrev Rp:List Nat:=[0,1,2,3,4]
abbrev Oz:Sh:=pS [.own .ghost]
abbrev O0:Sh:=pS [.own .turn]
abbrev Rq:OA:=cl 1 (.own .turn) 1
abbrev Rr:Sh:=pS [.agg q65]
abbrev Rt:Sh:=pS [.tup .one,.box q39]
abbrev WZ:OA:=.call [.ro] (.own .task) [] [some 2]
abbrev O1:DE:=.box (pD [.int,.int,.bor 1,.bor 2,.bor 3,.bor 4,.int,.int,.bor 5])
abbrev Wa:OA:=cl 3 (.own .task) 1
abbrev Wb:Sh:=pS [.tup Ox]
abbrev O2:OA:=cl 3 (.tup Ox) 0
abbrev Wc:OA:=.call [.mv] (.tup .one) [.box q39] [some 8,some 9,some 10,some 11,some 12]
abbrev Wd:OA:=.call [.mv] (.tup .one) [.box q39] [some 13,some 14,some 15,some 16,some 17]
abbrev Ru:OA:=cl 2 (.ro .task) 0
abbrev We:OA:=.call [.mv,.ro] (.tup .one) [.box q39] [some 23,some 24,some 25,some 26,some 27]
abbrev Wf:List Nat:=[2,4,35,36]
abbrev Wg:List Nat:=[1,7,13,14,15,16,17,18,19,20,21,22,23,24,25,26,27]
abbrev Lz:DE:=.box (pD [.int,.int,.bor 13,.bor 14,.bor 15,.bor 16,.int,.int,.bor 17])
abbrev Wh:List Nat:=[2,4,54,55]
abbrev Wi:List Nat:=[23,24,25,26,27]
abbrev Wj:List Nat:=[1,7,18,19,20,21,22,23,24,25,26,27]
abbrev Wk:DE:=.box (pD [.int,.int,.bor 18,.bor 19,.bor 20,.bor 21,.int,.int,.bor 22])
abbrev O3:OA:=cl 1 (.agg q65) 0
abbrev L0:Sh:=pS [.int,.box q39]
abbrev Wl:OA:=.call [.ro] (.own .lock) [] [some 0]
abbrev L3:OA:=cl 1 (.tup WT) 0
abbrev C3:OA:=cl 2 (.tup q66) 0
abbrev J0:OA:=.call [.ro] (.box q0) [] [some 1]
abbrev O4:OA:=cl 1 (.tup q66) 0
abbrev Wm:List Nat:=[2,3,4,5,7]
abbrev Wn:Sh:=pS [.int,.bool]
abbrev Wo:Sh:=pS [.tup Wn]
abbrev Wp:OA:=cl 2 (.tup Wn) 0
abbrev Wq:OA:=cl 1 (.ro .turn) 0
abbrev Wr:List Nat:=[1,5,8,9,10]
end Go.Proofs.YthoholbeacojfaaGreat.VR
