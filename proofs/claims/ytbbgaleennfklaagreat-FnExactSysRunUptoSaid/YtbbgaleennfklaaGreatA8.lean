/- Types, by program (wip/gen/emit.py). -/
import Derived.Test.YtbbgaleennfklaaGreatA7
import Derived.Test.YtbbgaleennfklaaGreatProg
set_option linter.unusedVariables false
namespace Go.Proofs.YtbbgaleennfklaaGreat.VR
open Go
def tyK:Kd→TypeId
 | .int=>3
 | .u8=>1000000
 | .bool=>4
 | .str=>1000000
 | .share=>79
 | .task=>83
 | .lock=>105
 | .ghost=>81
 | .turn=>112
 | .call=>47
def ti3:TI:=⟨.int .i64,.int .i64 0,1,8⟩
def ti4:TI:=⟨.bool,.bool false,1,1⟩
def Vh:TI:=⟨.slice 104,.slice none 0 0,1,24⟩
def Vi:TI:=⟨.slice 96,.slice none 0 0,1,24⟩
def Vj:TI:=⟨.slice 110,.slice none 0 0,1,24⟩
def Vk:TI:=⟨.slice 3,.slice none 0 0,1,24⟩
def Vl:TI:=⟨.slice 114,.slice none 0 0,1,24⟩
def Vm:TI:=⟨.struct #[{name:= "Now",type:=3,offset:=0,embedded:=false,tag:= "",pkgPath:= "",byteOffset:=0},{name:= "Cpus",type:=3,offset:=1,embedded:=false,tag:= "",pkgPath:= "",byteOffset:=8},{name:= "Tasks",type:=22,offset:=2,embedded:=false,tag:= "",pkgPath:= "",byteOffset:=16},{name:= "Locks",type:=23,offset:=3,embedded:=false,tag:= "",pkgPath:= "",byteOffset:=40},{name:= "Ghosts",type:=24,offset:=4,embedded:=false,tag:= "",pkgPath:= "",byteOffset:=64},{name:= "Floors",type:=25,offset:=5,embedded:=false,tag:= "",pkgPath:= "",byteOffset:=88},{name:= "Seq",type:=3,offset:=6,embedded:=false,tag:= "",pkgPath:= "",byteOffset:=112},{name:= "Missed",type:=3,offset:=7,embedded:=false,tag:= "",pkgPath:= "",byteOffset:=120},{name:= "Trace",type:=26,offset:=8,embedded:=false,tag:= "",pkgPath:= "",byteOffset:=128}],.agg #[.int .i64 0,.int .i64 0,.slice none 0 0,.slice none 0 0,.slice none 0 0,.slice none 0 0,.int .i64 0,.int .i64 0,.slice none 0 0],9,152⟩
def Vn:TI:=⟨.slice 83,.slice none 0 0,1,24⟩
def Vo:TI:=⟨.slice 105,.slice none 0 0,1,24⟩
def Vp:TI:=⟨.slice 81,.slice none 0 0,1,24⟩
def Vq:TI:=⟨.slice 112,.slice none 0 0,1,24⟩
def Vr:TI:=⟨.struct #[{name:= "Now",type:=3,offset:=0,embedded:=false,tag:= "",pkgPath:= "",byteOffset:=0},{name:= "Cpus",type:=3,offset:=1,embedded:=false,tag:= "",pkgPath:= "",byteOffset:=8},{name:= "Tasks",type:=31,offset:=2,embedded:=false,tag:= "",pkgPath:= "",byteOffset:=16},{name:= "Locks",type:=32,offset:=3,embedded:=false,tag:= "",pkgPath:= "",byteOffset:=40},{name:= "Ghosts",type:=33,offset:=4,embedded:=false,tag:= "",pkgPath:= "",byteOffset:=64},{name:= "Floors",type:=25,offset:=5,embedded:=false,tag:= "",pkgPath:= "",byteOffset:=88},{name:= "Seq",type:=3,offset:=6,embedded:=false,tag:= "",pkgPath:= "",byteOffset:=112},{name:= "Missed",type:=3,offset:=7,embedded:=false,tag:= "",pkgPath:= "",byteOffset:=120},{name:= "Trace",type:=34,offset:=8,embedded:=false,tag:= "",pkgPath:= "",byteOffset:=128}],.agg #[.int .i64 0,.int .i64 0,.slice none 0 0,.slice none 0 0,.slice none 0 0,.slice none 0 0,.int .i64 0,.int .i64 0,.slice none 0 0],9,152⟩
def Vs:TI:=⟨.struct #[{name:= "Kind",type:=3,offset:=0,embedded:=false,tag:= "",pkgPath:= "",byteOffset:=0},{name:= "No",type:=3,offset:=1,embedded:=false,tag:= "",pkgPath:= "",byteOffset:=8},{name:= "Cpu",type:=3,offset:=2,embedded:=false,tag:= "",pkgPath:= "",byteOffset:=16},{name:= "A",type:=3,offset:=3,embedded:=false,tag:= "",pkgPath:= "",byteOffset:=24},{name:= "B",type:=3,offset:=4,embedded:=false,tag:= "",pkgPath:= "",byteOffset:=32}],.agg #[.int .i64 0,.int .i64 0,.int .i64 0,.int .i64 0,.int .i64 0],5,40⟩
def Vt:TI:=⟨.struct #[{name:= "Kind",type:=3,offset:=0,embedded:=false,tag:= "",pkgPath:= "",byteOffset:=0},{name:= "No",type:=3,offset:=1,embedded:=false,tag:= "",pkgPath:= "",byteOffset:=8},{name:= "Cpu",type:=3,offset:=2,embedded:=false,tag:= "",pkgPath:= "",byteOffset:=16},{name:= "A",type:=3,offset:=3,embedded:=false,tag:= "",pkgPath:= "",byteOffset:=24},{name:= "B",type:=3,offset:=4,embedded:=false,tag:= "",pkgPath:= "",byteOffset:=32}],.agg #[.int .i64 0,.int .i64 0,.int .i64 0,.int .i64 0,.int .i64 0],5,40⟩
def Vu:TI:=⟨.slice 44,.slice none 0 0,1,24⟩
def Vv:TI:=⟨.slice 47,.slice none 0 0,1,24⟩
def Vw:TI:=⟨.struct #[{name:= "Q",type:=3,offset:=0,embedded:=false,tag:= "",pkgPath:= "",byteOffset:=0},{name:= "P",type:=3,offset:=1,embedded:=false,tag:= "",pkgPath:= "",byteOffset:=8}],.agg #[.int .i64 0,.int .i64 0],2,16⟩
def Vx:TI:=⟨.struct #[{name:= "Cpu",type:=3,offset:=0,embedded:=false,tag:= "",pkgPath:= "",byteOffset:=0},{name:= "S",type:=79,offset:=1,embedded:=false,tag:= "",pkgPath:= "",byteOffset:=8},{name:= "Until",type:=3,offset:=3,embedded:=false,tag:= "",pkgPath:= "",byteOffset:=24}],.agg #[.int .i64 0,.int .i64 0,.int .i64 0,.int .i64 0],4,32⟩
def Vy:TI:=⟨.struct #[{name:= "No",type:=3,offset:=0,embedded:=false,tag:= "",pkgPath:= "",byteOffset:=0},{name:= "Class",type:=3,offset:=1,embedded:=false,tag:= "",pkgPath:= "",byteOffset:=8},{name:= "Cpu",type:=3,offset:=2,embedded:=false,tag:= "",pkgPath:= "",byteOffset:=16},{name:= "State",type:=3,offset:=3,embedded:=false,tag:= "",pkgPath:= "",byteOffset:=24},{name:= "Idle",type:=4,offset:=4,embedded:=false,tag:= "",pkgPath:= "",byteOffset:=32},{name:= "Q",type:=3,offset:=5,embedded:=false,tag:= "",pkgPath:= "",byteOffset:=40},{name:= "P",type:=3,offset:=6,embedded:=false,tag:= "",pkgPath:= "",byteOffset:=48},{name:= "Left",type:=3,offset:=7,embedded:=false,tag:= "",pkgPath:= "",byteOffset:=56},{name:= "Due",type:=3,offset:=8,embedded:=false,tag:= "",pkgPath:= "",byteOffset:=64},{name:= "Prio",type:=3,offset:=9,embedded:=false,tag:= "",pkgPath:= "",byteOffset:=72},{name:= "Round",type:=3,offset:=10,embedded:=false,tag:= "",pkgPath:= "",byteOffset:=80},{name:= "Seq",type:=3,offset:=11,embedded:=false,tag:= "",pkgPath:= "",byteOffset:=88},{name:= "Nice",type:=3,offset:=12,embedded:=false,tag:= "",pkgPath:= "",byteOffset:=96},{name:= "V",type:=3,offset:=13,embedded:=false,tag:= "",pkgPath:= "",byteOffset:=104}],.agg #[.int .i64 0,.int .i64 0,.int .i64 0,.int .i64 0,.bool false,.int .i64 0,.int .i64 0,.int .i64 0,.int .i64 0,.int .i64 0,.int .i64 0,.int .i64 0,.int .i64 0,.int .i64 0],14,112⟩
def Vz:TI:=⟨.struct #[{name:= "Owner",type:=3,offset:=0,embedded:=false,tag:= "",pkgPath:= "",byteOffset:=0},{name:= "Waits",type:=25,offset:=1,embedded:=false,tag:= "",pkgPath:= "",byteOffset:=8}],.agg #[.int .i64 0,.slice none 0 0],2,32⟩
def VY:TI:=⟨.slice 79,.slice none 0 0,1,24⟩
def VZ:TI:=⟨.struct #[{name:= "No",type:=3,offset:=0,embedded:=false,tag:= "",pkgPath:= "",byteOffset:=0},{name:= "Class",type:=3,offset:=1,embedded:=false,tag:= "",pkgPath:= "",byteOffset:=8},{name:= "Cpu",type:=3,offset:=2,embedded:=false,tag:= "",pkgPath:= "",byteOffset:=16},{name:= "State",type:=3,offset:=3,embedded:=false,tag:= "",pkgPath:= "",byteOffset:=24},{name:= "Idle",type:=4,offset:=4,embedded:=false,tag:= "",pkgPath:= "",byteOffset:=32},{name:= "Q",type:=3,offset:=5,embedded:=false,tag:= "",pkgPath:= "",byteOffset:=40},{name:= "P",type:=3,offset:=6,embedded:=false,tag:= "",pkgPath:= "",byteOffset:=48},{name:= "Left",type:=3,offset:=7,embedded:=false,tag:= "",pkgPath:= "",byteOffset:=56},{name:= "Due",type:=3,offset:=8,embedded:=false,tag:= "",pkgPath:= "",byteOffset:=64},{name:= "Prio",type:=3,offset:=9,embedded:=false,tag:= "",pkgPath:= "",byteOffset:=72},{name:= "Round",type:=3,offset:=10,embedded:=false,tag:= "",pkgPath:= "",byteOffset:=80},{name:= "Seq",type:=3,offset:=11,embedded:=false,tag:= "",pkgPath:= "",byteOffset:=88},{name:= "Nice",type:=3,offset:=12,embedded:=false,tag:= "",pkgPath:= "",byteOffset:=96},{name:= "V",type:=3,offset:=13,embedded:=false,tag:= "",pkgPath:= "",byteOffset:=104}],.agg #[.int .i64 0,.int .i64 0,.int .i64 0,.int .i64 0,.bool false,.int .i64 0,.int .i64 0,.int .i64 0,.int .i64 0,.int .i64 0,.int .i64 0,.int .i64 0,.int .i64 0,.int .i64 0],14,112⟩
def Va:TI:=⟨.struct #[{name:= "Owner",type:=3,offset:=0,embedded:=false,tag:= "",pkgPath:= "",byteOffset:=0},{name:= "Waits",type:=25,offset:=1,embedded:=false,tag:= "",pkgPath:= "",byteOffset:=8}],.agg #[.int .i64 0,.slice none 0 0],2,32⟩
def Vb:TI:=⟨.struct #[{name:= "Q",type:=3,offset:=0,embedded:=false,tag:= "",pkgPath:= "",byteOffset:=0},{name:= "P",type:=3,offset:=1,embedded:=false,tag:= "",pkgPath:= "",byteOffset:=8}],.agg #[.int .i64 0,.int .i64 0],2,16⟩
def Vc:TI:=⟨.struct #[{name:= "Cpu",type:=3,offset:=0,embedded:=false,tag:= "",pkgPath:= "",byteOffset:=0},{name:= "S",type:=108,offset:=1,embedded:=false,tag:= "",pkgPath:= "",byteOffset:=8},{name:= "Until",type:=3,offset:=3,embedded:=false,tag:= "",pkgPath:= "",byteOffset:=24}],.agg #[.int .i64 0,.int .i64 0,.int .i64 0,.int .i64 0],4,32⟩
def Vd:TI:=⟨.struct #[{name:= "Cpu",type:=3,offset:=0,embedded:=false,tag:= "",pkgPath:= "",byteOffset:=0},{name:= "Context",type:=3,offset:=1,embedded:=false,tag:= "",pkgPath:= "",byteOffset:=8},{name:= "Executor",type:=3,offset:=2,embedded:=false,tag:= "",pkgPath:= "",byteOffset:=16}],.agg #[.int .i64 0,.int .i64 0,.int .i64 0],3,24⟩
def Ve:TI:=⟨.struct #[{name:= "Cpu",type:=3,offset:=0,embedded:=false,tag:= "",pkgPath:= "",byteOffset:=0},{name:= "Context",type:=3,offset:=1,embedded:=false,tag:= "",pkgPath:= "",byteOffset:=8},{name:= "Executor",type:=3,offset:=2,embedded:=false,tag:= "",pkgPath:= "",byteOffset:=16}],.agg #[.int .i64 0,.int .i64 0,.int .i64 0],3,24⟩
def Vf:TI:=⟨.pointer 36,.pointer none,1,8⟩
def Vg:TI:=⟨.slice 4,.slice none 0 0,1,24⟩
def tis:List (TypeId×TI):=[(3,ti3),(4,ti4),(22,Vh),(23,Vi),(24,Vj),(25,Vk),(26,Vl),(28,Vm),(31,Vn),(32,Vo),(33,Vp),(34,Vq),(36,Vr),(44,Vs),(47,Vt),(50,Vu),(54,Vv),(79,Vw),(81,Vx),(83,Vy),(96,Vz),(100,VY),(104,VZ),(105,Va),(108,Vb),(110,Vc),(112,Vd),(114,Ve),(141,Vf),(143,Vg)]
def Tb(t:TypeId):Option TI:=HY t tis
theorem oM:TIok Go.Proofs.Tryz.prog 3 ti3:=⟨⟨Go.Proofs.Tryz.underlying3,Go.Proofs.Tryz.t3,by kernel_rfl,by kernel_rfl,by kernel_rfl,by kernel_rfl,by kernel_rfl,by decide⟩,fun fs h=>by cases h⟩
theorem oP:TIok Go.Proofs.Tryz.prog 4 ti4:=⟨⟨Go.Proofs.Tryz.underlying4,Go.Proofs.Tryz.t4,by kernel_rfl,by kernel_rfl,by kernel_rfl,by kernel_rfl,by kernel_rfl,by decide⟩,fun fs h=>by cases h⟩
theorem oB:TIok Go.Proofs.Tryz.prog 22 Vh:=⟨⟨Go.Proofs.Tryz.underlying22,Go.Proofs.Tryz.t22,by kernel_rfl,by kernel_rfl,by kernel_rfl,by kernel_rfl,by kernel_rfl,by decide⟩,fun fs h=>by cases h⟩
theorem oC:TIok Go.Proofs.Tryz.prog 23 Vi:=⟨⟨Go.Proofs.Tryz.underlying23,Go.Proofs.Tryz.t23,by kernel_rfl,by kernel_rfl,by kernel_rfl,by kernel_rfl,by kernel_rfl,by decide⟩,fun fs h=>by cases h⟩
theorem oD:TIok Go.Proofs.Tryz.prog 24 Vj:=⟨⟨Go.Proofs.Tryz.underlying24,Go.Proofs.Tryz.t24,by kernel_rfl,by kernel_rfl,by kernel_rfl,by kernel_rfl,by kernel_rfl,by decide⟩,fun fs h=>by cases h⟩
theorem oE:TIok Go.Proofs.Tryz.prog 25 Vk:=⟨⟨Go.Proofs.Tryz.underlying25,Go.Proofs.Tryz.t25,by kernel_rfl,by kernel_rfl,by kernel_rfl,by kernel_rfl,by kernel_rfl,by decide⟩,fun fs h=>by cases h⟩
theorem oF:TIok Go.Proofs.Tryz.prog 26 Vl:=⟨⟨Go.Proofs.Tryz.underlying26,Go.Proofs.Tryz.t26,by kernel_rfl,by kernel_rfl,by kernel_rfl,by kernel_rfl,by kernel_rfl,by decide⟩,fun fs h=>by cases h⟩
theorem oG:TIok Go.Proofs.Tryz.prog 28 Vm:=⟨⟨Go.Proofs.Tryz.underlying28,Go.Proofs.Tryz.t28,by kernel_rfl,by kernel_rfl,by kernel_rfl,by kernel_rfl,by kernel_rfl,by decide⟩,fun fs h=>⟨Go.Proofs.Tryz.eqGuardType28,Go.Proofs.Tryz.stoodInHeld28⟩⟩
theorem oH:TIok Go.Proofs.Tryz.prog 31 Vn:=⟨⟨Go.Proofs.Tryz.underlying31,Go.Proofs.Tryz.t31,by kernel_rfl,by kernel_rfl,by kernel_rfl,by kernel_rfl,by kernel_rfl,by decide⟩,fun fs h=>by cases h⟩
theorem oI:TIok Go.Proofs.Tryz.prog 32 Vo:=⟨⟨Go.Proofs.Tryz.underlying32,Go.Proofs.Tryz.t32,by kernel_rfl,by kernel_rfl,by kernel_rfl,by kernel_rfl,by kernel_rfl,by decide⟩,fun fs h=>by cases h⟩
theorem oJ:TIok Go.Proofs.Tryz.prog 33 Vp:=⟨⟨Go.Proofs.Tryz.underlying33,Go.Proofs.Tryz.t33,by kernel_rfl,by kernel_rfl,by kernel_rfl,by kernel_rfl,by kernel_rfl,by decide⟩,fun fs h=>by cases h⟩
theorem oK:TIok Go.Proofs.Tryz.prog 34 Vq:=⟨⟨Go.Proofs.Tryz.underlying34,Go.Proofs.Tryz.t34,by kernel_rfl,by kernel_rfl,by kernel_rfl,by kernel_rfl,by kernel_rfl,by decide⟩,fun fs h=>by cases h⟩
theorem oL:TIok Go.Proofs.Tryz.prog 36 Vr:=⟨⟨Go.Proofs.Tryz.underlying36,Go.Proofs.Tryz.t36,by kernel_rfl,by kernel_rfl,by kernel_rfl,by kernel_rfl,by kernel_rfl,by decide⟩,fun fs h=>⟨Go.Proofs.Tryz.eqGuardType36,Go.Proofs.Tryz.stoodInHeld36⟩⟩
theorem oN:TIok Go.Proofs.Tryz.prog 44 Vs:=⟨⟨Go.Proofs.Tryz.underlying44,Go.Proofs.Tryz.t44,by kernel_rfl,by kernel_rfl,by kernel_rfl,by kernel_rfl,by kernel_rfl,by decide⟩,fun fs h=>⟨Go.Proofs.Tryz.eqGuardType44,Go.Proofs.Tryz.stoodInHeld44⟩⟩
theorem oO:TIok Go.Proofs.Tryz.prog 47 Vt:=⟨⟨Go.Proofs.Tryz.underlying47,Go.Proofs.Tryz.t47,by kernel_rfl,by kernel_rfl,by kernel_rfl,by kernel_rfl,by kernel_rfl,by decide⟩,fun fs h=>⟨Go.Proofs.Tryz.eqGuardType47,Go.Proofs.Tryz.stoodInHeld47⟩⟩
theorem oQ:TIok Go.Proofs.Tryz.prog 50 Vu:=⟨⟨Go.Proofs.Tryz.underlying50,Go.Proofs.Tryz.t50,by kernel_rfl,by kernel_rfl,by kernel_rfl,by kernel_rfl,by kernel_rfl,by decide⟩,fun fs h=>by cases h⟩
theorem oR:TIok Go.Proofs.Tryz.prog 54 Vv:=⟨⟨Go.Proofs.Tryz.underlying54,Go.Proofs.Tryz.t54,by kernel_rfl,by kernel_rfl,by kernel_rfl,by kernel_rfl,by kernel_rfl,by decide⟩,fun fs h=>by cases h⟩
theorem oS:TIok Go.Proofs.Tryz.prog 79 Vw:=⟨⟨Go.Proofs.Tryz.underlying79,Go.Proofs.Tryz.t79,by kernel_rfl,by kernel_rfl,by kernel_rfl,by kernel_rfl,by kernel_rfl,by decide⟩,fun fs h=>⟨Go.Proofs.Tryz.eqGuardType79,Go.Proofs.Tryz.stoodInHeld79⟩⟩
theorem oT:TIok Go.Proofs.Tryz.prog 81 Vx:=⟨⟨Go.Proofs.Tryz.underlying81,Go.Proofs.Tryz.t81,by kernel_rfl,by kernel_rfl,by kernel_rfl,by kernel_rfl,by kernel_rfl,by decide⟩,fun fs h=>⟨Go.Proofs.Tryz.eqGuardType81,Go.Proofs.Tryz.stoodInHeld81⟩⟩
theorem oU:TIok Go.Proofs.Tryz.prog 83 Vy:=⟨⟨Go.Proofs.Tryz.underlying83,Go.Proofs.Tryz.t83,by kernel_rfl,by kernel_rfl,by kernel_rfl,by kernel_rfl,by kernel_rfl,by decide⟩,fun fs h=>⟨Go.Proofs.Tryz.eqGuardType83,Go.Proofs.Tryz.stoodInHeld83⟩⟩
theorem oV:TIok Go.Proofs.Tryz.prog 96 Vz:=⟨⟨Go.Proofs.Tryz.underlying96,Go.Proofs.Tryz.t96,by kernel_rfl,by kernel_rfl,by kernel_rfl,by kernel_rfl,by kernel_rfl,by decide⟩,fun fs h=>⟨Go.Proofs.Tryz.eqGuardType96,Go.Proofs.Tryz.stoodInHeld96⟩⟩
theorem nz:TIok Go.Proofs.Tryz.prog 100 VY:=⟨⟨Go.Proofs.Tryz.underlying100,Go.Proofs.Tryz.t100,by kernel_rfl,by kernel_rfl,by kernel_rfl,by kernel_rfl,by kernel_rfl,by decide⟩,fun fs h=>by cases h⟩
theorem n3:TIok Go.Proofs.Tryz.prog 104 VZ:=⟨⟨Go.Proofs.Tryz.underlying104,Go.Proofs.Tryz.t104,by kernel_rfl,by kernel_rfl,by kernel_rfl,by kernel_rfl,by kernel_rfl,by decide⟩,fun fs h=>⟨Go.Proofs.Tryz.eqGuardType104,Go.Proofs.Tryz.stoodInHeld104⟩⟩
theorem n4:TIok Go.Proofs.Tryz.prog 105 Va:=⟨⟨Go.Proofs.Tryz.underlying105,Go.Proofs.Tryz.t105,by kernel_rfl,by kernel_rfl,by kernel_rfl,by kernel_rfl,by kernel_rfl,by decide⟩,fun fs h=>⟨Go.Proofs.Tryz.eqGuardType105,Go.Proofs.Tryz.stoodInHeld105⟩⟩
theorem n5:TIok Go.Proofs.Tryz.prog 108 Vb:=⟨⟨Go.Proofs.Tryz.underlying108,Go.Proofs.Tryz.t108,by kernel_rfl,by kernel_rfl,by kernel_rfl,by kernel_rfl,by kernel_rfl,by decide⟩,fun fs h=>⟨Go.Proofs.Tryz.eqGuardType108,Go.Proofs.Tryz.stoodInHeld108⟩⟩
theorem n6:TIok Go.Proofs.Tryz.prog 110 Vc:=⟨⟨Go.Proofs.Tryz.underlying110,Go.Proofs.Tryz.t110,by kernel_rfl,by kernel_rfl,by kernel_rfl,by kernel_rfl,by kernel_rfl,by decide⟩,fun fs h=>⟨Go.Proofs.Tryz.eqGuardType110,Go.Proofs.Tryz.stoodInHeld110⟩⟩
theorem n7:TIok Go.Proofs.Tryz.prog 112 Vd:=⟨⟨Go.Proofs.Tryz.underlying112,Go.Proofs.Tryz.t112,by kernel_rfl,by kernel_rfl,by kernel_rfl,by kernel_rfl,by kernel_rfl,by decide⟩,fun fs h=>⟨Go.Proofs.Tryz.eqGuardType112,Go.Proofs.Tryz.stoodInHeld112⟩⟩
theorem n8:TIok Go.Proofs.Tryz.prog 114 Ve:=⟨⟨Go.Proofs.Tryz.underlying114,Go.Proofs.Tryz.t114,by kernel_rfl,by kernel_rfl,by kernel_rfl,by kernel_rfl,by kernel_rfl,by decide⟩,fun fs h=>⟨Go.Proofs.Tryz.eqGuardType114,Go.Proofs.Tryz.stoodInHeld114⟩⟩
theorem n9:TIok Go.Proofs.Tryz.prog 141 Vf:=⟨⟨Go.Proofs.Tryz.underlying141,Go.Proofs.Tryz.t141,by kernel_rfl,by kernel_rfl,by kernel_rfl,by kernel_rfl,by kernel_rfl,by decide⟩,fun fs h=>by cases h⟩
theorem oA:TIok Go.Proofs.Tryz.prog 143 Vg:=⟨⟨Go.Proofs.Tryz.underlying143,Go.Proofs.Tryz.t143,by kernel_rfl,by kernel_rfl,by kernel_rfl,by kernel_rfl,by kernel_rfl,by decide⟩,fun fs h=>by cases h⟩
theorem oZ: ∀p∈tis,TIok Go.Proofs.Tryz.prog p.1 p.2:=(A7 oM (A7 oP (A7 oB (A7 oC (A7 oD (A7 oE (A7 oF (A7 oG (A7 oH (A7 oI (A7 oJ (A7 oK (A7 oL (A7 oN (A7 oO (A7 oQ (A7 oR (A7 oS (A7 oT (A7 oU (A7 oV (A7 nz (A7 n3 (A7 n4 (A7 n5 (A7 n6 (A7 n7 (A7 n8 (A7 n9 (A7 oA oY))))))))))))))))))))))))))))))
theorem DK:TbOk Go.Proofs.Tryz.prog Tb tyK:=nx oZ fun k=>by cases k<;>first|(show True;trivial)|(show E6 _ _=true;kernel_rfl)
theorem Ib:Go.Proofs.Tryz.prog.follows .mixedOrders=true:=by kernel_rfl
abbrev RO:=RwOk Go.Proofs.Tryz.prog tyK
theorem en: ∀e∈([]:List Rw),RO e:=XL
theorem ec{e:Rw}{es:List Rw}(h:RO e)(hs: ∀e∈es,RO e): ∀e'∈e::es,RO e':=XK h hs
theorem rL{e:Rw}(fa:FnA)(ls:List LS)(n:Nat){es:List Rw}(hes: ∀e'∈es,RO e')(hf:Go.Proofs.Tryz.prog.funcs[e.f]? =some fa.fn)(hk:(fa.fn.name== "runtime.NumGoroutine",fa.fn.body.isNone,fa.fn.body.map B2,ls.map fun l=>FO (Cc (cOf fa l)) ls)=(false,false,some (ls.map (cOf fa)),ls.map some))(hL:Ki Tb tyK (orc es) n fa ls ls)(heq: ∀x,HG Tb tyK (orc es) n fa ls (e.d.make x) e.sh=e.run x):RO e:=ent fa ls n Ib DK hes hf hk hL heq
theorem rE{e:Rw}(fa:FnA)(n:Nat){es:List Rw}(hes: ∀e'∈es,RO e')(hf:Go.Proofs.Tryz.prog.funcs[e.f]? =some fa.fn)(hk:(fa.fn.name== "runtime.NumGoroutine",fa.fn.body.isNone,fa.fn.body.map B2)=(false,false,some []))(heq: ∀x,HG Tb tyK (orc es) n fa [] (e.d.make x) e.sh=e.run x):RO e:=by
 injection hk with h1 hk
 injection hk with h2 h3
 exact RL Ib DK hes hf h1 h2 h3 (CM.nil _ _) heq
abbrev q0:Sh:=pS [.int,.int,.int,.int,.bool,.int,.int,.int,.int,.int,.int,.int,.int,.int]
abbrev q1:OA:=cl 1 (.agg q0) 0
abbrev q2:Sh:=pS [.own .task]
abbrev q3:Sh:=pS [.own .int]
abbrev q5:Sh:=pS [.int,.own .int]
abbrev q7:Sh:=pS [.own .lock]
abbrev q8:Sh:=pS [.int,.int]
abbrev q10:Sh:=pS [.int,.int,.int,.int]
abbrev q13:Sh:=pS [.own .ghost]
abbrev q14:Sh:=pS [.int,.int,.int]
abbrev q17:Sh:=pS [.own .turn]
abbrev q18:OA:=cl 1 (.own .task) 1
abbrev q19:OA:=cl 1 (.own .lock) 1
abbrev q20:OA:=cl 1 (.own .ghost) 1
abbrev q21:OA:=cl 1 (.own .int) 1
abbrev q22:OA:=cl 1 (.own .turn) 1
abbrev q23:Sh:=pS [.int,.int,.ro .task,.ro .lock,.ro .ghost,.ro .int,.int,.int,.ro .turn]
abbrev q24:Sh:=pS [.agg q23]
abbrev q25:Sh:=pS [.own .int,.bool]
abbrev q26:Sh:=pS [.tup q25]
abbrev q28:OA:=cl 2 (.tup q25) 1
abbrev q30:Sh:=pS [.own .share]
abbrev q31:List Nat:=[0,2,3,4,5,6,7,8]
abbrev q32:List Nat:=[3,4,5,6,7,8]
abbrev q33:Sh:=pS [.int,.int,.bool]
abbrev q34:Sh:=pS [.tup q33]
abbrev q36:OA:=cl 1 (.tup q33) 0
abbrev q37:OA:=cl 2 (.own .share) 1
abbrev q38:OA:=cl 2 (.own .task) 1
abbrev q44:List Nat:=[1,2,5,12,13,14]
abbrev q45:List Nat:=[0,2,3,4,5,6,7,8,9]
abbrev q46:List Nat:=[1,5,37,38,39]
abbrev q47:List Nat:=[3,4,5,6,7,8,9]
abbrev q49:OA:=.call [.ro] (.own .task) [] [some 2]
abbrev q53:OA:=cl 2 (.ro .task) 0
abbrev q54:OA:=cl 1 (.agg q23) 0
abbrev q55:List Nat:=[1,2,3,4,5]
abbrev q56:Sh:=pS [.int,.int,.own .task,.ro .lock,.own .ghost,.own .int,.int,.int,.own .turn]
abbrev q58:OA:=.call [.ro] (.own .lock) [] [some 4]
abbrev q59:Sh:=pS [.int,.int,.own .task,.own .lock,.own .ghost,.own .int,.int,.int,.own .turn]
abbrev q60:Sh:=pS [.agg q59]
abbrev q61:OA:=cl 2 (.agg q0) 0
abbrev q62:OA:=.call [.ro] (.agg q59) [] [some 2,some 3,some 4,some 5,some 6]
abbrev q64:DE:=.box (pD [.int,.int,.nil,.nil,.nil,.nil,.int,.int,.nil])
abbrev q67:Sh:=pS [.agg q0,.bool]
abbrev q68:Sh:=pS [.tup q67]
abbrev q69:OA:=cl 2 (.tup q67) 0
abbrev q70:OA:=.call [.ro] (.agg q59) [] [some 12,some 13,some 14,some 15,some 16]
abbrev q71:OA:=.call [.mv,.ro] (.agg q59) [] [some 22,some 23,some 24,some 25,some 26]
abbrev q72:Sh:=pS [.agg q59,.bool]
abbrev q73:Sh:=pS [.tup q72]
abbrev q74:List Nat:=[0,1,2,3,5,6,7,8,9,10,11,12,13,14,15,16,17,18,19,20,21,22,23,24,25,26]
abbrev q75:DE:=.box (pD [.int,.int,.bor 2,.bor 3,.bor 8,.bor 5,.int,.int,.bor 6])
abbrev q76:List Nat:=[1,2,3,5,6,7,8,9,10,11,12,13,14,15,16,17,18,19,20,21,22,23,24,25,26]
abbrev q77:List Nat:=[1,7,9,10,11,12,13,14,15,16,17,18,19,20,21,22,23,24,25,26]
abbrev q78:DE:=.box (pD [.int,.int,.bor 12,.bor 13,.bor 14,.bor 15,.int,.int,.bor 16])
abbrev q79:List Nat:=[22,23,24,25,26]
abbrev q80:List Nat:=[1,7,9,10,11,17,18,19,20,21,22,23,24,25,26]
abbrev q81:DE:=.box (pD [.int,.int,.bor 17,.bor 18,.bor 19,.bor 20,.int,.int,.bor 21])
abbrev q82:OA:=.call [.ro] (.own .int) [] [some 2]
abbrev q83:List Nat:=[0,1,2,3,4]
abbrev q85:Sh:=pS [.tup .one,.box q59]
abbrev q96:DE:=.box (pD [.int,.int,.bor 1,.bor 2,.bor 3,.bor 4,.int,.int,.bor 5])
abbrev TK:OA:=.call [.mv] (.tup .one) [.box q59] [some 8,some 9,some 10,some 11,some 12]
abbrev TL:OA:=.call [.mv] (.tup .one) [.box q59] [some 13,some 14,some 15,some 16,some 17]
abbrev TM:OA:=.call [.mv,.ro] (.tup .one) [.box q59] [some 23,some 24,some 25,some 26,some 27]
abbrev TN:List Nat:=[2,4,35,36]
abbrev TO:List Nat:=[1,7,13,14,15,16,17,18,19,20,21,22,23,24,25,26,27]
abbrev KM:DE:=.box (pD [.int,.int,.bor 13,.bor 14,.bor 15,.bor 16,.int,.int,.bor 17])
abbrev TP:List Nat:=[2,4,54,55]
abbrev TQ:List Nat:=[23,24,25,26,27]
abbrev TR:List Nat:=[1,7,18,19,20,21,22,23,24,25,26,27]
abbrev TS:DE:=.box (pD [.int,.int,.bor 18,.bor 19,.bor 20,.bor 21,.int,.int,.bor 22])
abbrev TT:OA:=.call [.mv,.ro] .int [.own .int] []
abbrev TU:Sh:=pS [.junk,.junk,.own .task,.own .lock,.own .ghost,.own .int,.junk,.junk,.own .turn]
abbrev TV:OA:=cl 1 (.tup q72) 5
abbrev If:OA:=.call [.mv,.ro] .int [.agg TU] []
abbrev TW:Sh:=pS [.int,.int,.int,.int,.int]
abbrev TX:Sh:=pS [.agg TW]
abbrev Ig:OA:=cl 1 (.agg TW) 0
abbrev Ih:OA:=cl 1 (.tup q67) 0
abbrev Pk:Sh:=pS [.own .task,.bool]
abbrev TY:Sh:=pS [.tup Pk]
abbrev TZ:OA:=.call [.ro] (.own .lock) [] [some 1]
abbrev Pl:Sh:=pS [.own .lock,.int]
abbrev Ta:Sh:=pS [.tup Pl]
abbrev Tc:Sh:=pS [.own .lock,.bool]
abbrev Td:Sh:=pS [.tup Tc]
abbrev Te:OA:=cl 4 (.tup q67) 0
abbrev M8:OA:=cl 5 (.tup q67) 0
abbrev Cv:Sh:=pS [.agg q59,.int]
abbrev DI:Sh:=pS [.tup Cv]
abbrev Tf:OA:=.call [.ro,.ro,.ro,.ro] (.tup Tc) [] [some 8]
abbrev Tg:OA:=cl 4 (.agg q0) 0
abbrev Th:OA:=.call [.ro] (.agg q59) [] [some 3,some 4,some 5,some 6,some 7]
abbrev Ti:OA:=cl 1 (.agg q56) 4
abbrev Tj:Sh:=pS [.agg q23,.int]
abbrev Tl:Sh:=pS [.tup Tj]
abbrev KN:Sh:=pS [.int,.box q59]
abbrev Tm:OA:=.call [.ro] (.own .lock) [] [some 0]
abbrev Pm:OA:=.call [.ro,.ro] (.tup Cv) [] [some 3,some 4,some 5,some 6,some 7]
abbrev Tn:OA:=.call [.ro] (.agg q59) [] [some 8,some 9,some 10,some 11,some 12]
abbrev To:OA:=.call [.mv,.ro] .int [.box q59] [some 14,some 15,some 16,some 17,some 18]
abbrev Tp:OA:=.call [.ro] (.agg q59) [] [some 19,some 20,some 21,some 22,some 23]
abbrev Tq:OA:=.call [.mv,.ro,.ro] .int [.box q59] [some 24,some 25,some 26,some 27,some 28]
abbrev M9:OA:=cl 2 (.tup Tj) 0
abbrev Tr:Sh:=pS [.own .call]
abbrev Ts:Sh:=pS [.agg q23,.own .int]
abbrev Tt:Sh:=pS [.tup Ts]
abbrev Tu:DE:=.box (pD [.int,.int,.rog .task,.rog .lock,.rog .ghost,.rog .int,.int,.int,.rog .turn])
abbrev Tv:List Nat:=[4,6,7,24,25,26]
abbrev Tw:Sh:=pS [.agg q59,.own .int]
abbrev Po:OA:=cl 1 (.own .call) 1
abbrev Tx:OA:=cl 2 (.tup Ts) 1
end Go.Proofs.YtbbgaleennfklaaGreat.VR
