/- The types of the program that its functions use, as tables of the evaluator. -/
import Derived.Test.YthnfghmjipikhaaGreatDoorKd
import Derived.Test.YthnfghmjipikhaaGreatDoorProg
set_option linter.unusedVariables false
set_option maxRecDepth 100000
namespace Go.Proofs.YthnfghmjipikhaaGreatDoor.Ev
open Tryz
theorem ty3:A4K prog 3 ⟨false,(.int .i64),8,[]⟩:=tI t3 underlying3
theorem ty4:A4K prog 4 ⟨false,.bool,1,[]⟩:=tB t4 underlying4
theorem ty5:A4K prog 5 ⟨false,(.int .u8),1,[]⟩:=tI t5 underlying5
theorem ty9:A4K prog 9 ⟨false,.str,16,[]⟩:=tS t9 underlying9
theorem E4P:A4K prog 27 ⟨false,(.sl 5 (.int .u8)),24,[]⟩:=tL t27 underlying27
theorem E4Q:A4K prog 30 ⟨false,(.sl 150 D9),24,[]⟩:=tL t30 underlying30
theorem E4R:A4K prog 32 ⟨true,A6w,32,[(0,1,false),(1,1,false)]⟩:=tT t32 underlying32 ⟨tF t3 underlying3,tF t30 underlying30,trivial⟩
theorem E4S:A4K prog 36 ⟨true,C7n,32,[(0,1,false),(1,1,false),(2,1,false)]⟩:=tT t36 underlying36 ⟨tF t3 underlying3,tF t9 underlying9,tF t3 underlying3,trivial⟩
theorem E4T:A4K prog 52 ⟨true,C5C,40,[(0,1,false),(1,1,false),(2,1,false)]⟩:=tT t52 underlying52 ⟨tF t3 underlying3,tF t4 underlying4,tF t27 underlying27,trivial⟩
theorem E4U:A4K prog 53 ⟨false,(.sl 113 N8),24,[]⟩:=tL t53 underlying53
theorem E4V:A4K prog 55 ⟨true,C94,176,[(0,1,false),(1,1,false),(2,3,true),(5,2,true),(7,2,true),(9,1,false),(10,1,false),(11,1,false)]⟩:=tT t55 underlying55 ⟨tF t3 underlying3,tF t27 underlying27,tF t52 underlying52,tF t32 underlying32,tF t32 underlying32,tF t53 underlying53,tF t3 underlying3,tF t3 underlying3,trivial⟩
theorem E4W:A4K prog 69 ⟨false,(.sl 75 A3P),24,[]⟩:=tL t69 underlying69
theorem E4a:A4K prog 75 ⟨true,A3P,72,[(0,1,false),(1,3,true),(4,1,false),(5,1,false)]⟩:=tT t75 underlying75 ⟨tF t3 underlying3,tF t36 underlying36,tF t27 underlying27,tF t3 underlying3,trivial⟩
theorem E4b:A4K prog 76 ⟨false,(.sl 82 B0u),24,[]⟩:=tL t76 underlying76
theorem E4c:A4K prog 82 ⟨true,B0u,48,[(0,1,false),(1,1,false),(2,1,false),(3,1,false)]⟩:=tT t82 underlying82 ⟨tF t3 underlying3,tF t3 underlying3,tF t3 underlying3,tF t27 underlying27,trivial⟩
theorem E3s:A4K prog 113 ⟨true,N8,72,[(0,1,false),(1,1,false),(2,3,true),(5,1,false)]⟩:=tT t113 underlying113 ⟨tF t3 underlying3,tF t3 underlying3,tF t36 underlying36,tF t27 underlying27,trivial⟩
theorem E3t:A4K prog 130 ⟨false,(.sl 3 (.int .i64)),24,[]⟩:=tL t130 underlying130
theorem E3u:A4K prog 133 ⟨true,A31,224,[(0,12,true),(12,1,false),(13,1,false)]⟩:=tT t133 underlying133 ⟨tF t55 underlying55,tF t69 underlying69,tF t27 underlying27,trivial⟩
theorem E3v:A4K prog 147 ⟨true,C1a,96,[(0,1,false),(1,1,false),(2,1,false),(3,2,true),(5,1,false)]⟩:=tT t147 underlying147 ⟨tF t27 underlying27,tF t3 underlying3,tF t3 underlying3,tF t32 underlying32,tF t30 underlying30,trivial⟩
theorem E3w:A4K prog 150 ⟨true,D9,32,[(0,1,false),(1,1,false)]⟩:=tT t150 underlying150 ⟨tF t9 underlying9,tF t9 underlying9,trivial⟩
theorem E40:A4K prog 185 ⟨true,D9l,40,[(0,1,false),(1,1,false),(2,1,false)]⟩:=tT t185 underlying185 ⟨tF t27 underlying27,tF t3 underlying3,tF t3 underlying3,trivial⟩
theorem E41:A4K prog 187 ⟨false,(.sl 9 .str),24,[]⟩:=tL t187 underlying187
theorem E42:A4K prog 189 ⟨false,(.sl 27 (.sl 5 (.int .u8))),24,[]⟩:=tL t189 underlying189
theorem E43:A4K prog 198 ⟨false,(.int .u64),8,[]⟩:=tI t198 underlying198
theorem E44:A4K prog 246 ⟨true,Q0,16,[(0,1,false),(1,1,false)]⟩:=tT t246 underlying246 ⟨tF t3 underlying3,tF t3 underlying3,trivial⟩
def cfg:Cfg:=E39 [(3,⟨false,(.int .i64),8,[]⟩),(4,⟨false,.bool,1,[]⟩),(5,⟨false,(.int .u8),1,[]⟩),(9,⟨false,.str,16,[]⟩),(27,⟨false,(.sl 5 (.int .u8)),24,[]⟩),(30,⟨false,(.sl 150 D9),24,[]⟩),(32,⟨true,A6w,32,[(0,1,false),(1,1,false)]⟩),(36,⟨true,C7n,32,[(0,1,false),(1,1,false),(2,1,false)]⟩),(52,⟨true,C5C,40,[(0,1,false),(1,1,false),(2,1,false)]⟩),(53,⟨false,(.sl 113 N8),24,[]⟩),(55,⟨true,C94,176,[(0,1,false),(1,1,false),(2,3,true),(5,2,true),(7,2,true),(9,1,false),(10,1,false),(11,1,false)]⟩),(69,⟨false,(.sl 75 A3P),24,[]⟩),(75,⟨true,A3P,72,[(0,1,false),(1,3,true),(4,1,false),(5,1,false)]⟩),(76,⟨false,(.sl 82 B0u),24,[]⟩),(82,⟨true,B0u,48,[(0,1,false),(1,1,false),(2,1,false),(3,1,false)]⟩),(113,⟨true,N8,72,[(0,1,false),(1,1,false),(2,3,true),(5,1,false)]⟩),(130,⟨false,(.sl 3 (.int .i64)),24,[]⟩),(133,⟨true,A31,224,[(0,12,true),(12,1,false),(13,1,false)]⟩),(147,⟨true,C1a,96,[(0,1,false),(1,1,false),(2,1,false),(3,2,true),(5,1,false)]⟩),(150,⟨true,D9,32,[(0,1,false),(1,1,false)]⟩),(185,⟨true,D9l,40,[(0,1,false),(1,1,false),(2,1,false)]⟩),(187,⟨false,(.sl 9 .str),24,[]⟩),(189,⟨false,(.sl 27 (.sl 5 (.int .u8))),24,[]⟩),(198,⟨false,(.int .u64),8,[]⟩),(246,⟨true,Q0,16,[(0,1,false),(1,1,false)]⟩)] [(27,5),(30,150),(53,113),(69,75),(76,82),(130,3),(187,9),(189,27)]
theorem E2:M6 prog cfg:=E1m ⟨ty3,ty4,ty5,ty9,E4P,E4Q,E4R,E4S,E4T,E4U,E4V,E4W,E4a,E4b,E4c,E3s,E3t,E3u,E3v,E3w,E40,E41,E42,E43,E44,trivial⟩ ⟨underlying27,underlying30,underlying53,underlying69,underlying76,underlying130,underlying187,underlying189,trivial⟩
theorem E4d:D51 prog 36 10:=D8A [false,true,false] Tryz.eqGuardType36 underlying36 Tryz.stoodInHeld36 ⟨by decide,rfl,underlying3,⟨by decide,rfl,underlying9,⟨by decide,rfl,underlying3,trivial⟩⟩⟩
theorem E45:D50 prog 150 2:=D88 Tryz.eqGuardType150 underlying150 Tryz.stoodInHeld150 ⟨by decide,rfl,underlying9,⟨by decide,rfl,underlying9,rfl⟩⟩
theorem MO:prog.follows .mixedOrders=true:=by kernel_rfl
abbrev SQ(p:Nat×Fn):Prop:=SP prog p
end Go.Proofs.YthnfghmjipikhaaGreatDoor.Ev
