/- The types of the program that its functions use, as tables of the evaluator. -/
import Derived.Test.YthnfghmjipikhaaGreatDoorKd
import Derived.Test.YthnfghmjipikhaaGreatDoorProg
set_option linter.unusedVariables false
set_option maxRecDepth 100000
namespace Go.Proofs.YthnfghmjipikhaaGreatDoor.Ev
open Tryz
theorem ty3:A5W prog 3 ⟨false,(.int .i64),8,[]⟩:=tI t3 underlying3
theorem ty4:A5W prog 4 ⟨false,.bool,1,[]⟩:=tB t4 underlying4
theorem ty5:A5W prog 5 ⟨false,(.int .u8),1,[]⟩:=tI t5 underlying5
theorem ty9:A5W prog 9 ⟨false,.str,16,[]⟩:=tS t9 underlying9
theorem F3s:A5W prog 27 ⟨false,(.sl 5 (.int .u8)),24,[]⟩:=tL t27 underlying27
theorem F3t:A5W prog 30 ⟨false,(.sl 150 C1),24,[]⟩:=tL t30 underlying30
theorem F3u:A5W prog 32 ⟨true,T0,32,[(0,1,false),(1,1,false)]⟩:=tT t32 underlying32 ⟨tF t3 underlying3,tF t30 underlying30,trivial⟩
theorem F3v:A5W prog 36 ⟨true,D3l,32,[(0,1,false),(1,1,false),(2,1,false)]⟩:=tT t36 underlying36 ⟨tF t3 underlying3,tF t9 underlying9,tF t3 underlying3,trivial⟩
theorem F3w:A5W prog 52 ⟨true,A1i,40,[(0,1,false),(1,1,false),(2,1,false)]⟩:=tT t52 underlying52 ⟨tF t3 underlying3,tF t4 underlying4,tF t27 underlying27,trivial⟩
theorem F40:A5W prog 53 ⟨false,(.sl 113 H2),24,[]⟩:=tL t53 underlying53
theorem F41:A5W prog 55 ⟨true,D3m,176,[(0,1,false),(1,1,false),(2,3,true),(5,2,true),(7,2,true),(9,1,false),(10,1,false),(11,1,false)]⟩:=tT t55 underlying55 ⟨tF t3 underlying3,tF t27 underlying27,tF t52 underlying52,tF t32 underlying32,tF t32 underlying32,tF t53 underlying53,tF t3 underlying3,tF t3 underlying3,trivial⟩
theorem F42:A5W prog 69 ⟨false,(.sl 75 A0q),24,[]⟩:=tL t69 underlying69
theorem F43:A5W prog 75 ⟨true,A0q,72,[(0,1,false),(1,3,true),(4,1,false),(5,1,false)]⟩:=tT t75 underlying75 ⟨tF t3 underlying3,tF t36 underlying36,tF t27 underlying27,tF t3 underlying3,trivial⟩
theorem F44:A5W prog 76 ⟨false,(.sl 82 A9s),24,[]⟩:=tL t76 underlying76
theorem F45:A5W prog 82 ⟨true,A9s,48,[(0,1,false),(1,1,false),(2,1,false),(3,1,false)]⟩:=tT t82 underlying82 ⟨tF t3 underlying3,tF t3 underlying3,tF t3 underlying3,tF t27 underlying27,trivial⟩
theorem F3I:A5W prog 113 ⟨true,H2,72,[(0,1,false),(1,1,false),(2,3,true),(5,1,false)]⟩:=tT t113 underlying113 ⟨tF t3 underlying3,tF t3 underlying3,tF t36 underlying36,tF t27 underlying27,trivial⟩
theorem F3J:A5W prog 130 ⟨false,(.sl 3 (.int .i64)),24,[]⟩:=tL t130 underlying130
theorem F3K:A5W prog 133 ⟨true,A3k,224,[(0,12,true),(12,1,false),(13,1,false)]⟩:=tT t133 underlying133 ⟨tF t55 underlying55,tF t69 underlying69,tF t27 underlying27,trivial⟩
theorem F3L:A5W prog 147 ⟨true,C8D,96,[(0,1,false),(1,1,false),(2,1,false),(3,2,true),(5,1,false)]⟩:=tT t147 underlying147 ⟨tF t27 underlying27,tF t3 underlying3,tF t3 underlying3,tF t32 underlying32,tF t30 underlying30,trivial⟩
theorem F3M:A5W prog 150 ⟨true,C1,32,[(0,1,false),(1,1,false)]⟩:=tT t150 underlying150 ⟨tF t9 underlying9,tF t9 underlying9,trivial⟩
theorem F3N:A5W prog 156 ⟨true,A3k,224,[(0,12,true),(12,1,false),(13,1,false)]⟩:=tT t156 underlying156 ⟨tF t55 underlying55,tF t69 underlying69,tF t27 underlying27,trivial⟩
theorem F3O:A5W prog 185 ⟨true,E99,40,[(0,1,false),(1,1,false),(2,1,false)]⟩:=tT t185 underlying185 ⟨tF t27 underlying27,tF t3 underlying3,tF t3 underlying3,trivial⟩
theorem F3P:A5W prog 187 ⟨false,(.sl 9 .str),24,[]⟩:=tL t187 underlying187
theorem F3Q:A5W prog 189 ⟨false,(.sl 27 (.sl 5 (.int .u8))),24,[]⟩:=tL t189 underlying189
theorem F3R:A5W prog 198 ⟨false,(.int .u64),8,[]⟩:=tI t198 underlying198
theorem F3S:A5W prog 246 ⟨true,L2,16,[(0,1,false),(1,1,false)]⟩:=tT t246 underlying246 ⟨tF t3 underlying3,tF t3 underlying3,trivial⟩
theorem F3T:A5W prog 280 ⟨true,D7K,96,[(0,2,true),(2,1,false),(3,1,false),(4,1,false),(5,1,false)]⟩:=tT t280 underlying280 ⟨tF t32 underlying32,tF t3 underlying3,tF t27 underlying27,tF t3 underlying3,tF t30 underlying30,trivial⟩
def cfg:Cfg:=F2b [(3,⟨false,(.int .i64),8,[]⟩),(4,⟨false,.bool,1,[]⟩),(5,⟨false,(.int .u8),1,[]⟩),(9,⟨false,.str,16,[]⟩),(27,⟨false,(.sl 5 (.int .u8)),24,[]⟩),(30,⟨false,(.sl 150 C1),24,[]⟩),(32,⟨true,T0,32,[(0,1,false),(1,1,false)]⟩),(36,⟨true,D3l,32,[(0,1,false),(1,1,false),(2,1,false)]⟩),(52,⟨true,A1i,40,[(0,1,false),(1,1,false),(2,1,false)]⟩),(53,⟨false,(.sl 113 H2),24,[]⟩),(55,⟨true,D3m,176,[(0,1,false),(1,1,false),(2,3,true),(5,2,true),(7,2,true),(9,1,false),(10,1,false),(11,1,false)]⟩),(69,⟨false,(.sl 75 A0q),24,[]⟩),(75,⟨true,A0q,72,[(0,1,false),(1,3,true),(4,1,false),(5,1,false)]⟩),(76,⟨false,(.sl 82 A9s),24,[]⟩),(82,⟨true,A9s,48,[(0,1,false),(1,1,false),(2,1,false),(3,1,false)]⟩),(113,⟨true,H2,72,[(0,1,false),(1,1,false),(2,3,true),(5,1,false)]⟩),(130,⟨false,(.sl 3 (.int .i64)),24,[]⟩),(133,⟨true,A3k,224,[(0,12,true),(12,1,false),(13,1,false)]⟩),(147,⟨true,C8D,96,[(0,1,false),(1,1,false),(2,1,false),(3,2,true),(5,1,false)]⟩),(150,⟨true,C1,32,[(0,1,false),(1,1,false)]⟩),(156,⟨true,A3k,224,[(0,12,true),(12,1,false),(13,1,false)]⟩),(185,⟨true,E99,40,[(0,1,false),(1,1,false),(2,1,false)]⟩),(187,⟨false,(.sl 9 .str),24,[]⟩),(189,⟨false,(.sl 27 (.sl 5 (.int .u8))),24,[]⟩),(198,⟨false,(.int .u64),8,[]⟩),(246,⟨true,L2,16,[(0,1,false),(1,1,false)]⟩),(280,⟨true,D7K,96,[(0,2,true),(2,1,false),(3,1,false),(4,1,false),(5,1,false)]⟩)] [(27,5),(30,150),(53,113),(69,75),(76,82),(130,3),(187,9),(189,27)]
theorem C6:O9 prog cfg:=F1C ⟨ty3,ty4,ty5,ty9,F3s,F3t,F3u,F3v,F3w,F40,F41,F42,F43,F44,F45,F3I,F3J,F3K,F3L,F3M,F3N,F3O,F3P,F3Q,F3R,F3S,F3T,trivial⟩ ⟨underlying27,underlying30,underlying53,underlying69,underlying76,underlying130,underlying187,underlying189,trivial⟩
theorem F46:E4P prog 36 10:=E7g [false,true,false] Tryz.eqGuardType36 underlying36 Tryz.stoodInHeld36 ⟨by decide,rfl,underlying3,⟨by decide,rfl,underlying9,⟨by decide,rfl,underlying3,trivial⟩⟩⟩
theorem F3U:E4O prog 150 2:=E7e Tryz.eqGuardType150 underlying150 Tryz.stoodInHeld150 ⟨by decide,rfl,underlying9,⟨by decide,rfl,underlying9,rfl⟩⟩
theorem MO:prog.follows .mixedOrders=true:=by kernel_rfl
abbrev SQ(p:Nat×Fn):Prop:=SP prog p
end Go.Proofs.YthnfghmjipikhaaGreatDoor.Ev
