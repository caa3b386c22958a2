/- The types of the program that its functions use, as tables of the evaluator. -/
import Derived.Test.YthnfghmjipikhaaGreatDoorKd
import Derived.Test.YthnfghmjipikhaaGreatDoorProg
set_option linter.unusedVariables false
set_option maxRecDepth 100000
namespace Go.Proofs.YthnfghmjipikhaaGreatDoor.Ev
open Tryz
theorem ty3:A31 prog 3 ⟨false,(.int .i64),8,[]⟩:=tI t3 underlying3
theorem ty4:A31 prog 4 ⟨false,.bool,1,[]⟩:=tB t4 underlying4
theorem ty5:A31 prog 5 ⟨false,(.int .u8),1,[]⟩:=tI t5 underlying5
theorem ty9:A31 prog 9 ⟨false,.str,16,[]⟩:=tS t9 underlying9
theorem F2H:A31 prog 22 ⟨false,(.sl 161 B8),24,[]⟩:=tL t22 underlying22
theorem F2I:A31 prog 24 ⟨true,C7K,32,[(0,1,false),(1,1,false)]⟩:=tT t24 underlying24 ⟨tF t3 underlying3,tF t22 underlying22,trivial⟩
theorem F2J:A31 prog 26 ⟨true,B4i,32,[(0,1,false),(1,1,false),(2,1,false)]⟩:=tT t26 underlying26 ⟨tF t3 underlying3,tF t9 underlying9,tF t3 underlying3,trivial⟩
theorem F2K:A31 prog 27 ⟨false,(.sl 5 (.int .u8)),24,[]⟩:=tL t27 underlying27
theorem F2L:A31 prog 30 ⟨false,(.sl 150 B8),24,[]⟩:=tL t30 underlying30
theorem F2M:A31 prog 32 ⟨true,A07,32,[(0,1,false),(1,1,false)]⟩:=tT t32 underlying32 ⟨tF t3 underlying3,tF t30 underlying30,trivial⟩
theorem F2N:A31 prog 36 ⟨true,B4i,32,[(0,1,false),(1,1,false),(2,1,false)]⟩:=tT t36 underlying36 ⟨tF t3 underlying3,tF t9 underlying9,tF t3 underlying3,trivial⟩
theorem F2O:A31 prog 45 ⟨true,A03,40,[(0,1,false),(1,1,false),(2,1,false)]⟩:=tT t45 underlying45 ⟨tF t3 underlying3,tF t4 underlying4,tF t27 underlying27,trivial⟩
theorem F2P:A31 prog 46 ⟨false,(.sl 180 E6),24,[]⟩:=tL t46 underlying46
theorem F2Q:A31 prog 48 ⟨true,D20,176,[(0,1,false),(1,1,false),(2,3,true),(5,2,true),(7,2,true),(9,1,false),(10,1,false),(11,1,false)]⟩:=tT t48 underlying48 ⟨tF t3 underlying3,tF t27 underlying27,tF t45 underlying45,tF t24 underlying24,tF t24 underlying24,tF t46 underlying46,tF t3 underlying3,tF t3 underlying3,trivial⟩
theorem F2R:A31 prog 52 ⟨true,A03,40,[(0,1,false),(1,1,false),(2,1,false)]⟩:=tT t52 underlying52 ⟨tF t3 underlying3,tF t4 underlying4,tF t27 underlying27,trivial⟩
theorem F2S:A31 prog 53 ⟨false,(.sl 113 E6),24,[]⟩:=tL t53 underlying53
theorem F2T:A31 prog 55 ⟨true,B8J,176,[(0,1,false),(1,1,false),(2,3,true),(5,2,true),(7,2,true),(9,1,false),(10,1,false),(11,1,false)]⟩:=tT t55 underlying55 ⟨tF t3 underlying3,tF t27 underlying27,tF t52 underlying52,tF t32 underlying32,tF t32 underlying32,tF t53 underlying53,tF t3 underlying3,tF t3 underlying3,trivial⟩
theorem F2U:A31 prog 69 ⟨false,(.sl 75 M6),24,[]⟩:=tL t69 underlying69
theorem F2V:A31 prog 75 ⟨true,M6,72,[(0,1,false),(1,3,true),(4,1,false),(5,1,false)]⟩:=tT t75 underlying75 ⟨tF t3 underlying3,tF t36 underlying36,tF t27 underlying27,tF t3 underlying3,trivial⟩
theorem F2W:A31 prog 82 ⟨true,D6R,48,[(0,1,false),(1,1,false),(2,1,false),(3,1,false)]⟩:=tT t82 underlying82 ⟨tF t3 underlying3,tF t3 underlying3,tF t3 underlying3,tF t27 underlying27,trivial⟩
theorem F1h:A31 prog 113 ⟨true,E6,72,[(0,1,false),(1,1,false),(2,3,true),(5,1,false)]⟩:=tT t113 underlying113 ⟨tF t3 underlying3,tF t3 underlying3,tF t36 underlying36,tF t27 underlying27,trivial⟩
theorem F1i:A31 prog 130 ⟨false,(.sl 3 (.int .i64)),24,[]⟩:=tL t130 underlying130
theorem F1j:A31 prog 133 ⟨true,A2u,224,[(0,12,true),(12,1,false),(13,1,false)]⟩:=tT t133 underlying133 ⟨tF t55 underlying55,tF t69 underlying69,tF t27 underlying27,trivial⟩
theorem F1k:A31 prog 147 ⟨true,C7J,96,[(0,1,false),(1,1,false),(2,1,false),(3,2,true),(5,1,false)]⟩:=tT t147 underlying147 ⟨tF t27 underlying27,tF t3 underlying3,tF t3 underlying3,tF t32 underlying32,tF t30 underlying30,trivial⟩
theorem F1l:A31 prog 150 ⟨true,B8,32,[(0,1,false),(1,1,false)]⟩:=tT t150 underlying150 ⟨tF t9 underlying9,tF t9 underlying9,trivial⟩
theorem F1m:A31 prog 156 ⟨true,A2u,224,[(0,12,true),(12,1,false),(13,1,false)]⟩:=tT t156 underlying156 ⟨tF t55 underlying55,tF t69 underlying69,tF t27 underlying27,trivial⟩
theorem F1n:A31 prog 161 ⟨true,B8,32,[(0,1,false),(1,1,false)]⟩:=tT t161 underlying161 ⟨tF t9 underlying9,tF t9 underlying9,trivial⟩
theorem F1o:A31 prog 180 ⟨true,E6,72,[(0,1,false),(1,1,false),(2,3,true),(5,1,false)]⟩:=tT t180 underlying180 ⟨tF t3 underlying3,tF t3 underlying3,tF t26 underlying26,tF t27 underlying27,trivial⟩
theorem F1p:A31 prog 187 ⟨false,(.sl 9 .str),24,[]⟩:=tL t187 underlying187
theorem F1q:A31 prog 189 ⟨false,(.sl 27 (.sl 5 (.int .u8))),24,[]⟩:=tL t189 underlying189
theorem F1r:A31 prog 198 ⟨false,(.int .u64),8,[]⟩:=tI t198 underlying198
theorem F1s:A31 prog 246 ⟨true,M8,16,[(0,1,false),(1,1,false)]⟩:=tT t246 underlying246 ⟨tF t3 underlying3,tF t3 underlying3,trivial⟩
theorem F1t:A31 prog 280 ⟨true,D5I,96,[(0,2,true),(2,1,false),(3,1,false),(4,1,false),(5,1,false)]⟩:=tT t280 underlying280 ⟨tF t32 underlying32,tF t3 underlying3,tF t27 underlying27,tF t3 underlying3,tF t30 underlying30,trivial⟩
def cfg:Cfg:=F17 [(3,⟨false,(.int .i64),8,[]⟩),(4,⟨false,.bool,1,[]⟩),(5,⟨false,(.int .u8),1,[]⟩),(9,⟨false,.str,16,[]⟩),(22,⟨false,(.sl 161 B8),24,[]⟩),(24,⟨true,C7K,32,[(0,1,false),(1,1,false)]⟩),(26,⟨true,B4i,32,[(0,1,false),(1,1,false),(2,1,false)]⟩),(27,⟨false,(.sl 5 (.int .u8)),24,[]⟩),(30,⟨false,(.sl 150 B8),24,[]⟩),(32,⟨true,A07,32,[(0,1,false),(1,1,false)]⟩),(36,⟨true,B4i,32,[(0,1,false),(1,1,false),(2,1,false)]⟩),(45,⟨true,A03,40,[(0,1,false),(1,1,false),(2,1,false)]⟩),(46,⟨false,(.sl 180 E6),24,[]⟩),(48,⟨true,D20,176,[(0,1,false),(1,1,false),(2,3,true),(5,2,true),(7,2,true),(9,1,false),(10,1,false),(11,1,false)]⟩),(52,⟨true,A03,40,[(0,1,false),(1,1,false),(2,1,false)]⟩),(53,⟨false,(.sl 113 E6),24,[]⟩),(55,⟨true,B8J,176,[(0,1,false),(1,1,false),(2,3,true),(5,2,true),(7,2,true),(9,1,false),(10,1,false),(11,1,false)]⟩),(69,⟨false,(.sl 75 M6),24,[]⟩),(75,⟨true,M6,72,[(0,1,false),(1,3,true),(4,1,false),(5,1,false)]⟩),(82,⟨true,D6R,48,[(0,1,false),(1,1,false),(2,1,false),(3,1,false)]⟩),(113,⟨true,E6,72,[(0,1,false),(1,1,false),(2,3,true),(5,1,false)]⟩),(130,⟨false,(.sl 3 (.int .i64)),24,[]⟩),(133,⟨true,A2u,224,[(0,12,true),(12,1,false),(13,1,false)]⟩),(147,⟨true,C7J,96,[(0,1,false),(1,1,false),(2,1,false),(3,2,true),(5,1,false)]⟩),(150,⟨true,B8,32,[(0,1,false),(1,1,false)]⟩),(156,⟨true,A2u,224,[(0,12,true),(12,1,false),(13,1,false)]⟩),(161,⟨true,B8,32,[(0,1,false),(1,1,false)]⟩),(180,⟨true,E6,72,[(0,1,false),(1,1,false),(2,3,true),(5,1,false)]⟩),(187,⟨false,(.sl 9 .str),24,[]⟩),(189,⟨false,(.sl 27 (.sl 5 (.int .u8))),24,[]⟩),(198,⟨false,(.int .u64),8,[]⟩),(246,⟨true,M8,16,[(0,1,false),(1,1,false)]⟩),(280,⟨true,D5I,96,[(0,2,true),(2,1,false),(3,1,false),(4,1,false),(5,1,false)]⟩)] [(22,161),(27,5),(30,150),(46,180),(53,113),(69,75),(130,3),(187,9),(189,27)]
theorem C5:Q2 prog cfg:=E9o ⟨ty3,ty4,ty5,ty9,F2H,F2I,F2J,F2K,F2L,F2M,F2N,F2O,F2P,F2Q,F2R,F2S,F2T,F2U,F2V,F2W,F1h,F1i,F1j,F1k,F1l,F1m,F1n,F1o,F1p,F1q,F1r,F1s,F1t,trivial⟩ ⟨underlying22,underlying27,underlying30,underlying46,underlying53,underlying69,underlying130,underlying187,underlying189,trivial⟩
theorem MO:prog.follows .mixedOrders=true:=by kernel_rfl
abbrev SQ(p:Nat×Fn):Prop:=SP prog p
end Go.Proofs.YthnfghmjipikhaaGreatDoor.Ev
