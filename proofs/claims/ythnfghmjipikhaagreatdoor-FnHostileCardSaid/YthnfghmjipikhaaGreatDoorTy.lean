/- The types of the program that its functions use, as tables of the evaluator. -/
import Derived.Test.YthnfghmjipikhaaGreatDoorKd
import Derived.Test.YthnfghmjipikhaaGreatDoorProg
set_option linter.unusedVariables false
set_option maxRecDepth 100000
namespace Go.Proofs.YthnfghmjipikhaaGreatDoor.Ev
open Tryz
theorem ty3:A5b prog 3 ⟨false,(.int .i64),8,[]⟩:=tI t3 underlying3
theorem ty4:A5b prog 4 ⟨false,.bool,1,[]⟩:=tB t4 underlying4
theorem ty5:A5b prog 5 ⟨false,(.int .u8),1,[]⟩:=tI t5 underlying5
theorem ty9:A5b prog 9 ⟨false,.str,16,[]⟩:=tS t9 underlying9
theorem F4A:A5b prog 27 ⟨false,(.sl 5 (.int .u8)),24,[]⟩:=tL t27 underlying27
theorem F4B:A5b prog 30 ⟨false,(.sl 150 C1),24,[]⟩:=tL t30 underlying30
theorem F4C:A5b prog 32 ⟨true,T0,32,[(0,1,false),(1,1,false)]⟩:=tT t32 underlying32 ⟨tF t3 underlying3,tF t30 underlying30,trivial⟩
theorem F4D:A5b prog 36 ⟨true,D3m,32,[(0,1,false),(1,1,false),(2,1,false)]⟩:=tT t36 underlying36 ⟨tF t3 underlying3,tF t9 underlying9,tF t3 underlying3,trivial⟩
theorem F4E:A5b prog 52 ⟨true,A1j,40,[(0,1,false),(1,1,false),(2,1,false)]⟩:=tT t52 underlying52 ⟨tF t3 underlying3,tF t4 underlying4,tF t27 underlying27,trivial⟩
theorem F4F:A5b prog 53 ⟨false,(.sl 113 H2),24,[]⟩:=tL t53 underlying53
theorem F4G:A5b prog 55 ⟨true,D3n,176,[(0,1,false),(1,1,false),(2,3,true),(5,2,true),(7,2,true),(9,1,false),(10,1,false),(11,1,false)]⟩:=tT t55 underlying55 ⟨tF t3 underlying3,tF t27 underlying27,tF t52 underlying52,tF t32 underlying32,tF t32 underlying32,tF t53 underlying53,tF t3 underlying3,tF t3 underlying3,trivial⟩
theorem F4H:A5b prog 69 ⟨false,(.sl 75 A0q),24,[]⟩:=tL t69 underlying69
theorem F4I:A5b prog 75 ⟨true,A0q,72,[(0,1,false),(1,3,true),(4,1,false),(5,1,false)]⟩:=tT t75 underlying75 ⟨tF t3 underlying3,tF t36 underlying36,tF t27 underlying27,tF t3 underlying3,trivial⟩
theorem F4J:A5b prog 76 ⟨false,(.sl 82 A9u),24,[]⟩:=tL t76 underlying76
theorem F4K:A5b prog 82 ⟨true,A9u,48,[(0,1,false),(1,1,false),(2,1,false),(3,1,false)]⟩:=tT t82 underlying82 ⟨tF t3 underlying3,tF t3 underlying3,tF t3 underlying3,tF t27 underlying27,trivial⟩
theorem F3W:A5b prog 113 ⟨true,H2,72,[(0,1,false),(1,1,false),(2,3,true),(5,1,false)]⟩:=tT t113 underlying113 ⟨tF t3 underlying3,tF t3 underlying3,tF t36 underlying36,tF t27 underlying27,trivial⟩
theorem F3a:A5b prog 130 ⟨false,(.sl 3 (.int .i64)),24,[]⟩:=tL t130 underlying130
theorem F3b:A5b prog 133 ⟨true,A3l,224,[(0,12,true),(12,1,false),(13,1,false)]⟩:=tT t133 underlying133 ⟨tF t55 underlying55,tF t69 underlying69,tF t27 underlying27,trivial⟩
theorem F3c:A5b prog 147 ⟨true,C8E,96,[(0,1,false),(1,1,false),(2,1,false),(3,2,true),(5,1,false)]⟩:=tT t147 underlying147 ⟨tF t27 underlying27,tF t3 underlying3,tF t3 underlying3,tF t32 underlying32,tF t30 underlying30,trivial⟩
theorem F3d:A5b prog 150 ⟨true,C1,32,[(0,1,false),(1,1,false)]⟩:=tT t150 underlying150 ⟨tF t9 underlying9,tF t9 underlying9,trivial⟩
theorem F3e:A5b prog 156 ⟨true,A3l,224,[(0,12,true),(12,1,false),(13,1,false)]⟩:=tT t156 underlying156 ⟨tF t55 underlying55,tF t69 underlying69,tF t27 underlying27,trivial⟩
theorem F3f:A5b prog 185 ⟨true,E9J,40,[(0,1,false),(1,1,false),(2,1,false)]⟩:=tT t185 underlying185 ⟨tF t27 underlying27,tF t3 underlying3,tF t3 underlying3,trivial⟩
theorem F3g:A5b prog 187 ⟨false,(.sl 9 .str),24,[]⟩:=tL t187 underlying187
theorem F3h:A5b prog 189 ⟨false,(.sl 27 (.sl 5 (.int .u8))),24,[]⟩:=tL t189 underlying189
theorem F3i:A5b prog 198 ⟨false,(.int .u64),8,[]⟩:=tI t198 underlying198
theorem F3j:A5b prog 246 ⟨true,L2,16,[(0,1,false),(1,1,false)]⟩:=tT t246 underlying246 ⟨tF t3 underlying3,tF t3 underlying3,trivial⟩
theorem F3k:A5b prog 280 ⟨true,D7L,96,[(0,2,true),(2,1,false),(3,1,false),(4,1,false),(5,1,false)]⟩:=tT t280 underlying280 ⟨tF t32 underlying32,tF t3 underlying3,tF t27 underlying27,tF t3 underlying3,tF t30 underlying30,trivial⟩
def cfg:Cfg:=F2p [(3,⟨false,(.int .i64),8,[]⟩),(4,⟨false,.bool,1,[]⟩),(5,⟨false,(.int .u8),1,[]⟩),(9,⟨false,.str,16,[]⟩),(27,⟨false,(.sl 5 (.int .u8)),24,[]⟩),(30,⟨false,(.sl 150 C1),24,[]⟩),(32,⟨true,T0,32,[(0,1,false),(1,1,false)]⟩),(36,⟨true,D3m,32,[(0,1,false),(1,1,false),(2,1,false)]⟩),(52,⟨true,A1j,40,[(0,1,false),(1,1,false),(2,1,false)]⟩),(53,⟨false,(.sl 113 H2),24,[]⟩),(55,⟨true,D3n,176,[(0,1,false),(1,1,false),(2,3,true),(5,2,true),(7,2,true),(9,1,false),(10,1,false),(11,1,false)]⟩),(69,⟨false,(.sl 75 A0q),24,[]⟩),(75,⟨true,A0q,72,[(0,1,false),(1,3,true),(4,1,false),(5,1,false)]⟩),(76,⟨false,(.sl 82 A9u),24,[]⟩),(82,⟨true,A9u,48,[(0,1,false),(1,1,false),(2,1,false),(3,1,false)]⟩),(113,⟨true,H2,72,[(0,1,false),(1,1,false),(2,3,true),(5,1,false)]⟩),(130,⟨false,(.sl 3 (.int .i64)),24,[]⟩),(133,⟨true,A3l,224,[(0,12,true),(12,1,false),(13,1,false)]⟩),(147,⟨true,C8E,96,[(0,1,false),(1,1,false),(2,1,false),(3,2,true),(5,1,false)]⟩),(150,⟨true,C1,32,[(0,1,false),(1,1,false)]⟩),(156,⟨true,A3l,224,[(0,12,true),(12,1,false),(13,1,false)]⟩),(185,⟨true,E9J,40,[(0,1,false),(1,1,false),(2,1,false)]⟩),(187,⟨false,(.sl 9 .str),24,[]⟩),(189,⟨false,(.sl 27 (.sl 5 (.int .u8))),24,[]⟩),(198,⟨false,(.int .u64),8,[]⟩),(246,⟨true,L2,16,[(0,1,false),(1,1,false)]⟩),(280,⟨true,D7L,96,[(0,2,true),(2,1,false),(3,1,false),(4,1,false),(5,1,false)]⟩)] [(27,5),(30,150),(53,113),(69,75),(76,82),(130,3),(187,9),(189,27)]
theorem C7:O9 prog cfg:=F1O ⟨ty3,ty4,ty5,ty9,F4A,F4B,F4C,F4D,F4E,F4F,F4G,F4H,F4I,F4J,F4K,F3W,F3a,F3b,F3c,F3d,F3e,F3f,F3g,F3h,F3i,F3j,F3k,trivial⟩ ⟨underlying27,underlying30,underlying53,underlying69,underlying76,underlying130,underlying187,underlying189,trivial⟩
theorem F4L:E4V prog 36 10:=E7q [false,true,false] Tryz.eqGuardType36 underlying36 Tryz.stoodInHeld36 ⟨by decide,rfl,underlying3,⟨by decide,rfl,underlying9,⟨by decide,rfl,underlying3,trivial⟩⟩⟩
theorem F3l:E4U prog 150 2:=E7o Tryz.eqGuardType150 underlying150 Tryz.stoodInHeld150 ⟨by decide,rfl,underlying9,⟨by decide,rfl,underlying9,rfl⟩⟩
theorem MO:prog.follows .mixedOrders=true:=by kernel_rfl
abbrev SQ(p:Nat×Fn):Prop:=SP prog p
end Go.Proofs.YthnfghmjipikhaaGreatDoor.Ev
