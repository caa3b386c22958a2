/- The types of the program that its functions use, as tables of the evaluator. -/
import Derived.Test.YthnfghmjipikhaaGreatDoorKd
import Derived.Test.YthnfghmjipikhaaGreatDoorProg
set_option linter.unusedVariables false
set_option maxRecDepth 100000
namespace Go.Proofs.YthnfghmjipikhaaGreatDoor.Ev
open Tryz
theorem ty3:V7 prog 3 ⟨false,(.int .i64),8,[]⟩:=tI t3 underlying3
theorem ty4:V7 prog 4 ⟨false,.bool,1,[]⟩:=tB t4 underlying4
theorem ty5:V7 prog 5 ⟨false,(.int .u8),1,[]⟩:=tI t5 underlying5
theorem ty9:V7 prog 9 ⟨false,.str,16,[]⟩:=tS t9 underlying9
theorem D1l:V7 prog 22 ⟨false,(.sl 161 C1),24,[]⟩:=tL t22 underlying22
theorem D1m:V7 prog 24 ⟨true,B2D,32,[(0,1,false),(1,1,false)]⟩:=tT t24 underlying24 ⟨tF t3 underlying3,tF t22 underlying22,trivial⟩
theorem D1H:V7 prog 26 ⟨true,A9g,32,[(0,1,false),(1,1,false),(2,1,false)]⟩:=tT t26 underlying26 ⟨tF t3 underlying3,tF t9 underlying9,tF t3 underlying3,trivial⟩
theorem D1n:V7 prog 27 ⟨false,(.sl 5 (.int .u8)),24,[]⟩:=tL t27 underlying27
theorem D1o:V7 prog 30 ⟨false,(.sl 150 C1),24,[]⟩:=tL t30 underlying30
theorem D1p:V7 prog 32 ⟨true,A3R,32,[(0,1,false),(1,1,false)]⟩:=tT t32 underlying32 ⟨tF t3 underlying3,tF t30 underlying30,trivial⟩
theorem D1I:V7 prog 36 ⟨true,A9g,32,[(0,1,false),(1,1,false),(2,1,false)]⟩:=tT t36 underlying36 ⟨tF t3 underlying3,tF t9 underlying9,tF t3 underlying3,trivial⟩
theorem D1q:V7 prog 76 ⟨false,(.sl 82 M8),24,[]⟩:=tL t76 underlying76
theorem D1r:V7 prog 82 ⟨true,M8,48,[(0,1,false),(1,1,false),(2,1,false),(3,1,false)]⟩:=tT t82 underlying82 ⟨tF t3 underlying3,tF t3 underlying3,tF t3 underlying3,tF t27 underlying27,trivial⟩
theorem D1J:V7 prog 130 ⟨false,(.sl 3 (.int .i64)),24,[]⟩:=tL t130 underlying130
theorem D0B:V7 prog 150 ⟨true,C1,32,[(0,1,false),(1,1,false)]⟩:=tT t150 underlying150 ⟨tF t9 underlying9,tF t9 underlying9,trivial⟩
theorem D0C:V7 prog 161 ⟨true,C1,32,[(0,1,false),(1,1,false)]⟩:=tT t161 underlying161 ⟨tF t9 underlying9,tF t9 underlying9,trivial⟩
theorem D1K:V7 prog 187 ⟨false,(.sl 9 .str),24,[]⟩:=tL t187 underlying187
theorem D0D:V7 prog 198 ⟨false,(.int .u64),8,[]⟩:=tI t198 underlying198
theorem D1L:V7 prog 240 ⟨false,(.sl 30 (.sl 150 C1)),24,[]⟩:=tL t240 underlying240
theorem D0E:V7 prog 246 ⟨true,A16,16,[(0,1,false),(1,1,false)]⟩:=tT t246 underlying246 ⟨tF t3 underlying3,tF t3 underlying3,trivial⟩
def cfg:Cfg:=C9K [(3,⟨false,(.int .i64),8,[]⟩),(4,⟨false,.bool,1,[]⟩),(5,⟨false,(.int .u8),1,[]⟩),(9,⟨false,.str,16,[]⟩),(22,⟨false,(.sl 161 C1),24,[]⟩),(24,⟨true,B2D,32,[(0,1,false),(1,1,false)]⟩),(26,⟨true,A9g,32,[(0,1,false),(1,1,false),(2,1,false)]⟩),(27,⟨false,(.sl 5 (.int .u8)),24,[]⟩),(30,⟨false,(.sl 150 C1),24,[]⟩),(32,⟨true,A3R,32,[(0,1,false),(1,1,false)]⟩),(36,⟨true,A9g,32,[(0,1,false),(1,1,false),(2,1,false)]⟩),(76,⟨false,(.sl 82 M8),24,[]⟩),(82,⟨true,M8,48,[(0,1,false),(1,1,false),(2,1,false),(3,1,false)]⟩),(130,⟨false,(.sl 3 (.int .i64)),24,[]⟩),(150,⟨true,C1,32,[(0,1,false),(1,1,false)]⟩),(161,⟨true,C1,32,[(0,1,false),(1,1,false)]⟩),(187,⟨false,(.sl 9 .str),24,[]⟩),(198,⟨false,(.int .u64),8,[]⟩),(240,⟨false,(.sl 30 (.sl 150 C1)),24,[]⟩),(246,⟨true,A16,16,[(0,1,false),(1,1,false)]⟩)] [(22,161),(27,5),(30,150),(76,82),(130,3),(187,9),(240,30)]
theorem F5:J9 prog cfg:=C4U ⟨ty3,ty4,ty5,ty9,D1l,D1m,D1H,D1n,D1o,D1p,D1I,D1q,D1r,D1J,D0B,D0C,D1K,D0D,D1L,D0E,trivial⟩ ⟨underlying22,underlying27,underlying30,underlying76,underlying130,underlying187,underlying240,trivial⟩
theorem D1M:V7 prog 22 ⟨false,(.rs 161 C1),24,[]⟩:=tR t22 underlying22
theorem D1N:V7 prog 24 ⟨true,(.pair (.int .i64) (.rs 161 C1)),32,[(0,1,false),(1,1,false)]⟩:=tT t24 underlying24 ⟨tF t3 underlying3,tF t22 underlying22,trivial⟩
theorem D1O:V7 prog 27 ⟨false,(.rs 5 (.int .u8)),24,[]⟩:=tR t27 underlying27
theorem D1P:V7 prog 30 ⟨false,(.rs 150 C1),24,[]⟩:=tR t30 underlying30
theorem D1Q:V7 prog 32 ⟨true,(.pair (.int .i64) (.rs 150 C1)),32,[(0,1,false),(1,1,false)]⟩:=tT t32 underlying32 ⟨tF t3 underlying3,tF t30 underlying30,trivial⟩
theorem D1R:V7 prog 76 ⟨false,(.rs 82 (.pair (.int .i64) (.pair (.int .i64) (.pair (.int .i64) (.rs 5 (.int .u8)))))),24,[]⟩:=tR t76 underlying76
theorem D1S:V7 prog 82 ⟨true,(.pair (.int .i64) (.pair (.int .i64) (.pair (.int .i64) (.rs 5 (.int .u8))))),48,[(0,1,false),(1,1,false),(2,1,false),(3,1,false)]⟩:=tT t82 underlying82 ⟨tF t3 underlying3,tF t3 underlying3,tF t3 underlying3,tF t27 underlying27,trivial⟩
theorem D0t:V7 prog 130 ⟨false,(.rs 3 (.int .i64)),24,[]⟩:=tR t130 underlying130
theorem D0u:V7 prog 187 ⟨false,(.rs 9 .str),24,[]⟩:=tR t187 underlying187
theorem D0v:V7 prog 240 ⟨false,(.rs 30 (.rs 150 C1)),24,[]⟩:=tR t240 underlying240
def cfgR:Cfg:=C9K [(3,⟨false,(.int .i64),8,[]⟩),(4,⟨false,.bool,1,[]⟩),(5,⟨false,(.int .u8),1,[]⟩),(9,⟨false,.str,16,[]⟩),(22,⟨false,(.rs 161 C1),24,[]⟩),(24,⟨true,(.pair (.int .i64) (.rs 161 C1)),32,[(0,1,false),(1,1,false)]⟩),(26,⟨true,A9g,32,[(0,1,false),(1,1,false),(2,1,false)]⟩),(27,⟨false,(.rs 5 (.int .u8)),24,[]⟩),(30,⟨false,(.rs 150 C1),24,[]⟩),(32,⟨true,(.pair (.int .i64) (.rs 150 C1)),32,[(0,1,false),(1,1,false)]⟩),(36,⟨true,A9g,32,[(0,1,false),(1,1,false),(2,1,false)]⟩),(76,⟨false,(.rs 82 (.pair (.int .i64) (.pair (.int .i64) (.pair (.int .i64) (.rs 5 (.int .u8)))))),24,[]⟩),(82,⟨true,(.pair (.int .i64) (.pair (.int .i64) (.pair (.int .i64) (.rs 5 (.int .u8))))),48,[(0,1,false),(1,1,false),(2,1,false),(3,1,false)]⟩),(130,⟨false,(.rs 3 (.int .i64)),24,[]⟩),(150,⟨true,C1,32,[(0,1,false),(1,1,false)]⟩),(161,⟨true,C1,32,[(0,1,false),(1,1,false)]⟩),(187,⟨false,(.rs 9 .str),24,[]⟩),(198,⟨false,(.int .u64),8,[]⟩),(240,⟨false,(.rs 30 (.rs 150 C1)),24,[]⟩),(246,⟨true,A16,16,[(0,1,false),(1,1,false)]⟩)] [(22,161),(27,5),(30,150),(76,82),(130,3),(187,9),(240,30)]
theorem C9q:J9 prog cfgR:=C4U ⟨ty3,ty4,ty5,ty9,D1M,D1N,D1H,D1O,D1P,D1Q,D1I,D1R,D1S,D0t,D0B,D0C,D0u,D0D,D0v,D0E,trivial⟩ ⟨underlying22,underlying27,underlying30,underlying76,underlying130,underlying187,underlying240,trivial⟩
theorem D0F:C41 prog 150 2:=C6J Tryz.eqGuardType150 underlying150 Tryz.stoodInHeld150 ⟨by decide,rfl,underlying9,⟨by decide,rfl,underlying9,rfl⟩⟩
theorem MO:prog.follows .mixedOrders=true:=by kernel_rfl
abbrev SQ(p:Nat×Fn):Prop:=SP prog p
end Go.Proofs.YthnfghmjipikhaaGreatDoor.Ev
