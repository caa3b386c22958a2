/- What the tied card of the law asks of the program. -/
import Derived.Test.YthnfghmjipikhaaGreatDoorRows
import Derived.Test.YthnfghmjipikhaaGreatDoorCards
import Derived.Test.YthnfghmjipikhaaGreatDoorTie
import Derived.SevenTiedAt
set_option linter.unusedVariables false
set_option maxRecDepth 100000
namespace Go.Proofs.YthnfghmjipikhaaGreatDoor.Ev
theorem F0G:Rows.fnExactHearBytesRow.wfByText (OpenSpec.ofChange Rows.fnExactHearBytesSpec)=true:=by kernel_rfl
theorem E6C:Tryz.pinned.checked.prog.mainIs=some (Rows.fnExactHearBytesCard.stood.harness.1,Rows.fnExactHearBytesCard.stood.harness.2.toList):=by kernel_rfl
theorem E6D:false=Rows.fnExactHearBytesRow.goesBy Tryz.pinned.checked.prog:=by kernel_rfl
end Go.Proofs.YthnfghmjipikhaaGreatDoor.Ev
