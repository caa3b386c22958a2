/- What the tied card of the law asks of the program. -/
import Derived.Test.YthnfghmjipikhaaGreatDoorRows
import Derived.Test.YthnfghmjipikhaaGreatDoorCards
import Derived.Test.YthnfghmjipikhaaGreatDoorTie
import Derived.SevenTiedAt
set_option linter.unusedVariables false
set_option maxRecDepth 100000
namespace Go.Proofs.YthnfghmjipikhaaGreatDoor.Ev
theorem E2M:Rows.fnWholeRow.wfByText (OpenSpec.ofChange Rows.fnWholeSpec)=true:=by kernel_rfl
theorem D7q:Tryz.pinned.checked.prog.mainIs=some (Rows.fnWholeCard.stood.harness.1,Rows.fnWholeCard.stood.harness.2.toList):=by kernel_rfl
theorem D7r:false=Rows.fnWholeRow.goesBy Tryz.pinned.checked.prog:=by kernel_rfl
end Go.Proofs.YthnfghmjipikhaaGreatDoor.Ev
