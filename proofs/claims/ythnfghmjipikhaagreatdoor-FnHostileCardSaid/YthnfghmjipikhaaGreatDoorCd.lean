/- What the tied card of the law asks of the program. -/
import Derived.Test.YthnfghmjipikhaaGreatDoorRows
import Derived.Test.YthnfghmjipikhaaGreatDoorCards
import Derived.Test.YthnfghmjipikhaaGreatDoorTie
import Derived.SevenTiedAt
set_option linter.unusedVariables false
set_option maxRecDepth 100000
namespace Go.Proofs.YthnfghmjipikhaaGreatDoor.Ev
theorem F20:Rows.fnHostileRow.wfByText (OpenSpec.ofChange Rows.fnHostileSpec)=true:=by kernel_rfl
theorem E7i:Tryz.pinned.checked.prog.mainIs=some (Rows.fnHostileCard.stood.harness.1,Rows.fnHostileCard.stood.harness.2.toList):=by kernel_rfl
theorem E7j:false=Rows.fnHostileRow.goesBy Tryz.pinned.checked.prog:=by kernel_rfl
end Go.Proofs.YthnfghmjipikhaaGreatDoor.Ev
