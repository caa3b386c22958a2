/- What the tied card of the law asks of the program. -/
import Derived.Test.YthnfghmjipikhaaGreatDoorRows
import Derived.Test.YthnfghmjipikhaaGreatDoorCards
import Derived.Test.YthnfghmjipikhaaGreatDoorTie
import Derived.SevenTiedAt
set_option linter.unusedVariables false
set_option maxRecDepth 100000
namespace Go.Proofs.YthnfghmjipikhaaGreatDoor.Ev
theorem E2K:Rows.fnSpokenRow.wfByText (OpenSpec.ofChange Rows.fnSpokenSpec)=true:=by kernel_rfl
theorem D82:Tryz.pinned.checked.prog.mainIs=some (Rows.fnSpokenCard.stood.harness.1,Rows.fnSpokenCard.stood.harness.2.toList):=by kernel_rfl
theorem D83:false=Rows.fnSpokenRow.goesBy Tryz.pinned.checked.prog:=by kernel_rfl
end Go.Proofs.YthnfghmjipikhaaGreatDoor.Ev
