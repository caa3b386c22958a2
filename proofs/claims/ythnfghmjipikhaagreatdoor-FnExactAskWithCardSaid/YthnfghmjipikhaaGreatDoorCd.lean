/- What the tied card of the law asks of the program. -/
import Derived.Test.YthnfghmjipikhaaGreatDoorRows
import Derived.Test.YthnfghmjipikhaaGreatDoorCards
import Derived.Test.YthnfghmjipikhaaGreatDoorTie
import Derived.SevenTiedAt
set_option linter.unusedVariables false
set_option maxRecDepth 100000
namespace Go.Proofs.YthnfghmjipikhaaGreatDoor.Ev
theorem C9t:Rows.fnExactAskWithRow.wfByText (OpenSpec.ofChange Rows.fnExactAskWithSpec)=true:=by kernel_rfl
theorem C6D:Tryz.pinned.checked.prog.mainIs=some (Rows.fnExactAskWithCard.stood.harness.1,Rows.fnExactAskWithCard.stood.harness.2.toList):=by kernel_rfl
theorem C6E:false=Rows.fnExactAskWithRow.goesBy Tryz.pinned.checked.prog:=by kernel_rfl
end Go.Proofs.YthnfghmjipikhaaGreatDoor.Ev
