/- What the tied card of the law asks of the program. -/
import Derived.Test.YthnfghmjipikhaaGreatDoorRows
import Derived.Test.YthnfghmjipikhaaGreatDoorCards
import Derived.Test.YthnfghmjipikhaaGreatDoorTie
import Derived.SevenTiedAt
set_option linter.unusedVariables false
set_option maxRecDepth 100000
namespace Go.Proofs.YthnfghmjipikhaaGreatDoor.Ev
theorem D4v:Rows.fnExactAnswerWithRow.wfByText (OpenSpec.ofChange Rows.fnExactAnswerWithSpec)=true:=by kernel_rfl
theorem D1J:Tryz.pinned.checked.prog.mainIs=some (Rows.fnExactAnswerWithCard.stood.harness.1,Rows.fnExactAnswerWithCard.stood.harness.2.toList):=by kernel_rfl
theorem D1K:false=Rows.fnExactAnswerWithRow.goesBy Tryz.pinned.checked.prog:=by kernel_rfl
end Go.Proofs.YthnfghmjipikhaaGreatDoor.Ev
