/- The program's AnswerWith answers what the reference's answers, for all arguments: no condition. -/
import Derived.Test.YthnfghmjipikhaaGreatDoorXAnswerWith
import Derived.Test.YthnfghmjipikhaaGreatDoorLwFnExactAnswerWith
set_option linter.unusedVariables false
namespace Go.Proofs.YthnfghmjipikhaaGreatDoor
theorem fnExactAnswerWith_holds : Rows.FnExactAnswerWithCardSaid :=
  Ev.fnExactAnswerWith_card fun x hw => ⟨(), Ev.exactAnswerWith x.1 x.2.1 x.2.2.1 (Ev.sm_wf hw.1) (Ev.byt_wf hw.1.2.1.2)⟩
#print axioms fnExactAnswerWith_holds
end Go.Proofs.YthnfghmjipikhaaGreatDoor
