/- The program's AskWith answers what the reference's answers, for all arguments: no condition. -/
import Derived.Test.YthnfghmjipikhaaGreatDoorXAskWith
import Derived.Test.YthnfghmjipikhaaGreatDoorLwFnExactAskWith
set_option linter.unusedVariables false
namespace Go.Proofs.YthnfghmjipikhaaGreatDoor
theorem fnExactAskWith_holds : Rows.FnExactAskWithCardSaid :=
  Ev.fnExactAskWith_card fun x hw => ⟨(), Ev.exactAskWith x.1 x.2.1 x.2.2.1 x.2.2.2.1 x.2.2.2.2.1 (Ev.sm_wf hw.1) (Ev.sm_wf hw.2.2.1).2.1 (Ev.sm_wf hw.2.2.2.1).1⟩
#print axioms fnExactAskWith_holds
end Go.Proofs.YthnfghmjipikhaaGreatDoor
