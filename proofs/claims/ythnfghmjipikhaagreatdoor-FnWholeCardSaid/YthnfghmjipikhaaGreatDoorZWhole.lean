/- A request that is drawn goes there and its answer back, whole: no condition. -/
import Derived.Test.YthnfghmjipikhaaGreatDoorXWhole
import Derived.Test.YthnfghmjipikhaaGreatDoorLwFnWhole
set_option linter.unusedVariables false
namespace Go.Proofs.YthnfghmjipikhaaGreatDoor
theorem fnWhole_holds : Rows.FnWholeCardSaid :=
  Ev.fnWhole_card fun x hw => ⟨(), Ev.exactWhole x.1⟩
#print axioms fnWhole_holds
end Go.Proofs.YthnfghmjipikhaaGreatDoor
