/- Drawn bytes of a connection, parted anywhere, come to the same calls and answers: no condition. -/
import Derived.Test.YthnfghmjipikhaaGreatDoorXSpoken
import Derived.Test.YthnfghmjipikhaaGreatDoorLwFnSpoken
set_option linter.unusedVariables false
namespace Go.Proofs.YthnfghmjipikhaaGreatDoor
theorem fnSpoken_holds : Rows.FnSpokenCardSaid :=
  Ev.fnSpoken_card fun x hw => ⟨(), Ev.exactSpoken x.1⟩
#print axioms fnSpoken_holds
end Go.Proofs.YthnfghmjipikhaaGreatDoor
