/- Whatever a drawn connection hears, it stays right, ends with a known code and then hears no more: no condition. -/
import Derived.Test.YthnfghmjipikhaaGreatDoorXHostile
import Derived.Test.YthnfghmjipikhaaGreatDoorLwFnHostile
set_option linter.unusedVariables false
namespace Go.Proofs.YthnfghmjipikhaaGreatDoor
theorem fnHostile_holds : Rows.FnHostileCardSaid :=
  Ev.fnHostile_card fun x hw => ⟨(), Ev.exactHostile x.1⟩
#print axioms fnHostile_holds
end Go.Proofs.YthnfghmjipikhaaGreatDoor
