/- The program's WorldOk answers what the reference's answers, for every world: no condition. -/
import Derived.Test.YtmdbndbfhgdhfaaGreatXWorldOk
import Derived.Test.YtmdbndbfhgdhfaaGreatLwFnExactWorldOk
set_option linter.unusedVariables false
namespace Go.Proofs.YtmdbndbfhgdhfaaGreat
theorem fnExactWorldOk_holds : Rows.FnExactWorldOkSaid :=
  Ev.fnExactWorldOk_over fun x hw => ⟨(), Ev.exactWorldOk x.1 hw.1⟩
#print axioms fnExactWorldOk_holds
end Go.Proofs.YtmdbndbfhgdhfaaGreat
