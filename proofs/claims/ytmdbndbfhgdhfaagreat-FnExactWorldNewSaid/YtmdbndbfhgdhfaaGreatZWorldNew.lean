/- The program's WorldNew answers what the reference's answers, for every number and all clients: no condition. -/
import Derived.Test.YtmdbndbfhgdhfaaGreatXWorldNew
import Derived.Test.YtmdbndbfhgdhfaaGreatLwFnExactWorldNew
set_option linter.unusedVariables false
namespace Go.Proofs.YtmdbndbfhgdhfaaGreat
theorem fnExactWorldNew_holds : Rows.FnExactWorldNewSaid :=
  Ev.fnExactWorldNew_over fun x hw => ⟨(), Ev.exactWorldNew x.1 x.2.1 hw.2.1⟩
#print axioms fnExactWorldNew_holds
end Go.Proofs.YtmdbndbfhgdhfaaGreat
