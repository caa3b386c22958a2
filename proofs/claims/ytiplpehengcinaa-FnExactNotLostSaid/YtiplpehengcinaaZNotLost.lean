/- The program's NotLost answers what the reference's answers, for every world: no condition. -/
import Derived.Test.YtiplpehengcinaaXNotLost
import Derived.Test.YtiplpehengcinaaLwFnExactNotLost
set_option linter.unusedVariables false
namespace Go.Proofs.Ytiplpehengcinaa
theorem fnExactNotLost_holds : Rows.FnExactNotLostSaid :=
  Ev.fnExactNotLost_over fun x hw => ⟨(), Ev.exactNotLost x.1 hw.1⟩
#print axioms fnExactNotLost_holds
end Go.Proofs.Ytiplpehengcinaa
