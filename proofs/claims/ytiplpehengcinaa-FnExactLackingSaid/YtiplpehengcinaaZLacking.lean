/- The program's Lacking answers what the reference's answers, for every world: no condition. -/
import Derived.Test.YtiplpehengcinaaXLacking
import Derived.Test.YtiplpehengcinaaLwFnExactLacking
set_option linter.unusedVariables false
namespace Go.Proofs.Ytiplpehengcinaa
theorem fnExactLacking_holds : Rows.FnExactLackingSaid :=
  Ev.fnExactLacking_over fun x hw => ⟨(), Ev.exactLacking x.1 hw.1⟩
#print axioms fnExactLacking_holds
end Go.Proofs.Ytiplpehengcinaa
