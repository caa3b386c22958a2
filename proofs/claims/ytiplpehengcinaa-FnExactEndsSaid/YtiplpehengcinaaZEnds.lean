/- The program's Ends answers what the reference's answers, for every world: no condition. -/
import Derived.Test.YtiplpehengcinaaXEnds
import Derived.Test.YtiplpehengcinaaLwFnExactEnds
set_option linter.unusedVariables false
namespace Go.Proofs.Ytiplpehengcinaa
theorem fnExactEnds_holds : Rows.FnExactEndsSaid :=
  Ev.fnExactEnds_over fun x hw => ⟨(), Ev.exactEnds x.1 hw.1⟩
#print axioms fnExactEnds_holds
end Go.Proofs.Ytiplpehengcinaa
