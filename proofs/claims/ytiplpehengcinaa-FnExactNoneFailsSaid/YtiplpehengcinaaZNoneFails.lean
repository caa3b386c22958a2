/- The program's NoneFails answers what the reference's answers, for every world: no condition. -/
import Derived.Test.YtiplpehengcinaaXNoneFails
import Derived.Test.YtiplpehengcinaaLwFnExactNoneFails
set_option linter.unusedVariables false
namespace Go.Proofs.Ytiplpehengcinaa
theorem fnExactNoneFails_holds : Rows.FnExactNoneFailsSaid :=
  Ev.fnExactNoneFails_over fun x hw => ⟨(), Ev.exactNoneFails x.1 hw.1⟩
#print axioms fnExactNoneFails_holds
end Go.Proofs.Ytiplpehengcinaa
