/- The program's ConnOk answers what the reference's answers, for every connection: no condition. -/
import Derived.Test.YtiplpehengcinaaXConnOk
import Derived.Test.YtiplpehengcinaaLwFnExactConnOk
set_option linter.unusedVariables false
namespace Go.Proofs.Ytiplpehengcinaa
theorem fnExactConnOk_holds : Rows.FnExactConnOkSaid :=
  Ev.fnExactConnOk_over fun x hw => ⟨(), Ev.exactConnOk x.1 hw.1⟩
#print axioms fnExactConnOk_holds
end Go.Proofs.Ytiplpehengcinaa
