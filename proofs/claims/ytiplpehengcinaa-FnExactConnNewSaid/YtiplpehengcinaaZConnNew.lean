/- The program's ConnNew answers what the reference's answers: no condition. -/
import Derived.Test.YtiplpehengcinaaXConnNew
import Derived.Test.YtiplpehengcinaaLwFnExactConnNew
set_option linter.unusedVariables false
namespace Go.Proofs.Ytiplpehengcinaa
theorem fnExactConnNew_holds : Rows.FnExactConnNewSaid :=
  Ev.fnExactConnNew_over fun _ _ => ⟨(), Ev.exactConnNew⟩
#print axioms fnExactConnNew_holds
end Go.Proofs.Ytiplpehengcinaa
