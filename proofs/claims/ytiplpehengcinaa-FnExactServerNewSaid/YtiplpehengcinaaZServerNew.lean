/- The program's ServerNew answers what the reference's answers, for every number: no condition. -/
import Derived.Test.YtiplpehengcinaaXServerNew
import Derived.Test.YtiplpehengcinaaLwFnExactServerNew
set_option linter.unusedVariables false
namespace Go.Proofs.Ytiplpehengcinaa
theorem fnExactServerNew_holds : Rows.FnExactServerNewSaid :=
  Ev.fnExactServerNew_over fun x _ => ⟨(), Ev.exactServerNew x.1⟩
#print axioms fnExactServerNew_holds
end Go.Proofs.Ytiplpehengcinaa
