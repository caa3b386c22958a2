/- The program's ServerOk answers what the reference's answers, for every server: no condition. -/
import Derived.Test.YtehbegmomfcmhaaXServerOk
import Derived.Test.YtehbegmomfcmhaaLwFnExactServerOk
set_option linter.unusedVariables false
namespace Go.Proofs.Ytehbegmomfcmhaa
theorem fnExactServerOk_holds : Rows.FnExactServerOkSaid :=
  Ev.fnExactServerOk_over fun x hw => ⟨(), Ev.exactServerOk x.1 hw.1⟩
#print axioms fnExactServerOk_holds
end Go.Proofs.Ytehbegmomfcmhaa
