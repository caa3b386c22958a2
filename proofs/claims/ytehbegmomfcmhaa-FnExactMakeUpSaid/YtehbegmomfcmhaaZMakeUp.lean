/- The program's MakeUp answers what the reference's answers, for every store, name and number: no condition. -/
import Derived.Test.YtehbegmomfcmhaaXMakeUp
import Derived.Test.YtehbegmomfcmhaaLwFnExactMakeUp
set_option linter.unusedVariables false
namespace Go.Proofs.Ytehbegmomfcmhaa
theorem fnExactMakeUp_holds : Rows.FnExactMakeUpSaid :=
  Ev.fnExactMakeUp_over fun x hw => ⟨(), Ev.exactMakeUp x.1 x.2.1 x.2.2.1 hw.1⟩
#print axioms fnExactMakeUp_holds
end Go.Proofs.Ytehbegmomfcmhaa
