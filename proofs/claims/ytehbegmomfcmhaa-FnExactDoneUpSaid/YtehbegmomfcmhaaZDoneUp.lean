/- The program's DoneUp answers what the reference's answers, for every store, name and sum: no condition. -/
import Derived.Test.YtehbegmomfcmhaaXDoneUp
import Derived.Test.YtehbegmomfcmhaaLwFnExactDoneUp
set_option linter.unusedVariables false
namespace Go.Proofs.Ytehbegmomfcmhaa
theorem fnExactDoneUp_holds : Rows.FnExactDoneUpSaid :=
  Ev.fnExactDoneUp_over fun x hw => ⟨(), Ev.exactDoneUp x.1 x.2.1 x.2.2.1 hw.1⟩
#print axioms fnExactDoneUp_holds
end Go.Proofs.Ytehbegmomfcmhaa
