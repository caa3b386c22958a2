/- The program's PutUp answers what the reference's answers, for every store, name, place and bytes: no condition. -/
import Derived.Test.YtehbegmomfcmhaaXPutUp
import Derived.Test.YtehbegmomfcmhaaLwFnExactPutUp
set_option linter.unusedVariables false
namespace Go.Proofs.Ytehbegmomfcmhaa
theorem fnExactPutUp_holds : Rows.FnExactPutUpSaid :=
  Ev.fnExactPutUp_over fun x hw => ⟨(), Ev.exactPutUp x.1 x.2.1 x.2.2.1 x.2.2.2.1 hw.1 hw.2.2.1 (Ev.byt_wf hw.2.2.2.1.2) hw.2.2.2.1.1⟩
#print axioms fnExactPutUp_holds
end Go.Proofs.Ytehbegmomfcmhaa
