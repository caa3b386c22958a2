/- A disk that was opened is right, and what was synced is found again: no condition. -/
import Derived.Test.YtehbegmomfcmhaaXDurable
import Derived.Test.YtehbegmomfcmhaaLwFnDurable
set_option linter.unusedVariables false
namespace Go.Proofs.Ytehbegmomfcmhaa
theorem fnDurable_holds : Rows.FnDurableSaid :=
  Ev.fnDurable_over fun x _ => ⟨(), Ev.exactDurable x.1⟩
#print axioms fnDurable_holds
end Go.Proofs.Ytehbegmomfcmhaa
