/- A disk that was opened is right, and what was synced is found again: no condition. -/
import Derived.Test.YtehbegmomfcmhaaXOpened
import Derived.Test.YtehbegmomfcmhaaLwFnOpened
set_option linter.unusedVariables false
namespace Go.Proofs.Ytehbegmomfcmhaa
theorem fnOpened_holds : Rows.FnOpenedSaid :=
  Ev.fnOpened_over fun x _ => ⟨(), Ev.exactOpened x.1⟩
#print axioms fnOpened_holds
end Go.Proofs.Ytehbegmomfcmhaa
