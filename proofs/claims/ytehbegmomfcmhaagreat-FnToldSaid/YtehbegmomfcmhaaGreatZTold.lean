/- What a drawn server gives out is what waited, and outlives a crash: no condition. -/
import Derived.Test.YtehbegmomfcmhaaGreatXTold
import Derived.Test.YtehbegmomfcmhaaGreatLwFnTold
set_option linter.unusedVariables false
namespace Go.Proofs.YtehbegmomfcmhaaGreat
theorem fnTold_holds : Rows.FnToldSaid :=
  Ev.fnTold_over fun x _ => ⟨(), Ev.exactTold x.1⟩
#print axioms fnTold_holds
end Go.Proofs.YtehbegmomfcmhaaGreat
