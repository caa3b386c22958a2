/- The law FnDone holds for every code: no condition. -/
import Derived.Test.YtpdcljonclhhpaaGreatXDone
import Derived.Test.YtpdcljonclhhpaaGreatLwFnDone
set_option linter.unusedVariables false
namespace Go.Proofs.YtpdcljonclhhpaaGreat
theorem fnDone_holds : Rows.FnDoneSaid :=
  Ev.fnDone_over fun x _ => ⟨(), Ev.exactDone x.1⟩
#print axioms fnDone_holds
end Go.Proofs.YtpdcljonclhhpaaGreat
