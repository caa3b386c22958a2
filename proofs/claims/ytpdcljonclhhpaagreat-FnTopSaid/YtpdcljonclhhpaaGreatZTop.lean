/- A drawn world is safe: no condition. -/
import Derived.Test.YtpdcljonclhhpaaGreatXTop
import Derived.Test.YtpdcljonclhhpaaGreatLwFnTop
set_option linter.unusedVariables false
namespace Go.Proofs.YtpdcljonclhhpaaGreat
theorem fnTop_holds : Rows.FnTopSaid :=
  Ev.fnTop_over fun x _ => ⟨(), Ev.exactTop x.1⟩
#print axioms fnTop_holds
end Go.Proofs.YtpdcljonclhhpaaGreat
