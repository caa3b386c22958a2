/- The law FnSafe holds for every code: no condition. -/
import Derived.Test.YtpdcljonclhhpaaGreatXSafeD
import Derived.Test.YtpdcljonclhhpaaGreatLwFnSafe
set_option linter.unusedVariables false
namespace Go.Proofs.YtpdcljonclhhpaaGreat
theorem fnSafe_holds : Rows.FnSafeSaid :=
  Ev.fnSafe_over fun x _ => ⟨(), Ev.exactSafeD x.1⟩
#print axioms fnSafe_holds
end Go.Proofs.YtpdcljonclhhpaaGreat
