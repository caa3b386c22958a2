/- The law FnArrives holds for every code: no condition. -/
import Derived.Test.YtpdcljonclhhpaaGreatXArrives
import Derived.Test.YtpdcljonclhhpaaGreatLwFnArrives
set_option linter.unusedVariables false
namespace Go.Proofs.YtpdcljonclhhpaaGreat
theorem fnArrives_holds : Rows.FnArrivesSaid :=
  Ev.fnArrives_over fun x _ => ⟨(), Ev.exactArrives x.1⟩
#print axioms fnArrives_holds
end Go.Proofs.YtpdcljonclhhpaaGreat
