/- The law FnServed holds for every code: no condition. -/
import Derived.Test.YtpdcljonclhhpaaGreatXServed
import Derived.Test.YtpdcljonclhhpaaGreatLwFnServed
set_option linter.unusedVariables false
namespace Go.Proofs.YtpdcljonclhhpaaGreat
theorem fnServed_holds : Rows.FnServedSaid :=
  Ev.fnServed_over fun x _ => ⟨(), Ev.exactServed x.1⟩
#print axioms fnServed_holds
end Go.Proofs.YtpdcljonclhhpaaGreat
