/- The program's Do answers what the reference's answers, for every world and event: no condition. -/
import Derived.Test.YtpdcljonclhhpaaGreatXDo
import Derived.Test.YtpdcljonclhhpaaGreatLwFnExactDo
set_option linter.unusedVariables false
namespace Go.Proofs.YtpdcljonclhhpaaGreat
theorem fnExactDo_holds : Rows.FnExactDoSaid :=
  Ev.fnExactDo_over fun x hw => ⟨(), Ev.exactDo x.1 x.2.1 hw.1 hw.2.1⟩
#print axioms fnExactDo_holds
end Go.Proofs.YtpdcljonclhhpaaGreat
