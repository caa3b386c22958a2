/- The program's Play answers what the reference's answers, for every world and list of events: no condition. -/
import Derived.Test.YtpdcljonclhhpaaGreatXPlay
import Derived.Test.YtpdcljonclhhpaaGreatLwFnExactPlay
set_option linter.unusedVariables false
namespace Go.Proofs.YtpdcljonclhhpaaGreat
theorem fnExactPlay_holds : Rows.FnExactPlaySaid :=
  Ev.fnExactPlay_over fun x hw => ⟨(), Ev.exactPlay x.1 x.2.1 hw.1 hw.2.1⟩
#print axioms fnExactPlay_holds
end Go.Proofs.YtpdcljonclhhpaaGreat
