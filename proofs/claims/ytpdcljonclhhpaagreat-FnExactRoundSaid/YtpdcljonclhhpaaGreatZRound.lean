/- The program's Round answers what the reference's answers, for every world: no condition. -/
import Derived.Test.YtpdcljonclhhpaaGreatXRound
import Derived.Test.YtpdcljonclhhpaaGreatLwFnExactRound
set_option linter.unusedVariables false
namespace Go.Proofs.YtpdcljonclhhpaaGreat
theorem fnExactRound_holds : Rows.FnExactRoundSaid :=
  Ev.fnExactRound_over fun x hw => ⟨(), Ev.exactRound x.1 hw.1⟩
#print axioms fnExactRound_holds
end Go.Proofs.YtpdcljonclhhpaaGreat
