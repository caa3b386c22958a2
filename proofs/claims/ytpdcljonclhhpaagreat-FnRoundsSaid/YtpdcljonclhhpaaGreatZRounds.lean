/- The law FnRounds holds for every code: no condition. -/
import Derived.Test.YtpdcljonclhhpaaGreatXRounds
import Derived.Test.YtpdcljonclhhpaaGreatLwFnRounds
set_option linter.unusedVariables false
namespace Go.Proofs.YtpdcljonclhhpaaGreat
theorem fnRounds_holds : Rows.FnRoundsSaid :=
  Ev.fnRounds_over fun x _ => ⟨(), Ev.exactRounds x.1⟩
#print axioms fnRounds_holds
end Go.Proofs.YtpdcljonclhhpaaGreat
