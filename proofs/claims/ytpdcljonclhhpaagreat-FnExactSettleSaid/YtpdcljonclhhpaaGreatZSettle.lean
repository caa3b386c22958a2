/- The program's Settle answers what the reference's answers, for every world and number of rounds: no condition. -/
import Derived.Test.YtpdcljonclhhpaaGreatXSettle
import Derived.Test.YtpdcljonclhhpaaGreatLwFnExactSettle
set_option linter.unusedVariables false
namespace Go.Proofs.YtpdcljonclhhpaaGreat
theorem fnExactSettle_holds : Rows.FnExactSettleSaid :=
  Ev.fnExactSettle_over fun x hw => ⟨(), Ev.exactSettle x.1 x.2.1 hw.1⟩
#print axioms fnExactSettle_holds
end Go.Proofs.YtpdcljonclhhpaaGreat
