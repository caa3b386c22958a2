/- The program's AllDone answers what the reference's answers, for every world: no condition. -/
import Derived.Test.YtiplpehengcinaaXAllDone
import Derived.Test.YtiplpehengcinaaLwFnExactAllDone
set_option linter.unusedVariables false
namespace Go.Proofs.Ytiplpehengcinaa
theorem fnExactAllDone_holds : Rows.FnExactAllDoneSaid :=
  Ev.fnExactAllDone_over fun x hw => ⟨(), Ev.exactAllDone x.1 hw.1⟩
#print axioms fnExactAllDone_holds
end Go.Proofs.Ytiplpehengcinaa
