/- The program's ClientOk answers what the reference's answers, for every client: no condition. -/
import Derived.Test.YtlgbhpphfimdbaaA2
import Derived.Test.YtlgbhpphfimdbaaLwFnExactClientOk
set_option linter.unusedVariables false
namespace Go.Proofs.Ytlgbhpphfimdbaa
theorem fnExactClientOk_holds : Rows.FnExactClientOkSaid :=
  Ev.fnExactClientOk_over fun x hw => ⟨(), Ev.exactClientOk x.1 hw.1.1 hw.1.2.1.1⟩
#print axioms fnExactClientOk_holds
end Go.Proofs.Ytlgbhpphfimdbaa
