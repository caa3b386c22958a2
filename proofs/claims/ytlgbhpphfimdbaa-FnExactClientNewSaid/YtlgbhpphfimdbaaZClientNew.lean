/- The program's ClientNew answers what the reference's answers, for every name and file: no condition. -/
import Derived.Test.YtlgbhpphfimdbaaA3
import Derived.Test.YtlgbhpphfimdbaaLwFnExactClientNew
set_option linter.unusedVariables false
namespace Go.Proofs.Ytlgbhpphfimdbaa
theorem fnExactClientNew_holds : Rows.FnExactClientNewSaid :=
  Ev.fnExactClientNew_over fun x hw => ⟨(), Ev.exactClientNew x.1 x.2.1 hw.1 hw.2.1.1⟩
#print axioms fnExactClientNew_holds
end Go.Proofs.Ytlgbhpphfimdbaa
