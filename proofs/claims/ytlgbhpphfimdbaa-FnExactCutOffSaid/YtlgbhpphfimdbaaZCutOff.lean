/- The program's CutOff answers what the reference's answers, for every client: no condition. -/
import Derived.Test.YtlgbhpphfimdbaaA3
import Derived.Test.YtlgbhpphfimdbaaLwFnExactCutOff
set_option linter.unusedVariables false
namespace Go.Proofs.Ytlgbhpphfimdbaa
theorem fnExactCutOff_holds : Rows.FnExactCutOffSaid :=
  Ev.fnExactCutOff_over fun x hw => ⟨(), Ev.exactCutOff x.1 hw.1.1 hw.1.2.1.1⟩
#print axioms fnExactCutOff_holds
end Go.Proofs.Ytlgbhpphfimdbaa
