/- The program's Preface answers what the reference's answers: no condition. -/
import Derived.Test.YtlgbhpphfimdbaaA4
import Derived.Test.YtlgbhpphfimdbaaLwFnExactPreface
set_option linter.unusedVariables false
namespace Go.Proofs.Ytlgbhpphfimdbaa
theorem fnExactPreface_holds : Rows.FnExactPrefaceSaid :=
  Ev.fnExactPreface_over fun _ _ => ⟨(), Ev.exactPreface⟩
#print axioms fnExactPreface_holds
end Go.Proofs.Ytlgbhpphfimdbaa
