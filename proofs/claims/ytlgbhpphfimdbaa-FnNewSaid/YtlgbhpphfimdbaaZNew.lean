/- A new client begins with making its upload, as long as its file: no condition. -/
import Derived.Test.YtlgbhpphfimdbaaXNew
import Derived.Test.YtlgbhpphfimdbaaLwFnNew
set_option linter.unusedVariables false
namespace Go.Proofs.Ytlgbhpphfimdbaa
theorem fnNew_holds : Rows.FnNewSaid :=
  Ev.fnNew_over fun x hw => ⟨(), Ev.fnNew x.1 hw.1.1⟩
#print axioms fnNew_holds
end Go.Proofs.Ytlgbhpphfimdbaa
