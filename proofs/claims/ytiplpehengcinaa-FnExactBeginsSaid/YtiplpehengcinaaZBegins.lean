/- The program's Begins answers what the reference's answers, for every world: no condition. -/
import Derived.Test.YtiplpehengcinaaXBegins
import Derived.Test.YtiplpehengcinaaLwFnExactBegins
set_option linter.unusedVariables false
namespace Go.Proofs.Ytiplpehengcinaa
theorem fnExactBegins_holds : Rows.FnExactBeginsSaid :=
  Ev.fnExactBegins_over fun x hw => ⟨(), Ev.exactBegins x.1 hw.1⟩
#print axioms fnExactBegins_holds
end Go.Proofs.Ytiplpehengcinaa
