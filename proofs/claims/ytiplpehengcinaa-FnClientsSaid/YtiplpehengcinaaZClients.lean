/- A drawn client's request is right; told how far it is, it goes on from there; cut off it asks: no condition. -/
import Derived.Test.YtiplpehengcinaaXClients
import Derived.Test.YtiplpehengcinaaLwFnClients
set_option linter.unusedVariables false
namespace Go.Proofs.Ytiplpehengcinaa
theorem fnClients_holds : Rows.FnClientsSaid :=
  Ev.fnClients_over fun x hw => ⟨(), Ev.fnClients x.1 hw.1.1⟩
#print axioms fnClients_holds
end Go.Proofs.Ytiplpehengcinaa
