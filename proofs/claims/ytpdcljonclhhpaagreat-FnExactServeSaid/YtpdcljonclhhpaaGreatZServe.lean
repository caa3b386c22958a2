/- The program's Serve answers what the reference's answers, for every server, client, request and bytes: no condition. -/
import Derived.Test.YtpdcljonclhhpaaGreatXServe
import Derived.Test.YtpdcljonclhhpaaGreatLwFnExactServe
set_option linter.unusedVariables false
namespace Go.Proofs.YtpdcljonclhhpaaGreat
theorem fnExactServe_holds : Rows.FnExactServeSaid :=
  Ev.fnExactServe_over fun x hw => ⟨(), Ev.exactServe x.1 x.2.1 x.2.2.1 x.2.2.2.1 hw.1 hw.2.2.1 (Ev.byt_wf hw.2.2.2.1.2) hw.2.2.2.1.1⟩
#print axioms fnExactServe_holds
end Go.Proofs.YtpdcljonclhhpaaGreat
