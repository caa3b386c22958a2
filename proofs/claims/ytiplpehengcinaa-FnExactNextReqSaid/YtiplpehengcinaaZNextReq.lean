/- The program's NextReq answers what the reference's answers, for every client: no condition. -/
import Derived.Test.YtiplpehengcinaaXNextReq
import Derived.Test.YtiplpehengcinaaLwFnExactNextReq
set_option linter.unusedVariables false
namespace Go.Proofs.Ytiplpehengcinaa
theorem fnExactNextReq_holds : Rows.FnExactNextReqSaid :=
  Ev.fnExactNextReq_over fun x hw => ⟨(), Ev.exactNextReq x.1 hw.1.1 hw.1.2.1.1 (Ev.byt_wf hw.1.2.1.2)⟩
#print axioms fnExactNextReq_holds
end Go.Proofs.Ytiplpehengcinaa
