/- The program's HearResp answers what the reference's answers, for every client and answer: no condition. -/
import Derived.Test.YtiplpehengcinaaXHearResp
import Derived.Test.YtiplpehengcinaaLwFnExactHearResp
set_option linter.unusedVariables false
namespace Go.Proofs.Ytiplpehengcinaa
theorem fnExactHearResp_holds : Rows.FnExactHearRespSaid :=
  Ev.fnExactHearResp_over fun x hw => ⟨(), Ev.exactHearResp x.1 x.2.1 hw.1.1 hw.1.2.1.1⟩
#print axioms fnExactHearResp_holds
end Go.Proofs.Ytiplpehengcinaa
