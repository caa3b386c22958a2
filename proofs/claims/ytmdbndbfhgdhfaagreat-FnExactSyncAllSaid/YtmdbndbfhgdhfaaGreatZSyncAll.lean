/- The program's SyncAll answers what the reference's answers, for every server: no condition. -/
import Derived.Test.YtmdbndbfhgdhfaaGreatXSyncAll
import Derived.Test.YtmdbndbfhgdhfaaGreatLwFnExactSyncAll
set_option linter.unusedVariables false
namespace Go.Proofs.YtmdbndbfhgdhfaaGreat
theorem fnExactSyncAll_holds : Rows.FnExactSyncAllSaid :=
  Ev.fnExactSyncAll_over fun x hw => ⟨(), Ev.exactSyncAll x.1 hw.1⟩
#print axioms fnExactSyncAll_holds
end Go.Proofs.YtmdbndbfhgdhfaaGreat
