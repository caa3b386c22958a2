/- The program's CrashServer answers what the reference's answers, for every server and every choice of sectors: no condition. -/
import Derived.Test.YtmdbndbfhgdhfaaGreatXCrashServer
import Derived.Test.YtmdbndbfhgdhfaaGreatLwFnExactCrashServer
set_option linter.unusedVariables false
namespace Go.Proofs.YtmdbndbfhgdhfaaGreat
theorem fnExactCrashServer_holds : Rows.FnExactCrashServerSaid :=
  Ev.fnExactCrashServer_over fun x hw => ⟨(), Ev.exactCrashServer x.1 x.2.1 hw.1 hw.2.1⟩
#print axioms fnExactCrashServer_holds
end Go.Proofs.YtmdbndbfhgdhfaaGreat
