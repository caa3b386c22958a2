/- The program's Safe answers what the reference's answers, for every world: no condition. -/
import Derived.Test.YtmdbndbfhgdhfaaGreatXSafe
import Derived.Test.YtmdbndbfhgdhfaaGreatLwFnExactSafe
set_option linter.unusedVariables false
namespace Go.Proofs.YtmdbndbfhgdhfaaGreat
theorem fnExactSafe_holds : Rows.FnExactSafeSaid :=
  Ev.fnExactSafe_over fun x hw => ⟨(), Ev.exactSafe x.1 hw.1⟩
#print axioms fnExactSafe_holds
end Go.Proofs.YtmdbndbfhgdhfaaGreat
