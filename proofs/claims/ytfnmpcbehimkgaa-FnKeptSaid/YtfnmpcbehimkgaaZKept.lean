/- The law FnKept holds for every code: no condition. -/
import Derived.Test.YtfnmpcbehimkgaaXKept
import Derived.Test.YtfnmpcbehimkgaaLwFnKept
set_option linter.unusedVariables false
namespace Go.Proofs.Ytfnmpcbehimkgaa
theorem fnKept_holds : Rows.FnKeptSaid :=
  Ev.fnKept_over fun x _ => ⟨(), Ev.exactKept x.1⟩
#print axioms fnKept_holds
end Go.Proofs.Ytfnmpcbehimkgaa
