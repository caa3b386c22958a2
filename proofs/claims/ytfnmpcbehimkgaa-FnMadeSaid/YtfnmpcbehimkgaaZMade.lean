/- The law FnMade holds for every code: no condition. -/
import Derived.Test.YtfnmpcbehimkgaaXMade
import Derived.Test.YtfnmpcbehimkgaaLwFnMade
set_option linter.unusedVariables false
namespace Go.Proofs.Ytfnmpcbehimkgaa
theorem fnMade_holds : Rows.FnMadeSaid :=
  Ev.fnMade_over fun x _ => ⟨(), Ev.exactMade x.1⟩
#print axioms fnMade_holds
end Go.Proofs.Ytfnmpcbehimkgaa
