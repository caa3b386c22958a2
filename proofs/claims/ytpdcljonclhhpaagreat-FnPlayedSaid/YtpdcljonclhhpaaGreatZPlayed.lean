/- The law FnPlayed holds for every code: no condition. -/
import Derived.Test.YtpdcljonclhhpaaGreatXPlayed
import Derived.Test.YtpdcljonclhhpaaGreatLwFnPlayed
set_option linter.unusedVariables false
namespace Go.Proofs.YtpdcljonclhhpaaGreat
theorem fnPlayed_holds : Rows.FnPlayedSaid :=
  Ev.fnPlayed_over fun x _ => ⟨(), Ev.exactPlayed x.1⟩
#print axioms fnPlayed_holds
end Go.Proofs.YtpdcljonclhhpaaGreat
