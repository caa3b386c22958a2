/- Each function of the program does what its plain function says. -/
import Derived.Test.YtlgbhpphfimdbaaG1
set_option linter.unusedVariables false
set_option maxRecDepth 100000
namespace Go.Proofs.Ytlgbhpphfimdbaa.Ev

end Go.Proofs.Ytlgbhpphfimdbaa.Ev
