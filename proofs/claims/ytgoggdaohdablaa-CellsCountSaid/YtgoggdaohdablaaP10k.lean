import Derived.Test.YtgoggdaohdablaaP10j
import Derived.Test.YtgoggdaohdablaaSame
namespace Go.Proofs.Ytgoggdaohdablaa
open Go.Eng
set_option maxRecDepth 100000
set_option maxHeartbeats 4000000
set_option linter.unusedVariables false
set_option linter.unusedSimpArgs false

end Go.Proofs.Ytgoggdaohdablaa
