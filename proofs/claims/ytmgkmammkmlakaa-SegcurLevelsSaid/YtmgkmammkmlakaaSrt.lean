/- Lists of points in order: the walks. -/
import Derived.Test.YtmgkmammkmlakaaStd2
import Derived.Test.YtmgkmammkmlakaaPt
namespace Go.Proofs.Ytmgkmammkmlakaa
set_option linter.unusedVariables false
set_option linter.unusedSimpArgs false
set_option maxRecDepth 100000

end Go.Proofs.Ytmgkmammkmlakaa
