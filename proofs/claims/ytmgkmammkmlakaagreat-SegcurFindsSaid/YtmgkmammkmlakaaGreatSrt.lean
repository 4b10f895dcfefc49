/- Lists of points in order: the walks. -/
import Derived.Test.YtmgkmammkmlakaaGreatStd2
import Derived.Test.YtmgkmammkmlakaaGreatPt
namespace Go.Proofs.YtmgkmammkmlakaaGreat
set_option linter.unusedVariables false
set_option linter.unusedSimpArgs false
set_option maxRecDepth 100000

end Go.Proofs.YtmgkmammkmlakaaGreat
