/- Lists of points in order: the walks. -/
import Derived.Test.YtjgdhkilnalejaaStd2
import Derived.Test.YtjgdhkilnalejaaPt
namespace Go.Proofs.Ytjgdhkilnalejaa
set_option linter.unusedVariables false
set_option linter.unusedSimpArgs false
set_option maxRecDepth 100000

end Go.Proofs.Ytjgdhkilnalejaa
