/- Nothing beside what is imported. No condition. -/
import Derived.Test.YtodejmindmiknaaDoorJYM
import Derived.Test.YtodejmindmiknaaDoorJXN
namespace Go.Proofs.YtodejmindmiknaaDoor.Jd
set_option linter.unusedSimpArgs false
set_option linter.unusedVariables false
end Go.Proofs.YtodejmindmiknaaDoor.Jd
