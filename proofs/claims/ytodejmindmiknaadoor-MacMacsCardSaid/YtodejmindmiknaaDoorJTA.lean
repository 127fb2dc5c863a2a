/- The document's own constants. No condition. -/
import Derived.Test.YtodejmindmiknaaDoorJSM
namespace Go.Proofs.YtodejmindmiknaaDoor.Jd
set_option linter.unusedSimpArgs false
set_option linter.unusedVariables false
def rTab : List Int := shaTab
theorem rTab_len : rTab.length = 64 := rfl
end Go.Proofs.YtodejmindmiknaaDoor.Jd
