/- Plain facts on the laws' own cuts. No condition. -/
import Derived.Test.YtodejmindmiknaaDoorJZM
import Derived.Test.YtodejmindmiknaaDoorJVN
import Derived.Test.YtodejmindmiknaaDoorJXN
namespace Go.Proofs.YtodejmindmiknaaDoor.Jd
set_option linter.unusedSimpArgs false
set_option linter.unusedVariables false
theorem lmCut_len (s : Str) : (lmCut s).length ≤ 200 := by unfold lmCut; rw [List.length_take]; omega
end Go.Proofs.YtodejmindmiknaaDoor.Jd
