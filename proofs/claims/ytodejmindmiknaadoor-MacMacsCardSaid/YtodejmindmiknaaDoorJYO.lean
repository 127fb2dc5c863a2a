/- The law's shown part is true: by the kernel. No condition. -/
import Derived.Test.YtodejmindmiknaaDoorJYM
import Derived.KernelRfl
namespace Go.Proofs.YtodejmindmiknaaDoor.Jd
set_option linter.unusedSimpArgs false
set_option linter.unusedVariables false
theorem mShown_true : mShown = true := by kernel_rfl
end Go.Proofs.YtodejmindmiknaaDoor.Jd
