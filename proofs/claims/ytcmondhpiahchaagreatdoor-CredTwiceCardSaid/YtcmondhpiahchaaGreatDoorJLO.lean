/- The law's shown part is true: by the kernel. No condition. -/
import Derived.Test.YtcmondhpiahchaaGreatDoorJLM
import Derived.KernelRfl
namespace Go.Proofs.YtcmondhpiahchaaGreatDoor.Jd
set_option linter.unusedSimpArgs false
set_option linter.unusedVariables false
theorem cShown_true : cShown = true := by kernel_rfl
end Go.Proofs.YtcmondhpiahchaaGreatDoor.Jd
