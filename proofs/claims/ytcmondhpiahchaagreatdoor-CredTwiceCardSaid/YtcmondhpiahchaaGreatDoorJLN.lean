/- Plain facts on the laws' own cuts. No condition. -/
import Derived.Test.YtcmondhpiahchaaGreatDoorJLM
import Derived.Test.YtcmondhpiahchaaGreatDoorJRN
namespace Go.Proofs.YtcmondhpiahchaaGreatDoor.Jd
set_option linter.unusedSimpArgs false
set_option linter.unusedVariables false
theorem cCut_len (s : Str) : (cCut s).length ≤ 100 := by unfold cCut; rw [List.length_take]; omega
end Go.Proofs.YtcmondhpiahchaaGreatDoor.Jd
