/- Closed facts of the translation. No condition. -/
import Derived.Test.YtbooaoddioibeaaGreatDoorRows
import GoSem.Claim
import GoSem.ClaimJoined
import GoSem.ClaimMapViews
import GoSem.ClaimGoes
import GoSem.ClaimSeven
import Derived.SevenTiedAt
import Derived.ClosedOfChecked
namespace Go.Proofs.YtbooaoddioibeaaGreatDoor
open Go
set_option linter.unusedVariables false
set_option linter.unusedSimpArgs false
set_option maxRecDepth 100000
theorem laidOut3 : laidOutB Tryz.prog = true ∧ mapsRowed Tryz.prog = true ∧ Tryz.prog.plainKeys = true := Go.ClosedOfChecked.closed_of_checked Tryz.checked (by kernel_rfl) (by kernel_rfl) (by kernel_rfl)
theorem laidOut : laidOutB Tryz.prog = true := laidOut3.1
theorem jf1 : laidOutB Tryz.pinned.checked.prog = true := laidOut
theorem jf2 : mapsRowed Tryz.pinned.checked.prog = true := laidOut3.2.1
theorem jf8 : Tryz.pinned.checked.prog.plainKeys = true := laidOut3.2.2
theorem jf3 : Tryz.pinned.checked.prog.stopsHeard = true := by kernel_rfl
theorem jf4 : Tryz.pinned.checked.prog.mayEnter = true := by kernel_rfl
theorem jf5 : Tryz.pinned.checked.prog.liftsFinal = Rows.topFlowsRow.lifted := by kernel_rfl
theorem jf6 : Tryz.pinned.checked.prog.stops = [] := by kernel_rfl
theorem jf7 : Tryz.pinned.checked.prog.stopKnobs = [] := by kernel_rfl
end Go.Proofs.YtbooaoddioibeaaGreatDoor
