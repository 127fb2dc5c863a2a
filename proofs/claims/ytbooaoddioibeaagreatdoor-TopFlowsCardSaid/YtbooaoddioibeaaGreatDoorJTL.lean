/- Part of the proofs of this seat: walks and plain facts. No condition. -/
import Derived.Test.YtbooaoddioibeaaGreatDoorS0
import Derived.Test.YtbooaoddioibeaaGreatDoorRows
import Derived.ChangeMaps5
import Derived.Test.YtbooaoddioibeaaGreatDoorT1
import Derived.Test.YtbooaoddioibeaaGreatDoorT3
import Derived.Test.YtbooaoddioibeaaGreatDoorS1
namespace Go.Proofs.YtbooaoddioibeaaGreatDoor
open Go.Proofs.Tryz
open Go.Proofs Go.Proofs.YtbooaoddioibeaaGreatDoor.Jd
open Go.ChangeShapes Go.WideShapes Go.ChangeAt Go.RowKit Go.ChangeMaps
set_option maxRecDepth 100000
set_option linter.unusedVariables false
set_option linter.unusedSimpArgs false
theorem own' : ownKnob Tryz.prog.godebug = none := by kernel_rfl
section
variable {H : Type} {enc : TypeId × Value → H} {W : World}

end
def laidD : List (String × DataW Unit) := [("strconv.ErrSyntax", Rows.laid_strconv_ErrSyntax), ("strconv.ErrRange", Rows.laid_strconv_ErrRange), ("internal/strconv.uint64pow10", Rows.laid_internal_strconv_uint64pow10), ("math/bits.deBruijn32tab", Rows.laid_math_bits_deBruijn32tab), ("math/bits.deBruijn64tab", Rows.laid_math_bits_deBruijn64tab), ("wicketgate/roles.verbs", Rows.laid_wicketgate_roles_verbs), ("wicketgate/acl.errRule", Rows.laid_wicketgate_acl_errRule), ("wicketgate/acl.errRules", Rows.laid_wicketgate_acl_errRules), ("wicketgate/acl.errPlace", Rows.laid_wicketgate_acl_errPlace), ("wicketgate/acl.errTarget", Rows.laid_wicketgate_acl_errTarget), ("wicketgate/ports.errPorts", Rows.laid_wicketgate_ports_errPorts), ("wicketgate/ports.errTarget", Rows.laid_wicketgate_ports_errTarget), ("wicketgate/snaps.errPool", Rows.laid_wicketgate_snaps_errPool), ("wicketgate/snaps.errArg", Rows.laid_wicketgate_snaps_errArg), ("wicketgate/snaps.errCursor", Rows.laid_wicketgate_snaps_errCursor), ("wicketgate/wire.errFrame", Rows.laid_wicketgate_wire_errFrame), ("wicketgate/wire.errArg", Rows.laid_wicketgate_wire_errArg), ("wicketgate/wire.errMore", Rows.laid_wicketgate_wire_errMore), ("wicketgate/wire.errKind", Rows.laid_wicketgate_wire_errKind), ("wicketgate/wire.errLong", Rows.laid_wicketgate_wire_errLong), ("wicketgate/session.errSession", Rows.laid_wicketgate_session_errSession), ("wicketgate/session.errStream", Rows.laid_wicketgate_session_errStream), ("wicketgate/session.errFrame", Rows.laid_wicketgate_session_errFrame), ("wicketgate/mac.errArg", Rows.laid_wicketgate_mac_errArg), ("wicketgate/mac.errKey", Rows.laid_wicketgate_mac_errKey), ("wicketgate/sha.constants", Rows.laid_wicketgate_sha_constants)]
noncomputable def laidW0 (os : Os) : World := { World.holding Tryz.prog os ⟨#[], #[], []⟩ with heap := ((World.holding Tryz.prog os ⟨#[], #[], []⟩).heap.modify 10 fun
      | .cells _ t frozen => .cells #[.iface 341 (.agg #[.pointer (some ⟨28, 55, none⟩)])] t frozen
      | o => o) }
noncomputable def laidWorld (os : Os) : World := (laidW0 os).layVars Tryz.prog laidD
theorem ern0 : Tryz.prog.globalNamed "wicketgate/wire.errFrame" = some 0 := by kernel_rfl
theorem ert0 : (Tryz.prog.globals[0]?).map (·.type) = some 55 := by kernel_rfl
theorem ern1 : Tryz.prog.globalNamed "wicketgate/mac.errArg" = some 1 := by kernel_rfl
theorem ert1 : (Tryz.prog.globals[1]?).map (·.type) = some 55 := by kernel_rfl
theorem ern2 : Tryz.prog.globalNamed "wicketgate/wire.errArg" = some 2 := by kernel_rfl
theorem ert2 : (Tryz.prog.globals[2]?).map (·.type) = some 55 := by kernel_rfl
theorem ern3 : Tryz.prog.globalNamed "wicketgate/wire.errMore" = some 3 := by kernel_rfl
theorem ert3 : (Tryz.prog.globals[3]?).map (·.type) = some 55 := by kernel_rfl
theorem ern4 : Tryz.prog.globalNamed "wicketgate/wire.errKind" = some 4 := by kernel_rfl
theorem ert4 : (Tryz.prog.globals[4]?).map (·.type) = some 55 := by kernel_rfl
theorem ern5 : Tryz.prog.globalNamed "wicketgate/wire.errLong" = some 5 := by kernel_rfl
theorem ert5 : (Tryz.prog.globals[5]?).map (·.type) = some 55 := by kernel_rfl
theorem ern6 : Tryz.prog.globalNamed "wicketgate/session.errSession" = some 6 := by kernel_rfl
theorem ert6 : (Tryz.prog.globals[6]?).map (·.type) = some 55 := by kernel_rfl
theorem ern7 : Tryz.prog.globalNamed "wicketgate/session.errFrame" = some 7 := by kernel_rfl
theorem ert7 : (Tryz.prog.globals[7]?).map (·.type) = some 55 := by kernel_rfl
theorem ern8 : Tryz.prog.globalNamed "wicketgate/mac.errKey" = some 8 := by kernel_rfl
theorem ert8 : (Tryz.prog.globals[8]?).map (·.type) = some 55 := by kernel_rfl
theorem ern9 : Tryz.prog.globalNamed "wicketgate/session.errStream" = some 9 := by kernel_rfl
theorem ert9 : (Tryz.prog.globals[9]?).map (·.type) = some 55 := by kernel_rfl
theorem ern10 : Tryz.prog.globalNamed "wicketgate/ports.errTarget" = some 11 := by kernel_rfl
theorem ert10 : (Tryz.prog.globals[11]?).map (·.type) = some 55 := by kernel_rfl
theorem ern11 : Tryz.prog.globalNamed "wicketgate/acl.errRules" = some 12 := by kernel_rfl
theorem ert11 : (Tryz.prog.globals[12]?).map (·.type) = some 55 := by kernel_rfl
theorem ern12 : Tryz.prog.globalNamed "wicketgate/ports.errPorts" = some 14 := by kernel_rfl
theorem ert12 : (Tryz.prog.globals[14]?).map (·.type) = some 55 := by kernel_rfl
theorem ern13 : Tryz.prog.globalNamed "wicketgate/acl.errRule" = some 15 := by kernel_rfl
theorem ert13 : (Tryz.prog.globals[15]?).map (·.type) = some 55 := by kernel_rfl
theorem ern14 : Tryz.prog.globalNamed "wicketgate/acl.errPlace" = some 16 := by kernel_rfl
theorem ert14 : (Tryz.prog.globals[16]?).map (·.type) = some 55 := by kernel_rfl
theorem ern15 : Tryz.prog.globalNamed "wicketgate/acl.errTarget" = some 17 := by kernel_rfl
theorem ert15 : (Tryz.prog.globals[17]?).map (·.type) = some 55 := by kernel_rfl
theorem ern16 : Tryz.prog.globalNamed "wicketgate/snaps.errPool" = some 19 := by kernel_rfl
theorem ert16 : (Tryz.prog.globals[19]?).map (·.type) = some 55 := by kernel_rfl
theorem ern17 : Tryz.prog.globalNamed "wicketgate/snaps.errArg" = some 21 := by kernel_rfl
theorem ert17 : (Tryz.prog.globals[21]?).map (·.type) = some 55 := by kernel_rfl
theorem ern18 : Tryz.prog.globalNamed "wicketgate/snaps.errCursor" = some 22 := by kernel_rfl
theorem ert18 : (Tryz.prog.globals[22]?).map (·.type) = some 55 := by kernel_rfl
theorem ern19 : Tryz.prog.globalNamed "strconv.ErrSyntax" = some 24 := by kernel_rfl
theorem ert19 : (Tryz.prog.globals[24]?).map (·.type) = some 55 := by kernel_rfl
theorem ern20 : Tryz.prog.globalNamed "strconv.ErrRange" = some 25 := by kernel_rfl
theorem ert20 : (Tryz.prog.globals[25]?).map (·.type) = some 55 := by kernel_rfl
theorem er_c1 : Tryz.prog.cellsOf 730 = 1 := by kernel_rfl
theorem er_c2 : Tryz.prog.cellsOf 9 = 1 := by kernel_rfl
end Go.Proofs.YtbooaoddioibeaaGreatDoor

