/- The row's list is tied to the text. No condition. -/
import Derived.Test.YtbooaoddioibeaaGreatDoorT0
import Derived.LaidByTextLater
namespace Go.Proofs.YtbooaoddioibeaaGreatDoor
open Go
set_option linter.unusedVariables false
set_option linter.unusedSimpArgs false
set_option maxRecDepth 100000
def tieL : List (String × DataW Unit) := [("errors.errorType", Rows.laid_errors_errorType), ("strconv.ErrSyntax", Rows.laid_strconv_ErrSyntax), ("strconv.ErrRange", Rows.laid_strconv_ErrRange), ("internal/strconv.uint64pow10", Rows.laid_internal_strconv_uint64pow10), ("math/bits.deBruijn32tab", Rows.laid_math_bits_deBruijn32tab), ("math/bits.deBruijn64tab", Rows.laid_math_bits_deBruijn64tab), ("wicketgate/roles.verbs", Rows.laid_wicketgate_roles_verbs), ("wicketgate/acl.errRule", Rows.laid_wicketgate_acl_errRule), ("wicketgate/acl.errRules", Rows.laid_wicketgate_acl_errRules), ("wicketgate/acl.errPlace", Rows.laid_wicketgate_acl_errPlace), ("wicketgate/acl.errTarget", Rows.laid_wicketgate_acl_errTarget), ("wicketgate/ports.errPorts", Rows.laid_wicketgate_ports_errPorts), ("wicketgate/ports.errTarget", Rows.laid_wicketgate_ports_errTarget), ("wicketgate/snaps.errPool", Rows.laid_wicketgate_snaps_errPool), ("wicketgate/snaps.errArg", Rows.laid_wicketgate_snaps_errArg), ("wicketgate/snaps.errCursor", Rows.laid_wicketgate_snaps_errCursor), ("wicketgate/wire.errFrame", Rows.laid_wicketgate_wire_errFrame), ("wicketgate/wire.errArg", Rows.laid_wicketgate_wire_errArg), ("wicketgate/wire.errMore", Rows.laid_wicketgate_wire_errMore), ("wicketgate/wire.errKind", Rows.laid_wicketgate_wire_errKind), ("wicketgate/wire.errLong", Rows.laid_wicketgate_wire_errLong), ("wicketgate/session.errSession", Rows.laid_wicketgate_session_errSession), ("wicketgate/session.errStream", Rows.laid_wicketgate_session_errStream), ("wicketgate/session.errFrame", Rows.laid_wicketgate_session_errFrame), ("wicketgate/mac.errArg", Rows.laid_wicketgate_mac_errArg), ("wicketgate/mac.errKey", Rows.laid_wicketgate_mac_errKey), ("wicketgate/sha.constants", Rows.laid_wicketgate_sha_constants)]
def tieK : List LaidKind := [.handle, .sentinel, .sentinel, .data, .data, .data, .data, .sentinel, .sentinel, .sentinel, .sentinel, .sentinel, .sentinel, .sentinel, .sentinel, .sentinel, .sentinel, .sentinel, .sentinel, .sentinel, .sentinel, .sentinel, .sentinel, .sentinel, .sentinel, .sentinel, .data]
theorem vidD : varsId Tryz.prog = 681 := by unfold varsId; rw [vid]; rfl
theorem tie1 : Tryz.prog.worded (varsWordLater true) = true := by kernel_rfl
theorem tie2 : Tryz.prog.worded (varsWordLater !true) = false := by kernel_rfl
theorem tie3 : Tryz.prog.worded rootWordLater = true := by kernel_rfl
theorem tie4 : tieL.map (fun x => Tryz.prog.kindOfLater x.1) = tieK.map some := by kernel_rfl
theorem felem : Tryz.prog.funcNamed "(internal/reflectlite.rtype).Elem" = some 604 := by rw [funcNamed_idxs]; kernel_rfl
theorem tie6 : varsNamedLaterB Tryz.prog 681 tieL = true := by unfold varsNamedLaterB Program.callsLaidAlone; rw [felem]; kernel_rfl
theorem tie7 (os : Os) (tape : Tape) : varsDone Tryz.prog 1200 681 os tape = true := by kernel_rfl
theorem tie8 (os : Os) (tape : Tape) : (DataW.laidRun Tryz.prog (varsWorld Tryz.prog 1200 681 os tape).memory 8 ((tieL.filter fun x => x.2.handleName?.isNone).map (·.1))).map (·.1) = some (tieL.filter fun x => x.2.handleName?.isNone) := by kernel_rfl
theorem tie9 (os : Os) (tape : Tape) : (DataW.laidRun Tryz.prog (varsWorld Tryz.prog 1200 681 os tape).memory 8 ((tieL.filter fun x => x.2.handleName?.isNone).map (·.1))).map (fun x => decide x.2.Nodup && laidRowsB Tryz.prog (varsWorld Tryz.prog 1200 681 os tape).memory x.2) = some true := by kernel_rfl
theorem tie10 (os : Os) (tape : Tape) : (tieL.filter fun x => x.2.handleName?.isSome).all (handleAtB Tryz.prog (varsWorld Tryz.prog 1200 681 os tape).memory) = true := by kernel_rfl
theorem noOwnU : Tryz.pinned.checked.prog.headLifts.contains "ownunsafe" = false := by kernel_rfl
theorem tieT : Tryz.prog.laidByTextLater tieL tieK true :=
  Program.laidByTextLater_by_run_h 1200 8 tie1 tie2 tie3 tie4 (by rw [vid]; rfl) (by rw [vidD]; exact tie6) (fun os tape => by rw [vidD]; exact tie7 os tape) (fun os tape => by rw [vidD]; exact tie8 os tape) (fun os tape => by rw [vidD]; exact tie9 os tape) (fun os tape => by rw [vidD]; exact tie10 os tape)
theorem row_tie : Rows.topFlowsRow.laidByTextAt .later Tryz.pinned tieK true := OpenClaim.laidByTextAt_later rfl rfl tieT noOwnU
end Go.Proofs.YtbooaoddioibeaaGreatDoor
