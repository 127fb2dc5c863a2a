/- How what a law is handed is read. No condition. -/
import Derived.Test.YtodejmindmiknaaDoorRows
import Derived.Test.YtodejmindmiknaaDoorJ21
import Derived.Test.YtodejmindmiknaaDoorJTH
import Derived.Test.YtodejmindmiknaaDoorJTE
import Derived.Test.YtodejmindmiknaaDoorJZW
import Derived.Lay
namespace Go.Proofs.YtodejmindmiknaaDoor
open Go.Proofs Go.Proofs.YtodejmindmiknaaDoor.Jd
open Go.ChangeShapes Go.WideShapes Go.ChangeAt Go.RowKit Go.ChangeMaps
set_option maxRecDepth 100000
set_option linter.unusedVariables false
set_option linter.unusedSimpArgs false
theorem laidOut : laidOutB Tryd.prog = true := by kernel_rfl
theorem own' : ownKnob Tryd.prog.godebug = none := by kernel_rfl
section
variable {H : Type} {enc : TypeId × Value → H} {W : World}

end
/-- A world for the witness: each listed variable holds what its initialiser lays. -/
noncomputable def laidWorld (os : Os) : World := World.laidAll Tryd.prog os Rows.macMacsRow.laid
theorem ern0 : Tryd.prog.globalNamed "wicketgate/mac.errArg" = some 0 := by kernel_rfl
theorem ert0 : (Tryd.prog.globals[0]?).map (·.type) = some 37 := by kernel_rfl
theorem ern1 : Tryd.prog.globalNamed "wicketgate/mac.errKey" = some 1 := by kernel_rfl
theorem ert1 : (Tryd.prog.globals[1]?).map (·.type) = some 37 := by kernel_rfl
theorem er_star : "*" ++ "errors.errorString" = "*errors.errorString" := by decide
theorem er_row (u : TypeId) (h : Tryd.prog.typeName? 3 u = some "*errors.errorString") : u = 130 :=
  typeName_ptr_named (nm := "errors.errorString") (by rw [er_star]; kernel_rfl) (by kernel_rfl) (by decide) u (by rw [er_star]; exact h)

theorem er_c1 : Tryd.prog.cellsOf 153 = 1 := by kernel_rfl
theorem er_c2 : Tryd.prog.cellsOf 9 = 1 := by kernel_rfl
end Go.Proofs.YtodejmindmiknaaDoor
