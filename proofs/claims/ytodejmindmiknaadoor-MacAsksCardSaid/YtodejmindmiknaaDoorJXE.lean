/- internal/abi.NoEscape. No condition. -/
import Derived.Test.YtodejmindmiknaaDoorChecked
import Derived.Test.YtodejmindmiknaaDoorJ22
import Derived.WalkKit
import Derived.LaidEql
import Derived.Stop.Asserts
namespace Go.Proofs.YtodejmindmiknaaDoor.Jd
set_option linter.unusedSimpArgs false
set_option linter.unusedVariables false
open Go.Proofs
set_option maxRecDepth 100000
open Go.RowKit Go.Extern.Stop Go.Stop Go.Extern
theorem noesc (u : Value) (w : World) : (callFunc 61 #[u]).run Tryd.prog w = .ok (.value u) w :=
  (@run_callFunc_extern Tryd.prog 61 _ Extern.AbiNoEscape.same Tryd.func61 (by kernel_rfl) (by kernel_rfl) (by kernel_rfl) (by kernel_rfl) #[u] w).trans (by rw [Lib.run_noEscape]; rfl : _ = Result.ok (Next.value u) w)
end Go.Proofs.YtodejmindmiknaaDoor.Jd
