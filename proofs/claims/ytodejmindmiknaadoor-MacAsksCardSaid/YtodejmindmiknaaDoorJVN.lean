/- Plain facts on the document's own HMAC: lengths. No condition. -/
import Derived.Test.YtodejmindmiknaaDoorJVM
import Derived.Test.YtodejmindmiknaaDoorJUN
namespace Go.Proofs.YtodejmindmiknaaDoor.Jd
set_option linter.unusedSimpArgs false
set_option linter.unusedVariables false
theorem rPad_l0_len (key : Str) (b : Int) : ∀ n out i, (rPad_l0 key b n out i).1.length = out.length + min n (64 - i)
  | 0, out, i => by simp [rPad_l0]
  | n + 1, out, i => by
    rw [rPad_l0]
    split
    · split
      all_goals
        rw [rPad_l0_len key b n]
        simp only [List.length_append, List.length_cons, List.length_nil]
        omega
    · simp only; omega
theorem rPad_len (key : Str) (b : Int) : (rPad key b).length = 64 := by
  unfold rPad
  simp only [run2]
  rw [toS_length, rPad_l0_len]
  simp
end Go.Proofs.YtodejmindmiknaaDoor.Jd
