/- Plain facts on the document's own SHA-256: lengths. No condition. -/
import Derived.Test.YtodejmindmiknaaDoorJUM
import Derived.Test.YtodejmindmiknaaDoorJSN
namespace Go.Proofs.YtodejmindmiknaaDoor.Jd
set_option linter.unusedSimpArgs false
set_option linter.unusedVariables false
theorem wrapu32_nn (x : Int) : 0 ≤ IntKind.u32.wrap x := by
  simp only [IntKind.wrap, IntKind.bits, IntKind.signed]
  simp
  omega
theorem rsPad_l0_mod (s : Str) : ∀ n t, (120 - t.length % 64) % 64 < n → (rsPad_l0 s n t).length % 64 = 56
  | 0, t, h => by omega
  | n + 1, t, h => by
    rw [rsPad_l0]
    split
    · refine rsPad_l0_mod s n _ ?_
      simp only [List.length_append, List.length_cons, List.length_nil]
      omega
    · omega
theorem rsPad_mod (s : Str) : (rsPad s).length % 64 = 0 := by
  unfold rsPad
  simp only [run1]
  have := rsPad_l0_mod s ((120 - (s ++ ([128] : Str)).length % 64) % 64 + 1) (s ++ ([128] : Str)) (by omega)
  simp only [List.length_append, toS_length, List.length_cons, List.length_nil] at this ⊢
  omega
theorem rsPad_l0_len (s : Str) : ∀ n t, (rsPad_l0 s n t).length ≤ t.length + n
  | 0, t => by simp [rsPad_l0]
  | n + 1, t => by
    rw [rsPad_l0]
    split
    · have := rsPad_l0_len s n (t ++ ([0] : Str))
      simp only [List.length_append, List.length_cons, List.length_nil] at this
      omega
    · omega
theorem rsPad_len (s : Str) : (rsPad s).length ≤ s.length + 80 := by
  unfold rsPad
  simp only [run1]
  have := rsPad_l0_len s ((120 - (s ++ ([128] : Str)).length % 64) % 64 + 1) (s ++ ([128] : Str))
  simp only [List.length_append, toS_length, List.length_cons, List.length_nil] at this ⊢
  omega
theorem rsSum_len (s : Str) : (rsSum s).length = 32 := by
  unfold rsSum
  simp only [run9]
  simp only [List.length_append, toS_length, List.length_cons, List.length_nil]
end Go.Proofs.YtodejmindmiknaaDoor.Jd
