/- Plain facts on ports. No condition. -/
import Derived.Test.YtnnafnjdngjkoaaDoorJQM
import Derived.Test.YtnnafnjdngjkoaaDoorJPA
namespace Go.Proofs.YtnnafnjdngjkoaaDoor.Jd
set_option linter.unusedSimpArgs false
set_option linter.unusedVariables false
theorem rPRight_t {p : PortsT} (h : rPRight p = true) : 0 ≤ p.lo ∧ p.lo ≤ p.hi ∧ p.hi ≤ 65535 := by
  unfold rPRight at h
  split at h
  · split at h
    · simp at h; omega
    · cases h
  · cases h
theorem pRight_t {p : PortsT} (h : pRight p = true) : 0 ≤ p.lo ∧ p.lo ≤ p.hi ∧ p.hi ≤ 65535 := by
  unfold pRight at h
  split at h
  · cases h
  · split at h
    · cases h
    · split at h
      · cases h
      · omega
end Go.Proofs.YtnnafnjdngjkoaaDoor.Jd
