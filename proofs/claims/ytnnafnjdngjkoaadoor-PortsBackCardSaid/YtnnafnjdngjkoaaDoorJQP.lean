/- Plain facts on ports: how long texts are. No condition. -/
import Derived.Test.YtnnafnjdngjkoaaDoorJQN
import Derived.Test.YtnnafnjdngjkoaaDoorJQO
import Derived.Test.YtnnafnjdngjkoaaDoorJPB
namespace Go.Proofs.YtnnafnjdngjkoaaDoor.Jd
set_option linter.unusedSimpArgs false
set_option linter.unusedVariables false
theorem pCut_len (s : Str) : (pCut s).length ≤ 40 := by unfold pCut; rw [List.length_take]; omega
theorem pPrint_len (p : PortsT) : (pPrint p).1.length ≤ 100 := by
  unfold pPrint
  cases h : pRight p
  · simp
  · have hr := pRight_t h
    have h1 := itoa_len (n := p.lo) (by omega)
    have h2 := itoa_len (n := p.hi) (by omega)
    rw [if_neg (by simp)]
    split
    · simp
    · split
      · simp only; omega
      · simp only [List.length_append, List.length_cons, List.length_nil]; omega
theorem tPrint_len (t : Target) : (tPrint t).1.length ≤ 200 := by
  have h0 := aPrint_len t.addr
  unfold tPrint
  split
  · simp
  · split
    · simp
    · split
      · simp
      · have h2 := itoa_len (n := t.port) (by omega)
        simp only [List.length_append, List.length_cons, List.length_nil]; omega
end Go.Proofs.YtnnafnjdngjkoaaDoor.Jd
