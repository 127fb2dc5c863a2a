/- Plain facts on SHA-256 as the program computes it: lengths. No condition. -/
import Derived.Test.YtodejmindmiknaaDoorJSM
namespace Go.Proofs.YtodejmindmiknaaDoor.Jd
set_option linter.unusedSimpArgs false
set_option linter.unusedVariables false
theorem wrapu_nn (x : Int) : 0 ≤ IntKind.u64.wrap x := by
  simp only [IntKind.wrap, IntKind.bits, IntKind.signed]
  simp
  omega
theorem andI_nn (a b : Int) : 0 ≤ andI .u64 a b := wrapu_nn _
theorem sWords_l1_len (b : Str) (x : Nat) (y : List Int) : ∀ (n k : Nat) (xs : List Int), (sWords_l1 b x y n k xs).2.length = xs.length
  | 0, _, _ => rfl
  | n + 1, k, xs => by
    rw [sWords_l1]
    split
    · rw [sWords_l1_len b x y n]; simp
    · rfl
theorem sWords_l0_len (b : Str) : ∀ (n k : Nat) (xs : List Int), (sWords_l0 b n k xs).2.length = xs.length
  | 0, _, _ => rfl
  | n + 1, k, xs => by
    rw [sWords_l0]
    split
    · split
      · simp only [run2]
        rw [sWords_l0_len b n, sWords_l1_len]
      · rw [sWords_l0_len b n]; simp
    · rfl
theorem sWords_len {b : Str} : (sWords b).length = 64 := by
  unfold sWords
  simp only [run2]
  rw [sWords_l0_len]; simp
theorem sSum_len (s : Str) : (sSum s).length = 32 := by
  unfold sSum
  simp only [run9]
  rw [toS_length]; simp
end Go.Proofs.YtodejmindmiknaaDoor.Jd
