/- Plain facts on digits. No condition. -/
import Derived.Test.YtodejmindmiknaaDoorJXM
import Derived.Test.YtodejmindmiknaaDoorJMN
import Derived.Test.YtodejmindmiknaaDoorJ22
namespace Go.Proofs.YtodejmindmiknaaDoor.Jd
set_option linter.unusedSimpArgs false
set_option linter.unusedVariables false
theorem toI_bd (s : Str) (i : Nat) : 0 ≤ (toI s).getD i default ∧ (toI s).getD i default ≤ 255 := by
  unfold toI
  by_cases h : i < s.length
  · have := (s[i]).toNat_lt
    simp [List.getD, h]
    try omega
  · simp [List.getD, h]
    try exact (show 0 ≤ (0 : Int) ∧ (0 : Int) ≤ 255 by omega)
theorem shr4_bd {x : Int} (h : 0 ≤ x ∧ x ≤ 255) : 0 ≤ shrI .u8 x 4 ∧ shrI .u8 x 4 ≤ 15 := by
  unfold shrI
  have : (2 : Int) ^ (min (4 : Int).toNat IntKind.u8.bits) = 16 := by decide
  rw [this, Int.fdiv_eq_ediv_of_nonneg _ (by omega)]
  omega
theorem and15_bd {x : Int} (h : 0 ≤ x ∧ x ≤ 255) : 0 ≤ andI .u8 x 15 ∧ andI .u8 x 15 ≤ 15 := by
  obtain ⟨n, rfl⟩ : ∃ n : Nat, x = n := ⟨x.toNat, by omega⟩
  have key : ∀ n : Fin 256, 0 ≤ andI .u8 ((n.val : Nat) : Int) 15 ∧ andI .u8 ((n.val : Nat) : Int) 15 ≤ 15 := by decide +kernel
  exact key ⟨n, by omega⟩
end Go.Proofs.YtodejmindmiknaaDoor.Jd
