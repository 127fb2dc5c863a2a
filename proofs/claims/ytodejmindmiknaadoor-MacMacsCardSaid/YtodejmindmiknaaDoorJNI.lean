/- Plain facts on digits of numbers. No condition. -/
import Derived.Test.YtodejmindmiknaaDoorJ20
import Derived.Lib.ItoaNum
namespace Go.Proofs.YtodejmindmiknaaDoor.Jd
set_option linter.unusedSimpArgs false
set_option linter.unusedVariables false
theorem num_small {n : Int} (h : 0 ≤ n ∧ n < 10) : (([48, 49, 50, 51, 52, 53, 54, 55, 56, 57] : Str).take (n + 1).toNat).drop n.toNat = Lib.itoa n := by
  obtain ⟨k, rfl⟩ : ∃ k : Nat, n = (k : Int) := ⟨n.toNat, by omega⟩
  have hk : k < 10 := by omega
  unfold Lib.itoa
  rw [if_neg (by omega), Int.toNat_natCast, Lib.decDigits, dif_pos hk, show ((k : Int) + 1).toNat = k + 1 by omega]
  match k, hk with
  | 0, _ | 1, _ | 2, _ | 3, _ | 4, _ | 5, _ | 6, _ | 7, _ | 8, _ | 9, _ => rfl
theorem num_big {n : Int} (h : 10 ≤ n) : Lib.itoa (n / 10) ++ (([48, 49, 50, 51, 52, 53, 54, 55, 56, 57] : Str).take (n % 10 + 1).toNat).drop (n % 10).toNat = Lib.itoa n := by
  obtain ⟨k, rfl⟩ : ∃ k : Nat, n = (k : Int) := ⟨n.toNat, by omega⟩
  rw [num_small (by omega)]
  unfold Lib.itoa
  rw [if_neg (by omega), if_neg (by omega), if_neg (by omega)]
  have e1 : ((k : Int) / 10).toNat = k / 10 := by omega
  have e2 : ((k : Int) % 10).toNat = k % 10 := by omega
  rw [e1, e2, Int.toNat_natCast, Lib.decDigits.eq_def k, dif_neg (by omega), Lib.decDigits.eq_def (k % 10), dif_pos (by omega)]
end Go.Proofs.YtodejmindmiknaaDoor.Jd
