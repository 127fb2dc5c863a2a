/- Plain facts for the laws of addresses. No condition. -/
import Derived.Test.YtnnafnjdngjkoaaDoorJMB
import Derived.Test.YtnnafnjdngjkoaaDoorJPA
namespace Go.Proofs.YtnnafnjdngjkoaaDoor.Jd
set_option linter.unusedSimpArgs false
set_option linter.unusedVariables false
theorem aCut_len (s : Str) : (aCut s).length ≤ 40 := by unfold aCut; rw [List.length_take]; omega
theorem and_mask {m k : Nat} (hm : m < 2 ^ 63) (hk : k ≤ 32) : andI .i64 (m : Int) (2 ^ k - 1) = (m : Int) % 2 ^ k := by
  have hp : (0 : Nat) < 2 ^ k := Nat.pow_pos (by omega)
  have hle : (2 : Nat) ^ k ≤ 2 ^ 32 := Nat.pow_le_pow_right (by omega) hk
  have e : ((2 : Int) ^ k - 1) = ((2 ^ k - 1 : Nat) : Int) := by rw [Int.ofNat_sub (by omega)]; simp
  rw [e, andI_nat hm (by omega), Nat.and_two_pow_sub_one_eq_mod]
  simp
theorem or_mask {m k : Nat} (hm : m < 2 ^ 62) (hk : k ≤ 32) (h0 : m % 2 ^ k = 0) : orI .i64 (m : Int) (2 ^ k - 1) = (m : Int) + 2 ^ k - 1 := by
  have hp : (0 : Nat) < 2 ^ k := Nat.pow_pos (by omega)
  have hle : (2 : Nat) ^ k ≤ 2 ^ 32 := Nat.pow_le_pow_right (by omega) hk
  have e : ((2 : Int) ^ k - 1) = ((2 ^ k - 1 : Nat) : Int) := by rw [Int.ofNat_sub (by omega)]; simp
  rw [e, orI_nat (by omega) (by omega)]
  have h1 : m = 2 ^ k * (m / 2 ^ k) := by have := Nat.div_add_mod m (2 ^ k); omega
  have h2 : m ||| (2 ^ k - 1) = m + (2 ^ k - 1) := by
    rw [h1]
    exact (Nat.two_pow_add_eq_or_of_lt (by omega) _).symm
  rw [h2]
  push_cast
  rw [Int.ofNat_sub (by omega)]
  push_cast
  omega
theorem andNot_mask {m k : Nat} (hm : m < 2 ^ 63) (hk : k ≤ 32) : andNotI .i64 (m : Int) (2 ^ k - 1) = (m : Int) - (m : Int) % 2 ^ k := by
  have hp : (0 : Nat) < 2 ^ k := Nat.pow_pos (by omega)
  have hle : (2 : Nat) ^ k ≤ 2 ^ 32 := Nat.pow_le_pow_right (by omega) hk
  have e : ((2 : Int) ^ k - 1) = ((2 ^ k - 1 : Nat) : Int) := by rw [Int.ofNat_sub (by omega)]; simp
  rw [e]
  show IntKind.i64.wrap ((BitVec.ofInt 64 (m : Int) &&& ~~~ BitVec.ofInt 64 ((2 ^ k - 1 : Nat) : Int)).toNat : Int) = _
  rw [ofInt_nat, ofInt_nat]
  have h1 : (BitVec.ofNat 64 m &&& ~~~ BitVec.ofNat 64 (2 ^ k - 1)).toNat = m - m % 2 ^ k := by
    have hsh : m - m % 2 ^ k = (m >>> k) <<< k := by
      rw [Nat.shiftRight_eq_div_pow, Nat.shiftLeft_eq]
      have := Nat.div_add_mod m (2 ^ k)
      rw [Nat.mul_comm] at this
      omega
    rw [hsh]
    apply Nat.eq_of_testBit_eq
    intro i
    rw [BitVec.testBit_toNat, BitVec.getLsbD_and, BitVec.getLsbD_not, BitVec.getLsbD_ofNat, BitVec.getLsbD_ofNat, Nat.testBit_two_pow_sub_one, Nat.testBit_shiftLeft, Nat.testBit_shiftRight]
    by_cases hi : i < 64
    · by_cases hik : k ≤ i
      · have e1 : ¬ i < k := by omega
        have e2 : k + (i - k) = i := by omega
        simp [hi, hik, e1, e2]
      · have e1 : i < k := by omega
        simp [hi, hik, e1]
    · have e1 : m.testBit i = false := Nat.testBit_lt_two_pow (Nat.lt_of_lt_of_le hm (Nat.pow_le_pow_right (by omega) (by omega)))
      have e2 : k ≤ i := by omega
      have e3 : k + (i - k) = i := by omega
      simp [hi, e2, e3, e1]
  rw [h1]
  have hmm : m % 2 ^ k ≤ m := Nat.mod_le _ _
  have : IntKind.i64.wrap ((m - m % 2 ^ k : Nat) : Int) = ((m - m % 2 ^ k : Nat) : Int) := wrap_i64 (by omega)
  rw [this, Int.ofNat_sub hmm]
  simp
end Go.Proofs.YtnnafnjdngjkoaaDoor.Jd
