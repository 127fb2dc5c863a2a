/- Plain facts of whole numbers of 64 bits and of texts. No condition. -/
import Derived.Test.YtodejmindmiknaaDoorJ13
import Derived.Lib.ItoaNum
import Derived.Lib.IndexMore
import Derived.Lib.Join
namespace Go.Proofs.YtodejmindmiknaaDoor.Jd
set_option linter.unusedSimpArgs false
set_option linter.unusedVariables false
theorem ofInt_nat (m : Nat) : BitVec.ofInt 64 (m : Int) = BitVec.ofNat 64 m := by simp
theorem andI_nat {m n : Nat} (hm : m < 2 ^ 63) (hn : n < 2 ^ 63) : andI .i64 (m : Int) (n : Int) = ((m &&& n : Nat) : Int) := by
  show IntKind.i64.wrap ((BitVec.ofInt 64 (m : Int) &&& BitVec.ofInt 64 (n : Int)).toNat : Int) = _
  rw [ofInt_nat, ofInt_nat, BitVec.toNat_and, BitVec.toNat_ofNat, BitVec.toNat_ofNat, Nat.mod_eq_of_lt (show m < 2 ^ 64 by omega), Nat.mod_eq_of_lt (show n < 2 ^ 64 by omega)]
  have : m &&& n ≤ m := Nat.and_le_left
  apply wrap_i64; omega
theorem orI_nat {m n : Nat} (hm : m < 2 ^ 63) (hn : n < 2 ^ 63) : orI .i64 (m : Int) (n : Int) = ((m ||| n : Nat) : Int) := by
  show IntKind.i64.wrap ((BitVec.ofInt 64 (m : Int) ||| BitVec.ofInt 64 (n : Int)).toNat : Int) = _
  rw [ofInt_nat, ofInt_nat, BitVec.toNat_or, BitVec.toNat_ofNat, BitVec.toNat_ofNat, Nat.mod_eq_of_lt (show m < 2 ^ 64 by omega), Nat.mod_eq_of_lt (show n < 2 ^ 64 by omega)]
  have : m ||| n < 2 ^ 63 := Nat.or_lt_two_pow hm hn
  apply wrap_i64; omega
theorem xorI_nat {m n : Nat} (hm : m < 2 ^ 63) (hn : n < 2 ^ 63) : xorI .i64 (m : Int) (n : Int) = ((m ^^^ n : Nat) : Int) := by
  show IntKind.i64.wrap ((BitVec.ofInt 64 (m : Int) ^^^ BitVec.ofInt 64 (n : Int)).toNat : Int) = _
  rw [ofInt_nat, ofInt_nat, BitVec.toNat_xor, BitVec.toNat_ofNat, BitVec.toNat_ofNat, Nat.mod_eq_of_lt (show m < 2 ^ 64 by omega), Nat.mod_eq_of_lt (show n < 2 ^ 64 by omega)]
  have : m ^^^ n < 2 ^ 63 := Nat.xor_lt_two_pow hm hn
  apply wrap_i64; omega
theorem pow_mono {m n : Nat} (h : m ≤ n) : (2 : Int) ^ m ≤ 2 ^ n := by
  have : (2 : Nat) ^ m ≤ 2 ^ n := Nat.pow_le_pow_right (by omega) h
  exact_mod_cast this
theorem shrI_eq {a : Int} (h : 0 ≤ a) {k : Nat} (hk : k ≤ 64) : shrI .i64 a (k : Int) = a / 2 ^ k := by
  unfold shrI
  rw [show min ((k : Int)).toNat IntKind.i64.bits = k from by show min _ 64 = k; simp; omega, Int.fdiv_eq_ediv_of_nonneg _ (by have := Int.pow_pos (n := 2) (m := k) (by omega); omega)]
theorem shlI_eq {a : Int} {k : Nat} (hk : k ≤ 64) (h : -9223372036854775808 ≤ a * 2 ^ k ∧ a * 2 ^ k ≤ 9223372036854775807) : shlI .i64 a (k : Int) = a * 2 ^ k := by
  unfold shlI
  rw [show min ((k : Int)).toNat IntKind.i64.bits = k from by show min _ 64 = k; simp; omega]
  exact wrap_i64 h
theorem and255 {a : Int} (h : 0 ≤ a ∧ a ≤ 9223372036854775807) : andI .i64 a 255 = a % 256 := by
  obtain ⟨n, rfl⟩ : ∃ n : Nat, a = (n : Int) := ⟨a.toNat, by omega⟩
  have := andI_nat (m := n) (n := 255) (by omega) (by omega)
  rw [show ((255 : Nat) : Int) = 255 from rfl] at this
  rw [this, Nat.and_two_pow_sub_one_eq_mod n 8]
  rfl
theorem byte_at {a : Int} (h : 0 ≤ a ∧ a ≤ 4294967295) (k : Nat) (hk : k ≤ 24) : andI .i64 (shrI .i64 a (k : Int)) 255 = a / 2 ^ k % 256 ∧ 0 ≤ andI .i64 (shrI .i64 a (k : Int)) 255 ∧ andI .i64 (shrI .i64 a (k : Int)) 255 ≤ 255 := by
  have hp : (0 : Int) < 2 ^ k := Int.pow_pos (by omega)
  have h0 := Int.ediv_nonneg h.1 (show 0 ≤ (2 : Int) ^ k by omega)
  have hle : a / 2 ^ k ≤ a := Int.ediv_le_self _ h.1
  rw [shrI_eq h.1 (by omega), and255 (by omega)]
  omega
theorem cut_len (s sep : Str) : (Lib.cut s sep).1.length ≤ s.length ∧ (Lib.cut s sep).2.1.length ≤ s.length := by
  unfold Lib.cut
  split
  · simp only [List.length_take, List.length_drop]; omega
  · simp
theorem decDigits_len : ∀ (k n : Nat), n < 10 ^ (k + 1) → (Lib.decDigits n).length ≤ k + 1
  | 0, n, h => by
    rw [Lib.decDigits, dif_pos (by omega)]; simp
  | k + 1, n, h => by
    rw [Lib.decDigits]
    split
    · simp
    · have := decDigits_len k (n / 10) (by rw [Nat.pow_succ] at h; omega)
      simp only [List.length_append, List.length_singleton]; omega
theorem itoa_len {n : Int} (h : -9223372036854775808 ≤ n ∧ n ≤ 9223372036854775807) : (Lib.itoa n).length ≤ 21 := by
  unfold Lib.itoa
  split
  · have := decDigits_len 19 n.natAbs (by omega)
    simp only [List.length_cons]; omega
  · have := decDigits_len 19 n.toNat (by omega)
    omega
end Go.Proofs.YtodejmindmiknaaDoor.Jd
