/- Plain facts of addresses and prefixes. No condition. -/
import Derived.Test.YtnnafnjdngjkoaaDoorJMA
namespace Go.Proofs.YtnnafnjdngjkoaaDoor.Jd
set_option linter.unusedSimpArgs false
set_option linter.unusedVariables false
theorem rIsAddr_t {a : Int} (h : rIsAddr a = true) : 0 ≤ a ∧ a ≤ 4294967295 := by
  unfold rIsAddr at h; split at h
  · exact ⟨‹_›, by simpa using h⟩
  · cases h
theorem isAddr_t {a : Int} (h : isAddr a = true) : 0 ≤ a ∧ a ≤ 4294967295 := by
  unfold isAddr at h; split at h
  · exact ⟨‹_›, by simpa using h⟩
  · cases h
theorem rSize_pow {bits : Int} (h : 0 ≤ bits ∧ bits ≤ 32) : rSize bits = 2 ^ (32 - bits).toNat := by
  obtain ⟨n, hn⟩ : ∃ n : Nat, bits = 32 - (n : Int) := ⟨(32 - bits).toNat, by omega⟩
  have h1 : (32 - bits).toNat = n := by omega
  have h2 : n ≤ 32 := by omega
  unfold rSize shlI
  rw [h1, show min n IntKind.i64.bits = n from by show min n 64 = n; omega, Int.one_mul]
  apply wrap_i64
  have h3 : (2 : Int) ^ n ≤ 2 ^ 32 := pow_mono h2
  have h4 : (0 : Int) < 2 ^ n := Int.pow_pos (by omega)
  omega
theorem rSize_bd {bits : Int} (h : 0 ≤ bits ∧ bits ≤ 32) : 1 ≤ rSize bits ∧ rSize bits ≤ 4294967296 := by
  rw [rSize_pow h]
  have h3 : (2 : Int) ^ (32 - bits).toNat ≤ 2 ^ 32 := pow_mono (by omega)
  have h4 : (0 : Int) < 2 ^ (32 - bits).toNat := Int.pow_pos (by omega)
  omega
theorem rRight_t {p : Prefix} (h : rRight p = true) : 0 ≤ p.bits ∧ p.bits ≤ 32 ∧ 0 ≤ p.addr ∧ p.addr ≤ 4294967295 := by
  unfold rRight at h
  split at h
  · split at h
    · split at h
      · have := rIsAddr_t ‹_›; omega
      · cases h
    · cases h
  · cases h
theorem aShort_t {p : Prefix} (h : aShort p = true) : 0 ≤ p.bits ∧ p.bits ≤ 32 ∧ 0 ≤ p.addr ∧ p.addr ≤ 4294967295 := by
  unfold aShort at h
  split at h
  · split at h
    · have := isAddr_t h; omega
    · cases h
  · cases h
theorem aRight_t {p : Prefix} (h : aRight p = true) : 0 ≤ p.bits ∧ p.bits ≤ 32 ∧ 0 ≤ p.addr ∧ p.addr ≤ 4294967295 := by
  apply aShort_t
  unfold aRight at h
  cases hs : aShort p
  · simp [hs] at h
  · rfl
theorem bytes_bd {a : Int} (h : 0 ≤ a ∧ a ≤ 4294967295) : (0 ≤ andI .i64 (shrI .i64 a 24) 255 ∧ andI .i64 (shrI .i64 a 24) 255 ≤ 255) ∧ (0 ≤ andI .i64 (shrI .i64 a 16) 255 ∧ andI .i64 (shrI .i64 a 16) 255 ≤ 255) ∧ (0 ≤ andI .i64 (shrI .i64 a 8) 255 ∧ andI .i64 (shrI .i64 a 8) 255 ≤ 255) ∧ (0 ≤ andI .i64 (shrI .i64 a 0) 255 ∧ andI .i64 (shrI .i64 a 0) 255 ≤ 255) :=
  ⟨(byte_at h 24 (by omega)).2, (byte_at h 16 (by omega)).2, (byte_at h 8 (by omega)).2, (byte_at h 0 (by omega)).2⟩
theorem print_len {x y z u : Str} (hx : x.length ≤ 21) (hy : y.length ≤ 21) (hz : z.length ≤ 21) (hu : u.length ≤ 21) : (Lib.join ((([x] ++ [y]) ++ [z]) ++ [u]) [46]).length ≤ 87 := by
  simp [Lib.join, List.intercalate]
  omega
theorem aPrint_len (a : Int) : (aPrint a).1.length ≤ 87 := by
  unfold aPrint
  split
  · simp
  · rename_i hn
    have h := isAddr_t (a := a) (by simpa using hn)
    have hbb := bytes_bd h
    exact print_len (itoa_len (by omega)) (itoa_len (by omega)) (itoa_len (by omega)) (itoa_len (by omega))
theorem num_small {n : Int} (h : 0 ≤ n ∧ n < 10) : (([48, 49, 50, 51, 52, 53, 54, 55, 56, 57] : Str).take (n + 1).toNat).drop n.toNat = Lib.itoa n := by
  obtain ⟨k, rfl⟩ : ∃ k : Nat, n = (k : Int) := ⟨n.toNat, by omega⟩
  have hk : k < 10 := by omega
  unfold Lib.itoa
  rw [if_neg (by omega), Int.toNat_natCast, Lib.decDigits, dif_pos hk, show ((k : Int) + 1).toNat = k + 1 by omega]
  match k, hk with
  | 0, _ | 1, _ | 2, _ | 3, _ | 4, _ | 5, _ | 6, _ | 7, _ | 8, _ | 9, _ => rfl
theorem num_big {n : Int} (h : 10 ≤ n) : Lib.itoa (n / 10) ++ (([48, 49, 50, 51, 52, 53, 54, 55, 56, 57] : Str).take (n % 10 + 1).toNat).drop (n % 10).toNat = Lib.itoa n := by
  obtain ⟨k, rfl⟩ : ∃ k : Nat, n = (k : Int) := ⟨n.toNat, by omega⟩
  rw [num_small (by omega)]
  unfold Lib.itoa
  rw [if_neg (by omega), if_neg (by omega), if_neg (by omega)]
  have e1 : ((k : Int) / 10).toNat = k / 10 := by omega
  have e2 : ((k : Int) % 10).toNat = k % 10 := by omega
  rw [e1, e2, Int.toNat_natCast, Lib.decDigits.eq_def k, dif_neg (by omega), Lib.decDigits.eq_def (k % 10), dif_pos (by omega)]
theorem rCut_l0_len (s : Str) (c : Int) : ∀ (n i : Nat), (∀ r, rCut_l0 s c n i = .error r → r.1.length ≤ s.length ∧ r.2.1.length ≤ s.length)
  | 0, i, r, h => by simp [rCut_l0] at h
  | n + 1, i, r, h => by
    unfold rCut_l0 at h
    split at h
    · split at h
      · injection h with h; subst h; simp only [List.length_take, List.length_drop]; omega
      · exact rCut_l0_len s c n _ r h
    · simp at h
theorem rCut_len (s : Str) (c : Int) : (rCut s c).1.length ≤ s.length ∧ (rCut s c).2.1.length ≤ s.length := by
  unfold rCut
  generalize hx : rCut_l0 s c _ _ = x
  cases x with
  | error r => exact rCut_l0_len s c _ _ r hx
  | ok v => simp [outc1]
theorem rNumber_l0_bd (s : Str) (most : Int) (hm : 0 ≤ most) : ∀ (n : Nat) (a : Int) (i : Nat), 0 ≤ a → (∀ r, rNumber_l0 s most n a i = .error r → r.2 = false) ∧ (∀ b j, rNumber_l0 s most n a i = .ok (b, j) → 0 ≤ b)
  | 0, a, i, h => by simp [rNumber_l0]; omega
  | n + 1, a, i, h => by
    unfold rNumber_l0
    split
    · split
      · simp
      · split
        · simp
        · split
          · simp
          · exact rNumber_l0_bd s most hm n _ _ (by omega)
    · simp; omega
theorem rNumber_bd {s : Str} {most : Int} (h : (rNumber s most).2 = true) (hm : 0 ≤ most := by decide) : 0 ≤ (rNumber s most).1 ∧ (rNumber s most).1 ≤ most := by
  have hb := rNumber_l0_bd s most hm (s.length + 1) 0 0 (by omega)
  unfold rNumber at h ⊢
  generalize rNumber_l0 s most (s.length + 1) 0 0 = x at *
  cases x with
  | error r => have := hb.1 r rfl; simp [outc2, this] at h
  | ok v =>
    have := hb.2 v.1 v.2 rfl
    simp only [outc2] at h ⊢
    split at h
    · rename_i hle
      rw [if_pos hle]; exact ⟨this, hle⟩
    · cases h
theorem rPrint_len (a : Int) : (rPrint a).1.length ≤ 87 := by
  unfold rPrint
  split
  · simp
  · rename_i hn
    have h := rIsAddr_t (a := a) (by simpa using hn)
    have h1 := itoa_len (n := a / 16777216) (by omega)
    have h2 := itoa_len (n := a / 65536 % 256) (by omega)
    have h3 := itoa_len (n := a / 256 % 256) (by omega)
    have h4 := itoa_len (n := a % 256) (by omega)
    simp only [List.length_append, List.length_cons, List.length_nil]
    omega
end Go.Proofs.YtnnafnjdngjkoaaDoor.Jd
