/- The laws of addresses, in plain numbers. No condition. -/
import Derived.Test.YtnnafnjdngjkoaaDoorJPB
namespace Go.Proofs.YtnnafnjdngjkoaaDoor.Jd
set_option linter.unusedVariables false
set_option linter.unusedSimpArgs false
theorem isAddr_iff {a : Int} : isAddr a = true ↔ 0 ≤ a ∧ a ≤ 4294967295 := by
  refine ⟨isAddr_t, fun h => ?_⟩
  unfold isAddr
  rw [if_pos h.1]; simpa using h.2
theorem isAddr_eq : isAddr = rIsAddr := rfl
theorem rSize_at {b : Int} (h : 0 ≤ b ∧ b ≤ 32) : ∃ k : Nat, k ≤ 32 ∧ b = 32 - (k : Int) ∧ rSize b = 2 ^ k := by
  refine ⟨(32 - b).toNat, by omega, by omega, rSize_pow h⟩
/-- A right prefix, in numbers. -/
def Good (p : Prefix) : Prop := (0 ≤ p.bits ∧ p.bits ≤ 32) ∧ (0 ≤ p.addr ∧ p.addr ≤ 4294967295) ∧ p.addr % rSize p.bits = 0
theorem rRight_iff {p : Prefix} : rRight p = true ↔ Good p := by
  unfold Good
  constructor
  · intro h
    obtain ⟨h1, h2, h3, h4⟩ := rRight_t h
    refine ⟨⟨h1, h2⟩, ⟨h3, h4⟩, ?_⟩
    unfold rRight at h
    rw [if_pos h1, if_pos h2, if_pos (by rw [← isAddr_eq]; exact isAddr_iff.2 ⟨h3, h4⟩)] at h
    simpa using h
  · rintro ⟨⟨h1, h2⟩, h3, h4⟩
    unfold rRight
    rw [if_pos h1, if_pos h2, if_pos (by rw [← isAddr_eq]; exact isAddr_iff.2 h3)]
    simpa using h4
theorem aRest_eq (p : Prefix) : aRest p = rSize p.bits - 1 := rfl
theorem aEven_iff {p : Prefix} (hb : 0 ≤ p.bits ∧ p.bits ≤ 32) (ha : 0 ≤ p.addr ∧ p.addr ≤ 4294967295) : aEven p = true ↔ p.addr % rSize p.bits = 0 := by
  obtain ⟨k, hk, _, hs⟩ := rSize_at hb
  unfold aEven
  rw [aRest_eq, hs]
  obtain ⟨m, hm⟩ : ∃ m : Nat, p.addr = (m : Int) := ⟨p.addr.toNat, by omega⟩
  rw [hm, and_mask (by omega) hk]
  simp
theorem aShort_iff {p : Prefix} : aShort p = true ↔ (0 ≤ p.bits ∧ p.bits ≤ 32) ∧ (0 ≤ p.addr ∧ p.addr ≤ 4294967295) := by
  constructor
  · intro h; have := aShort_t h; omega
  · rintro ⟨⟨h1, h2⟩, h3⟩
    unfold aShort
    rw [if_pos h1, if_pos h2]; exact isAddr_iff.2 h3
theorem aRight_iff {p : Prefix} : aRight p = true ↔ Good p := by
  unfold Good
  constructor
  · intro h
    have hs : aShort p = true := by
      unfold aRight at h
      cases hs : aShort p
      · simp [hs] at h
      · rfl
    have hb := aShort_iff.1 hs
    refine ⟨hb.1, hb.2, (aEven_iff hb.1 hb.2).1 ?_⟩
    unfold aRight at h
    cases he : aEven p
    · simp [hs, he] at h
    · rfl
  · rintro ⟨h1, h2, h3⟩
    unfold aRight
    rw [aShort_iff.2 ⟨h1, h2⟩, (aEven_iff h1 h2).2 h3]; simp
theorem aRight_eq (p : Prefix) : aRight p = rRight p := by rw [Bool.eq_iff_iff, aRight_iff, rRight_iff]
theorem Good.size {p : Prefix} (h : Good p) : 1 ≤ rSize p.bits ∧ rSize p.bits ≤ 4294967296 := rSize_bd h.1
/-- Right prefixes end in time. -/
theorem dvd_size {b c : Int} (hb : 0 ≤ b) (hbc : b ≤ c) (hc : c ≤ 32) : rSize c ∣ rSize b := by
  rw [rSize_pow ⟨hb, by omega⟩, rSize_pow ⟨by omega, hc⟩]
  obtain ⟨d, hd⟩ : ∃ d : Nat, (32 - b).toNat = (32 - c).toNat + d := ⟨(32 - b).toNat - (32 - c).toNat, by omega⟩
  rw [hd, Int.pow_add]
  exact Int.dvd_mul_right _ _
theorem size0 : rSize 0 = 4294967296 := by rw [rSize_pow (by omega)]; rfl
theorem mult_lt {S x y : Int} (hS : 0 < S) (hx : S ∣ x) (hy : S ∣ y) (h : x < y) : x + S ≤ y := by
  obtain ⟨m, rfl⟩ := hx
  obtain ⟨n, rfl⟩ := hy
  have h1 : m < n := Int.lt_of_mul_lt_mul_left h (by omega)
  have h2 : S * (m + 1) ≤ S * n := Int.mul_le_mul_of_nonneg_left (by omega) (by omega)
  rw [Int.mul_add, Int.mul_one] at h2
  exact h2
theorem Good.dvd {p : Prefix} (h : Good p) : rSize p.bits ∣ p.addr := Int.dvd_of_emod_eq_zero h.2.2
theorem Good.top {p : Prefix} (h : Good p) : p.addr + rSize p.bits ≤ 4294967296 := by
  have hS := h.size
  have hd : rSize p.bits ∣ 4294967296 := by rw [← size0]; exact dvd_size (by omega) h.1.1 h.1.2
  exact mult_lt (by omega) h.dvd hd (by have := h.2.1; omega)
theorem emod_at {S a x : Int} (hS : 0 < S) (hx : S ∣ x) : a - a % S = x ↔ x ≤ a ∧ a < x + S := by
  have h1 := Int.emod_nonneg a (show S ≠ 0 by omega)
  have h2 := Int.emod_lt_of_pos a hS
  constructor
  · intro h; omega
  · rintro ⟨h3, h4⟩
    obtain ⟨q, rfl⟩ := hx
    have := (Int.ediv_emod_unique (a := a) (r := a - S * q) (q := q) hS).2 ⟨by omega, by omega, by omega⟩
    omega
theorem rHas_iff {p : Prefix} {a : Int} : rHas p a = true ↔ Good p ∧ (0 ≤ a ∧ a ≤ 4294967295) ∧ p.addr ≤ a ∧ a < p.addr + rSize p.bits := by
  constructor
  · intro h
    unfold rHas at h
    split at h
    · rename_i h1
      split at h
      · rename_i h2
        split at h
        · rename_i h3
          exact ⟨rRight_iff.1 h1, rIsAddr_t h2, h3, by simpa using h⟩
        · cases h
      · cases h
    · cases h
  · rintro ⟨h1, h2, h3, h4⟩
    unfold rHas
    rw [if_pos (rRight_iff.2 h1), if_pos (by rw [← isAddr_eq]; exact isAddr_iff.2 h2), if_pos h3]
    simpa using h4
theorem aHas_iff {p : Prefix} {a : Int} : aHas p a = true ↔ Good p ∧ (0 ≤ a ∧ a ≤ 4294967295) ∧ p.addr ≤ a ∧ a < p.addr + rSize p.bits := by
  have key : ∀ (h1 : Good p) (h2 : 0 ≤ a ∧ a ≤ 4294967295), decide (andNotI .i64 a (aRest p) = p.addr) = true ↔ p.addr ≤ a ∧ a < p.addr + rSize p.bits := by
    intro h1 h2
    obtain ⟨k, hk, _, hs⟩ := rSize_at h1.1
    obtain ⟨m, hm⟩ : ∃ m : Nat, a = (m : Int) := ⟨a.toNat, by omega⟩
    have hS := h1.size
    rw [decide_eq_true_eq, aRest_eq, ← emod_at (by omega) h1.dvd, hs, hm, andNot_mask (by omega) hk]
  constructor
  · intro h
    unfold aHas at h
    split at h
    · rename_i h1
      split at h
      · rename_i h2
        exact ⟨aRight_iff.1 h1, isAddr_t h2, (key (aRight_iff.1 h1) (isAddr_t h2)).1 h⟩
      · cases h
    · cases h
  · rintro ⟨h1, h2, h3⟩
    unfold aHas
    rw [if_pos (aRight_iff.2 h1), if_pos (isAddr_iff.2 h2)]
    exact (key h1 h2).2 h3
theorem aHas_eq (p : Prefix) (a : Int) : aHas p a = rHas p a := by rw [Bool.eq_iff_iff, aHas_iff, rHas_iff]
theorem aEnds_eq (p : Prefix) : aEnds p = rEnds p := by
  unfold aEnds rEnds
  rw [aRight_eq]
  split
  · rfl
  · rename_i h
    have h1 : Good p := rRight_iff.1 (by simpa using h)
    obtain ⟨k, hk, _, hs⟩ := rSize_at h1.1
    obtain ⟨m, hm⟩ : ∃ m : Nat, p.addr = (m : Int) := ⟨p.addr.toNat, by have := h1.2.1; omega⟩
    have h2 := h1.2.2
    have h3 := h1.2.1
    rw [aRest_eq, hs, hm, or_mask (by omega) hk]
    rw [hs, hm] at h2
    exact_mod_cast h2
theorem aEnds_good {p : Prefix} (h : Good p) : aEnds p = (p.addr, p.addr + rSize p.bits - 1, 0) := by
  rw [aEnds_eq]; unfold rEnds; rw [rRight_iff.2 h]; simp
theorem aEnds_bad {p : Prefix} (h : ¬ Good p) : aEnds p = (0, 0, 61) := by
  unfold aEnds
  have : aRight p = false := by
    cases hr : aRight p
    · rfl
    · exact absurd (aRight_iff.1 hr) h
  rw [this]; simp
theorem aEnds_bd (p : Prefix) : (0 ≤ (aEnds p).1 ∧ (aEnds p).1 ≤ 4294967295) ∧ (0 ≤ (aEnds p).2.1 ∧ (aEnds p).2.1 ≤ 4294967295) := by
  by_cases h : Good p
  · rw [aEnds_good h]
    have h1 := h.top
    have h2 := h.size
    have h3 := h.2.1
    refine ⟨h3, ?_⟩
    show 0 ≤ p.addr + rSize p.bits - 1 ∧ p.addr + rSize p.bits - 1 ≤ 4294967295
    omega
  · rw [aEnds_bad h]; simp
theorem aOf_eq (a n : Int) : aOf a n = rOf a n := by
  unfold aOf rOf
  rw [← isAddr_eq]
  split
  · rfl
  · rename_i h
    have ha : 0 ≤ a ∧ a ≤ 4294967295 := isAddr_iff.1 (by simpa using h)
    split
    · rfl
    · split
      · rfl
      · rename_i h1 h2
        obtain ⟨k, hk, _, hs⟩ := rSize_at (b := n) (by omega)
        obtain ⟨m, hm⟩ : ∃ m : Nat, a = (m : Int) := ⟨a.toNat, by omega⟩
        rw [aRest_eq]
        simp only
        rw [hs, hm, andNot_mask (by omega) hk]
theorem rIn_iff {p q : Prefix} : rIn p q = true ↔ Good p ∧ Good q ∧ q.bits ≤ p.bits ∧ q.addr ≤ p.addr ∧ p.addr < q.addr + rSize q.bits := by
  constructor
  · intro h
    unfold rIn at h
    split at h
    · rename_i h1
      split at h
      · rename_i h2
        split at h
        · rename_i h3
          have h4 := rHas_iff.1 h
          exact ⟨rRight_iff.1 h1, rRight_iff.1 h2, h3, h4.2.2⟩
        · cases h
      · cases h
    · cases h
  · rintro ⟨h1, h2, h3, h4⟩
    unfold rIn
    rw [if_pos (rRight_iff.2 h1), if_pos (rRight_iff.2 h2), if_pos h3]
    exact rHas_iff.2 ⟨h2, h1.2.1, h4⟩
theorem pref_ext {p q : Prefix} (h1 : p.addr = q.addr) (h2 : p.bits = q.bits) : p = q := by cases p; cases q; simp_all
theorem aIn_iff {p q : Prefix} : aIn p q = true ↔ Good p ∧ Good q ∧ q.bits ≤ p.bits ∧ q.addr ≤ p.addr ∧ p.addr < q.addr + rSize q.bits := by
  unfold aIn
  constructor
  · intro h
    split at h
    · rename_i hpq
      have hpq' : p = q := pref_ext hpq.1 hpq.2
      have hg : Good p := by
        split at h
        · exact aRight_iff.1 ‹_›
        · cases h
      subst hpq'
      have := hg.size
      exact ⟨hg, hg, Int.le_refl _, Int.le_refl _, by omega⟩
    · split at h
      · rename_i hr
        split at h
        · have h4 := aHas_iff.1 h
          exact ⟨aRight_iff.1 hr, h4.1, by omega, h4.2.2⟩
        · cases h
      · cases h
  · rintro ⟨h1, h2, h3, h4, h5⟩
    have hr := aRight_iff.2 h1
    split
    · rfl
    · rename_i hpq
      have hlt : q.bits < p.bits := by
        rcases Int.lt_or_eq_of_le h3 with h | h
        · exact h
        · refine absurd ⟨?_, h.symm⟩ hpq
          have hS := h2.size
          rcases Int.lt_or_eq_of_le h4 with h6 | h6
          · have := mult_lt (by omega) h2.dvd (by rw [h]; exact h1.dvd) h6
            omega
          · exact h6.symm
      rw [if_pos hlt]
      exact aHas_iff.2 ⟨h2, h1.2.1, h4, h5⟩
theorem aIn_eq (p q : Prefix) : aIn p q = rIn p q := by rw [Bool.eq_iff_iff, aIn_iff, rIn_iff]
theorem aPrintPrefix_len (p : Prefix) : (aPrintPrefix p).1.length ≤ 120 := by
  unfold aPrintPrefix
  split
  · simp
  · rename_i h
    have h1 : Good p := aRight_iff.1 (by simpa using h)
    have h2 := aPrint_len p.addr
    have h3 := itoa_len (n := p.bits) (by have := h1.1; omega)
    simp only [List.length_append, List.length_cons, List.length_nil]
    omega
/-! ### evaluation -/
def decF : Nat → Nat → Str
  | 0, _ => []
  | f + 1, u => if u < 10 then [UInt8.ofNat (48 + u)] else decF f (u / 10) ++ [UInt8.ofNat (48 + u % 10)]
theorem decF_eq : ∀ (f u : Nat), u < f → decF f u = Lib.decDigits u
  | 0, u, h => by omega
  | f + 1, u, h => by
    rw [Lib.decDigits]
    unfold decF
    split
    · rfl
    · rw [decF_eq f (u / 10) (by omega)]
def itoaF (n : Int) : Str := if n < 0 then 45 :: decF (n.natAbs + 1) n.natAbs else decF (n.toNat + 1) n.toNat
theorem itoaF_eq : Lib.itoa = itoaF := by
  funext n
  unfold Lib.itoa itoaF
  rw [decF_eq _ _ (by omega), decF_eq _ _ (by omega)]
def aNumberF (t : Str) (most : Int) : Int × Bool := outc2 (aNumber_l0 t most (t.length + 1) 0 0) (fun r => r) (fun a _ => if a ≤ most then (a, decide (itoaF a = t)) else (a, false))
theorem aNumberF_eq : aNumber = aNumberF := by
  funext t most
  unfold aNumber aNumberF
  rw [itoaF_eq]
end Go.Proofs.YtnnafnjdngjkoaaDoor.Jd
