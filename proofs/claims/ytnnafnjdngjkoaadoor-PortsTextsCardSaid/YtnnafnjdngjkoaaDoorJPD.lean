/- The laws of addresses hold. No condition. -/
import Derived.Test.YtnnafnjdngjkoaaDoorJPC
namespace Go.Proofs.YtnnafnjdngjkoaaDoor.Jd
set_option linter.unusedVariables false
set_option linter.unusedSimpArgs false
theorem e1 : aParsePrefix [49, 48, 46, 49, 46, 48, 46, 48, 47, 49, 54] = (⟨167837696, 16⟩, 0) := by unfold aParsePrefix aParse; rw [aNumberF_eq]; kernel_rfl
theorem e2 : aParse [49, 48, 46, 49, 46, 50, 46, 51] = (167838211, 0) := by unfold aParse; rw [aNumberF_eq]; kernel_rfl
theorem e3 : aParse [49, 48, 46, 50, 46, 48, 46, 48] = (167903232, 0) := by unfold aParse; rw [aNumberF_eq]; kernel_rfl
theorem e4 : aPrint 167903231 = ([49, 48, 46, 49, 46, 50, 53, 53, 46, 50, 53, 53], 0) := by unfold aPrint; rw [itoaF_eq]; kernel_rfl
theorem e5 : aParse [49, 46, 50, 46, 51, 46, 48, 52] = (0, 60) := by unfold aParse; rw [aNumberF_eq]; kernel_rfl
theorem e6 : aParsePrefix [49, 48, 46, 49, 46, 48, 46, 49, 47, 49, 54] = (⟨0, 0⟩, 61) := by unfold aParsePrefix aParse; rw [aNumberF_eq]; kernel_rfl
theorem aShown_true : aShown = true := by
  unfold aShown
  simp only [e1, e2, e3, e5, e6]
  have h1 : aHas ⟨167837696, 16⟩ 167838211 = true := by kernel_rfl
  have h2 : aHas ⟨167837696, 16⟩ 167903232 = false := by kernel_rfl
  have h3 : aEnds ⟨167837696, 16⟩ = (167837696, 167903231, 0) := by kernel_rfl
  simp [h1, h2, h3, e4]
theorem lAddrHas_true (p q : Prefix) (a bits : Int) : lAddrHas p q a bits = true := by
  unfold lAddrHas
  simp [aShown_true, aHas_eq, aIn_eq, aEnds_eq, aOf_eq]
/-! ### ends, nested, of, splits: in numbers -/
theorem bool_not {b : Bool} (h : ¬ b = true) : b = false := by cases b <;> simp_all
theorem lAddrEnds_true (p : Prefix) (a : Int) : lAddrEnds p a = true := by
  unfold lAddrEnds
  rw [aShown_true]
  by_cases hg : Good p
  · rw [aEnds_good hg]
    have hS := hg.size
    have hT := hg.top
    have hA := hg.2.1
    have h1 : aHas p p.addr = true := aHas_iff.2 ⟨hg, hA, by omega, by omega⟩
    have h2 : aHas p (p.addr + rSize p.bits - 1) = true := aHas_iff.2 ⟨hg, by omega, by omega, by omega⟩
    have h3 : aHas p (p.addr - 1) = false := bool_not fun h => by have := (aHas_iff.1 h).2.2; omega
    have h4 : aHas p (p.addr + rSize p.bits - 1 + 1) = false := bool_not fun h => by have := (aHas_iff.1 h).2.2; omega
    have h5 : p.addr ≤ p.addr + rSize p.bits - 1 := by omega
    simp only [h1, h2, h3, h4, h5]
    simp only [ne_eq, not_true_eq_false, if_false, if_true, Bool.not_false, reduceIte]
    by_cases h6 : p.addr ≤ a
    · by_cases h7 : a ≤ p.addr + rSize p.bits - 1
      · have h8 : aHas p a = true := aHas_iff.2 ⟨hg, by omega, by omega, by omega⟩
        simp [h6, h7, h8]
      · have h8 : aHas p a = false := bool_not fun h => by have := (aHas_iff.1 h).2.2; omega
        simp [h6, h7, h8]
    · have h8 : aHas p a = false := bool_not fun h => by have := (aHas_iff.1 h).2.2; omega
      simp [h6, h8]
  · rw [aEnds_bad hg]
    have h1 : aHas p a = false := bool_not fun h => hg (aHas_iff.1 h).1
    have h2 : aRight p = false := bool_not fun h => hg (aRight_iff.1 h)
    simp [h1, h2]
theorem in_has {p q : Prefix} {a : Int} (h : aIn p q = true) (ha : aHas p a = true) : aHas q a = true := by
  obtain ⟨hp, hq, hb, h1, h2⟩ := aIn_iff.1 h
  obtain ⟨_, ha0, h3, h4⟩ := aHas_iff.1 ha
  have hd : rSize p.bits ∣ rSize q.bits := dvd_size hq.1.1 hb hp.1.2
  have hSp := hp.size
  have h5 : rSize p.bits ∣ q.addr + rSize q.bits := Int.dvd_add (Int.dvd_trans hd hq.dvd) hd
  have := mult_lt (by omega) hp.dvd h5 h2
  exact aHas_iff.2 ⟨hq, ha0, by omega, by omega⟩
theorem in_of_has {p q : Prefix} {a : Int} (hb : q.bits ≤ p.bits) (ha : aHas p a = true) (hc : aHas q a = true) : aIn p q = true := by
  obtain ⟨hp, ha0, h3, h4⟩ := aHas_iff.1 ha
  obtain ⟨hq, _, h5, h6⟩ := aHas_iff.1 hc
  have hd : rSize p.bits ∣ rSize q.bits := dvd_size hq.1.1 hb hp.1.2
  have hSp := hp.size
  refine aIn_iff.2 ⟨hp, hq, hb, ?_, by omega⟩
  rcases Int.lt_or_le p.addr q.addr with h | h
  · have := mult_lt (by omega) hp.dvd (Int.dvd_trans hd hq.dvd) h
    omega
  · exact h
theorem in_anti {p q : Prefix} (h1 : aIn p q = true) (h2 : aIn q p = true) : p.addr = q.addr ∧ p.bits = q.bits := by
  obtain ⟨hp, hq, hb, h3, h4⟩ := aIn_iff.1 h1
  obtain ⟨_, _, hb', h5, h6⟩ := aIn_iff.1 h2
  omega
theorem in_self {p : Prefix} (h : aRight p = true) : aIn p p = true := by
  have hg := aRight_iff.1 h
  have := hg.size
  exact aIn_iff.2 ⟨hg, hg, by omega, by omega, by omega⟩
theorem lAddrNested_true (p q : Prefix) (a : Int) : lAddrNested p q a = true := by
  unfold lAddrNested
  rw [aShown_true]
  have n1 : aRight p = false → aIn p q = false := fun h => bool_not fun h2 => by have := aRight_iff.2 (aIn_iff.1 h2).1; rw [h] at this; cases this
  have n2 : aRight p = false → aIn q p = false := fun h => bool_not fun h2 => by have := aRight_iff.2 (aIn_iff.1 h2).2.1; rw [h] at this; cases this
  have n3 : aRight q = false → aIn p q = false := fun h => bool_not fun h2 => by have := aRight_iff.2 (aIn_iff.1 h2).2.1; rw [h] at this; cases this
  have n4 : aRight q = false → aIn q p = false := fun h => bool_not fun h2 => by have := aRight_iff.2 (aIn_iff.1 h2).1; rw [h] at this; cases this
  have n5 : aIn p q = true → aHas p a = true → aHas q a = true := in_has
  have n6 : aHas p a = true → aHas q a = true → aIn p q = true ∨ aIn q p = true := fun h1 h2 => by
    rcases Int.le_total q.bits p.bits with h | h
    · exact .inl (in_of_has h h1 h2)
    · exact .inr (in_of_has h h2 h1)
  have n7 : aIn p q = true → aIn q p = true → (p.addr = q.addr ∧ p.bits = q.bits) := in_anti
  have n8 : aRight p = true → (p.addr = q.addr ∧ p.bits = q.bits) → aIn p q = true ∧ aIn q p = true := fun h e => by
    have := pref_ext e.1 e.2
    subst this
    exact ⟨in_self h, in_self h⟩
  cases hr : aRight p
  · simp [n1 hr, n2 hr]
  · cases hr2 : aRight q
    · simp [n3 hr2, n4 hr2]
    · cases h1 : aHas p a <;> cases h2 : aHas q a <;> cases h3 : aIn p q <;> cases h4 : aIn q p <;> by_cases hx : p.addr = q.addr <;> simp_all
theorem aOf_good {a n : Int} (ha : 0 ≤ a ∧ a ≤ 4294967295) (hn : 0 ≤ n ∧ n ≤ 32) : aOf a n = (⟨a - a % rSize n, n⟩, 0) := by
  rw [aOf_eq]; unfold rOf
  have : rIsAddr a = true := by rw [← isAddr_eq]; exact isAddr_iff.2 ha
  rw [this]
  simp only [Bool.not_true, Bool.false_eq_true, if_false]
  rw [if_neg (by omega), if_neg (by omega)]
theorem aOf_bad {a n : Int} (h : ¬ ((0 ≤ a ∧ a ≤ 4294967295) ∧ (0 ≤ n ∧ n ≤ 32))) : (aOf a n).1 = ⟨0, 0⟩ ∧ (aOf a n).2 ≠ 0 := by
  rw [aOf_eq]; unfold rOf
  split
  · exact ⟨rfl, by decide⟩
  · rename_i hi
    have ha : 0 ≤ a ∧ a ≤ 4294967295 := isAddr_iff.1 (by rw [isAddr_eq]; simpa using hi)
    split
    · exact ⟨rfl, by decide⟩
    · split
      · exact ⟨rfl, by decide⟩
      · exact absurd ⟨ha, by omega⟩ h
theorem of_good {a n : Int} (ha : 0 ≤ a ∧ a ≤ 4294967295) (hn : 0 ≤ n ∧ n ≤ 32) : Good ⟨a - a % rSize n, n⟩ := by
  have hS := rSize_bd hn
  have h1 := Int.emod_nonneg a (show rSize n ≠ 0 by omega)
  have h2 := Int.emod_lt_of_pos a (show 0 < rSize n by omega)
  have h3 : a % rSize n ≤ a := by
    rcases Int.lt_or_le a (rSize n) with h | h
    · rw [Int.emod_eq_of_lt ha.1 h]; omega
    · omega
  refine ⟨hn, by simp only; omega, ?_⟩
  simp only
  rw [Int.sub_emod, Int.emod_emod_of_dvd a (Int.dvd_refl _), Int.sub_self]
  simp
theorem of_has {a n : Int} (ha : 0 ≤ a ∧ a ≤ 4294967295) (hn : 0 ≤ n ∧ n ≤ 32) : aHas ⟨a - a % rSize n, n⟩ a = true := by
  have hS := rSize_bd hn
  have h1 := Int.emod_nonneg a (show rSize n ≠ 0 by omega)
  have h2 := Int.emod_lt_of_pos a (show 0 < rSize n by omega)
  exact aHas_iff.2 ⟨of_good ha hn, ha, by simp only; omega, by simp only; omega⟩
theorem lAddrOf_true (a bits less : Int) : lAddrOf a bits less = true := by
  unfold lAddrOf
  rw [aShown_true]
  by_cases ha : 0 ≤ a ∧ a ≤ 4294967295
  · by_cases hb : 0 ≤ bits ∧ bits ≤ 32
    · rw [aOf_good ha hb]
      have h1 := of_has ha hb
      have h2 : aRight ⟨a - a % rSize bits, bits⟩ = true := aRight_iff.2 (of_good ha hb)
      simp only [ne_eq, not_true_eq_false, if_false, reduceIte, h1, h2]
      by_cases hl : 0 ≤ less ∧ less ≤ 32
      · rw [aOf_good ha hl]
        simp only [not_true_eq_false, if_false]
        split
        · rfl
        · exact in_of_has (by simp only; omega) h1 (of_has ha hl)
      · have := aOf_bad (a := a) (n := less) (fun h => hl h.2)
        simp [this.2]
    · have hbd := aOf_bad (a := a) (n := bits) (fun h => hb h.2)
      rw [hbd.1]
      simp only [ne_eq, hbd.2, not_false_eq_true, if_true, and_self, reduceIte]
      by_cases hl : 0 ≤ less ∧ less ≤ 32
      · rw [aOf_good ha hl]
        simp [of_has ha hl]
      · have := aOf_bad (a := a) (n := less) (fun h => hl h.2)
        simp [this.2]
  · have hbd := aOf_bad (a := a) (n := bits) (fun h => ha h.1)
    have hl := aOf_bad (a := a) (n := less) (fun h => ha h.1)
    rw [hbd.1]
    simp [hbd.2, hl.2]
theorem half_size {b : Int} (h : 0 ≤ b ∧ b < 32) : rSize b = 2 * rSize (b + 1) := by
  rw [rSize_pow (by omega), rSize_pow (by omega), show (32 - b).toNat = (32 - (b + 1)).toNat + 1 by omega, Int.pow_succ]
  omega
theorem lAddrSplits_true (p : Prefix) (a : Int) : lAddrSplits p a = true := by
  unfold lAddrSplits
  rw [aShown_true]
  by_cases hg : Good p
  · rw [aEnds_good hg]
    have hS := hg.size
    have hT := hg.top
    have hA := hg.2.1
    simp only [ne_eq, not_true_eq_false, if_false, reduceIte]
    split
    · have h32 : p.bits = 32 := by have := hg.1; omega
      have : rSize p.bits = 1 := by rw [h32]; rfl
      rw [this]; simp
    · rename_i hb
      have hb' : 0 ≤ p.bits + 1 ∧ p.bits + 1 ≤ 32 := by have := hg.1; omega
      have hh := half_size (b := p.bits) (by have := hg.1; omega)
      have hS' := rSize_bd hb'
      have hd : rSize (p.bits + 1) ∣ p.addr := Int.dvd_trans (by rw [hh]; exact Int.dvd_mul_left _ _) hg.dvd
      have hm1 : p.addr % rSize (p.bits + 1) = 0 := Int.emod_eq_zero_of_dvd hd
      have hm2 : (p.addr + rSize p.bits - 1) - (p.addr + rSize p.bits - 1) % rSize (p.bits + 1) = p.addr + rSize (p.bits + 1) := (emod_at (by omega) (Int.dvd_add hd (Int.dvd_refl _))).2 ⟨by omega, by omega⟩
      rw [aOf_good (a := p.addr) (by omega) hb', aOf_good (a := p.addr + rSize p.bits - 1) (by omega) hb', hm1, hm2]
      have hgl : Good ⟨p.addr, p.bits + 1⟩ := ⟨hb', hA, hm1⟩
      have hgr : Good ⟨p.addr + rSize (p.bits + 1), p.bits + 1⟩ := ⟨hb', by simp only; omega, Int.emod_eq_zero_of_dvd (Int.dvd_add hd (Int.dvd_refl _))⟩
      have i1 : aIn ⟨p.addr, p.bits + 1⟩ p = true := aIn_iff.2 ⟨hgl, hg, by simp only; omega, by simp only; omega, by simp only; omega⟩
      have i2 : aIn ⟨p.addr + rSize (p.bits + 1), p.bits + 1⟩ p = true := aIn_iff.2 ⟨hgr, hg, by simp only; omega, by simp only; omega, by simp only; omega⟩
      have c0 : aHas p a = true ↔ (0 ≤ a ∧ a ≤ 4294967295) ∧ p.addr ≤ a ∧ a < p.addr + rSize p.bits := ⟨fun h => (aHas_iff.1 h).2, fun h => aHas_iff.2 ⟨hg, h⟩⟩
      have c1 : aHas ⟨p.addr, p.bits + 1⟩ a = true ↔ (0 ≤ a ∧ a ≤ 4294967295) ∧ p.addr ≤ a ∧ a < p.addr + rSize (p.bits + 1) := ⟨fun h => (aHas_iff.1 h).2, fun h => aHas_iff.2 ⟨hgl, h⟩⟩
      have c2 : aHas ⟨p.addr + rSize (p.bits + 1), p.bits + 1⟩ a = true ↔ (0 ≤ a ∧ a ≤ 4294967295) ∧ p.addr + rSize (p.bits + 1) ≤ a ∧ a < p.addr + rSize (p.bits + 1) + rSize (p.bits + 1) := ⟨fun h => (aHas_iff.1 h).2, fun h => aHas_iff.2 ⟨hgr, h⟩⟩
      have hne : ¬ (p.addr = p.addr + rSize (p.bits + 1) ∧ p.bits + 1 = p.bits + 1) := by omega
      simp only [Int.sub_zero, i1, i2, hne, not_false_eq_true, reduceIte, if_true]
      cases k1 : aHas ⟨p.addr, p.bits + 1⟩ a <;> cases k2 : aHas ⟨p.addr + rSize (p.bits + 1), p.bits + 1⟩ a <;> cases k0 : aHas p a <;> rw [k0] at c0 <;> rw [k1] at c1 <;> rw [k2] at c2 <;> simp at c0 c1 c2 ⊢ <;> omega
  · rw [aEnds_bad hg]; simp
end Go.Proofs.YtnnafnjdngjkoaaDoor.Jd
