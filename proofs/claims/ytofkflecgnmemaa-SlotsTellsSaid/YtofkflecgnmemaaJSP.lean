/- The plain law of slots: the reference's test of slots is the program's. No condition. -/
import Derived.Test.YtofkflecgnmemaaJSA
namespace Go.Proofs.Ytofkflecgnmemaa.Jd
set_option linter.unusedSimpArgs false
set_option linter.unusedVariables false
theorem getD_drop_cons {α : Type} [Inhabited α] {xs : List α} {i : Nat} (h : i < xs.length) : xs.drop i = xs.getD i default :: xs.drop (i + 1) := by
  rw [List.drop_eq_getElem_cons h]; simp [List.getD, h]
theorem l2_spec (s : List Int × List Bool × List Int) (f i2 i : Nat) : ∀ (n k : Nat), i - k < n → k ≤ i →
    (rRight_l2 s f i2 i n k = .ok i ∧ ∀ j, k ≤ j → j < i → s.2.2.getD j default ≠ s.2.2.getD i default) ∨ (rRight_l2 s f i2 i n k = .error false ∧ ∃ j, j < i ∧ s.2.2.getD j default = s.2.2.getD i default)
  | 0, k, h, _ => by omega
  | n + 1, k, h, hk => by
    simp only [rRight_l2]
    by_cases h1 : k < i
    · rw [if_pos (by omega)]
      by_cases h2 : s.2.2.getD k default = s.2.2.getD i default
      · rw [if_pos h2]; exact .inr ⟨rfl, k, h1, h2⟩
      · rw [if_neg h2]
        rcases l2_spec s f i2 i n (k + 1) (by omega) (by omega) with ⟨e, g⟩ | ⟨e, g⟩
        · refine .inl ⟨e, fun j hj hj2 => ?_⟩
          by_cases hjk : j = k
          · subst hjk; exact h2
          · exact g j (by omega) hj2
        · exact .inr ⟨e, g⟩
    · rw [if_neg (by omega)]
      obtain rfl : k = i := by omega
      exact .inl ⟨rfl, fun j hj hj2 => by omega⟩
def goodF (s : List Int × List Bool × List Int) (i : Nat) : Prop := 0 ≤ s.2.2.getD i default ∧ s.2.2.getD i default < s.1.length ∧ s.2.1.getD (s.2.2.getD i default).toNat default = false ∧ ∀ j, j < i → s.2.2.getD j default ≠ s.2.2.getD i default
theorem l1_spec (s : List Int × List Bool × List Int) (f i2 : Nat) : ∀ (n i : Nat), s.2.2.length - i < n → i ≤ s.2.2.length →
    (rRight_l1 s f i2 n i = .ok s.2.2.length ∧ ∀ j, i ≤ j → j < s.2.2.length → goodF s j) ∨ (rRight_l1 s f i2 n i = .error false ∧ ∃ j, j < s.2.2.length ∧ ¬ goodF s j)
  | 0, i, h, _ => by omega
  | n + 1, i, h, hi => by
    simp only [rRight_l1]
    by_cases h1 : i < s.2.2.length
    · rw [if_pos (by omega)]
      by_cases h2 : s.2.2.getD i default < 0
      · rw [if_pos h2]; exact .inr ⟨rfl, i, h1, fun g => by have := g.1; omega⟩
      rw [if_neg h2]
      by_cases h3 : (s.1.length : Int) ≤ s.2.2.getD i default
      · rw [if_pos h3]; exact .inr ⟨rfl, i, h1, fun g => by have := g.2.1; omega⟩
      rw [if_neg h3]
      by_cases h4 : s.2.1.getD (s.2.2.getD i default).toNat default = true
      · rw [if_pos h4]; exact .inr ⟨rfl, i, h1, fun g => by have := g.2.2.1; rw [h4] at this; cases this⟩
      rw [if_neg h4]
      rcases l2_spec s f i2 i (i + 1) 0 (by omega) (by omega) with ⟨e, g⟩ | ⟨e, j, g1, g2⟩
      · simp only [e, outc1]
        have hg : goodF s i := ⟨by omega, by omega, by simpa using h4, fun j hj => g j (by omega) hj⟩
        rcases l1_spec s f i2 n (i + 1) (by omega) (by omega) with ⟨e2, g2⟩ | ⟨e2, g2⟩
        · refine .inl ⟨e2, fun j hj hj2 => ?_⟩
          by_cases hji : j = i
          · subst hji; exact hg
          · exact g2 j (by omega) hj2
        · exact .inr ⟨e2, g2⟩
      · simp only [e, outc1]
        exact .inr ⟨trivial, i, h1, fun hh => hh.2.2.2 j g1 g2⟩
    · rw [if_neg (by omega)]
      obtain rfl : i = s.2.2.length := by omega
      exact .inl ⟨rfl, fun j hj hj2 => by omega⟩
theorem l0_spec (s : List Int × List Bool × List Int) (hl : s.2.1.length = s.1.length) : ∀ (n f i : Nat), s.1.length - i < n → i ≤ s.1.length →
    (rRight_l0 s n f i = .ok (f + (s.2.1.drop i).count false, s.1.length) ∧ ∀ j, i ≤ j → j < s.1.length → 0 ≤ s.1.getD j default ∧ s.1.getD j default ≤ 1000000000) ∨ (rRight_l0 s n f i = .error false ∧ ∃ j, j < s.1.length ∧ ¬ (0 ≤ s.1.getD j default ∧ s.1.getD j default ≤ 1000000000))
  | 0, f, i, h, _ => by omega
  | n + 1, f, i, h, hi => by
    simp only [rRight_l0]
    by_cases h1 : i < s.1.length
    · rw [if_pos (by omega)]
      by_cases h2 : s.1.getD i default < 0
      · rw [if_pos h2]; exact .inr ⟨rfl, i, h1, by omega⟩
      rw [if_neg h2]
      by_cases h3 : 1000000000 < s.1.getD i default
      · rw [if_pos h3]; exact .inr ⟨rfl, i, h1, by omega⟩
      rw [if_neg h3]
      have hd := getD_drop_cons (xs := s.2.1) (i := i) (by omega)
      have key : ∀ f', (f' + (s.2.1.drop (i + 1)).count false = f + (s.2.1.drop i).count false) → ((rRight_l0 s n f' (i + 1) = .ok (f + (s.2.1.drop i).count false, s.1.length) ∧ ∀ j, i ≤ j → j < s.1.length → 0 ≤ s.1.getD j default ∧ s.1.getD j default ≤ 1000000000) ∨ (rRight_l0 s n f' (i + 1) = .error false ∧ ∃ j, j < s.1.length ∧ ¬ (0 ≤ s.1.getD j default ∧ s.1.getD j default ≤ 1000000000))) := by
        intro f' hf
        rcases l0_spec s hl n f' (i + 1) (by omega) (by omega) with ⟨e, g⟩ | ⟨e, g⟩
        · refine .inl ⟨by rw [e, hf], fun j hj hj2 => ?_⟩
          by_cases hji : j = i
          · subst hji; omega
          · exact g j (by omega) hj2
        · exact .inr ⟨e, g⟩
      cases hb : s.2.1.getD i default
      · rw [if_pos (by simp)]
        exact key _ (by rw [hd, hb]; simp; omega)
      · rw [if_neg (by simp)]
        exact key _ (by rw [hd, hb]; simp)
    · rw [if_neg (by omega)]
      obtain rfl : i = s.1.length := by omega
      refine .inl ⟨?_, fun j hj hj2 => by omega⟩
      rw [List.drop_of_length_le (by omega)]; simp
theorem getD_lt_mem {α : Type} [Inhabited α] {xs : List α} {j : Nat} (h : j < xs.length) : xs.getD j default ∈ xs := by
  rw [getD_lt h]; exact List.getElem_mem h
theorem nodup_iff_getD {xs : List Int} : xs.Nodup ↔ ∀ i, i < xs.length → ∀ j, j < i → xs.getD j default ≠ xs.getD i default := by
  unfold List.Nodup
  rw [List.pairwise_iff_getElem]
  constructor
  · intro h i hi j hj
    rw [getD_lt hi, getD_lt (by omega)]
    exact h j i (by omega) hi hj
  · intro h i j hi hj hij
    have := h j hj i hij
    rwa [getD_lt hi, getD_lt hj] at this
theorem rRight_iff (s : List Int × List Bool × List Int) : rRight s = true ↔ (1 ≤ s.1.length ∧ s.1.length ≤ 64 ∧ s.2.1.length = s.1.length) ∧ (∀ j, j < s.1.length → 0 ≤ s.1.getD j default ∧ s.1.getD j default ≤ 1000000000) ∧ (∀ j, j < s.2.2.length → goodF s j) ∧ s.2.2.length = s.2.1.count false := by
  unfold rRight
  by_cases h1 : (s.1.length : Int) < 1
  · rw [if_pos h1]; simp only [Bool.false_eq_true, false_iff]; omega
  rw [if_neg h1]
  by_cases h2 : 64 < (s.1.length : Int)
  · rw [if_pos h2]; simp only [Bool.false_eq_true, false_iff]; omega
  rw [if_neg h2]
  by_cases h3 : (s.2.1.length : Int) = (s.1.length : Int)
  · rw [if_neg (by simpa using h3)]
    rcases l0_spec s (by omega) (s.1.length + 1) 0 0 (by omega) (by omega) with ⟨e, g⟩ | ⟨e, j, g1, g2⟩
    · simp only [e, outc2]
      rcases l1_spec s (0 + (s.2.1.drop 0).count false) s.1.length (s.2.2.length + 1) 0 (by omega) (by omega) with ⟨e2, k⟩ | ⟨e2, j, k1, k2⟩
      · rw [e2]
        simp only [outc1, decide_eq_true_eq, List.drop_zero]
        constructor
        · intro h
          exact ⟨by omega, fun j hj => g j (by omega) hj, fun j hj => k j (by omega) hj, by omega⟩
        · rintro ⟨_, _, _, h⟩; omega
      · rw [e2]
        simp only [outc1, Bool.false_eq_true, false_iff]
        rintro ⟨_, _, h, _⟩
        exact k2 (h j k1)
    · simp only [e, outc2, Bool.false_eq_true, false_iff]
      rintro ⟨_, h, _⟩
      exact g2 (h j g1)
  · rw [if_pos (by simpa using h3)]; simp only [Bool.false_eq_true, false_iff]; omega
theorem count_two (l : List Bool) : l.count true + l.count false = l.length := by
  induction l with
  | nil => rfl
  | cons a l ih => cases a <;> simp <;> omega
theorem rRight_eq (s : List Int × List Bool × List Int) : rRight s = rightB s.1 s.2.1 s.2.2 := by
  rw [Bool.eq_iff_iff, rRight_iff, rightB_iff]
  have hc := cntU_eq s.2.1
  have h2 := count_two s.2.1
  constructor
  · rintro ⟨h1, h3, h4, h5⟩
    refine ⟨h1, fun x hx => ?_, ⟨fun x hx => ?_, ?_⟩, by omega⟩
    · obtain ⟨j, hj, rfl⟩ := List.getElem_of_mem hx
      have := h3 j hj
      rwa [getD_lt hj] at this
    · obtain ⟨j, hj, rfl⟩ := List.getElem_of_mem hx
      have := h4 j hj
      unfold goodF at this
      rw [getD_lt hj] at this
      exact ⟨this.1, by omega, this.2.2.1⟩
    · exact nodup_iff_getD.2 fun i hi j hj => (h4 i hi).2.2.2 j hj
  · rintro ⟨h1, h3, ⟨h4, h5⟩, h6⟩
    refine ⟨h1, fun j hj => h3 _ (getD_lt_mem hj), fun j hj => ?_, by omega⟩
    obtain ⟨a, b, c⟩ := h4 _ (getD_lt_mem hj)
    exact ⟨a, by omega, c, nodup_iff_getD.1 h5 j hj⟩
theorem rRight_t {s : List Int × List Bool × List Int} (h : rRight s = true) : 1 ≤ s.1.length ∧ s.1.length ≤ 64 ∧ s.2.1.length = s.1.length ∧ s.2.2.length ≤ 64 ∧ (s.2.2.length ≠ 0 → 0 ≤ s.2.2.getD ((s.2.2.length : Int) - 1).toNat default ∧ s.2.2.getD ((s.2.2.length : Int) - 1).toNat default < s.1.length ∧ 0 ≤ s.1.getD (s.2.2.getD ((s.2.2.length : Int) - 1).toNat default).toNat default ∧ s.1.getD (s.2.2.getD ((s.2.2.length : Int) - 1).toNat default).toNat default ≤ 1000000000) := by
  have h0 := (rRight_iff s).1 h
  rw [rRight_eq] at h
  have hc := count_two s.2.1
  refine ⟨h0.1.1, h0.1.2.1, h0.1.2.2, by omega, fun hn => ?_⟩
  obtain ⟨a, b, _, c, d⟩ := right_last h hn
  exact ⟨a, b, c, d⟩
end Go.Proofs.Ytofkflecgnmemaa.Jd
