/- The plain laws of slots: the reference and the program answer alike. No condition. -/
import Derived.Test.YtofkflecgnmemaaJSC
import Derived.Test.YtofkflecgnmemaaJSP
namespace Go.Proofs.Ytofkflecgnmemaa.Jd
set_option linter.unusedVariables false
set_option linter.unusedSimpArgs false
theorem getD_ext {α : Type} [Inhabited α] {a b : List α} (h : a.length = b.length) (h2 : ∀ j, j < a.length → a.getD j default = b.getD j default) : a = b := by
  refine List.ext_getElem h fun j h3 h4 => ?_
  have := h2 j h3
  rwa [getD_lt h3, getD_lt h4] at this
/-- A loop that holds two lists against each other. -/
theorem cmp_spec {α : Type} [Inhabited α] (a b : List α) (l : Nat → Nat → Except Bool Nat) (h0 : ∀ n k, a.length ≤ k → l (n + 1) k = .ok k) (h1 : ∀ n k, k < a.length → a.getD k default = b.getD k default → l (n + 1) k = l n (k + 1)) (h2 : ∀ n k, k < a.length → a.getD k default ≠ b.getD k default → l (n + 1) k = .error false) (hl : a.length = b.length) :
    ∀ n k, a.length - k < n → k ≤ a.length → (l n k = .ok a.length ∧ ∀ j, k ≤ j → j < a.length → a.getD j default = b.getD j default) ∨ (l n k = .error false ∧ a ≠ b)
  | 0, k, h, _ => by omega
  | n + 1, k, h, hk => by
    by_cases c1 : k < a.length
    · by_cases c2 : a.getD k default = b.getD k default
      · rw [h1 n k c1 c2]
        rcases cmp_spec a b l h0 h1 h2 hl n (k + 1) (by omega) (by omega) with ⟨e, g⟩ | ⟨e, g⟩
        · refine .inl ⟨e, fun j hj hj2 => ?_⟩
          by_cases hjk : j = k
          · subst hjk; exact c2
          · exact g j (by omega) hj2
        · exact .inr ⟨e, g⟩
      · exact .inr ⟨h2 n k c1 c2, fun e => c2 (by rw [e])⟩
    · obtain rfl : k = a.length := by omega
      exact .inl ⟨h0 n _ (Nat.le_refl _), fun j hj hj2 => by omega⟩
theorem eqI_iff (a b : List Int) : eqI a b = true ↔ a = b := by
  unfold eqI
  by_cases hl : a.length = b.length
  · rw [if_neg (by omega)]
    rcases cmp_spec a b (eqI_l0 a b) (fun n k h => by simp only [eqI_l0]; rw [if_neg (by omega)]) (fun n k h e => by simp only [eqI_l0]; rw [if_pos (by omega), if_neg (by simpa using e)]) (fun n k h e => by simp only [eqI_l0]; rw [if_pos (by omega), if_pos e]) hl (a.length + 1) 0 (by omega) (by omega) with ⟨e, g⟩ | ⟨e, g⟩
    · simp only [e, outc1, true_iff]; exact getD_ext hl fun j hj => g j (by omega) hj
    · simp only [e, outc1, Bool.false_eq_true, false_iff]; exact g
  · rw [if_pos (by omega)]
    simp only [Bool.false_eq_true, false_iff]; exact fun e => hl (by rw [e])
theorem eqB_iff (a b : List Bool) : eqB a b = true ↔ a = b := by
  unfold eqB
  by_cases hl : a.length = b.length
  · rw [if_neg (by omega)]
    rcases cmp_spec a b (eqB_l0 a b) (fun n k h => by simp only [eqB_l0]; rw [if_neg (by omega)]) (fun n k h e => by simp only [eqB_l0]; rw [if_pos (by omega), if_neg (by simpa using e)]) (fun n k h e => by simp only [eqB_l0]; rw [if_pos (by omega), if_pos (by simpa using e)]) hl (a.length + 1) 0 (by omega) (by omega) with ⟨e, g⟩ | ⟨e, g⟩
    · simp only [e, outc1, true_iff]; exact getD_ext hl fun j hj => g j (by omega) hj
    · simp only [e, outc1, Bool.false_eq_true, false_iff]; exact g
  · rw [if_pos (by omega)]
    simp only [Bool.false_eq_true, false_iff]; exact fun e => hl (by rw [e])
theorem rInts_iff (a b : List Int) : rInts a b = true ↔ a = b := by
  unfold rInts
  by_cases hl : a.length = b.length
  · rw [if_neg (by omega)]
    rcases cmp_spec a b (rInts_l0 a b) (fun n k h => by simp only [rInts_l0]; rw [if_neg (by omega)]) (fun n k h e => by simp only [rInts_l0]; rw [if_pos (by omega), if_neg (by simpa using e)]) (fun n k h e => by simp only [rInts_l0]; rw [if_pos (by omega), if_pos e]) hl (a.length + 1) 0 (by omega) (by omega) with ⟨e, g⟩ | ⟨e, g⟩
    · simp only [e, outc1, true_iff]; exact getD_ext hl fun j hj => g j (by omega) hj
    · simp only [e, outc1, Bool.false_eq_true, false_iff]; exact g
  · rw [if_pos (by omega)]
    simp only [Bool.false_eq_true, false_iff]; exact fun e => hl (by rw [e])
theorem rHandles_iff (a b : List (Int × Int)) : rHandles a b = true ↔ a = b := by
  unfold rHandles
  by_cases hl : a.length = b.length
  · rw [if_neg (by omega)]
    rcases cmp_spec a b (rHandles_l0 a b) (fun n k h => by simp only [rHandles_l0]; rw [if_neg (by omega)]) (fun n k h e => by simp only [rHandles_l0]; rw [if_pos (by omega), if_neg (by rw [e]; simp)]) (fun n k h e => by simp only [rHandles_l0]; rw [if_pos (by omega), if_pos (fun c => e (Prod.ext c.1 c.2))]) hl (a.length + 1) 0 (by omega) (by omega) with ⟨e, g⟩ | ⟨e, g⟩
    · simp only [e, outc1, true_iff]; exact getD_ext hl fun j hj => g j (by omega) hj
    · simp only [e, outc1, Bool.false_eq_true, false_iff]; exact g
  · rw [if_pos (by omega)]
    simp only [Bool.false_eq_true, false_iff]; exact fun e => hl (by rw [e])
theorem aSame_iff (a b : List Int × List Bool × List Int) : aSame a b = true ↔ a = b := by
  unfold aSame
  obtain ⟨a1, a2, a3⟩ := a
  obtain ⟨b1, b2, b3⟩ := b
  by_cases h1 : a1 = b1 <;> by_cases h2 : a2 = b2 <;> simp [eqI_iff, eqB_iff, h1, h2]
theorem rSame_iff (a b : List Int × List Bool × List Int) : rSame a b = true ↔ a = b := by
  unfold rSame
  obtain ⟨a1, a2, a3⟩ := a
  obtain ⟨b1, b2, b3⟩ := b
  have e1 : ∀ x y, rInts x y = decide (x = y) := fun x y => by rw [Bool.eq_iff_iff, rInts_iff]; simp
  simp only [e1]
  by_cases h1 : a1 = b1
  · by_cases h3 : a3 = b3
    · rw [if_neg (by simp [h1]), if_neg (by simp [h3])]
      by_cases hl : a2.length = b2.length
      · rw [if_neg (by omega)]
        rcases cmp_spec a2 b2 (rSame_l0 (a1, a2, a3) (b1, b2, b3)) (fun n k h => by simp only [rSame_l0]; rw [if_neg (by omega)]) (fun n k h e => by simp only [rSame_l0]; rw [if_pos (by omega), if_neg (by simpa using e)]) (fun n k h e => by simp only [rSame_l0]; rw [if_pos (by omega), if_pos (by simpa using e)]) hl (a2.length + 1) 0 (by omega) (by omega) with ⟨e, g⟩ | ⟨e, g⟩
        · simp only [e, outc1, true_iff]
          rw [h1, h3, getD_ext hl fun j hj => g j (by omega) hj]
        · simp only [e, outc1, Bool.false_eq_true, false_iff]
          intro h; simp only [Prod.mk.injEq] at h; exact g h.2.1
      · rw [if_pos (by omega)]
        simp only [Bool.false_eq_true, false_iff]
        intro h; simp only [Prod.mk.injEq] at h; exact hl (by rw [h.2.1])
    · rw [if_neg (by simp [h1]), if_pos (by simp [h3])]; simp [h3]
  · rw [if_pos (by simp [h1])]; simp [h1]
theorem downF_succ (k : Nat) : downF (k + 1) (k + 1) = (k : Int) :: downF k k := by
  simp only [downF, List.range_succ_eq_map, List.map_cons, List.map_map]
  congr 1
  · omega
  · refine List.map_congr_left fun x _ => ?_
    simp only [Function.comp]; omega
theorem rNew_loop (n : Int) (x1 : List Int) (x2 : List Bool) : ∀ (k f : Nat) (xs : List Int), k < f → rNew_l0 n x1 x2 f ((k : Int) - 1) xs = (-1, xs ++ downF k k)
  | 0, f + 1, xs, _ => by
    simp only [rNew_l0]
    rw [if_neg (by omega)]
    simp [downF]
  | k + 1, f + 1, xs, h => by
    simp only [rNew_l0]
    rw [if_pos (by omega), show ((k + 1 : Nat) : Int) - 1 - 1 = (k : Int) - 1 by omega, rNew_loop n x1 x2 k f _ (by omega), downF_succ]
    rw [show ((k + 1 : Nat) : Int) - 1 = (k : Int) by omega]
    simp
theorem rNew_eq (n : Int) : rNew n = newD n := by
  unfold rNew newD
  by_cases h1 : n < 1
  · rw [if_pos h1, if_neg (by omega)]
  by_cases h2 : 64 < n
  · rw [if_neg h1, if_pos h2, if_neg (by omega)]
  rw [if_neg h1, if_neg h2, if_pos (by omega)]
  obtain ⟨k, rfl⟩ : ∃ k : Nat, n = (k : Int) := ⟨n.toNat, by omega⟩
  simp only [run2]
  rw [show ((k : Int) - 1 + 1).toNat + 1 = k + 1 by omega, rNew_loop _ _ _ k (k + 1) [] (by omega)]
  simp
theorem rValid_eq (s : List Int × List Bool × List Int) (h : Int × Int) : rValid s h = decide ((h.1, h.2) ∈ allD s.1 s.2.1 s.2.2) := by
  unfold rValid
  rw [rRight_eq, Bool.eq_iff_iff, decide_eq_true_eq]
  cases hr : rightB s.1 s.2.1 s.2.2
  · rw [if_neg (by simp), all_no hr]; simp
  · have hlen := (rightB_iff.1 hr).1.2.2
    rw [if_pos rfl, allD_mem hr]
    by_cases h0 : 0 ≤ h.1
    · rw [if_pos h0]
      by_cases h1 : h.1 < (s.1.length : Int)
      · rw [if_pos h1]
        have hlt : h.1.toNat < s.2.1.length := by omega
        rw [getD_lt hlt, List.getElem?_eq_getElem hlt]
        by_cases h2 : s.2.1[h.1.toNat] = true
        · rw [if_pos h2]; simp [h2, h0]
        · rw [if_neg h2]; simp at h2; simp [h2]
      · rw [if_neg h1]
        simp only [Bool.false_eq_true, false_iff]
        rintro ⟨_, hu, _⟩
        have := (List.getElem?_eq_some_iff.1 hu).1
        omega
    · rw [if_neg h0]; simp [h0]
theorem rValid_t {s : List Int × List Bool × List Int} {h : Int × Int} (hv : rValid s h = true) : 0 ≤ h.1 ∧ h.1 < (s.1.length : Int) ∧ s.2.1.length = s.1.length ∧ s.1.length ≤ 64 ∧ s.2.2.length ≤ 64 := by
  unfold rValid at hv
  split at hv
  · rename_i hr
    have h2 := rRight_t hr
    split at hv
    · rename_i h0
      split at hv
      · rename_i h1
        exact ⟨h0, h1, h2.2.2.1, h2.2.1, h2.2.2.2.1⟩
      · cases hv
    · cases hv
  · cases hv
theorem rAll_loop (s : List Int × List Bool × List Int) (hr : rRight s = true) (hl : s.2.1.length = s.1.length) : ∀ (n i : Nat) (out : List (Int × Int)), s.1.length - i < n → i ≤ s.1.length → (rAll_l0 s n out i).1 = out ++ (usedIx i (s.2.1.drop i)).map fun j : Nat => ((j : Int), s.1.getD j default)
  | 0, i, out, h, _ => by omega
  | n + 1, i, out, h, hi => by
    simp only [rAll_l0]
    by_cases h1 : i < s.1.length
    · rw [if_pos (by omega), if_pos hr]
      rw [getD_drop_cons (xs := s.2.1) (i := i) (by omega)]
      cases hb : s.2.1.getD i default
      · rw [if_neg (by simp), rAll_loop s hr hl n (i + 1) _ (by omega) (by omega)]
        simp [usedIx]
      · rw [if_pos rfl, rAll_loop s hr hl n (i + 1) _ (by omega) (by omega)]
        simp [usedIx]
    · rw [if_neg (by omega), List.drop_of_length_le (by omega)]
      simp [usedIx]
theorem rAll_eq (s : List Int × List Bool × List Int) : rAll s = allD s.1 s.2.1 s.2.2 := by
  unfold rAll
  simp only [run2]
  cases hr : rRight s
  · rw [rRight_eq] at hr
    rw [all_no hr]
    rw [← rRight_eq] at hr
    simp only [rAll_l0, hr]
    split <;> simp
  · have h2 := rRight_t hr
    rw [rAll_loop s hr h2.2.2.1 _ _ _ (by omega) (by omega)]
    rw [rRight_eq] at hr
    simp [allD, hr, hnd]
theorem rTake_eq (s : List Int × List Bool × List Int) : rTake s = takeD s.1 s.2.1 s.2.2 := by
  unfold rTake
  rw [rRight_eq]
  cases hr : rightB s.1 s.2.1 s.2.2
  · rw [take_no hr, if_pos (by simp)]
  · rw [if_neg (by simp)]
    by_cases h1 : s.2.2.length = 0
    · rw [if_pos (by omega), take_full hr (.inl h1)]
    rw [if_neg (by omega)]
    obtain ⟨a, b, c, d, e⟩ := right_last hr h1
    by_cases h2 : s.1.getD (s.2.2.getD ((s.2.2.length : Int) - 1).toNat default).toNat default = 1000000000
    · rw [if_pos h2, take_full hr (.inr h2)]
    · rw [if_neg h2, take_yes hr h1 h2]
      simp only [getD_set_self (show (s.2.2.getD ((s.2.2.length : Int) - 1).toNat default).toNat < s.1.length by omega)]
      rw [show ((s.2.2.length : Int) - 1).toNat = s.2.2.length - 1 by omega]
      simp only [lastI, show ((s.2.2.length : Int) - 1).toNat = s.2.2.length - 1 by omega]
theorem rGive_eq (s : List Int × List Bool × List Int) (h : Int × Int) : rGive s h = giveD s.1 s.2.1 s.2.2 h.1 h.2 := by
  unfold rGive giveD
  rw [rRight_eq, rValid_eq]
  cases hr : rightB s.1 s.2.1 s.2.2
  · simp
  · rw [if_neg (by simp), if_pos rfl]
    by_cases hm : (h.1, h.2) ∈ allD s.1 s.2.1 s.2.2
    · rw [if_neg (by simp [hm]), if_pos hm]
    · rw [if_pos (by simp [hm]), if_neg hm]
theorem newD_len (n : Int) : (newD n).1.1.length ≤ 64 ∧ (newD n).1.2.1.length ≤ 64 ∧ (newD n).1.2.2.length ≤ 64 := by
  unfold newD
  split
  · simp [downF]; omega
  · simp
theorem rNew_len (n : Int) : (rNew n).1.1.length ≤ 64 ∧ (rNew n).1.2.1.length ≤ 64 ∧ (rNew n).1.2.2.length ≤ 64 := by rw [rNew_eq]; exact newD_len n
theorem allD_len66 (gl : List Int) (ul : List Bool) (fl : List Int) : (allD gl ul fl).length ≤ 64 := by
  cases hr : rightB gl ul fl
  · rw [all_no hr]; simp
  · have := (rightB_iff.1 hr).1
    have h2 : (allD gl ul fl).length ≤ ul.length := allD_le
    omega
theorem rAll_len (s : List Int × List Bool × List Int) : (rAll s).length ≤ 64 := by rw [rAll_eq]; exact allD_len66 _ _ _
theorem right_lens {gl : List Int} {ul : List Bool} {fl : List Int} (h : rightB gl ul fl = true) : 1 ≤ gl.length ∧ gl.length ≤ 64 ∧ ul.length = gl.length ∧ fl.length ≤ 64 := by
  have h1 := rightB_iff.1 h
  omega
theorem takeD_len (gl : List Int) (ul : List Bool) (fl : List Int) : (takeD gl ul fl).1.1.length ≤ 64 ∧ (takeD gl ul fl).1.2.1.length ≤ 64 ∧ (takeD gl ul fl).1.2.2.length ≤ 64 := by
  unfold takeD
  split
  · rename_i h
    have := right_lens h
    split
    · simp
    · simp; omega
  · simp
theorem rTake_len (s : List Int × List Bool × List Int) : (rTake s).1.1.length ≤ 64 ∧ (rTake s).1.2.1.length ≤ 64 ∧ (rTake s).1.2.2.length ≤ 64 := by rw [rTake_eq]; exact takeD_len _ _ _
theorem giveD_len (gl : List Int) (ul : List Bool) (fl : List Int) (p q : Int) : (giveD gl ul fl p q).1.1.length ≤ 64 ∧ (giveD gl ul fl p q).1.2.1.length ≤ 64 ∧ (giveD gl ul fl p q).1.2.2.length ≤ 65 := by
  unfold giveD
  split
  · rename_i h
    have := right_lens h
    split
    · simp; omega
    · simp
  · simp
theorem rGive_len (s : List Int × List Bool × List Int) (h : Int × Int) : (rGive s h).1.1.length ≤ 64 ∧ (rGive s h).1.2.1.length ≤ 64 ∧ (rGive s h).1.2.2.length ≤ 65 := by rw [rGive_eq]; exact giveD_len _ _ _ _ _
end Go.Proofs.Ytofkflecgnmemaa.Jd
