/- The plain laws of slots: SlotsOld, SlotsNew. No condition. -/
import Derived.Test.YtofkflecgnmemaaJSG
import Derived.Test.YtofkflecgnmemaaJSQ
import Derived.Test.YtofkflecgnmemaaJM2
namespace Go.Proofs.Ytofkflecgnmemaa.Jd
set_option linter.unusedSimpArgs false
set_option linter.unusedVariables false
theorem right_nil : rightB [] [] [] = false := by decide
theorem all_nil : allD [] [] [] = [] := all_no right_nil
theorem old_loop (s : List Int × List Bool × List Int) (h : Int × Int) (keep : Int) : ∀ (n i : Nat) (gl : List Int) (ul : List Bool) (fl : List Int), 12 - i < n → rightB gl ul fl = true → Dead h.1 h.2 gl ul →
    ∃ i' a b c, lSlotsOld_l0 s h keep n i gl ul fl = .ok (i', a, b, c) ∧ rightB a b c = true
  | 0, i, gl, ul, fl, h1, _, _ => by omega
  | n + 1, i, gl, ul, fl, h1, hr, hd => by
    simp only [lSlotsOld_l0]
    by_cases hi : i < 12
    · rw [if_pos (by omega), if_neg (by simpa using dead_not hr hd)]
      rcases take_cases gl ul fl with ⟨e, _⟩ | ⟨_, e⟩ | ⟨j, ht⟩
      · rw [hr] at e; cases e
      · rw [e]
        simp only [all_nil]
        rw [if_neg (by simp), if_neg (by omega), if_neg (by omega), if_neg (by omega)]
        exact old_loop s h keep n (i + 1) gl ul fl (by omega) hr hd
      · have hd2 := dead_take ht hd
        have hr2 := take_right ht
        rw [ht.eq]
        dsimp only
        rw [if_neg (by simpa using dead_not hr2 hd2.1), if_pos rfl, if_neg hd2.2, if_pos rfl, if_pos rfl]
        by_cases hk : (i : Int) % 3 ≠ keep
        · rw [if_pos hk]
          have hm := take_has ht
          have hg : giveD (gl.set j (gl.getD j default + 1)) (ul.set j true) (fl.take (fl.length - 1)) (j : Int) (gl.getD j default + 1) = ((gl.set j (gl.getD j default + 1), (ul.set j true).set (j : Int).toNat false, fl.take (fl.length - 1) ++ [(j : Int)]), 0) := by
            unfold giveD
            rw [if_pos hr2, if_pos hm]
          rw [hg]
          dsimp only
          rw [if_neg (by omega)]
          refine old_loop s h keep n (i + 1) _ _ _ (by omega) (give_right hr2 hm) ?_
          have hlen := (rightB_iff.1 hr2).1.2.2
          simp only [List.length_set] at hlen
          have := ht.lt
          exact dead_give (by simp only [List.length_set]; omega) hd2.1
        · rw [if_neg hk]
          exact old_loop s h keep n (i + 1) _ _ _ (by omega) hr2 hd2.1
    · rw [if_neg (by omega)]
      exact ⟨_, _, _, _, rfl, hr⟩
theorem lSlotsOld_true (s : List Int × List Bool × List Int) (h : Int × Int) (keep : Int) : lSlotsOld s h keep = true := by
  unfold lSlotsOld
  generalize s.1.take 66 = gl
  generalize s.2.1.take 66 = ul
  generalize s.2.2.take 66 = fl
  cases hr : rightB gl ul fl
  · rw [give_no hr]; simp
  · by_cases hm : (h.1, h.2) ∈ allD gl ul fl
    · have hg : giveD gl ul fl h.1 h.2 = ((gl, ul.set h.1.toNat false, fl ++ [h.1]), 0) := by
        unfold giveD
        rw [if_pos hr, if_pos hm]
      rw [hg]
      obtain ⟨i', a, b, c, e, hr2⟩ := old_loop s h keep (12 + 1) 0 gl (ul.set h.1.toNat false) (fl ++ [h.1]) (by omega) (give_right hr hm) (dead_given hr hm)
      rw [if_neg (by simp)]
      simp only [e, outc4, hr2, if_true]
    · rw [give_bad hr hm]; simp
theorem downF_len (m k : Nat) : (downF m k).length = k := by simp [downF]
theorem downF_get {m k j : Nat} (h : j < k) : (downF m k).getD j default = (m : Int) - 1 - j := by
  rw [getD_lt (by rw [downF_len]; exact h)]; simp [downF]
theorem downF_take {m k j : Nat} (h : j ≤ k) : (downF m k).take j = downF m j := by
  simp [downF, ← List.map_take, List.take_range, Nat.min_eq_left h]
theorem cntU_rep (m : Nat) : cntU (List.replicate m false) = 0 := by
  rw [cntU_eq]; simp [List.count_replicate]
theorem new_right {m : Nat} (h1 : 1 ≤ m) (h2 : m ≤ 64) : rightB (List.replicate m 0) (List.replicate m false) (downF m m) = true := by
  refine rightB_iff.2 ⟨⟨by simpa using h1, by simpa using h2, by simp⟩, fun x hx => ?_, ⟨fun x hx => ?_, ?_⟩, ?_⟩
  · have := (List.mem_replicate.1 hx).2; omega
  · obtain ⟨j, hj, rfl⟩ := List.mem_map.1 hx
    have hj := List.mem_range.1 hj
    refine ⟨by omega, by simp; omega, ?_⟩
    rw [getD_lt (by simp; omega)]; simp
  · unfold downF
    rw [List.Nodup, List.pairwise_map]
    exact (List.nodup_range).imp fun h e => h (by omega)
  · rw [cntU_rep, downF_len]; simp
theorem new_loop {m : Nat} (hm : m ≤ 64) : ∀ (n i : Nat) (gl : List Int) (ul : List Bool) (fl : List Int), m - i < n → i ≤ m → rightB gl ul fl = true → gl.length = m → fl = downF m (m - i) → (∀ j, i ≤ j → j < m → gl.getD j default = 0) → (allD gl ul fl).length = i →
    ∃ a b c, lSlotsNew_l0 (m : Int) n i gl ul fl = .ok (m, a, b, c) ∧ rightB a b c = true ∧ c = []
  | 0, i, gl, ul, fl, h, _, _, _, _, _, _ => by omega
  | n + 1, i, gl, ul, fl, h, hi, hr, hg, hf, hz, hc => by
    simp only [lSlotsNew_l0]
    by_cases c1 : i < m
    · rw [if_pos (by omega), if_pos (by omega)]
      have hfl : fl.length = m - i := by rw [hf, downF_len]
      have hlast : fl.getD ((fl.length : Int) - 1).toNat default = (i : Int) := by
        rw [hfl, hf, downF_get (by omega)]; omega
      rcases take_cases gl ul fl with ⟨e, _⟩ | ⟨_, e⟩ | ⟨j, ht⟩
      · rw [hr] at e; cases e
      · rw [take_yes hr (by omega) (by rw [hlast, Int.toNat_natCast, hz i (Nat.le_refl _) c1]; omega)] at e
        simp only [Prod.mk.injEq] at e
        omega
      · have hj : j = i := by
          have := ht.last
          unfold lastI at this
          rw [hlast] at this; omega
        subst hj
        have hgz := hz j (Nat.le_refl _) c1
        have hcount := take_count ht
        have hr2 := take_right ht
        rw [ht.eq]
        dsimp only
        rw [if_neg (by omega), if_neg (by omega), if_neg (by omega), if_neg (by omega)]
        refine new_loop hm n (j + 1) _ _ _ (by omega) (by omega) hr2 (by simpa using hg) ?_ (fun k hk hk2 => ?_) (by omega)
        · rw [hfl, hf, downF_take (by omega)]
          congr 1
        · have : (gl.set j (gl.getD j default + 1)).getD k default = gl.getD k default := by
            simp only [List.getD, List.getElem?_set_ne (show j ≠ k by omega)]
          rw [this]; exact hz k (by omega) hk2
    · rw [if_neg (by omega)]
      obtain rfl : i = m := by omega
      exact ⟨_, _, _, rfl, hr, by rw [hf]; simp [downF]⟩
theorem lSlotsNew_true (n : Int) : lSlotsNew n = true := by
  unfold lSlotsNew
  by_cases hn : 1 ≤ n ∧ n ≤ 64
  · obtain ⟨m, rfl⟩ : ∃ m : Nat, n = (m : Int) := ⟨n.toNat, by omega⟩
    rw [new_good (by omega) (by omega)]
    rw [if_neg (by simp)]
    obtain ⟨a, b, c, e, hr, hc⟩ := new_loop (m := m) (by omega) (m + 1) 0 (List.replicate m 0) (List.replicate m false) (downF m m) (by omega) (by omega) (new_right (by omega) (by omega)) (by simp) rfl (fun j _ hj => by rw [getD_lt (by simpa using hj)]; simp) (by
      rw [allD_len (new_right (by omega) (by omega))]; simp [List.count_replicate])
    rw [show ((m : Int) - ((0 : Nat) : Int)).toNat + 1 = m + 1 by omega]
    simp only [e, outc4]
    rw [if_pos trivial, if_pos (by omega), take_full hr (.inl (by rw [hc]; rfl))]
    simp
  · rw [new_bad hn]
    simp [right_nil]
end Go.Proofs.Ytofkflecgnmemaa.Jd
