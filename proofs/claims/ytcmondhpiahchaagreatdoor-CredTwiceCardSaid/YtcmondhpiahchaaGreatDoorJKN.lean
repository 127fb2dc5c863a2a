/- Plain facts on credentials: which lists are right; bounds. No condition. -/
import Derived.Test.YtcmondhpiahchaaGreatDoorJKM
import Derived.Test.YtcmondhpiahchaaGreatDoorJMN
namespace Go.Proofs.YtcmondhpiahchaaGreatDoor.Jd
set_option linter.unusedSimpArgs false
set_option linter.unusedVariables false
theorem drop_getD {α : Type} [Inhabited α] (l : List α) (k : Nat) (h : k < l.length) : l.drop k = l.getD k default :: l.drop (k + 1) := by
  rw [List.drop_eq_getElem_cons h]
  simp [List.getD, h]
theorem drop_none {α : Type} (l : List α) (k : Nat) (h : ¬ k < l.length) : l.drop k = [] := List.drop_of_length_le (by omega)
theorem cIsIn_iff {n a b : Int} : cIsIn n a b = true ↔ a ≤ n ∧ n ≤ b := by
  unfold cIsIn
  split <;> simp <;> omega
theorem cIsIn_t {n a b : Int} (h : cIsIn n a b = true) : a ≤ n ∧ n ≤ b := cIsIn_iff.1 h
theorem mRight_iff {key : Str} : mRight key = true ↔ 1 ≤ key.length ∧ key.length ≤ 64 := by
  unfold mRight
  split <;> simp <;> omega
/-- A credential that may be. -/
def GoodC (c : Cred) : Prop := (1 ≤ c.id ∧ c.id ≤ 1000000000) ∧ (1 ≤ c.key.length ∧ c.key.length ≤ 64) ∧ 0 ≤ c.frm ∧ c.frm < c.to ∧ c.to ≤ 1000000000000
theorem cIs_iff {c : Cred} : (cIsId c && cIsKey c && cIsSpan c) = true ↔ GoodC c := by
  unfold cIsId cIsKey cIsSpan GoodC
  rw [Bool.and_eq_true, Bool.and_eq_true, cIsIn_iff, mRight_iff]
  constructor
  · rintro ⟨⟨h1, h2⟩, h3⟩
    refine ⟨h1, h2, ?_⟩
    split at h3
    · split at h3
      · exact ⟨‹_›, ‹_›, by simpa using h3⟩
      · cases h3
    · cases h3
  · rintro ⟨h1, h2, h3, h4, h5⟩
    exact ⟨⟨h1, h2⟩, by rw [if_pos h3, if_pos h4]; simpa using h5⟩
def RightL (l : List Cred) : Prop := l.length ≤ 4 ∧ (∀ c ∈ l, GoodC c) ∧ l.Pairwise fun a b => a.id < b.id
theorem cRight_l1_eq (l : List Cred) (a : Nat) (b : Int) (c : List Int) : ∀ n k, l.length < n + k → outc1 (cRight_l1 l a b c n k) (fun r => r) (fun _ => true) = (l.drop k).all fun c => cIsId c && cIsKey c && cIsSpan c
  | 0, k, h => by
    rw [drop_none l k (by omega)]
    rfl
  | n + 1, k, h => by
    rw [cRight_l1]
    by_cases hk : k < l.length
    · rw [if_pos (by omega), drop_getD l k hk, List.all_cons]
      cases h1 : cIsId (l.getD k default)
      · simp [outc1]
      · cases h2 : cIsKey (l.getD k default)
        · simp [outc1]
        · cases h3 : cIsSpan (l.getD k default)
          · simp [outc1]
          · simpa using cRight_l1_eq l a b c n (k + 1) (by omega)
    · rw [if_neg (by omega), drop_none l k hk]
      rfl
def chkIds : Int → List Int → List Cred → Bool
  | _, _, [] => true
  | last, seen, c :: r => if c.id ∈ seen then false else if c.id < last then false else chkIds c.id (seen ++ [c.id]) r
theorem cRight_l0_eq (l : List Cred) (B : Nat → Int → List Int → Bool) (b : Bool) (hB : ∀ x y z, B x y z = b) : ∀ n k last seen, l.length < n + k → outc3 (cRight_l0 l n k last seen) (fun r => r) B = (chkIds last seen (l.drop k) && b)
  | 0, k, last, seen, h => by
    rw [drop_none l k (by omega)]
    simp [cRight_l0, outc3, chkIds, hB]
  | n + 1, k, last, seen, h => by
    rw [cRight_l0]
    by_cases hk : k < l.length
    · rw [if_pos (by omega), drop_getD l k hk, chkIds]
      by_cases h1 : (l.getD k default).id ∈ seen
      · rw [if_pos h1, if_pos h1]; simp [outc3]
      · rw [if_neg h1, if_neg h1]
        by_cases h2 : (l.getD k default).id < last
        · rw [if_pos h2, if_pos h2]; simp [outc3]
        · rw [if_neg h2, if_neg h2]
          exact cRight_l0_eq l B b hB n (k + 1) _ _ (by omega)
    · rw [if_neg (by omega), drop_none l k hk]
      simp [outc3, chkIds, hB]
theorem chkIds_iff : ∀ (xs : List Cred) (last : Int) (seen : List Int), (∀ s ∈ seen, s ≤ last) → (chkIds last seen xs = true ↔ (∀ c ∈ xs, last ≤ c.id ∧ c.id ∉ seen) ∧ xs.Pairwise fun a b => a.id < b.id)
  | [], last, seen, _ => by simp [chkIds]
  | c :: r, last, seen, hs => by
    rw [chkIds]
    by_cases h1 : c.id ∈ seen
    · rw [if_pos h1]
      exact ⟨nofun, fun ⟨h, _⟩ => absurd h1 (h c List.mem_cons_self).2⟩
    · rw [if_neg h1]
      by_cases h2 : c.id < last
      · rw [if_pos h2]
        exact ⟨nofun, fun ⟨h, _⟩ => by have := (h c List.mem_cons_self).1; omega⟩
      · rw [if_neg h2, chkIds_iff r c.id (seen ++ [c.id]) (fun s hm => by
          rcases List.mem_append.1 hm with hm | hm
          · have := hs s hm; omega
          · have : s = c.id := by simpa using hm
            omega), List.pairwise_cons]
        constructor
        · rintro ⟨g1, g2⟩
          have g3 : ∀ d ∈ r, c.id < d.id := fun d hd => by
            obtain ⟨a1, a2⟩ := g1 d hd
            have : d.id ≠ c.id := fun e => a2 (by simp [e])
            omega
          refine ⟨fun d hd => ?_, g3, g2⟩
          rcases List.mem_cons.1 hd with rfl | hd
          · exact ⟨by omega, h1⟩
          · obtain ⟨a1, a2⟩ := g1 d hd
            exact ⟨by omega, fun hm => a2 (List.mem_append_left _ hm)⟩
        · rintro ⟨g1, g2, g3⟩
          refine ⟨fun d hd => ?_, g3⟩
          have := g2 d hd
          refine ⟨by omega, fun hm => ?_⟩
          rcases List.mem_append.1 hm with hm | hm
          · have := hs _ hm; omega
          · have : d.id = c.id := by simpa using hm
            omega
theorem cRight_iff {l : List Cred} : cRight l = true ↔ RightL l := by
  unfold cRight RightL
  rw [cRight_l0_eq l _ (decide (((l.length : Nat) : Int) ≤ 4) && l.all fun c => cIsId c && cIsKey c && cIsSpan c) (fun x y z => by
    by_cases h : ((l.length : Nat) : Int) ≤ 4
    · rw [if_pos h, cRight_l1_eq l x y z _ _ (by omega)]
      simp [h]
    · rw [if_neg h]; simp [h]) _ _ _ _ (by omega)]
  rw [List.drop_zero, Bool.and_eq_true, Bool.and_eq_true, chkIds_iff l 0 [] (by simp), List.all_eq_true, decide_eq_true_eq]
  constructor
  · rintro ⟨⟨_, h2⟩, h3, h4⟩
    exact ⟨by omega, fun c hc => cIs_iff.1 (h4 c hc), h2⟩
  · rintro ⟨h1, h2, h3⟩
    exact ⟨⟨fun c hc => ⟨by have := (h2 c hc).1; omega, by simp⟩, h3⟩, by omega, fun c hc => cIs_iff.2 (h2 c hc)⟩
/-- What the walks want of right ones. -/
def RightC (l : List Cred) : Prop := ∀ k : Nat, 0 ≤ (l.getD k default).id ∧ (l.getD k default).id ≤ 1000000000
theorem RightC.id {l : List Cred} (h : RightC l) (k : Nat) : 0 ≤ (l.getD k default).id ∧ (l.getD k default).id ≤ 1000000000 := h k
theorem getD_mem_or {α : Type} [Inhabited α] (l : List α) (k : Nat) : l.getD k default ∈ l ∨ l.getD k default = default := by
  by_cases h : k < l.length
  · left; simp [List.getD, h]
  · right; simp [List.getD, h]
theorem cRight_t {l : List Cred} (h : cRight l = true) : RightC l := fun k => by
  obtain ⟨_, h2, _⟩ := cRight_iff.1 h
  rcases getD_mem_or l k with hm | hm
  · have := (h2 _ hm).1; omega
  · rw [hm]
    show 0 ≤ (0 : Int) ∧ (0 : Int) ≤ _
    omega
theorem cRot_l0_id {l : List Cred} (hl : RightC l) (key : Str) (now overlap span : Int) : ∀ n k out id, 0 ≤ id → 0 ≤ (cRot_l0 l key now overlap span n k out id).2.2
  | 0, k, out, id, h => h
  | n + 1, k, out, id, h => by
    have := hl.id k
    rw [cRot_l0]
    repeat' split
    all_goals first | exact h | exact cRot_l0_id hl key now overlap span n _ _ _ (by omega)
theorem cRot_bd (l : List Cred) (key : Str) (now overlap span : Int) : (cRot l key now overlap span).2.2 = 0 → (0 ≤ now ∧ now ≤ 1000000000000) ∧ (0 ≤ overlap ∧ overlap ≤ 1000000000) ∧ (1 ≤ span ∧ span ≤ 1000000000) ∧ now + span ≤ 1000000000000 ∧ 0 ≤ (cRot l key now overlap span).2.1 ∧ (cRot l key now overlap span).2.1 ≤ 1000000000 := by
  unfold cRot
  cases h1 : cRight l
  · simp
  · have hid := cRot_l0_id (cRight_t h1) key now overlap span (l.length + 1) 0 [] 1 (by omega)
    cases h2 : mRight key
    · simp
    · cases h3 : cIsIn now 0 1000000000000
      · simp
      · cases h4 : cIsIn overlap 0 1000000000
        · simp
        · cases h5 : cIsIn span 1 1000000000
          · simp
          · intro h
            have g3 := cIsIn_iff.1 h3
            have g4 := cIsIn_iff.1 h4
            have g5 := cIsIn_iff.1 h5
            simp only [run3, Bool.not_true, Bool.false_eq_true, if_false] at h ⊢
            generalize cRot_l0 l key now overlap span (l.length + 1) 0 [] 1 = q at h hid ⊢
            by_cases h6 : 1000000000000 < now + span
            · simp [h6] at h
            · rw [if_neg h6] at h ⊢
              split at h
              · simp at h
              · split at h
                · simp at h
                · rename_i g7 g8
                  rw [if_neg g7, if_neg g8]
                  exact ⟨g3, g4, g5, by omega, hid, Int.not_lt.1 g8⟩
end Go.Proofs.YtcmondhpiahchaaGreatDoor.Jd
