/- Credentials: what rotating, ending, holding come to, in plain words; the laws. No condition. -/
import Derived.Test.YtcmondhpiahchaaGreatDoorJLN
import Derived.Test.YtcmondhpiahchaaGreatDoorJLO
namespace Go.Proofs.YtcmondhpiahchaaGreatDoor.Jd
set_option linter.unusedSimpArgs false
set_option linter.unusedVariables false
theorem cHolds_iff {c : Cred} {now : Int} : cHolds c now = true ↔ c.frm ≤ now ∧ now < c.to := by
  unfold cHolds
  split <;> simp <;> omega
theorem rcHolds_eq (c : Cred) (now : Int) : rcHolds c now = cHolds c now := rfl
theorem rmRight_eq (k : Str) : rmRight k = mRight k := rfl
theorem cHolding_l0_eq (l : List Cred) (now : Int) : ∀ n k acc, l.length < n + k → (cHolding_l0 l now n k acc).2 = acc ++ (l.drop k).filter fun c => cHolds c now
  | 0, k, acc, h => by
    rw [drop_none l k (by omega)]
    simp [cHolding_l0]
  | n + 1, k, acc, h => by
    rw [cHolding_l0]
    by_cases hk : k < l.length
    · rw [if_pos (by omega), drop_getD l k hk, List.filter_cons]
      cases hc : cHolds (l.getD k default) now
      · rw [if_neg (by simp), if_neg (by simp)]
        exact cHolding_l0_eq l now n (k + 1) _ (by omega)
      · rw [if_pos rfl, if_pos rfl, cHolding_l0_eq l now n (k + 1) _ (by omega)]
        simp
    · rw [if_neg (by omega), drop_none l k hk]
      simp
theorem cHolding_eq {l : List Cred} (h : RightL l) (now : Int) : cHolding l now = l.filter fun c => cHolds c now := by
  unfold cHolding
  rw [cRight_iff.2 h, if_neg (by simp)]
  simp only [run2]
  rw [cHolding_l0_eq l now _ _ _ (by omega)]
  simp
theorem cHolding_bad {l : List Cred} (h : ¬ RightL l) (now : Int) : cHolding l now = [] := by
  unfold cHolding
  rw [if_pos]
  cases hc : cRight l
  · rfl
  · exact absurd (cRight_iff.1 hc) h
theorem cInL_l0_iff (l : List Cred) (id : Int) : ∀ n k, l.length < n + k → (outc1 (cInL_l0 l id n k) (fun r => r) (fun _ => false) = true ↔ ∃ c ∈ l.drop k, c.id = id)
  | 0, k, h => by
    rw [drop_none l k (by omega)]
    simp [cInL_l0, outc1]
  | n + 1, k, h => by
    rw [cInL_l0]
    by_cases hk : k < l.length
    · rw [if_pos (by omega), drop_getD l k hk]
      by_cases hc : (l.getD k default).id = id
      · rw [if_pos hc]
        simp only [outc1, true_iff]
        exact ⟨_, List.mem_cons_self, hc⟩
      · rw [if_neg hc, cInL_l0_iff l id n (k + 1) (by omega)]
        constructor
        · rintro ⟨c, h1, h2⟩; exact ⟨c, List.mem_cons_of_mem _ h1, h2⟩
        · rintro ⟨c, h1, h2⟩
          rcases List.mem_cons.1 h1 with rfl | h1
          · exact absurd h2 hc
          · exact ⟨c, h1, h2⟩
    · rw [if_neg (by omega), drop_none l k hk]
      simp [outc1]
theorem cInL_iff {l : List Cred} {id : Int} : cInL l id = true ↔ ∃ c ∈ l, c.id = id := by
  unfold cInL
  rw [cInL_l0_iff l id _ _ (by omega), List.drop_zero]
theorem cInL_eq {l : List Cred} {id : Int} {p : Prop} [Decidable p] (h : (∃ c ∈ l, c.id = id) ↔ p) : cInL l id = decide p := by
  by_cases hp : p
  · rw [decide_eq_true hp]; exact cInL_iff.2 (h.2 hp)
  · rw [decide_eq_false hp]
    cases hc : cInL l id
    · rfl
    · exact absurd (h.1 (cInL_iff.1 hc)) hp
theorem rcSame_l0_self (a : List Cred) : ∀ n k, ∃ x, rcSame_l0 a a n k = .ok x
  | 0, k => ⟨_, rfl⟩
  | n + 1, k => by
    rw [rcSame_l0]
    split
    · rw [if_neg (by simp)]
      exact rcSame_l0_self a n (k + 1)
    · exact ⟨_, rfl⟩
theorem rcSame_self (a : List Cred) : rcSame a a = true := by
  unfold rcSame
  rw [if_neg (by simp)]
  obtain ⟨x, hx⟩ := rcSame_l0_self a (a.length + 1) 0
  rw [hx]; rfl
/-! ### rotating -/
def trimTo (now ov : Int) (c : Cred) : Int := if now + ov < c.to then now + ov else c.to
def trimC (now ov : Int) (c : Cred) : Option Cred := if c.to ≤ now then none else if c.frm < trimTo now ov c then some ⟨c.id, c.key, c.frm, trimTo now ov c⟩ else none
def idC (i : Int) (l : List Cred) : Int := l.foldl (fun _ c => c.id + 1) i
theorem cRot_l0_eq (l : List Cred) (key : Str) (now ov span : Int) : ∀ n k out id, l.length < n + k → (cRot_l0 l key now ov span n k out id).2 = (out ++ (l.drop k).filterMap (trimC now ov), idC id (l.drop k))
  | 0, k, out, id, h => by
    rw [drop_none l k (by omega)]
    simp [cRot_l0, idC]
  | n + 1, k, out, id, h => by
    rw [cRot_l0]
    by_cases hk : k < l.length
    · rw [if_pos (by omega), drop_getD l k hk, List.filterMap_cons]
      show _ = (_, idC ((l.getD k default).id + 1) (l.drop (k + 1)))
      by_cases h1 : (l.getD k default).to ≤ now
      · rw [if_pos h1, cRot_l0_eq l key now ov span n (k + 1) _ _ (by omega), show trimC now ov (l.getD k default) = none by unfold trimC; rw [if_pos h1]]
      · rw [if_neg h1]
        by_cases h2 : (l.getD k default).frm < trimTo now ov (l.getD k default)
        · rw [show trimC now ov (l.getD k default) = some ⟨(l.getD k default).id, (l.getD k default).key, (l.getD k default).frm, trimTo now ov (l.getD k default)⟩ by unfold trimC; rw [if_neg h1, if_pos h2]]
          unfold trimTo at h2
          rw [if_pos h2, cRot_l0_eq l key now ov span n (k + 1) _ _ (by omega)]
          simp [trimTo]
        · rw [show trimC now ov (l.getD k default) = none by unfold trimC; rw [if_neg h1, if_neg h2]]
          unfold trimTo at h2
          rw [if_neg h2, cRot_l0_eq l key now ov span n (k + 1) _ _ (by omega)]
    · rw [if_neg (by omega), drop_none l k hk]
      simp [idC]
theorem rcRot_l0_eq (l : List Cred) (key : Str) (now ov span : Int) : ∀ n k out id, l.length < n + k → ((rcRot_l0 l key now ov span n out id k).1, (rcRot_l0 l key now ov span n out id k).2.1) = (out ++ (l.drop k).filterMap (trimC now ov), idC id (l.drop k))
  | 0, k, out, id, h => by
    rw [drop_none l k (by omega)]
    simp [rcRot_l0, idC]
  | n + 1, k, out, id, h => by
    rw [rcRot_l0]
    by_cases hk : k < l.length
    · rw [if_pos (by omega), drop_getD l k hk, List.filterMap_cons]
      show _ = (_, idC ((l.getD k default).id + 1) (l.drop (k + 1)))
      by_cases h1 : (l.getD k default).to ≤ now
      · rw [if_neg (by omega), rcRot_l0_eq l key now ov span n (k + 1) _ _ (by omega), show trimC now ov (l.getD k default) = none by unfold trimC; rw [if_pos h1]]
      · rw [if_pos (by omega)]
        by_cases h2 : (l.getD k default).frm < trimTo now ov (l.getD k default)
        · rw [show trimC now ov (l.getD k default) = some ⟨(l.getD k default).id, (l.getD k default).key, (l.getD k default).frm, trimTo now ov (l.getD k default)⟩ by unfold trimC; rw [if_neg h1, if_pos h2]]
          unfold trimTo at h2
          rw [if_pos h2, rcRot_l0_eq l key now ov span n (k + 1) _ _ (by omega)]
          simp [trimTo]
        · rw [show trimC now ov (l.getD k default) = none by unfold trimC; rw [if_neg h1, if_neg h2]]
          unfold trimTo at h2
          rw [if_neg h2, rcRot_l0_eq l key now ov span n (k + 1) _ _ (by omega)]
    · rw [if_neg (by omega), drop_none l k hk]
      simp [idC]
/-- What rotating comes to. -/
def rotC (l : List Cred) (key : Str) (now ov span : Int) : List Cred × Int × Int :=
  if ¬ cRight l = true then ([], 0, 110) else if ¬ mRight key = true then ([], 0, 50)
  else if ¬ ((0 ≤ now ∧ now ≤ 1000000000000) ∧ (0 ≤ ov ∧ ov ≤ 1000000000) ∧ (1 ≤ span ∧ span ≤ 1000000000) ∧ now + span ≤ 1000000000000) then ([], 0, 2)
  else if 4 < (l.filterMap (trimC now ov)).length + 1 ∨ 1000000000 < idC 1 l then ([], 0, 92)
  else (l.filterMap (trimC now ov) ++ [⟨idC 1 l, key, now, now + span⟩], idC 1 l, 0)
theorem cIsIn_false {n a b : Int} (h : cIsIn n a b = false) : ¬ (a ≤ n ∧ n ≤ b) := fun e => by
  rw [cIsIn_iff.2 e] at h; cases h
theorem cRot_eq (l : List Cred) (key : Str) (now ov span : Int) : cRot l key now ov span = rotC l key now ov span := by
  unfold cRot rotC
  cases h1 : cRight l
  · simp
  · cases h2 : mRight key
    · simp
    · simp only [Bool.not_true, Bool.false_eq_true, if_false, not_true_eq_false]
      cases h3 : cIsIn now 0 1000000000000
      · have := cIsIn_false h3
        simp only [Bool.not_false, if_true]
        rw [if_pos (by omega)]
      · have g3 := cIsIn_iff.1 h3
        cases h4 : cIsIn ov 0 1000000000
        · have := cIsIn_false h4
          simp only [Bool.not_true, Bool.not_false, Bool.false_eq_true, if_false, if_true]
          rw [if_pos (by omega)]
        · have g4 := cIsIn_iff.1 h4
          cases h5 : cIsIn span 1 1000000000
          · have := cIsIn_false h5
            simp only [Bool.not_true, Bool.not_false, Bool.false_eq_true, if_false, if_true]
            rw [if_pos (by omega)]
          · have g5 := cIsIn_iff.1 h5
            simp only [Bool.not_true, Bool.false_eq_true, if_false]
            by_cases h6 : 1000000000000 < now + span
            · rw [if_pos h6, if_pos (by omega)]
            · rw [if_neg h6, if_neg (show ¬ ¬ _ by omega)]
              have e := cRot_l0_eq l key now ov span (l.length + 1) 0 [] 1 (by omega)
              simp only [run3]
              rw [List.drop_zero, List.nil_append] at e
              rw [e]
              simp only [List.length_append, List.length_cons, List.length_nil]
              by_cases h7 : 4 < (l.filterMap (trimC now ov)).length + 1
              · rw [if_pos (by omega), if_pos (.inl h7)]
              · rw [if_neg (by omega)]
                by_cases h8 : 1000000000 < idC 1 l
                · rw [if_pos h8, if_pos (.inr h8)]
                · rw [if_neg h8, if_neg (by simp [h7, h8])]
theorem rcRot_eq (l : List Cred) (key : Str) (now ov span : Int) : rcRot l key now ov span = cRot l key now ov span := by
  rw [cRot_eq]
  unfold rcRot rotC
  rw [rcRight_eq, rmRight_eq]
  cases h1 : cRight l
  · simp
  · cases h2 : mRight key
    · simp
    · simp only [Bool.not_true, Bool.false_eq_true, if_false, not_true_eq_false]
      by_cases hr : ((0 ≤ now ∧ now ≤ 1000000000000) ∧ (0 ≤ ov ∧ ov ≤ 1000000000) ∧ (1 ≤ span ∧ span ≤ 1000000000) ∧ now + span ≤ 1000000000000)
      · rw [if_neg (by omega), if_neg (by omega), if_neg (by omega), if_neg (by omega), if_neg (by omega), if_neg (by omega), if_neg (by omega), if_neg (not_not_intro hr)]
        have e := rcRot_l0_eq l key now ov span (l.length + 1) 0 [] 1 (by omega)
        simp only [run3]
        rw [List.drop_zero, List.nil_append] at e
        have e1 := congrArg Prod.fst e
        have e2 := congrArg Prod.snd e
        simp only at e1 e2
        rw [e1, e2]
        simp only [List.length_append, List.length_cons, List.length_nil]
        by_cases h7 : 4 < (l.filterMap (trimC now ov)).length + 1
        · rw [if_pos (by omega), if_pos (.inl h7)]
        · rw [if_neg (by omega)]
          by_cases h8 : 1000000000 < idC 1 l
          · rw [if_pos h8, if_pos (.inr h8)]
          · rw [if_neg h8, if_neg (by simp [h7, h8])]
      · rw [if_pos hr]
        repeat' split
        all_goals first | rfl | omega
/-! ### ending -/
def endC (id now : Int) (c : Cred) : Option Cred := if c.id = id ∧ cHolds c now = true then (if c.frm < now then some ⟨c.id, c.key, c.frm, now⟩ else none) else if c.frm < c.to then some c else none
def foundC (id now : Int) (c : Cred) : Bool := decide (c.id = id) && cHolds c now
theorem cEnd_l0_eq (l : List Cred) (id now : Int) : ∀ n k out f, l.length < n + k → (cEnd_l0 l id now n k out f).2 = (out ++ (l.drop k).filterMap (endC id now), f || (l.drop k).any (foundC id now))
  | 0, k, out, f, h => by
    rw [drop_none l k (by omega)]
    simp [cEnd_l0]
  | n + 1, k, out, f, h => by
    rw [cEnd_l0]
    by_cases hk : k < l.length
    · rw [if_pos (by omega), drop_getD l k hk, List.filterMap_cons, List.any_cons]
      generalize l.getD k default = c
      by_cases h1 : c.id = id
      · rw [if_pos h1]
        cases h2 : cHolds c now
        · rw [if_neg (by simp), show foundC id now c = false by simp [foundC, h2], show endC id now c = if c.frm < c.to then some c else none by simp [endC, h2]]
          by_cases h3 : c.frm < c.to
          · rw [if_pos h3, if_pos h3, cEnd_l0_eq l id now n (k + 1) _ _ (by omega)]; simp
          · rw [if_neg h3, if_neg h3, cEnd_l0_eq l id now n (k + 1) _ _ (by omega)]; simp
        · rw [if_pos rfl, show foundC id now c = true by simp [foundC, h2, h1]]
          by_cases h3 : c.frm < now
          · rw [if_pos h3, cEnd_l0_eq l id now n (k + 1) _ _ (by omega), show endC id now c = some ⟨c.id, c.key, c.frm, now⟩ by simp [endC, h2, h1, h3]]; simp
          · rw [if_neg h3, cEnd_l0_eq l id now n (k + 1) _ _ (by omega), show endC id now c = none by simp [endC, h2, h1, h3]]; simp
      · rw [if_neg h1, show foundC id now c = false by simp [foundC, h1], show endC id now c = if c.frm < c.to then some c else none by simp [endC, h1]]
        by_cases h3 : c.frm < c.to
        · rw [if_pos h3, if_pos h3, cEnd_l0_eq l id now n (k + 1) _ _ (by omega)]; simp
        · rw [if_neg h3, if_neg h3, cEnd_l0_eq l id now n (k + 1) _ _ (by omega)]; simp
    · rw [if_neg (by omega), drop_none l k hk]
      simp
theorem rcEnd_l0_same (l : List Cred) (id now : Int) : ∀ n k out f, rcEnd_l0 l id now n k out f = cEnd_l0 l id now n k out f
  | 0, _, _, _ => rfl
  | n + 1, k, out, f => by
    rw [rcEnd_l0, cEnd_l0]
    simp only [rcEnd_l0_same l id now n, rcHolds_eq]
theorem cEnd_eq (l : List Cred) (id now : Int) : cEnd l id now = if ¬ cRight l = true then ([], 110) else if ¬ (0 ≤ now ∧ now ≤ 1000000000000) then ([], 2) else if l.any (foundC id now) = true then (l.filterMap (endC id now), 0) else ([], 2) := by
  unfold cEnd
  cases h1 : cRight l
  · simp
  · simp only [Bool.not_true, Bool.false_eq_true, if_false, not_true_eq_false]
    cases h3 : cIsIn now 0 1000000000000
    · have := cIsIn_false h3
      simp only [Bool.not_false, if_true]
      rw [if_pos (by omega)]
    · have g3 := cIsIn_iff.1 h3
      simp only [Bool.not_true, Bool.false_eq_true, if_false]
      rw [if_neg (show ¬ ¬ _ by omega)]
      have e := cEnd_l0_eq l id now (l.length + 1) 0 [] false (by omega)
      simp only [run3]
      rw [List.drop_zero, List.nil_append, Bool.false_or] at e
      rw [e]
      cases l.any (foundC id now) <;> simp
theorem rcEnd_eq (l : List Cred) (id now : Int) : rcEnd l id now = cEnd l id now := by
  unfold rcEnd cEnd
  rw [rcRight_eq]
  cases h1 : cRight l
  · simp
  · simp only [Bool.not_true, Bool.false_eq_true, if_false, rcEnd_l0_same]
    cases h3 : cIsIn now 0 1000000000000
    · have := cIsIn_false h3
      simp only [Bool.not_false, if_true]
      repeat' split
      all_goals first | rfl | omega
    · have g3 := cIsIn_iff.1 h3
      simp only [Bool.not_true, Bool.false_eq_true, if_false]
      rw [if_neg (by omega), if_neg (by omega)]
theorem lCredTurns_true (l : List Cred) (key : Str) (now overlap span id : Int) : lCredTurns l key now overlap span id = true := by
  unfold lCredTurns
  rw [if_pos cShown_true, rcRot_eq, rcEnd_eq, if_pos (rcSame_self _), if_pos rfl, if_pos rfl, if_pos (rcSame_self _)]
  simp
end Go.Proofs.YtcmondhpiahchaaGreatDoor.Jd
