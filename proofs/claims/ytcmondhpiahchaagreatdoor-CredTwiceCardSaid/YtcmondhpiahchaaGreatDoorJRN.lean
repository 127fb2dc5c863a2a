/- Plain facts on credentials, by the document's own answer. No condition. -/
import Derived.Test.YtcmondhpiahchaaGreatDoorJRM
import Derived.Test.YtcmondhpiahchaaGreatDoorJKN
namespace Go.Proofs.YtcmondhpiahchaaGreatDoor.Jd
set_option linter.unusedSimpArgs false
set_option linter.unusedVariables false
theorem rmRight_iff {key : Str} : rmRight key = true ↔ 1 ≤ key.length ∧ key.length ≤ 64 := by
  unfold rmRight
  split <;> simp <;> omega
/-- The i-th is good, and behind the one ahead of it. -/
def NextC (l : List Cred) (i : Nat) : Prop := GoodC (l.getD i default) ∧ (0 < i → (l.getD (i - 1) default).id < (l.getD i default).id)
theorem rcRight_l0_iff (l : List Cred) (b : Bool) : ∀ n k, l.length < n + k → (outc1 (rcRight_l0 l n k) (fun r => r) (fun _ => b) = true ↔ b = true ∧ ∀ i, k ≤ i → i < l.length → NextC l i)
  | 0, k, h => by
    simp only [rcRight_l0, outc1]
    exact ⟨fun hb => ⟨hb, fun i h1 h2 => by omega⟩, fun hb => hb.1⟩
  | n + 1, k, h => by
    have hp : (((k : Nat) : Int) - 1).toNat = k - 1 := by omega
    by_cases hk : k < l.length
    · by_cases hb : NextC l k
      · have e : rcRight_l0 l (n + 1) k = rcRight_l0 l n (k + 1) := by
          obtain ⟨⟨h1, h2, h3, h4, h5⟩, h6⟩ := hb
          have hm := rmRight_iff.2 h2
          rw [rcRight_l0, if_pos (by omega), if_neg (by omega), if_neg (by omega), hp, hm]
          by_cases h0 : 0 < ((k : Nat) : Int)
          · have := h6 (by omega)
            rw [if_pos h0, if_neg (by omega), if_neg (by simp), if_neg (by omega), if_neg (by omega), if_neg (by omega)]
          · rw [if_neg h0, if_neg (by simp), if_neg (by omega), if_neg (by omega), if_neg (by omega)]
        rw [e, rcRight_l0_iff l b n (k + 1) (by omega)]
        constructor
        · rintro ⟨g1, g2⟩
          refine ⟨g1, fun i hi hl => ?_⟩
          by_cases hik : i = k
          · subst hik; exact hb
          · exact g2 i (by omega) hl
        · rintro ⟨g1, g2⟩
          exact ⟨g1, fun i hi hl => g2 i (by omega) hl⟩
      · have e : rcRight_l0 l (n + 1) k = .error false := by
          rw [rcRight_l0, if_pos (by omega), hp]
          repeat' split
          all_goals first
            | rfl
            | (exfalso
               apply hb
               have hm : rmRight (l.getD k default).key = true := by simp_all
               have := rmRight_iff.1 hm
               exact ⟨⟨by omega, this, by omega, by omega, by omega⟩, fun _ => by omega⟩)
        rw [e]
        simp only [outc1]
        exact ⟨nofun, fun ⟨_, g2⟩ => absurd (g2 k (Nat.le_refl _) hk) hb⟩
    · rw [rcRight_l0, if_neg (by omega)]
      simp only [outc1]
      exact ⟨fun hb => ⟨hb, fun i h1 h2 => by omega⟩, fun hb => hb.1⟩
theorem pairs_of_next {l : List Cred} (h : ∀ i, 0 < i → i < l.length → (l.getD (i - 1) default).id < (l.getD i default).id) : l.Pairwise fun a b => a.id < b.id := by
  have key : ∀ d i, i + d + 1 < l.length → (l.getD i default).id < (l.getD (i + d + 1) default).id := by
    intro d
    induction d with
    | zero => intro i hi; exact h (i + 1) (by omega) hi
    | succ d ih =>
      intro i hi
      have h1 := ih i (by omega)
      have h2 := h (i + (d + 1) + 1) (by omega) hi
      rw [show i + (d + 1) + 1 - 1 = i + d + 1 by omega] at h2
      omega
  rw [List.pairwise_iff_getElem]
  intro i j hi hj hij
  have := key (j - i - 1) i (by omega)
  rw [show i + (j - i - 1) + 1 = j by omega] at this
  simpa [List.getD, hi, hj] using this
theorem rcRight_iff {l : List Cred} : rcRight l = true ↔ RightL l := by
  unfold rcRight RightL
  rw [rcRight_l0_iff l _ _ _ (by omega), decide_eq_true_eq]
  constructor
  · rintro ⟨h1, h2⟩
    refine ⟨by omega, fun c hc => ?_, pairs_of_next fun i hi hl => (h2 i (by omega) hl).2 hi⟩
    obtain ⟨i, hi, rfl⟩ := List.mem_iff_getElem.1 hc
    have := (h2 i (by omega) hi).1
    simpa [List.getD, hi] using this
  · rintro ⟨h1, h2, h3⟩
    refine ⟨by omega, fun i _ hi => ⟨?_, fun h0 => ?_⟩⟩
    · have := h2 l[i] (List.getElem_mem hi)
      simpa [List.getD, hi] using this
    · have := List.pairwise_iff_getElem.1 h3 (i - 1) i (by omega) hi (by omega)
      simpa [List.getD, hi, show i - 1 < l.length by omega] using this
theorem rcRight_eq (l : List Cred) : rcRight l = cRight l := by
  cases h : cRight l
  · cases h2 : rcRight l
    · rfl
    · have := cRight_iff.2 (rcRight_iff.1 h2)
      rw [h] at this; cases this
  · exact rcRight_iff.2 (cRight_iff.1 h)
theorem rcRight_t {l : List Cred} (h : rcRight l = true) : RightC l := cRight_t (by rw [← rcRight_eq]; exact h)
end Go.Proofs.YtcmondhpiahchaaGreatDoor.Jd
