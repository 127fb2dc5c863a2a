/- The plain laws of ports: PortsMeet, PortsSelf. No condition. -/
import Derived.Test.YtnnafnjdngjkoaaDoorJQN
import Derived.Test.YtnnafnjdngjkoaaDoorJQO
import Derived.Test.YtnnafnjdngjkoaaDoorJPD
namespace Go.Proofs.YtnnafnjdngjkoaaDoor.Jd
set_option linter.unusedVariables false
set_option linter.unusedSimpArgs false
theorem q1 : pParse [56, 48, 45, 57, 48] = (⟨80, 90⟩, 0) := by unfold pParse pPrint; rw [itoaF_eq]; kernel_rfl
theorem q2 : pParse [42] = (⟨0, 65535⟩, 0) := by unfold pParse pPrint; rw [itoaF_eq]; kernel_rfl
theorem q3 : tParse [49, 46, 50, 46, 51, 46, 52, 58, 56, 48] = (⟨16909060, 80⟩, 0) := by unfold tParse tPrint aParse aPrint; rw [aNumberF_eq, itoaF_eq]; kernel_rfl
theorem q4 : tPrint ⟨16909060, 80⟩ = ([49, 46, 50, 46, 51, 46, 52, 58, 56, 48], 0) := by unfold tPrint aPrint; rw [itoaF_eq]; kernel_rfl
theorem q5 : pParse [56, 48, 45, 56, 48] = (⟨0, 0⟩, 70) := by unfold pParse pPrint; rw [itoaF_eq]; kernel_rfl
theorem q6 : tParse [49, 46, 50, 46, 51, 46, 52, 58, 48] = (⟨0, 0⟩, 71) := by unfold tParse tPrint aParse aPrint; rw [aNumberF_eq, itoaF_eq]; kernel_rfl
theorem q7 : pMeet ⟨80, 90⟩ ⟨0, 65535⟩ = (⟨80, 90⟩, true) := by kernel_rfl
theorem q8 : pHas ⟨80, 90⟩ 80 = true := by kernel_rfl
theorem q9 : pHas ⟨80, 90⟩ 91 = false := by kernel_rfl
theorem pShown_true : pShown = true := by
  unfold pShown
  simp [q1, q2, q3, q4, q5, q6, q7, q8, q9]
theorem pRight_d (p : PortsT) : pRight p = decide (0 ≤ p.lo ∧ p.lo ≤ p.hi ∧ p.hi ≤ 65535) := by
  rw [Bool.eq_iff_iff, decide_eq_true_eq]
  refine ⟨pRight_t, fun h => ?_⟩
  unfold pRight
  rw [if_neg (by omega), if_neg (by omega), if_neg (by omega)]
theorem pHas_d (p : PortsT) (n : Int) : pHas p n = decide ((0 ≤ p.lo ∧ p.lo ≤ p.hi ∧ p.hi ≤ 65535) ∧ p.lo ≤ n ∧ n ≤ p.hi) := by
  unfold pHas
  rw [pRight_d]
  by_cases h : 0 ≤ p.lo ∧ p.lo ≤ p.hi ∧ p.hi ≤ 65535 <;> by_cases h2 : p.lo ≤ n <;> simp [h, h2]
theorem pMeet_d (p q : PortsT) : pMeet p q = if (0 ≤ p.lo ∧ p.lo ≤ p.hi ∧ p.hi ≤ 65535) ∧ (0 ≤ q.lo ∧ q.lo ≤ q.hi ∧ q.hi ≤ 65535) ∧ p.lo ≤ q.hi ∧ q.lo ≤ p.hi then (⟨max p.lo q.lo, min p.hi q.hi⟩, true) else (⟨0, 0⟩, false) := by
  unfold pMeet
  simp only [pRight_d, Bool.not_eq_true', decide_eq_false_iff_not]
  have e1 : (if p.lo < q.lo then q.lo else p.lo) = max p.lo q.lo := by split <;> omega
  have e2 : (if q.hi < p.hi then q.hi else p.hi) = min p.hi q.hi := by split <;> omega
  rw [e1, e2]
  by_cases h1 : 0 ≤ p.lo ∧ p.lo ≤ p.hi ∧ p.hi ≤ 65535
  · by_cases h2 : 0 ≤ q.lo ∧ q.lo ≤ q.hi ∧ q.hi ≤ 65535
    · rw [if_neg (by simpa using h1), if_neg (by simpa using h2)]
      by_cases h3 : p.lo ≤ q.hi ∧ q.lo ≤ p.hi
      · rw [if_neg (by omega), if_pos ⟨h1, h2, h3⟩]
      · rw [if_pos (by omega), if_neg (by omega)]
    · rw [if_neg (by simpa using h1), if_pos h2, if_neg (fun h => h2 h.2.1)]
  · rw [if_pos h1, if_neg (fun h => h1 h.1)]
theorem lPortsMeet_true (p q : PortsT) (n : Int) : lPortsMeet p q n = true := by
  unfold lPortsMeet
  simp only [pShown_true, pHas_d, pMeet_d, pRight_d, if_true]
  by_cases h1 : (0 ≤ p.lo ∧ p.lo ≤ p.hi ∧ p.hi ≤ 65535) ∧ (0 ≤ q.lo ∧ q.lo ≤ q.hi ∧ q.hi ≤ 65535) ∧ p.lo ≤ q.hi ∧ q.lo ≤ p.hi
  · have h2 : (0 ≤ q.lo ∧ q.lo ≤ q.hi ∧ q.hi ≤ 65535) ∧ (0 ≤ p.lo ∧ p.lo ≤ p.hi ∧ p.hi ≤ 65535) ∧ q.lo ≤ p.hi ∧ p.lo ≤ q.hi := by omega
    simp only [if_pos h1, if_pos h2]
    rw [Int.max_comm q.lo, Int.min_comm q.hi]
    by_cases c1 : p.lo ≤ n <;> by_cases c2 : n ≤ p.hi <;> by_cases c3 : q.lo ≤ n <;> by_cases c4 : n ≤ q.hi <;> simp [h1.1, h1.2.1, c1, c2, c3, c4] <;> omega
  · have h2 : ¬ ((0 ≤ q.lo ∧ q.lo ≤ q.hi ∧ q.hi ≤ 65535) ∧ (0 ≤ p.lo ∧ p.lo ≤ p.hi ∧ p.hi ≤ 65535) ∧ q.lo ≤ p.hi ∧ p.lo ≤ q.hi) := by omega
    simp only [if_neg h1, if_neg h2]
    by_cases c1 : (0 ≤ p.lo ∧ p.lo ≤ p.hi ∧ p.hi ≤ 65535) ∧ p.lo ≤ n ∧ n ≤ p.hi <;> by_cases c2 : (0 ≤ q.lo ∧ q.lo ≤ q.hi ∧ q.hi ≤ 65535) ∧ q.lo ≤ n ∧ n ≤ q.hi
    · omega
    all_goals simp [c1, c2]
theorem lPortsSelf_true (p : PortsT) : lPortsSelf p = true := by
  unfold lPortsSelf
  simp only [pShown_true, pHas_d, pMeet_d, pRight_d, if_true]
  by_cases h : 0 ≤ p.lo ∧ p.lo ≤ p.hi ∧ p.hi ≤ 65535
  · have h1 : (0 ≤ p.lo ∧ p.lo ≤ p.hi ∧ p.hi ≤ 65535) ∧ (0 ≤ p.lo ∧ p.lo ≤ p.hi ∧ p.hi ≤ 65535) ∧ p.lo ≤ p.hi ∧ p.lo ≤ p.hi := by omega
    have h2 : (0 ≤ p.lo ∧ p.lo ≤ p.hi ∧ p.hi ≤ 65535) ∧ ((0 : Int) ≤ 0 ∧ (0 : Int) ≤ 65535 ∧ (65535 : Int) ≤ 65535) ∧ p.lo ≤ 65535 ∧ 0 ≤ p.hi := by omega
    have e1 : max p.lo 0 = p.lo := by omega
    have e2 : min p.hi 65535 = p.hi := by omega
    simp only [if_pos h1, if_pos h2, e1, e2, Int.max_self, Int.min_self]
    simp [h]
    omega
  · have h1 : ¬ ((0 ≤ p.lo ∧ p.lo ≤ p.hi ∧ p.hi ≤ 65535) ∧ (0 ≤ p.lo ∧ p.lo ≤ p.hi ∧ p.hi ≤ 65535) ∧ p.lo ≤ p.hi ∧ p.lo ≤ p.hi) := fun h2 => h h2.1
    have h2 : ¬ ((0 ≤ p.lo ∧ p.lo ≤ p.hi ∧ p.hi ≤ 65535) ∧ ((0 : Int) ≤ 0 ∧ (0 : Int) ≤ 65535 ∧ (65535 : Int) ≤ 65535) ∧ p.lo ≤ 65535 ∧ 0 ≤ p.hi) := fun h2 => h h2.1
    simp only [if_neg h1, if_neg h2]
    simp [h]
end Go.Proofs.YtnnafnjdngjkoaaDoor.Jd
