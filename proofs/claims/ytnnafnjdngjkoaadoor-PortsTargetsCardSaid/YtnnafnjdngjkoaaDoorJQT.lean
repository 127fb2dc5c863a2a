/- The plain law of ports: PortsBack. No condition. -/
import Derived.Test.YtnnafnjdngjkoaaDoorJQS
namespace Go.Proofs.YtnnafnjdngjkoaaDoor.Jd
set_option linter.unusedVariables false
set_option linter.unusedSimpArgs false
theorem pback {p : PortsT} {s : Str} (h : pPrint p = (s, 0)) : pParse s = (p, 0) := by
  rw [pParse_eq, rPParse_u, uniq h, if_pos h]
theorem tback {t : Target} {s : Str} (h : tPrint t = (s, 0)) : tParse s = (t, 0) := by
  rw [tParse_u, (tuniq h).1, if_pos ⟨(tuniq h).2.2, h⟩]
theorem pfound {s : Str} (h : (pParse s).2 = 0) : pPrint (pParse s).1 = (s, 0) := by
  rw [pParse_eq, rPParse_u] at h ⊢
  by_cases c : pPrint (cnd s) = (s, 0)
  · rw [if_pos c]; exact c
  · rw [if_neg c] at h; simp at h
theorem tfound {s : Str} (h : (tParse s).2 = 0) : tPrint (tParse s).1 = (s, 0) := by
  rw [tParse_u] at h ⊢
  by_cases c : (rParse (Lib.cut s [58]).1).2 = 0 ∧ tPrint (tc1 s) = (s, 0)
  · rw [if_pos c]; exact c.2
  · rw [if_neg c] at h; simp at h
theorem pt_apart {s : Str} (h1 : (pParse s).2 = 0) (h2 : (tParse s).2 = 0) : False := by
  obtain ⟨_, _, e⟩ := tprint_cases (tfound h2)
  have hm : (58 : UInt8) ∈ s := by rw [e]; simp
  obtain ⟨hb, ⟨_, e2⟩ | ⟨_, e2⟩ | ⟨_, e2⟩⟩ := print_cases (pfound h1)
  · rw [e2] at hm; revert hm; decide
  · rw [e2] at hm; exact dig_ne58 (itoa_dig (by omega)) _ hm rfl
  · rw [e2] at hm
    simp only [List.mem_append, List.mem_singleton] at hm
    rcases hm with (hm | hm) | hm
    · exact dig_ne58 (itoa_dig (by omega)) _ hm rfl
    · revert hm; decide
    · exact dig_ne58 (itoa_dig (by omega)) _ hm rfl
theorem pr_right (p : PortsT) : decide ((pPrint p).2 = 0) = pRight p := by
  unfold pPrint
  cases pRight p
  · simp
  · simp only [Bool.not_true, Bool.false_eq_true, if_false]; split
    · simp
    · split <;> simp
theorem lPortsBack_true (p : PortsT) (t : Target) (s : Str) : lPortsBack p t s = true := by
  unfold lPortsBack
  generalize pCut s = s'
  have hp : (pPrint p).2 = 0 → pParse (pPrint p).1 = (p, 0) := fun h => pback (Prod.ext rfl h)
  have ht : (tPrint t).2 = 0 → tParse (tPrint t).1 = (t, 0) := fun h => tback (Prod.ext rfl h)
  have hc : (pParse s').2 = 0 → pPrint (pParse s').1 = (s', 0) := pfound
  have hd : (tParse s').2 = 0 → tPrint (tParse s').1 = (s', 0) := tfound
  have hx : (pParse s').2 = 0 → (tParse s').2 = 0 → False := pt_apart
  simp only [pr_right, pShown_true, beq_self_eq_true, if_true]
  by_cases a : (pPrint p).2 = 0 <;> by_cases b : (tPrint t).2 = 0 <;> by_cases c : (pParse s').2 = 0 <;> by_cases d : (tParse s').2 = 0 <;>
    first
    | exact (hx c d).elim
    | (simp only [a, b, c, d, hp, ht, hc, hd, if_true, if_false, ne_eq, not_true, not_false_eq_true, and_self, decide_true]; done)
    | simp [a, b, c, d, hp, ht, hc, hd]
end Go.Proofs.YtnnafnjdngjkoaaDoor.Jd
