/- The plain laws of ports: what is printed is read. No condition. -/
import Derived.Test.YtnnafnjdngjkoaaDoorJQR
import Derived.Test.YtnnafnjdngjkoaaDoorJPF
namespace Go.Proofs.YtnnafnjdngjkoaaDoor.Jd
set_option linter.unusedVariables false
set_option linter.unusedSimpArgs false
theorem cut45 (s : Str) : rCut s 45 = Lib.cut s [45] := rCut_eq s 45
theorem cut58 (s : Str) : rCut s 58 = Lib.cut s [58] := rCut_eq s 58
theorem rPRight_d (p : PortsT) : rPRight p = decide (0 ≤ p.lo ∧ p.lo ≤ p.hi ∧ p.hi ≤ 65535) := by
  rw [Bool.eq_iff_iff, decide_eq_true_eq]
  refine ⟨rPRight_t, fun h => ?_⟩
  unfold rPRight
  rw [if_pos (by omega), if_pos (by omega)]; simp; omega
theorem rPRight_eq (p : PortsT) : rPRight p = pRight p := by rw [rPRight_d, pRight_d]
theorem rPPrint_eq (p : PortsT) : rPPrint p = pPrint p := by
  unfold rPPrint pPrint
  rw [rPRight_eq]
  by_cases h1 : p.lo = 0 <;> by_cases h2 : p.hi = 65535 <;> simp [h1, h2]
theorem rPHas_eq (p : PortsT) (n : Int) : rPHas p n = pHas p n := by unfold rPHas pHas; rw [rPRight_eq]
theorem rPMeet_eq (p q : PortsT) : rPMeet p q = pMeet p q := by
  unfold rPMeet pMeet
  rw [rPRight_eq, rPRight_eq]
  cases h1 : pRight p
  · simp
  cases h2 : pRight q
  · simp
  have a := pRight_t h1
  have b := pRight_t h2
  simp only [pRight_d, Bool.not_true, Bool.false_eq_true, if_false]
  have e1 : (if p.lo < q.lo then q.lo else p.lo) = max p.lo q.lo := by split <;> omega
  have e2 : (if q.hi < p.hi then q.hi else p.hi) = min p.hi q.hi := by split <;> omega
  rw [e1, e2]
  by_cases h3 : min p.hi q.hi < max p.lo q.lo
  · rw [if_pos h3, if_pos (by simp; omega)]
  · rw [if_neg h3, if_neg (by simp; omega)]
theorem rTPrint_eq (t : Target) : rTPrint t = tPrint t := by unfold rTPrint tPrint; rw [aPrint_eq]
theorem pNumber_l0_dig (s : Str) : ∀ (n : Nat) (a : Int) (i : Nat), s.length < i + n → i ≤ s.length → (∀ b ∈ s.drop i, isDig b) → 0 ≤ a → valD (s.drop i) a ≤ 65535 → pNumber_l0 s n a i = .ok (valD (s.drop i) a, s.length)
  | 0, a, i, h, _, _, _, _ => by omega
  | n + 1, a, i, h, hle, hd, ha, hm => by
    unfold pNumber_l0
    by_cases hi : i < s.length
    · have e : s.drop i = s.getD i default :: s.drop (i + 1) := by
        rw [List.drop_eq_getElem_cons hi]; simp [List.getD, hi]
      rw [e] at hd hm ⊢
      have hb := hd _ List.mem_cons_self
      unfold isDig at hb
      have hmono := valD_mono (s.drop (i + 1)) (10 * a + (((s.getD i default).toNat : Int) - 48)) (fun x hx => hd x (List.mem_cons_of_mem _ hx)) (by omega)
      have hv : valD (s.getD i default :: s.drop (i + 1)) a = valD (s.drop (i + 1)) (10 * a + (((s.getD i default).toNat : Int) - 48)) := rfl
      rw [hv] at hm ⊢
      rw [dec_lo hi (by omega), if_pos hi]
      dsimp only
      rw [if_neg (by omega), if_neg (by omega)]
      rw [show a * 10 + (((s.getD i default).toNat : Int) - 48) = 10 * a + (((s.getD i default).toNat : Int) - 48) by omega]
      exact pNumber_l0_dig s n _ (i + 1) (by omega) (by omega) (fun x hx => hd x (List.mem_cons_of_mem _ hx)) (by omega) hm
    · have h2 : i = s.length := by omega
      rw [if_neg hi, h2, List.drop_length]
      rfl
theorem pNumber_itoa {n : Int} (h : 0 ≤ n ∧ n ≤ 65535) : pNumber (Lib.itoa n) = n := by
  have e : Lib.itoa n = Lib.decDigits n.toNat := by unfold Lib.itoa; rw [if_neg (by omega)]
  have hv : valD (Lib.decDigits n.toNat) 0 = n := by rw [decDigits_val]; omega
  unfold pNumber
  rw [pNumber_l0_dig (Lib.itoa n) _ 0 0 (by omega) (by omega) (by rw [e]; simpa using decDigits_dig _) (by omega) (by rw [e]; simp [hv]; omega)]
  rw [List.drop_zero, e, hv]
  rfl
def P0 : PortsT := ⟨0, 65535⟩
def one (s : Str) : PortsT := ⟨pNumber s, pNumber s⟩
def two (s : Str) : PortsT := ⟨pNumber (Lib.cut s [45]).1, pNumber (Lib.cut s [45]).2.1⟩
def cnd (s : Str) : PortsT := if s = [42] then P0 else if (Lib.cut s [45]).2.2 = true then ⟨(rNumber (Lib.cut s [45]).1 65535).1, (rNumber (Lib.cut s [45]).2.1 65535).1⟩ else ⟨(rNumber (Lib.cut s [45]).1 65535).1, (rNumber (Lib.cut s [45]).1 65535).1⟩
theorem pr_iff {x : Str × Int} {s : Str} : x = (s, 0) ↔ x.2 = 0 ∧ x.1 = s := by
  obtain ⟨a, b⟩ := x; simp only [Prod.mk.injEq]; exact And.comm
theorem pParse_u (s : Str) : pParse s = if pPrint P0 = (s, 0) then (P0, 0) else if pPrint (one s) = (s, 0) then (one s, 0) else if pPrint (two s) = (s, 0) then (two s, 0) else (⟨0, 0⟩, 70) := by
  unfold pParse
  simp only [pr_iff]
  unfold P0 one two
  by_cases a1 : (pPrint ⟨0, 65535⟩).2 = 0 <;> by_cases a2 : (pPrint ⟨0, 65535⟩).1 = s <;> by_cases b1 : (pPrint ⟨pNumber s, pNumber s⟩).2 = 0 <;> by_cases b2 : (pPrint ⟨pNumber s, pNumber s⟩).1 = s <;> simp only [a1, a2, b1, b2, if_true, if_false, and_self, and_true, true_and, and_false, false_and]
  all_goals (by_cases c1 : (pPrint ⟨pNumber (Lib.cut s [45]).1, pNumber (Lib.cut s [45]).2.1⟩).2 = 0 <;> by_cases c2 : (pPrint ⟨pNumber (Lib.cut s [45]).1, pNumber (Lib.cut s [45]).2.1⟩).1 = s <;> simp [c1, c2])
theorem rPParse_u (s : Str) : rPParse s = if pPrint (cnd s) = (s, 0) then (cnd s, 0) else (⟨0, 0⟩, 70) := by
  unfold rPParse cnd P0
  simp only [pr_iff, rPPrint_eq, cut45]
  by_cases h : s = [42]
  · subst h; simp only [ne_eq, not_true, if_false, if_true]
    by_cases c1 : (pPrint ⟨0, 65535⟩).2 = 0 <;> by_cases c2 : (pPrint ⟨0, 65535⟩).1 = [42] <;> simp [c1, c2]
  · simp only [ne_eq, h, not_false_eq_true, if_true, if_false]
    by_cases h2 : (Lib.cut s [45]).2.2 = true
    · simp only [h2, if_true]
      by_cases c1 : (pPrint ⟨(rNumber (Lib.cut s [45]).1 65535).1, (rNumber (Lib.cut s [45]).2.1 65535).1⟩).2 = 0 <;> by_cases c2 : (pPrint ⟨(rNumber (Lib.cut s [45]).1 65535).1, (rNumber (Lib.cut s [45]).2.1 65535).1⟩).1 = s <;> simp [c1, c2]
    · simp only [h2, if_false]
      by_cases c1 : (pPrint ⟨(rNumber (Lib.cut s [45]).1 65535).1, (rNumber (Lib.cut s [45]).1 65535).1⟩).2 = 0 <;> by_cases c2 : (pPrint ⟨(rNumber (Lib.cut s [45]).1 65535).1, (rNumber (Lib.cut s [45]).1 65535).1⟩).1 = s <;> simp [c1, c2]
theorem print_cases {p : PortsT} {s : Str} (h : pPrint p = (s, 0)) : (0 ≤ p.lo ∧ p.lo ≤ p.hi ∧ p.hi ≤ 65535) ∧ ((p = P0 ∧ s = [42]) ∨ (p.lo = p.hi ∧ s = Lib.itoa p.lo) ∨ (p.lo ≠ p.hi ∧ s = Lib.itoa p.lo ++ [45] ++ Lib.itoa p.hi)) := by
  unfold pPrint at h
  cases hr : pRight p
  · rw [hr, if_pos (by simp)] at h; simp at h
  · have hb := pRight_t hr
    refine ⟨hb, ?_⟩
    rw [hr, if_neg (by simp)] at h
    by_cases h1 : p.lo = 0 ∧ p.hi = 65535
    · rw [if_pos h1] at h
      simp only [Prod.mk.injEq] at h
      obtain ⟨a, b⟩ := p
      simp only at h1
      exact .inl ⟨by rw [h1.1, h1.2]; rfl, h.1.symm⟩
    · rw [if_neg h1] at h
      by_cases h2 : p.lo = p.hi
      · rw [if_pos h2] at h
        simp only [Prod.mk.injEq] at h
        exact .inr (.inl ⟨h2, h.1.symm⟩)
      · rw [if_neg h2] at h
        simp only [Prod.mk.injEq] at h
        exact .inr (.inr ⟨h2, h.1.symm⟩)
theorem itoa_no {n : Int} (h : 0 ≤ n) : Lib.itoa n ≠ [42] := fun e => by
  have := itoa_dig h 42 (by rw [e]; exact List.mem_cons_self)
  unfold isDig at this
  simp at this
theorem cand {p : PortsT} {s : Str} (h : pPrint p = (s, 0)) : p = P0 ∨ p = one s ∨ p = two s := by
  obtain ⟨hb, h1 | ⟨h1, rfl⟩ | ⟨h1, rfl⟩⟩ := print_cases h
  · exact .inl h1.1
  · refine .inr (.inl ?_)
    obtain ⟨a, b⟩ := p
    simp only at h1 hb ⊢
    subst h1
    unfold one
    rw [pNumber_itoa (by omega)]
  · refine .inr (.inr ?_)
    obtain ⟨a, b⟩ := p
    simp only at h1 hb ⊢
    unfold two
    rw [cut_at _ _ (dig_ne (itoa_dig (by omega)) (by decide)), pNumber_itoa (by omega), pNumber_itoa (by omega)]
theorem uniq {p : PortsT} {s : Str} (h : pPrint p = (s, 0)) : cnd s = p := by
  obtain ⟨hb, ⟨rfl, rfl⟩ | ⟨h1, rfl⟩ | ⟨h1, rfl⟩⟩ := print_cases h
  · rfl
  · obtain ⟨a, b⟩ := p
    simp only at h1 hb ⊢
    subst h1
    unfold cnd
    rw [if_neg (itoa_no (by omega)), cut_not _ (dig_ne (itoa_dig (by omega)) (by decide)), if_neg (by simp)]
    simp only [number_itoa (show 0 ≤ a ∧ a ≤ 65535 by omega)]
  · obtain ⟨a, b⟩ := p
    simp only at h1 hb ⊢
    unfold cnd
    rw [if_neg (fun e => by
      have : (45 : UInt8) ∈ ([42] : Str) := by rw [← e]; simp
      simp at this), cut_at _ _ (dig_ne (itoa_dig (by omega)) (by decide)), if_pos rfl]
    simp only [number_itoa (show 0 ≤ a ∧ a ≤ 65535 by omega), number_itoa (show 0 ≤ b ∧ b ≤ 65535 by omega)]
theorem pParse_eq (s : Str) : pParse s = rPParse s := by
  rw [pParse_u, rPParse_u]
  by_cases h1 : pPrint P0 = (s, 0)
  · rw [if_pos h1, uniq h1, if_pos h1]
  by_cases h2 : pPrint (one s) = (s, 0)
  · rw [if_neg h1, if_pos h2, uniq h2, if_pos h2]
  by_cases h3 : pPrint (two s) = (s, 0)
  · rw [if_neg h1, if_neg h2, if_pos h3, uniq h3, if_pos h3]
  rw [if_neg h1, if_neg h2, if_neg h3, if_neg]
  intro h
  rcases cand h with e | e | e
  · rw [e] at h; exact h1 h
  · rw [e] at h; exact h2 h
  · rw [e] at h; exact h3 h
theorem lPortsTexts_true (p q : PortsT) (s : Str) (n : Int) : lPortsTexts p q s n = true := by
  unfold lPortsTexts
  simp only [pShown_true, rPPrint_eq, pParse_eq, rPMeet_eq, rPHas_eq, rPRight_eq, beq_self_eq_true, and_self, if_true]
/-! ### targets -/
theorem dig_ne58 {l : Str} (h : ∀ b ∈ l, isDig b) : ∀ b ∈ l, b ≠ 58 := fun b hb e => by
  have := (h b hb).2; subst e; revert this; decide
theorem rPrint_no58 {a : Int} : ∀ b ∈ (rPrint a).1, b ≠ 58 := by
  by_cases h : 0 ≤ a ∧ a ≤ 4294967295
  · unfold rPrint
    rw [← isAddr_eq, isAddr_iff.2 h]
    simp only [Bool.not_true, Bool.false_eq_true, if_false]
    intro b hb
    simp only [List.mem_append, List.mem_singleton] at hb
    rcases hb with (((((hb | hb) | hb) | hb) | hb) | hb) | hb
    · exact dig_ne58 (itoa_dig (by omega)) b hb
    · subst hb; decide
    · exact dig_ne58 (itoa_dig (by omega)) b hb
    · subst hb; decide
    · exact dig_ne58 (itoa_dig (by omega)) b hb
    · subst hb; decide
    · exact dig_ne58 (itoa_dig (by omega)) b hb
  · rw [rPrint_bad h]; intro b hb; cases hb
theorem tprint_cases {t : Target} {s : Str} (h : tPrint t = (s, 0)) : (0 ≤ t.addr ∧ t.addr ≤ 4294967295) ∧ (1 ≤ t.port ∧ t.port ≤ 65535) ∧ s = (rPrint t.addr).1 ++ [58] ++ Lib.itoa t.port := by
  unfold tPrint at h
  rw [aPrint_eq] at h
  by_cases ha : 0 ≤ t.addr ∧ t.addr ≤ 4294967295
  · rw [if_neg (by rw [(parse_print ha).2]; simp)] at h
    by_cases h1 : t.port < 1
    · rw [if_pos h1] at h; simp at h
    by_cases h2 : 65535 < t.port
    · rw [if_neg h1, if_pos h2] at h; simp at h
    rw [if_neg h1, if_neg h2] at h
    simp only [Prod.mk.injEq] at h
    exact ⟨ha, by omega, h.1.symm⟩
  · rw [rPrint_bad ha] at h; simp at h
def tc1 (s : Str) : Target := ⟨(rParse (Lib.cut s [58]).1).1, pNumber (Lib.cut s [58]).2.1⟩
def tc2 (s : Str) : Target := ⟨(rParse (Lib.cut s [58]).1).1, (rNumber (Lib.cut s [58]).2.1 65535).1⟩
theorem tuniq {t : Target} {s : Str} (h : tPrint t = (s, 0)) : tc1 s = t ∧ tc2 s = t ∧ (rParse (Lib.cut s [58]).1).2 = 0 := by
  obtain ⟨ha, hp, rfl⟩ := tprint_cases h
  obtain ⟨a, p⟩ := t
  simp only at ha hp ⊢
  unfold tc1 tc2
  rw [cut_at _ _ rPrint_no58]
  simp only [(parse_print ha).1, pNumber_itoa (show 0 ≤ p ∧ p ≤ 65535 by omega), number_itoa (show 0 ≤ p ∧ p ≤ 65535 by omega), and_self]
theorem tParse_u (s : Str) : tParse s = if (rParse (Lib.cut s [58]).1).2 = 0 ∧ tPrint (tc1 s) = (s, 0) then (tc1 s, 0) else (⟨0, 0⟩, 71) := by
  unfold tParse tc1
  simp only [aParse_eq, pr_iff]
  by_cases a : (rParse (Lib.cut s [58]).1).2 = 0 <;> by_cases b : (tPrint ⟨(rParse (Lib.cut s [58]).1).1, pNumber (Lib.cut s [58]).2.1⟩).2 = 0 <;> by_cases c : (tPrint ⟨(rParse (Lib.cut s [58]).1).1, pNumber (Lib.cut s [58]).2.1⟩).1 = s <;> simp [a, b, c]
theorem rTParse_u (s : Str) : rTParse s = if tPrint (tc2 s) = (s, 0) then (tc2 s, 0) else (⟨0, 0⟩, 71) := by
  unfold rTParse tc2
  simp only [rTPrint_eq, cut58, pr_iff]
  by_cases b : (tPrint ⟨(rParse (Lib.cut s [58]).1).1, (rNumber (Lib.cut s [58]).2.1 65535).1⟩).2 = 0 <;> by_cases c : (tPrint ⟨(rParse (Lib.cut s [58]).1).1, (rNumber (Lib.cut s [58]).2.1 65535).1⟩).1 = s <;> simp [b, c]
theorem tParse_eq (s : Str) : tParse s = rTParse s := by
  rw [tParse_u, rTParse_u]
  by_cases h : tPrint (tc2 s) = (s, 0)
  · have hu := tuniq h
    rw [if_pos h, if_pos ⟨hu.2.2, by rw [hu.1]; exact h⟩, hu.1]
  · rw [if_neg h, if_neg]
    rintro ⟨_, h2⟩
    have hu := tuniq h2
    rw [hu.2.1] at h
    exact h h2
theorem lPortsTargets_true (t : Target) (s : Str) : lPortsTargets t s = true := by
  unfold lPortsTargets
  simp only [pShown_true, rTPrint_eq, tParse_eq, and_self, if_true, decide_true]
end Go.Proofs.YtnnafnjdngjkoaaDoor.Jd
