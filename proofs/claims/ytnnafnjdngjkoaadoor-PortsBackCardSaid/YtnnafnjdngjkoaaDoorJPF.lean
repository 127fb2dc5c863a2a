/- Texts of addresses are read back. No condition. -/
import Derived.Test.YtnnafnjdngjkoaaDoorJPE
namespace Go.Proofs.YtnnafnjdngjkoaaDoor.Jd
set_option linter.unusedVariables false
set_option linter.unusedSimpArgs false
def isDig (b : UInt8) : Prop := 48 ≤ b.toNat ∧ b.toNat ≤ 57
def valD (l : Str) (a : Int) : Int := l.foldl (fun n b => 10 * n + ((b.toNat : Int) - 48)) a
theorem ofNat_toNat (k : Nat) : (UInt8.ofNat k).toNat = k % 256 := by simp
theorem decDigits_dig : ∀ (u : Nat), ∀ b ∈ Lib.decDigits u, isDig b := fun u => by
  induction u using Nat.strongRecOn with
  | ind u ih =>
    intro b hb
    rw [Lib.decDigits] at hb
    have hd : ∀ k, k < 10 → isDig (UInt8.ofNat (48 + k)) := fun k hk => by
      unfold isDig; rw [ofNat_toNat]; omega
    split at hb
    · rename_i h
      have hb := List.mem_singleton.1 hb; subst hb; exact hd u h
    · rcases List.mem_append.1 hb with hb | hb
      · exact ih _ (by omega) b hb
      · have hb := List.mem_singleton.1 hb; subst hb; exact hd _ (by omega)
theorem decDigits_val (u : Nat) : valD (Lib.decDigits u) 0 = u := by
  induction u using Nat.strongRecOn with
  | ind u ih =>
    rw [Lib.decDigits]
    split
    · rename_i h
      simp only [valD, List.foldl_cons, List.foldl_nil, ofNat_toNat]; omega
    · have := ih (u / 10) (by omega)
      unfold valD at *
      rw [List.foldl_append, this]
      simp only [List.foldl_cons, List.foldl_nil, ofNat_toNat]; omega
theorem valD_mono : ∀ (l : Str) (a : Int), (∀ b ∈ l, isDig b) → 0 ≤ a → a ≤ valD l a
  | [], a, _, _ => Int.le_refl _
  | b :: r, a, h, ha => by
    have hb := h b List.mem_cons_self
    unfold isDig at hb
    have := valD_mono r (10 * a + ((b.toNat : Int) - 48)) (fun x hx => h x (List.mem_cons_of_mem _ hx)) (by omega)
    unfold valD at *
    simp only [List.foldl_cons]
    omega
theorem number_l0_dig (s : Str) (m : Int) : ∀ (n : Nat) (a : Int) (i : Nat), s.length < i + n → i ≤ s.length → (∀ b ∈ s.drop i, isDig b) → 0 ≤ a → valD (s.drop i) a ≤ m → rNumber_l0 s m n a i = .ok (valD (s.drop i) a, s.length)
  | 0, a, i, h, _, _, _, _ => by omega
  | n + 1, a, i, h, hle, hd, ha, hm => by
    unfold rNumber_l0
    by_cases hi : i < s.length
    · have e : s.drop i = s.getD i default :: s.drop (i + 1) := by
        rw [List.drop_eq_getElem_cons hi]; simp [List.getD, hi]
      rw [e] at hd hm ⊢
      have hb := hd _ List.mem_cons_self
      unfold isDig at hb
      have hmono := valD_mono (s.getD i default :: s.drop (i + 1)) a hd ha
      rw [if_pos (by omega), if_neg (by omega), if_neg (by omega), if_neg (by omega)]
      exact number_l0_dig s m n _ (i + 1) (by omega) (by omega) (fun x hx => hd x (List.mem_cons_of_mem _ hx)) (by omega) hm
    · have h2 : i = s.length := by omega
      rw [if_neg (by omega), h2, List.drop_length]
      rfl
theorem number_itoa {n m : Int} (h : 0 ≤ n ∧ n ≤ m) : rNumber (Lib.itoa n) m = (n, true) := by
  have e : Lib.itoa n = Lib.decDigits n.toNat := by unfold Lib.itoa; rw [if_neg (by omega)]
  have hv : valD (Lib.decDigits n.toNat) 0 = n := by rw [decDigits_val]; omega
  unfold rNumber
  rw [number_l0_dig (Lib.itoa n) m _ 0 0 (by omega) (by omega) (by rw [e]; simpa using decDigits_dig _) (by omega) (by rw [e]; simp [hv]; omega)]
  rw [List.drop_zero, e, hv]
  simp [outc2, h.2, e]
theorem itoa_dig {n : Int} (h : 0 ≤ n) : ∀ b ∈ Lib.itoa n, isDig b := by
  unfold Lib.itoa; rw [if_neg (by omega)]; exact decDigits_dig _
theorem cut_at {c : UInt8} : ∀ (x r : Str), (∀ b ∈ x, b ≠ c) → Lib.cut (x ++ [c] ++ r) [c] = (x, r, true) := by
  intro x r hx
  have key : ∀ x : Str, (∀ b ∈ x, b ≠ c) → Lib.index (x ++ ([c] ++ r)) [c] = x.length := by
    intro x
    induction x with
    | nil => intro _; rw [List.nil_append]; simp [index_one]
    | cons b l ih =>
      intro h
      rw [List.cons_append, index_one, if_neg (h b List.mem_cons_self), ih (fun y hy => h y (List.mem_cons_of_mem _ hy)), if_neg (by omega)]
      simp
  unfold Lib.cut
  rw [List.append_assoc, key x hx, if_pos (by omega)]
  have e1 : ((x.length : Nat) : Int).toNat = x.length := by omega
  rw [e1]
  have e2 : (x ++ ([c] ++ r)).take x.length = x := by simp
  have e3 : (x ++ ([c] ++ r)).drop (x.length + [c].length) = r := by
    rw [← List.append_assoc, List.drop_append_of_le_length (by simp), List.drop_of_length_le (by simp)]; simp
  rw [e2, e3]
theorem cut_not {c : UInt8} (x : Str) (hx : ∀ b ∈ x, b ≠ c) : Lib.cut x [c] = (x, [], false) := by
  have key : ∀ x : Str, (∀ b ∈ x, b ≠ c) → Lib.index x [c] = -1 := by
    intro x
    induction x with
    | nil => intro _; simp [Lib.index]
    | cons b l ih =>
      intro h
      rw [index_one, if_neg (h b List.mem_cons_self), ih (fun y hy => h y (List.mem_cons_of_mem _ hy)), if_pos rfl]
  unfold Lib.cut
  rw [key x hx, if_neg (by omega)]
theorem dig_ne {l : Str} (h : ∀ b ∈ l, isDig b) {c : UInt8} (hc : c.toNat < 48) : ∀ b ∈ l, b ≠ c := fun b hb e => by
  have := (h b hb).1; subst e; omega
/-- What is printed is read. -/
theorem parse4 {a b c d : Int} (ha : 0 ≤ a ∧ a ≤ 255) (hb : 0 ≤ b ∧ b ≤ 255) (hc : 0 ≤ c ∧ c ≤ 255) (hd : 0 ≤ d ∧ d ≤ 255) :
    rParse ((((((Lib.itoa a ++ [46]) ++ Lib.itoa b) ++ [46]) ++ Lib.itoa c) ++ [46]) ++ Lib.itoa d) = (256 * (256 * (256 * a + b) + c) + d, 0) := by
  have n1 := dig_ne (itoa_dig ha.1) (c := 46) (by decide)
  have n2 := dig_ne (itoa_dig hb.1) (c := 46) (by decide)
  have n3 := dig_ne (itoa_dig hc.1) (c := 46) (by decide)
  have n4 := dig_ne (itoa_dig hd.1) (c := 46) (by decide)
  have e : ((((((Lib.itoa a ++ [46]) ++ Lib.itoa b) ++ [46]) ++ Lib.itoa c) ++ [46]) ++ Lib.itoa d) = Lib.itoa a ++ [46] ++ (Lib.itoa b ++ [46] ++ (Lib.itoa c ++ [46] ++ Lib.itoa d)) := by simp
  have c1 := cut_at (Lib.itoa a) (Lib.itoa b ++ [46] ++ (Lib.itoa c ++ [46] ++ Lib.itoa d)) n1
  have c2 := cut_at (Lib.itoa b) (Lib.itoa c ++ [46] ++ Lib.itoa d) n2
  have c3 := cut_at (Lib.itoa c) (Lib.itoa d) n3
  have c4 := cut_not (Lib.itoa d) n4
  unfold rParse
  simp only [cut46]
  rw [e]
  simp only [c1, c2, c3, c4, number_itoa ha, number_itoa hb, number_itoa hc, number_itoa hd]
  simp
theorem parse_print {a : Int} (h : 0 ≤ a ∧ a ≤ 4294967295) : rParse (rPrint a).1 = (a, 0) ∧ (rPrint a).2 = 0 := by
  unfold rPrint
  rw [← isAddr_eq, isAddr_iff.2 h]
  simp only [Bool.not_true, Bool.false_eq_true, if_false]
  rw [parse4 (by omega) (by omega) (by omega) (by omega)]
  refine ⟨?_, trivial⟩
  congr 1
  omega
theorem rPrint_bad {a : Int} (h : ¬ (0 ≤ a ∧ a ≤ 4294967295)) : rPrint a = ([], 60) := by
  unfold rPrint
  have : rIsAddr a = false := bool_not fun h2 => h (rIsAddr_t h2)
  rw [this]; simp
/-- What is read prints as it was. -/
theorem number_back {s : Str} {m : Int} (h : (rNumber s m).2 = true) (hm : 0 ≤ m := by decide) : Lib.itoa (rNumber s m).1 = s := by
  have hb := rNumber_l0_bd s m hm (s.length + 1) 0 0 (by omega)
  unfold rNumber at h ⊢
  generalize rNumber_l0 s m (s.length + 1) 0 0 = x at *
  cases x with
  | error r => have := hb.1 r rfl; simp [outc2, this] at h
  | ok v =>
    simp only [outc2] at h ⊢
    split at h
    · rename_i hle
      rw [if_pos hle]; simpa using h
    · cases h
theorem print_parse {s : Str} (h : (rParse s).2 = 0) : rPrint (rParse s).1 = (s, 0) := by
  unfold rParse at h ⊢
  simp only [cut46] at h ⊢
  cases k1 : (rNumber (Lib.cut s [46]).1 255).2
  · simp [k1] at h
  · cases m1 : (Lib.cut s [46]).2.2
    · simp [k1, m1] at h
    · have f1 := cut_some m1
      have g1 := number_back k1
      have b1 := rNumber_bd k1
      simp only [k1, m1, Bool.not_true, Bool.false_eq_true, if_false, beq_self_eq_true] at h ⊢
      generalize rNumber (Lib.cut s [46]).1 255 = v1 at *
      generalize Lib.cut s [46] = c1 at *
      cases k2 : (rNumber (Lib.cut c1.2.1 [46]).1 255).2
      · simp [k2] at h
      · cases m2 : (Lib.cut c1.2.1 [46]).2.2
        · simp [k2, m2] at h
        · have f2 := cut_some m2
          have g2 := number_back k2
          have b2 := rNumber_bd k2
          simp only [k2, m2, Bool.not_true, Bool.false_eq_true, if_false, beq_self_eq_true] at h ⊢
          generalize rNumber (Lib.cut c1.2.1 [46]).1 255 = v2 at *
          generalize Lib.cut c1.2.1 [46] = c2 at *
          cases k3 : (rNumber (Lib.cut c2.2.1 [46]).1 255).2
          · simp [k3] at h
          · cases m3 : (Lib.cut c2.2.1 [46]).2.2
            · simp [k3, m3] at h
            · have f3 := cut_some m3
              have g3 := number_back k3
              have b3 := rNumber_bd k3
              simp only [k3, m3, Bool.not_true, Bool.false_eq_true, if_false, beq_self_eq_true] at h ⊢
              generalize rNumber (Lib.cut c2.2.1 [46]).1 255 = v3 at *
              generalize Lib.cut c2.2.1 [46] = c3 at *
              cases k4 : (rNumber (Lib.cut c3.2.1 [46]).1 255).2
              · simp [k4] at h
              · cases m4 : (Lib.cut c3.2.1 [46]).2.2
                · have f4 := cut_none m4
                  have g4 := number_back k4
                  have b4 := rNumber_bd k4
                  simp only [k4, m4, Bool.not_true, Bool.not_false, Bool.false_eq_true, if_false, beq_self_eq_true] at h ⊢
                  generalize rNumber (Lib.cut c3.2.1 [46]).1 255 = v4 at *
                  rw [f4] at g4
                  unfold rPrint
                  rw [← isAddr_eq, isAddr_iff.2 (by omega)]
                  simp only [Bool.not_true, Bool.false_eq_true, if_false]
                  have e1 : (256 * (256 * (256 * (0 + v1.1) + v2.1) + v3.1) + v4.1) / 16777216 = v1.1 := by omega
                  have e2 : (256 * (256 * (256 * (0 + v1.1) + v2.1) + v3.1) + v4.1) / 65536 % 256 = v2.1 := by omega
                  have e3 : (256 * (256 * (256 * (0 + v1.1) + v2.1) + v3.1) + v4.1) / 256 % 256 = v3.1 := by omega
                  have e4 : (256 * (256 * (256 * (0 + v1.1) + v2.1) + v3.1) + v4.1) % 256 = v4.1 := by omega
                  rw [e1, e2, e3, e4, g1, g2, g3, g4, f1, f2, f3]
                  simp
                · simp [k4, m4] at h
theorem rParse_bad {s : Str} (h : (rParse s).2 ≠ 0) : (rParse s).1 = 0 := by
  unfold rParse at h ⊢
  repeat' split
  all_goals first | rfl | (exfalso; simp_all)
theorem rParse_bd {s : Str} : 0 ≤ (rParse s).1 ∧ (rParse s).1 ≤ 4294967295 := by
  by_cases h : (rParse s).2 = 0
  · have := print_parse h
    by_cases ha : 0 ≤ (rParse s).1 ∧ (rParse s).1 ≤ 4294967295
    · exact ha
    · rw [rPrint_bad ha] at this; cases this
  · rw [rParse_bad h]; omega
theorem prefix_back {p : Prefix} (h : rRight p = true) : rParsePrefix (rPrintPrefix p).1 = (p, 0) ∧ (rPrintPrefix p).2 = 0 := by
  have hg := rRight_iff.1 h
  have hp := parse_print hg.2.1
  have hpr : ∀ b ∈ (rPrint p.addr).1, b ≠ (47 : UInt8) := by
    unfold rPrint
    rw [← isAddr_eq, isAddr_iff.2 hg.2.1]
    simp only [Bool.not_true, Bool.false_eq_true, if_false]
    have h1 := dig_ne (itoa_dig (n := p.addr / 16777216) (by have := hg.2.1; omega)) (c := 47) (by decide)
    have h2 := dig_ne (itoa_dig (n := p.addr / 65536 % 256) (by omega)) (c := 47) (by decide)
    have h3 := dig_ne (itoa_dig (n := p.addr / 256 % 256) (by omega)) (c := 47) (by decide)
    have h4 := dig_ne (itoa_dig (n := p.addr % 256) (by omega)) (c := 47) (by decide)
    intro b hb
    simp only [List.mem_append, List.mem_cons, List.not_mem_nil, or_false] at hb
    rcases hb with (((((hb | hb) | hb) | hb) | hb) | hb) | hb
    · exact h1 b hb
    · subst hb; decide
    · exact h2 b hb
    · subst hb; decide
    · exact h3 b hb
    · subst hb; decide
    · exact h4 b hb
  unfold rPrintPrefix
  rw [h]
  simp only [Bool.not_true, Bool.false_eq_true, if_false]
  refine ⟨?_, trivial⟩
  unfold rParsePrefix
  simp only [cut47]
  have hc := cut_at (c := 47) (rPrint p.addr).1 (Lib.itoa p.bits) hpr
  rw [hc]
  simp only [hp.1, number_itoa hg.1, h]
  simp [h]
theorem back_prefix {s : Str} (h : (rParsePrefix s).2 = 0) : rPrintPrefix (rParsePrefix s).1 = (s, 0) := by
  unfold rParsePrefix at h ⊢
  simp only [cut47] at h ⊢
  cases m1 : (Lib.cut s [47]).2.2
  · simp [m1] at h
  · by_cases hp : (rParse (Lib.cut s [47]).1).2 = 0
    · cases k1 : (rNumber (Lib.cut s [47]).2.1 32).2
      · simp [m1, hp, k1] at h
      · cases hr : rRight ⟨(rParse (Lib.cut s [47]).1).1, (rNumber (Lib.cut s [47]).2.1 32).1⟩
        · simp [m1, hp, k1, hr] at h
        · simp only [Bool.not_true, Bool.false_eq_true, if_false, hp, ne_eq, not_true_eq_false]
          unfold rPrintPrefix
          rw [hr]
          simp only [Bool.not_true, Bool.false_eq_true, if_false]
          rw [print_parse hp, number_back k1]
          have := cut_some m1
          simp only
          rw [← this]
    · simp [m1, hp] at h
theorem lAddrBack_true (a : Int) (p : Prefix) (s : Str) : lAddrBack a p s = true := by
  unfold lAddrBack
  simp only [aShown_true, aPrint_eq, aParse_eq, aPrintPrefix_eq, aParsePrefix_eq, aRight_eq]
  generalize aCut s = t
  have f1 : (rPrint a).2 = 0 → rParse (rPrint a).1 = (a, 0) := fun h => by
    by_cases ha : 0 ≤ a ∧ a ≤ 4294967295
    · exact (parse_print ha).1
    · rw [rPrint_bad ha] at h; cases h
  have f2 : (rPrintPrefix p).2 = 0 ↔ rRight p = true := by
    constructor
    · intro h
      cases hr : rRight p
      · unfold rPrintPrefix at h; rw [hr] at h; simp at h
      · rfl
    · intro h; exact (prefix_back h).2
  have f3 : (rPrintPrefix p).2 = 0 → rParsePrefix (rPrintPrefix p).1 = (p, 0) := fun h => (prefix_back (f2.1 h)).1
  have f4 : (rParse t).2 ≠ 0 → (rParse t).1 = 0 := rParse_bad
  have f5 : (rParse t).2 = 0 → rPrint (rParse t).1 = (t, 0) := print_parse
  have f6 : (rParsePrefix t).2 = 0 → rPrintPrefix (rParsePrefix t).1 = (t, 0) := back_prefix
  have f7 : (decide ((rPrintPrefix p).2 = 0) == rRight p) = true := by
    cases hr : rRight p
    · have : ¬ (rPrintPrefix p).2 = 0 := fun h => by rw [f2.1 h] at hr; cases hr
      simp [this]
    · simp [f2.2 hr]
  have tail : (if (rParse t).2 ≠ 0 then (if (rParse t).1 = 0 then (if (rParsePrefix t).2 ≠ 0 then true else (if (rPrintPrefix (rParsePrefix t).1).2 = 0 then decide ((rPrintPrefix (rParsePrefix t).1).1 = t) else false)) else (if (rParse t).2 = 0 then (if (rPrint (rParse t).1).2 = 0 then (if (rPrint (rParse t).1).1 = t then (if (rParsePrefix t).2 ≠ 0 then true else (if (rPrintPrefix (rParsePrefix t).1).2 = 0 then decide ((rPrintPrefix (rParsePrefix t).1).1 = t) else false)) else false) else false) else false)) else (if (rParse t).2 = 0 then (if (rPrint (rParse t).1).2 = 0 then (if (rPrint (rParse t).1).1 = t then (if (rParsePrefix t).2 ≠ 0 then true else (if (rPrintPrefix (rParsePrefix t).1).2 = 0 then decide ((rPrintPrefix (rParsePrefix t).1).1 = t) else false)) else false) else false) else false)) = true := by
    have t2 : (if (rParsePrefix t).2 ≠ 0 then true else (if (rPrintPrefix (rParsePrefix t).1).2 = 0 then decide ((rPrintPrefix (rParsePrefix t).1).1 = t) else false)) = true := by
      by_cases h : (rParsePrefix t).2 = 0
      · rw [if_neg (by simpa using h), f6 h]; simp
      · rw [if_pos h]
    by_cases h : (rParse t).2 = 0
    · rw [if_neg (by simpa using h), if_pos h, f5 h]
      simpa using t2
    · rw [if_pos h, if_pos (f4 h)]
      exact t2
  by_cases h1 : (rPrint a).2 = 0
  · rw [f1 h1]
    by_cases h2 : (rPrintPrefix p).2 = 0
    · rw [f3 h2]
      simp [h1, h2, tail, f2.1 h2] at tail ⊢
      try exact tail
    · simp [h1, h2, f7] at tail f7 ⊢
      simp [f7]
      try exact tail
  · by_cases h2 : (rPrintPrefix p).2 = 0
    · rw [f3 h2]
      simp [h1, h2, f2.1 h2] at tail ⊢
      try exact tail
    · simp [h1, h2] at tail f7 ⊢
      simp [f7]
      try exact tail
end Go.Proofs.YtnnafnjdngjkoaaDoor.Jd
