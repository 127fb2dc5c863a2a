/- Texts of addresses: what the program and the reference print and read. No condition. -/
import Derived.Test.YtnnafnjdngjkoaaDoorJPD
namespace Go.Proofs.YtnnafnjdngjkoaaDoor.Jd
set_option linter.unusedVariables false
set_option linter.unusedSimpArgs false
/-! ### runes -/
theorem ba_get {s : Str} {i : Nat} (h : i < s.length) : (bs s).get! i = s.getD i default := by
  have h2 : i < (bs s).data.size := by simpa [bs] using h
  rw [ByteArray.get!]
  rw [getElem!_pos (bs s).data i h2]
  simp [bs, List.getD, h]
theorem dec_lo {s : Str} {i : Nat} (h : i < s.length) (hb : (s.getD i default).toNat < 128) : dec s i = ((s.getD i default).toNat, 1) := by
  unfold dec Utf8.decode
  simp only [Nat.add_zero, ba_get h]
  rw [if_pos hb]
theorem dec_hi {s : Str} {i : Nat} (h : i < s.length) (hb : ¬ (s.getD i default).toNat < 128) : 128 ≤ (dec s i).1 := by
  unfold dec Utf8.decode
  simp only [Nat.add_zero, ba_get h]
  rw [if_neg hb]
  repeat' split
  all_goals (simp only [Utf8.runeError]; try simp only [Bool.and_eq_true, decide_eq_true_eq] at *; try omega)
theorem aNumber_l0_eq (t : Str) (m : Int) : ∀ (n : Nat) (a : Int) (i : Nat), aNumber_l0 t m n a i = rNumber_l0 t m n a i
  | 0, _, _ => rfl
  | n + 1, a, i => by
    unfold aNumber_l0 rNumber_l0
    by_cases hi : i < t.length
    · have h1 : ((i : Nat) : Int) < ((t.length : Nat) : Int) := by omega
      rw [if_pos hi, if_pos h1]
      by_cases hb : (t.getD i default).toNat < 128
      · rw [dec_lo hi hb, aNumber_l0_eq t m n, Int.mul_comm 10 a]
      · have h2 := dec_hi hi hb
        rw [if_neg (show ¬ (((dec t i).1 : Nat) : Int) < 48 by omega), if_pos (show (57 : Int) < (((dec t i).1 : Nat) : Int) by omega), if_neg (show ¬ (((t.getD i default).toNat : Nat) : Int) < 48 by omega), if_pos (show (57 : Int) < (((t.getD i default).toNat : Nat) : Int) by omega)]
    · have h1 : ¬ ((i : Nat) : Int) < ((t.length : Nat) : Int) := by omega
      rw [if_neg hi, if_neg h1]
theorem aNumber_eq : aNumber = rNumber := by
  funext t m
  unfold aNumber rNumber
  rw [aNumber_l0_eq]
/-! ### cut -/
theorem index_one (c b : UInt8) (l : Str) : Lib.index (b :: l) [c] = if b = c then 0 else if Lib.index l [c] = -1 then -1 else Lib.index l [c] + 1 := by
  by_cases h : b = c
  · subst h; simp [Lib.index, List.isPrefixOf]
  · have h' : ¬ c = b := fun e => h e.symm
    simp [Lib.index, List.isPrefixOf, h, h']
theorem rCut_l0_eq (s : Str) (c : UInt8) : ∀ (n i : Nat), s.length < i + n → i ≤ s.length → rCut_l0 s (c.toNat : Int) n i = if 0 ≤ Lib.index (s.drop i) [c] then .error (s.take (i + (Lib.index (s.drop i) [c]).toNat), s.drop (i + (Lib.index (s.drop i) [c]).toNat + 1), true) else .ok s.length
  | 0, i, h, _ => by omega
  | n + 1, i, h, hle => by
    unfold rCut_l0
    by_cases hi : i < s.length
    · have h1 : ((i : Nat) : Int) < ((s.length : Nat) : Int) := by omega
      have hd : s.drop i = s.getD i default :: s.drop (i + 1) := by
        rw [List.drop_eq_getElem_cons hi]; simp [List.getD, hi]
      rw [if_pos h1, hd, index_one]
      by_cases hc : s.getD i default = c
      · rw [if_pos (by rw [hc]), if_pos hc]; simp
      · have hc2 : ¬ (((s.getD i default).toNat : Nat) : Int) = ((c.toNat : Nat) : Int) := fun e => hc (UInt8.toNat_inj.1 (by omega))
        rw [if_neg hc2, if_neg hc, rCut_l0_eq s c n (i + 1) (by omega) (by omega)]
        have hge := Lib.index_ge (s.drop (i + 1)) [c]
        by_cases hx : Lib.index (s.drop (i + 1)) [c] = -1
        · rw [if_pos hx, hx]; simp
        · rw [if_neg hx, if_pos (by omega), if_pos (by omega)]
          have e1 : (Lib.index (s.drop (i + 1)) [c] + 1).toNat = (Lib.index (s.drop (i + 1)) [c]).toNat + 1 := by omega
          rw [e1, show i + 1 + (Lib.index (s.drop (i + 1)) [c]).toNat = i + ((Lib.index (s.drop (i + 1)) [c]).toNat + 1) by omega]
    · have h1 : ¬ ((i : Nat) : Int) < ((s.length : Nat) : Int) := by omega
      have h2 : i = s.length := by omega
      rw [if_neg h1, h2, List.drop_length]
      simp [Lib.index]
theorem rCut_eq (s : Str) (c : UInt8) : rCut s (c.toNat : Int) = Lib.cut s [c] := by
  unfold rCut Lib.cut
  rw [rCut_l0_eq s c _ 0 (by omega) (by omega)]
  simp only [List.drop_zero, Nat.zero_add]
  split <;> simp [outc1]
theorem cut46 (s : Str) : rCut s 46 = Lib.cut s [46] := rCut_eq s 46
theorem cut47 (s : Str) : rCut s 47 = Lib.cut s [47] := rCut_eq s 47
/-! ### print -/
theorem join4 (x y z w : Str) : Lib.join ((([x] ++ [y]) ++ [z]) ++ [w]) [46] = ((((((x ++ [46]) ++ y) ++ [46]) ++ z) ++ [46]) ++ w) := by
  simp [Lib.join, List.intercalate]
theorem aPrint_eq (a : Int) : aPrint a = rPrint a := by
  unfold aPrint rPrint
  rw [← isAddr_eq]
  split
  · rfl
  · rename_i hn
    have h : 0 ≤ a ∧ a ≤ 4294967295 := isAddr_iff.1 (by simpa using hn)
    rw [join4]
    have b24 := (byte_at h 24 (by omega)).1
    have b16 := (byte_at h 16 (by omega)).1
    have b8 := (byte_at h 8 (by omega)).1
    have b0 := (byte_at h 0 (by omega)).1
    have e24 : andI .i64 (shrI .i64 a 24) 255 = a / 16777216 := by
      refine b24.trans ?_
      show a / 16777216 % 256 = a / 16777216
      omega
    have e16 : andI .i64 (shrI .i64 a 16) 255 = a / 65536 % 256 := b16
    have e8 : andI .i64 (shrI .i64 a 8) 255 = a / 256 % 256 := b8
    have e0 : andI .i64 (shrI .i64 a 0) 255 = a % 256 := b0.trans (by show a / 1 % 256 = _; rw [Int.ediv_one])
    rw [e24, e16, e8, e0]
theorem shl_or {a n : Int} (ha : 0 ≤ a ∧ a ≤ 1099511627776) (hn : 0 ≤ n ∧ n ≤ 255) : orI .i64 (shlI .i64 a 8) n = 256 * a + n := by
  obtain ⟨m, rfl⟩ : ∃ m : Nat, a = (m : Int) := ⟨a.toNat, by omega⟩
  obtain ⟨k, rfl⟩ : ∃ k : Nat, n = (k : Int) := ⟨n.toNat, by omega⟩
  have h1 : shlI .i64 (m : Int) 8 = (m : Int) * 256 := shlI_eq (k := 8) (by omega) (by show _ ≤ (m : Int) * 256 ∧ (m : Int) * 256 ≤ _; omega)
  have h2 : (m : Int) * 256 = ((256 * m : Nat) : Int) := by omega
  have h3 := Nat.two_pow_add_eq_or_of_lt (i := 8) (b := k) (by show k < 256; omega) m
  rw [show (2 : Nat) ^ 8 = 256 from rfl] at h3
  rw [h1, h2, orI_nat (by omega) (by omega), ← h3]
  omega
theorem aParse_eq (s : Str) : aParse s = rParse s := by
  unfold aParse rParse
  rw [aNumber_eq]
  simp only [cut46]
  generalize Lib.cut s [46] = c1
  generalize Lib.cut c1.2.1 [46] = c2
  generalize Lib.cut c2.2.1 [46] = c3
  generalize Lib.cut c3.2.1 [46] = c4
  cases k1 : (rNumber c1.1 255).2
  · simp
  · cases m1 : c1.2.2
    · simp
    · cases k2 : (rNumber c2.1 255).2
      · simp
      · cases m2 : c2.2.2
        · simp
        · cases k3 : (rNumber c3.1 255).2
          · simp
          · cases m3 : c3.2.2
            · simp
            · cases k4 : (rNumber c4.1 255).2
              · simp
              · cases m4 : c4.2.2
                · have b1 := rNumber_bd k1
                  have b2 := rNumber_bd k2
                  have b3 := rNumber_bd k3
                  have b4 := rNumber_bd k4
                  rw [shl_or (a := 0) (by omega) b1, shl_or (by omega) b2, shl_or (by omega) b3, shl_or (by omega) b4]
                  simp
                · simp
theorem aPrintPrefix_eq (p : Prefix) : aPrintPrefix p = rPrintPrefix p := by
  unfold aPrintPrefix rPrintPrefix
  rw [aRight_eq, aPrint_eq]
theorem number_nil (m : Int) (hm : 0 ≤ m) : rNumber [] m = (0, false) := by
  unfold rNumber
  have : rNumber_l0 [] m (([] : Str).length + 1) 0 0 = .ok (0, 0) := rfl
  rw [this]
  simp only [outc2]
  rw [if_pos hm, itoaF_eq]
  rfl
theorem cut_none {s sep : Str} (h : (Lib.cut s sep).2.2 = false) : Lib.cut s sep = (s, [], false) := by
  unfold Lib.cut at *
  split at h
  · cases h
  · rename_i hn; rw [if_neg hn]
theorem cut_some {s : Str} {c : UInt8} (h : (Lib.cut s [c]).2.2 = true) : s = (Lib.cut s [c]).1 ++ [c] ++ (Lib.cut s [c]).2.1 := by
  have key : ∀ s : Str, 0 ≤ Lib.index s [c] → s = s.take (Lib.index s [c]).toNat ++ [c] ++ s.drop ((Lib.index s [c]).toNat + 1) := by
    intro s
    induction s with
    | nil => intro h; simp [Lib.index] at h
    | cons b l ih =>
      intro h
      rw [index_one] at h ⊢
      by_cases hb : b = c
      · subst hb; simp
      · rw [if_neg hb] at h ⊢
        have hge := Lib.index_ge l [c]
        by_cases hx : Lib.index l [c] = -1
        · rw [if_pos hx] at h; omega
        · rw [if_neg hx] at h ⊢
          have e1 : (Lib.index l [c] + 1).toNat = (Lib.index l [c]).toNat + 1 := by omega
          rw [e1]
          have := ih (by omega)
          simp only [List.take_succ_cons, List.drop_succ_cons, List.cons_append]
          rw [← this]
  unfold Lib.cut at *
  split at h
  · rename_i hp
    rw [if_pos hp]
    exact key s hp
  · cases h
theorem aParsePrefix_eq (s : Str) : aParsePrefix s = rParsePrefix s := by
  unfold aParsePrefix rParsePrefix
  rw [aNumber_eq]
  simp only [cut47, aParse_eq, aRight_eq]
  cases m1 : (Lib.cut s [47]).2.2
  · rw [cut_none m1]
    simp [number_nil 32 (by decide)]
  · cases k1 : (rNumber (Lib.cut s [47]).2.1 32).2
    · simp
    · simp
theorem lAddrTexts_true (a : Int) (p : Prefix) (s : Str) : lAddrTexts a p s = true := by
  unfold lAddrTexts
  simp [aShown_true, aPrint_eq, aParse_eq, aPrintPrefix_eq, aParsePrefix_eq, aRight_eq]
end Go.Proofs.YtnnafnjdngjkoaaDoor.Jd
