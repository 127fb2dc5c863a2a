/- Plain law: the program's SHA-256 is the document's. No condition. -/
import Derived.Test.YtodejmindmiknaaDoorJUN
namespace Go.Proofs.YtodejmindmiknaaDoor.Jd
set_option linter.unusedVariables false
set_option linter.unusedSimpArgs false
theorem u32w (x : Int) : IntKind.u32.wrap x = x % 4294967296 := by
  simp only [IntKind.wrap, IntKind.bits, IntKind.signed]
  simp
theorem u8w (x : Int) : IntKind.u8.wrap x = x % 256 := by
  simp only [IntKind.wrap, IntKind.bits, IntKind.signed]
  simp
theorem bvw (b : BitVec 32) : IntKind.u32.wrap (b.toNat : Int) = b.toNat := by
  rw [u32w]
  have := b.isLt
  omega
theorem orI_bv (a b : Int) : orI .u32 a b = ((BitVec.ofInt 32 a ||| BitVec.ofInt 32 b).toNat : Int) := bvw _
theorem orI_comm (a b : Int) : orI .u32 a b = orI .u32 b a := by
  rw [orI_bv, orI_bv, BitVec.or_comm]
theorem ofInt_toNat (b : BitVec 32) : BitVec.ofInt 32 (b.toNat : Int) = b := by
  simp
theorem ofInt_orI (a b : Int) : BitVec.ofInt 32 (orI .u32 a b) = BitVec.ofInt 32 a ||| BitVec.ofInt 32 b := by
  rw [orI_bv, ofInt_toNat]
theorem ofInt_wrap (a : Int) : BitVec.ofInt 32 (IntKind.u32.wrap a) = BitVec.ofInt 32 a := by
  rw [u32w]
  apply BitVec.eq_of_toInt_eq
  simp only [BitVec.toInt_ofInt]
  rw [Int.bmod_def, Int.bmod_def]
  have e : a % 4294967296 % ((2 ^ 32 : Nat) : Int) = a % ((2 ^ 32 : Nat) : Int) := by
    show a % 4294967296 % 4294967296 = a % 4294967296
    omega
  rw [e]
theorem ofInt_shl8 (a : Int) : BitVec.ofInt 32 (shlI .u32 a 8) = BitVec.ofInt 32 a <<< 8 := by
  unfold shlI
  rw [ofInt_wrap, BitVec.shiftLeft_eq_mul_twoPow, BitVec.ofInt_mul]
  congr 1
theorem ofInt_shl16 (a : Int) : BitVec.ofInt 32 (shlI .u32 a 16) = BitVec.ofInt 32 a <<< 16 := by
  unfold shlI
  rw [ofInt_wrap, BitVec.shiftLeft_eq_mul_twoPow, BitVec.ofInt_mul]
  congr 1
theorem ofInt_shl24 (a : Int) : BitVec.ofInt 32 (shlI .u32 a 24) = BitVec.ofInt 32 a <<< 24 := by
  unfold shlI
  rw [ofInt_wrap, BitVec.shiftLeft_eq_mul_twoPow, BitVec.ofInt_mul]
  congr 1
/-- The rotations. -/
theorem rotl_of {x k : Int} {m n : Int} (h1 : andI .u64 (IntKind.u64.wrap k) 31 = m) (h2 : IntKind.u64.wrap (32 - m) = n) (h3 : IntKind.u32.wrap (32 - n) = m) : rotl x k = rTurn x n := by
  unfold rotl rTurn
  rw [h1, h2, h3, orI_comm]
theorem wRight_2 (x : Int) : wRight x 2 = rTurn x 2 := rotl_of (m := 30) (by decide +kernel) (by decide +kernel) (by decide +kernel)
theorem wRight_13 (x : Int) : wRight x 13 = rTurn x 13 := rotl_of (m := 19) (by decide +kernel) (by decide +kernel) (by decide +kernel)
theorem wRight_22 (x : Int) : wRight x 22 = rTurn x 22 := rotl_of (m := 10) (by decide +kernel) (by decide +kernel) (by decide +kernel)
theorem wRight_6 (x : Int) : wRight x 6 = rTurn x 6 := rotl_of (m := 26) (by decide +kernel) (by decide +kernel) (by decide +kernel)
theorem wRight_11 (x : Int) : wRight x 11 = rTurn x 11 := rotl_of (m := 21) (by decide +kernel) (by decide +kernel) (by decide +kernel)
theorem wRight_25 (x : Int) : wRight x 25 = rTurn x 25 := rotl_of (m := 7) (by decide +kernel) (by decide +kernel) (by decide +kernel)
theorem wRight_7 (x : Int) : wRight x 7 = rTurn x 7 := rotl_of (m := 25) (by decide +kernel) (by decide +kernel) (by decide +kernel)
theorem wRight_18 (x : Int) : wRight x 18 = rTurn x 18 := rotl_of (m := 14) (by decide +kernel) (by decide +kernel) (by decide +kernel)
theorem wRight_17 (x : Int) : wRight x 17 = rTurn x 17 := rotl_of (m := 15) (by decide +kernel) (by decide +kernel) (by decide +kernel)
theorem wRight_19 (x : Int) : wRight x 19 = rTurn x 19 := rotl_of (m := 13) (by decide +kernel) (by decide +kernel) (by decide +kernel)
/-- Four bytes, one word. -/
theorem word_four (w : Int) (a b c d : UInt8) (hw : w = 0) :
    orI .u32 (shlI .u32 (orI .u32 (shlI .u32 (orI .u32 (shlI .u32 (orI .u32 (shlI .u32 w 8) (IntKind.u32.wrap (((toI [a, b, c, d]).getD 0 default)))) 8) (IntKind.u32.wrap ((toI [a, b, c, d]).getD 1 default))) 8) (IntKind.u32.wrap ((toI [a, b, c, d]).getD 2 default))) 8) (IntKind.u32.wrap ((toI [a, b, c, d]).getD 3 default)) = rWord [a, b, c, d] := by
  subst hw
  unfold rWord
  simp only [run0, orI_bv, ofInt_toNat, ofInt_shl8, ofInt_shl16, ofInt_shl24, ofInt_wrap]
  simp only [toI, List.map_cons, List.map_nil, List.getD_cons_zero, List.getD_cons_succ]
  simp only [BitVec.shiftLeft_or_distrib, ← BitVec.shiftLeft_add]
  simp
/-- The padding. -/
theorem pad_loop (s : Str) : ∀ n xs, toS (sPad_l0 s n xs) = rsPad_l0 s n (toS xs)
  | 0, xs => rfl
  | n + 1, xs => by
    rw [sPad_l0, rsPad_l0, toS_length]
    split
    · rw [pad_loop s n]
      simp [toS]
    · rfl
theorem toS_append (a b : List Int) : toS (a ++ b) = toS a ++ toS b := by simp [toS]
theorem shr_pad (n : Nat) : shrI .i64 ((n : Int) * 8) 56 = 8 * (n : Int) / 256 / 256 / 256 / 256 / 256 / 256 / 256 ∧ shrI .i64 ((n : Int) * 8) 48 = 8 * (n : Int) / 256 / 256 / 256 / 256 / 256 / 256 ∧ shrI .i64 ((n : Int) * 8) 40 = 8 * (n : Int) / 256 / 256 / 256 / 256 / 256 ∧ shrI .i64 ((n : Int) * 8) 32 = 8 * (n : Int) / 256 / 256 / 256 / 256 ∧ shrI .i64 ((n : Int) * 8) 24 = 8 * (n : Int) / 256 / 256 / 256 ∧ shrI .i64 ((n : Int) * 8) 16 = 8 * (n : Int) / 256 / 256 ∧ shrI .i64 ((n : Int) * 8) 8 = 8 * (n : Int) / 256 ∧ shrI .i64 ((n : Int) * 8) 0 = 8 * (n : Int) := by
  unfold shrI
  refine ⟨?_, ?_, ?_, ?_, ?_, ?_, ?_, ?_⟩
  · show Int.fdiv _ 72057594037927936 = _; rw [Int.fdiv_eq_ediv_of_nonneg _ (by omega)]; omega
  · show Int.fdiv _ 281474976710656 = _; rw [Int.fdiv_eq_ediv_of_nonneg _ (by omega)]; omega
  · show Int.fdiv _ 1099511627776 = _; rw [Int.fdiv_eq_ediv_of_nonneg _ (by omega)]; omega
  · show Int.fdiv _ 4294967296 = _; rw [Int.fdiv_eq_ediv_of_nonneg _ (by omega)]; omega
  · show Int.fdiv _ 16777216 = _; rw [Int.fdiv_eq_ediv_of_nonneg _ (by omega)]; omega
  · show Int.fdiv _ 65536 = _; rw [Int.fdiv_eq_ediv_of_nonneg _ (by omega)]; omega
  · show Int.fdiv _ 256 = _; rw [Int.fdiv_eq_ediv_of_nonneg _ (by omega)]; omega
  · show Int.fdiv _ 1 = _; rw [Int.fdiv_eq_ediv_of_nonneg _ (by omega)]; omega
theorem u8m (x : Int) : IntKind.u8.wrap (x % 256) = IntKind.u8.wrap x := by
  rw [u8w, u8w]; omega
theorem sPad_eq (s : Str) : sPad s = rsPad s := by
  unfold sPad rsPad
  obtain ⟨h1, h2, h3, h4, h5, h6, h7, h8⟩ := shr_pad s.length
  simp only [run1, toS_append, pad_loop, h1, h2, h3, h4, h5, h6, h7, h8, u8m, List.append_assoc, List.append_nil, toS_toI, List.length_append, toI_length]
  rfl
/-- The words of a block. -/
theorem four_of {c : Str} (h : c.length = 4) : ∃ p q r t, c = [p, q, r, t] := by
  match c, h with
  | [p, q, r, t], _ => exact ⟨p, q, r, t, rfl⟩
theorem words_one (b : Str) (x : Nat) (y : List Int) (xs : List Int) (hb : b.length = 64) (hx : x < 16) (hl : xs.length = 64) (h0 : xs.getD x default = 0) :
    sWords_l1 b x y (((toI ((b.take ((4 * x) + 4)).drop (4 * x))).length) + 1) 0 xs = (4, xs.set x (rWord ((b.take ((4 * x) + 4)).drop (4 * x)))) := by
  have hc : ((b.take ((4 * x) + 4)).drop (4 * x)).length = 4 := by simp; omega
  obtain ⟨p, q, r, t, hc⟩ := four_of hc
  have hg : ∀ (ys : List Int) (v : Int), ys.length = 64 → (ys.set x v).getD x default = v := fun ys v h => by
    have hx' : x < 64 := by omega
    simp [List.getD_eq_getElem?_getD, List.getElem?_set, h, hx']
  have hL : (toI [p, q, r, t]).length = 4 := rfl
  simp only [hc, hL]
  rw [sWords_l1]; simp only [hc, hL]; rw [if_pos (by decide)]
  rw [sWords_l1]; simp only [hc, hL]; rw [if_pos (by decide)]
  rw [sWords_l1]; simp only [hc, hL]; rw [if_pos (by decide)]
  rw [sWords_l1]; simp only [hc, hL]; rw [if_pos (by decide)]
  rw [sWords_l1]; simp only [hc, hL]; rw [if_neg (by decide)]
  simp only [List.set_set, hg _ _ hl]
  rw [← word_four (xs.getD x default) p q r t h0]
theorem words_l2 (b : Str) (s : Str) (at_1 : Nat) (x_2 x_3 x_4 x_5 x_6 x_7 x_8 x_9 : Int) (i_14 : Nat) (x_15 : List Int) : ∀ n i xs, 16 ≤ i → sWords_l0 b n i xs = rsSum_l2 s at_1 x_2 x_3 x_4 x_5 x_6 x_7 x_8 x_9 i_14 x_15 n i xs
  | 0, i, xs, _ => rfl
  | n + 1, i, xs, h => by
    rw [sWords_l0, rsSum_l2]
    split
    · rw [if_neg (by omega), words_l2 b s at_1 x_2 x_3 x_4 x_5 x_6 x_7 x_8 x_9 i_14 x_15 n (i + 1) _ (by omega)]
      simp only [wSch0, wSch1, wRight_7, wRight_18, wRight_17, wRight_19]
    · rfl
theorem words_l1 (b : Str) (s : Str) (at_1 : Nat) (x_2 x_3 x_4 x_5 x_6 x_7 x_8 x_9 : Int) (hb : b.length = 64) (hch : ∀ i, i < 16 → ((rsPad s).take ((at_1 + (4 * i)) + 4)).drop (at_1 + (4 * i)) = (b.take ((4 * i) + 4)).drop (4 * i)) :
    ∀ n i xs, n + i = 16 → xs.length = 64 → (∀ j, i ≤ j → xs.getD j default = 0) → sWords_l0 b (n + 49) i xs = sWords_l0 b 49 16 (rsSum_l1 s at_1 x_2 x_3 x_4 x_5 x_6 x_7 x_8 x_9 (n + 1) i xs).2
  | 0, i, xs, h, _, _ => by
    rw [rsSum_l1, if_neg (by omega)]
    have : i = 16 := by omega
    subst this
    rfl
  | n + 1, i, xs, h, hl, h0 => by
    rw [rsSum_l1, if_pos (by omega), show n + 1 + 49 = (n + 49) + 1 by omega, sWords_l0, if_pos (by omega), if_pos (by omega), words_one b i xs xs hb (by omega) hl (h0 i (Nat.le_refl _)), hch i (by omega)]
    simp only [run2]
    refine words_l1 b s at_1 x_2 x_3 x_4 x_5 x_6 x_7 x_8 x_9 hb hch n (i + 1) _ (by omega) (by simp [hl]) (fun j hj => ?_)
    rw [← h0 j (by omega)]
    simp only [List.getD_eq_getElem?_getD, List.getElem?_set]
    rw [if_neg (by omega)]
theorem round_eq (s : Str) (at_1 : Nat) (y_2 y_3 y_4 y_5 y_6 y_7 y_8 y_9 : Int) (i_14 : Nat) (x_15 : List Int) (i_20 : Nat) (ws : List Int) (x_1 x_2 x_3 x_4 x_5 x_6 x_7 x_8 : Int) (m : Str) (hw : sWords (m.take 64) = ws) :
    ∀ n i a b c d e f g h, sSum_l1 s x_1 x_2 x_3 x_4 x_5 x_6 x_7 x_8 m n i a b c d e f g h = rsSum_l3 s at_1 y_2 y_3 y_4 y_5 y_6 y_7 y_8 y_9 i_14 x_15 i_20 ws n i a b c d e f g h
  | 0, i, a, b, c, d, e, f, g, h => rfl
  | n + 1, i, a, b, c, d, e, f, g, h => by
    rw [sSum_l1, rsSum_l3]
    split
    · rw [round_eq s at_1 y_2 y_3 y_4 y_5 y_6 y_7 y_8 y_9 i_14 x_15 i_20 ws x_1 x_2 x_3 x_4 x_5 x_6 x_7 x_8 m hw n]
      simp only [wLower, wUpper, wMix, wRight_2, wRight_13, wRight_22, wRight_6, wRight_11, wRight_25, hw, rTab]
    · rfl
theorem blocks_eq (s : Str) : ∀ n at_1 m a b c d e f g h, m = (rsPad s).drop at_1 → (∃ k, at_1 = 64 * k) →
    (match sSum_l0 s n a b c d e f g h m with | (a, b, c, d, e, f, g, h, _) => (a, b, c, d, e, f, g, h)) = (rsSum_l0 s n at_1 a b c d e f g h).2
  | 0, at_1, m, a, b, c, d, e, f, g, h, hm, _ => rfl
  | n + 1, at_1, m, a, b, c, d, e, f, g, h, hm, ⟨k, hk⟩ => by
    rw [sSum_l0, rsSum_l0]
    have hmod := rsPad_mod s
    have hml : m.length = (rsPad s).length - at_1 := by rw [hm]; simp
    by_cases hc : ((at_1 : Nat) : Int) < ((((rsPad s).length) : Nat) : Int)
    · rw [if_pos hc, if_pos (by omega)]
      have hb : (m.take 64).length = 64 := by simp; omega
      have hch : ∀ i, i < 16 → ((rsPad s).take ((at_1 + (4 * i)) + 4)).drop (at_1 + (4 * i)) = ((m.take 64).take ((4 * i) + 4)).drop (4 * i) := by
        intro i hi
        rw [List.take_take, Nat.min_eq_left (by omega), hm, List.take_drop, List.drop_drop, show at_1 + (4 * i + 4) = at_1 + 4 * i + 4 by omega]
      simp only [run2, run9]
      rw [round_eq s at_1 a b c d e f g h
        (rsSum_l1 s at_1 a b c d e f g h (16 + 1) 0 (List.replicate 64 0)).1
        (rsSum_l1 s at_1 a b c d e f g h (16 + 1) 0 (List.replicate 64 0)).2
        (rsSum_l2 s at_1 a b c d e f g h (rsSum_l1 s at_1 a b c d e f g h (16 + 1) 0 (List.replicate 64 0)).1 (rsSum_l1 s at_1 a b c d e f g h (16 + 1) 0 (List.replicate 64 0)).2 (64 - 16 + 1) 16 (rsSum_l1 s at_1 a b c d e f g h (16 + 1) 0 (List.replicate 64 0)).2).1
        (rsSum_l2 s at_1 a b c d e f g h (rsSum_l1 s at_1 a b c d e f g h (16 + 1) 0 (List.replicate 64 0)).1 (rsSum_l1 s at_1 a b c d e f g h (16 + 1) 0 (List.replicate 64 0)).2 (64 - 16 + 1) 16 (rsSum_l1 s at_1 a b c d e f g h (16 + 1) 0 (List.replicate 64 0)).2).2
        a b c d e f g h m (by
          unfold sWords
          rw [words_l1 (m.take 64) s at_1 a b c d e f g h hb hch 16 0 (List.replicate 64 0) rfl (by simp) (fun j _ => by
            simp only [List.getD_eq_getElem?_getD, List.getElem?_replicate]; split <;> rfl)]
          simp only [run2]
          rw [words_l2 (m.take 64) s at_1 a b c d e f g h (rsSum_l1 s at_1 a b c d e f g h (16 + 1) 0 (List.replicate 64 0)).1 (rsSum_l1 s at_1 a b c d e f g h (16 + 1) 0 (List.replicate 64 0)).2 49 16 _ (Nat.le_refl _)])]
      exact blocks_eq s n (at_1 + 64) (m.drop 64) _ _ _ _ _ _ _ _ (by rw [hm, List.drop_drop]) ⟨k + 1, by omega⟩
    · rw [if_neg hc, if_neg (by omega)]
theorem sSum_eq (s : Str) : sSum s = rsSum s := by
  unfold sSum rsSum
  rw [sPad_eq]
  have := blocks_eq s ((rsPad s).length + 1) 0 (rsPad s) 1779033703 3144134277 1013904242 2773480762 1359893119 2600822924 528734635 1541459225 rfl ⟨0, rfl⟩
  simp only [run9]
  generalize sSum_l0 s ((rsPad s).length + 1) 1779033703 3144134277 1013904242 2773480762 1359893119 2600822924 528734635 1541459225 (rsPad s) = A at this ⊢
  generalize rsSum_l0 s ((rsPad s).length + 1) 0 1779033703 3144134277 1013904242 2773480762 1359893119 2600822924 528734635 1541459225 = B at this ⊢
  obtain ⟨a, b, c, d, e, f, g, h, m⟩ := A
  obtain ⟨at_1, a', b', c', d', e', f', g', h'⟩ := B
  simp only [Prod.mk.injEq] at this
  obtain ⟨rfl, rfl, rfl, rfl, rfl, rfl, rfl, rfl⟩ := this
  simp only [toS_append, List.nil_append]
end Go.Proofs.YtodejmindmiknaaDoor.Jd
