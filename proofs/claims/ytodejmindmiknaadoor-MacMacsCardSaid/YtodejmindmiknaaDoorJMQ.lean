/- Plain laws: the program's SHA-256 is the document's; HMACs. No condition. -/
import Derived.Test.YtodejmindmiknaaDoorJUN
import Derived.Test.YtodejmindmiknaaDoorJVN
import Derived.Test.YtodejmindmiknaaDoorJMN
import Derived.Test.YtodejmindmiknaaDoorJZN
namespace Go.Proofs.YtodejmindmiknaaDoor.Jd
set_option linter.unusedVariables false
set_option linter.unusedSimpArgs false
theorem u32w (x : Int) : IntKind.u32.wrap x = x % 4294967296 := by
  simp only [IntKind.wrap, IntKind.bits, IntKind.signed]
  simp
theorem u8w (x : Int) : IntKind.u8.wrap x = x % 256 := by
  simp only [IntKind.wrap, IntKind.bits, IntKind.signed]
  simp
theorem bvw (b : BitVec 32) : IntKind.u32.wrap (b.toNat : Int) = b.toNat := by
  rw [u32w]
  have := b.isLt
  omega
theorem orI_bv (a b : Int) : orI .u32 a b = ((BitVec.ofInt 32 a ||| BitVec.ofInt 32 b).toNat : Int) := bvw _
theorem orI_comm (a b : Int) : orI .u32 a b = orI .u32 b a := by
  rw [orI_bv, orI_bv, BitVec.or_comm]
theorem ofInt_toNat (b : BitVec 32) : BitVec.ofInt 32 (b.toNat : Int) = b := by
  simp
theorem ofInt_orI (a b : Int) : BitVec.ofInt 32 (orI .u32 a b) = BitVec.ofInt 32 a ||| BitVec.ofInt 32 b := by
  rw [orI_bv, ofInt_toNat]
theorem ofInt_wrap (a : Int) : BitVec.ofInt 32 (IntKind.u32.wrap a) = BitVec.ofInt 32 a := by
  rw [u32w]
  apply BitVec.eq_of_toInt_eq
  simp only [BitVec.toInt_ofInt]
  rw [Int.bmod_def, Int.bmod_def]
  have e : a % 4294967296 % ((2 ^ 32 : Nat) : Int) = a % ((2 ^ 32 : Nat) : Int) := by
    show a % 4294967296 % 4294967296 = a % 4294967296
    omega
  rw [e]
theorem ofInt_shl8 (a : Int) : BitVec.ofInt 32 (shlI .u32 a 8) = BitVec.ofInt 32 a <<< 8 := by
  unfold shlI
  rw [ofInt_wrap, BitVec.shiftLeft_eq_mul_twoPow, BitVec.ofInt_mul]
  congr 1
theorem ofInt_shl16 (a : Int) : BitVec.ofInt 32 (shlI .u32 a 16) = BitVec.ofInt 32 a <<< 16 := by
  unfold shlI
  rw [ofInt_wrap, BitVec.shiftLeft_eq_mul_twoPow, BitVec.ofInt_mul]
  congr 1
theorem ofInt_shl24 (a : Int) : BitVec.ofInt 32 (shlI .u32 a 24) = BitVec.ofInt 32 a <<< 24 := by
  unfold shlI
  rw [ofInt_wrap, BitVec.shiftLeft_eq_mul_twoPow, BitVec.ofInt_mul]
  congr 1
/-- The rotations. -/
theorem rotl_of {x k : Int} {m n : Int} (h1 : andI .u64 (IntKind.u64.wrap k) 31 = m) (h2 : IntKind.u64.wrap (32 - m) = n) (h3 : IntKind.u32.wrap (32 - n) = m) : rotl x k = rTurn x n := by
  unfold rotl rTurn
  rw [h1, h2, h3, orI_comm]
theorem wRight_2 (x : Int) : wRight x 2 = rTurn x 2 := rotl_of (m := 30) (by decide +kernel) (by decide +kernel) (by decide +kernel)
theorem wRight_13 (x : Int) : wRight x 13 = rTurn x 13 := rotl_of (m := 19) (by decide +kernel) (by decide +kernel) (by decide +kernel)
theorem wRight_22 (x : Int) : wRight x 22 = rTurn x 22 := rotl_of (m := 10) (by decide +kernel) (by decide +kernel) (by decide +kernel)
theorem wRight_6 (x : Int) : wRight x 6 = rTurn x 6 := rotl_of (m := 26) (by decide +kernel) (by decide +kernel) (by decide +kernel)
theorem wRight_11 (x : Int) : wRight x 11 = rTurn x 11 := rotl_of (m := 21) (by decide +kernel) (by decide +kernel) (by decide +kernel)
theorem wRight_25 (x : Int) : wRight x 25 = rTurn x 25 := rotl_of (m := 7) (by decide +kernel) (by decide +kernel) (by decide +kernel)
theorem wRight_7 (x : Int) : wRight x 7 = rTurn x 7 := rotl_of (m := 25) (by decide +kernel) (by decide +kernel) (by decide +kernel)
theorem wRight_18 (x : Int) : wRight x 18 = rTurn x 18 := rotl_of (m := 14) (by decide +kernel) (by decide +kernel) (by decide +kernel)
theorem wRight_17 (x : Int) : wRight x 17 = rTurn x 17 := rotl_of (m := 15) (by decide +kernel) (by decide +kernel) (by decide +kernel)
theorem wRight_19 (x : Int) : wRight x 19 = rTurn x 19 := rotl_of (m := 13) (by decide +kernel) (by decide +kernel) (by decide +kernel)
/-- Four bytes, one word. -/
theorem word_four (w : Int) (a b c d : UInt8) (hw : w = 0) :
    orI .u32 (shlI .u32 (orI .u32 (shlI .u32 (orI .u32 (shlI .u32 (orI .u32 (shlI .u32 w 8) (IntKind.u32.wrap (((toI [a, b, c, d]).getD 0 default)))) 8) (IntKind.u32.wrap ((toI [a, b, c, d]).getD 1 default))) 8) (IntKind.u32.wrap ((toI [a, b, c, d]).getD 2 default))) 8) (IntKind.u32.wrap ((toI [a, b, c, d]).getD 3 default)) = rWord [a, b, c, d] := by
  subst hw
  unfold rWord
  simp only [run0, orI_bv, ofInt_toNat, ofInt_shl8, ofInt_shl16, ofInt_shl24, ofInt_wrap]
  simp only [toI, List.map_cons, List.map_nil, List.getD_cons_zero, List.getD_cons_succ]
  simp only [BitVec.shiftLeft_or_distrib, ← BitVec.shiftLeft_add]
  simp
/-- The padding. -/
theorem pad_loop (s : Str) : ∀ n xs, toS (sPad_l0 s n xs) = rsPad_l0 s n (toS xs)
  | 0, xs => rfl
  | n + 1, xs => by
    rw [sPad_l0, rsPad_l0, toS_length]
    split
    · rw [pad_loop s n]
      simp [toS]
    · rfl
theorem toS_append (a b : List Int) : toS (a ++ b) = toS a ++ toS b := by simp [toS]
theorem shr_pad (n : Nat) : shrI .i64 ((n : Int) * 8) 56 = 8 * (n : Int) / 256 / 256 / 256 / 256 / 256 / 256 / 256 ∧ shrI .i64 ((n : Int) * 8) 48 = 8 * (n : Int) / 256 / 256 / 256 / 256 / 256 / 256 ∧ shrI .i64 ((n : Int) * 8) 40 = 8 * (n : Int) / 256 / 256 / 256 / 256 / 256 ∧ shrI .i64 ((n : Int) * 8) 32 = 8 * (n : Int) / 256 / 256 / 256 / 256 ∧ shrI .i64 ((n : Int) * 8) 24 = 8 * (n : Int) / 256 / 256 / 256 ∧ shrI .i64 ((n : Int) * 8) 16 = 8 * (n : Int) / 256 / 256 ∧ shrI .i64 ((n : Int) * 8) 8 = 8 * (n : Int) / 256 ∧ shrI .i64 ((n : Int) * 8) 0 = 8 * (n : Int) := by
  unfold shrI
  refine ⟨?_, ?_, ?_, ?_, ?_, ?_, ?_, ?_⟩
  · show Int.fdiv _ 72057594037927936 = _; rw [Int.fdiv_eq_ediv_of_nonneg _ (by omega)]; omega
  · show Int.fdiv _ 281474976710656 = _; rw [Int.fdiv_eq_ediv_of_nonneg _ (by omega)]; omega
  · show Int.fdiv _ 1099511627776 = _; rw [Int.fdiv_eq_ediv_of_nonneg _ (by omega)]; omega
  · show Int.fdiv _ 4294967296 = _; rw [Int.fdiv_eq_ediv_of_nonneg _ (by omega)]; omega
  · show Int.fdiv _ 16777216 = _; rw [Int.fdiv_eq_ediv_of_nonneg _ (by omega)]; omega
  · show Int.fdiv _ 65536 = _; rw [Int.fdiv_eq_ediv_of_nonneg _ (by omega)]; omega
  · show Int.fdiv _ 256 = _; rw [Int.fdiv_eq_ediv_of_nonneg _ (by omega)]; omega
  · show Int.fdiv _ 1 = _; rw [Int.fdiv_eq_ediv_of_nonneg _ (by omega)]; omega
theorem u8m (x : Int) : IntKind.u8.wrap (x % 256) = IntKind.u8.wrap x := by
  rw [u8w, u8w]; omega
theorem sPad_eq (s : Str) : sPad s = rsPad s := by
  unfold sPad rsPad
  obtain ⟨h1, h2, h3, h4, h5, h6, h7, h8⟩ := shr_pad s.length
  simp only [run1, toS_append, pad_loop, h1, h2, h3, h4, h5, h6, h7, h8, u8m, List.append_assoc, List.append_nil, toS_toI, List.length_append, toI_length]
  rfl
/-- The words of a block. -/
theorem four_of {c : Str} (h : c.length = 4) : ∃ p q r t, c = [p, q, r, t] := by
  match c, h with
  | [p, q, r, t], _ => exact ⟨p, q, r, t, rfl⟩
theorem words_one (b : Str) (x : Nat) (y : List Int) (xs : List Int) (hb : b.length = 64) (hx : x < 16) (hl : xs.length = 64) (h0 : xs.getD x default = 0) :
    sWords_l1 b x y (((toI ((b.take ((4 * x) + 4)).drop (4 * x))).length) + 1) 0 xs = (4, xs.set x (rWord ((b.take ((4 * x) + 4)).drop (4 * x)))) := by
  have hc : ((b.take ((4 * x) + 4)).drop (4 * x)).length = 4 := by simp; omega
  obtain ⟨p, q, r, t, hc⟩ := four_of hc
  have hg : ∀ (ys : List Int) (v : Int), ys.length = 64 → (ys.set x v).getD x default = v := fun ys v h => by
    have hx' : x < 64 := by omega
    simp [List.getD_eq_getElem?_getD, List.getElem?_set, h, hx']
  have hL : (toI [p, q, r, t]).length = 4 := rfl
  simp only [hc, hL]
  rw [sWords_l1]; simp only [hc, hL]; rw [if_pos (by decide)]
  rw [sWords_l1]; simp only [hc, hL]; rw [if_pos (by decide)]
  rw [sWords_l1]; simp only [hc, hL]; rw [if_pos (by decide)]
  rw [sWords_l1]; simp only [hc, hL]; rw [if_pos (by decide)]
  rw [sWords_l1]; simp only [hc, hL]; rw [if_neg (by decide)]
  simp only [List.set_set, hg _ _ hl]
  rw [← word_four (xs.getD x default) p q r t h0]
theorem words_l2 (b : Str) (s : Str) (at_1 : Nat) (x_2 x_3 x_4 x_5 x_6 x_7 x_8 x_9 : Int) (i_14 : Nat) (x_15 : List Int) : ∀ n i xs, 16 ≤ i → sWords_l0 b n i xs = rsSum_l2 s at_1 x_2 x_3 x_4 x_5 x_6 x_7 x_8 x_9 i_14 x_15 n i xs
  | 0, i, xs, _ => rfl
  | n + 1, i, xs, h => by
    rw [sWords_l0, rsSum_l2]
    split
    · rw [if_neg (by omega), words_l2 b s at_1 x_2 x_3 x_4 x_5 x_6 x_7 x_8 x_9 i_14 x_15 n (i + 1) _ (by omega)]
      simp only [wSch0, wSch1, wRight_7, wRight_18, wRight_17, wRight_19]
    · rfl
theorem words_l1 (b : Str) (s : Str) (at_1 : Nat) (x_2 x_3 x_4 x_5 x_6 x_7 x_8 x_9 : Int) (hb : b.length = 64) (hch : ∀ i, i < 16 → ((rsPad s).take ((at_1 + (4 * i)) + 4)).drop (at_1 + (4 * i)) = (b.take ((4 * i) + 4)).drop (4 * i)) :
    ∀ n i xs, n + i = 16 → xs.length = 64 → (∀ j, i ≤ j → xs.getD j default = 0) → sWords_l0 b (n + 49) i xs = sWords_l0 b 49 16 (rsSum_l1 s at_1 x_2 x_3 x_4 x_5 x_6 x_7 x_8 x_9 (n + 1) i xs).2
  | 0, i, xs, h, _, _ => by
    rw [rsSum_l1, if_neg (by omega)]
    have : i = 16 := by omega
    subst this
    rfl
  | n + 1, i, xs, h, hl, h0 => by
    rw [rsSum_l1, if_pos (by omega), show n + 1 + 49 = (n + 49) + 1 by omega, sWords_l0, if_pos (by omega), if_pos (by omega), words_one b i xs xs hb (by omega) hl (h0 i (Nat.le_refl _)), hch i (by omega)]
    simp only [run2]
    refine words_l1 b s at_1 x_2 x_3 x_4 x_5 x_6 x_7 x_8 x_9 hb hch n (i + 1) _ (by omega) (by simp [hl]) (fun j hj => ?_)
    rw [← h0 j (by omega)]
    simp only [List.getD_eq_getElem?_getD, List.getElem?_set]
    rw [if_neg (by omega)]
theorem round_eq (s : Str) (at_1 : Nat) (y_2 y_3 y_4 y_5 y_6 y_7 y_8 y_9 : Int) (i_14 : Nat) (x_15 : List Int) (i_20 : Nat) (ws : List Int) (x_1 x_2 x_3 x_4 x_5 x_6 x_7 x_8 : Int) (m : Str) (hw : sWords (m.take 64) = ws) :
    ∀ n i a b c d e f g h, sSum_l1 s x_1 x_2 x_3 x_4 x_5 x_6 x_7 x_8 m n i a b c d e f g h = rsSum_l3 s at_1 y_2 y_3 y_4 y_5 y_6 y_7 y_8 y_9 i_14 x_15 i_20 ws n i a b c d e f g h
  | 0, i, a, b, c, d, e, f, g, h => rfl
  | n + 1, i, a, b, c, d, e, f, g, h => by
    rw [sSum_l1, rsSum_l3]
    split
    · rw [round_eq s at_1 y_2 y_3 y_4 y_5 y_6 y_7 y_8 y_9 i_14 x_15 i_20 ws x_1 x_2 x_3 x_4 x_5 x_6 x_7 x_8 m hw n]
      simp only [wLower, wUpper, wMix, wRight_2, wRight_13, wRight_22, wRight_6, wRight_11, wRight_25, hw, rTab]
    · rfl
theorem blocks_eq (s : Str) : ∀ n at_1 m a b c d e f g h, m = (rsPad s).drop at_1 → (∃ k, at_1 = 64 * k) →
    (match sSum_l0 s n a b c d e f g h m with | (a, b, c, d, e, f, g, h, _) => (a, b, c, d, e, f, g, h)) = (rsSum_l0 s n at_1 a b c d e f g h).2
  | 0, at_1, m, a, b, c, d, e, f, g, h, hm, _ => rfl
  | n + 1, at_1, m, a, b, c, d, e, f, g, h, hm, ⟨k, hk⟩ => by
    rw [sSum_l0, rsSum_l0]
    have hmod := rsPad_mod s
    have hml : m.length = (rsPad s).length - at_1 := by rw [hm]; simp
    by_cases hc : ((at_1 : Nat) : Int) < ((((rsPad s).length) : Nat) : Int)
    · rw [if_pos hc, if_pos (by omega)]
      have hb : (m.take 64).length = 64 := by simp; omega
      have hch : ∀ i, i < 16 → ((rsPad s).take ((at_1 + (4 * i)) + 4)).drop (at_1 + (4 * i)) = ((m.take 64).take ((4 * i) + 4)).drop (4 * i) := by
        intro i hi
        rw [List.take_take, Nat.min_eq_left (by omega), hm, List.take_drop, List.drop_drop, show at_1 + (4 * i + 4) = at_1 + 4 * i + 4 by omega]
      simp only [run2, run9]
      rw [round_eq s at_1 a b c d e f g h
        (rsSum_l1 s at_1 a b c d e f g h (16 + 1) 0 (List.replicate 64 0)).1
        (rsSum_l1 s at_1 a b c d e f g h (16 + 1) 0 (List.replicate 64 0)).2
        (rsSum_l2 s at_1 a b c d e f g h (rsSum_l1 s at_1 a b c d e f g h (16 + 1) 0 (List.replicate 64 0)).1 (rsSum_l1 s at_1 a b c d e f g h (16 + 1) 0 (List.replicate 64 0)).2 (64 - 16 + 1) 16 (rsSum_l1 s at_1 a b c d e f g h (16 + 1) 0 (List.replicate 64 0)).2).1
        (rsSum_l2 s at_1 a b c d e f g h (rsSum_l1 s at_1 a b c d e f g h (16 + 1) 0 (List.replicate 64 0)).1 (rsSum_l1 s at_1 a b c d e f g h (16 + 1) 0 (List.replicate 64 0)).2 (64 - 16 + 1) 16 (rsSum_l1 s at_1 a b c d e f g h (16 + 1) 0 (List.replicate 64 0)).2).2
        a b c d e f g h m (by
          unfold sWords
          rw [words_l1 (m.take 64) s at_1 a b c d e f g h hb hch 16 0 (List.replicate 64 0) rfl (by simp) (fun j _ => by
            simp only [List.getD_eq_getElem?_getD, List.getElem?_replicate]; split <;> rfl)]
          simp only [run2]
          rw [words_l2 (m.take 64) s at_1 a b c d e f g h (rsSum_l1 s at_1 a b c d e f g h (16 + 1) 0 (List.replicate 64 0)).1 (rsSum_l1 s at_1 a b c d e f g h (16 + 1) 0 (List.replicate 64 0)).2 49 16 _ (Nat.le_refl _)])]
      exact blocks_eq s n (at_1 + 64) (m.drop 64) _ _ _ _ _ _ _ _ (by rw [hm, List.drop_drop]) ⟨k + 1, by omega⟩
    · rw [if_neg hc, if_neg (by omega)]
theorem sSum_eq (s : Str) : sSum s = rsSum s := by
  unfold sSum rsSum
  rw [sPad_eq]
  have := blocks_eq s ((rsPad s).length + 1) 0 (rsPad s) 1779033703 3144134277 1013904242 2773480762 1359893119 2600822924 528734635 1541459225 rfl ⟨0, rfl⟩
  simp only [run9]
  generalize sSum_l0 s ((rsPad s).length + 1) 1779033703 3144134277 1013904242 2773480762 1359893119 2600822924 528734635 1541459225 (rsPad s) = A at this ⊢
  generalize rsSum_l0 s ((rsPad s).length + 1) 0 1779033703 3144134277 1013904242 2773480762 1359893119 2600822924 528734635 1541459225 = B at this ⊢
  obtain ⟨a, b, c, d, e, f, g, h, m⟩ := A
  obtain ⟨at_1, a', b', c', d', e', f', g', h'⟩ := B
  simp only [Prod.mk.injEq] at this
  obtain ⟨rfl, rfl, rfl, rfl, rfl, rfl, rfl, rfl⟩ := this
  simp only [toS_append, List.nil_append]
theorem join_oneE (x s : List UInt8) : Lib.join [x] s = x := by simp [Lib.join, List.intercalate]
theorem join_twoE (x y : List UInt8) : Lib.join [x, y] [] = x ++ y := by simp [Lib.join, List.intercalate, List.intersperse]
theorem join_threeE (x y z s : List UInt8) : Lib.join [x, y, z] s = (((x ++ s) ++ y) ++ s) ++ z := by simp [Lib.join, List.intercalate, List.intersperse]
/-- A key, padded. -/
def pKey (key : Str) : List Int := toI (key.take 64) ++ (List.replicate 64 (0 : Int)).drop key.length
theorem pKey_at (key : Str) (h : key.length ≤ 64) (i : Nat) : (pKey key).getD i default = if ((i : Nat) : Int) < ((key.length : Nat) : Int) then (((key.getD i default).toNat : Nat) : Int) else 0 := by
  unfold pKey
  rw [List.take_of_length_le h, List.getD_eq_getElem?_getD, List.getElem?_append, toI_length]
  by_cases hi : i < key.length
  · rw [if_pos hi, if_pos (by omega)]
    simp only [toI, List.getElem?_map, List.getD_eq_getElem?_getD]
    rw [List.getElem?_eq_getElem hi]
    rfl
  · rw [if_neg hi, if_neg (by omega)]
    simp only [List.drop_replicate, List.getElem?_replicate]
    split <;> rfl
theorem pad_l0 (key : Str) (l : List Str) (h : key.length ≤ 64) : ∀ n i xs, (mMac_l0 key l n i xs).2 = (rPad_l0 key 54 n xs i).1
  | 0, i, xs => rfl
  | n + 1, i, xs => by
    have := pKey_at key h i
    unfold pKey at this
    rw [mMac_l0, rPad_l0]
    by_cases h1 : ((i : Nat) : Int) < 64
    · rw [if_pos h1, if_pos h1, this]
      by_cases h2 : ((i : Nat) : Int) < ((key.length : Nat) : Int)
      · rw [if_pos h2, if_pos h2]; exact pad_l0 key l h n _ _
      · rw [if_neg h2, if_neg h2]; exact pad_l0 key l h n _ _
    · rw [if_neg h1, if_neg h1]
theorem pad_l1 (key : Str) (l : List Str) (a : Nat) (b : List Int) (h : key.length ≤ 64) : ∀ n i xs, (mMac_l1 key l a b n i xs).2 = (rPad_l0 key 92 n xs i).1
  | 0, i, xs => rfl
  | n + 1, i, xs => by
    have := pKey_at key h i
    unfold pKey at this
    rw [mMac_l1, rPad_l0]
    by_cases h1 : ((i : Nat) : Int) < 64
    · rw [if_pos h1, if_pos h1, this]
      by_cases h2 : ((i : Nat) : Int) < ((key.length : Nat) : Int)
      · rw [if_pos h2, if_pos h2]; exact pad_l1 key l a b h n _ _
      · rw [if_neg h2, if_neg h2]; exact pad_l1 key l a b h n _ _
    · rw [if_neg h1, if_neg h1]
theorem mRight_eq (key : Str) : mRight key = rmRight key := rfl
theorem right_len {key : Str} (h : mRight key = true) : key.length ≤ 64 := by
  unfold mRight at h
  split at h
  · have := of_decide_eq_true h; omega
  · cases h
theorem mMac_eq (key : Str) (l : List Str) (h : key.length ≤ 64) : mMac key l = rsSum ((rPad key 92) ++ (rsSum ((rPad key 54) ++ Lib.join l []))) := by
  unfold mMac rPad
  simp only [run2, run0, join_oneE, sSum_eq]
  rw [pad_l1 key l _ _ h, pad_l0 key l h]
theorem mMacOf_eq (key s : Str) : mMacOf key s = rMacOf key s := by
  unfold mMacOf rMacOf
  rw [mRight_eq]
  cases hr : rmRight key
  · simp
  · rw [if_pos rfl, mMac_eq key _ (right_len (by rw [mRight_eq]; exact hr)), join_oneE]
    simp
theorem mChal_eq (a b : Int) : mChal a b = rChal a b := by
  unfold mChal rChal
  simp only [List.getD_cons_zero, List.getD_cons_succ, List.cons_append, List.nil_append, join_threeE, sSum_eq]
  by_cases h1 : a < 0
  · rw [if_pos h1, if_neg (by omega)]
  · rw [if_neg h1, if_pos (by omega)]
    by_cases h2 : 2147483647 < a
    · rw [if_pos h2, if_neg (by omega)]
    · rw [if_neg h2, if_pos (by omega)]
      by_cases h3 : b < 0
      · rw [if_pos h3, if_neg (by omega)]
      · rw [if_neg h3, if_pos (by omega)]
        by_cases h4 : 2147483647 < b
        · rw [if_pos h4, if_neg (by omega)]
        · rw [if_neg h4, if_pos (by omega)]
theorem mAns_mac (key challenge name : Str) (hr : mRight key = true) : mMac key [challenge, name] = (mMacOf key (challenge ++ name)).1 := by
  unfold mMacOf
  rw [if_pos hr, mMac_eq key _ (right_len hr), mMac_eq key _ (right_len hr), join_oneE, join_twoE]
theorem mAns_eq (key challenge name : Str) : mAns key challenge name = rAns key challenge name := by
  unfold mAns rAns
  rw [← mRight_eq]
  cases hr : mRight key
  · simp
  · rw [if_pos rfl]
    simp only [Bool.not_true, Bool.false_eq_true, if_false]
    by_cases h : ((challenge.length : Nat) : Int) = 32
    · rw [if_pos h, if_neg (by simp [h]), mAns_mac key challenge name hr, ← mMacOf_eq]
      unfold mMacOf
      rw [if_pos hr]
    · rw [if_neg h, if_pos h]
/-- The same. -/
theorem wrap_i64_bv (b : BitVec 64) : IntKind.i64.wrap (b.toNat : Int) = b.toInt := by
  have := b.isLt
  rw [BitVec.toInt_eq_toNat_bmod, Int.bmod_def]
  simp only [IntKind.wrap, IntKind.bits, IntKind.signed]
  simp
  omega
theorem orI64 (a b : Int) : orI .i64 a b = (BitVec.ofInt 64 a ||| BitVec.ofInt 64 b).toInt := wrap_i64_bv _
theorem xorI64 (a b : Int) : xorI .i64 a b = (BitVec.ofInt 64 a ^^^ BitVec.ofInt 64 b).toInt := wrap_i64_bv _
theorem toInt0 (b : BitVec 64) : b.toInt = 0 ↔ b = 0#64 := by
  constructor
  · intro h
    apply BitVec.eq_of_toInt_eq
    rw [h]; rfl
  · rintro rfl; rfl
theorem or0 (a b : BitVec 64) : (a ||| b) = 0#64 ↔ a = 0#64 ∧ b = 0#64 := by
  constructor
  · intro h
    constructor
    · apply BitVec.eq_of_getLsbD_eq
      intro i hi
      have := congrArg (fun z => z.getLsbD i) h
      simp only [BitVec.getLsbD_or, BitVec.getLsbD_zero, Bool.or_eq_false_iff] at this
      simp [this.1]
    · apply BitVec.eq_of_getLsbD_eq
      intro i hi
      have := congrArg (fun z => z.getLsbD i) h
      simp only [BitVec.getLsbD_or, BitVec.getLsbD_zero, Bool.or_eq_false_iff] at this
      simp [this.2]
  · rintro ⟨rfl, rfl⟩; rfl
theorem xor_byte (p q : UInt8) : BitVec.ofInt 64 (xorI .u8 (p.toNat : Int) (q.toNat : Int)) = 0#64 ↔ p = q := by
  have e : xorI .u8 (p.toNat : Int) (q.toNat : Int) = ((p.toBitVec ^^^ q.toBitVec).toNat : Int) := by
    unfold xorI
    rw [u8w]
    have h1 : BitVec.ofInt IntKind.u8.bits (p.toNat : Int) = p.toBitVec := by
      show BitVec.ofInt 8 ((p.toBitVec.toNat : Nat) : Int) = p.toBitVec
      simp
    have h2 : BitVec.ofInt IntKind.u8.bits (q.toNat : Int) = q.toBitVec := by
      show BitVec.ofInt 8 ((q.toBitVec.toNat : Nat) : Int) = q.toBitVec
      simp
    rw [h1, h2]
    have : (p.toBitVec ^^^ q.toBitVec).toNat < 2 ^ 8 := (p.toBitVec ^^^ q.toBitVec).isLt
    show ((p.toBitVec ^^^ q.toBitVec).toNat : Int) % 256 = _
    omega
  rw [e]
  constructor
  · intro h
    have h1 := congrArg BitVec.toNat h
    have : (p.toBitVec ^^^ q.toBitVec).toNat < 2 ^ 8 := (p.toBitVec ^^^ q.toBitVec).isLt
    have h2 : (p.toBitVec ^^^ q.toBitVec).toNat = 0 := by
      simp only [BitVec.ofInt_natCast, BitVec.toNat_ofNat] at h1
      omega
    have h3 : p.toBitVec ^^^ q.toBitVec = 0#8 := BitVec.eq_of_toNat_eq h2
    have h4 : p.toBitVec = q.toBitVec := by
      have := congrArg (· ^^^ q.toBitVec) h3
      simpa [BitVec.xor_assoc] using this
    exact UInt8.toBitVec_inj.1 h4
  · rintro rfl; simp
theorem same_loop (a b : Str) (m : Nat) (hm : (m : Int) = (if ((b.length : Nat) : Int) < ((a.length : Nat) : Int) then ((b.length : Nat) : Int) else ((a.length : Nat) : Int))) : ∀ n x (d : BitVec 64), m < n + x →
    ((mSame_l0 a b n x d.toInt).2 = 0 ↔ d = 0#64 ∧ ∀ j, x ≤ j → j < m → a.getD j default = b.getD j default)
  | 0, x, d, h => by
    rw [mSame_l0, toInt0]
    constructor
    · intro hd; exact ⟨hd, fun j h1 h2 => by omega⟩
    · exact fun h => h.1
  | n + 1, x, d, h => by
    rw [mSame_l0, ← hm]
    by_cases hx : ((x : Nat) : Int) < (m : Int)
    · rw [if_pos hx, orI64, same_loop a b m hm n (x + 1) _ (by omega), or0, xor_byte, BitVec.ofInt_toInt]
      constructor
      · rintro ⟨⟨h1, h2⟩, h3⟩
        refine ⟨h1, fun j hj hj2 => ?_⟩
        by_cases e : j = x
        · subst e; exact h2
        · exact h3 j (by omega) hj2
      · rintro ⟨h1, h2⟩
        exact ⟨⟨h1, h2 x (Nat.le_refl _) (by omega)⟩, fun j hj hj2 => h2 j (by omega) hj2⟩
    · rw [if_neg hx, toInt0]
      constructor
      · intro hd; exact ⟨hd, fun j h1 h2 => by omega⟩
      · exact fun h => h.1
theorem mSame_eq (a b : Str) (ha : a.length ≤ 200) (hb : b.length ≤ 200) : mSame a b = decide (a = b) := by
  unfold mSame
  simp only [run2]
  refine decide_eq_decide.2 ?_
  obtain ⟨m, hm⟩ : ∃ m : Nat, (m : Int) = (if ((b.length : Nat) : Int) < ((a.length : Nat) : Int) then ((b.length : Nat) : Int) else ((a.length : Nat) : Int)) := by
    split
    · exact ⟨b.length, rfl⟩
    · exact ⟨a.length, rfl⟩
  rw [xorI64, same_loop a b m hm _ 0 _ (by rw [← hm]; omega)]
  constructor
  · rintro ⟨h1, h2⟩
    have hl : a.length = b.length := by
      have h3 : BitVec.ofInt 64 ((a.length : Nat) : Int) = BitVec.ofInt 64 ((b.length : Nat) : Int) := by
        have := congrArg (· ^^^ BitVec.ofInt 64 ((b.length : Nat) : Int)) h1
        simpa [BitVec.xor_assoc] using this
      have h4 := congrArg BitVec.toNat h3
      simp only [BitVec.ofInt_natCast, BitVec.toNat_ofNat] at h4
      omega
    have hml : m = a.length := by
      rw [hl] at hm
      simp at hm
      omega
    apply List.ext_getElem hl
    intro i hi1 hi2
    have := h2 i (Nat.zero_le _) (by omega)
    simpa [List.getD_eq_getElem?_getD, List.getElem?_eq_getElem hi1, List.getElem?_eq_getElem hi2] using this
  · rintro rfl
    refine ⟨by simp, fun _ _ _ => rfl⟩
theorem lMacMacs_true (key s t : Str) : lMacMacs key s t = true := by
  unfold lMacMacs
  rw [mSame_eq _ _ (lmCut_len _) (lmCut_len _), mSame_eq _ _ (lmCut_len _) (lmCut_len _)]
  simp [mRight_eq, mMacOf_eq]
theorem lMacAsks_true (a b : Int) (key challenge name : Str) : lMacAsks a b key challenge name = true := by
  unfold lMacAsks
  simp [mChal_eq, mAns_eq]
theorem macOf_bad (key s : Str) (h : (mMacOf key s).2 ≠ 0) : (mMacOf key s).1 = [] ∧ mRight key = false := by
  unfold mMacOf at h ⊢
  cases hr : mRight key
  · simp
  · rw [hr] at h; simp at h
theorem macOf_good (key s : Str) (h : (mMacOf key s).2 = 0) : (mMacOf key s).1 = mMac key [s] ∧ mRight key = true := by
  unfold mMacOf at h ⊢
  cases hr : mRight key
  · rw [hr] at h; simp at h
  · simp
theorem toI_toS0 (m : Nat) : toI (toS (List.replicate m (default : Int))) = List.replicate m 0 := by
  simp [toI, toS]
theorem pKey_pad (key : Str) (m : Nat) (h : (key ++ toS (List.replicate m (default : Int))).length ≤ 64) : pKey (key ++ toS (List.replicate m (default : Int))) = pKey key := by
  have h1 := h
  simp only [List.length_append, toS_length, List.length_replicate] at h1
  unfold pKey
  rw [List.take_of_length_le h, List.take_of_length_le (by omega)]
  have : toI (key ++ toS (List.replicate m (default : Int))) = toI key ++ List.replicate m 0 := by
    rw [← toI_toS0]; simp [toI]
  rw [this, List.append_assoc]
  simp only [List.drop_replicate, List.length_append, toS_length, List.length_replicate, List.replicate_append_replicate]
  congr 2
  omega
theorem mac_l0_pad (k1 k2 : Str) (l : List Str) (h : pKey k1 = pKey k2) : ∀ n i xs, mMac_l0 k1 l n i xs = mMac_l0 k2 l n i xs
  | 0, i, xs => rfl
  | n + 1, i, xs => by
    have h' := h
    unfold pKey at h'
    rw [mMac_l0, mMac_l0, h']
    split
    · exact mac_l0_pad k1 k2 l h n _ _
    · rfl
theorem mac_l1_pad (k1 k2 : Str) (l : List Str) (a : Nat) (b : List Int) (h : pKey k1 = pKey k2) : ∀ n i xs, mMac_l1 k1 l a b n i xs = mMac_l1 k2 l a b n i xs
  | 0, i, xs => rfl
  | n + 1, i, xs => by
    have h' := h
    unfold pKey at h'
    rw [mMac_l1, mMac_l1, h']
    split
    · exact mac_l1_pad k1 k2 l a b h n _ _
    · rfl
theorem mMac_pad (k1 k2 : Str) (l : List Str) (h : pKey k1 = pKey k2) : mMac k1 l = mMac k2 l := by
  unfold mMac
  simp only [run2, run0]
  rw [mac_l0_pad k1 k2 l h, mac_l1_pad k1 k2 l _ _ h]
theorem lMacPads_true (key s : Str) (n_ : Int) : lMacPads key s n_ = true := by
  unfold lMacPads
  generalize (((if 64 < (if n_ < 0 then 0 else n_) then 64 else (if n_ < 0 then 0 else n_))).toNat) = m
  by_cases h1 : (mMacOf (lmCut key) (lmCut s)).2 = 0
  · rw [if_neg (by simp [h1])]
    by_cases h2 : (mMacOf ((lmCut key) ++ (toS (List.replicate m (default : Int)))) (lmCut s)).2 = 0
    · rw [if_neg (fun e => e h2)]
      obtain ⟨e1, r1⟩ := macOf_good _ _ h1
      obtain ⟨e2, r2⟩ := macOf_good _ _ h2
      rw [e1, e2, mMac_pad _ _ _ (pKey_pad (lmCut key) m (right_len r2)), if_pos rfl, mMac_len]
      simp
    · rw [if_pos h2, if_pos h1, if_neg h2]
      exact decide_eq_true (macOf_bad _ _ h2).1
  · rw [if_pos h1, if_neg h1, if_pos (macOf_bad _ _ h1).1]
    by_cases h2 : (mMacOf ((lmCut key) ++ (toS (List.replicate m (default : Int)))) (lmCut s)).2 = 0
    · rw [if_pos h2]
    · rw [if_neg h2]
      exact decide_eq_true (macOf_bad _ _ h2).1
theorem chal_bad (a b : Int) (h : (mChal a b).2 ≠ 0) : (mChal a b).1 = [] := by
  revert h
  unfold mChal
  split
  · split
    · split
      · split
        · exact fun h => absurd rfl h
        · exact fun _ => rfl
      · exact fun _ => rfl
    · exact fun _ => rfl
  · exact fun _ => rfl
theorem chal_good (a b : Int) (h : (mChal a b).2 = 0) : (mChal a b).1.length = 32 := by
  revert h
  unfold mChal
  split
  · split
    · split
      · split
        · exact fun _ => sSum_len _
        · exact fun h => absurd h (by decide)
      · exact fun h => absurd h (by decide)
    · exact fun h => absurd h (by decide)
  · exact fun h => absurd h (by decide)
theorem lMacAnswers_true (key : Str) (a b : Int) (name : Str) : lMacAnswers key a b name = true := by
  unfold lMacAnswers
  by_cases h : (mChal a b).2 = 0
  · rw [if_neg (by simp [h])]
    have hl := chal_good a b h
    rw [if_pos (by rw [hl]; rfl)]
    cases hr : mRight (lmCut key)
    · have e1 : mAns (lmCut key) (mChal a b).1 (lmCut name) = ([], 50) := by
        unfold mAns; rw [hr]; simp
      have e2 : mMacOf (lmCut key) ((mChal a b).1 ++ lmCut name) = ([], 50) := by
        unfold mMacOf; rw [hr]; simp
      rw [e1, e2]; simp
    · have e1 : mAns (lmCut key) (mChal a b).1 (lmCut name) = (mMac (lmCut key) [(mChal a b).1, lmCut name], 0) := by
        unfold mAns; rw [hr, if_pos rfl, if_pos (by rw [hl]; rfl)]
      rw [e1, mAns_mac _ _ _ hr]
      have e2 : (mMacOf (lmCut key) ((mChal a b).1 ++ lmCut name)).2 = 0 := by
        unfold mMacOf; rw [hr]; simp
      rw [e2]; simp
  · rw [if_pos h, if_pos (chal_bad a b h), chal_bad a b h]
    unfold mAns
    cases hr : mRight (lmCut key)
    · simp
    · simp
theorem sums_l0 (key s : Str) (l : List Str) (a : Nat) (b : List Int) (k : Str) (hk : key.take (min key.length 64) = k) (h : k.length ≤ 64) : ∀ n i xs ys,
    (lMacSums_l0 key s n i xs ys).2.1 = (mMac_l0 k l n i xs).2 ∧ (lMacSums_l0 key s n i xs ys).2.2 = (mMac_l1 k l a b n i ys).2
  | 0, i, xs, ys => ⟨rfl, rfl⟩
  | n + 1, i, xs, ys => by
    have := pKey_at k h i
    unfold pKey at this
    rw [lMacSums_l0, mMac_l0, mMac_l1, hk]
    by_cases h1 : ((i : Nat) : Int) < 64
    · rw [if_pos h1, if_pos h1, if_pos h1, this]
      by_cases h2 : ((i : Nat) : Int) < ((k.length : Nat) : Int)
      · rw [if_pos h2, if_pos h2]; exact sums_l0 key s l a b k hk h n _ _ _
      · rw [if_neg h2, if_neg h2]; exact sums_l0 key s l a b k hk h n _ _ _
    · rw [if_neg h1, if_neg h1, if_neg h1]; exact ⟨rfl, rfl⟩
theorem lMacSums_true (key s : Str) : lMacSums key s = true := by
  unfold lMacSums
  have hk : (key.take (min key.length 64)).length ≤ 64 := by simp; omega
  by_cases h : (mMacOf (key.take (min key.length 64)) (lmCut s)).2 = 0
  · rw [if_neg (by simp [h])]
    simp only [run3, run0]
    rw [(macOf_good _ _ h).1]
    simp only [decide_eq_true_eq]
    unfold mMac
    simp only [run2, run0, join_oneE]
    rw [(sums_l0 key s [lmCut s] 0 [] _ rfl hk (64 + 1) 0 [] []).1, (sums_l0 key s [lmCut s] (mMac_l0 (List.take (min (List.length key) 64) key) [lmCut s] (64 + 1) 0 []).1 (mMac_l0 (List.take (min (List.length key) 64) key) [lmCut s] (64 + 1) 0 []).2 _ rfl hk (64 + 1) 0 [] []).2]
  · rw [if_pos h]
    obtain ⟨h1, h2⟩ := macOf_bad _ _ h
    have : key.take (min key.length 64) = [] := by
      unfold mRight at h2
      split at h2
      · have := of_decide_eq_false h2; omega
      · exact List.length_eq_zero_iff.1 (by omega)
    rw [if_pos this, h1]
    simp
end Go.Proofs.YtodejmindmiknaaDoor.Jd
