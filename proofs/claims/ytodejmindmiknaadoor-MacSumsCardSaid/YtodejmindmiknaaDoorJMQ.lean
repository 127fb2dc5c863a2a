/- Plain law: HMACs. No condition. -/
import Derived.Test.YtodejmindmiknaaDoorJMP
import Derived.Test.YtodejmindmiknaaDoorJVN
import Derived.Test.YtodejmindmiknaaDoorJMN
import Derived.Test.YtodejmindmiknaaDoorJZN
namespace Go.Proofs.YtodejmindmiknaaDoor.Jd
set_option linter.unusedVariables false
set_option linter.unusedSimpArgs false
theorem join_oneE (x s : List UInt8) : Lib.join [x] s = x := by simp [Lib.join, List.intercalate]
theorem join_twoE (x y : List UInt8) : Lib.join [x, y] [] = x ++ y := by simp [Lib.join, List.intercalate, List.intersperse]
theorem join_threeE (x y z s : List UInt8) : Lib.join [x, y, z] s = (((x ++ s) ++ y) ++ s) ++ z := by simp [Lib.join, List.intercalate, List.intersperse]
/-- A key, padded. -/
def pKey (key : Str) : List Int := toI (key.take 64) ++ (List.replicate 64 (0 : Int)).drop key.length
theorem pKey_at (key : Str) (h : key.length ≤ 64) (i : Nat) : (pKey key).getD i default = if ((i : Nat) : Int) < ((key.length : Nat) : Int) then (((key.getD i default).toNat : Nat) : Int) else 0 := by
  unfold pKey
  rw [List.take_of_length_le h, List.getD_eq_getElem?_getD, List.getElem?_append, toI_length]
  by_cases hi : i < key.length
  · rw [if_pos hi, if_pos (by omega)]
    simp only [toI, List.getElem?_map, List.getD_eq_getElem?_getD]
    rw [List.getElem?_eq_getElem hi]
    rfl
  · rw [if_neg hi, if_neg (by omega)]
    simp only [List.drop_replicate, List.getElem?_replicate]
    split <;> rfl
theorem pad_l0 (key : Str) (l : List Str) (h : key.length ≤ 64) : ∀ n i xs, (mMac_l0 key l n i xs).2 = (rPad_l0 key 54 n xs i).1
  | 0, i, xs => rfl
  | n + 1, i, xs => by
    have := pKey_at key h i
    unfold pKey at this
    rw [mMac_l0, rPad_l0]
    by_cases h1 : ((i : Nat) : Int) < 64
    · rw [if_pos h1, if_pos h1, this]
      by_cases h2 : ((i : Nat) : Int) < ((key.length : Nat) : Int)
      · rw [if_pos h2, if_pos h2]; exact pad_l0 key l h n _ _
      · rw [if_neg h2, if_neg h2]; exact pad_l0 key l h n _ _
    · rw [if_neg h1, if_neg h1]
theorem pad_l1 (key : Str) (l : List Str) (a : Nat) (b : List Int) (h : key.length ≤ 64) : ∀ n i xs, (mMac_l1 key l a b n i xs).2 = (rPad_l0 key 92 n xs i).1
  | 0, i, xs => rfl
  | n + 1, i, xs => by
    have := pKey_at key h i
    unfold pKey at this
    rw [mMac_l1, rPad_l0]
    by_cases h1 : ((i : Nat) : Int) < 64
    · rw [if_pos h1, if_pos h1, this]
      by_cases h2 : ((i : Nat) : Int) < ((key.length : Nat) : Int)
      · rw [if_pos h2, if_pos h2]; exact pad_l1 key l a b h n _ _
      · rw [if_neg h2, if_neg h2]; exact pad_l1 key l a b h n _ _
    · rw [if_neg h1, if_neg h1]
theorem mRight_eq (key : Str) : mRight key = rmRight key := rfl
theorem right_len {key : Str} (h : mRight key = true) : key.length ≤ 64 := by
  unfold mRight at h
  split at h
  · have := of_decide_eq_true h; omega
  · cases h
theorem mMac_eq (key : Str) (l : List Str) (h : key.length ≤ 64) : mMac key l = rsSum ((rPad key 92) ++ (rsSum ((rPad key 54) ++ Lib.join l []))) := by
  unfold mMac rPad
  simp only [run2, run0, join_oneE, sSum_eq]
  rw [pad_l1 key l _ _ h, pad_l0 key l h]
theorem mMacOf_eq (key s : Str) : mMacOf key s = rMacOf key s := by
  unfold mMacOf rMacOf
  rw [mRight_eq]
  cases hr : rmRight key
  · simp
  · rw [if_pos rfl, mMac_eq key _ (right_len (by rw [mRight_eq]; exact hr)), join_oneE]
    simp
theorem mChal_eq (a b : Int) : mChal a b = rChal a b := by
  unfold mChal rChal
  simp only [List.getD_cons_zero, List.getD_cons_succ, List.cons_append, List.nil_append, join_threeE, sSum_eq]
  by_cases h1 : a < 0
  · rw [if_pos h1, if_neg (by omega)]
  · rw [if_neg h1, if_pos (by omega)]
    by_cases h2 : 2147483647 < a
    · rw [if_pos h2, if_neg (by omega)]
    · rw [if_neg h2, if_pos (by omega)]
      by_cases h3 : b < 0
      · rw [if_pos h3, if_neg (by omega)]
      · rw [if_neg h3, if_pos (by omega)]
        by_cases h4 : 2147483647 < b
        · rw [if_pos h4, if_neg (by omega)]
        · rw [if_neg h4, if_pos (by omega)]
theorem mAns_mac (key challenge name : Str) (hr : mRight key = true) : mMac key [challenge, name] = (mMacOf key (challenge ++ name)).1 := by
  unfold mMacOf
  rw [if_pos hr, mMac_eq key _ (right_len hr), mMac_eq key _ (right_len hr), join_oneE, join_twoE]
theorem mAns_eq (key challenge name : Str) : mAns key challenge name = rAns key challenge name := by
  unfold mAns rAns
  rw [← mRight_eq]
  cases hr : mRight key
  · simp
  · rw [if_pos rfl]
    simp only [Bool.not_true, Bool.false_eq_true, if_false]
    by_cases h : ((challenge.length : Nat) : Int) = 32
    · rw [if_pos h, if_neg (by simp [h]), mAns_mac key challenge name hr, ← mMacOf_eq]
      unfold mMacOf
      rw [if_pos hr]
    · rw [if_neg h, if_pos h]
/-- The same. -/
theorem wrap_i64_bv (b : BitVec 64) : IntKind.i64.wrap (b.toNat : Int) = b.toInt := by
  have := b.isLt
  rw [BitVec.toInt_eq_toNat_bmod, Int.bmod_def]
  simp only [IntKind.wrap, IntKind.bits, IntKind.signed]
  simp
  omega
theorem orI64 (a b : Int) : orI .i64 a b = (BitVec.ofInt 64 a ||| BitVec.ofInt 64 b).toInt := wrap_i64_bv _
theorem xorI64 (a b : Int) : xorI .i64 a b = (BitVec.ofInt 64 a ^^^ BitVec.ofInt 64 b).toInt := wrap_i64_bv _
theorem toInt0 (b : BitVec 64) : b.toInt = 0 ↔ b = 0#64 := by
  constructor
  · intro h
    apply BitVec.eq_of_toInt_eq
    rw [h]; rfl
  · rintro rfl; rfl
theorem or0 (a b : BitVec 64) : (a ||| b) = 0#64 ↔ a = 0#64 ∧ b = 0#64 := by
  constructor
  · intro h
    constructor
    · apply BitVec.eq_of_getLsbD_eq
      intro i hi
      have := congrArg (fun z => z.getLsbD i) h
      simp only [BitVec.getLsbD_or, BitVec.getLsbD_zero, Bool.or_eq_false_iff] at this
      simp [this.1]
    · apply BitVec.eq_of_getLsbD_eq
      intro i hi
      have := congrArg (fun z => z.getLsbD i) h
      simp only [BitVec.getLsbD_or, BitVec.getLsbD_zero, Bool.or_eq_false_iff] at this
      simp [this.2]
  · rintro ⟨rfl, rfl⟩; rfl
theorem xor_byte (p q : UInt8) : BitVec.ofInt 64 (xorI .u8 (p.toNat : Int) (q.toNat : Int)) = 0#64 ↔ p = q := by
  have e : xorI .u8 (p.toNat : Int) (q.toNat : Int) = ((p.toBitVec ^^^ q.toBitVec).toNat : Int) := by
    unfold xorI
    rw [u8w]
    have h1 : BitVec.ofInt IntKind.u8.bits (p.toNat : Int) = p.toBitVec := by
      show BitVec.ofInt 8 ((p.toBitVec.toNat : Nat) : Int) = p.toBitVec
      simp
    have h2 : BitVec.ofInt IntKind.u8.bits (q.toNat : Int) = q.toBitVec := by
      show BitVec.ofInt 8 ((q.toBitVec.toNat : Nat) : Int) = q.toBitVec
      simp
    rw [h1, h2]
    have : (p.toBitVec ^^^ q.toBitVec).toNat < 2 ^ 8 := (p.toBitVec ^^^ q.toBitVec).isLt
    show ((p.toBitVec ^^^ q.toBitVec).toNat : Int) % 256 = _
    omega
  rw [e]
  constructor
  · intro h
    have h1 := congrArg BitVec.toNat h
    have : (p.toBitVec ^^^ q.toBitVec).toNat < 2 ^ 8 := (p.toBitVec ^^^ q.toBitVec).isLt
    have h2 : (p.toBitVec ^^^ q.toBitVec).toNat = 0 := by
      simp only [BitVec.ofInt_natCast, BitVec.toNat_ofNat] at h1
      omega
    have h3 : p.toBitVec ^^^ q.toBitVec = 0#8 := BitVec.eq_of_toNat_eq h2
    have h4 : p.toBitVec = q.toBitVec := by
      have := congrArg (· ^^^ q.toBitVec) h3
      simpa [BitVec.xor_assoc] using this
    exact UInt8.toBitVec_inj.1 h4
  · rintro rfl; simp
theorem same_loop (a b : Str) (m : Nat) (hm : (m : Int) = (if ((b.length : Nat) : Int) < ((a.length : Nat) : Int) then ((b.length : Nat) : Int) else ((a.length : Nat) : Int))) : ∀ n x (d : BitVec 64), m < n + x →
    ((mSame_l0 a b n x d.toInt).2 = 0 ↔ d = 0#64 ∧ ∀ j, x ≤ j → j < m → a.getD j default = b.getD j default)
  | 0, x, d, h => by
    rw [mSame_l0, toInt0]
    constructor
    · intro hd; exact ⟨hd, fun j h1 h2 => by omega⟩
    · exact fun h => h.1
  | n + 1, x, d, h => by
    rw [mSame_l0, ← hm]
    by_cases hx : ((x : Nat) : Int) < (m : Int)
    · rw [if_pos hx, orI64, same_loop a b m hm n (x + 1) _ (by omega), or0, xor_byte, BitVec.ofInt_toInt]
      constructor
      · rintro ⟨⟨h1, h2⟩, h3⟩
        refine ⟨h1, fun j hj hj2 => ?_⟩
        by_cases e : j = x
        · subst e; exact h2
        · exact h3 j (by omega) hj2
      · rintro ⟨h1, h2⟩
        exact ⟨⟨h1, h2 x (Nat.le_refl _) (by omega)⟩, fun j hj hj2 => h2 j (by omega) hj2⟩
    · rw [if_neg hx, toInt0]
      constructor
      · intro hd; exact ⟨hd, fun j h1 h2 => by omega⟩
      · exact fun h => h.1
theorem mSame_eq (a b : Str) (ha : a.length ≤ 200) (hb : b.length ≤ 200) : mSame a b = decide (a = b) := by
  unfold mSame
  simp only [run2]
  refine decide_eq_decide.2 ?_
  obtain ⟨m, hm⟩ : ∃ m : Nat, (m : Int) = (if ((b.length : Nat) : Int) < ((a.length : Nat) : Int) then ((b.length : Nat) : Int) else ((a.length : Nat) : Int)) := by
    split
    · exact ⟨b.length, rfl⟩
    · exact ⟨a.length, rfl⟩
  rw [xorI64, same_loop a b m hm _ 0 _ (by rw [← hm]; omega)]
  constructor
  · rintro ⟨h1, h2⟩
    have hl : a.length = b.length := by
      have h3 : BitVec.ofInt 64 ((a.length : Nat) : Int) = BitVec.ofInt 64 ((b.length : Nat) : Int) := by
        have := congrArg (· ^^^ BitVec.ofInt 64 ((b.length : Nat) : Int)) h1
        simpa [BitVec.xor_assoc] using this
      have h4 := congrArg BitVec.toNat h3
      simp only [BitVec.ofInt_natCast, BitVec.toNat_ofNat] at h4
      omega
    have hml : m = a.length := by
      rw [hl] at hm
      simp at hm
      omega
    apply List.ext_getElem hl
    intro i hi1 hi2
    have := h2 i (Nat.zero_le _) (by omega)
    simpa [List.getD_eq_getElem?_getD, List.getElem?_eq_getElem hi1, List.getElem?_eq_getElem hi2] using this
  · rintro rfl
    refine ⟨by simp, fun _ _ _ => rfl⟩
theorem lMacMacs_true (key s t : Str) : lMacMacs key s t = true := by
  unfold lMacMacs
  rw [mSame_eq _ _ (lmCut_len _) (lmCut_len _), mSame_eq _ _ (lmCut_len _) (lmCut_len _)]
  simp [mRight_eq, mMacOf_eq]
theorem lMacAsks_true (a b : Int) (key challenge name : Str) : lMacAsks a b key challenge name = true := by
  unfold lMacAsks
  simp [mChal_eq, mAns_eq]
theorem macOf_bad (key s : Str) (h : (mMacOf key s).2 ≠ 0) : (mMacOf key s).1 = [] ∧ mRight key = false := by
  unfold mMacOf at h ⊢
  cases hr : mRight key
  · simp
  · rw [hr] at h; simp at h
theorem macOf_good (key s : Str) (h : (mMacOf key s).2 = 0) : (mMacOf key s).1 = mMac key [s] ∧ mRight key = true := by
  unfold mMacOf at h ⊢
  cases hr : mRight key
  · rw [hr] at h; simp at h
  · simp
theorem toI_toS0 (m : Nat) : toI (toS (List.replicate m (default : Int))) = List.replicate m 0 := by
  simp [toI, toS]
theorem pKey_pad (key : Str) (m : Nat) (h : (key ++ toS (List.replicate m (default : Int))).length ≤ 64) : pKey (key ++ toS (List.replicate m (default : Int))) = pKey key := by
  have h1 := h
  simp only [List.length_append, toS_length, List.length_replicate] at h1
  unfold pKey
  rw [List.take_of_length_le h, List.take_of_length_le (by omega)]
  have : toI (key ++ toS (List.replicate m (default : Int))) = toI key ++ List.replicate m 0 := by
    rw [← toI_toS0]; simp [toI]
  rw [this, List.append_assoc]
  simp only [List.drop_replicate, List.length_append, toS_length, List.length_replicate, List.replicate_append_replicate]
  congr 2
  omega
theorem mac_l0_pad (k1 k2 : Str) (l : List Str) (h : pKey k1 = pKey k2) : ∀ n i xs, mMac_l0 k1 l n i xs = mMac_l0 k2 l n i xs
  | 0, i, xs => rfl
  | n + 1, i, xs => by
    have h' := h
    unfold pKey at h'
    rw [mMac_l0, mMac_l0, h']
    split
    · exact mac_l0_pad k1 k2 l h n _ _
    · rfl
theorem mac_l1_pad (k1 k2 : Str) (l : List Str) (a : Nat) (b : List Int) (h : pKey k1 = pKey k2) : ∀ n i xs, mMac_l1 k1 l a b n i xs = mMac_l1 k2 l a b n i xs
  | 0, i, xs => rfl
  | n + 1, i, xs => by
    have h' := h
    unfold pKey at h'
    rw [mMac_l1, mMac_l1, h']
    split
    · exact mac_l1_pad k1 k2 l a b h n _ _
    · rfl
theorem mMac_pad (k1 k2 : Str) (l : List Str) (h : pKey k1 = pKey k2) : mMac k1 l = mMac k2 l := by
  unfold mMac
  simp only [run2, run0]
  rw [mac_l0_pad k1 k2 l h, mac_l1_pad k1 k2 l _ _ h]
theorem lMacPads_true (key s : Str) (n_ : Int) : lMacPads key s n_ = true := by
  unfold lMacPads
  generalize (((if 64 < (if n_ < 0 then 0 else n_) then 64 else (if n_ < 0 then 0 else n_))).toNat) = m
  by_cases h1 : (mMacOf (lmCut key) (lmCut s)).2 = 0
  · rw [if_neg (by simp [h1])]
    by_cases h2 : (mMacOf ((lmCut key) ++ (toS (List.replicate m (default : Int)))) (lmCut s)).2 = 0
    · rw [if_neg (fun e => e h2)]
      obtain ⟨e1, r1⟩ := macOf_good _ _ h1
      obtain ⟨e2, r2⟩ := macOf_good _ _ h2
      rw [e1, e2, mMac_pad _ _ _ (pKey_pad (lmCut key) m (right_len r2)), if_pos rfl, mMac_len]
      simp
    · rw [if_pos h2, if_pos h1, if_neg h2]
      exact decide_eq_true (macOf_bad _ _ h2).1
  · rw [if_pos h1, if_neg h1, if_pos (macOf_bad _ _ h1).1]
    by_cases h2 : (mMacOf ((lmCut key) ++ (toS (List.replicate m (default : Int)))) (lmCut s)).2 = 0
    · rw [if_pos h2]
    · rw [if_neg h2]
      exact decide_eq_true (macOf_bad _ _ h2).1
theorem chal_bad (a b : Int) (h : (mChal a b).2 ≠ 0) : (mChal a b).1 = [] := by
  revert h
  unfold mChal
  split
  · split
    · split
      · split
        · exact fun h => absurd rfl h
        · exact fun _ => rfl
      · exact fun _ => rfl
    · exact fun _ => rfl
  · exact fun _ => rfl
theorem chal_good (a b : Int) (h : (mChal a b).2 = 0) : (mChal a b).1.length = 32 := by
  revert h
  unfold mChal
  split
  · split
    · split
      · split
        · exact fun _ => sSum_len _
        · exact fun h => absurd h (by decide)
      · exact fun h => absurd h (by decide)
    · exact fun h => absurd h (by decide)
  · exact fun h => absurd h (by decide)
theorem lMacAnswers_true (key : Str) (a b : Int) (name : Str) : lMacAnswers key a b name = true := by
  unfold lMacAnswers
  by_cases h : (mChal a b).2 = 0
  · rw [if_neg (by simp [h])]
    have hl := chal_good a b h
    rw [if_pos (by rw [hl]; rfl)]
    cases hr : mRight (lmCut key)
    · have e1 : mAns (lmCut key) (mChal a b).1 (lmCut name) = ([], 50) := by
        unfold mAns; rw [hr]; simp
      have e2 : mMacOf (lmCut key) ((mChal a b).1 ++ lmCut name) = ([], 50) := by
        unfold mMacOf; rw [hr]; simp
      rw [e1, e2]; simp
    · have e1 : mAns (lmCut key) (mChal a b).1 (lmCut name) = (mMac (lmCut key) [(mChal a b).1, lmCut name], 0) := by
        unfold mAns; rw [hr, if_pos rfl, if_pos (by rw [hl]; rfl)]
      rw [e1, mAns_mac _ _ _ hr]
      have e2 : (mMacOf (lmCut key) ((mChal a b).1 ++ lmCut name)).2 = 0 := by
        unfold mMacOf; rw [hr]; simp
      rw [e2]; simp
  · rw [if_pos h, if_pos (chal_bad a b h), chal_bad a b h]
    unfold mAns
    cases hr : mRight (lmCut key)
    · simp
    · simp
theorem sums_l0 (key s : Str) (l : List Str) (a : Nat) (b : List Int) (k : Str) (hk : key.take (min key.length 64) = k) (h : k.length ≤ 64) : ∀ n i xs ys,
    (lMacSums_l0 key s n i xs ys).2.1 = (mMac_l0 k l n i xs).2 ∧ (lMacSums_l0 key s n i xs ys).2.2 = (mMac_l1 k l a b n i ys).2
  | 0, i, xs, ys => ⟨rfl, rfl⟩
  | n + 1, i, xs, ys => by
    have := pKey_at k h i
    unfold pKey at this
    rw [lMacSums_l0, mMac_l0, mMac_l1, hk]
    by_cases h1 : ((i : Nat) : Int) < 64
    · rw [if_pos h1, if_pos h1, if_pos h1, this]
      by_cases h2 : ((i : Nat) : Int) < ((k.length : Nat) : Int)
      · rw [if_pos h2, if_pos h2]; exact sums_l0 key s l a b k hk h n _ _ _
      · rw [if_neg h2, if_neg h2]; exact sums_l0 key s l a b k hk h n _ _ _
    · rw [if_neg h1, if_neg h1, if_neg h1]; exact ⟨rfl, rfl⟩
theorem lMacSums_true (key s : Str) : lMacSums key s = true := by
  unfold lMacSums
  have hk : (key.take (min key.length 64)).length ≤ 64 := by simp; omega
  by_cases h : (mMacOf (key.take (min key.length 64)) (lmCut s)).2 = 0
  · rw [if_neg (by simp [h])]
    simp only [run3, run0]
    rw [(macOf_good _ _ h).1]
    simp only [decide_eq_true_eq]
    unfold mMac
    simp only [run2, run0, join_oneE]
    rw [(sums_l0 key s [lmCut s] 0 [] _ rfl hk (64 + 1) 0 [] []).1, (sums_l0 key s [lmCut s] (mMac_l0 (List.take (min (List.length key) 64) key) [lmCut s] (64 + 1) 0 []).1 (mMac_l0 (List.take (min (List.length key) 64) key) [lmCut s] (64 + 1) 0 []).2 _ rfl hk (64 + 1) 0 [] []).2]
  · rw [if_pos h]
    obtain ⟨h1, h2⟩ := macOf_bad _ _ h
    have : key.take (min key.length 64) = [] := by
      unfold mRight at h2
      split at h2
      · have := of_decide_eq_false h2; omega
      · exact List.length_eq_zero_iff.1 (by omega)
    rw [if_pos this, h1]
    simp
end Go.Proofs.YtodejmindmiknaaDoor.Jd
