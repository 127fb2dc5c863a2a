/- Part of the proofs of this seat: walks and plain facts. No condition. -/
import Derived.Test.YtnblakihpoacjaaGreatDoorProg
import Derived.Test.YtnblakihpoacjaaGreatDoorP4
import Derived.Test.YtnblakihpoacjaaGreatDoorP2
namespace Go.Proofs.YtnblakihpoacjaaGreatDoor.Jd
set_option linter.unusedVariables false
set_option linter.unusedSimpArgs false
theorem and_mask {m k : Nat} (hm : m < 2 ^ 63) (hk : k ≤ 32) : andI .i64 (m : Int) (2 ^ k - 1) = (m : Int) % 2 ^ k := by
  have hp : (0 : Nat) < 2 ^ k := Nat.pow_pos (by omega)
  have hle : (2 : Nat) ^ k ≤ 2 ^ 32 := Nat.pow_le_pow_right (by omega) hk
  have e : ((2 : Int) ^ k - 1) = ((2 ^ k - 1 : Nat) : Int) := by rw [Int.ofNat_sub (by omega)]; simp
  rw [e, andI_nat hm (by omega), Nat.and_two_pow_sub_one_eq_mod]
  simp
theorem andNot_mask {m k : Nat} (hm : m < 2 ^ 63) (hk : k ≤ 32) : andNotI .i64 (m : Int) (2 ^ k - 1) = (m : Int) - (m : Int) % 2 ^ k := by
  have hp : (0 : Nat) < 2 ^ k := Nat.pow_pos (by omega)
  have hle : (2 : Nat) ^ k ≤ 2 ^ 32 := Nat.pow_le_pow_right (by omega) hk
  have e : ((2 : Int) ^ k - 1) = ((2 ^ k - 1 : Nat) : Int) := by rw [Int.ofNat_sub (by omega)]; simp
  rw [e]
  show IntKind.i64.wrap ((BitVec.ofInt 64 (m : Int) &&& ~~~ BitVec.ofInt 64 ((2 ^ k - 1 : Nat) : Int)).toNat : Int) = _
  rw [ofInt_nat, ofInt_nat]
  have h1 : (BitVec.ofNat 64 m &&& ~~~ BitVec.ofNat 64 (2 ^ k - 1)).toNat = m - m % 2 ^ k := by
    have hsh : m - m % 2 ^ k = (m >>> k) <<< k := by
      rw [Nat.shiftRight_eq_div_pow, Nat.shiftLeft_eq]
      have := Nat.div_add_mod m (2 ^ k)
      rw [Nat.mul_comm] at this
      omega
    rw [hsh]
    apply Nat.eq_of_testBit_eq
    intro i
    rw [BitVec.testBit_toNat, BitVec.getLsbD_and, BitVec.getLsbD_not, BitVec.getLsbD_ofNat, BitVec.getLsbD_ofNat, Nat.testBit_two_pow_sub_one, Nat.testBit_shiftLeft, Nat.testBit_shiftRight]
    by_cases hi : i < 64
    · by_cases hik : k ≤ i
      · have e1 : ¬ i < k := by omega
        have e2 : k + (i - k) = i := by omega
        simp [hi, hik, e1, e2]
      · have e1 : i < k := by omega
        simp [hi, hik, e1]
    · have e1 : m.testBit i = false := Nat.testBit_lt_two_pow (Nat.lt_of_lt_of_le hm (Nat.pow_le_pow_right (by omega) (by omega)))
      have e2 : k ≤ i := by omega
      have e3 : k + (i - k) = i := by omega
      simp [hi, e2, e3, e1]
  rw [h1]
  have hmm : m % 2 ^ k ≤ m := Nat.mod_le _ _
  have : IntKind.i64.wrap ((m - m % 2 ^ k : Nat) : Int) = ((m - m % 2 ^ k : Nat) : Int) := wrap_i64 (by omega)
  rw [this, Int.ofNat_sub hmm]
  simp
end Go.Proofs.YtnblakihpoacjaaGreatDoor.Jd

namespace Go.Proofs.YtnblakihpoacjaaGreatDoor.Jd
set_option linter.unusedVariables false
set_option linter.unusedSimpArgs false
theorem pPrint_len (p : PortsT) : (pPrint p).1.length ≤ 100 := by
  unfold pPrint
  cases h : pRight p
  · simp
  · have hr := pRight_t h
    have h1 := itoa_len (n := p.lo) (by omega)
    have h2 := itoa_len (n := p.hi) (by omega)
    rw [if_neg (by simp)]
    split
    · simp
    · split
      · simp only; omega
      · simp only [List.length_append, List.length_cons, List.length_nil]; omega
theorem tPrint_len (t : Target) : (tPrint t).1.length ≤ 200 := by
  have h0 := aPrint_len t.addr
  unfold tPrint
  split
  · simp
  · split
    · simp
    · split
      · simp
      · have h2 := itoa_len (n := t.port) (by omega)
        simp only [List.length_append, List.length_cons, List.length_nil]; omega
end Go.Proofs.YtnblakihpoacjaaGreatDoor.Jd

namespace Go.Proofs.YtnblakihpoacjaaGreatDoor.Jd
set_option linter.unusedVariables false
set_option linter.unusedSimpArgs false
theorem aPrintPrefix_len' (p : Prefix) : (aPrintPrefix p).1.length ≤ 200 := by
  have h0 := aPrint_len p.addr
  unfold aPrintPrefix
  cases h : aRight p
  · simp
  · have hr := aRight_t h
    have h2 := itoa_len (n := p.bits) (by omega)
    rw [if_neg (by simp)]
    simp only [List.length_append, List.length_cons, List.length_nil]; omega
theorem aclPrint_len (r : Rule) : (aclPrint r).1.length ≤ 1000 := by
  have h1 := aPrintPrefix_len' r.pfx
  have h2 := pPrint_len r.prt
  unfold aclPrint
  split
  · simp
  · split <;> simp only [List.length_append, List.length_cons, List.length_nil] <;> omega
end Go.Proofs.YtnblakihpoacjaaGreatDoor.Jd

namespace Go.Proofs.YtnblakihpoacjaaGreatDoor.Jd
set_option linter.unusedVariables false
set_option linter.unusedSimpArgs false
def WOk (x : Except (List Str × Int) (Nat × List Str × List Int × Nat)) : Prop := match x with
  | .error r => r.1 = []
  | .ok r => ∀ x ∈ r.2.1, x.length ≤ 64
theorem WOk_ite {c : Prop} [Decidable c] {x y : Except (List Str × Int) (Nat × List Str × List Int × Nat)} (h1 : c → WOk x) (h2 : ¬ c → WOk y) : WOk (if c then x else y) := by
  by_cases h : c
  · rw [if_pos h]; exact h1 h
  · rw [if_neg h]; exact h2 h
theorem wSplit_l0_len (s : Str) : ∀ (n i : Nat) (done : List Str) (word : List Int) (q : Nat), (∀ x ∈ done, x.length ≤ 64) → word.length ≤ 64 → WOk (wSplit_l0 s n i done word q)
  | 0, _, done, _, _, h, _ => h
  | n + 1, i, done, word, q, h, hw => by
    have he : ∀ x ∈ done ++ [toS word], x.length ≤ 64 := fun x hx => by
      rcases List.mem_append.1 hx with hx | hx
      · exact h x hx
      · rw [List.mem_singleton] at hx; subst hx; rw [toS_length]; exact hw
    have ih := wSplit_l0_len s n
    have ih1 := fun j q' => ih j done word q' h hw
    have ih2 := fun j q' => ih j (done ++ [toS word]) [] q' he (by simp)
    have ih3 := fun j q' (b : Int) (hb : ¬ 64 < (((word ++ [b]).length : Nat) : Int)) => ih j done (word ++ [b]) q' h (by omega)
    unfold wSplit_l0
    repeat' (first | exact ih1 _ _ | exact ih2 _ _ | exact ih3 _ _ _ (by assumption) | exact h | exact he | exact (rfl : ([] : List Str) = []) | refine WOk_ite (fun _ => ?_) (fun _ => ?_))
theorem wSplit_words (s : Str) : ∀ x ∈ (wSplit s).1, x.length ≤ 64 := by
  unfold wSplit
  split
  · simp
  · split
    · simp
    · have := wSplit_l0_len s (s.length + 1 + 1) 0 [] [] 0 (by simp) (by simp)
      cases h : wSplit_l0 s (s.length + 1 + 1) 0 [] [] 0 with
      | error r => rw [h] at this; have h2 : r.1 = [] := this; simp only [outc4]; rw [h2]; simp
      | ok r => rw [h] at this; exact this
theorem wSplit_at (s : Str) (i : Nat) : ((wSplit s).1.getD i default).length ≤ 64 := by
  rw [List.getD_eq_getElem?_getD]
  cases h : (wSplit s).1[i]? with
  | none => simp [default]
  | some x => exact wSplit_words s x (List.mem_of_getElem? h)
theorem wSplit_len (s : Str) : ((wSplit s).1.getD 0 default).length ≤ 64 ∧ ((wSplit s).1.getD 1 default).length ≤ 64 ∧ ((wSplit s).1.getD 2 default).length ≤ 64 := ⟨wSplit_at s 0, wSplit_at s 1, wSplit_at s 2⟩
end Go.Proofs.YtnblakihpoacjaaGreatDoor.Jd

namespace Go.Proofs.YtnblakihpoacjaaGreatDoor.Jd
open Go.Proofs
open Go.RowKit (Below)
set_option maxRecDepth 100000
set_option maxHeartbeats 8000000
set_option linter.unusedVariables false
set_option linter.unusedSimpArgs false
def eRule (x : Rule) : List Value := [Value.bool (x.allow), Value.int .i64 (x.pfx.addr), Value.int .i64 (x.pfx.bits), Value.int .i64 (x.prt.lo), Value.int .i64 (x.prt.hi)]
theorem eRule_ok : EncOk eRule 5 := ⟨by omega, fun _ => rfl, fun _ => rfl⟩
theorem M_103_Len (r k : Nat) {u : Value} (w : World) (h : w.cell? ⟨r, k + 0, none⟩ = some u) : (Go.method 373 103 (.pointer (some ⟨r, k, none⟩)) "Len").run Tryz.prog w = .ok (68, u) w := by
  have e : (Go.method 373 103 (.pointer (some ⟨r, k, none⟩)) "Len").run Tryz.prog w = (do let u ← loadVar 105 ⟨r, k + 0, none⟩; pure (68, u) : Sem (FuncId × Value)).run Tryz.prog w := by kernel_rfl
  rw [e]
  simp only [Sem.run_bind, loadVar_word Tryz.isAgg105 h, Result.andThen_ok, Sem.run_pure]
theorem M_103_Less (r k : Nat) {u : Value} (w : World) (h : w.cell? ⟨r, k + 0, none⟩ = some u) : (Go.method 373 103 (.pointer (some ⟨r, k, none⟩)) "Less").run Tryz.prog w = .ok (175, u) w := by
  have e : (Go.method 373 103 (.pointer (some ⟨r, k, none⟩)) "Less").run Tryz.prog w = (do let u ← loadVar 105 ⟨r, k + 0, none⟩; pure (175, u) : Sem (FuncId × Value)).run Tryz.prog w := by kernel_rfl
  rw [e]
  simp only [Sem.run_bind, loadVar_word Tryz.isAgg105 h, Result.andThen_ok, Sem.run_pure]
theorem M_103_Push (v : Value) (w : World) : (Go.method 373 103 v "Push").run Tryz.prog w = .ok (176, v) w := by kernel_rfl
theorem M_103_Swap (r k : Nat) {u : Value} (w : World) (h : w.cell? ⟨r, k + 0, none⟩ = some u) : (Go.method 373 103 (.pointer (some ⟨r, k, none⟩)) "Swap").run Tryz.prog w = .ok (178, u) w := by
  have e : (Go.method 373 103 (.pointer (some ⟨r, k, none⟩)) "Swap").run Tryz.prog w = (do let u ← loadVar 105 ⟨r, k + 0, none⟩; pure (178, u) : Sem (FuncId × Value)).run Tryz.prog w := by kernel_rfl
  rw [e]
  simp only [Sem.run_bind, loadVar_word Tryz.isAgg105 h, Result.andThen_ok, Sem.run_pure]
theorem M_114_wicketgate_acl_says (v : Value) (w : World) : (Go.method 373 114 v "wicketgate/acl.says").run Tryz.prog w = .ok (179, v) w := by kernel_rfl
theorem M_116_wicketgate_acl_says (v : Value) (w : World) : (Go.method 373 116 v "wicketgate/acl.says").run Tryz.prog w = .ok (180, v) w := by kernel_rfl
theorem FO_27_0 : FieldOff Tryz.prog 27 0 0 := fun r k w => by simp [Instr.fieldAt, Instr.sureAddr, fieldPlace, addr_add]
theorem FO_27_1 : FieldOff Tryz.prog 27 1 1 := fun r k w => by simp [Instr.fieldAt, Instr.sureAddr, fieldPlace, addr_add]
theorem FO_27_2 : FieldOff Tryz.prog 27 2 3 := fun r k w => by simp [Instr.fieldAt, Instr.sureAddr, fieldPlace, addr_add]
theorem FO_54_0 : FieldOff Tryz.prog 54 0 0 := fun r k w => by simp [Instr.fieldAt, Instr.sureAddr, fieldPlace, addr_add]
theorem FO_107_0 : FieldOff Tryz.prog 107 0 0 := fun r k w => by simp [Instr.fieldAt, Instr.sureAddr, fieldPlace, addr_add]
theorem FO_116_0 : FieldOff Tryz.prog 116 0 0 := fun r k w => by simp [Instr.fieldAt, Instr.sureAddr, fieldPlace, addr_add]
theorem FO_116_1 : FieldOff Tryz.prog 116 1 5 := fun r k w => by simp [Instr.fieldAt, Instr.sureAddr, fieldPlace, addr_add]
theorem PL_27 : Places Tryz.prog 27 [(0, 1), (1, 2), (3, 2)] := ⟨_, fun w => Tryz.runUnderlying27 w, fun w => by simp⟩
theorem PL_54 : Places Tryz.prog 54 [(0, 5)] := ⟨_, fun w => Tryz.runUnderlying54 w, fun w => by simp⟩
theorem PL_107 : Places Tryz.prog 107 [(0, 1)] := ⟨_, fun w => Tryz.runUnderlying107 w, fun w => by simp⟩
theorem PL_114 : Places Tryz.prog 114 [] := ⟨_, fun w => Tryz.runUnderlying114 w, fun w => by simp⟩
theorem PL_116 : Places Tryz.prog 116 [(0, 5), (5, 1)] := ⟨_, fun w => Tryz.runUnderlying116 w, fun w => by simp⟩
theorem TY_3 : Ty Tryz.prog 3 1 8 (Value.int .i64 (0)) := ⟨⟨Tryz.t3, by kernel_rfl, rfl, rfl, rfl⟩, rfl⟩
theorem TY_27 : Ty Tryz.prog 27 5 40 (Value.agg [(Value.bool (false)), (Value.int .i64 (0)), (Value.int .i64 (0)), (Value.int .i64 (0)), (Value.int .i64 (0))].toArray) := ⟨⟨Tryz.t27, by kernel_rfl, rfl, rfl, rfl⟩, rfl⟩
theorem ins_grow {α : Type} {s zs : List α} {I n : Nat} {x : α} (hI : I ≤ s.length) (hn : n = s.length - I) (h1 : zs.take I = s.take I) (h2 : zs.length = s.length + 1) :
    (zs.take I ++ [x].take 1 ++ zs.drop (I + 1)).take (I + 1) ++ (s.drop I).take n ++ (zs.take I ++ [x].take 1 ++ zs.drop (I + 1)).drop (I + 1 + n) = insL s I x := by
  subst hn
  have l1 : (s.take I).length = I := by rw [List.length_take]; omega
  have l2 : (s.take I ++ [x]).length = I + 1 := by simp [l1]
  have e1 : [x].take 1 = [x] := rfl
  have e3 : (s.drop I).take (s.length - I) = s.drop I := List.take_of_length_le (by simp)
  have e4 : (s.take I ++ [x] ++ zs.drop (I + 1)).drop (I + 1 + (s.length - I)) = [] := List.drop_eq_nil_of_le (by rw [List.length_append, l2, List.length_drop, h2]; omega)
  rw [h1, e1, e3, List.take_left' l2, e4]
  simp [insL]
theorem ins_shift {α : Type} {s : List α} {I n : Nat} {x : α} (hI : I < s.length) (hn : n = s.length - I) :
    (s.take (I + 1) ++ (s.drop I).take n ++ s.drop (I + 1 + n)).take I ++ [x].take 1 ++ (s.take (I + 1) ++ (s.drop I).take n ++ s.drop (I + 1 + n)).drop (I + 1) = insL s I x := by
  subst hn
  have l1 : (s.take (I + 1)).length = I + 1 := by rw [List.length_take]; omega
  rw [List.drop_eq_nil_of_le (show s.length ≤ I + 1 + (s.length - I) by omega), List.append_nil, List.take_of_length_le (show (s.drop I).length ≤ s.length - I by simp), List.drop_left' l1, List.take_append_of_le_length (by omega), List.take_take, Nat.min_eq_left (by omega)]
  simp [insL]
theorem ins_end {α : Type} {s : List α} {i : Int} {x : α} (h : i = (s.length : Int)) : s ++ [x] = insL s i.toNat x := by
  have : i.toNat = s.length := by omega
  rw [this, insL_end]
theorem clone_nil {w : World} {α : Type} {enc : α → List Value} {k : Nat} {a : Option Addr} {s : List α} (h : Sl w enc k a s) (hn : Option.isNone a = true) : ([] : List α) = s := by
  have : a = none := by simpa using hn
  subst this
  exact (Sl.none h).symm
theorem all_push {n : Int} {xs : List Int} {x : Int} (h : ∀ z ∈ xs, 0 ≤ z ∧ z < n) (hx : 0 ≤ x ∧ x < n) : ∀ z ∈ xs ++ [x], 0 ≤ z ∧ z < n := fun z hz => by
  rcases List.mem_append.1 hz with hz | hz
  · exact h z hz
  · rw [List.mem_singleton] at hz; subst hz; exact hx
theorem all_getD {n : Int} {xs : List Int} {m : Nat} (h : ∀ z ∈ xs, 0 ≤ z ∧ z < n) (hm : m < xs.length) : 0 ≤ xs.getD m default ∧ xs.getD m default < n := by
  rw [List.getD_eq_getElem?_getD, List.getElem?_eq_getElem hm]; exact h _ (List.getElem_mem hm)
theorem all_swap {n : Int} {xs : List Int} {i j : Nat} (h : ∀ z ∈ xs, 0 ≤ z ∧ z < n) (hi : i < xs.length) (hj : j < xs.length) : ∀ z ∈ ((xs.set i (xs.getD j default)).set j (xs.getD i default)), 0 ≤ z ∧ z < n :=
  swap_all (p := fun z => 0 ≤ z ∧ z < n) h hi hj
theorem q_overlaps69 {N : Nat} {D : List Deferred} {b0 : World} {L : Heap} {E : Env} {ty : TypeId} {x y : Operand} {tys : Array TypeId} {v_a s_a : Option Addr} {v_c s_c lo n cc : Nat} {s_B : Heap} {s : List Rule} (he : ∃ r cs T, v_a = some (⟨r, 0, none⟩ : Addr) ∧ b0.heap[r]? = some (.cells cs T (0, 0)) ∧ r ∉ keys s_B) (ho : OwnB eRule 5 27 s_a s_c s_B s) (hs : 0 < s_c)
    (hB : ∀ p ∈ s_B, p ∈ L) (hx : ev E x = some (.slice v_a 1 v_c) := by rfl) (hy : ev E y = some (.slice (offA s_a 5 lo s_c) n cc) := by rfl) :
    RunQ Tryz.prog N D b0 (keys s_B) L E (.call { callee := .value (.func 69), args := #[x, y], argTypes := tys }) ty (.bool false) := fun ac w ha hw => by
  obtain ⟨r, cs, T, rfl, hr, hnr⟩ := he
  rcases ho with ⟨rfl, rfl, rfl⟩ | ⟨r', cur, fz, rfl, rfl, hfz, h1, h2, h3⟩
  · omega
  · have hh : w.heap[r']? = some (.cells cur 27 fz) := hw.own _ (hB _ List.mem_cons_self)
    have hv : w.heap[r]? = some (.cells cs T (0, 0)) := (hw.same r (Array.getElem?_eq_some_iff.1 hr).1 hnr).trans hr
    have hne : r ≠ r' := fun e => hnr (by subst e; simp [keys])
    obtain ⟨ad, hoff, had⟩ : ∃ ad : Addr, offA (some (⟨r', 0, none⟩ : Addr)) 5 lo s_c = some ad ∧ ad.block = r' := by
      unfold offA
      split
      · exact ⟨_, rfl, rfl⟩
      · exact ⟨_, rfl, by show (Addr.add ⟨r', 0, none⟩ _).block = r'; rw [addr_add]⟩
    have hfr : ∀ k, w.frozen? ⟨r, k, none⟩ = false := fun k => by simp [World.frozen?, hv]
    have hrun := Lib.run_overlaps_apart (P := Tryz.prog) w 36 4 27 Tryz.underlying36 5 Tryz.sizeOf27 (⟨r, 0, none⟩ : Addr) ad 1 v_c n cc (by rw [had]; exact hne) T 27 cs.size cur.size (by simp [World.shape?, hv]) (by rw [had]; simp [World.shape?, hh]) (by rw [h2]; omega) (hfr 0) (hfr cs.size)
    have h8 := @run_callFunc_extern Tryz.prog 69 _ (Extern.SlicesOverlaps.overlaps #[36, 36] #[4]) Tryz.func69 (by kernel_rfl) (by kernel_rfl) (by kernel_rfl) (by kernel_rfl)
    rw [hoff] at hy
    simp only [mkO, execOp, resolve, Sem.run_bind, Act.eval, Deferred.ofValue, Sem.run_pure, Result.andThen_ok]
    simp only [invoke, List.map_toArray, List.map_cons, List.map_nil, ha.eval hx, ha.eval hy]
    have h9 := h8 #[Value.slice (some { block := r, off := 0 }) 1 v_c, Value.slice (some ad) n cc] w
    rw [hrun] at h9
    simpa using h9
theorem ruClone_ok (w : World) {s_a : Option Addr} {s_c : Nat} {s : List Rule} (h_s : Sl w eRule 5 s_a s) (n_s : s.length ≤ 1000000) : Calls Tryz.prog 40 (List.toArray [(Value.slice (s_a) (s.length) (s_c))]) w fun e w2 => ∃ a1 : Option Addr, ∃ c1 : Nat, ∃ B1 : Heap, e = .returned (Value.slice (a1) ((s).length) (c1)) ∧ Fresh w w2 B1 ∧ OwnB eRule 5 27 a1 c1 B1 (s) := by
  have hF := Is.refl (s)
  refine enter Tryz.func40 Tryz.ntmps40 (h := ?_)
  refine J_seq ?_
  refine J_reg ?_
  refine JL_q (q_assign) (k := ?_)
  refine JL_nil ?_
  refine JX_seq ?_
  refine J_seq ?_
  refine J_seq ?_
  refine J_reg ?_
  refine JL_q (q_move) (k := ?_)
  refine JL_q (q_eqNil Tryz.runUnderlying36) (k := ?_)
  refine JL_nil ?_
  refine JX_seq ?_
  refine J_cond rfl (fun hq1 => ?_) (fun hq1 => ?_)
  · refine J_seq ?_
    refine J_reg ?_
    refine JL_q (q_assign) (k := ?_)
    refine JL_nil ?_
    refine JX_seq ?_
    refine J_ret ?_
    refine JX_seq_ret ?_
    refine JX_ret Tryz.results40 (Res.tmp rfl Res.nil) (fun w1 hw1 => ?_)
    have hcan0 : ([] : List Rule) = (s) := by (first | rfl | (exact clone_nil h_s (by assumption)))
    have hlen0 : 0 = (s).length := by first | (rw [← hcan0]; done) | (rw [← hcan0]; first | rfl | (simp; done) | (simp only [List.length_append, List.length_take, List.length_drop, List.length_set, List.length_replicate, List.length_cons, List.length_nil, List.length_map, toS_length, toI_length]; omega) | (simp; omega))
    exact ⟨none, 0, [], (by rw [← hlen0]; first | rfl | rfl), (hw1.fresh_out.sub (List.nil_sublist _)), (hcan0 ▸ OwnB.nil)⟩
  refine J_skip ?_
  refine JX_seq ?_
  refine J_seq ?_
  refine J_reg ?_
  refine JL_a noMk (a_bslice (l := []) Tryz.runUnderlying36 Tryz.sizeOf27 Tryz.zeroValue27) (k := fun r1 hr1 => ?_)
  refine JL_q (q_move) (k := ?_)
  refine JL_append s (List.nil_append _) TY_27 Tryz.underlying36 eRule_ok OwnB.nil (List.Perm.refl _) (SlJ.of_base h_s) ⟨by omega, by omega⟩ (n := 0) (m := s.length) (k := fun ax1 cx1 Bx1 hox1 => ?_)
  refine JL_q (q_assign) (k := ?_)
  refine JL_nil ?_
  refine JX_seq ?_
  refine J_ret ?_
  refine JX_ret Tryz.results40 (Res.tmp rfl Res.nil) (fun w1 hw1 => ?_)
  have hcan0 : s = (s) := by (first | rfl | (exact clone_nil h_s (by assumption)))
  have hlen0 : s.length = (s).length := by first | (rw [← hcan0]; done) | (rw [← hcan0]; first | rfl | (simp; done) | (simp only [List.length_append, List.length_take, List.length_drop, List.length_set, List.length_replicate, List.length_cons, List.length_nil, List.length_map, toS_length, toI_length]; omega) | (simp; omega))
  exact ⟨ax1, cx1, Bx1, (by rw [← hlen0]; first | rfl | rfl), (fresh_segs (L := Bx1) (R := ((r1, Obj.cells [].toArray 27) :: [])) (hw1.perm (List.Perm.refl _)) (by simp)), (hcan0 ▸ hox1)⟩

theorem ruInsert_ok (w : World) {s_a : Option Addr} {s_c : Nat} {s_B : Heap} {v_a : Option Addr} {v_c : Nat} {s : List Rule} {i : Int} {x : Rule} (o_s : OwnB eRule 5 27 s_a s_c s_B s) (b_s : ∀ p ∈ s_B, w.heap[p.1]? = some p.2) (n_s : s.length ≤ 1000000) (h_v : Sl w eRule 5 v_a ([x] : List Rule)) (d_v : ∀ m ∈ keys s_B, NotIn v_a ([x] : List Rule) m) (e_v : ∃ r cs T, v_a = some ⟨r, 0, none⟩ ∧ w.heap[r]? = some (.cells cs T (0, 0)) ∧ r ∉ keys s_B) (hi : 0 ≤ i ∧ i ≤ s.length) : Calls Tryz.prog 39 (List.toArray [(Value.slice (s_a) (s.length) (s_c)), (Value.int .i64 (i)), (Value.slice (v_a) (1) (v_c))]) w fun e w2 => ∃ a1 : Option Addr, ∃ c1 : Nat, ∃ B1 : Heap, e = .returned (Value.slice (a1) ((insL s i.toNat x).length) (c1)) ∧ Tr w w2 s_B B1 ∧ OwnB eRule 5 27 a1 c1 B1 (insL s i.toNat x) := by
  have hF := Is.refl (insL s i.toNat x)
  have hiN : i.toNat ≤ s.length := by omega
  have hi1 : (i + 1).toNat = i.toNat + 1 := by omega
  have hMk : ∀ k ∈ keys s_B, k < w.heap.size := fun k hk => by
    obtain ⟨o, ho⟩ := keys_mem hk
    exact (Array.getElem?_eq_some_iff.1 (b_s _ ho)).1
  have hle0 := o_s.le'
  refine enterM (keys s_B) (s_B ++ []) (by simpa using b_s) (fun p hp => mem_keys (by simpa using hp)) (by simpa using o_s.nd) Tryz.func39 Tryz.ntmps39 (h := ?_)
  refine J_seq ?_
  refine J_reg ?_
  refine JL_q (q_assign) (k := ?_)
  refine JL_nil ?_
  refine JX_seq ?_
  refine J_seq ?_
  refine J_reg ?_
  refine JL_q (q_move) (k := ?_)
  refine JL_q (q_move) (k := ?_)
  have hle1 := o_s.le'
  have hld2 : (s.drop ((i).toNat)).length = s.length - ((i).toNat) := List.length_drop
  refine JL_q (q_sliceLo (n := s.length) (c := s_c) (i := i) ((i).toNat) (s.drop ((i).toNat)).length Tryz.runUnderlying36 Tryz.sizeOf27 (hlo := by first | exact ix) (hnc := by first | omega | exact Nat.le_refl _) (hm := by first | rfl | (simp; done) | (simp only [List.length_append, List.length_take, List.length_drop, List.length_set, List.length_replicate, List.length_cons, List.length_nil, List.length_map, toS_length, toI_length]; omega))) (k := ?_)
  refine JL_nil ?_
  refine JX_seq ?_
  refine J_seq ?_
  refine J_reg ?_
  refine JL_q (q_move) (k := ?_)
  refine JL_q (q_lenS Tryz.runUnderlying36) (k := ?_)
  refine JL_q (q_assign) (k := ?_)
  refine JL_nil ?_
  refine JX_seq ?_
  refine J_seq ?_
  refine J_seq ?_
  refine J_reg ?_
  refine JL_q (q_move) (k := ?_)
  refine JL_q (q_eql) (k := ?_)
  refine JL_nil ?_
  refine JX_seq ?_
  refine J_false rfl ?_
  refine J_skip ?_
  refine JX_seq ?_
  refine J_seq ?_
  refine J_reg ?_
  refine JL_q (q_move) (k := ?_)
  refine JL_q (q_lenS Tryz.runUnderlying36) (k := ?_)
  refine JL_q (q_assign) (k := ?_)
  refine JL_nil ?_
  refine JX_seq ?_
  refine J_seq ?_
  refine J_seq ?_
  refine J_reg ?_
  refine JL_q (q_move) (k := ?_)
  refine JL_q (q_move) (k := ?_)
  refine JL_q (q_eql) (k := ?_)
  refine JL_nil ?_
  refine JX_seq ?_
  refine J_dec rfl (fun hq3 => ?_) (fun hq3 => ?_)
  · refine J_seq ?_
    refine J_reg ?_
    refine JL_q (q_move) (k := ?_)
    refine JL_q (q_move) (k := ?_)
    refine JL_append (s ++ ([x] : List Rule)) rfl TY_27 Tryz.underlying36 eRule_ok o_s q0 (SlJ.of_world h_v d_v) ⟨by omega, by omega⟩ (n := s.length) (m := 1) (k := fun ax1 cx1 Bx1 hox1 => ?_)
    have hal1 : (s ++ ([x] : List Rule)).length = s.length + 1 := by first | rfl | exact List.length_append | simp
    refine JL_q (q_assign) (k := ?_)
    refine JL_nil ?_
    refine JX_seq ?_
    refine J_ret ?_
    refine JX_seq_ret ?_
    refine JX_ret Tryz.results39 (Res.tmp rfl Res.nil) (fun w1 hw1 => ?_)
    have hcan0 : (s ++ ([x] : List Rule)) = (insL s i.toNat x) := by (first | exact ins_end (by omega) | (simp only [hi1]; exact ins_grow hiN rfl (List.take_left' (by rw [List.length_take]; omega)) (by simp only [List.length_append, List.length_take, List.length_replicate]; omega)) | (simp only [hi1]; exact ins_shift (by omega) rfl))
    have hlen0 : (s ++ ([x] : List Rule)).length = (insL s i.toNat x).length := by first | (rw [← hcan0]; done) | (rw [← hcan0]; first | rfl | (simp; done) | (simp only [List.length_append, List.length_take, List.length_drop, List.length_set, List.length_replicate, List.length_cons, List.length_nil, List.length_map, toS_length, toI_length]; omega) | (simp; omega))
    exact ⟨ax1, cx1, Bx1, (by rw [← hlen0]; first | rfl | rfl), ((hw1.perm (List.Perm.refl _)).tr_out.sub (by first | exact List.sublist_append_left _ _ | exact List.nil_sublist _)), (hcan0 ▸ hox1)⟩
  refine J_skip ?_
  refine JX_seq ?_
  refine J_seq ?_
  refine J_seq ?_
  refine J_reg ?_
  refine JL_q (q_move) (k := ?_)
  refine JL_q (q_move) (k := ?_)
  refine JL_q (q_add) (k := ?_)
  refine JL_q (q_move) (k := ?_)
  refine JL_q (q_cap Tryz.runUnderlying36) (k := ?_)
  refine JL_q (q_gtr) (k := ?_)
  refine JL_nil ?_
  refine JX_seq ?_
  refine J_dec rfl (fun hq4 => ?_) (fun hq4 => ?_)
  · refine J_seq ?_
    refine J_reg ?_
    refine JL_q (q_move) (k := ?_)
    refine JL_q (q_move) (k := ?_)
    have hl5 : (s.take ((i).toNat)).length = (i).toNat := by rw [List.length_take]; omega
    have hl5c := o_s.le'
    refine JL_q (q_sliceHi' (s.take ((i).toNat)).length Tryz.runUnderlying36 (fun w => ⟨_, Tryz.sizeOf27 w⟩) (hm := by omega) (hi := by omega)) (k := ?_)
    refine JL_q (q_move) (k := ?_)
    refine JL_q (q_move) (k := ?_)
    refine JL_q (q_add) (k := ?_)
    refine JL_q (q_move) (k := ?_)
    refine JL_q (q_sub) (k := ?_)
    refine JL_appendZ (i := ((((s.length : Nat) : Int) + 1) - i)) (n := (s.take ((i).toNat)).length) (c := s_c) (x0 := default) (xs := (s.take ((i).toNat))) (m := (((((s.length : Nat) : Int) + 1) - i)).toNat) TY_27 Tryz.underlying36 Tryz.underlying3 eRule_ok rfl ((o_s.take eRule_ok ((i).toNat)).slj eRule_ok) (by first | exact ix) (by first | exact ix) (by first | exact ix) ⟨by first | exact ix, by first | exact ix⟩ (by omega) (k := fun ax2 cx2 Bx2 hox2 => ?_)
    refine JL_q (q_assign) (k := ?_)
    refine JL_nil ?_
    refine JX_seq ?_
    refine J_seq ?_
    refine J_reg ?_
    refine JL_q (q_move) (k := ?_)
    refine JL_q (q_move) (k := ?_)
    have hle6 := hox2.le'
    have hld7 : (((s.take ((i).toNat)) ++ List.replicate ((((((s.length : Nat) : Int) + 1) - i)).toNat) default).drop ((i).toNat)).length = ((s.take ((i).toNat)) ++ List.replicate ((((((s.length : Nat) : Int) + 1) - i)).toNat) default).length - ((i).toNat) := List.length_drop
    refine JL_q (q_sliceLo (n := ((s.take ((i).toNat)) ++ List.replicate ((((((s.length : Nat) : Int) + 1) - i)).toNat) default).length) (c := cx2) (i := i) ((i).toNat) (((s.take ((i).toNat)) ++ List.replicate ((((((s.length : Nat) : Int) + 1) - i)).toNat) default).drop ((i).toNat)).length Tryz.runUnderlying36 Tryz.sizeOf27 (hlo := by first | exact ix) (hnc := by first | omega | exact Nat.le_refl _) (hm := by first | rfl | (simp; done) | (simp only [List.length_append, List.length_take, List.length_drop, List.length_set, List.length_replicate, List.length_cons, List.length_nil, List.length_map, toS_length, toI_length]; omega))) (k := ?_)
    refine JL_q (q_move) (k := ?_)
    refine JL_copyOff (dn := (((s.take ((i).toNat)) ++ List.replicate ((((((s.length : Nat) : Int) + 1) - i)).toNat) default).drop ((i).toNat)).length) (sn := 1) ((i).toNat) 1 (((s.take ((i).toNat)) ++ List.replicate ((((((s.length : Nat) : Int) + 1) - i)).toNat) default).take ((i).toNat) ++ ([x] : List Rule).take 1 ++ ((s.take ((i).toNat)) ++ List.replicate ((((((s.length : Nat) : Int) + 1) - i)).toNat) default).drop ((i).toNat + 1)) rfl TY_27 Tryz.underlying36 eRule_ok hox2 q0 (SlJ.of_world h_v d_v) (by first | exact lb) (by first | exact lb) (by first | exact lb) (by first | exact lb) (kk := fun Bx3 hox3 => ?_)
    refine JL_nil ?_
    refine JX_seq ?_
    refine J_seq ?_
    refine J_planV (s_B ++ []) (Bx3 ++ []) (List.Perm.trans (List.Perm.refl _) (List.Perm.of_eq (by first | rfl | (simp only [List.cons_append, List.nil_append, List.append_assoc, List.append_nil]; done) | (simp only [List.cons_append, List.nil_append, List.append_assoc, List.append_nil]; rfl)))) mixed 9 [(true, 0), (true, 1), (true, 2), (true, 3), (true, 4), (true, 5), (true, 6), (true, 7), (false, 8)] (by kernel_rfl) ?_
    refine JD_q (q_move) (k := ?_)
    refine JD_q (q_move) (k := ?_)
    refine JD_q (q_move) (k := ?_)
    refine JD_q (q_add) (k := ?_)
    have hle8 := hox3.le'
    have hld9 : ((((s.take ((i).toNat)) ++ List.replicate ((((((s.length : Nat) : Int) + 1) - i)).toNat) default).take ((i).toNat) ++ ([x] : List Rule).take 1 ++ ((s.take ((i).toNat)) ++ List.replicate ((((((s.length : Nat) : Int) + 1) - i)).toNat) default).drop ((i).toNat + 1)).drop (((i + 1)).toNat)).length = (((s.take ((i).toNat)) ++ List.replicate ((((((s.length : Nat) : Int) + 1) - i)).toNat) default).take ((i).toNat) ++ ([x] : List Rule).take 1 ++ ((s.take ((i).toNat)) ++ List.replicate ((((((s.length : Nat) : Int) + 1) - i)).toNat) default).drop ((i).toNat + 1)).length - (((i + 1)).toNat) := List.length_drop
    refine JD_q (q_sliceLo (n := ((s.take ((i).toNat)) ++ List.replicate ((((((s.length : Nat) : Int) + 1) - i)).toNat) default).length) (c := cx2) (i := (i + 1)) (((i + 1)).toNat) ((((s.take ((i).toNat)) ++ List.replicate ((((((s.length : Nat) : Int) + 1) - i)).toNat) default).take ((i).toNat) ++ ([x] : List Rule).take 1 ++ ((s.take ((i).toNat)) ++ List.replicate ((((((s.length : Nat) : Int) + 1) - i)).toNat) default).drop ((i).toNat + 1)).drop (((i + 1)).toNat)).length Tryz.runUnderlying36 Tryz.sizeOf27 (hlo := by first | exact ix) (hnc := by first | omega | exact Nat.le_refl _) (hm := by first | rfl | (simp; done) | (simp only [List.length_append, List.length_take, List.length_drop, List.length_set, List.length_replicate, List.length_cons, List.length_nil, List.length_map, toS_length, toI_length]; omega))) (k := ?_)
    refine JD_q (q_move) (k := ?_)
    refine JD_q (q_move) (k := ?_)
    have hle10 := o_s.le'
    have hld11 : (s.drop ((i).toNat)).length = s.length - ((i).toNat) := List.length_drop
    refine JD_q (q_sliceLo (n := s.length) (c := s_c) (i := i) ((i).toNat) (s.drop ((i).toNat)).length Tryz.runUnderlying36 Tryz.sizeOf27 (hlo := by first | exact ix) (hnc := by first | omega | exact Nat.le_refl _) (hm := by first | rfl | (simp; done) | (simp only [List.length_append, List.length_take, List.length_drop, List.length_set, List.length_replicate, List.length_cons, List.length_nil, List.length_map, toS_length, toI_length]; omega))) (k := ?_)
    refine JD_copyOff (dn := ((((s.take ((i).toNat)) ++ List.replicate ((((((s.length : Nat) : Int) + 1) - i)).toNat) default).take ((i).toNat) ++ ([x] : List Rule).take 1 ++ ((s.take ((i).toNat)) ++ List.replicate ((((((s.length : Nat) : Int) + 1) - i)).toNat) default).drop ((i).toNat + 1)).drop (((i + 1)).toNat)).length) (sn := (s.drop ((i).toNat)).length) (((i + 1)).toNat) (s.length - i.toNat) ((((s.take ((i).toNat)) ++ List.replicate ((((((s.length : Nat) : Int) + 1) - i)).toNat) default).take ((i).toNat) ++ ([x] : List Rule).take 1 ++ ((s.take ((i).toNat)) ++ List.replicate ((((((s.length : Nat) : Int) + 1) - i)).toNat) default).drop ((i).toNat + 1)).take (((i + 1)).toNat) ++ (s.drop ((i).toNat)).take (s.length - i.toNat) ++ (((s.take ((i).toNat)) ++ List.replicate ((((((s.length : Nat) : Int) + 1) - i)).toNat) default).take ((i).toNat) ++ ([x] : List Rule).take 1 ++ ((s.take ((i).toNat)) ++ List.replicate ((((((s.length : Nat) : Int) + 1) - i)).toNat) default).drop ((i).toNat + 1)).drop (((i + 1)).toNat + (s.length - i.toNat))) rfl TY_27 Tryz.underlying36 eRule_ok hox3 q0 (SlJ.off (o_s.slj eRule_ok (by intro p hp; first | exact hp | (simp [hp]; done))) ((i).toNat) s_c (by first | omega | exact Nat.le_refl _)) (by first | exact lb) (by first | exact lb) (by first | exact lb) (by first | exact lb) (kk := fun Bx5 hox5 => ?_)
    refine JD_nil ?_
    refine JL_eqL (L' := (Bx5 ++ (s_B ++ []))) (by simp only [List.append_nil, List.append_assoc, List.cons_append, List.nil_append]) ?_
    refine JL_nil ?_
    refine JX_seq ?_
    refine J_seq ?_
    refine J_reg ?_
    refine JL_q (q_move) (k := ?_)
    refine JL_q (q_assign) (k := ?_)
    refine JL_nil ?_
    refine JX_seq ?_
    refine J_ret ?_
    refine JX_seq_ret ?_
    refine JX_ret Tryz.results39 (Res.tmp rfl Res.nil) (fun w1 hw1 => ?_)
    have hcan0 : ((((s.take ((i).toNat)) ++ List.replicate ((((((s.length : Nat) : Int) + 1) - i)).toNat) default).take ((i).toNat) ++ ([x] : List Rule).take 1 ++ ((s.take ((i).toNat)) ++ List.replicate ((((((s.length : Nat) : Int) + 1) - i)).toNat) default).drop ((i).toNat + 1)).take (((i + 1)).toNat) ++ (s.drop ((i).toNat)).take (s.length - i.toNat) ++ (((s.take ((i).toNat)) ++ List.replicate ((((((s.length : Nat) : Int) + 1) - i)).toNat) default).take ((i).toNat) ++ ([x] : List Rule).take 1 ++ ((s.take ((i).toNat)) ++ List.replicate ((((((s.length : Nat) : Int) + 1) - i)).toNat) default).drop ((i).toNat + 1)).drop (((i + 1)).toNat + (s.length - i.toNat))) = (insL s i.toNat x) := by (first | exact ins_end (by omega) | (simp only [hi1]; exact ins_grow hiN rfl (List.take_left' (by rw [List.length_take]; omega)) (by simp only [List.length_append, List.length_take, List.length_replicate]; omega)) | (simp only [hi1]; exact ins_shift (by omega) rfl))
    have hlen0 : ((s.take ((i).toNat)) ++ List.replicate ((((((s.length : Nat) : Int) + 1) - i)).toNat) default).length = (insL s i.toNat x).length := by first | (rw [← hcan0]; done) | (rw [← hcan0]; first | rfl | (simp; done) | (simp only [List.length_append, List.length_take, List.length_drop, List.length_set, List.length_replicate, List.length_cons, List.length_nil, List.length_map, toS_length, toI_length]; omega) | (simp; omega))
    exact ⟨ax2, cx2, Bx5, (by rw [← hlen0]; first | rfl | rfl), ((hw1.perm (List.Perm.refl _)).tr_out.sub (by first | exact List.sublist_append_left _ _ | exact List.nil_sublist _)), (hcan0 ▸ hox5)⟩
  refine J_skip ?_
  refine JX_seq ?_
  refine J_seq ?_
  refine J_reg ?_
  refine JL_q (q_move) (k := ?_)
  refine JL_q (q_move) (k := ?_)
  refine JL_q (q_move) (k := ?_)
  refine JL_q (q_add) (k := ?_)
  refine JL_q (q_sliceHi' (s.length + 1) Tryz.runUnderlying36 (fun w => ⟨_, Tryz.sizeOf27 w⟩) (hm := by omega) (hi := by omega)) (k := ?_)
  refine JL_q (q_assign) (k := ?_)
  refine JL_nil ?_
  refine JX_seq ?_
  refine J_seq ?_
  refine J_seq ?_
  refine J_reg ?_
  refine JL_q (q_move) (k := ?_)
  refine JL_q (q_move) (k := ?_)
  refine JL_q (q_move) (k := ?_)
  refine JL_q (q_move) (k := ?_)
  refine JL_q (q_add) (k := ?_)
  have hle12 := o_s.le'
  have hld13 : (s.drop (((i + 1)).toNat)).length = s.length - (((i + 1)).toNat) := List.length_drop
  refine JL_q (q_sliceLo (n := (s.length + 1)) (c := s_c) (i := (i + 1)) (((i + 1)).toNat) ((s.length + 1) - ((i + 1)).toNat) Tryz.runUnderlying36 Tryz.sizeOf27 (hlo := by first | exact ix) (hnc := by first | omega | exact Nat.le_refl _) (hm := by first | rfl | (simp; done) | (simp only [List.length_append, List.length_take, List.length_drop, List.length_set, List.length_replicate, List.length_cons, List.length_nil, List.length_map, toS_length, toI_length]; omega))) (k := ?_)
  refine JL_q (q_overlaps69 e_v o_s (by omega) (by intro p hp; simp [hp])) (k := ?_)
  refine JL_q (q_not) (k := ?_)
  refine JL_nil ?_
  refine JX_seq ?_
  refine J_true rfl ?_
  refine J_seq ?_
  refine J_planV [] (s_B ++ []) (List.Perm.trans (List.Perm.refl _) (List.Perm.of_eq (by first | rfl | (simp only [List.cons_append, List.nil_append, List.append_assoc, List.append_nil]; done) | (simp only [List.cons_append, List.nil_append, List.append_assoc, List.append_nil]; rfl)))) mixed 9 [(true, 0), (true, 1), (true, 2), (true, 3), (true, 4), (true, 5), (true, 6), (true, 7), (false, 8)] (by kernel_rfl) ?_
  refine JD_q (q_move) (k := ?_)
  refine JD_q (q_move) (k := ?_)
  refine JD_q (q_move) (k := ?_)
  refine JD_q (q_add) (k := ?_)
  have hle14 := o_s.le'
  have hld15 : (s.drop (((i + 1)).toNat)).length = s.length - (((i + 1)).toNat) := List.length_drop
  refine JD_q (q_sliceLo (n := (s.length + 1)) (c := s_c) (i := (i + 1)) (((i + 1)).toNat) ((s.length + 1) - ((i + 1)).toNat) Tryz.runUnderlying36 Tryz.sizeOf27 (hlo := by first | exact ix) (hnc := by first | omega | exact Nat.le_refl _) (hm := by first | rfl | (simp; done) | (simp only [List.length_append, List.length_take, List.length_drop, List.length_set, List.length_replicate, List.length_cons, List.length_nil, List.length_map, toS_length, toI_length]; omega))) (k := ?_)
  refine JD_q (q_move) (k := ?_)
  refine JD_q (q_move) (k := ?_)
  have hle16 := o_s.le'
  have hld17 : (s.drop ((i).toNat)).length = s.length - ((i).toNat) := List.length_drop
  refine JD_q (q_sliceLo (n := (s.length + 1)) (c := s_c) (i := i) ((i).toNat) ((s.length + 1) - (i).toNat) Tryz.runUnderlying36 Tryz.sizeOf27 (hlo := by first | exact ix) (hnc := by first | omega | exact Nat.le_refl _) (hm := by first | rfl | (simp; done) | (simp only [List.length_append, List.length_take, List.length_drop, List.length_set, List.length_replicate, List.length_cons, List.length_nil, List.length_map, toS_length, toI_length]; omega))) (k := ?_)
  refine JD_copyOff (dn := ((s.length + 1) - ((i + 1)).toNat)) (sn := ((s.length + 1) - (i).toNat)) (((i + 1)).toNat) (s.length - i.toNat) (s.take (((i + 1)).toNat) ++ (s.drop ((i).toNat)).take (s.length - i.toNat) ++ s.drop (((i + 1)).toNat + (s.length - i.toNat))) rfl TY_27 Tryz.underlying36 eRule_ok o_s q0 (SlJ.off (o_s.slj eRule_ok (by intro p hp; first | exact hp | (simp [hp]; done))) ((i).toNat) s_c (by first | omega | exact Nat.le_refl _)) (by first | exact lb) (by first | exact lb) (by first | exact lb) (by first | exact lb) (kk := fun Bx7 hox7 => ?_)
  refine JD_nil ?_
  refine JL_eqL (L' := (Bx7 ++ [])) (by simp only [List.append_nil, List.append_assoc, List.cons_append, List.nil_append]) ?_
  refine JL_nil ?_
  refine JX_seq ?_
  refine J_seq ?_
  refine J_reg ?_
  refine JL_q (q_move) (k := ?_)
  refine JL_q (q_move) (k := ?_)
  have hle18 := hox7.le'
  have hld19 : ((s.take (((i + 1)).toNat) ++ (s.drop ((i).toNat)).take (s.length - i.toNat) ++ s.drop (((i + 1)).toNat + (s.length - i.toNat))).drop ((i).toNat)).length = (s.take (((i + 1)).toNat) ++ (s.drop ((i).toNat)).take (s.length - i.toNat) ++ s.drop (((i + 1)).toNat + (s.length - i.toNat))).length - ((i).toNat) := List.length_drop
  refine JL_q (q_sliceLo (n := (s.length + 1)) (c := s_c) (i := i) ((i).toNat) ((s.take (((i + 1)).toNat) ++ (s.drop ((i).toNat)).take (s.length - i.toNat) ++ s.drop (((i + 1)).toNat + (s.length - i.toNat))).drop ((i).toNat)).length Tryz.runUnderlying36 Tryz.sizeOf27 (hlo := by first | exact ix) (hnc := by first | omega | exact Nat.le_refl _) (hm := by first | rfl | (simp; done) | (simp only [List.length_append, List.length_take, List.length_drop, List.length_set, List.length_replicate, List.length_cons, List.length_nil, List.length_map, toS_length, toI_length]; omega))) (k := ?_)
  refine JL_q (q_move) (k := ?_)
  refine JL_copyOff (dn := ((s.take (((i + 1)).toNat) ++ (s.drop ((i).toNat)).take (s.length - i.toNat) ++ s.drop (((i + 1)).toNat + (s.length - i.toNat))).drop ((i).toNat)).length) (sn := 1) ((i).toNat) 1 ((s.take (((i + 1)).toNat) ++ (s.drop ((i).toNat)).take (s.length - i.toNat) ++ s.drop (((i + 1)).toNat + (s.length - i.toNat))).take ((i).toNat) ++ ([x] : List Rule).take 1 ++ (s.take (((i + 1)).toNat) ++ (s.drop ((i).toNat)).take (s.length - i.toNat) ++ s.drop (((i + 1)).toNat + (s.length - i.toNat))).drop ((i).toNat + 1)) rfl TY_27 Tryz.underlying36 eRule_ok hox7 q0 (SlJ.of_world h_v d_v) (by first | exact lb) (by first | exact lb) (by first | exact lb) (by first | exact lb) (kk := fun Bx8 hox8 => ?_)
  refine JL_nil ?_
  refine JX_seq ?_
  refine J_seq ?_
  refine J_reg ?_
  refine JL_q (q_move) (k := ?_)
  refine JL_q (q_assign) (k := ?_)
  refine JL_nil ?_
  refine JX_seq ?_
  refine J_ret ?_
  refine JX_seq_ret ?_
  refine JX_ret Tryz.results39 (Res.tmp rfl Res.nil) (fun w1 hw1 => ?_)
  have hcan0 : ((s.take (((i + 1)).toNat) ++ (s.drop ((i).toNat)).take (s.length - i.toNat) ++ s.drop (((i + 1)).toNat + (s.length - i.toNat))).take ((i).toNat) ++ ([x] : List Rule).take 1 ++ (s.take (((i + 1)).toNat) ++ (s.drop ((i).toNat)).take (s.length - i.toNat) ++ s.drop (((i + 1)).toNat + (s.length - i.toNat))).drop ((i).toNat + 1)) = (insL s i.toNat x) := by (first | exact ins_end (by omega) | (simp only [hi1]; exact ins_grow hiN rfl (List.take_left' (by rw [List.length_take]; omega)) (by simp only [List.length_append, List.length_take, List.length_replicate]; omega)) | (simp only [hi1]; exact ins_shift (by omega) rfl))
  have hlen0 : (s.length + 1) = (insL s i.toNat x).length := by first | (rw [← hcan0]; done) | (rw [← hcan0]; first | rfl | (simp; done) | (simp only [List.length_append, List.length_take, List.length_drop, List.length_set, List.length_replicate, List.length_cons, List.length_nil, List.length_map, toS_length, toI_length]; omega) | (simp; omega))
  exact ⟨s_a, s_c, Bx8, (by rw [← hlen0]; first | rfl | rfl), ((hw1.perm (List.Perm.refl _)).tr_out.sub (by first | exact List.sublist_append_left _ _ | exact List.nil_sublist _)), (hcan0 ▸ hox8)⟩

theorem ruDelete_ok (w : World) {s_a : Option Addr} {s_c : Nat} {s_B : Heap} {s : List Rule} {i : Int} {j : Int} (o_s : OwnB eRule 5 27 s_a s_c s_B s) (b_s : ∀ p ∈ s_B, w.heap[p.1]? = some p.2) (n_s : s.length ≤ 1000000) (hi : 0 ≤ i ∧ i < j ∧ j ≤ s.length) : Calls Tryz.prog 51 (List.toArray [(Value.slice (s_a) (s.length) (s_c)), (Value.int .i64 (i)), (Value.int .i64 (j))]) w fun e w2 => ∃ a1 : Option Addr, ∃ c1 : Nat, ∃ B1 : Heap, e = .returned (Value.slice (a1) ((delL s i.toNat j.toNat).length) (c1)) ∧ Tr w w2 s_B B1 ∧ OwnB eRule 5 27 a1 c1 B1 (delL s i.toNat j.toNat) := by
  have hF := Is.refl (delL s i.toNat j.toNat)
  have hiN : i.toNat < j.toNat ∧ j.toNat ≤ s.length := by omega
  have hMk : ∀ k ∈ keys s_B, k < w.heap.size := fun k hk => by
    obtain ⟨o, ho⟩ := keys_mem hk
    exact (Array.getElem?_eq_some_iff.1 (b_s _ ho)).1
  have hle0 := o_s.le'
  refine enterM (keys s_B) (s_B ++ []) (by simpa using b_s) (fun p hp => mem_keys (by simpa using hp)) (by simpa using o_s.nd) Tryz.func51 Tryz.ntmps51 (h := ?_)
  refine J_seq ?_
  refine J_reg ?_
  refine JL_q (q_assign) (k := ?_)
  refine JL_nil ?_
  refine JX_seq ?_
  refine J_seq ?_
  refine J_reg ?_
  refine JL_q (q_move) (k := ?_)
  refine JL_q (q_move) (k := ?_)
  refine JL_q (q_move) (k := ?_)
  refine JL_q (q_move) (k := ?_)
  refine JL_q (q_lenS Tryz.runUnderlying36) (k := ?_)
  have hle1 := o_s.le'
  refine JL_q (q_sliceLoHiMax (n := s.length) (c := s_c) (i := i) (i2 := j) (i3 := ((s.length : Nat) : Int)) ((i).toNat) ((j).toNat) s.length ((j).toNat - (i).toNat) Tryz.runUnderlying36 Tryz.sizeOf27 (hlo := by first | exact ix) (hhi := by first | exact ix) (hmx := by first | exact ix) (hm := rfl)) (k := ?_)
  refine JL_nil ?_
  refine JX_seq ?_
  refine J_seq ?_
  refine J_seq ?_
  refine J_reg ?_
  refine JL_q (q_move) (k := ?_)
  refine JL_q (q_move) (k := ?_)
  refine JL_q (q_eql) (k := ?_)
  refine JL_nil ?_
  refine JX_seq ?_
  refine J_dec rfl (fun hq2 => ?_) (fun hq2 => ?_)
  · exfalso
    omega
  refine J_skip ?_
  refine JX_seq ?_
  refine J_seq ?_
  refine J_reg ?_
  refine JL_q (q_move) (k := ?_)
  refine JL_q (q_lenS Tryz.runUnderlying36) (k := ?_)
  refine JL_q (q_assign) (k := ?_)
  refine JL_nil ?_
  refine JX_seq ?_
  refine J_seq ?_
  refine J_planV [] (s_B ++ []) (List.Perm.trans (List.Perm.refl _) (List.Perm.of_eq (by first | rfl | (simp only [List.cons_append, List.nil_append, List.append_assoc, List.append_nil]; done) | (simp only [List.cons_append, List.nil_append, List.append_assoc, List.append_nil]; rfl)))) mixed 8 [(true, 0), (true, 1), (true, 2), (true, 3), (true, 4), (true, 5), (false, 6), (true, 7)] (by kernel_rfl) ?_
  refine JD_q (q_move) (k := ?_)
  refine JD_q (q_move) (k := ?_)
  have hl3 : (s.take ((i).toNat)).length = (i).toNat := by rw [List.length_take]; omega
  have hl3c := o_s.le'
  refine JD_q (q_sliceHi' (s.take ((i).toNat)).length Tryz.runUnderlying36 (fun w => ⟨_, Tryz.sizeOf27 w⟩) (hm := by omega) (hi := by omega)) (k := ?_)
  refine JD_q (q_move) (k := ?_)
  refine JD_q (q_move) (k := ?_)
  have hle4 := o_s.le'
  have hld5 : (s.drop ((j).toNat)).length = s.length - ((j).toNat) := List.length_drop
  refine JD_q (q_sliceLo (n := s.length) (c := s_c) (i := j) ((j).toNat) (s.drop ((j).toNat)).length Tryz.runUnderlying36 Tryz.sizeOf27 (hlo := by first | exact ix) (hnc := by first | omega | exact Nat.le_refl _) (hm := by first | rfl | (simp; done) | (simp only [List.length_append, List.length_take, List.length_drop, List.length_set, List.length_replicate, List.length_cons, List.length_nil, List.length_map, toS_length, toI_length]; omega))) (k := ?_)
  refine JD_appendIn (n := (s.take ((i).toNat)).length) (m := (s.drop ((j).toNat)).length) ((s.take ((i).toNat)) ++ (s.drop ((j).toNat))) rfl TY_27 Tryz.underlying36 eRule_ok (o_s.take eRule_ok ((i).toNat)) q0 (SlJ.off (o_s.slj eRule_ok (by intro p hp; first | exact hp | (simp [hp]; done))) ((j).toNat) s_c (by first | omega | exact Nat.le_refl _)) (by first | exact lb) (k := fun Bx2 hox2 => ?_)
  refine JD_q (q_assign) (k := ?_)
  refine JD_nil ?_
  refine JL_eqL (L' := (Bx2 ++ [])) (by simp only [List.append_nil, List.append_assoc, List.cons_append, List.nil_append]) ?_
  refine JL_nil ?_
  refine JX_seq ?_
  refine J_seq ?_
  refine J_reg ?_
  refine JL_q (q_move) (k := ?_)
  refine JL_q (q_move) (k := ?_)
  refine JL_q (q_lenS Tryz.runUnderlying36) (k := ?_)
  refine JL_q (q_move) (k := ?_)
  have hle6 := hox2.le'
  refine JL_q (q_sliceLoHi (n := ((s.take ((i).toNat)) ++ (s.drop ((j).toNat))).length) (c := s_c) (i := (((((s.take ((i).toNat)) ++ (s.drop ((j).toNat))).length) : Nat) : Int)) (i2 := ((s.length : Nat) : Int)) (((s.take ((i).toNat)) ++ (s.drop ((j).toNat))).length) s.length (s.length - (((s.take ((i).toNat)) ++ (s.drop ((j).toNat))).length)) Tryz.runUnderlying36 Tryz.sizeOf27 (hlo := by first | exact ix) (hhi := by first | exact ix) (hm := rfl)) (k := ?_)
  refine JL_clearOff (dn := (s.length - (((s.take ((i).toNat)) ++ (s.drop ((j).toNat))).length))) (x0 := default) (((s.take ((i).toNat)) ++ (s.drop ((j).toNat))).length) TY_27 Tryz.zeroValue27 rfl Tryz.underlying36 eRule_ok hox2 q0 (by first | exact lb) (by first | exact lb) (kk := fun Bx3 hox3 => ?_)
  refine JL_nil ?_
  refine JX_seq ?_
  refine J_seq ?_
  refine J_reg ?_
  refine JL_q (q_move) (k := ?_)
  refine JL_q (q_assign) (k := ?_)
  refine JL_nil ?_
  refine JX_seq ?_
  refine J_ret ?_
  refine JX_ret Tryz.results51 (Res.tmp rfl Res.nil) (fun w1 hw1 => ?_)
  have hcan0 : ((s.take ((i).toNat)) ++ (s.drop ((j).toNat))) = (delL s i.toNat j.toNat) := by rfl
  have hlen0 : ((s.take ((i).toNat)) ++ (s.drop ((j).toNat))).length = (delL s i.toNat j.toNat).length := by first | (rw [← hcan0]; done) | (rw [← hcan0]; first | rfl | (simp; done) | (simp only [List.length_append, List.length_take, List.length_drop, List.length_set, List.length_replicate, List.length_cons, List.length_nil, List.length_map, toS_length, toI_length]; omega) | (simp; omega))
  exact ⟨s_a, s_c, Bx3, (by rw [← hlen0]; first | rfl | rfl), ((hw1.perm (List.Perm.refl _)).tr_out.sub (by first | exact List.sublist_append_left _ _ | exact List.nil_sublist _)), (hcan0 ▸ hox3)⟩
theorem Swap_t (w : World) {a : Option Addr} {c : Nat} {B : Heap} {xs : List Int} (ho : OwnB eI 1 3 a c B xs) (hB : ∀ p ∈ B, w.heap[p.1]? = some p.2) {i j : Int} (hi : 0 ≤ i ∧ i < xs.length) (hj : 0 ≤ j ∧ j < xs.length) (hn : xs.length < 4611686018427387904) :
    Calls Tryz.prog 178 (List.toArray [.slice a xs.length c, .int .i64 i, .int .i64 j]) w fun e w2 => ∃ B2, e = .returned (.tuple [].toArray) ∧ Tr w w2 B B2 ∧ OwnB eI 1 3 a c B2 ((xs.set i.toNat (xs.getD j.toNat default)).set j.toNat (xs.getD i.toNat default)) := by
  obtain ⟨i, rfl⟩ := Int.eq_ofNat_of_zero_le hi.1
  obtain ⟨j, rfl⟩ := Int.eq_ofNat_of_zero_le hj.1
  have hi : i < xs.length := by omega
  have hj : j < xs.length := by omega
  simp only [Int.ofNat_eq_natCast, Int.toNat_natCast]
  have hsl := ho.sl eI_ok hB
  rcases ho with ⟨rfl, rfl, rfl⟩ | ⟨r, cur, fz, rfl, rfl, hfz, h1, h2, h3⟩
  · simp at hi
  · have hh : w.heap[r]? = some (.cells cur 3 fz) := hB _ List.mem_cons_self
    have hc : ∀ k, k < xs.length → w.cell? ⟨r, 0 + k, none⟩ = some (.int .i64 (xs.getD k default)) := fun k hk => by
      obtain ⟨b, off, he, _, h4⟩ := hsl k _ (gD hk)
      cases he
      have := h4 0 _ rfl
      simpa using this
    have hf : ∀ k, k < xs.length → w.frozen? ⟨r, 0 + k, none⟩ = false := fun k hk => hfz.not hh (by omega)
    refine (Tryz.IntSlice_Swap r 0 c xs.length w (xs.getD i default) (xs.getD j default) i j hi hj hn (hc i hi) (hc j hj) (hf i hi) (hf j hj)).mono fun e w2 ⟨he, q, hw⟩ => ?_
    rw [setCell_eq_setRow w r (0 + i) cur _ fz _ hh, setCell_eq_setRow _ r (0 + j) _ _ fz _ (setRow_heap w r cur _ _ _ hh)] at hw
    refine ⟨[(r, .cells ((cur.setIfInBounds (0 + i) (.int .i64 (xs.getD j default))).setIfInBounds (0 + j) (.int .i64 (xs.getD i default))) 3 fz)], he, ?_, ?_⟩
    · subst hw
      have t1 := tr_row (cur' := cur.setIfInBounds (0 + i) (.int .i64 (xs.getD j default))) hh
      have t2 := tr_row (cur' := (cur.setIfInBounds (0 + i) (.int .i64 (xs.getD j default))).setIfInBounds (0 + j) (.int .i64 (xs.getD i default))) (setRow_heap w r cur (cur.setIfInBounds (0 + i) (.int .i64 (xs.getD j default))) 3 fz hh)
      have t3 := t1.trans t2
      exact ⟨t3.os, t3.tape, t3.output, t3.size, t3.same, t3.own, t3.key, t3.nd⟩
    · refine OwnB.fullF (by simpa using hfz) (by simpa using h1) (by simpa using h2) ?_
      have hflat : ∀ l : List Int, flat eI l = l.map (Value.int .i64) := fun l => by
        induction l with
        | nil => rfl
        | cons x r ih => simp only [flat, eI, List.map_cons, List.flatten_cons] at *; rw [ih]; rfl
      rw [hflat] at h3 ⊢
      simp only [List.length_set, Nat.mul_one, Nat.zero_add, Array.toList_setIfInBounds] at h3 ⊢
      rw [List.take_set, List.take_set, h3, List.map_set, List.map_set]
theorem aclOne_ok (w : World) {r : Rule} : Val Tryz.prog 29 [(Value.agg [(Value.bool (r.allow)), (Value.int .i64 (r.pfx.addr)), (Value.int .i64 (r.pfx.bits)), (Value.int .i64 (r.prt.lo)), (Value.int .i64 (r.prt.hi))].toArray)] w (Value.bool ((aclOne r))) := by
  have hF := Is.refl (aclOne r)
  refine enter Tryz.func29 Tryz.ntmps29 (h := ?_)
  refine J_seq ?_
  refine J_reg ?_
  refine JL_a noMk (a_box (l := [_, _, _, _, _])) (k := fun r1 hr1 => ?_)
  refine JL_q (q_assign) (k := ?_)
  refine JL_nil ?_
  refine JX_seq ?_
  refine J_seq ?_
  refine J_reg ?_
  refine JL_q (q_fld FO_54_0) (k := ?_)
  refine JL_q (q_fld FO_27_1) (k := ?_)
  refine JL_q (q_loadA Tryz.isAgg23 Tryz.sizeOf23) (k := ?_)
  refine JL_v (args := [(Value.agg [(Value.int .i64 (r.pfx.addr)), (Value.int .i64 (r.pfx.bits))].toArray)]) (c_callA Tryz.call52) (fun w1 hw1 => aRight_ok w1 (p := r.pfx)) (k := ?_)
  refine JL_q (q_move) (k := ?_)
  refine JL_bool 7 rfl (fun hq1 => ?_) (fun hq1 => ?_)
  rotate_left
  · refine JL_skips 4 rfl ?_
    refine JL_q (q_pickF) (k := ?_)
    refine JL_q (q_assign) (k := ?_)
    refine JL_nil ?_
    refine JX_seq ?_
    refine J_ret ?_
    refine JX_ret Tryz.results29 (Res.tmp rfl Res.nil) (fun w1 hw1 => ?_)
    exact ⟨(by rw [((hF.f hq1)).eq] <;> first | rfl | (simp only [List.length_set] <;> rfl)), hw1.ext_out⟩
  have hfhq1 := aRight_t hq1
  refine JL_qg (q_fld FO_54_0) (k := ?_)
  refine JL_qg (q_fld FO_27_2) (k := ?_)
  refine JL_qg (q_loadA Tryz.isAgg25 Tryz.sizeOf25) (k := ?_)
  refine JL_vg (args := [(Value.agg [(Value.int .i64 (r.prt.lo)), (Value.int .i64 (r.prt.hi))].toArray)]) (c_callA Tryz.call53) (fun w1 hw1 => pRight_ok w1 (p := r.prt)) (k := ?_)
  refine JL_q (q_pickT) (k := ?_)
  refine JL_q (q_assign) (k := ?_)
  refine JL_nil ?_
  refine JX_seq ?_
  refine J_ret ?_
  refine JX_ret Tryz.results29 (Res.tmp rfl Res.nil) (fun w1 hw1 => ?_)
  exact ⟨(by rw [((hF.t hq1)).eq] <;> first | rfl | (simp only [List.length_set] <;> rfl)), hw1.ext_out⟩

theorem aclFitsR_ok (w : World) {r : Rule} {t : Target} : Val Tryz.prog 47 [(Value.agg [(Value.bool (r.allow)), (Value.int .i64 (r.pfx.addr)), (Value.int .i64 (r.pfx.bits)), (Value.int .i64 (r.prt.lo)), (Value.int .i64 (r.prt.hi))].toArray), (Value.agg [(Value.int .i64 (t.addr)), (Value.int .i64 (t.port))].toArray)] w (Value.bool ((aclFitsR r t))) := by
  have hF := Is.refl (aclFitsR r t)
  refine enter Tryz.func47 Tryz.ntmps47 (h := ?_)
  refine J_seq ?_
  refine J_reg ?_
  refine JL_a noMk (a_box (l := [_, _, _, _, _])) (k := fun r1 hr1 => ?_)
  refine JL_a noMk (a_box (l := [_, _])) (k := fun r2 hr2 => ?_)
  refine JL_q (q_assign) (k := ?_)
  refine JL_nil ?_
  refine JX_seq ?_
  refine J_seq ?_
  refine J_reg ?_
  refine JL_q (q_loadA Tryz.isAgg54 Tryz.sizeOf54) (k := ?_)
  refine JL_v (args := [(Value.agg [(Value.bool (r.allow)), (Value.int .i64 (r.pfx.addr)), (Value.int .i64 (r.pfx.bits)), (Value.int .i64 (r.prt.lo)), (Value.int .i64 (r.prt.hi))].toArray)]) (c_callA Tryz.call29) (fun w1 hw1 => aclOne_ok w1 (r := r)) (k := ?_)
  refine JL_q (q_move) (k := ?_)
  refine JL_bool 7 rfl (fun hq1 => ?_) (fun hq1 => ?_)
  rotate_left
  · refine JL_skips 6 rfl ?_
    refine JL_q (q_pickF) (k := ?_)
    refine JL_q (q_move) (k := ?_)
    refine JL_skips 6 rfl ?_
    refine JL_q (q_pickF) (k := ?_)
    refine JL_q (q_assign) (k := ?_)
    refine JL_nil ?_
    refine JX_seq ?_
    refine J_ret ?_
    refine JX_ret Tryz.results47 (Res.tmp rfl Res.nil) (fun w1 hw1 => ?_)
    exact ⟨(by rw [((hF.f hq1)).eq] <;> first | rfl | (simp only [List.length_set] <;> rfl)), hw1.ext_out⟩
  refine JL_qg (q_fld FO_54_0) (k := ?_)
  refine JL_qg (q_fld FO_27_1) (k := ?_)
  refine JL_qg (q_loadA Tryz.isAgg23 Tryz.sizeOf23) (k := ?_)
  refine JL_qg (q_fld FO_39_0) (k := ?_)
  refine JL_qg (q_load Tryz.isAgg3) (k := ?_)
  refine JL_vg (args := [(Value.agg [(Value.int .i64 (r.pfx.addr)), (Value.int .i64 (r.pfx.bits))].toArray), (Value.int .i64 (t.addr))]) (c_callA Tryz.call77) (fun w1 hw1 => aHas_ok w1 (p := r.pfx) (a := t.addr)) (k := ?_)
  refine JL_q (q_pickT) (k := ?_)
  refine JL_q (q_move) (k := ?_)
  refine JL_bool 15 rfl (fun hq2 => ?_) (fun hq2 => ?_)
  rotate_left
  · refine JL_skips 6 rfl ?_
    refine JL_q (q_pickF) (k := ?_)
    refine JL_q (q_assign) (k := ?_)
    refine JL_nil ?_
    refine JX_seq ?_
    refine J_ret ?_
    refine JX_ret Tryz.results47 (Res.tmp rfl Res.nil) (fun w1 hw1 => ?_)
    exact ⟨(by rw [(((hF.t hq1).f hq2)).eq] <;> first | rfl | (simp only [List.length_set] <;> rfl)), hw1.ext_out⟩
  refine JL_qg (q_fld FO_54_0) (k := ?_)
  refine JL_qg (q_fld FO_27_2) (k := ?_)
  refine JL_qg (q_loadA Tryz.isAgg25 Tryz.sizeOf25) (k := ?_)
  refine JL_qg (q_fld FO_39_1) (k := ?_)
  refine JL_qg (q_load Tryz.isAgg3) (k := ?_)
  refine JL_vg (args := [(Value.agg [(Value.int .i64 (r.prt.lo)), (Value.int .i64 (r.prt.hi))].toArray), (Value.int .i64 (t.port))]) (c_callA Tryz.call78) (fun w1 hw1 => pHas_ok w1 (p := r.prt) (n_ := t.port)) (k := ?_)
  refine JL_q (q_pickT) (k := ?_)
  refine JL_q (q_assign) (k := ?_)
  refine JL_nil ?_
  refine JX_seq ?_
  refine J_ret ?_
  refine JX_ret Tryz.results47 (Res.tmp rfl Res.nil) (fun w1 hw1 => ?_)
  exact ⟨(by rw [(((hF.t hq1).t hq2)).eq] <;> first | rfl | (simp only [List.length_set] <;> rfl)), hw1.ext_out⟩

theorem aclRight_ok (w : World) {l_a : Option Addr} {l_c : Nat} {l : List Rule} (h_l : Sl w eRule 5 l_a l) (n_l : l.length ≤ 1000) : Val Tryz.prog 15 [(Value.slice (l_a) (l.length) (l_c))] w (Value.bool ((aclRight l))) := by
  have hF := Is.refl (aclRight l)
  refine enter Tryz.func15 Tryz.ntmps15 (h := ?_)
  refine J_seq ?_
  refine J_reg ?_
  refine JL_q (q_assign) (k := ?_)
  refine JL_nil ?_
  refine JX_seq ?_
  refine J_seq ?_
  refine J_reg ?_
  refine JL_q (q_move) (k := ?_)
  refine JL_q (q_lenS Tryz.runUnderlying36) (k := ?_)
  refine JL_q (q_leq) (k := ?_)
  refine JL_q (q_move) (k := ?_)
  refine JL_dec 6 rfl (fun hq1 => ?_) (fun hq1 => ?_)
  rotate_left
  · refine JL_skips 3 rfl ?_
    refine JL_q (q_pickF) (k := ?_)
    refine JL_q (q_assign) (k := ?_)
    refine JL_nil ?_
    refine JX_seq ?_
    refine J_ret ?_
    refine JX_ret Tryz.results15 (Res.tmp rfl Res.nil) (fun w1 hw1 => ?_)
    exact ⟨(by rw [((hF.neg hq1)).eq] <;> first | rfl | (simp only [List.length_set] <;> rfl)), hw1.ext_out⟩
  refine JL_qg (q_move) (k := ?_)
  refine JL_ag noMk (a_bslice (l := [_]) Tryz.runUnderlying101 Tryz.sizeOf68 Tryz.zeroValue68) (k := fun r1 hr1 => ?_)
  refine JL_inlg (args := [(Value.slice (l_a) (l.length) (l_c)), (Value.slice (some ⟨r1, 0, none⟩) (1) (1))]) (c_callA Tryz.call36) Tryz.func36 Tryz.ntmps36 ?_
  refine J_seq ?_
  refine J_reg ?_
  refine JL_q (q_assign) (k := ?_)
  refine JL_nil ?_
  refine JX_seq ?_
  refine J_seq ?_
  refine J_seq ?_
  refine J_reg ?_
  refine JL_q (q_move) (k := ?_)
  refine JL_q (q_lenS Tryz.runUnderlying36) (k := ?_)
  refine JL_q (q_move) (k := ?_)
  refine JL_nil ?_
  refine JX_seq ?_
  refine J_block ?_
  refine J_loop2 (σ1 := Nat) (σ2 := Nat) (fun n_2 x_1 => ((r1, Obj.cells [(Value.func (.func 29) [].toArray [].toArray)].toArray 68) :: [])) (fun n_2 x_1 => [(1, (Value.slice (some ⟨r1, 0, none⟩) (1) (1))), (4, (Value.bool (false))), (9, (Value.slice (l_a) (l.length) (l_c))), (10, (Value.int .i64 (((l.length : Nat) : Int)))), (11, (Value.int .i64 (((x_1 : Nat) : Int))))]) (fun n_2 x_1 => l.length - x_1 < n_2 ∧ Is (aclRight_l0 l (l.length + 1) 0) (aclRight_l0 l n_2 x_1) ∧ x_1 ≤ l.length) (fun n_2 x_1 => n_2) (l.length + 1) 0 ?_ se (List.Perm.refl _) ?_
  · exact ⟨Nat.lt_succ_self _, Is.refl _, (by first | omega | rfl | (simp; done))⟩
  · rintro (_ | n_2) x_1 ⟨hm4, hF3, hi5⟩
    · omega
    refine J_seq ?_
    refine J_reg ?_
    refine JL_q (q_lss) (k := ?_)
    refine JL_nil ?_
    refine JX_seq ?_
    refine J_seq ?_
    refine J_dec rfl (fun hq2 => ?_) (fun hq2 => ?_)
    rotate_left
    · refine J_exit ?_
      refine JX_seq_exit ?_
      refine JX_inv_exit ?_
      refine JX_block_hit ?_
      refine JX_seq ?_
      refine J_seq ?_
      refine J_reg ?_
      refine JL_q (q_assign) (k := ?_)
      refine JL_nil ?_
      refine JX_seq ?_
      refine J_ret ?_
      refine JX_retI Tryz.results36 (Res.tmp rfl Res.nil) ?_
      refine JL_q (q_pickT) (k := ?_)
      refine JL_q (q_assign) (k := ?_)
      refine JL_nil ?_
      refine JX_seq ?_
      refine J_ret ?_
      refine JX_ret Tryz.results15 (Res.tmp rfl Res.nil) (fun w1 hw1 => ?_)
      exact ⟨(by rw [(((hF.pos hq1).ok1 (hF3.neg hq2))).eq] <;> first | rfl | (simp only [List.length_set] <;> rfl)), hw1.ext_out⟩
    refine J_skip ?_
    refine JX_seq ?_
    refine J_seq ?_
    refine J_block ?_
    refine J_seq ?_
    refine J_reg ?_
    refine JL_q (q_idx (n := l.length) Tryz.runUnderlying36 Tryz.sizeOf27 x_1 (SlJ.of_base h_l) (gD (by first | exact ix)) (by first | rfl | simp)) (k := ?_)
    refine JL_q (q_loadEA Tryz.isAgg27 Tryz.sizeOf27 x_1 (SlJ.of_base h_l) (gD (by first | exact ix))) (k := ?_)
    refine JL_a noMk (a_alloc (l := [_, _, _, _, _]) Tryz.zeroValue27) (k := fun r2 hr2 => ?_)
    refine JL_s (w_store (l' := [_, _, _, _, _]) Tryz.sizeOf27) (k := ?_)
    refine JL_nil ?_
    refine JX_seq ?_
    refine J_seq ?_
    refine J_reg ?_
    refine JL_q (q_move) (k := ?_)
    refine JL_q (q_lenS Tryz.runUnderlying101) (k := ?_)
    refine JL_q (q_move) (k := ?_)
    refine JL_nil ?_
    refine JX_seq ?_
    refine J_block ?_
    refine J_unroll ?_
    refine J_seq ?_
    refine J_reg ?_
    refine JL_q (q_lss) (k := ?_)
    refine JL_nil ?_
    refine JX_seq ?_
    refine J_seq ?_
    refine J_true rfl ?_
    refine J_skip ?_
    refine JX_seq ?_
    refine J_seq ?_
    refine J_block ?_
    refine J_seq ?_
    refine J_reg ?_
    refine JL_q (q_idxO Tryz.runUnderlying101 Tryz.sizeOf68 0) (k := ?_)
    refine JL_q (q_load Tryz.isAgg68) (k := ?_)
    refine JL_q (q_assign) (k := ?_)
    refine JL_nil ?_
    refine JX_seq ?_
    refine J_seq ?_
    refine J_reg ?_
    refine JL_q (q_move) (k := ?_)
    refine JL_q (q_loadA Tryz.isAgg27 Tryz.sizeOf27) (k := ?_)
    refine JL_q (q_build (cs := [_, _, _, _, _]) Tryz.zeroValue54 PL_54) (k := ?_)
    refine JL_v (args := [(Value.agg [(Value.bool (((l.getD x_1 default).allow))), (Value.int .i64 (((l.getD x_1 default).pfx.addr))), (Value.int .i64 (((l.getD x_1 default).pfx.bits))), (Value.int .i64 (((l.getD x_1 default).prt.lo))), (Value.int .i64 (((l.getD x_1 default).prt.hi)))].toArray)]) (c_callA Tryz.call29) (fun w1 hw1 => aclOne_ok w1 (r := (l.getD x_1 default))) (k := ?_)
    refine JL_q (q_not) (k := ?_)
    refine JL_nil ?_
    refine JX_seq ?_
    refine J_cond rfl (fun hq3 => ?_) (fun hq3 => ?_)
    · refine J_seq ?_
      refine J_reg ?_
      refine JL_q (q_assign) (k := ?_)
      refine JL_nil ?_
      refine JX_seq ?_
      refine J_ret ?_
      refine JX_block_ret ?_
      refine JX_seq_ret ?_
      refine JX_inv_ret ?_
      refine JX_block_ret ?_
      refine JX_block_ret ?_
      refine JX_seq_ret ?_
      refine JX_inv_ret ?_
      refine JX_block_ret ?_
      refine JX_seq_ret ?_
      refine JX_retI Tryz.results36 (Res.tmp rfl Res.nil) ?_
      refine JL_q (q_pickT) (k := ?_)
      refine JL_q (q_assign) (k := ?_)
      refine JL_nil ?_
      refine JX_seq ?_
      refine J_ret ?_
      refine JX_ret Tryz.results15 (Res.tmp rfl Res.nil) (fun w1 hw1 => ?_)
      exact ⟨(by rw [(((hF.pos hq1).er1 ((hF3.pos hq2).t hq3))).eq] <;> first | rfl | (simp only [List.length_set] <;> rfl)), hw1.ext_out⟩
    refine J_skip ?_
    refine JX_block ?_
    refine JX_seq ?_
    refine J_reg ?_
    refine JL_q (q_add) (k := ?_)
    refine JL_q (q_move) (k := ?_)
    refine JL_nil ?_
    refine JX_again ?_
    refine J_seq ?_
    refine J_reg ?_
    refine JL_q (q_lss) (k := ?_)
    refine JL_nil ?_
    refine JX_seq ?_
    refine J_seq ?_
    refine J_false rfl ?_
    refine J_exit ?_
    refine JX_seq_exit ?_
    refine JX_inv_exit ?_
    refine JX_block_hit ?_
    refine JX_block ?_
    refine JX_seq ?_
    refine J_reg ?_
    refine JL_q (q_add) (k := ?_)
    refine JL_q (q_move) (k := ?_)
    refine JL_nil ?_
    refine JX_permL _ (qa q0) ?_
    refine JX_subL _ (List.Sublist.cons_cons _ (List.nil_sublist _)) ?_
    exact JX_inv2 n_2 (x_1 + 1) ⟨by omega, ((hF3.pos hq2).f hq3), (by omega)⟩ (Nat.lt_succ_self _) se (List.Perm.refl _)

theorem aclPrint_ok (w : World) {ea0 : Addr} {ea1 : Addr} {ea2 : Addr} {ea3 : Addr} {ea4 : Addr} {ea5 : Addr} {r : Rule} (hG : Gl w) (hE : Er w ea0 ea1 ea2 ea3 ea4 ea5) : Val Tryz.prog 13 [(Value.agg [(Value.bool (r.allow)), (Value.int .i64 (r.pfx.addr)), (Value.int .i64 (r.pfx.bits)), (Value.int .i64 (r.prt.lo)), (Value.int .i64 (r.prt.hi))].toArray)] w (Value.tuple [(Value.string (bs ((aclPrint r).1))), (Value.int .i64 (((aclPrint r).2)))].toArray) := by
  have hF := Is.refl (aclPrint r)
  refine enter Tryz.func13 Tryz.ntmps13 (h := ?_)
  refine J_seq ?_
  refine J_reg ?_
  refine JL_a noMk (a_box (l := [_, _, _, _, _])) (k := fun r1 hr1 => ?_)
  refine JL_q (q_assign) (k := ?_)
  refine JL_q (q_assign) (k := ?_)
  refine JL_nil ?_
  refine JX_seq ?_
  refine J_seq ?_
  refine J_reg ?_
  refine JL_q (q_loadA Tryz.isAgg27 Tryz.sizeOf27) (k := ?_)
  refine JL_q (q_build (cs := [_, _, _, _, _]) Tryz.zeroValue54 PL_54) (k := ?_)
  refine JL_q (q_func) (k := ?_)
  refine JL_q (q_assign) (k := ?_)
  refine JL_nil ?_
  refine JX_seq ?_
  refine J_seq ?_
  refine J_seq ?_
  refine J_reg ?_
  refine JL_q (q_move) (k := ?_)
  refine JL_v (args := [(Value.agg [(Value.bool (r.allow)), (Value.int .i64 (r.pfx.addr)), (Value.int .i64 (r.pfx.bits)), (Value.int .i64 (r.prt.lo)), (Value.int .i64 (r.prt.hi))].toArray)]) (c_callA Tryz.call29) (fun w1 hw1 => aclOne_ok w1 (r := r)) (k := ?_)
  refine JL_q (q_not) (k := ?_)
  refine JL_nil ?_
  refine JX_seq ?_
  refine J_cond rfl (fun hq1 => ?_) (fun hq1 => ?_)
  · refine J_seq ?_
    refine J_reg ?_
    obtain ⟨Thgl2, fhgl2, hgl2⟩ := hE.v3
    refine JL_q (q_loadB Tryz.isAgg57 hgl2) (k := ?_)
    refine JL_inl (args := [(Value.iface 242 (.pointer (some ea3)))]) (c_callA Tryz.call30) Tryz.func30 Tryz.ntmps30 ?_
    refine J_seq ?_
    refine J_reg ?_
    refine JL_q (q_assign) (k := ?_)
    refine JL_nil ?_
    refine JX_seq ?_
    refine J_seq ?_
    refine J_block ?_
    refine J_seq ?_
    refine J_reg ?_
    refine JL_q (q_move) (k := ?_)
    obtain ⟨Thgl3, fhgl3, hgl3⟩ := hE.v2
    refine JL_q (q_loadB Tryz.isAgg57 hgl3) (k := ?_)
    refine JL_v (args := [(Value.iface 242 (.pointer (some ea3))), (Value.iface 242 (.pointer (some ea2)))]) (c_callA Tryz.call54) (fun w1 hw1 => is_other_v w1 hE.n3_2 (hE.ext hw1.ext_out).b3 (hE.ext hw1.ext_out).b2) (k := ?_)
    refine JL_q (q_assign) (k := ?_)
    refine JL_nil ?_
    refine JX_seq ?_
    refine J_false rfl ?_
    refine J_seq ?_
    refine J_reg ?_
    refine JL_q (q_move) (k := ?_)
    obtain ⟨Thgl4, fhgl4, hgl4⟩ := hE.v3
    refine JL_q (q_loadB Tryz.isAgg57 hgl4) (k := ?_)
    refine JL_v (args := [(Value.iface 242 (.pointer (some ea3))), (Value.iface 242 (.pointer (some ea3)))]) (c_callA Tryz.call54) (fun w1 hw1 => is_same_v w1) (k := ?_)
    refine JL_q (q_assign) (k := ?_)
    refine JL_nil ?_
    refine JX_seq ?_
    refine J_true rfl ?_
    refine J_seq ?_
    refine J_reg ?_
    refine JL_q (q_assign) (k := ?_)
    refine JL_nil ?_
    refine JX_seq ?_
    refine J_ret ?_
    refine JX_block_ret ?_
    refine JX_seq_ret ?_
    refine JX_retI Tryz.results30 (Res.tmp rfl Res.nil) ?_
    refine JL_q (q_assign) (k := ?_)
    refine JL_q (q_assign) (k := ?_)
    refine JL_nil ?_
    refine JX_seq ?_
    refine J_ret ?_
    refine JX_seq_ret ?_
    refine JX_ret Tryz.results13 (Res.tmp rfl (Res.tmp rfl Res.nil)) (fun w1 hw1 => ?_)
    exact ⟨(by rw [((hF.t hq1)).eq] <;> first | rfl | (simp only [List.length_set] <;> rfl)), hw1.ext_out⟩
  refine J_skip ?_
  refine JX_seq ?_
  refine J_seq ?_
  refine J_reg ?_
  refine JL_q (q_assign) (k := ?_)
  refine JL_nil ?_
  refine JX_seq ?_
  refine J_seq ?_
  refine J_seq ?_
  refine J_reg ?_
  refine JL_q (q_fld FO_27_0) (k := ?_)
  refine JL_q (q_load Tryz.isAgg4) (k := ?_)
  refine JL_nil ?_
  refine JX_seq ?_
  refine J_cond rfl (fun hq5 => ?_) (fun hq5 => ?_)
  rotate_left
  · refine J_skip ?_
    refine JX_seq ?_
    refine J_seq ?_
    refine J_reg ?_
    refine JL_q (q_fld FO_27_1) (k := ?_)
    refine JL_q (q_loadA Tryz.isAgg23 Tryz.sizeOf23) (k := ?_)
    refine JL_v (args := [(Value.agg [(Value.int .i64 (r.pfx.addr)), (Value.int .i64 (r.pfx.bits))].toArray)]) (c_callA Tryz.call31) (fun w1 hw1 => aPrintPrefix_ok w1 (p := r.pfx) (hG := hG.ext hw1.ext_out) (hE := hE.ext hw1.ext_out)) (k := ?_)
    have hapl_39151 := aPrintPrefix_len' r.pfx
    refine JL_q (q_move) (k := ?_)
    refine JL_q (q_ext) (k := ?_)
    refine JL_q (q_ext) (k := ?_)
    refine JL_q (q_assign) (k := ?_)
    refine JL_q (q_assign) (k := ?_)
    refine JL_nil ?_
    refine JX_seq ?_
    refine J_seq ?_
    refine J_reg ?_
    refine JL_q (q_fld FO_27_2) (k := ?_)
    refine JL_q (q_loadA Tryz.isAgg25 Tryz.sizeOf25) (k := ?_)
    refine JL_v (args := [(Value.agg [(Value.int .i64 (r.prt.lo)), (Value.int .i64 (r.prt.hi))].toArray)]) (c_callA Tryz.call32) (fun w1 hw1 => pPrint_ok w1 (p := r.prt) (hG := hG.ext hw1.ext_out) (hE := hE.ext hw1.ext_out)) (k := ?_)
    have hpp_1626 := pPrint_len r.prt
    refine JL_q (q_move) (k := ?_)
    refine JL_q (q_ext) (k := ?_)
    refine JL_q (q_ext) (k := ?_)
    refine JL_q (q_assign) (k := ?_)
    refine JL_q (q_assign) (k := ?_)
    refine JL_nil ?_
    refine JX_seq ?_
    refine J_seq ?_
    refine J_reg ?_
    refine JL_q (q_move) (k := ?_)
    refine JL_q (q_addT (s := ([100, 101, 110, 121] : Str)) (s' := ([32] : Str)) (h := by first | exact lb)) (k := ?_)
    have hsa5 : (([100, 101, 110, 121] : Str) ++ ([32] : Str)).length = 4 + 1 := by simp only [List.length_append, List.length_cons, List.length_nil, Nat.zero_add]
    refine JL_q (q_move) (k := ?_)
    refine JL_q (q_addT (s := (([100, 101, 110, 121] : Str) ++ ([32] : Str))) (s' := ((aPrintPrefix r.pfx).1)) (h := by first | exact lb)) (k := ?_)
    have hsa6 : ((([100, 101, 110, 121] : Str) ++ ([32] : Str)) ++ ((aPrintPrefix r.pfx).1)).length = (([100, 101, 110, 121] : Str) ++ ([32] : Str)).length + ((aPrintPrefix r.pfx).1).length := by simp only [List.length_append, List.length_cons, List.length_nil, Nat.zero_add]
    refine JL_q (q_addT (s := ((([100, 101, 110, 121] : Str) ++ ([32] : Str)) ++ ((aPrintPrefix r.pfx).1))) (s' := ([32] : Str)) (h := by first | exact lb)) (k := ?_)
    have hsa7 : (((([100, 101, 110, 121] : Str) ++ ([32] : Str)) ++ ((aPrintPrefix r.pfx).1)) ++ ([32] : Str)).length = ((([100, 101, 110, 121] : Str) ++ ([32] : Str)) ++ ((aPrintPrefix r.pfx).1)).length + 1 := by simp only [List.length_append, List.length_cons, List.length_nil, Nat.zero_add]
    refine JL_q (q_move) (k := ?_)
    refine JL_q (q_addT (s := (((([100, 101, 110, 121] : Str) ++ ([32] : Str)) ++ ((aPrintPrefix r.pfx).1)) ++ ([32] : Str))) (s' := ((pPrint r.prt).1)) (h := by first | exact lb)) (k := ?_)
    have hsa8 : ((((([100, 101, 110, 121] : Str) ++ ([32] : Str)) ++ ((aPrintPrefix r.pfx).1)) ++ ([32] : Str)) ++ ((pPrint r.prt).1)).length = (((([100, 101, 110, 121] : Str) ++ ([32] : Str)) ++ ((aPrintPrefix r.pfx).1)) ++ ([32] : Str)).length + ((pPrint r.prt).1).length := by simp only [List.length_append, List.length_cons, List.length_nil, Nat.zero_add]
    refine JL_q (q_assign) (k := ?_)
    refine JL_q (q_assign) (k := ?_)
    refine JL_nil ?_
    refine JX_seq ?_
    refine J_ret ?_
    refine JX_ret Tryz.results13 (Res.tmp rfl (Res.tmp rfl Res.nil)) (fun w1 hw1 => ?_)
    exact ⟨(by rw [(((hF.f hq1).f hq5)).eq] <;> first | rfl | (simp only [List.length_set] <;> rfl)), hw1.ext_out⟩
  refine J_reg ?_
  refine JL_q (q_assign) (k := ?_)
  refine JL_nil ?_
  refine JX_seq ?_
  refine J_seq ?_
  refine J_reg ?_
  refine JL_q (q_fld FO_27_1) (k := ?_)
  refine JL_q (q_loadA Tryz.isAgg23 Tryz.sizeOf23) (k := ?_)
  refine JL_v (args := [(Value.agg [(Value.int .i64 (r.pfx.addr)), (Value.int .i64 (r.pfx.bits))].toArray)]) (c_callA Tryz.call31) (fun w1 hw1 => aPrintPrefix_ok w1 (p := r.pfx) (hG := hG.ext hw1.ext_out) (hE := hE.ext hw1.ext_out)) (k := ?_)
  have hapl_39151 := aPrintPrefix_len' r.pfx
  refine JL_q (q_move) (k := ?_)
  refine JL_q (q_ext) (k := ?_)
  refine JL_q (q_ext) (k := ?_)
  refine JL_q (q_assign) (k := ?_)
  refine JL_q (q_assign) (k := ?_)
  refine JL_nil ?_
  refine JX_seq ?_
  refine J_seq ?_
  refine J_reg ?_
  refine JL_q (q_fld FO_27_2) (k := ?_)
  refine JL_q (q_loadA Tryz.isAgg25 Tryz.sizeOf25) (k := ?_)
  refine JL_v (args := [(Value.agg [(Value.int .i64 (r.prt.lo)), (Value.int .i64 (r.prt.hi))].toArray)]) (c_callA Tryz.call32) (fun w1 hw1 => pPrint_ok w1 (p := r.prt) (hG := hG.ext hw1.ext_out) (hE := hE.ext hw1.ext_out)) (k := ?_)
  have hpp_1626 := pPrint_len r.prt
  refine JL_q (q_move) (k := ?_)
  refine JL_q (q_ext) (k := ?_)
  refine JL_q (q_ext) (k := ?_)
  refine JL_q (q_assign) (k := ?_)
  refine JL_q (q_assign) (k := ?_)
  refine JL_nil ?_
  refine JX_seq ?_
  refine J_seq ?_
  refine J_reg ?_
  refine JL_q (q_move) (k := ?_)
  refine JL_q (q_addT (s := ([97, 108, 108, 111, 119] : Str)) (s' := ([32] : Str)) (h := by first | exact lb)) (k := ?_)
  have hsa1 : (([97, 108, 108, 111, 119] : Str) ++ ([32] : Str)).length = 5 + 1 := by simp only [List.length_append, List.length_cons, List.length_nil, Nat.zero_add]
  refine JL_q (q_move) (k := ?_)
  refine JL_q (q_addT (s := (([97, 108, 108, 111, 119] : Str) ++ ([32] : Str))) (s' := ((aPrintPrefix r.pfx).1)) (h := by first | exact lb)) (k := ?_)
  have hsa2 : ((([97, 108, 108, 111, 119] : Str) ++ ([32] : Str)) ++ ((aPrintPrefix r.pfx).1)).length = (([97, 108, 108, 111, 119] : Str) ++ ([32] : Str)).length + ((aPrintPrefix r.pfx).1).length := by simp only [List.length_append, List.length_cons, List.length_nil, Nat.zero_add]
  refine JL_q (q_addT (s := ((([97, 108, 108, 111, 119] : Str) ++ ([32] : Str)) ++ ((aPrintPrefix r.pfx).1))) (s' := ([32] : Str)) (h := by first | exact lb)) (k := ?_)
  have hsa3 : (((([97, 108, 108, 111, 119] : Str) ++ ([32] : Str)) ++ ((aPrintPrefix r.pfx).1)) ++ ([32] : Str)).length = ((([97, 108, 108, 111, 119] : Str) ++ ([32] : Str)) ++ ((aPrintPrefix r.pfx).1)).length + 1 := by simp only [List.length_append, List.length_cons, List.length_nil, Nat.zero_add]
  refine JL_q (q_move) (k := ?_)
  refine JL_q (q_addT (s := (((([97, 108, 108, 111, 119] : Str) ++ ([32] : Str)) ++ ((aPrintPrefix r.pfx).1)) ++ ([32] : Str))) (s' := ((pPrint r.prt).1)) (h := by first | exact lb)) (k := ?_)
  have hsa4 : ((((([97, 108, 108, 111, 119] : Str) ++ ([32] : Str)) ++ ((aPrintPrefix r.pfx).1)) ++ ([32] : Str)) ++ ((pPrint r.prt).1)).length = (((([97, 108, 108, 111, 119] : Str) ++ ([32] : Str)) ++ ((aPrintPrefix r.pfx).1)) ++ ([32] : Str)).length + ((pPrint r.prt).1).length := by simp only [List.length_append, List.length_cons, List.length_nil, Nat.zero_add]
  refine JL_q (q_assign) (k := ?_)
  refine JL_q (q_assign) (k := ?_)
  refine JL_nil ?_
  refine JX_seq ?_
  refine J_ret ?_
  refine JX_ret Tryz.results13 (Res.tmp rfl (Res.tmp rfl Res.nil)) (fun w1 hw1 => ?_)
  exact ⟨(by rw [(((hF.f hq1).t hq5)).eq] <;> first | rfl | (simp only [List.length_set] <;> rfl)), hw1.ext_out⟩

theorem aclFits_ok (w : World) {ea0 : Addr} {ea1 : Addr} {ea2 : Addr} {ea3 : Addr} {ea4 : Addr} {ea5 : Addr} {r : Rule} {t : Target} (hG : Gl w) (hE : Er w ea0 ea1 ea2 ea3 ea4 ea5) : Val Tryz.prog 22 [(Value.agg [(Value.bool (r.allow)), (Value.int .i64 (r.pfx.addr)), (Value.int .i64 (r.pfx.bits)), (Value.int .i64 (r.prt.lo)), (Value.int .i64 (r.prt.hi))].toArray), (Value.agg [(Value.int .i64 (t.addr)), (Value.int .i64 (t.port))].toArray)] w (Value.bool ((aclFits r t))) := by
  have hF := Is.refl (aclFits r t)
  refine enter Tryz.func22 Tryz.ntmps22 (h := ?_)
  refine J_seq ?_
  refine J_reg ?_
  refine JL_a noMk (a_box (l := [_, _, _, _, _])) (k := fun r1 hr1 => ?_)
  refine JL_a noMk (a_box (l := [_, _])) (k := fun r2 hr2 => ?_)
  refine JL_q (q_assign) (k := ?_)
  refine JL_nil ?_
  refine JX_seq ?_
  refine J_seq ?_
  refine J_reg ?_
  refine JL_q (q_loadA Tryz.isAgg39 Tryz.sizeOf39) (k := ?_)
  refine JL_inl (args := [(Value.agg [(Value.int .i64 (t.addr)), (Value.int .i64 (t.port))].toArray)]) (c_callA Tryz.call37) Tryz.func37 Tryz.ntmps37 ?_
  refine J_seq ?_
  refine J_reg ?_
  refine JL_a noMk (a_box (l := [_, _])) (k := fun r3 hr3 => ?_)
  refine JL_q (q_assign) (k := ?_)
  refine JL_nil ?_
  refine JX_seq ?_
  refine J_seq ?_
  refine J_seq ?_
  refine J_reg ?_
  refine JL_q (q_loadA Tryz.isAgg39 Tryz.sizeOf39) (k := ?_)
  refine JL_v (args := [(Value.agg [(Value.int .i64 (t.addr)), (Value.int .i64 (t.port))].toArray)]) (c_callA Tryz.call65) (fun w1 hw1 => tPrint_ok w1 (t := t) (hG := hG.ext hw1.ext_out) (hE := hE.ext hw1.ext_out)) (k := ?_)
  have htp_45540 := tPrint_len t
  refine JL_q (q_move) (k := ?_)
  refine JL_q (q_ext) (k := ?_)
  refine JL_q (q_ext) (k := ?_)
  refine JL_q (q_assign) (k := ?_)
  refine JL_q (q_assign) (k := ?_)
  refine JL_nil ?_
  refine JX_seq ?_
  refine J_seq ?_
  refine J_reg ?_
  refine JL_q (q_move) (k := ?_)
  refine JL_q (q_neq) (k := ?_)
  refine JL_nil ?_
  refine JX_seq ?_
  refine J_dec rfl (fun hq1 => ?_) (fun hq1 => ?_)
  · refine J_seq ?_
    refine J_reg ?_
    obtain ⟨Thgl2, fhgl2, hgl2⟩ := hE.v5
    refine JL_q (q_loadB Tryz.isAgg57 hgl2) (k := ?_)
    refine JL_q (q_assign) (k := ?_)
    refine JL_nil ?_
    refine JX_seq ?_
    refine J_ret ?_
    refine JX_seq_ret ?_
    refine JX_retI Tryz.results37 (Res.tmp rfl Res.nil) ?_
    refine JL_q (q_eqS (u := (Value.iface 242 (.pointer (some ea5)))) (v := Value.nilIface) (b := false) (fun w => by kernel_rfl)) (k := ?_)
    refine JL_q (q_move) (k := ?_)
    refine JL_skips 4 rfl ?_
    refine JL_q (q_pickF) (k := ?_)
    refine JL_q (q_assign) (k := ?_)
    refine JL_nil ?_
    refine JX_seq ?_
    refine J_ret ?_
    refine JX_ret Tryz.results22 (Res.tmp rfl Res.nil) (fun w1 hw1 => ?_)
    exact ⟨(by rw [((hF.pos hq1)).eq] <;> first | rfl | (simp only [List.length_set] <;> rfl)), hw1.ext_out⟩
  refine J_skip ?_
  refine JX_seq ?_
  refine J_seq ?_
  refine J_reg ?_
  refine JL_q (q_assign) (k := ?_)
  refine JL_nil ?_
  refine JX_seq ?_
  refine J_ret ?_
  refine JX_retI Tryz.results37 (Res.tmp rfl Res.nil) ?_
  refine JL_q (q_eqS (u := Value.nilIface) (v := Value.nilIface) (b := true) (fun w => by kernel_rfl)) (k := ?_)
  refine JL_q (q_move) (k := ?_)
  refine JL_qg (q_loadA Tryz.isAgg27 Tryz.sizeOf27) (k := ?_)
  refine JL_qg (q_build (cs := [_, _, _, _, _]) Tryz.zeroValue54 PL_54) (k := ?_)
  refine JL_qg (q_loadA Tryz.isAgg39 Tryz.sizeOf39) (k := ?_)
  refine JL_vg (args := [(Value.agg [(Value.bool (r.allow)), (Value.int .i64 (r.pfx.addr)), (Value.int .i64 (r.pfx.bits)), (Value.int .i64 (r.prt.lo)), (Value.int .i64 (r.prt.hi))].toArray), (Value.agg [(Value.int .i64 (t.addr)), (Value.int .i64 (t.port))].toArray)]) (c_callA Tryz.call47) (fun w1 hw1 => aclFitsR_ok w1 (r := r) (t := t)) (k := ?_)
  refine JL_q (q_pickT) (k := ?_)
  refine JL_q (q_assign) (k := ?_)
  refine JL_nil ?_
  refine JX_seq ?_
  refine J_ret ?_
  refine JX_ret Tryz.results22 (Res.tmp rfl Res.nil) (fun w1 hw1 => ?_)
  exact ⟨(by rw [((hF.neg hq1)).eq] <;> first | rfl | (simp only [List.length_set] <;> rfl)), hw1.ext_out⟩

theorem aclParse_ok (w : World) {ea0 : Addr} {ea1 : Addr} {ea2 : Addr} {ea3 : Addr} {ea4 : Addr} {ea5 : Addr} {s : Str} (n_s : s.length ≤ 1000000) (hG : Gl w) (hE : Er w ea0 ea1 ea2 ea3 ea4 ea5) : Val Tryz.prog 14 [(Value.string (bs s))] w (Value.tuple [(Value.agg [(Value.bool (((aclParse s).1.allow))), (Value.int .i64 (((aclParse s).1.pfx.addr))), (Value.int .i64 (((aclParse s).1.pfx.bits))), (Value.int .i64 (((aclParse s).1.prt.lo))), (Value.int .i64 (((aclParse s).1.prt.hi)))].toArray), (Value.int .i64 (((aclParse s).2)))].toArray) := by
  have hF := Is.refl (aclParse s)
  refine enter Tryz.func14 Tryz.ntmps14 (h := ?_)
  refine J_seq ?_
  refine J_reg ?_
  refine JL_a noMk (a_alloc (l := [_, _, _, _, _]) Tryz.zeroValue27) (k := fun r1 hr1 => ?_)
  refine JL_q (q_assign) (k := ?_)
  refine JL_nil ?_
  refine JX_seq ?_
  refine J_seq ?_
  refine J_reg ?_
  refine JL_q (q_move) (k := ?_)
  refine JL_p (args := [(Value.string (bs s))]) (c_callA Tryz.call33) (fun w1 hw1 => wSplit_ok w1 (s := s) (n_s := by first | exact lb | decide) (hG := hG.ext hw1.ext_out) (hE := hE.ext hw1.ext_out)) (k := ?_)
  rintro w1_1 e1_1 w2_1 hw1_1 ⟨a1_1, c1_1, B1_1, he_1, hf_1, ho1_1⟩
  refine ⟨_, (B1_1 ++ ((r1, Obj.cells [(Value.bool (false)), (Value.int .i64 (0)), (Value.int .i64 (0)), (Value.int .i64 (0)), (Value.int .i64 (0))].toArray 27) :: [])), he_1, hw1_1.fresh hf_1, ?_⟩
  have hws_8207 := wSplit_len s
  refine JL_q (q_move) (k := ?_)
  refine JL_q (q_ext) (k := ?_)
  refine JL_q (q_ext) (k := ?_)
  refine JL_q (q_assign) (k := ?_)
  refine JL_q (q_assign) (k := ?_)
  refine JL_nil ?_
  refine JX_seq ?_
  refine J_seq ?_
  refine J_seq ?_
  refine J_reg ?_
  refine JL_q (q_move) (k := ?_)
  refine JL_q (q_neq) (k := ?_)
  refine JL_q (q_move) (k := ?_)
  refine JL_dec 19 rfl (fun hq1 => ?_) (fun hq1 => ?_)
  · refine JL_skips 3 rfl ?_
    refine JL_q (q_pickT) (k := ?_)
    refine JL_nil ?_
    refine JX_seq ?_
    refine J_true rfl ?_
    refine J_seq ?_
    refine J_reg ?_
    refine JL_q (q_build (cs := [_, _, _, _, _]) Tryz.zeroValue27 PL_27) (k := ?_)
    obtain ⟨Thgl2, fhgl2, hgl2⟩ := hE.v3
    refine JL_q (q_loadB Tryz.isAgg57 hgl2) (k := ?_)
    refine JL_inl (args := [(Value.iface 242 (.pointer (some ea3)))]) (c_callA Tryz.call30) Tryz.func30 Tryz.ntmps30 ?_
    refine J_seq ?_
    refine J_reg ?_
    refine JL_q (q_assign) (k := ?_)
    refine JL_nil ?_
    refine JX_seq ?_
    refine J_seq ?_
    refine J_block ?_
    refine J_seq ?_
    refine J_reg ?_
    refine JL_q (q_move) (k := ?_)
    obtain ⟨Thgl3, fhgl3, hgl3⟩ := hE.v2
    refine JL_q (q_loadB Tryz.isAgg57 hgl3) (k := ?_)
    refine JL_v (args := [(Value.iface 242 (.pointer (some ea3))), (Value.iface 242 (.pointer (some ea2)))]) (c_callA Tryz.call54) (fun w1 hw1 => is_other_v w1 hE.n3_2 (hE.ext hw1.ext_out).b3 (hE.ext hw1.ext_out).b2) (k := ?_)
    refine JL_q (q_assign) (k := ?_)
    refine JL_nil ?_
    refine JX_seq ?_
    refine J_false rfl ?_
    refine J_seq ?_
    refine J_reg ?_
    refine JL_q (q_move) (k := ?_)
    obtain ⟨Thgl4, fhgl4, hgl4⟩ := hE.v3
    refine JL_q (q_loadB Tryz.isAgg57 hgl4) (k := ?_)
    refine JL_v (args := [(Value.iface 242 (.pointer (some ea3))), (Value.iface 242 (.pointer (some ea3)))]) (c_callA Tryz.call54) (fun w1 hw1 => is_same_v w1) (k := ?_)
    refine JL_q (q_assign) (k := ?_)
    refine JL_nil ?_
    refine JX_seq ?_
    refine J_true rfl ?_
    refine J_seq ?_
    refine J_reg ?_
    refine JL_q (q_assign) (k := ?_)
    refine JL_nil ?_
    refine JX_seq ?_
    refine J_ret ?_
    refine JX_block_ret ?_
    refine JX_seq_ret ?_
    refine JX_retI Tryz.results30 (Res.tmp rfl Res.nil) ?_
    refine JL_s (w_store (l' := [_, _, _, _, _]) Tryz.sizeOf27) (k := ?_)
    refine JL_q (q_assign) (k := ?_)
    refine JL_nil ?_
    refine JX_seq ?_
    refine J_ret ?_
    refine JX_seq_ret ?_
    refine JX_ret Tryz.results14 (Res.agg Tryz.isAgg27 Tryz.sizeOf27 rfl me rfl (Res.tmp rfl Res.nil)) (fun w1 hw1 => ?_)
    exact ⟨(by rw [((hF.pos hq1)).eq] <;> first | rfl | (simp only [List.length_set] <;> rfl)), hw1.ext_out⟩
  refine JL_qg (q_move) (k := ?_)
  refine JL_qg (q_lenS Tryz.runUnderlying60) (k := ?_)
  refine JL_qg (q_neq) (k := ?_)
  refine JL_q (q_pickF) (k := ?_)
  refine JL_nil ?_
  refine JX_seq ?_
  refine J_dec rfl (fun hq5 => ?_) (fun hq5 => ?_)
  · refine J_seq ?_
    refine J_reg ?_
    refine JL_q (q_build (cs := [_, _, _, _, _]) Tryz.zeroValue27 PL_27) (k := ?_)
    obtain ⟨Thgl6, fhgl6, hgl6⟩ := hE.v3
    refine JL_q (q_loadB Tryz.isAgg57 hgl6) (k := ?_)
    refine JL_inl (args := [(Value.iface 242 (.pointer (some ea3)))]) (c_callA Tryz.call30) Tryz.func30 Tryz.ntmps30 ?_
    refine J_seq ?_
    refine J_reg ?_
    refine JL_q (q_assign) (k := ?_)
    refine JL_nil ?_
    refine JX_seq ?_
    refine J_seq ?_
    refine J_block ?_
    refine J_seq ?_
    refine J_reg ?_
    refine JL_q (q_move) (k := ?_)
    obtain ⟨Thgl7, fhgl7, hgl7⟩ := hE.v2
    refine JL_q (q_loadB Tryz.isAgg57 hgl7) (k := ?_)
    refine JL_v (args := [(Value.iface 242 (.pointer (some ea3))), (Value.iface 242 (.pointer (some ea2)))]) (c_callA Tryz.call54) (fun w1 hw1 => is_other_v w1 hE.n3_2 (hE.ext hw1.ext_out).b3 (hE.ext hw1.ext_out).b2) (k := ?_)
    refine JL_q (q_assign) (k := ?_)
    refine JL_nil ?_
    refine JX_seq ?_
    refine J_false rfl ?_
    refine J_seq ?_
    refine J_reg ?_
    refine JL_q (q_move) (k := ?_)
    obtain ⟨Thgl8, fhgl8, hgl8⟩ := hE.v3
    refine JL_q (q_loadB Tryz.isAgg57 hgl8) (k := ?_)
    refine JL_v (args := [(Value.iface 242 (.pointer (some ea3))), (Value.iface 242 (.pointer (some ea3)))]) (c_callA Tryz.call54) (fun w1 hw1 => is_same_v w1) (k := ?_)
    refine JL_q (q_assign) (k := ?_)
    refine JL_nil ?_
    refine JX_seq ?_
    refine J_true rfl ?_
    refine J_seq ?_
    refine J_reg ?_
    refine JL_q (q_assign) (k := ?_)
    refine JL_nil ?_
    refine JX_seq ?_
    refine J_ret ?_
    refine JX_block_ret ?_
    refine JX_seq_ret ?_
    refine JX_retI Tryz.results30 (Res.tmp rfl Res.nil) ?_
    refine JL_s (w_store (l' := [_, _, _, _, _]) Tryz.sizeOf27) (k := ?_)
    refine JL_q (q_assign) (k := ?_)
    refine JL_nil ?_
    refine JX_seq ?_
    refine J_ret ?_
    refine JX_seq_ret ?_
    refine JX_ret Tryz.results14 (Res.agg Tryz.isAgg27 Tryz.sizeOf27 rfl me rfl (Res.tmp rfl Res.nil)) (fun w1 hw1 => ?_)
    exact ⟨(by rw [(((hF.neg hq1).pos hq5)).eq] <;> first | rfl | (simp only [List.length_set] <;> rfl)), hw1.ext_out⟩
  refine J_skip ?_
  refine JX_seq ?_
  refine J_seq ?_
  refine J_reg ?_
  refine JL_q (q_move) (k := ?_)
  refine JL_q (q_idx (n := (wSplit s).1.length) Tryz.runUnderlying60 Tryz.sizeOf9 1 (ho1_1.slj eS_ok) (gD (by first | exact ix)) (by first | rfl | simp)) (k := ?_)
  refine JL_q (q_loadE Tryz.isAgg9 1 0 (ho1_1.slj eS_ok) (gD (by first | exact ix))) (k := ?_)
  refine JL_v (args := [(Value.string (bs (((wSplit s).1).getD 1 default)))]) (c_callA Tryz.call34) (fun w1 hw1 => aParsePrefix_ok w1 (s := (((wSplit s).1).getD 1 default)) (n_s := by first | exact lb | decide) (hG := hG.ext hw1.ext_out) (hE := hE.ext hw1.ext_out)) (k := ?_)
  refine JL_q (q_move) (k := ?_)
  refine JL_q (q_ext) (k := ?_)
  refine JL_q (q_ext) (k := ?_)
  refine JL_a noMk (a_alloc (l := [_, _]) Tryz.zeroValue23) (k := fun r2 hr2 => ?_)
  refine JL_s (w_store (l' := [_, _]) Tryz.sizeOf23) (k := ?_)
  refine JL_q (q_assign) (k := ?_)
  refine JL_nil ?_
  refine JX_seq ?_
  refine J_seq ?_
  refine J_reg ?_
  refine JL_q (q_move) (k := ?_)
  refine JL_q (q_idx (n := (wSplit s).1.length) Tryz.runUnderlying60 Tryz.sizeOf9 2 (ho1_1.slj eS_ok) (gD (by first | exact ix)) (by first | rfl | simp)) (k := ?_)
  refine JL_q (q_loadE Tryz.isAgg9 2 0 (ho1_1.slj eS_ok) (gD (by first | exact ix))) (k := ?_)
  refine JL_v (args := [(Value.string (bs (((wSplit s).1).getD 2 default)))]) (c_callA Tryz.call35) (fun w1 hw1 => pParse_ok w1 (s := (((wSplit s).1).getD 2 default)) (n_s := by first | exact lb | decide) (hG := hG.ext hw1.ext_out) (hE := hE.ext hw1.ext_out)) (k := ?_)
  refine JL_q (q_move) (k := ?_)
  refine JL_q (q_ext) (k := ?_)
  refine JL_q (q_ext) (k := ?_)
  refine JL_a noMk (a_alloc (l := [_, _]) Tryz.zeroValue25) (k := fun r3 hr3 => ?_)
  refine JL_s (w_store (l' := [_, _]) Tryz.sizeOf25) (k := ?_)
  refine JL_q (q_assign) (k := ?_)
  refine JL_nil ?_
  refine JX_seq ?_
  refine J_seq ?_
  refine J_plan mixed 8 [(true, 0), (true, 1), (true, 2), (true, 3), (true, 4), (true, 5), (true, 6), (false, 7)] (by kernel_rfl) ?_
  refine JD_q (q_move) (k := ?_)
  refine JD_q (q_idx (n := (wSplit s).1.length) Tryz.runUnderlying60 Tryz.sizeOf9 0 (ho1_1.slj eS_ok) (gD (by first | exact ix)) (by first | rfl | simp)) (k := ?_)
  refine JD_q (q_loadE Tryz.isAgg9 0 0 (ho1_1.slj eS_ok) (gD (by first | exact ix))) (k := ?_)
  refine JD_q (q_eqT) (k := ?_)
  refine JD_q (q_loadA Tryz.isAgg23 Tryz.sizeOf23) (k := ?_)
  refine JD_q (q_loadA Tryz.isAgg25 Tryz.sizeOf25) (k := ?_)
  refine JD_q (q_build (cs := [_, _, _, _, _]) Tryz.zeroValue27 PL_27) (k := ?_)
  refine JD_a noMk (a_alloc (l := [_, _, _, _, _]) Tryz.zeroValue27) (k := fun r4 hr4 => ?_)
  refine JD_nil0 ?_
  refine JL_s (w_store (l' := [_, _, _, _, _]) Tryz.sizeOf27) (k := ?_)
  refine JL_nil ?_
  refine JX_seq ?_
  refine J_seq ?_
  refine J_seq ?_
  refine J_reg ?_
  refine JL_q (q_loadA Tryz.isAgg27 Tryz.sizeOf27) (k := ?_)
  refine JL_v (args := [(Value.agg [(Value.bool (decide ((((wSplit s).1).getD 0 default) = ([97, 108, 108, 111, 119] : Str)))), (Value.int .i64 (((aParsePrefix (((wSplit s).1).getD 1 default)).1.addr))), (Value.int .i64 (((aParsePrefix (((wSplit s).1).getD 1 default)).1.bits))), (Value.int .i64 (((pParse (((wSplit s).1).getD 2 default)).1.lo))), (Value.int .i64 (((pParse (((wSplit s).1).getD 2 default)).1.hi)))].toArray)]) (c_callA Tryz.call13) (fun w1 hw1 => aclPrint_ok w1 (r := (Rule.mk (decide ((((wSplit s).1).getD 0 default) = ([97, 108, 108, 111, 119] : Str))) ((aParsePrefix (((wSplit s).1).getD 1 default)).1) ((pParse (((wSplit s).1).getD 2 default)).1))) (hG := hG.ext hw1.ext_out) (hE := hE.ext hw1.ext_out)) (k := ?_)
  have hap_95072 := aclPrint_len (Rule.mk (decide ((((wSplit s).1).getD 0 default) = ([97, 108, 108, 111, 119] : Str))) ((aParsePrefix (((wSplit s).1).getD 1 default)).1) ((pParse (((wSplit s).1).getD 2 default)).1))
  refine JL_q (q_move) (k := ?_)
  refine JL_q (q_ext) (k := ?_)
  refine JL_q (q_ext) (k := ?_)
  refine JL_q (q_assign) (k := ?_)
  refine JL_q (q_assign) (k := ?_)
  refine JL_nil ?_
  refine JX_seq ?_
  refine J_seq ?_
  refine J_reg ?_
  refine JL_q (q_move) (k := ?_)
  refine JL_q (q_neq) (k := ?_)
  refine JL_q (q_move) (k := ?_)
  refine JL_dec 55 rfl (fun hq9 => ?_) (fun hq9 => ?_)
  · refine JL_skips 2 rfl ?_
    refine JL_q (q_pickT) (k := ?_)
    refine JL_q (q_move) (k := ?_)
    refine JL_skips 2 rfl ?_
    refine JL_q (q_pickT) (k := ?_)
    refine JL_q (q_move) (k := ?_)
    refine JL_skips 3 rfl ?_
    refine JL_q (q_pickT) (k := ?_)
    refine JL_nil ?_
    refine JX_seq ?_
    refine J_true rfl ?_
    refine J_seq ?_
    refine J_reg ?_
    refine JL_q (q_build (cs := [_, _, _, _, _]) Tryz.zeroValue27 PL_27) (k := ?_)
    obtain ⟨Thgl10, fhgl10, hgl10⟩ := hE.v3
    refine JL_q (q_loadB Tryz.isAgg57 hgl10) (k := ?_)
    refine JL_inl (args := [(Value.iface 242 (.pointer (some ea3)))]) (c_callA Tryz.call30) Tryz.func30 Tryz.ntmps30 ?_
    refine J_seq ?_
    refine J_reg ?_
    refine JL_q (q_assign) (k := ?_)
    refine JL_nil ?_
    refine JX_seq ?_
    refine J_seq ?_
    refine J_block ?_
    refine J_seq ?_
    refine J_reg ?_
    refine JL_q (q_move) (k := ?_)
    obtain ⟨Thgl11, fhgl11, hgl11⟩ := hE.v2
    refine JL_q (q_loadB Tryz.isAgg57 hgl11) (k := ?_)
    refine JL_v (args := [(Value.iface 242 (.pointer (some ea3))), (Value.iface 242 (.pointer (some ea2)))]) (c_callA Tryz.call54) (fun w1 hw1 => is_other_v w1 hE.n3_2 (hE.ext hw1.ext_out).b3 (hE.ext hw1.ext_out).b2) (k := ?_)
    refine JL_q (q_assign) (k := ?_)
    refine JL_nil ?_
    refine JX_seq ?_
    refine J_false rfl ?_
    refine J_seq ?_
    refine J_reg ?_
    refine JL_q (q_move) (k := ?_)
    obtain ⟨Thgl12, fhgl12, hgl12⟩ := hE.v3
    refine JL_q (q_loadB Tryz.isAgg57 hgl12) (k := ?_)
    refine JL_v (args := [(Value.iface 242 (.pointer (some ea3))), (Value.iface 242 (.pointer (some ea3)))]) (c_callA Tryz.call54) (fun w1 hw1 => is_same_v w1) (k := ?_)
    refine JL_q (q_assign) (k := ?_)
    refine JL_nil ?_
    refine JX_seq ?_
    refine J_true rfl ?_
    refine J_seq ?_
    refine J_reg ?_
    refine JL_q (q_assign) (k := ?_)
    refine JL_nil ?_
    refine JX_seq ?_
    refine J_ret ?_
    refine JX_block_ret ?_
    refine JX_seq_ret ?_
    refine JX_retI Tryz.results30 (Res.tmp rfl Res.nil) ?_
    refine JL_s (w_store (l' := [_, _, _, _, _]) Tryz.sizeOf27) (k := ?_)
    refine JL_q (q_assign) (k := ?_)
    refine JL_nil ?_
    refine JX_seq ?_
    refine J_ret ?_
    refine JX_seq_ret ?_
    refine JX_ret Tryz.results14 (Res.agg Tryz.isAgg27 Tryz.sizeOf27 rfl me rfl (Res.tmp rfl Res.nil)) (fun w1 hw1 => ?_)
    exact ⟨(by rw [((((hF.neg hq1).neg hq5).pos hq9)).eq] <;> first | rfl | (simp only [List.length_set] <;> rfl)), hw1.ext_out⟩
  refine JL_qg (q_move) (k := ?_)
  refine JL_qg (q_neq) (k := ?_)
  refine JL_q (q_pickF) (k := ?_)
  refine JL_q (q_move) (k := ?_)
  refine JL_dec 59 rfl (fun hq13 => ?_) (fun hq13 => ?_)
  · refine JL_skips 2 rfl ?_
    refine JL_q (q_pickT) (k := ?_)
    refine JL_q (q_move) (k := ?_)
    refine JL_skips 3 rfl ?_
    refine JL_q (q_pickT) (k := ?_)
    refine JL_nil ?_
    refine JX_seq ?_
    refine J_true rfl ?_
    refine J_seq ?_
    refine J_reg ?_
    refine JL_q (q_build (cs := [_, _, _, _, _]) Tryz.zeroValue27 PL_27) (k := ?_)
    obtain ⟨Thgl14, fhgl14, hgl14⟩ := hE.v3
    refine JL_q (q_loadB Tryz.isAgg57 hgl14) (k := ?_)
    refine JL_inl (args := [(Value.iface 242 (.pointer (some ea3)))]) (c_callA Tryz.call30) Tryz.func30 Tryz.ntmps30 ?_
    refine J_seq ?_
    refine J_reg ?_
    refine JL_q (q_assign) (k := ?_)
    refine JL_nil ?_
    refine JX_seq ?_
    refine J_seq ?_
    refine J_block ?_
    refine J_seq ?_
    refine J_reg ?_
    refine JL_q (q_move) (k := ?_)
    obtain ⟨Thgl15, fhgl15, hgl15⟩ := hE.v2
    refine JL_q (q_loadB Tryz.isAgg57 hgl15) (k := ?_)
    refine JL_v (args := [(Value.iface 242 (.pointer (some ea3))), (Value.iface 242 (.pointer (some ea2)))]) (c_callA Tryz.call54) (fun w1 hw1 => is_other_v w1 hE.n3_2 (hE.ext hw1.ext_out).b3 (hE.ext hw1.ext_out).b2) (k := ?_)
    refine JL_q (q_assign) (k := ?_)
    refine JL_nil ?_
    refine JX_seq ?_
    refine J_false rfl ?_
    refine J_seq ?_
    refine J_reg ?_
    refine JL_q (q_move) (k := ?_)
    obtain ⟨Thgl16, fhgl16, hgl16⟩ := hE.v3
    refine JL_q (q_loadB Tryz.isAgg57 hgl16) (k := ?_)
    refine JL_v (args := [(Value.iface 242 (.pointer (some ea3))), (Value.iface 242 (.pointer (some ea3)))]) (c_callA Tryz.call54) (fun w1 hw1 => is_same_v w1) (k := ?_)
    refine JL_q (q_assign) (k := ?_)
    refine JL_nil ?_
    refine JX_seq ?_
    refine J_true rfl ?_
    refine J_seq ?_
    refine J_reg ?_
    refine JL_q (q_assign) (k := ?_)
    refine JL_nil ?_
    refine JX_seq ?_
    refine J_ret ?_
    refine JX_block_ret ?_
    refine JX_seq_ret ?_
    refine JX_retI Tryz.results30 (Res.tmp rfl Res.nil) ?_
    refine JL_s (w_store (l' := [_, _, _, _, _]) Tryz.sizeOf27) (k := ?_)
    refine JL_q (q_assign) (k := ?_)
    refine JL_nil ?_
    refine JX_seq ?_
    refine J_ret ?_
    refine JX_seq_ret ?_
    refine JX_ret Tryz.results14 (Res.agg Tryz.isAgg27 Tryz.sizeOf27 rfl me rfl (Res.tmp rfl Res.nil)) (fun w1 hw1 => ?_)
    exact ⟨(by rw [(((((hF.neg hq1).neg hq5).neg hq9).pos hq13)).eq] <;> first | rfl | (simp only [List.length_set] <;> rfl)), hw1.ext_out⟩
  refine JL_qg (q_move) (k := ?_)
  refine JL_qg (q_neq) (k := ?_)
  refine JL_q (q_pickF) (k := ?_)
  refine JL_q (q_move) (k := ?_)
  refine JL_dec 63 rfl (fun hq17 => ?_) (fun hq17 => ?_)
  · refine JL_skips 3 rfl ?_
    refine JL_q (q_pickT) (k := ?_)
    refine JL_nil ?_
    refine JX_seq ?_
    refine J_true rfl ?_
    refine J_seq ?_
    refine J_reg ?_
    refine JL_q (q_build (cs := [_, _, _, _, _]) Tryz.zeroValue27 PL_27) (k := ?_)
    obtain ⟨Thgl18, fhgl18, hgl18⟩ := hE.v3
    refine JL_q (q_loadB Tryz.isAgg57 hgl18) (k := ?_)
    refine JL_inl (args := [(Value.iface 242 (.pointer (some ea3)))]) (c_callA Tryz.call30) Tryz.func30 Tryz.ntmps30 ?_
    refine J_seq ?_
    refine J_reg ?_
    refine JL_q (q_assign) (k := ?_)
    refine JL_nil ?_
    refine JX_seq ?_
    refine J_seq ?_
    refine J_block ?_
    refine J_seq ?_
    refine J_reg ?_
    refine JL_q (q_move) (k := ?_)
    obtain ⟨Thgl19, fhgl19, hgl19⟩ := hE.v2
    refine JL_q (q_loadB Tryz.isAgg57 hgl19) (k := ?_)
    refine JL_v (args := [(Value.iface 242 (.pointer (some ea3))), (Value.iface 242 (.pointer (some ea2)))]) (c_callA Tryz.call54) (fun w1 hw1 => is_other_v w1 hE.n3_2 (hE.ext hw1.ext_out).b3 (hE.ext hw1.ext_out).b2) (k := ?_)
    refine JL_q (q_assign) (k := ?_)
    refine JL_nil ?_
    refine JX_seq ?_
    refine J_false rfl ?_
    refine J_seq ?_
    refine J_reg ?_
    refine JL_q (q_move) (k := ?_)
    obtain ⟨Thgl20, fhgl20, hgl20⟩ := hE.v3
    refine JL_q (q_loadB Tryz.isAgg57 hgl20) (k := ?_)
    refine JL_v (args := [(Value.iface 242 (.pointer (some ea3))), (Value.iface 242 (.pointer (some ea3)))]) (c_callA Tryz.call54) (fun w1 hw1 => is_same_v w1) (k := ?_)
    refine JL_q (q_assign) (k := ?_)
    refine JL_nil ?_
    refine JX_seq ?_
    refine J_true rfl ?_
    refine J_seq ?_
    refine J_reg ?_
    refine JL_q (q_assign) (k := ?_)
    refine JL_nil ?_
    refine JX_seq ?_
    refine J_ret ?_
    refine JX_block_ret ?_
    refine JX_seq_ret ?_
    refine JX_retI Tryz.results30 (Res.tmp rfl Res.nil) ?_
    refine JL_s (w_store (l' := [_, _, _, _, _]) Tryz.sizeOf27) (k := ?_)
    refine JL_q (q_assign) (k := ?_)
    refine JL_nil ?_
    refine JX_seq ?_
    refine J_ret ?_
    refine JX_seq_ret ?_
    refine JX_ret Tryz.results14 (Res.agg Tryz.isAgg27 Tryz.sizeOf27 rfl me rfl (Res.tmp rfl Res.nil)) (fun w1 hw1 => ?_)
    exact ⟨(by rw [((((((hF.neg hq1).neg hq5).neg hq9).neg hq13).pos hq17)).eq] <;> first | rfl | (simp only [List.length_set] <;> rfl)), hw1.ext_out⟩
  refine JL_qg (q_move) (k := ?_)
  refine JL_qg (q_move) (k := ?_)
  refine JL_qg (q_neT) (k := ?_)
  refine JL_q (q_pickF) (k := ?_)
  refine JL_nil ?_
  refine JX_seq ?_
  refine J_dec rfl (fun hq21 => ?_) (fun hq21 => ?_)
  rotate_left
  · refine J_skip ?_
    refine JX_seq ?_
    refine J_seq ?_
    refine J_reg ?_
    refine JL_q (q_loadA Tryz.isAgg27 Tryz.sizeOf27) (k := ?_)
    refine JL_s (w_store (l' := [_, _, _, _, _]) Tryz.sizeOf27) (k := ?_)
    refine JL_q (q_assign) (k := ?_)
    refine JL_nil ?_
    refine JX_seq ?_
    refine J_ret ?_
    refine JX_ret Tryz.results14 (Res.agg Tryz.isAgg27 Tryz.sizeOf27 rfl me rfl (Res.tmp rfl Res.nil)) (fun w1 hw1 => ?_)
    exact ⟨(by rw [(((((((hF.neg hq1).neg hq5).neg hq9).neg hq13).neg hq17).neg hq21)).eq] <;> first | rfl | (simp only [List.length_set] <;> rfl)), hw1.ext_out⟩
  refine J_seq ?_
  refine J_reg ?_
  refine JL_q (q_build (cs := [_, _, _, _, _]) Tryz.zeroValue27 PL_27) (k := ?_)
  obtain ⟨Thgl22, fhgl22, hgl22⟩ := hE.v3
  refine JL_q (q_loadB Tryz.isAgg57 hgl22) (k := ?_)
  refine JL_inl (args := [(Value.iface 242 (.pointer (some ea3)))]) (c_callA Tryz.call30) Tryz.func30 Tryz.ntmps30 ?_
  refine J_seq ?_
  refine J_reg ?_
  refine JL_q (q_assign) (k := ?_)
  refine JL_nil ?_
  refine JX_seq ?_
  refine J_seq ?_
  refine J_block ?_
  refine J_seq ?_
  refine J_reg ?_
  refine JL_q (q_move) (k := ?_)
  obtain ⟨Thgl23, fhgl23, hgl23⟩ := hE.v2
  refine JL_q (q_loadB Tryz.isAgg57 hgl23) (k := ?_)
  refine JL_v (args := [(Value.iface 242 (.pointer (some ea3))), (Value.iface 242 (.pointer (some ea2)))]) (c_callA Tryz.call54) (fun w1 hw1 => is_other_v w1 hE.n3_2 (hE.ext hw1.ext_out).b3 (hE.ext hw1.ext_out).b2) (k := ?_)
  refine JL_q (q_assign) (k := ?_)
  refine JL_nil ?_
  refine JX_seq ?_
  refine J_false rfl ?_
  refine J_seq ?_
  refine J_reg ?_
  refine JL_q (q_move) (k := ?_)
  obtain ⟨Thgl24, fhgl24, hgl24⟩ := hE.v3
  refine JL_q (q_loadB Tryz.isAgg57 hgl24) (k := ?_)
  refine JL_v (args := [(Value.iface 242 (.pointer (some ea3))), (Value.iface 242 (.pointer (some ea3)))]) (c_callA Tryz.call54) (fun w1 hw1 => is_same_v w1) (k := ?_)
  refine JL_q (q_assign) (k := ?_)
  refine JL_nil ?_
  refine JX_seq ?_
  refine J_true rfl ?_
  refine J_seq ?_
  refine J_reg ?_
  refine JL_q (q_assign) (k := ?_)
  refine JL_nil ?_
  refine JX_seq ?_
  refine J_ret ?_
  refine JX_block_ret ?_
  refine JX_seq_ret ?_
  refine JX_retI Tryz.results30 (Res.tmp rfl Res.nil) ?_
  refine JL_s (w_store (l' := [_, _, _, _, _]) Tryz.sizeOf27) (k := ?_)
  refine JL_q (q_assign) (k := ?_)
  refine JL_nil ?_
  refine JX_seq ?_
  refine J_ret ?_
  refine JX_seq_ret ?_
  refine JX_ret Tryz.results14 (Res.agg Tryz.isAgg27 Tryz.sizeOf27 rfl me rfl (Res.tmp rfl Res.nil)) (fun w1 hw1 => ?_)
  exact ⟨(by rw [(((((((hF.neg hq1).neg hq5).neg hq9).neg hq13).neg hq17).pos hq21)).eq] <;> first | rfl | (simp only [List.length_set] <;> rfl)), hw1.ext_out⟩

theorem aclDecide_ok (w : World) {l_a : Option Addr} {l_c : Nat} {ea0 : Addr} {ea1 : Addr} {ea2 : Addr} {ea3 : Addr} {ea4 : Addr} {ea5 : Addr} {l : List Rule} {t : Target} (h_l : Sl w eRule 5 l_a l) (n_l : l.length ≤ 1000) (hG : Gl w) (hE : Er w ea0 ea1 ea2 ea3 ea4 ea5) : Val Tryz.prog 17 [(Value.slice (l_a) (l.length) (l_c)), (Value.agg [(Value.int .i64 (t.addr)), (Value.int .i64 (t.port))].toArray)] w (Value.tuple [(Value.bool (((aclDecide l t).1))), (Value.int .i64 (((aclDecide l t).2.1))), (Value.int .i64 (((aclDecide l t).2.2)))].toArray) := by
  have hF := Is.refl (aclDecide l t)
  refine enter Tryz.func17 Tryz.ntmps17 (h := ?_)
  refine J_seq ?_
  refine J_reg ?_
  refine JL_a noMk (a_box (l := [_, _])) (k := fun r1 hr1 => ?_)
  refine JL_q (q_assign) (k := ?_)
  refine JL_q (q_assign) (k := ?_)
  refine JL_q (q_assign) (k := ?_)
  refine JL_nil ?_
  refine JX_seq ?_
  refine J_seq ?_
  refine J_seq ?_
  refine J_reg ?_
  refine JL_q (q_move) (k := ?_)
  refine JL_v (args := [(Value.slice (l_a) (l.length) (l_c))]) (c_callA Tryz.call15) (fun w1 hw1 => aclRight_ok w1 (l := l) (h_l := (SlJ.of_base h_l) w1 hw1) (n_l := by first | exact lb | decide)) (k := ?_)
  refine JL_q (q_not) (k := ?_)
  refine JL_nil ?_
  refine JX_seq ?_
  refine J_cond rfl (fun hq1 => ?_) (fun hq1 => ?_)
  · refine J_seq ?_
    refine J_reg ?_
    obtain ⟨Thgl2, fhgl2, hgl2⟩ := hE.v2
    refine JL_q (q_loadB Tryz.isAgg57 hgl2) (k := ?_)
    refine JL_inl (args := [(Value.iface 242 (.pointer (some ea2)))]) (c_callA Tryz.call30) Tryz.func30 Tryz.ntmps30 ?_
    refine J_seq ?_
    refine J_reg ?_
    refine JL_q (q_assign) (k := ?_)
    refine JL_nil ?_
    refine JX_seq ?_
    refine J_seq ?_
    refine J_block ?_
    refine J_seq ?_
    refine J_reg ?_
    refine JL_q (q_move) (k := ?_)
    obtain ⟨Thgl3, fhgl3, hgl3⟩ := hE.v2
    refine JL_q (q_loadB Tryz.isAgg57 hgl3) (k := ?_)
    refine JL_v (args := [(Value.iface 242 (.pointer (some ea2))), (Value.iface 242 (.pointer (some ea2)))]) (c_callA Tryz.call54) (fun w1 hw1 => is_same_v w1) (k := ?_)
    refine JL_q (q_assign) (k := ?_)
    refine JL_nil ?_
    refine JX_seq ?_
    refine J_true rfl ?_
    refine J_seq ?_
    refine J_reg ?_
    refine JL_q (q_assign) (k := ?_)
    refine JL_nil ?_
    refine JX_seq ?_
    refine J_ret ?_
    refine JX_block_ret ?_
    refine JX_seq_ret ?_
    refine JX_retI Tryz.results30 (Res.tmp rfl Res.nil) ?_
    refine JL_q (q_assign) (k := ?_)
    refine JL_q (q_assign) (k := ?_)
    refine JL_q (q_assign) (k := ?_)
    refine JL_nil ?_
    refine JX_seq ?_
    refine J_ret ?_
    refine JX_seq_ret ?_
    refine JX_ret Tryz.results17 (Res.tmp rfl (Res.tmp rfl (Res.tmp rfl Res.nil))) (fun w1 hw1 => ?_)
    exact ⟨(by rw [((hF.t hq1)).eq] <;> first | rfl | (simp only [List.length_set] <;> rfl)), hw1.ext_out⟩
  refine J_skip ?_
  refine JX_seq ?_
  refine J_seq ?_
  refine J_seq ?_
  refine J_reg ?_
  refine JL_q (q_loadA Tryz.isAgg39 Tryz.sizeOf39) (k := ?_)
  refine JL_inl (args := [(Value.agg [(Value.int .i64 (t.addr)), (Value.int .i64 (t.port))].toArray)]) (c_callA Tryz.call37) Tryz.func37 Tryz.ntmps37 ?_
  refine J_seq ?_
  refine J_reg ?_
  refine JL_a noMk (a_box (l := [_, _])) (k := fun r2 hr2 => ?_)
  refine JL_q (q_assign) (k := ?_)
  refine JL_nil ?_
  refine JX_seq ?_
  refine J_seq ?_
  refine J_seq ?_
  refine J_reg ?_
  refine JL_q (q_loadA Tryz.isAgg39 Tryz.sizeOf39) (k := ?_)
  refine JL_v (args := [(Value.agg [(Value.int .i64 (t.addr)), (Value.int .i64 (t.port))].toArray)]) (c_callA Tryz.call65) (fun w1 hw1 => tPrint_ok w1 (t := t) (hG := hG.ext hw1.ext_out) (hE := hE.ext hw1.ext_out)) (k := ?_)
  have htp_45540 := tPrint_len t
  refine JL_q (q_move) (k := ?_)
  refine JL_q (q_ext) (k := ?_)
  refine JL_q (q_ext) (k := ?_)
  refine JL_q (q_assign) (k := ?_)
  refine JL_q (q_assign) (k := ?_)
  refine JL_nil ?_
  refine JX_seq ?_
  refine J_seq ?_
  refine J_reg ?_
  refine JL_q (q_move) (k := ?_)
  refine JL_q (q_neq) (k := ?_)
  refine JL_nil ?_
  refine JX_seq ?_
  refine J_dec rfl (fun hq4 => ?_) (fun hq4 => ?_)
  · refine J_seq ?_
    refine J_reg ?_
    obtain ⟨Thgl5, fhgl5, hgl5⟩ := hE.v5
    refine JL_q (q_loadB Tryz.isAgg57 hgl5) (k := ?_)
    refine JL_q (q_assign) (k := ?_)
    refine JL_nil ?_
    refine JX_seq ?_
    refine J_ret ?_
    refine JX_seq_ret ?_
    refine JX_retI Tryz.results37 (Res.tmp rfl Res.nil) ?_
    refine JL_q (q_assign) (k := ?_)
    refine JL_nil ?_
    refine JX_seq ?_
    refine J_seq ?_
    refine J_reg ?_
    refine JL_q (q_move) (k := ?_)
    refine JL_q (q_neS (u := (Value.iface 242 (.pointer (some ea5)))) (v := Value.nilIface) (b := true) (fun w => by kernel_rfl)) (k := ?_)
    refine JL_nil ?_
    refine JX_seq ?_
    refine J_true rfl ?_
    refine J_seq ?_
    refine J_reg ?_
    refine JL_q (q_move) (k := ?_)
    refine JL_inl (args := [(Value.iface 242 (.pointer (some ea5)))]) (c_callA Tryz.call30) Tryz.func30 Tryz.ntmps30 ?_
    refine J_seq ?_
    refine J_reg ?_
    refine JL_q (q_assign) (k := ?_)
    refine JL_nil ?_
    refine JX_seq ?_
    refine J_seq ?_
    refine J_block ?_
    refine J_seq ?_
    refine J_reg ?_
    refine JL_q (q_move) (k := ?_)
    obtain ⟨Thgl6, fhgl6, hgl6⟩ := hE.v2
    refine JL_q (q_loadB Tryz.isAgg57 hgl6) (k := ?_)
    refine JL_v (args := [(Value.iface 242 (.pointer (some ea5))), (Value.iface 242 (.pointer (some ea2)))]) (c_callA Tryz.call54) (fun w1 hw1 => is_other_v w1 hE.n5_2 (hE.ext hw1.ext_out).b5 (hE.ext hw1.ext_out).b2) (k := ?_)
    refine JL_q (q_assign) (k := ?_)
    refine JL_nil ?_
    refine JX_seq ?_
    refine J_false rfl ?_
    refine J_seq ?_
    refine J_reg ?_
    refine JL_q (q_move) (k := ?_)
    obtain ⟨Thgl7, fhgl7, hgl7⟩ := hE.v3
    refine JL_q (q_loadB Tryz.isAgg57 hgl7) (k := ?_)
    refine JL_v (args := [(Value.iface 242 (.pointer (some ea5))), (Value.iface 242 (.pointer (some ea3)))]) (c_callA Tryz.call54) (fun w1 hw1 => is_other_v w1 hE.n5_3 (hE.ext hw1.ext_out).b5 (hE.ext hw1.ext_out).b3) (k := ?_)
    refine JL_q (q_assign) (k := ?_)
    refine JL_nil ?_
    refine JX_seq ?_
    refine J_false rfl ?_
    refine J_seq ?_
    refine J_reg ?_
    refine JL_q (q_move) (k := ?_)
    obtain ⟨Thgl8, fhgl8, hgl8⟩ := hE.v4
    refine JL_q (q_loadB Tryz.isAgg57 hgl8) (k := ?_)
    refine JL_v (args := [(Value.iface 242 (.pointer (some ea5))), (Value.iface 242 (.pointer (some ea4)))]) (c_callA Tryz.call54) (fun w1 hw1 => is_other_v w1 hE.n5_4 (hE.ext hw1.ext_out).b5 (hE.ext hw1.ext_out).b4) (k := ?_)
    refine JL_q (q_assign) (k := ?_)
    refine JL_nil ?_
    refine JX_seq ?_
    refine J_false rfl ?_
    refine J_seq ?_
    refine J_reg ?_
    refine JL_q (q_move) (k := ?_)
    obtain ⟨Thgl9, fhgl9, hgl9⟩ := hE.v5
    refine JL_q (q_loadB Tryz.isAgg57 hgl9) (k := ?_)
    refine JL_v (args := [(Value.iface 242 (.pointer (some ea5))), (Value.iface 242 (.pointer (some ea5)))]) (c_callA Tryz.call54) (fun w1 hw1 => is_same_v w1) (k := ?_)
    refine JL_q (q_assign) (k := ?_)
    refine JL_nil ?_
    refine JX_seq ?_
    refine J_true rfl ?_
    refine J_seq ?_
    refine J_reg ?_
    refine JL_q (q_assign) (k := ?_)
    refine JL_nil ?_
    refine JX_seq ?_
    refine J_ret ?_
    refine JX_block_ret ?_
    refine JX_seq_ret ?_
    refine JX_retI Tryz.results30 (Res.tmp rfl Res.nil) ?_
    refine JL_q (q_assign) (k := ?_)
    refine JL_q (q_assign) (k := ?_)
    refine JL_q (q_assign) (k := ?_)
    refine JL_nil ?_
    refine JX_seq ?_
    refine J_ret ?_
    refine JX_seq_ret ?_
    refine JX_ret Tryz.results17 (Res.tmp rfl (Res.tmp rfl (Res.tmp rfl Res.nil))) (fun w1 hw1 => ?_)
    exact ⟨(by rw [(((hF.f hq1).pos hq4)).eq] <;> first | rfl | (simp only [List.length_set] <;> rfl)), hw1.ext_out⟩
  refine J_skip ?_
  refine JX_seq ?_
  refine J_seq ?_
  refine J_reg ?_
  refine JL_q (q_assign) (k := ?_)
  refine JL_nil ?_
  refine JX_seq ?_
  refine J_ret ?_
  refine JX_retI Tryz.results37 (Res.tmp rfl Res.nil) ?_
  refine JL_q (q_assign) (k := ?_)
  refine JL_nil ?_
  refine JX_seq ?_
  refine J_seq ?_
  refine J_reg ?_
  refine JL_q (q_move) (k := ?_)
  refine JL_q (q_neS (u := Value.nilIface) (v := Value.nilIface) (b := false) (fun w => by kernel_rfl)) (k := ?_)
  refine JL_nil ?_
  refine JX_seq ?_
  refine J_false rfl ?_
  refine J_skip ?_
  refine JX_seq ?_
  refine J_seq ?_
  refine J_reg ?_
  refine JL_q (q_move) (k := ?_)
  refine JL_q (q_loadA Tryz.isAgg39 Tryz.sizeOf39) (k := ?_)
  refine JL_inlM (args := [(Value.slice (l_a) (l.length) (l_c)), (Value.agg [(Value.int .i64 (t.addr)), (Value.int .i64 (t.port))].toArray)]) (c_callA Tryz.call38) Tryz.func38 Tryz.ntmps38 ?_
  refine J_seq ?_
  refine J_reg ?_
  refine JL_a noMk (a_box (l := [_, _])) (k := fun r3 hr3 => ?_)
  refine JL_q (q_assign) (k := ?_)
  refine JL_nil ?_
  refine JX_seq ?_
  refine J_seq ?_
  refine J_reg ?_
  refine JL_q (q_build (cs := [_]) Tryz.zeroValue107 PL_107) (k := ?_)
  refine JL_a noMk (a_box (l := [_])) (k := fun r4 hr4 => ?_)
  refine JL_a noMk (a_alloc (l := [_]) Tryz.zeroValue103) (k := fun r5 hr5 => ?_)
  refine JL_s (w_store (l' := [_]) Tryz.sizeOf103) (k := ?_)
  refine JL_nil ?_
  refine JX_seq ?_
  refine J_seq ?_
  refine J_seq ?_
  refine J_reg ?_
  refine JL_q (q_move) (k := ?_)
  refine JL_q (q_loadA Tryz.isAgg39 Tryz.sizeOf39) (k := ?_)
  refine JL_inl (args := [(Value.slice (l_a) (l.length) (l_c)), (Value.agg [(Value.int .i64 (t.addr)), (Value.int .i64 (t.port))].toArray)]) (c_callA Tryz.call66) Tryz.func66 Tryz.ntmps66 ?_
  refine J_seq ?_
  refine J_reg ?_
  refine JL_a noMk (a_box (l := [_])) (k := fun r6 hr6 => ?_)
  refine JL_a noMk (a_box (l := [_, _])) (k := fun r7 hr7 => ?_)
  refine JL_q (q_assign) (k := ?_)
  refine JL_nil ?_
  refine JX_seq ?_
  refine J_seq ?_
  refine J_reg ?_
  refine JL_q (q_func) (k := ?_)
  refine JL_q (q_assign) (k := ?_)
  refine JL_nil ?_
  refine JX_seq ?_
  refine J_ret ?_
  refine JX_retI Tryz.results66 (Res.tmp rfl Res.nil) ?_
  refine JL_nil ?_
  refine JX_seq ?_
  refine J_block ?_
  refine J_rangeIM noMk rfl Tryz.call106 Tryz.func106 Tryz.ntmps106 (fun l8 rD8 rr8 hl8 => ?_)
  refine J_seq ?_
  refine J_reg ?_
  refine JL_a noMk (a_box (l := [_])) (k := fun r9 hr9 => ?_)
  refine JL_nil ?_
  refine JX_seq ?_
  refine J_scope ?_
  refine J_seq ?_
  refine J_label ?_
  refine JX_seq ?_
  refine J_seq ?_
  refine J_reg ?_
  refine JL_q (q_load Tryz.isAgg36) (k := ?_)
  refine JL_inl (args := [(Value.slice (l_a) (l.length) (l_c))]) (c_callA Tryz.call107) Tryz.func107 Tryz.ntmps107 ?_
  refine J_seq ?_
  refine J_reg ?_
  refine JL_a noMk (a_box (l := [_])) (k := fun r10 hr10 => ?_)
  refine JL_q (q_assign) (k := ?_)
  refine JL_nil ?_
  refine JX_seq ?_
  refine J_seq ?_
  refine J_reg ?_
  refine JL_q (q_func) (k := ?_)
  refine JL_q (q_assign) (k := ?_)
  refine JL_nil ?_
  refine JX_seq ?_
  refine J_ret ?_
  refine JX_retI Tryz.results107 (Res.tmp rfl Res.nil) ?_
  refine JL_nil ?_
  refine JX_seq ?_
  refine J_block ?_
  refine J_rangeI noMk rfl Tryz.call126 Tryz.func126 Tryz.ntmps126 (fun l11 rD11 rr11 hl11 => ?_)
  refine J_seq ?_
  refine J_reg ?_
  refine JL_q (q_load Tryz.isAgg36) (k := ?_)
  refine JL_q (q_lenS Tryz.runUnderlying36) (k := ?_)
  refine JL_q (q_sub) (k := ?_)
  refine JL_q (q_assign) (k := ?_)
  refine JL_nil ?_
  refine JX_seq ?_
  refine J_block ?_
  refine J_loop6 (σ1 := Nat) (σ2 := Int) (σ3 := List Int) (σ4 := Option Addr) (σ5 := Nat) (σ6 := Heap) (fun n_3 i_1 x_2 x_2a x_2c x_2B => (x_2B ++ ((l11, loopAt rr11 .ready none) :: ((rD11, Obj.deferred (some [])) :: ((r10, Obj.cells [(Value.slice (l_a) (l.length) (l_c))].toArray 36) :: ((r9, Obj.cells [(Value.func (.yield l8) [].toArray [].toArray)].toArray 119) :: ((l8, loopAt rr8 .ready none) :: ((rD8, Obj.deferred (some [])) :: ((r7, Obj.cells [(Value.int .i64 (t.addr)), (Value.int .i64 (t.port))].toArray 39) :: ((r6, Obj.cells [(Value.slice (l_a) (l.length) (l_c))].toArray 36) :: ((r5, Obj.cells [(Value.pointer (some ⟨r4, 0, none⟩))].toArray 103) :: ((r4, Obj.cells [(Value.slice (x_2a) (x_2.length) (x_2c))].toArray 107) :: ((r3, Obj.cells [(Value.int .i64 (t.addr)), (Value.int .i64 (t.port))].toArray 39) :: ((r2, Obj.cells [(Value.int .i64 (t.addr)), (Value.int .i64 (t.port))].toArray 39) :: ((r1, Obj.cells [(Value.int .i64 (t.addr)), (Value.int .i64 (t.port))].toArray 39) :: []))))))))))))))) (fun n_3 i_1 x_2 x_2a x_2c x_2B => [(0, (Value.func (.yield l11) [].toArray [].toArray)), (1, (Value.pointer (some ⟨r10, 0, none⟩))), (3, (Value.int .i64 (i_1)))]) (fun n_3 i_1 x_2 x_2a x_2c x_2B => (i_1 + 1).toNat < n_3 ∧ Is (aclDecide_l0 l t (((((l.length : Nat) : Int) - 1) + 1).toNat + 1) (((l.length : Nat) : Int) - 1) []) (aclDecide_l0 l t n_3 i_1 x_2) ∧ OwnB eI 1 3 x_2a x_2c x_2B x_2 ∧ (-1 ≤ i_1 ∧ i_1 < l.length) ∧ x_2.length + i_1 + 1 ≤ l.length ∧ (∀ z ∈ x_2, 0 ≤ z ∧ z < l.length)) (fun n_3 i_1 x_2 x_2a x_2c x_2B => n_3) (((((l.length : Nat) : Int) - 1) + 1).toNat + 1) (((l.length : Nat) : Int) - 1) ([]) none 0 ([]) ?_ se (List.Perm.refl _) ?_
  · exact ⟨Nat.lt_succ_self _, Is.refl _, OwnB.nil, (by first | omega | (simp; done) | (simp; omega) | (intro z hz; cases hz)), (by first | omega | (simp; done) | (simp; omega) | (intro z hz; cases hz)), (by first | omega | (simp; done) | (simp; omega) | (intro z hz; cases hz))⟩
  · rintro (_ | n_3) i_1 x_2 x_2a x_2c x_2B ⟨hm5, hF4, hx_2, hi6, hi7, hi8⟩
    · omega
    refine J_seq ?_
    refine J_seq ?_
    refine J_reg ?_
    refine JL_q (q_move) (k := ?_)
    refine JL_q (q_geq) (k := ?_)
    refine JL_nil ?_
    refine JX_seq ?_
    refine J_dec rfl (fun hq10 => ?_) (fun hq10 => ?_)
    rotate_left
    · refine J_exit ?_
      refine JX_seq_exit ?_
      refine JX_inv_exit ?_
      refine JX_block_hit ?_
      refine JX_it0 (.inr rfl) Tryz.results126 (qc q0) ?_
      refine JX_block ?_
      refine JX_scope ?_
      refine JX_it0M [rD11] (qa (qc q0)) (.inr rfl) Tryz.results106 (qa (qc (qa (qa q0)))) ?_
      refine JX_block ?_
      refine JX_seq ?_
      refine J_seq ?_
      refine J_seq ?_
      refine J_reg ?_
      refine JL_q (q_load Tryz.isAgg103) (k := ?_)
      refine JL_q (q_nil) (k := ?_)
      refine JL_q (q_fld FO_107_0) (k := ?_)
      refine JL_q (q_load Tryz.isAgg105) (k := ?_)
      refine JL_inl (args := [(Value.slice (x_2a) (x_2.length) (x_2c))]) (c_callA Tryz.call68) Tryz.func68 Tryz.ntmps68 ?_
      refine J_seq ?_
      refine J_reg ?_
      refine JL_q (q_assign) (k := ?_)
      refine JL_nil ?_
      refine JX_seq ?_
      refine J_seq ?_
      refine J_reg ?_
      refine JL_q (q_move) (k := ?_)
      refine JL_q (q_lenS Tryz.runUnderlying105) (k := ?_)
      refine JL_q (q_assign) (k := ?_)
      refine JL_nil ?_
      refine JX_seq ?_
      refine J_ret ?_
      refine JX_retI Tryz.results68 (Res.tmp rfl Res.nil) ?_
      refine JL_q (q_eql) (k := ?_)
      refine JL_nil ?_
      refine JX_seq ?_
      refine J_dec rfl (fun hq14 => ?_) (fun hq14 => ?_)
      · refine J_seq ?_
        refine J_reg ?_
        refine JL_q (q_build (cs := []) Tryz.zeroValue114 PL_114) (k := ?_)
        refine JL_q (q_mkI Tryz.underlying114) (k := ?_)
        refine JL_q (q_assign) (k := ?_)
        refine JL_nil ?_
        refine JX_seq ?_
        refine J_ret ?_
        refine JX_seq_ret ?_
        refine JX_retIM [rD8] (qa (qa (qc (qa (qa q0))))) Tryz.results38 (Res.tmp rfl Res.nil) ?_
        refine JL_inl (args := [(Value.agg [].toArray)]) (c_invoke (by kernel_rfl) (fun w1 hw1 => M_114_wicketgate_acl_says _ w1) Tryz.call179) Tryz.func179 Tryz.ntmps179 ?_
        refine J_seq ?_
        refine J_reg ?_
        refine JL_a noMk (a_box (l := [])) (k := fun r14 hr14 => ?_)
        refine JL_q (q_assign) (k := ?_)
        refine JL_q (q_assign) (k := ?_)
        refine JL_nil ?_
        refine JX_seq ?_
        refine J_seq ?_
        refine J_reg ?_
        refine JL_q (q_assign) (k := ?_)
        refine JL_q (q_assign) (k := ?_)
        refine JL_nil ?_
        refine JX_seq ?_
        refine J_ret ?_
        refine JX_retI Tryz.results179 (Res.tmp rfl (Res.tmp rfl Res.nil)) ?_
        refine JL_q (q_move) (k := ?_)
        refine JL_q (q_ext) (k := ?_)
        refine JL_q (q_ext) (k := ?_)
        refine JL_q (q_assign) (k := ?_)
        refine JL_q (q_assign) (k := ?_)
        refine JL_nil ?_
        refine JX_seq ?_
        refine J_seq ?_
        refine J_reg ?_
        refine JL_q (q_move) (k := ?_)
        refine JL_q (q_move) (k := ?_)
        refine JL_q (q_assign) (k := ?_)
        refine JL_q (q_assign) (k := ?_)
        refine JL_q (q_assign) (k := ?_)
        refine JL_nil ?_
        refine JX_seq ?_
        refine J_ret ?_
        refine JX_ret Tryz.results17 (Res.tmp rfl (Res.tmp rfl (Res.tmp rfl Res.nil))) (fun w1 hw1 => ?_)
        exact ⟨(by rw [(((((hF.f hq1).neg hq4).rn2 (hF4.neg hq10)).pos hq14)).eq] <;> first | rfl | (simp only [List.length_set] <;> rfl)), hw1.ext_out⟩
      refine J_skip ?_
      refine JX_seq ?_
      refine J_seq ?_
      refine J_reg ?_
      refine JL_q (q_load Tryz.isAgg103) (k := ?_)
      refine JL_q (q_nil) (k := ?_)
      refine JL_q (q_fld FO_107_0) (k := ?_)
      refine JL_q (q_load Tryz.isAgg105) (k := ?_)
      refine JL_q (q_idx (n := x_2.length) Tryz.runUnderlying105 Tryz.sizeOf3 0 (hx_2.slj eI_ok) (gD (by first | exact ix)) (by first | rfl | simp)) (k := ?_)
      refine JL_q (q_loadE Tryz.isAgg3 0 0 (hx_2.slj eI_ok) (gD (by first | exact ix))) (k := ?_)
      refine JL_q (q_assign) (k := ?_)
      refine JL_nil ?_
      refine JX_seq ?_
      refine J_seq ?_
      refine J_reg ?_
      refine JL_q (q_move) (k := ?_)
      refine JL_q (q_move) (k := ?_)
      have hat : 0 ≤ x_2.getD 0 default ∧ x_2.getD 0 default < (l.length : Int) := all_getD (by assumption) (by omega)
      refine JL_q (q_idx (n := l.length) Tryz.runUnderlying36 Tryz.sizeOf27 (((x_2.getD 0 default)).toNat) (SlJ.of_base h_l) (gD (by first | exact ix)) (by first | rfl | simp)) (k := ?_)
      refine JL_q (q_loadEA Tryz.isAgg27 Tryz.sizeOf27 (((x_2.getD 0 default)).toNat) (SlJ.of_base h_l) (gD (by first | exact ix))) (k := ?_)
      refine JL_q (q_build (cs := [_, _, _, _, _]) Tryz.zeroValue54 PL_54) (k := ?_)
      refine JL_q (q_move) (k := ?_)
      refine JL_q (q_build (cs := [_, _, _, _, _, _]) Tryz.zeroValue116 PL_116) (k := ?_)
      refine JL_q (q_mkI Tryz.underlying116) (k := ?_)
      refine JL_q (q_assign) (k := ?_)
      refine JL_nil ?_
      refine JX_seq ?_
      refine J_ret ?_
      refine JX_retIM [rD8] (qa (qa (qc (qa (qa q0))))) Tryz.results38 (Res.tmp rfl Res.nil) ?_
      refine JL_inl (args := [(Value.agg [(Value.bool (((l.getD (((x_2.getD 0 default)).toNat) default).allow))), (Value.int .i64 (((l.getD (((x_2.getD 0 default)).toNat) default).pfx.addr))), (Value.int .i64 (((l.getD (((x_2.getD 0 default)).toNat) default).pfx.bits))), (Value.int .i64 (((l.getD (((x_2.getD 0 default)).toNat) default).prt.lo))), (Value.int .i64 (((l.getD (((x_2.getD 0 default)).toNat) default).prt.hi))), (Value.int .i64 ((x_2.getD 0 default)))].toArray)]) (c_invoke (by kernel_rfl) (fun w1 hw1 => M_116_wicketgate_acl_says _ w1) Tryz.call180) Tryz.func180 Tryz.ntmps180 ?_
      refine J_seq ?_
      refine J_reg ?_
      refine JL_a noMk (a_box (l := [_, _, _, _, _, _])) (k := fun r15 hr15 => ?_)
      refine JL_q (q_assign) (k := ?_)
      refine JL_q (q_assign) (k := ?_)
      refine JL_nil ?_
      refine JX_seq ?_
      refine J_seq ?_
      refine J_plan mixed 8 [(true, 0), (true, 1), (true, 2), (true, 3), (true, 4), (true, 5), (true, 6), (true, 7)] (by kernel_rfl) ?_
      refine JD_q (q_fld FO_116_0) (k := ?_)
      refine JD_q (q_fld FO_54_0) (k := ?_)
      refine JD_q (q_fld FO_27_0) (k := ?_)
      refine JD_q (q_load Tryz.isAgg4) (k := ?_)
      refine JD_q (q_fld FO_116_1) (k := ?_)
      refine JD_q (q_load Tryz.isAgg3) (k := ?_)
      refine JD_q (q_assign) (k := ?_)
      refine JD_q (q_assign) (k := ?_)
      refine JD_nil0 ?_
      refine JL_nil ?_
      refine JX_seq ?_
      refine J_ret ?_
      refine JX_retI Tryz.results180 (Res.tmp rfl (Res.tmp rfl Res.nil)) ?_
      refine JL_q (q_move) (k := ?_)
      refine JL_q (q_ext) (k := ?_)
      refine JL_q (q_ext) (k := ?_)
      refine JL_q (q_assign) (k := ?_)
      refine JL_q (q_assign) (k := ?_)
      refine JL_nil ?_
      refine JX_seq ?_
      refine J_seq ?_
      refine J_reg ?_
      refine JL_q (q_move) (k := ?_)
      refine JL_q (q_move) (k := ?_)
      refine JL_q (q_assign) (k := ?_)
      refine JL_q (q_assign) (k := ?_)
      refine JL_q (q_assign) (k := ?_)
      refine JL_nil ?_
      refine JX_seq ?_
      refine J_ret ?_
      refine JX_ret Tryz.results17 (Res.tmp rfl (Res.tmp rfl (Res.tmp rfl Res.nil))) (fun w1 hw1 => ?_)
      exact ⟨(by rw [(((((hF.f hq1).neg hq4).rn2 (hF4.neg hq10)).neg hq14)).eq] <;> first | rfl | (simp only [List.length_set] <;> rfl)), hw1.ext_out⟩
    refine J_skip ?_
    refine JX_seq ?_
    refine J_seq ?_
    refine J_block ?_
    refine J_seq ?_
    refine J_reg ?_
    refine JL_q (q_move) (k := ?_)
    refine JL_q (q_move) (k := ?_)
    refine JL_q (q_load Tryz.isAgg36) (k := ?_)
    refine JL_q (q_move) (k := ?_)
    refine JL_q (q_idx (n := l.length) Tryz.runUnderlying36 Tryz.sizeOf27 ((i_1).toNat) (SlJ.of_base h_l) (gD (by first | exact ix)) (by first | rfl | simp)) (k := ?_)
    refine JL_q (q_loadEA Tryz.isAgg27 Tryz.sizeOf27 ((i_1).toNat) (SlJ.of_base h_l) (gD (by first | exact ix))) (k := ?_)
    refine JL_yIn (vs := [(Value.int .i64 (i_1)), (Value.agg [(Value.bool (((l.getD ((i_1).toNat) default).allow))), (Value.int .i64 (((l.getD ((i_1).toNat) default).pfx.addr))), (Value.int .i64 (((l.getD ((i_1).toNat) default).pfx.bits))), (Value.int .i64 (((l.getD ((i_1).toNat) default).prt.lo))), (Value.int .i64 (((l.getD ((i_1).toNat) default).prt.hi)))].toArray)]) hl11 (qc q0) y_call ?_
    refine J_seq ?_
    refine J_reg ?_
    refine JL_q (q_assign) (k := ?_)
    refine JL_nil ?_
    refine JX_seq ?_
    refine J_reg ?_
    refine JL_a noMk (a_alloc (l := [_, _, _, _, _]) Tryz.zeroValue27) (k := fun r12 hr12 => ?_)
    refine JL_s (w_store (l' := [_, _, _, _, _]) Tryz.sizeOf27) (k := ?_)
    refine JL_nil ?_
    refine JX_begin (qa q0) ?_
    refine J_block ?_
    refine J_seq ?_
    refine J_reg ?_
    refine JL_q (q_loadA Tryz.isAgg27 Tryz.sizeOf27) (k := ?_)
    refine JL_q (q_build (cs := [_, _, _, _, _]) Tryz.zeroValue54 PL_54) (k := ?_)
    refine JL_q (q_loadA Tryz.isAgg39 Tryz.sizeOf39) (k := ?_)
    refine JL_v (args := [(Value.agg [(Value.bool (((l.getD ((i_1).toNat) default).allow))), (Value.int .i64 (((l.getD ((i_1).toNat) default).pfx.addr))), (Value.int .i64 (((l.getD ((i_1).toNat) default).pfx.bits))), (Value.int .i64 (((l.getD ((i_1).toNat) default).prt.lo))), (Value.int .i64 (((l.getD ((i_1).toNat) default).prt.hi)))].toArray), (Value.agg [(Value.int .i64 (t.addr)), (Value.int .i64 (t.port))].toArray)]) (c_callA Tryz.call47) (fun w1 hw1 => aclFitsR_ok w1 (r := (l.getD ((i_1).toNat) default)) (t := t)) (k := ?_)
    refine JL_q (q_move) (k := ?_)
    refine JL_bool 14 rfl (fun hq11 => ?_) (fun hq11 => ?_)
    rotate_left
    · refine JL_skips 4 rfl ?_
      refine JL_q (q_pickF) (k := ?_)
      refine JL_nil ?_
      refine JX_seq ?_
      refine J_false rfl ?_
      refine J_skip ?_
      refine JX_block ?_
      refine JX_roundI q0 ?_
      refine JL_q (q_not) (k := ?_)
      refine JL_nil ?_
      refine JX_seq ?_
      refine J_false rfl ?_
      refine J_skip ?_
      refine JX_block ?_
      refine JX_seq ?_
      refine J_reg ?_
      refine JL_q (q_move) (k := ?_)
      refine JL_q (q_sub) (k := ?_)
      refine JL_q (q_assign) (k := ?_)
      refine JL_nil ?_
      refine JX_permL _ ((((((((((((((qa (qa (qc (qa (qa (qa (qa (qa (qa (qa (qa (qa (qa (qa q0)))))))))))))).trans (qa (qa (qa (qc (qa (qa (qa (qa (qa (qa (qa (qa (qa (qa q0))))))))))))))).trans (qa (qa (qa (qa (qc (qa (qa (qa (qa (qa (qa (qa (qa (qa q0))))))))))))))).trans (qa (qa (qa (qa (qa (qc (qa (qa (qa (qa (qa (qa (qa (qa q0))))))))))))))).trans (qa (qa (qa (qa (qa (qa (qc (qa (qa (qa (qa (qa (qa (qa q0))))))))))))))).trans (qa (qa (qa (qa (qa (qa (qa (qc (qa (qa (qa (qa (qa (qa q0))))))))))))))).trans (qa (qa (qa (qa (qa (qa (qa (qa (qc (qa (qa (qa (qa (qa q0))))))))))))))).trans (qa (qa (qa (qa (qa (qa (qa (qa (qa (qc (qa (qa (qa (qa q0))))))))))))))).trans (qa (qa (qa (qa (qa (qa (qa (qa (qa (qa (qc (qa (qa (qa q0))))))))))))))).trans (qa (qa (qa (qa (qa (qa (qa (qa (qa (qa (qa (qc (qa (qa q0))))))))))))))).trans (qa (qa (qa (qa (qa (qa (qa (qa (qa (qa (qa (qa (qc (qa q0))))))))))))))).trans (qa (qa (qa (qa (qa (qa (qa (qa (qa (qa (qa (qa (qa (qc q0))))))))))))))).trans (qa (qa (qa (qa (qa (qa (qa (qa (qa (qa (qa (qa q0))))))))))))).trans (qb (qb (qb (qb (qb (qb (qb (qb (qb (qb (qb (qb (qb (qb q0))))))))))))))) ?_
      refine JX_subL _ (List.Sublist.append (List.Sublist.refl _) (List.Sublist.cons_cons _ (List.Sublist.cons_cons _ (List.Sublist.cons_cons _ (List.Sublist.cons_cons _ (List.Sublist.cons_cons _ (List.Sublist.cons_cons _ (List.Sublist.cons_cons _ (List.Sublist.cons_cons _ (List.Sublist.cons_cons _ (List.Sublist.cons_cons _ (List.Sublist.cons_cons _ (List.Sublist.cons_cons _ (List.Sublist.cons_cons _ (List.nil_sublist _))))))))))))))) ?_
      exact JX_inv6 n_3 (i_1 - 1) x_2 x_2a x_2c x_2B ⟨by omega, ((hF4.pos hq10).f hq11), hx_2, (by omega), (by first | omega | (simp only [List.length_append, List.length_set, List.length_cons, List.length_nil]; omega)), (by assumption)⟩ (Nat.lt_succ_self _) se (List.Perm.refl _)
    refine JL_qg (q_load Tryz.isAgg119) (k := ?_)
    refine JL_qg (q_move) (k := ?_)
    refine JL_yIng (vs := [(Value.int .i64 (i_1))]) hl8 (qa (qa (qc (qa (qa (qa q0)))))) y_call ?_
    refine J_reg ?_
    refine JL_q (q_assign) (k := ?_)
    refine JL_nil ?_
    refine JX_begin q0 ?_
    refine J_block ?_
    refine J_reg ?_
    refine JL_q (q_load Tryz.isAgg103) (k := ?_)
    refine JL_q (q_mkI Tryz.underlying103) (k := ?_)
    refine JL_q (q_move) (k := ?_)
    refine JL_q (q_mkI Tryz.underlying3) (k := ?_)
    refine JL_inl (args := [(Value.iface 103 (Value.pointer (some ⟨r4, 0, none⟩))), (Value.iface 3 (Value.int .i64 (i_1)))]) (c_callA Tryz.call67) Tryz.func67 Tryz.ntmps67 ?_
    refine J_seq ?_
    refine J_reg ?_
    refine JL_q (q_move) (k := ?_)
    refine JL_q (q_move) (k := ?_)
    refine JL_inl (args := [(Value.pointer (some ⟨r4, 0, none⟩)), (Value.iface 3 (Value.int .i64 (i_1)))]) (c_invoke (by kernel_rfl) (fun w1 hw1 => M_103_Push _ w1) Tryz.call176) Tryz.func176 Tryz.ntmps176 ?_
    refine J_seq ?_
    refine J_reg ?_
    refine JL_q (q_move) (k := ?_)
    refine JL_q (q_assertIs Tryz.underlying3) (k := ?_)
    refine JL_q (q_move) (k := ?_)
    refine JL_q (q_ext) (k := ?_)
    refine JL_q (q_ext) (k := ?_)
    refine JL_q (q_assign) (k := ?_)
    refine JL_q (q_assign) (k := ?_)
    refine JL_nil ?_
    refine JX_seq ?_
    refine J_seq ?_
    refine J_reg ?_
    refine JL_q (q_move) (k := ?_)
    refine JL_nil ?_
    refine JX_seq ?_
    refine J_true rfl ?_
    refine J_reg ?_
    refine JL_q (q_move) (k := ?_)
    refine JL_q (q_move) (k := ?_)
    refine JL_q (q_nil) (k := ?_)
    refine JL_q (q_fld FO_107_0) (k := ?_)
    refine JL_q (q_load Tryz.isAgg105) (k := ?_)
    refine JL_q (q_move) (k := ?_)
    refine JL_a noMk (a_bslice (l := [_]) Tryz.runUnderlying105 Tryz.sizeOf3 Tryz.zeroValue3) (k := fun r13 hr13 => ?_)
    refine JL_append (x_2 ++ ([i_1] : List Int)) rfl TY_3 Tryz.underlying105 eI_ok hx_2 (qb (qb (qb (qb q0)))) (SlJ.lit (xs := ([i_1] : List Int)) eI_ok) ⟨by omega, by omega⟩ (n := x_2.length) (m := 1) (k := fun ax1 cx1 Bx1 hox1 => ?_)
    have hal1 : (x_2 ++ ([i_1] : List Int)).length = x_2.length + 1 := by first | rfl | exact List.length_append | simp
    refine JL_q (q_nil) (k := ?_)
    refine JL_q (q_fld FO_107_0) (k := ?_)
    refine JL_s (w_store (l' := [_]) Tryz.sizeOf105) (k := ?_)
    refine JL_nil ?_
    refine JX_endI Tryz.results176 Res.nil ?_
    refine JL_nil ?_
    refine JX_seq ?_
    refine J_reg ?_
    refine JL_q (q_move) (k := ?_)
    refine JL_q (q_move) (k := ?_)
    refine JL_inl (args := [(Value.slice (ax1) ((x_2 ++ ([i_1] : List Int)).length) (cx1))]) (c_invoke (by kernel_rfl) (fun w1 hw1 => M_103_Len r4 0 (u := (Value.slice (ax1) ((x_2 ++ ([i_1] : List Int)).length) (cx1))) w1 (hw1.cell (k := 0) me rfl)) Tryz.call68) Tryz.func68 Tryz.ntmps68 ?_
    refine J_seq ?_
    refine J_reg ?_
    refine JL_q (q_assign) (k := ?_)
    refine JL_nil ?_
    refine JX_seq ?_
    refine J_seq ?_
    refine J_reg ?_
    refine JL_q (q_move) (k := ?_)
    refine JL_q (q_lenS Tryz.runUnderlying105) (k := ?_)
    refine JL_q (q_assign) (k := ?_)
    refine JL_nil ?_
    refine JX_seq ?_
    refine J_ret ?_
    refine JX_retI Tryz.results68 (Res.tmp rfl Res.nil) ?_
    refine JL_q (q_sub) (k := ?_)
    refine JL_inl (args := [(Value.iface 103 (Value.pointer (some ⟨r4, 0, none⟩))), (Value.int .i64 ((((((x_2 ++ ([i_1] : List Int)).length) : Nat) : Int) - 1)))]) (c_callA Tryz.call108) Tryz.func108 Tryz.ntmps108 ?_
    refine J_block ?_
    refine J_loop6 (σ1 := Nat) (σ2 := Int) (σ3 := List Int) (σ4 := Option Addr) (σ5 := Nat) (σ6 := Heap) (fun n_11 j_9 x_10 x_10a x_10c x_10B => (x_10B ++ ((r13, Obj.cells [(Value.int .i64 (i_1))].toArray 3) :: ((l8, loopAt rr8 .busy none) :: ((l11, loopAt rr11 .busy none) :: ((r12, Obj.cells [(Value.bool (((l.getD ((i_1).toNat) default).allow))), (Value.int .i64 (((l.getD ((i_1).toNat) default).pfx.addr))), (Value.int .i64 (((l.getD ((i_1).toNat) default).pfx.bits))), (Value.int .i64 (((l.getD ((i_1).toNat) default).prt.lo))), (Value.int .i64 (((l.getD ((i_1).toNat) default).prt.hi)))].toArray 27) :: ((rD11, Obj.deferred (some [])) :: ((r10, Obj.cells [(Value.slice (l_a) (l.length) (l_c))].toArray 36) :: ((r9, Obj.cells [(Value.func (.yield l8) [].toArray [].toArray)].toArray 119) :: ((rD8, Obj.deferred (some [])) :: ((r7, Obj.cells [(Value.int .i64 (t.addr)), (Value.int .i64 (t.port))].toArray 39) :: ((r6, Obj.cells [(Value.slice (l_a) (l.length) (l_c))].toArray 36) :: ((r5, Obj.cells [(Value.pointer (some ⟨r4, 0, none⟩))].toArray 103) :: ((r4, Obj.cells [(Value.slice (x_10a) (x_10.length) (x_10c))].toArray 107) :: ((r3, Obj.cells [(Value.int .i64 (t.addr)), (Value.int .i64 (t.port))].toArray 39) :: ((r2, Obj.cells [(Value.int .i64 (t.addr)), (Value.int .i64 (t.port))].toArray 39) :: ((r1, Obj.cells [(Value.int .i64 (t.addr)), (Value.int .i64 (t.port))].toArray 39) :: []))))))))))))))))) (fun n_11 j_9 x_10 x_10a x_10c x_10B => [(0, (Value.iface 103 (Value.pointer (some ⟨r4, 0, none⟩)))), (1, (Value.int .i64 (j_9)))]) (fun n_11 j_9 x_10 x_10a x_10c x_10B => j_9.toNat < n_11 ∧ Is (aclDecide_l1 l t i_1 x_2 ((((((x_2 ++ ([i_1] : List Int)).length) : Nat) : Int) - 1).toNat + 1) (((((x_2 ++ ([i_1] : List Int)).length) : Nat) : Int) - 1) (x_2 ++ ([i_1] : List Int))) (aclDecide_l1 l t i_1 x_2 n_11 j_9 x_10) ∧ OwnB eI 1 3 x_10a x_10c x_10B x_10 ∧ (0 ≤ j_9 ∧ j_9 < x_10.length) ∧ x_10.length = (x_2 ++ ([i_1] : List Int)).length ∧ (∀ z ∈ x_10, 0 ≤ z ∧ z < l.length)) (fun n_11 j_9 x_10 x_10a x_10c x_10B => n_11) ((((((x_2 ++ ([i_1] : List Int)).length) : Nat) : Int) - 1).toNat + 1) (((((x_2 ++ ([i_1] : List Int)).length) : Nat) : Int) - 1) (x_2 ++ ([i_1] : List Int)) ax1 cx1 Bx1 ?_ se (List.Perm.refl _) ?_
    · exact ⟨Nat.lt_succ_self _, Is.refl _, hox1, (by first | omega | (simp only [List.length_append, List.length_cons, List.length_nil]; omega) | rfl | assumption | exact all_push (by assumption) (by omega)), (by first | omega | (simp only [List.length_append, List.length_cons, List.length_nil]; omega) | rfl | assumption | exact all_push (by assumption) (by omega)), (by first | omega | (simp only [List.length_append, List.length_cons, List.length_nil]; omega) | rfl | assumption | exact all_push (by assumption) (by omega))⟩
    · rintro (_ | n_11) j_9 x_10 x_10a x_10c x_10B ⟨hm13, hF12, hx_10, hi14, hi15, hi16⟩
      · omega
      refine J_block ?_
      refine J_seq ?_
      refine J_reg ?_
      refine JL_q (q_move) (k := ?_)
      refine JL_q (q_sub) (k := ?_)
      refine JL_q (q_half) (k := ?_)
      refine JL_q (q_assign) (k := ?_)
      refine JL_nil ?_
      refine JX_seq ?_
      refine J_seq ?_
      refine J_seq ?_
      refine J_reg ?_
      refine JL_q (q_move) (k := ?_)
      refine JL_q (q_move) (k := ?_)
      refine JL_q (q_eql) (k := ?_)
      refine JL_q (q_move) (k := ?_)
      refine JL_dec 11 rfl (fun hq12 => ?_) (fun hq12 => ?_)
      · refine JL_skips 5 rfl ?_
        refine JL_q (q_pickT) (k := ?_)
        refine JL_nil ?_
        refine JX_seq ?_
        refine J_true rfl ?_
        refine J_exit ?_
        refine JX_seq_exit ?_
        refine JX_block_miss rfl ?_
        refine JX_inv_exit ?_
        refine JX_block_hit ?_
        refine JX_endI Tryz.results108 Res.nil ?_
        refine JL_nil ?_
        refine JX_endI Tryz.results67 Res.nil ?_
        refine JL_nil ?_
        refine JX_block ?_
        refine JX_roundI (qc (qa q0)) ?_
        refine JL_qg (q_not) (k := ?_)
        refine JL_q (q_pickT) (k := ?_)
        refine JL_nil ?_
        refine JX_seq ?_
        refine J_false rfl ?_
        refine J_skip ?_
        refine JX_block ?_
        refine JX_roundI (qa (qc (qa q0))) ?_
        refine JL_q (q_not) (k := ?_)
        refine JL_nil ?_
        refine JX_seq ?_
        refine J_false rfl ?_
        refine J_skip ?_
        refine JX_block ?_
        refine JX_seq ?_
        refine J_reg ?_
        refine JL_q (q_move) (k := ?_)
        refine JL_q (q_sub) (k := ?_)
        refine JL_q (q_assign) (k := ?_)
        refine JL_nil ?_
        refine JX_permL _ ((((((((((((((qa (qa (qc (qa (qa (qa (qa (qa (qa (qa (qa (qa (qa (qa (qa q0))))))))))))))).trans (qa (qa (qa (qc (qa (qa (qa (qa (qa (qa (qa (qa (qa (qa (qa q0)))))))))))))))).trans (qa (qa (qa (qa (qc (qa (qa (qa (qa (qa (qa (qa (qa (qa (qa q0)))))))))))))))).trans (qa (qa (qa (qa (qa (qc (qa (qa (qa (qa (qa (qa (qa (qa (qa q0)))))))))))))))).trans (qa (qa (qa (qa (qa (qa (qc (qa (qa (qa (qa (qa (qa (qa (qa q0)))))))))))))))).trans (qa (qa (qa (qa (qa (qa (qa (qc (qa (qa (qa (qa (qa (qa (qa q0)))))))))))))))).trans (qa (qa (qa (qa (qa (qa (qa (qa (qc (qa (qa (qa (qa (qa (qa q0)))))))))))))))).trans (qa (qa (qa (qa (qa (qa (qa (qa (qa (qc (qa (qa (qa (qa (qa q0)))))))))))))))).trans (qa (qa (qa (qa (qa (qa (qa (qa (qa q0)))))))))).trans (qa (qa (qa (qa (qa (qa (qa (qa (qa (qa (qc (qa (qa (qa (qa q0)))))))))))))))).trans (qa (qa (qa (qa (qa (qa (qa (qa (qa (qa (qa (qc (qa (qa (qa q0)))))))))))))))).trans (qa (qa (qa (qa (qa (qa (qa (qa (qa (qa (qa (qa (qc (qa (qa q0)))))))))))))))).trans (qa (qa (qa (qa (qa (qa (qa (qa (qa (qa (qa (qa q0))))))))))))).trans (qb (qb (qb (qb (qb (qb (qb (qb (qb (qb (qb (qb (qb q0)))))))))))))) ?_
        refine JX_subL _ (List.Sublist.append (List.Sublist.refl _) (List.Sublist.cons_cons _ (List.Sublist.cons_cons _ (List.Sublist.cons_cons _ (List.Sublist.cons_cons _ (List.Sublist.cons_cons _ (List.Sublist.cons_cons _ (List.Sublist.cons_cons _ (List.Sublist.cons_cons _ (List.Sublist.cons_cons _ (List.Sublist.cons_cons _ (List.Sublist.cons_cons _ (List.Sublist.cons_cons _ (List.Sublist.cons_cons _ (List.nil_sublist _))))))))))))))) ?_
        exact JX_inv6 n_3 (i_1 - 1) x_10 x_10a x_10c x_10B ⟨by omega, (((hF4.pos hq10).t hq11).rn2 (hF12.pos hq12)), hx_10, (by omega), (by first | omega | (simp only [List.length_append, List.length_set, List.length_cons, List.length_nil]; omega)), (by assumption)⟩ (Nat.lt_succ_self _) se (List.Perm.refl _)
      refine JL_qg (q_move) (k := ?_)
      refine JL_qg (q_move) (k := ?_)
      refine JL_qg (q_move) (k := ?_)
      refine JL_inlg (args := [(Value.slice (x_10a) (x_10.length) (x_10c)), (Value.int .i64 (j_9)), (Value.int .i64 ((((((j_9 - 1)).toNat / 2) : Nat) : Int)))]) (c_invoke (by kernel_rfl) (fun w1 hw1 => M_103_Less r4 0 (u := (Value.slice (x_10a) (x_10.length) (x_10c))) w1 (hw1.cell (k := 0) me rfl)) Tryz.call175) Tryz.func175 Tryz.ntmps175 ?_
      refine J_seq ?_
      refine J_reg ?_
      refine JL_q (q_assign) (k := ?_)
      refine JL_nil ?_
      refine JX_seq ?_
      refine J_seq ?_
      refine J_plan mixed 10 [(true, 0), (true, 1), (true, 2), (true, 3), (true, 4), (true, 5), (true, 6), (true, 7), (true, 8), (true, 9)] (by kernel_rfl) ?_
      refine JD_q (q_move) (k := ?_)
      refine JD_q (q_move) (k := ?_)
      refine JD_q (q_idx (n := x_10.length) Tryz.runUnderlying105 Tryz.sizeOf3 ((j_9).toNat) (hx_10.slj eI_ok) (gD (by first | exact ix)) (by first | rfl | simp)) (k := ?_)
      refine JD_q (q_loadE Tryz.isAgg3 ((j_9).toNat) 0 (hx_10.slj eI_ok) (gD (by first | exact ix))) (k := ?_)
      refine JD_q (q_move) (k := ?_)
      refine JD_q (q_move) (k := ?_)
      refine JD_q (q_idx (n := x_10.length) Tryz.runUnderlying105 Tryz.sizeOf3 (((j_9 - 1)).toNat / 2) (hx_10.slj eI_ok) (gD (by first | exact ix)) (by first | rfl | simp)) (k := ?_)
      refine JD_q (q_loadE Tryz.isAgg3 (((j_9 - 1)).toNat / 2) 0 (hx_10.slj eI_ok) (gD (by first | exact ix))) (k := ?_)
      refine JD_q (q_lss) (k := ?_)
      refine JD_q (q_assign) (k := ?_)
      refine JD_nil0 ?_
      refine JL_nil ?_
      refine JX_seq ?_
      refine J_ret ?_
      refine JX_retI Tryz.results175 (Res.tmp rfl Res.nil) ?_
      refine JL_qg (q_notD) (k := ?_)
      refine JL_q (q_pickF) (k := ?_)
      refine JL_nil ?_
      refine JX_seq ?_
      refine J_dec rfl (fun hq13 => ?_) (fun hq13 => ?_)
      rotate_left
      · refine J_skip ?_
        refine JX_seq ?_
        refine J_seq ?_
        refine J_reg ?_
        refine JL_q (q_move) (k := ?_)
        refine JL_q (q_move) (k := ?_)
        refine JL_q (q_move) (k := ?_)
        refine JL_p (args := [(Value.slice (x_10a) (x_10.length) (x_10c)), (Value.int .i64 ((((((j_9 - 1)).toNat / 2) : Nat) : Int))), (Value.int .i64 (j_9))]) (c_invoke (by kernel_rfl) (fun w1 hw1 => M_103_Swap r4 0 (u := (Value.slice (x_10a) (x_10.length) (x_10c))) w1 (hw1.cell (k := 0) me rfl)) Tryz.call178) (fun w1 hw1 => Swap_t w1 hx_10 (fun p hp => hw1.own p (by first | exact hp | (simp [hp]; done))) (i := (((((j_9 - 1)).toNat / 2) : Nat) : Int)) (j := j_9) (by first | exact ix) (by first | exact ix) (by omega)) (k := ?_)
        rintro w1_1 e1_1 w2_1 hw1_1 ⟨B1_1, he_1, hT_1, ho_1⟩
        refine ⟨_, (B1_1 ++ ((r13, Obj.cells [(Value.int .i64 (i_1))].toArray 3) :: ((l8, loopAt rr8 .busy none) :: ((l11, loopAt rr11 .busy none) :: ((r12, Obj.cells [(Value.bool (((l.getD ((i_1).toNat) default).allow))), (Value.int .i64 (((l.getD ((i_1).toNat) default).pfx.addr))), (Value.int .i64 (((l.getD ((i_1).toNat) default).pfx.bits))), (Value.int .i64 (((l.getD ((i_1).toNat) default).prt.lo))), (Value.int .i64 (((l.getD ((i_1).toNat) default).prt.hi)))].toArray 27) :: ((rD11, Obj.deferred (some [])) :: ((r10, Obj.cells [(Value.slice (l_a) (l.length) (l_c))].toArray 36) :: ((r9, Obj.cells [(Value.func (.yield l8) [].toArray [].toArray)].toArray 119) :: ((rD8, Obj.deferred (some [])) :: ((r7, Obj.cells [(Value.int .i64 (t.addr)), (Value.int .i64 (t.port))].toArray 39) :: ((r6, Obj.cells [(Value.slice (l_a) (l.length) (l_c))].toArray 36) :: ((r5, Obj.cells [(Value.pointer (some ⟨r4, 0, none⟩))].toArray 103) :: ((r4, Obj.cells [(Value.slice (x_10a) (x_10.length) (x_10c))].toArray 107) :: ((r3, Obj.cells [(Value.int .i64 (t.addr)), (Value.int .i64 (t.port))].toArray 39) :: ((r2, Obj.cells [(Value.int .i64 (t.addr)), (Value.int .i64 (t.port))].toArray 39) :: ((r1, Obj.cells [(Value.int .i64 (t.addr)), (Value.int .i64 (t.port))].toArray 39) :: [])))))))))))))))), he_1, (hw1_1.perm q0).tr hT_1, ?_⟩
        refine JL_eqL (L' := (B1_1 ++ ((r13, Obj.cells [(Value.int .i64 (i_1))].toArray 3) :: ((l8, loopAt rr8 .busy none) :: ((l11, loopAt rr11 .busy none) :: ((r12, Obj.cells [(Value.bool (((l.getD ((i_1).toNat) default).allow))), (Value.int .i64 (((l.getD ((i_1).toNat) default).pfx.addr))), (Value.int .i64 (((l.getD ((i_1).toNat) default).pfx.bits))), (Value.int .i64 (((l.getD ((i_1).toNat) default).prt.lo))), (Value.int .i64 (((l.getD ((i_1).toNat) default).prt.hi)))].toArray 27) :: ((rD11, Obj.deferred (some [])) :: ((r10, Obj.cells [(Value.slice (l_a) (l.length) (l_c))].toArray 36) :: ((r9, Obj.cells [(Value.func (.yield l8) [].toArray [].toArray)].toArray 119) :: ((rD8, Obj.deferred (some [])) :: ((r7, Obj.cells [(Value.int .i64 (t.addr)), (Value.int .i64 (t.port))].toArray 39) :: ((r6, Obj.cells [(Value.slice (l_a) (l.length) (l_c))].toArray 36) :: ((r5, Obj.cells [(Value.pointer (some ⟨r4, 0, none⟩))].toArray 103) :: ((r4, Obj.cells [(Value.slice (x_10a) (((x_10.set ((((((j_9 - 1)).toNat / 2) : Nat) : Int)).toNat (x_10.getD (j_9).toNat default)).set (j_9).toNat (x_10.getD ((((((j_9 - 1)).toNat / 2) : Nat) : Int)).toNat default)).length) (x_10c))].toArray 107) :: ((r3, Obj.cells [(Value.int .i64 (t.addr)), (Value.int .i64 (t.port))].toArray 39) :: ((r2, Obj.cells [(Value.int .i64 (t.addr)), (Value.int .i64 (t.port))].toArray 39) :: ((r1, Obj.cells [(Value.int .i64 (t.addr)), (Value.int .i64 (t.port))].toArray 39) :: []))))))))))))))))) (by simp only [List.length_set]) ?_
        refine JL_nil ?_
        refine JX_seq ?_
        refine J_reg ?_
        refine JL_q (q_move) (k := ?_)
        refine JL_q (q_assign) (k := ?_)
        refine JL_nil ?_
        refine JX_block ?_
        exact JX_inv6 n_11 (((((j_9 - 1)).toNat / 2) : Nat) : Int) ((x_10.set ((((((j_9 - 1)).toNat / 2) : Nat) : Int)).toNat (x_10.getD (j_9).toNat default)).set (j_9).toNat (x_10.getD ((((((j_9 - 1)).toNat / 2) : Nat) : Int)).toNat default)) x_10a x_10c B1_1 ⟨by omega, ((hF12.neg hq12).neg hq13), ho_1, (by first | omega | (simp only [List.length_set]; omega)), (by first | assumption | (simp only [List.length_set]; assumption)), (by exact all_swap (by assumption) (by omega) (by omega))⟩ (Nat.lt_succ_self _) se (List.Perm.refl _)
      refine J_exit ?_
      refine JX_seq_exit ?_
      refine JX_block_miss rfl ?_
      refine JX_inv_exit ?_
      refine JX_block_hit ?_
      refine JX_endI Tryz.results108 Res.nil ?_
      refine JL_nil ?_
      refine JX_endI Tryz.results67 Res.nil ?_
      refine JL_nil ?_
      refine JX_block ?_
      refine JX_roundI (qc (qa q0)) ?_
      refine JL_qg (q_not) (k := ?_)
      refine JL_q (q_pickT) (k := ?_)
      refine JL_nil ?_
      refine JX_seq ?_
      refine J_false rfl ?_
      refine J_skip ?_
      refine JX_block ?_
      refine JX_roundI (qa (qc (qa q0))) ?_
      refine JL_q (q_not) (k := ?_)
      refine JL_nil ?_
      refine JX_seq ?_
      refine J_false rfl ?_
      refine J_skip ?_
      refine JX_block ?_
      refine JX_seq ?_
      refine J_reg ?_
      refine JL_q (q_move) (k := ?_)
      refine JL_q (q_sub) (k := ?_)
      refine JL_q (q_assign) (k := ?_)
      refine JL_nil ?_
      refine JX_permL _ ((((((((((((((qa (qa (qc (qa (qa (qa (qa (qa (qa (qa (qa (qa (qa (qa (qa q0))))))))))))))).trans (qa (qa (qa (qc (qa (qa (qa (qa (qa (qa (qa (qa (qa (qa (qa q0)))))))))))))))).trans (qa (qa (qa (qa (qc (qa (qa (qa (qa (qa (qa (qa (qa (qa (qa q0)))))))))))))))).trans (qa (qa (qa (qa (qa (qc (qa (qa (qa (qa (qa (qa (qa (qa (qa q0)))))))))))))))).trans (qa (qa (qa (qa (qa (qa (qc (qa (qa (qa (qa (qa (qa (qa (qa q0)))))))))))))))).trans (qa (qa (qa (qa (qa (qa (qa (qc (qa (qa (qa (qa (qa (qa (qa q0)))))))))))))))).trans (qa (qa (qa (qa (qa (qa (qa (qa (qc (qa (qa (qa (qa (qa (qa q0)))))))))))))))).trans (qa (qa (qa (qa (qa (qa (qa (qa (qa (qc (qa (qa (qa (qa (qa q0)))))))))))))))).trans (qa (qa (qa (qa (qa (qa (qa (qa (qa q0)))))))))).trans (qa (qa (qa (qa (qa (qa (qa (qa (qa (qa (qc (qa (qa (qa (qa q0)))))))))))))))).trans (qa (qa (qa (qa (qa (qa (qa (qa (qa (qa (qa (qc (qa (qa (qa q0)))))))))))))))).trans (qa (qa (qa (qa (qa (qa (qa (qa (qa (qa (qa (qa (qc (qa (qa q0)))))))))))))))).trans (qa (qa (qa (qa (qa (qa (qa (qa (qa (qa (qa (qa q0))))))))))))).trans (qb (qb (qb (qb (qb (qb (qb (qb (qb (qb (qb (qb (qb q0)))))))))))))) ?_
      refine JX_subL _ (List.Sublist.append (List.Sublist.refl _) (List.Sublist.cons_cons _ (List.Sublist.cons_cons _ (List.Sublist.cons_cons _ (List.Sublist.cons_cons _ (List.Sublist.cons_cons _ (List.Sublist.cons_cons _ (List.Sublist.cons_cons _ (List.Sublist.cons_cons _ (List.Sublist.cons_cons _ (List.Sublist.cons_cons _ (List.Sublist.cons_cons _ (List.Sublist.cons_cons _ (List.Sublist.cons_cons _ (List.nil_sublist _))))))))))))))) ?_
      exact JX_inv6 n_3 (i_1 - 1) x_10 x_10a x_10c x_10B ⟨by omega, (((hF4.pos hq10).t hq11).rn2 ((hF12.neg hq12).pos hq13)), hx_10, (by omega), (by first | omega | (simp only [List.length_append, List.length_set, List.length_cons, List.length_nil]; omega)), (by assumption)⟩ (Nat.lt_succ_self _) se (List.Perm.refl _)

theorem aclInsert_ok (w : World) {l_a : Option Addr} {l_c : Nat} {ea0 : Addr} {ea1 : Addr} {ea2 : Addr} {ea3 : Addr} {ea4 : Addr} {ea5 : Addr} {l : List Rule} {at_ : Int} {r : Rule} (h_l : Sl w eRule 5 l_a l) (n_l : l.length ≤ 1000) (hG : Gl w) (hE : Er w ea0 ea1 ea2 ea3 ea4 ea5) : Calls Tryz.prog 18 (List.toArray [(Value.slice (l_a) (l.length) (l_c)), (Value.int .i64 (at_)), (Value.agg [(Value.bool (r.allow)), (Value.int .i64 (r.pfx.addr)), (Value.int .i64 (r.pfx.bits)), (Value.int .i64 (r.prt.lo)), (Value.int .i64 (r.prt.hi))].toArray)]) w fun e w2 => ∃ a1 : Option Addr, ∃ c1 : Nat, ∃ B1 : Heap, e = .returned (Value.tuple [(Value.slice (a1) ((aclInsert l at_ r).1.length) (c1)), (Value.int .i64 (((aclInsert l at_ r).2)))].toArray) ∧ Fresh w w2 B1 ∧ OwnB eRule 5 27 a1 c1 B1 (aclInsert l at_ r).1 ∧ (aclInsert l at_ r).1.length ≤ 1000 := by
  have hF := Is.refl (aclInsert l at_ r)
  refine enter Tryz.func18 Tryz.ntmps18 (h := ?_)
  refine J_seq ?_
  refine J_reg ?_
  refine JL_a noMk (a_box (l := [_, _, _, _, _])) (k := fun r1 hr1 => ?_)
  refine JL_q (q_assign) (k := ?_)
  refine JL_q (q_assign) (k := ?_)
  refine JL_nil ?_
  refine JX_seq ?_
  refine J_seq ?_
  refine J_block ?_
  refine J_seq ?_
  refine J_reg ?_
  refine JL_q (q_move) (k := ?_)
  refine JL_v (args := [(Value.slice (l_a) (l.length) (l_c))]) (c_callA Tryz.call15) (fun w1 hw1 => aclRight_ok w1 (l := l) (h_l := (SlJ.of_base h_l) w1 hw1) (n_l := by first | exact lb | decide)) (k := ?_)
  refine JL_q (q_not) (k := ?_)
  refine JL_q (q_assign) (k := ?_)
  refine JL_nil ?_
  refine JX_seq ?_
  refine J_cond rfl (fun hq1 => ?_) (fun hq1 => ?_)
  · refine J_seq ?_
    refine J_reg ?_
    obtain ⟨Thgl2, fhgl2, hgl2⟩ := hE.v2
    refine JL_q (q_loadB Tryz.isAgg57 hgl2) (k := ?_)
    refine JL_inl (args := [(Value.iface 242 (.pointer (some ea2)))]) (c_callA Tryz.call30) Tryz.func30 Tryz.ntmps30 ?_
    refine J_seq ?_
    refine J_reg ?_
    refine JL_q (q_assign) (k := ?_)
    refine JL_nil ?_
    refine JX_seq ?_
    refine J_seq ?_
    refine J_block ?_
    refine J_seq ?_
    refine J_reg ?_
    refine JL_q (q_move) (k := ?_)
    obtain ⟨Thgl3, fhgl3, hgl3⟩ := hE.v2
    refine JL_q (q_loadB Tryz.isAgg57 hgl3) (k := ?_)
    refine JL_v (args := [(Value.iface 242 (.pointer (some ea2))), (Value.iface 242 (.pointer (some ea2)))]) (c_callA Tryz.call54) (fun w1 hw1 => is_same_v w1) (k := ?_)
    refine JL_q (q_assign) (k := ?_)
    refine JL_nil ?_
    refine JX_seq ?_
    refine J_true rfl ?_
    refine J_seq ?_
    refine J_reg ?_
    refine JL_q (q_assign) (k := ?_)
    refine JL_nil ?_
    refine JX_seq ?_
    refine J_ret ?_
    refine JX_block_ret ?_
    refine JX_seq_ret ?_
    refine JX_retI Tryz.results30 (Res.tmp rfl Res.nil) ?_
    refine JL_q (q_assign) (k := ?_)
    refine JL_q (q_assign) (k := ?_)
    refine JL_nil ?_
    refine JX_seq ?_
    refine J_ret ?_
    refine JX_block_ret ?_
    refine JX_seq_ret ?_
    refine JX_ret Tryz.results18 (Res.tmp rfl (Res.tmp rfl Res.nil)) (fun w1 hw1 => ?_)
    exact ⟨none, 0, [], (by rw [((hF.t hq1)).eq] <;> first | rfl | (simp only [List.length_set] <;> rfl)), (hw1.fresh_out.sub (List.nil_sublist _)), (by rw [((hF.t hq1)).eq]; exact OwnB.nil), (by rw [((hF.t hq1)).eq]; first | omega | (simp; done) | (rw [insL_length (by omega)]; omega))⟩
  refine J_seq ?_
  refine J_reg ?_
  refine JL_q (q_loadA Tryz.isAgg27 Tryz.sizeOf27) (k := ?_)
  refine JL_q (q_build (cs := [_, _, _, _, _]) Tryz.zeroValue54 PL_54) (k := ?_)
  refine JL_v (args := [(Value.agg [(Value.bool (r.allow)), (Value.int .i64 (r.pfx.addr)), (Value.int .i64 (r.pfx.bits)), (Value.int .i64 (r.prt.lo)), (Value.int .i64 (r.prt.hi))].toArray)]) (c_callA Tryz.call29) (fun w1 hw1 => aclOne_ok w1 (r := r)) (k := ?_)
  refine JL_q (q_not) (k := ?_)
  refine JL_q (q_assign) (k := ?_)
  refine JL_nil ?_
  refine JX_seq ?_
  refine J_cond rfl (fun hq4 => ?_) (fun hq4 => ?_)
  · refine J_seq ?_
    refine J_reg ?_
    obtain ⟨Thgl5, fhgl5, hgl5⟩ := hE.v3
    refine JL_q (q_loadB Tryz.isAgg57 hgl5) (k := ?_)
    refine JL_inl (args := [(Value.iface 242 (.pointer (some ea3)))]) (c_callA Tryz.call30) Tryz.func30 Tryz.ntmps30 ?_
    refine J_seq ?_
    refine J_reg ?_
    refine JL_q (q_assign) (k := ?_)
    refine JL_nil ?_
    refine JX_seq ?_
    refine J_seq ?_
    refine J_block ?_
    refine J_seq ?_
    refine J_reg ?_
    refine JL_q (q_move) (k := ?_)
    obtain ⟨Thgl6, fhgl6, hgl6⟩ := hE.v2
    refine JL_q (q_loadB Tryz.isAgg57 hgl6) (k := ?_)
    refine JL_v (args := [(Value.iface 242 (.pointer (some ea3))), (Value.iface 242 (.pointer (some ea2)))]) (c_callA Tryz.call54) (fun w1 hw1 => is_other_v w1 hE.n3_2 (hE.ext hw1.ext_out).b3 (hE.ext hw1.ext_out).b2) (k := ?_)
    refine JL_q (q_assign) (k := ?_)
    refine JL_nil ?_
    refine JX_seq ?_
    refine J_false rfl ?_
    refine J_seq ?_
    refine J_reg ?_
    refine JL_q (q_move) (k := ?_)
    obtain ⟨Thgl7, fhgl7, hgl7⟩ := hE.v3
    refine JL_q (q_loadB Tryz.isAgg57 hgl7) (k := ?_)
    refine JL_v (args := [(Value.iface 242 (.pointer (some ea3))), (Value.iface 242 (.pointer (some ea3)))]) (c_callA Tryz.call54) (fun w1 hw1 => is_same_v w1) (k := ?_)
    refine JL_q (q_assign) (k := ?_)
    refine JL_nil ?_
    refine JX_seq ?_
    refine J_true rfl ?_
    refine J_seq ?_
    refine J_reg ?_
    refine JL_q (q_assign) (k := ?_)
    refine JL_nil ?_
    refine JX_seq ?_
    refine J_ret ?_
    refine JX_block_ret ?_
    refine JX_seq_ret ?_
    refine JX_retI Tryz.results30 (Res.tmp rfl Res.nil) ?_
    refine JL_q (q_assign) (k := ?_)
    refine JL_q (q_assign) (k := ?_)
    refine JL_nil ?_
    refine JX_seq ?_
    refine J_ret ?_
    refine JX_block_ret ?_
    refine JX_seq_ret ?_
    refine JX_ret Tryz.results18 (Res.tmp rfl (Res.tmp rfl Res.nil)) (fun w1 hw1 => ?_)
    exact ⟨none, 0, [], (by rw [(((hF.f hq1).t hq4)).eq] <;> first | rfl | (simp only [List.length_set] <;> rfl)), (hw1.fresh_out.sub (List.nil_sublist _)), (by rw [(((hF.f hq1).t hq4)).eq]; exact OwnB.nil), (by rw [(((hF.f hq1).t hq4)).eq]; first | omega | (simp; done) | (rw [insL_length (by omega)]; omega))⟩
  refine J_seq ?_
  refine J_reg ?_
  refine JL_q (q_move) (k := ?_)
  refine JL_q (q_lss) (k := ?_)
  refine JL_q (q_move) (k := ?_)
  refine JL_dec 24 rfl (fun hq8 => ?_) (fun hq8 => ?_)
  · refine JL_skips 4 rfl ?_
    refine JL_q (q_pickT) (k := ?_)
    refine JL_q (q_move) (k := ?_)
    refine JL_skips 3 rfl ?_
    refine JL_q (q_pickT) (k := ?_)
    refine JL_q (q_assign) (k := ?_)
    refine JL_nil ?_
    refine JX_seq ?_
    refine J_true rfl ?_
    refine J_seq ?_
    refine J_reg ?_
    obtain ⟨Thgl9, fhgl9, hgl9⟩ := hE.v4
    refine JL_q (q_loadB Tryz.isAgg57 hgl9) (k := ?_)
    refine JL_inl (args := [(Value.iface 242 (.pointer (some ea4)))]) (c_callA Tryz.call30) Tryz.func30 Tryz.ntmps30 ?_
    refine J_seq ?_
    refine J_reg ?_
    refine JL_q (q_assign) (k := ?_)
    refine JL_nil ?_
    refine JX_seq ?_
    refine J_seq ?_
    refine J_block ?_
    refine J_seq ?_
    refine J_reg ?_
    refine JL_q (q_move) (k := ?_)
    obtain ⟨Thgl10, fhgl10, hgl10⟩ := hE.v2
    refine JL_q (q_loadB Tryz.isAgg57 hgl10) (k := ?_)
    refine JL_v (args := [(Value.iface 242 (.pointer (some ea4))), (Value.iface 242 (.pointer (some ea2)))]) (c_callA Tryz.call54) (fun w1 hw1 => is_other_v w1 hE.n4_2 (hE.ext hw1.ext_out).b4 (hE.ext hw1.ext_out).b2) (k := ?_)
    refine JL_q (q_assign) (k := ?_)
    refine JL_nil ?_
    refine JX_seq ?_
    refine J_false rfl ?_
    refine J_seq ?_
    refine J_reg ?_
    refine JL_q (q_move) (k := ?_)
    obtain ⟨Thgl11, fhgl11, hgl11⟩ := hE.v3
    refine JL_q (q_loadB Tryz.isAgg57 hgl11) (k := ?_)
    refine JL_v (args := [(Value.iface 242 (.pointer (some ea4))), (Value.iface 242 (.pointer (some ea3)))]) (c_callA Tryz.call54) (fun w1 hw1 => is_other_v w1 hE.n4_3 (hE.ext hw1.ext_out).b4 (hE.ext hw1.ext_out).b3) (k := ?_)
    refine JL_q (q_assign) (k := ?_)
    refine JL_nil ?_
    refine JX_seq ?_
    refine J_false rfl ?_
    refine J_seq ?_
    refine J_reg ?_
    refine JL_q (q_move) (k := ?_)
    obtain ⟨Thgl12, fhgl12, hgl12⟩ := hE.v4
    refine JL_q (q_loadB Tryz.isAgg57 hgl12) (k := ?_)
    refine JL_v (args := [(Value.iface 242 (.pointer (some ea4))), (Value.iface 242 (.pointer (some ea4)))]) (c_callA Tryz.call54) (fun w1 hw1 => is_same_v w1) (k := ?_)
    refine JL_q (q_assign) (k := ?_)
    refine JL_nil ?_
    refine JX_seq ?_
    refine J_true rfl ?_
    refine J_seq ?_
    refine J_reg ?_
    refine JL_q (q_assign) (k := ?_)
    refine JL_nil ?_
    refine JX_seq ?_
    refine J_ret ?_
    refine JX_block_ret ?_
    refine JX_seq_ret ?_
    refine JX_retI Tryz.results30 (Res.tmp rfl Res.nil) ?_
    refine JL_q (q_assign) (k := ?_)
    refine JL_q (q_assign) (k := ?_)
    refine JL_nil ?_
    refine JX_seq ?_
    refine J_ret ?_
    refine JX_block_ret ?_
    refine JX_seq_ret ?_
    refine JX_ret Tryz.results18 (Res.tmp rfl (Res.tmp rfl Res.nil)) (fun w1 hw1 => ?_)
    exact ⟨none, 0, [], (by rw [((((hF.f hq1).f hq4).pos hq8)).eq] <;> first | rfl | (simp only [List.length_set] <;> rfl)), (hw1.fresh_out.sub (List.nil_sublist _)), (by rw [((((hF.f hq1).f hq4).pos hq8)).eq]; exact OwnB.nil), (by rw [((((hF.f hq1).f hq4).pos hq8)).eq]; first | omega | (simp; done) | (rw [insL_length (by omega)]; omega))⟩
  refine JL_qg (q_move) (k := ?_)
  refine JL_qg (q_move) (k := ?_)
  refine JL_qg (q_lenS Tryz.runUnderlying36) (k := ?_)
  refine JL_qg (q_gtr) (k := ?_)
  refine JL_q (q_pickF) (k := ?_)
  refine JL_q (q_move) (k := ?_)
  refine JL_dec 30 rfl (fun hq13 => ?_) (fun hq13 => ?_)
  · refine JL_skips 3 rfl ?_
    refine JL_q (q_pickT) (k := ?_)
    refine JL_q (q_assign) (k := ?_)
    refine JL_nil ?_
    refine JX_seq ?_
    refine J_true rfl ?_
    refine J_seq ?_
    refine J_reg ?_
    obtain ⟨Thgl14, fhgl14, hgl14⟩ := hE.v4
    refine JL_q (q_loadB Tryz.isAgg57 hgl14) (k := ?_)
    refine JL_inl (args := [(Value.iface 242 (.pointer (some ea4)))]) (c_callA Tryz.call30) Tryz.func30 Tryz.ntmps30 ?_
    refine J_seq ?_
    refine J_reg ?_
    refine JL_q (q_assign) (k := ?_)
    refine JL_nil ?_
    refine JX_seq ?_
    refine J_seq ?_
    refine J_block ?_
    refine J_seq ?_
    refine J_reg ?_
    refine JL_q (q_move) (k := ?_)
    obtain ⟨Thgl15, fhgl15, hgl15⟩ := hE.v2
    refine JL_q (q_loadB Tryz.isAgg57 hgl15) (k := ?_)
    refine JL_v (args := [(Value.iface 242 (.pointer (some ea4))), (Value.iface 242 (.pointer (some ea2)))]) (c_callA Tryz.call54) (fun w1 hw1 => is_other_v w1 hE.n4_2 (hE.ext hw1.ext_out).b4 (hE.ext hw1.ext_out).b2) (k := ?_)
    refine JL_q (q_assign) (k := ?_)
    refine JL_nil ?_
    refine JX_seq ?_
    refine J_false rfl ?_
    refine J_seq ?_
    refine J_reg ?_
    refine JL_q (q_move) (k := ?_)
    obtain ⟨Thgl16, fhgl16, hgl16⟩ := hE.v3
    refine JL_q (q_loadB Tryz.isAgg57 hgl16) (k := ?_)
    refine JL_v (args := [(Value.iface 242 (.pointer (some ea4))), (Value.iface 242 (.pointer (some ea3)))]) (c_callA Tryz.call54) (fun w1 hw1 => is_other_v w1 hE.n4_3 (hE.ext hw1.ext_out).b4 (hE.ext hw1.ext_out).b3) (k := ?_)
    refine JL_q (q_assign) (k := ?_)
    refine JL_nil ?_
    refine JX_seq ?_
    refine J_false rfl ?_
    refine J_seq ?_
    refine J_reg ?_
    refine JL_q (q_move) (k := ?_)
    obtain ⟨Thgl17, fhgl17, hgl17⟩ := hE.v4
    refine JL_q (q_loadB Tryz.isAgg57 hgl17) (k := ?_)
    refine JL_v (args := [(Value.iface 242 (.pointer (some ea4))), (Value.iface 242 (.pointer (some ea4)))]) (c_callA Tryz.call54) (fun w1 hw1 => is_same_v w1) (k := ?_)
    refine JL_q (q_assign) (k := ?_)
    refine JL_nil ?_
    refine JX_seq ?_
    refine J_true rfl ?_
    refine J_seq ?_
    refine J_reg ?_
    refine JL_q (q_assign) (k := ?_)
    refine JL_nil ?_
    refine JX_seq ?_
    refine J_ret ?_
    refine JX_block_ret ?_
    refine JX_seq_ret ?_
    refine JX_retI Tryz.results30 (Res.tmp rfl Res.nil) ?_
    refine JL_q (q_assign) (k := ?_)
    refine JL_q (q_assign) (k := ?_)
    refine JL_nil ?_
    refine JX_seq ?_
    refine J_ret ?_
    refine JX_block_ret ?_
    refine JX_seq_ret ?_
    refine JX_ret Tryz.results18 (Res.tmp rfl (Res.tmp rfl Res.nil)) (fun w1 hw1 => ?_)
    exact ⟨none, 0, [], (by rw [(((((hF.f hq1).f hq4).neg hq8).pos hq13)).eq] <;> first | rfl | (simp only [List.length_set] <;> rfl)), (hw1.fresh_out.sub (List.nil_sublist _)), (by rw [(((((hF.f hq1).f hq4).neg hq8).pos hq13)).eq]; exact OwnB.nil), (by rw [(((((hF.f hq1).f hq4).neg hq8).pos hq13)).eq]; first | omega | (simp; done) | (rw [insL_length (by omega)]; omega))⟩
  refine JL_qg (q_move) (k := ?_)
  refine JL_qg (q_lenS Tryz.runUnderlying36) (k := ?_)
  refine JL_qg (q_geq) (k := ?_)
  refine JL_q (q_pickF) (k := ?_)
  refine JL_q (q_assign) (k := ?_)
  refine JL_nil ?_
  refine JX_seq ?_
  refine J_dec rfl (fun hq18 => ?_) (fun hq18 => ?_)
  rotate_left
  · refine J_skip ?_
    refine JX_block ?_
    refine JX_seq ?_
    refine J_seq ?_
    refine J_any (V := []) mixed 8 (by kernel_rfl) ?_
    refine JG_q 0 rfl (by kernel_rfl) (q_move) (k := ?_)
    refine JG_q 2 rfl (by kernel_rfl) (q_move) (k := ?_)
    refine JG_q 3 rfl (by kernel_rfl) (q_loadA Tryz.isAgg27 Tryz.sizeOf27) (k := ?_)
    refine JG_br [1, 4] (by kernel_rfl) rfl (List.forall_mem_cons.2 ⟨?_, (List.forall_mem_cons.2 ⟨?_, nofun⟩)⟩)
    · skip
      refine JO_pV rfl (args := [(Value.slice (l_a) (l.length) (l_c))]) (c_callA Tryz.call40) (fun w1 hw1 => ruClone_ok w1 (s := l) (h_s := (SlJ.of_base h_l) w1 hw1) (n_s := by first | exact lb | decide)) (k := ?_)
      rintro w1_41 e1_41 w2_41 hw1_41 ⟨a1_41, c1_41, B1_41, he_41, hf_41, ho1_41⟩
      refine ⟨_, _, (B1_41 ++ []), he_41, hf_41, rfl, ?_⟩
      refine JG_br [4] (by kernel_rfl) rfl (List.forall_mem_cons.2 ⟨?_, nofun⟩)
      · skip
        refine JO_a rfl noMk (a_bslice (l := [_, _, _, _, _]) Tryz.runUnderlying36 Tryz.sizeOf27 Tryz.zeroValue27) (k := fun r102 hr102 => ?_)
        refine JG_br [5] (by kernel_rfl) rfl (List.forall_mem_cons.2 ⟨?_, nofun⟩)
        · skip
          refine JO_m rfl (args := [(Value.slice (a1_41) ((l).length) (c1_41)), (Value.int .i64 (at_)), (Value.slice (some ⟨r102, 0, none⟩) (1) (1))]) (c_callA Tryz.call39) (fun w1 hw1 => ruInsert_ok w1 (s := (l)) (i := at_) (x := r) (o_s := ho1_41) (b_s := fun p hp => hw1.own p (by first | exact hp | (simp [hp]; done))) (n_s := by first | exact lb | decide) (h_v := (SlJ.lit (xs := ([r] : List Rule)) eRule_ok) w1 hw1.right) (d_v := (hw1.notIn (List.Perm.trans (List.Perm.of_eq (by simp only [List.append_assoc, List.cons_append, List.nil_append])) (show List.Perm (B1_41 ++ ((r102, Obj.cells [(Value.bool (r.allow)), (Value.int .i64 (r.pfx.addr)), (Value.int .i64 (r.pfx.bits)), (Value.int .i64 (r.prt.lo)), (Value.int .i64 (r.prt.hi))].toArray 27) :: ((r1, Obj.cells [(Value.bool (r.allow)), (Value.int .i64 (r.pfx.addr)), (Value.int .i64 (r.pfx.bits)), (Value.int .i64 (r.prt.lo)), (Value.int .i64 (r.prt.hi))].toArray 27) :: []))) ((r102, Obj.cells [(Value.bool (r.allow)), (Value.int .i64 (r.pfx.addr)), (Value.int .i64 (r.pfx.bits)), (Value.int .i64 (r.prt.lo)), (Value.int .i64 (r.prt.hi))].toArray 27) :: (B1_41 ++ ((r1, Obj.cells [(Value.bool (r.allow)), (Value.int .i64 (r.pfx.addr)), (Value.int .i64 (r.pfx.bits)), (Value.int .i64 (r.prt.lo)), (Value.int .i64 (r.prt.hi))].toArray 27) :: []))) from (q0.trans (qc q0)))))) (e_v := ⟨r102, _, _, rfl, hw1.own (r102, Obj.cells [(Value.bool (r.allow)), (Value.int .i64 (r.pfx.addr)), (Value.int .i64 (r.pfx.bits)), (Value.int .i64 (r.prt.lo)), (Value.int .i64 (r.prt.hi))].toArray 27) (by simp), fun hk => (hw1.notIn (List.Perm.trans (List.Perm.of_eq (by simp only [List.append_assoc, List.cons_append, List.nil_append])) (show List.Perm (B1_41 ++ ((r102, Obj.cells [(Value.bool (r.allow)), (Value.int .i64 (r.pfx.addr)), (Value.int .i64 (r.pfx.bits)), (Value.int .i64 (r.prt.lo)), (Value.int .i64 (r.prt.hi))].toArray 27) :: ((r1, Obj.cells [(Value.bool (r.allow)), (Value.int .i64 (r.pfx.addr)), (Value.int .i64 (r.pfx.bits)), (Value.int .i64 (r.prt.lo)), (Value.int .i64 (r.prt.hi))].toArray 27) :: []))) ((r102, Obj.cells [(Value.bool (r.allow)), (Value.int .i64 (r.pfx.addr)), (Value.int .i64 (r.pfx.bits)), (Value.int .i64 (r.prt.lo)), (Value.int .i64 (r.prt.hi))].toArray 27) :: (B1_41 ++ ((r1, Obj.cells [(Value.bool (r.allow)), (Value.int .i64 (r.pfx.addr)), (Value.int .i64 (r.pfx.bits)), (Value.int .i64 (r.prt.lo)), (Value.int .i64 (r.prt.hi))].toArray 27) :: []))) from (q0.trans (qc q0))))) r102 hk ⟨r102, 0, none⟩ rfl (List.cons_ne_nil (0 : Nat) []) rfl⟩) (hi := by first | exact lb | decide)) (k := ?_)
          rintro w1_121 e1_121 w2_121 hw1_121 ⟨a1_121, c1_121, B1_121, he_121, hf_121, ho1_121⟩
          refine ⟨_, (B1_121 ++ []), he_121, by simpa using ((hw1_121.perm (List.Perm.of_eq (by simp only [List.append_assoc, List.nil_append]))).tr hf_121), ?_⟩
          refine JG_q 6 rfl (by kernel_rfl) (q_assign) (k := ?_)
          refine JG_q 7 rfl (by kernel_rfl) (q_assign) (k := ?_)
          refine JG_nil (by kernel_rfl) _ ?_
          refine JL_eqL (L' := (B1_121 ++ ((r102, Obj.cells [(Value.bool (r.allow)), (Value.int .i64 (r.pfx.addr)), (Value.int .i64 (r.pfx.bits)), (Value.int .i64 (r.prt.lo)), (Value.int .i64 (r.prt.hi))].toArray 27) :: ((r1, Obj.cells [(Value.bool (r.allow)), (Value.int .i64 (r.pfx.addr)), (Value.int .i64 (r.pfx.bits)), (Value.int .i64 (r.prt.lo)), (Value.int .i64 (r.prt.hi))].toArray 27) :: [])))) (by simp only [List.append_nil, List.append_assoc, List.cons_append, List.nil_append]) ?_
          refine JL_nil ?_
          refine JX_seq ?_
          refine J_ret ?_
          refine JX_ret Tryz.results18 (Res.tmp rfl (Res.tmp rfl Res.nil)) (fun w1 hw1 => ?_)
          exact ⟨a1_121, c1_121, B1_121, (by rw [((((((hF.f hq1).f hq4).neg hq8).neg hq13).neg hq18)).eq] <;> first | rfl | (simp only [List.length_set] <;> rfl)), (fresh_segs (L := B1_121) (R := ((r102, Obj.cells [(Value.bool (r.allow)), (Value.int .i64 (r.pfx.addr)), (Value.int .i64 (r.pfx.bits)), (Value.int .i64 (r.prt.lo)), (Value.int .i64 (r.prt.hi))].toArray 27) :: ((r1, Obj.cells [(Value.bool (r.allow)), (Value.int .i64 (r.pfx.addr)), (Value.int .i64 (r.pfx.bits)), (Value.int .i64 (r.prt.lo)), (Value.int .i64 (r.prt.hi))].toArray 27) :: []))) (hw1.perm (List.Perm.refl _)) (by simp)), (by rw [((((((hF.f hq1).f hq4).neg hq8).neg hq13).neg hq18)).eq]; exact ho1_121), (by rw [((((((hF.f hq1).f hq4).neg hq8).neg hq13).neg hq18)).eq]; first | omega | (simp; done) | (rw [insL_length (by omega)]; omega))⟩
    · skip
      refine JO_a rfl noMk (a_bslice (l := [_, _, _, _, _]) Tryz.runUnderlying36 Tryz.sizeOf27 Tryz.zeroValue27) (k := fun r102 hr102 => ?_)
      refine JG_br [1] (by kernel_rfl) rfl (List.forall_mem_cons.2 ⟨?_, nofun⟩)
      · skip
        refine JO_pV rfl (args := [(Value.slice (l_a) (l.length) (l_c))]) (c_callA Tryz.call40) (fun w1 hw1 => ruClone_ok w1 (s := l) (h_s := (SlJ.of_base h_l) w1 hw1) (n_s := by first | exact lb | decide)) (k := ?_)
        rintro w1_41 e1_41 w2_41 hw1_41 ⟨a1_41, c1_41, B1_41, he_41, hf_41, ho1_41⟩
        refine ⟨_, _, (B1_41 ++ []), he_41, hf_41, rfl, ?_⟩
        refine JG_br [5] (by kernel_rfl) rfl (List.forall_mem_cons.2 ⟨?_, nofun⟩)
        · skip
          refine JO_m rfl (args := [(Value.slice (a1_41) ((l).length) (c1_41)), (Value.int .i64 (at_)), (Value.slice (some ⟨r102, 0, none⟩) (1) (1))]) (c_callA Tryz.call39) (fun w1 hw1 => ruInsert_ok w1 (s := (l)) (i := at_) (x := r) (o_s := ho1_41) (b_s := fun p hp => hw1.own p (by first | exact hp | (simp [hp]; done))) (n_s := by first | exact lb | decide) (h_v := (SlJ.lit (xs := ([r] : List Rule)) eRule_ok) w1 hw1.right) (d_v := (hw1.notIn (List.Perm.trans (List.Perm.of_eq (by simp only [List.append_assoc, List.cons_append, List.nil_append])) (show List.Perm (B1_41 ++ ((r102, Obj.cells [(Value.bool (r.allow)), (Value.int .i64 (r.pfx.addr)), (Value.int .i64 (r.pfx.bits)), (Value.int .i64 (r.prt.lo)), (Value.int .i64 (r.prt.hi))].toArray 27) :: ((r1, Obj.cells [(Value.bool (r.allow)), (Value.int .i64 (r.pfx.addr)), (Value.int .i64 (r.pfx.bits)), (Value.int .i64 (r.prt.lo)), (Value.int .i64 (r.prt.hi))].toArray 27) :: []))) ((r102, Obj.cells [(Value.bool (r.allow)), (Value.int .i64 (r.pfx.addr)), (Value.int .i64 (r.pfx.bits)), (Value.int .i64 (r.prt.lo)), (Value.int .i64 (r.prt.hi))].toArray 27) :: (B1_41 ++ ((r1, Obj.cells [(Value.bool (r.allow)), (Value.int .i64 (r.pfx.addr)), (Value.int .i64 (r.pfx.bits)), (Value.int .i64 (r.prt.lo)), (Value.int .i64 (r.prt.hi))].toArray 27) :: []))) from (q0.trans (qc q0)))))) (e_v := ⟨r102, _, _, rfl, hw1.own (r102, Obj.cells [(Value.bool (r.allow)), (Value.int .i64 (r.pfx.addr)), (Value.int .i64 (r.pfx.bits)), (Value.int .i64 (r.prt.lo)), (Value.int .i64 (r.prt.hi))].toArray 27) (by simp), fun hk => (hw1.notIn (List.Perm.trans (List.Perm.of_eq (by simp only [List.append_assoc, List.cons_append, List.nil_append])) (show List.Perm (B1_41 ++ ((r102, Obj.cells [(Value.bool (r.allow)), (Value.int .i64 (r.pfx.addr)), (Value.int .i64 (r.pfx.bits)), (Value.int .i64 (r.prt.lo)), (Value.int .i64 (r.prt.hi))].toArray 27) :: ((r1, Obj.cells [(Value.bool (r.allow)), (Value.int .i64 (r.pfx.addr)), (Value.int .i64 (r.pfx.bits)), (Value.int .i64 (r.prt.lo)), (Value.int .i64 (r.prt.hi))].toArray 27) :: []))) ((r102, Obj.cells [(Value.bool (r.allow)), (Value.int .i64 (r.pfx.addr)), (Value.int .i64 (r.pfx.bits)), (Value.int .i64 (r.prt.lo)), (Value.int .i64 (r.prt.hi))].toArray 27) :: (B1_41 ++ ((r1, Obj.cells [(Value.bool (r.allow)), (Value.int .i64 (r.pfx.addr)), (Value.int .i64 (r.pfx.bits)), (Value.int .i64 (r.prt.lo)), (Value.int .i64 (r.prt.hi))].toArray 27) :: []))) from (q0.trans (qc q0))))) r102 hk ⟨r102, 0, none⟩ rfl (List.cons_ne_nil (0 : Nat) []) rfl⟩) (hi := by first | exact lb | decide)) (k := ?_)
          rintro w1_121 e1_121 w2_121 hw1_121 ⟨a1_121, c1_121, B1_121, he_121, hf_121, ho1_121⟩
          refine ⟨_, (B1_121 ++ []), he_121, by simpa using ((hw1_121.perm (List.Perm.of_eq (by simp only [List.append_assoc, List.nil_append]))).tr hf_121), ?_⟩
          refine JG_q 6 rfl (by kernel_rfl) (q_assign) (k := ?_)
          refine JG_q 7 rfl (by kernel_rfl) (q_assign) (k := ?_)
          refine JG_nil (by kernel_rfl) _ ?_
          refine JL_eqL (L' := (B1_121 ++ ((r102, Obj.cells [(Value.bool (r.allow)), (Value.int .i64 (r.pfx.addr)), (Value.int .i64 (r.pfx.bits)), (Value.int .i64 (r.prt.lo)), (Value.int .i64 (r.prt.hi))].toArray 27) :: ((r1, Obj.cells [(Value.bool (r.allow)), (Value.int .i64 (r.pfx.addr)), (Value.int .i64 (r.pfx.bits)), (Value.int .i64 (r.prt.lo)), (Value.int .i64 (r.prt.hi))].toArray 27) :: [])))) (by simp only [List.append_nil, List.append_assoc, List.cons_append, List.nil_append]) ?_
          refine JL_nil ?_
          refine JX_seq ?_
          refine J_ret ?_
          refine JX_ret Tryz.results18 (Res.tmp rfl (Res.tmp rfl Res.nil)) (fun w1 hw1 => ?_)
          exact ⟨a1_121, c1_121, B1_121, (by rw [((((((hF.f hq1).f hq4).neg hq8).neg hq13).neg hq18)).eq] <;> first | rfl | (simp only [List.length_set] <;> rfl)), (fresh_segs (L := B1_121) (R := ((r102, Obj.cells [(Value.bool (r.allow)), (Value.int .i64 (r.pfx.addr)), (Value.int .i64 (r.pfx.bits)), (Value.int .i64 (r.prt.lo)), (Value.int .i64 (r.prt.hi))].toArray 27) :: ((r1, Obj.cells [(Value.bool (r.allow)), (Value.int .i64 (r.pfx.addr)), (Value.int .i64 (r.pfx.bits)), (Value.int .i64 (r.prt.lo)), (Value.int .i64 (r.prt.hi))].toArray 27) :: []))) (hw1.perm (List.Perm.refl _)) (by simp)), (by rw [((((((hF.f hq1).f hq4).neg hq8).neg hq13).neg hq18)).eq]; exact ho1_121), (by rw [((((((hF.f hq1).f hq4).neg hq8).neg hq13).neg hq18)).eq]; first | omega | (simp; done) | (rw [insL_length (by omega)]; omega))⟩
  refine J_seq ?_
  refine J_reg ?_
  obtain ⟨Thgl19, fhgl19, hgl19⟩ := hE.v4
  refine JL_q (q_loadB Tryz.isAgg57 hgl19) (k := ?_)
  refine JL_inl (args := [(Value.iface 242 (.pointer (some ea4)))]) (c_callA Tryz.call30) Tryz.func30 Tryz.ntmps30 ?_
  refine J_seq ?_
  refine J_reg ?_
  refine JL_q (q_assign) (k := ?_)
  refine JL_nil ?_
  refine JX_seq ?_
  refine J_seq ?_
  refine J_block ?_
  refine J_seq ?_
  refine J_reg ?_
  refine JL_q (q_move) (k := ?_)
  obtain ⟨Thgl20, fhgl20, hgl20⟩ := hE.v2
  refine JL_q (q_loadB Tryz.isAgg57 hgl20) (k := ?_)
  refine JL_v (args := [(Value.iface 242 (.pointer (some ea4))), (Value.iface 242 (.pointer (some ea2)))]) (c_callA Tryz.call54) (fun w1 hw1 => is_other_v w1 hE.n4_2 (hE.ext hw1.ext_out).b4 (hE.ext hw1.ext_out).b2) (k := ?_)
  refine JL_q (q_assign) (k := ?_)
  refine JL_nil ?_
  refine JX_seq ?_
  refine J_false rfl ?_
  refine J_seq ?_
  refine J_reg ?_
  refine JL_q (q_move) (k := ?_)
  obtain ⟨Thgl21, fhgl21, hgl21⟩ := hE.v3
  refine JL_q (q_loadB Tryz.isAgg57 hgl21) (k := ?_)
  refine JL_v (args := [(Value.iface 242 (.pointer (some ea4))), (Value.iface 242 (.pointer (some ea3)))]) (c_callA Tryz.call54) (fun w1 hw1 => is_other_v w1 hE.n4_3 (hE.ext hw1.ext_out).b4 (hE.ext hw1.ext_out).b3) (k := ?_)
  refine JL_q (q_assign) (k := ?_)
  refine JL_nil ?_
  refine JX_seq ?_
  refine J_false rfl ?_
  refine J_seq ?_
  refine J_reg ?_
  refine JL_q (q_move) (k := ?_)
  obtain ⟨Thgl22, fhgl22, hgl22⟩ := hE.v4
  refine JL_q (q_loadB Tryz.isAgg57 hgl22) (k := ?_)
  refine JL_v (args := [(Value.iface 242 (.pointer (some ea4))), (Value.iface 242 (.pointer (some ea4)))]) (c_callA Tryz.call54) (fun w1 hw1 => is_same_v w1) (k := ?_)
  refine JL_q (q_assign) (k := ?_)
  refine JL_nil ?_
  refine JX_seq ?_
  refine J_true rfl ?_
  refine J_seq ?_
  refine J_reg ?_
  refine JL_q (q_assign) (k := ?_)
  refine JL_nil ?_
  refine JX_seq ?_
  refine J_ret ?_
  refine JX_block_ret ?_
  refine JX_seq_ret ?_
  refine JX_retI Tryz.results30 (Res.tmp rfl Res.nil) ?_
  refine JL_q (q_assign) (k := ?_)
  refine JL_q (q_assign) (k := ?_)
  refine JL_nil ?_
  refine JX_seq ?_
  refine J_ret ?_
  refine JX_block_ret ?_
  refine JX_seq_ret ?_
  refine JX_ret Tryz.results18 (Res.tmp rfl (Res.tmp rfl Res.nil)) (fun w1 hw1 => ?_)
  exact ⟨none, 0, [], (by rw [((((((hF.f hq1).f hq4).neg hq8).neg hq13).pos hq18)).eq] <;> first | rfl | (simp only [List.length_set] <;> rfl)), (hw1.fresh_out.sub (List.nil_sublist _)), (by rw [((((((hF.f hq1).f hq4).neg hq8).neg hq13).pos hq18)).eq]; exact OwnB.nil), (by rw [((((((hF.f hq1).f hq4).neg hq8).neg hq13).pos hq18)).eq]; first | omega | (simp; done) | (rw [insL_length (by omega)]; omega))⟩

theorem aclRemove_ok (w : World) {l_a : Option Addr} {l_c : Nat} {ea0 : Addr} {ea1 : Addr} {ea2 : Addr} {ea3 : Addr} {ea4 : Addr} {ea5 : Addr} {l : List Rule} {at_ : Int} (h_l : Sl w eRule 5 l_a l) (n_l : l.length ≤ 1000) (hG : Gl w) (hE : Er w ea0 ea1 ea2 ea3 ea4 ea5) : Calls Tryz.prog 26 (List.toArray [(Value.slice (l_a) (l.length) (l_c)), (Value.int .i64 (at_))]) w fun e w2 => ∃ a1 : Option Addr, ∃ c1 : Nat, ∃ B1 : Heap, e = .returned (Value.tuple [(Value.slice (a1) ((aclRemove l at_).1.length) (c1)), (Value.int .i64 (((aclRemove l at_).2)))].toArray) ∧ Fresh w w2 B1 ∧ OwnB eRule 5 27 a1 c1 B1 (aclRemove l at_).1 ∧ (aclRemove l at_).1.length ≤ 1000 := by
  have hF := Is.refl (aclRemove l at_)
  refine enter Tryz.func26 Tryz.ntmps26 (h := ?_)
  refine J_seq ?_
  refine J_reg ?_
  refine JL_q (q_assign) (k := ?_)
  refine JL_q (q_assign) (k := ?_)
  refine JL_nil ?_
  refine JX_seq ?_
  refine J_seq ?_
  refine J_block ?_
  refine J_seq ?_
  refine J_reg ?_
  refine JL_q (q_move) (k := ?_)
  refine JL_v (args := [(Value.slice (l_a) (l.length) (l_c))]) (c_callA Tryz.call15) (fun w1 hw1 => aclRight_ok w1 (l := l) (h_l := (SlJ.of_base h_l) w1 hw1) (n_l := by first | exact lb | decide)) (k := ?_)
  refine JL_q (q_not) (k := ?_)
  refine JL_q (q_assign) (k := ?_)
  refine JL_nil ?_
  refine JX_seq ?_
  refine J_cond rfl (fun hq1 => ?_) (fun hq1 => ?_)
  · refine J_seq ?_
    refine J_reg ?_
    obtain ⟨Thgl2, fhgl2, hgl2⟩ := hE.v2
    refine JL_q (q_loadB Tryz.isAgg57 hgl2) (k := ?_)
    refine JL_inl (args := [(Value.iface 242 (.pointer (some ea2)))]) (c_callA Tryz.call30) Tryz.func30 Tryz.ntmps30 ?_
    refine J_seq ?_
    refine J_reg ?_
    refine JL_q (q_assign) (k := ?_)
    refine JL_nil ?_
    refine JX_seq ?_
    refine J_seq ?_
    refine J_block ?_
    refine J_seq ?_
    refine J_reg ?_
    refine JL_q (q_move) (k := ?_)
    obtain ⟨Thgl3, fhgl3, hgl3⟩ := hE.v2
    refine JL_q (q_loadB Tryz.isAgg57 hgl3) (k := ?_)
    refine JL_v (args := [(Value.iface 242 (.pointer (some ea2))), (Value.iface 242 (.pointer (some ea2)))]) (c_callA Tryz.call54) (fun w1 hw1 => is_same_v w1) (k := ?_)
    refine JL_q (q_assign) (k := ?_)
    refine JL_nil ?_
    refine JX_seq ?_
    refine J_true rfl ?_
    refine J_seq ?_
    refine J_reg ?_
    refine JL_q (q_assign) (k := ?_)
    refine JL_nil ?_
    refine JX_seq ?_
    refine J_ret ?_
    refine JX_block_ret ?_
    refine JX_seq_ret ?_
    refine JX_retI Tryz.results30 (Res.tmp rfl Res.nil) ?_
    refine JL_q (q_assign) (k := ?_)
    refine JL_q (q_assign) (k := ?_)
    refine JL_nil ?_
    refine JX_seq ?_
    refine J_ret ?_
    refine JX_block_ret ?_
    refine JX_seq_ret ?_
    refine JX_ret Tryz.results26 (Res.tmp rfl (Res.tmp rfl Res.nil)) (fun w1 hw1 => ?_)
    exact ⟨none, 0, [], (by rw [((hF.t hq1)).eq] <;> first | rfl | (simp only [List.length_set] <;> rfl)), (hw1.fresh_out.sub (List.nil_sublist _)), (by rw [((hF.t hq1)).eq]; exact OwnB.nil), (by rw [((hF.t hq1)).eq]; first | omega | (simp; done) | (rw [delL_length (by omega) (by omega)]; omega))⟩
  refine J_seq ?_
  refine J_reg ?_
  refine JL_q (q_move) (k := ?_)
  refine JL_q (q_lss) (k := ?_)
  refine JL_q (q_move) (k := ?_)
  refine JL_dec 15 rfl (fun hq4 => ?_) (fun hq4 => ?_)
  · refine JL_skips 4 rfl ?_
    refine JL_q (q_pickT) (k := ?_)
    refine JL_q (q_assign) (k := ?_)
    refine JL_nil ?_
    refine JX_seq ?_
    refine J_true rfl ?_
    refine J_seq ?_
    refine J_reg ?_
    obtain ⟨Thgl5, fhgl5, hgl5⟩ := hE.v4
    refine JL_q (q_loadB Tryz.isAgg57 hgl5) (k := ?_)
    refine JL_inl (args := [(Value.iface 242 (.pointer (some ea4)))]) (c_callA Tryz.call30) Tryz.func30 Tryz.ntmps30 ?_
    refine J_seq ?_
    refine J_reg ?_
    refine JL_q (q_assign) (k := ?_)
    refine JL_nil ?_
    refine JX_seq ?_
    refine J_seq ?_
    refine J_block ?_
    refine J_seq ?_
    refine J_reg ?_
    refine JL_q (q_move) (k := ?_)
    obtain ⟨Thgl6, fhgl6, hgl6⟩ := hE.v2
    refine JL_q (q_loadB Tryz.isAgg57 hgl6) (k := ?_)
    refine JL_v (args := [(Value.iface 242 (.pointer (some ea4))), (Value.iface 242 (.pointer (some ea2)))]) (c_callA Tryz.call54) (fun w1 hw1 => is_other_v w1 hE.n4_2 (hE.ext hw1.ext_out).b4 (hE.ext hw1.ext_out).b2) (k := ?_)
    refine JL_q (q_assign) (k := ?_)
    refine JL_nil ?_
    refine JX_seq ?_
    refine J_false rfl ?_
    refine J_seq ?_
    refine J_reg ?_
    refine JL_q (q_move) (k := ?_)
    obtain ⟨Thgl7, fhgl7, hgl7⟩ := hE.v3
    refine JL_q (q_loadB Tryz.isAgg57 hgl7) (k := ?_)
    refine JL_v (args := [(Value.iface 242 (.pointer (some ea4))), (Value.iface 242 (.pointer (some ea3)))]) (c_callA Tryz.call54) (fun w1 hw1 => is_other_v w1 hE.n4_3 (hE.ext hw1.ext_out).b4 (hE.ext hw1.ext_out).b3) (k := ?_)
    refine JL_q (q_assign) (k := ?_)
    refine JL_nil ?_
    refine JX_seq ?_
    refine J_false rfl ?_
    refine J_seq ?_
    refine J_reg ?_
    refine JL_q (q_move) (k := ?_)
    obtain ⟨Thgl8, fhgl8, hgl8⟩ := hE.v4
    refine JL_q (q_loadB Tryz.isAgg57 hgl8) (k := ?_)
    refine JL_v (args := [(Value.iface 242 (.pointer (some ea4))), (Value.iface 242 (.pointer (some ea4)))]) (c_callA Tryz.call54) (fun w1 hw1 => is_same_v w1) (k := ?_)
    refine JL_q (q_assign) (k := ?_)
    refine JL_nil ?_
    refine JX_seq ?_
    refine J_true rfl ?_
    refine J_seq ?_
    refine J_reg ?_
    refine JL_q (q_assign) (k := ?_)
    refine JL_nil ?_
    refine JX_seq ?_
    refine J_ret ?_
    refine JX_block_ret ?_
    refine JX_seq_ret ?_
    refine JX_retI Tryz.results30 (Res.tmp rfl Res.nil) ?_
    refine JL_q (q_assign) (k := ?_)
    refine JL_q (q_assign) (k := ?_)
    refine JL_nil ?_
    refine JX_seq ?_
    refine J_ret ?_
    refine JX_block_ret ?_
    refine JX_seq_ret ?_
    refine JX_ret Tryz.results26 (Res.tmp rfl (Res.tmp rfl Res.nil)) (fun w1 hw1 => ?_)
    exact ⟨none, 0, [], (by rw [(((hF.f hq1).pos hq4)).eq] <;> first | rfl | (simp only [List.length_set] <;> rfl)), (hw1.fresh_out.sub (List.nil_sublist _)), (by rw [(((hF.f hq1).pos hq4)).eq]; exact OwnB.nil), (by rw [(((hF.f hq1).pos hq4)).eq]; first | omega | (simp; done) | (rw [delL_length (by omega) (by omega)]; omega))⟩
  refine JL_qg (q_move) (k := ?_)
  refine JL_qg (q_move) (k := ?_)
  refine JL_qg (q_lenS Tryz.runUnderlying36) (k := ?_)
  refine JL_qg (q_geq) (k := ?_)
  refine JL_q (q_pickF) (k := ?_)
  refine JL_q (q_assign) (k := ?_)
  refine JL_nil ?_
  refine JX_seq ?_
  refine J_dec rfl (fun hq9 => ?_) (fun hq9 => ?_)
  rotate_left
  · refine J_skip ?_
    refine JX_block ?_
    refine JX_seq ?_
    refine J_seq ?_
    refine J_reg ?_
    refine JL_q (q_move) (k := ?_)
    refine JL_p (args := [(Value.slice (l_a) (l.length) (l_c))]) (c_callA Tryz.call40) (fun w1 hw1 => ruClone_ok w1 (s := l) (h_s := (SlJ.of_base h_l) w1 hw1) (n_s := by first | exact lb | decide)) (k := ?_)
    rintro w1_1 e1_1 w2_1 hw1_1 ⟨a1_1, c1_1, B1_1, he_1, hf_1, ho1_1⟩
    refine ⟨_, (B1_1 ++ []), he_1, hw1_1.fresh hf_1, ?_⟩
    refine JL_q (q_move) (k := ?_)
    refine JL_q (q_move) (k := ?_)
    refine JL_q (q_add) (k := ?_)
    refine JL_p (args := [(Value.slice (a1_1) ((l).length) (c1_1)), (Value.int .i64 (at_)), (Value.int .i64 ((at_ + 1)))]) (c_callA Tryz.call51) (fun w1 hw1 => ruDelete_ok w1 (s := (l)) (i := at_) (j := (at_ + 1)) (o_s := ho1_1) (b_s := fun p hp => hw1.own p (by first | exact hp | (simp [hp]; done))) (n_s := by first | exact lb | decide) (hi := by first | exact lb | decide)) (k := ?_)
    rintro w1_2 e1_2 w2_2 hw1_2 ⟨a1_2, c1_2, B1_2, he_2, hf_2, ho1_2⟩
    refine ⟨_, (B1_2 ++ []), he_2, (hw1_2.perm q0).tr hf_2, ?_⟩
    refine JL_q (q_assign) (k := ?_)
    refine JL_q (q_assign) (k := ?_)
    refine JL_nil ?_
    refine JX_seq ?_
    refine J_ret ?_
    refine JX_ret Tryz.results26 (Res.tmp rfl (Res.tmp rfl Res.nil)) (fun w1 hw1 => ?_)
    exact ⟨a1_2, c1_2, B1_2, (by rw [((((hF.f hq1).neg hq4).neg hq9)).eq] <;> first | rfl | (simp only [List.length_set] <;> rfl)), (fresh_segs (L := B1_2) (R := []) (hw1.perm (List.Perm.refl _)) (by simp)), (by rw [((((hF.f hq1).neg hq4).neg hq9)).eq]; exact ho1_2), (by rw [((((hF.f hq1).neg hq4).neg hq9)).eq]; first | omega | (simp; done) | (rw [delL_length (by omega) (by omega)]; omega))⟩
  refine J_seq ?_
  refine J_reg ?_
  obtain ⟨Thgl10, fhgl10, hgl10⟩ := hE.v4
  refine JL_q (q_loadB Tryz.isAgg57 hgl10) (k := ?_)
  refine JL_inl (args := [(Value.iface 242 (.pointer (some ea4)))]) (c_callA Tryz.call30) Tryz.func30 Tryz.ntmps30 ?_
  refine J_seq ?_
  refine J_reg ?_
  refine JL_q (q_assign) (k := ?_)
  refine JL_nil ?_
  refine JX_seq ?_
  refine J_seq ?_
  refine J_block ?_
  refine J_seq ?_
  refine J_reg ?_
  refine JL_q (q_move) (k := ?_)
  obtain ⟨Thgl11, fhgl11, hgl11⟩ := hE.v2
  refine JL_q (q_loadB Tryz.isAgg57 hgl11) (k := ?_)
  refine JL_v (args := [(Value.iface 242 (.pointer (some ea4))), (Value.iface 242 (.pointer (some ea2)))]) (c_callA Tryz.call54) (fun w1 hw1 => is_other_v w1 hE.n4_2 (hE.ext hw1.ext_out).b4 (hE.ext hw1.ext_out).b2) (k := ?_)
  refine JL_q (q_assign) (k := ?_)
  refine JL_nil ?_
  refine JX_seq ?_
  refine J_false rfl ?_
  refine J_seq ?_
  refine J_reg ?_
  refine JL_q (q_move) (k := ?_)
  obtain ⟨Thgl12, fhgl12, hgl12⟩ := hE.v3
  refine JL_q (q_loadB Tryz.isAgg57 hgl12) (k := ?_)
  refine JL_v (args := [(Value.iface 242 (.pointer (some ea4))), (Value.iface 242 (.pointer (some ea3)))]) (c_callA Tryz.call54) (fun w1 hw1 => is_other_v w1 hE.n4_3 (hE.ext hw1.ext_out).b4 (hE.ext hw1.ext_out).b3) (k := ?_)
  refine JL_q (q_assign) (k := ?_)
  refine JL_nil ?_
  refine JX_seq ?_
  refine J_false rfl ?_
  refine J_seq ?_
  refine J_reg ?_
  refine JL_q (q_move) (k := ?_)
  obtain ⟨Thgl13, fhgl13, hgl13⟩ := hE.v4
  refine JL_q (q_loadB Tryz.isAgg57 hgl13) (k := ?_)
  refine JL_v (args := [(Value.iface 242 (.pointer (some ea4))), (Value.iface 242 (.pointer (some ea4)))]) (c_callA Tryz.call54) (fun w1 hw1 => is_same_v w1) (k := ?_)
  refine JL_q (q_assign) (k := ?_)
  refine JL_nil ?_
  refine JX_seq ?_
  refine J_true rfl ?_
  refine J_seq ?_
  refine J_reg ?_
  refine JL_q (q_assign) (k := ?_)
  refine JL_nil ?_
  refine JX_seq ?_
  refine J_ret ?_
  refine JX_block_ret ?_
  refine JX_seq_ret ?_
  refine JX_retI Tryz.results30 (Res.tmp rfl Res.nil) ?_
  refine JL_q (q_assign) (k := ?_)
  refine JL_q (q_assign) (k := ?_)
  refine JL_nil ?_
  refine JX_seq ?_
  refine J_ret ?_
  refine JX_block_ret ?_
  refine JX_seq_ret ?_
  refine JX_ret Tryz.results26 (Res.tmp rfl (Res.tmp rfl Res.nil)) (fun w1 hw1 => ?_)
  exact ⟨none, 0, [], (by rw [((((hF.f hq1).neg hq4).pos hq9)).eq] <;> first | rfl | (simp only [List.length_set] <;> rfl)), (hw1.fresh_out.sub (List.nil_sublist _)), (by rw [((((hF.f hq1).neg hq4).pos hq9)).eq]; exact OwnB.nil), (by rw [((((hF.f hq1).neg hq4).pos hq9)).eq]; first | omega | (simp; done) | (rw [delL_length (by omega) (by omega)]; omega))⟩

end Go.Proofs.YtnblakihpoacjaaGreatDoor.Jd

namespace Go.Proofs.YtnblakihpoacjaaGreatDoor.Jd
set_option linter.unusedVariables false
set_option linter.unusedSimpArgs false
theorem getD_set {α : Type} [Inhabited α] {xs : List α} {i k : Nat} {v : α} (hi : i < xs.length) : (xs.set i v).getD k default = if k = i then v else xs.getD k default := by
  rw [List.getD_eq_getElem?_getD, List.getD_eq_getElem?_getD, List.getElem?_set]
  by_cases h : i = k
  · subst h; simp [hi]
  · rw [if_neg h, if_neg (fun e => h e.symm)]
theorem up_ok (l : List Rule) (t : Target) (a : Int) (b : List Int) : ∀ (n j : Nat) (ys : List Int), j < n → j < ys.length → (∀ k, k < ys.length → k ≠ j → ys.getD j default < ys.getD k default) →
    (aclDecide_l1 l t a b n (j : Int) ys).2.getD 0 default = ys.getD j default ∧ (aclDecide_l1 l t a b n (j : Int) ys).2.length = ys.length ∧ ∀ z ∈ (aclDecide_l1 l t a b n (j : Int) ys).2, z ∈ ys
  | 0, j, ys, h, _, _ => by omega
  | n + 1, j, ys, h, hj, hl => by
    unfold aclDecide_l1
    by_cases h0 : j = 0
    · subst h0
      rw [if_pos (by simp)]
      exact ⟨rfl, rfl, fun z hz => hz⟩
    · have hi : ((j : Int) - 1).toNat / 2 = (j - 1) / 2 := by omega
      rw [if_neg (by rw [hi]; omega)]
      have hij : (j - 1) / 2 < j := by omega
      have hlt := hl ((j - 1) / 2) (by omega) (by omega)
      have e1 : ((j : Int)).toNat = j := by omega
      have e2 : ((((j - 1) / 2 : Nat) : Int)).toNat = (j - 1) / 2 := by omega
      rw [hi, e1, if_neg (by simp only [Decidable.not_not]; exact hlt), e2]
      have hlen : ((ys.set ((j - 1) / 2) (ys.getD j default)).set j (ys.getD ((j - 1) / 2) default)).length = ys.length := by simp
      have hg : ∀ k, ((ys.set ((j - 1) / 2) (ys.getD j default)).set j (ys.getD ((j - 1) / 2) default)).getD k default = if k = j then ys.getD ((j - 1) / 2) default else if k = (j - 1) / 2 then ys.getD j default else ys.getD k default := fun k => by
        rw [getD_set (by simpa using hj), getD_set (by omega)]
      obtain ⟨r1, r2, r3⟩ := up_ok l t a b n ((j - 1) / 2) ((ys.set ((j - 1) / 2) (ys.getD j default)).set j (ys.getD ((j - 1) / 2) default)) (by omega) (by rw [hlen]; omega) (fun k hk hkj => by
        rw [hlen] at hk
        rw [hg, hg, if_neg (by omega), if_pos rfl]
        by_cases h1 : k = j
        · rw [if_pos h1]; exact hlt
        · rw [if_neg h1, if_neg hkj]; exact hl k hk h1)
      rw [hg, if_neg (by omega), if_pos rfl] at r1
      refine ⟨r1, by rw [r2, hlen], fun z hz => ?_⟩
      have hm : ∀ k, k < ys.length → ys.getD k default ∈ ys := fun k hk => by
        rw [List.getD_eq_getElem?_getD, List.getElem?_eq_getElem hk]; exact List.getElem_mem hk
      rcases List.mem_or_eq_of_mem_set (r3 z hz) with hz | rfl
      · rcases List.mem_or_eq_of_mem_set hz with hz | rfl
        · exact hz
        · exact hm _ hj
      · exact hm _ (by omega)
def firstFit (l : List Rule) (t : Target) : Option Nat := l.findIdx? fun r => aclFitsR r t
def Told (l : List Rule) (t : Target) (i : Nat) (xs : List Int) : Prop :=
  (xs = [] ∧ ∀ k, i ≤ k → k < l.length → aclFitsR (l.getD k default) t = false) ∨
  ∃ k : Nat, xs ≠ [] ∧ xs.getD 0 default = (k : Int) ∧ i ≤ k ∧ k < l.length ∧ aclFitsR (l.getD k default) t = true ∧ (∀ j, i ≤ j → j < k → aclFitsR (l.getD j default) t = false) ∧ ∀ z ∈ xs, (i : Int) ≤ z
theorem down_ok (l : List Rule) (t : Target) : ∀ (n i : Nat) (xs : List Int), i < n → i ≤ l.length → Told l t i xs → Told l t 0 (aclDecide_l0 l t n ((i : Int) - 1) xs).2
  | 0, i, xs, h, _, _ => by omega
  | n + 1, i, xs, h, hi, ht => by
    unfold aclDecide_l0
    cases i with
    | zero => rw [if_neg (by omega)]; exact ht
    | succ i =>
      have e1 : (((i + 1 : Nat) : Int) - 1) = (i : Int) := by omega
      rw [e1, if_pos (by omega)]
      have e2 : ((i : Int)).toNat = i := by omega
      rw [e2]
      by_cases hf : aclFitsR (l.getD i default) t = true
      · rw [if_pos hf]
        have hlen : (xs ++ [(i : Int)]).length = xs.length + 1 := by simp
        have hgl : (xs ++ [(i : Int)]).getD xs.length default = (i : Int) := by simp [List.getD_eq_getElem?_getD]
        have hall : ∀ z ∈ xs, (i : Int) < z := fun z hz => by
          rcases ht with ⟨rfl, _⟩ | ⟨k, _, _, _, _, _, _, h7⟩
          · cases hz
          · have := h7 z hz; omega
        have hup := up_ok l t (i : Int) xs (((((xs ++ [(i : Int)]).length : Nat) : Int) - 1).toNat + 1) xs.length (xs ++ [(i : Int)]) (by rw [hlen]; omega) (by rw [hlen]; omega) (fun k hk hkj => by
          rw [hgl]
          have hk' : k < xs.length := by rw [hlen] at hk; omega
          rw [List.getD_eq_getElem?_getD, List.getElem?_append_left hk', List.getElem?_eq_getElem hk']
          exact hall _ (List.getElem_mem hk'))
        have e3 : (((xs ++ [(i : Int)]).length : Nat) : Int) - 1 = (xs.length : Int) := by rw [hlen]; omega
        rw [e3] at hup
        rw [e3]
        obtain ⟨r1, r2, r3⟩ := hup
        rw [hgl] at r1
        unfold run2
        refine down_ok l t n i _ (by omega) (by omega) (.inr ⟨i, ?_, r1, Nat.le_refl _, by omega, hf, fun j h1 h2 => by omega, fun z hz => ?_⟩)
        · intro e; rw [e] at r2; rw [hlen] at r2; simp at r2
        · have := r3 z hz
          rcases List.mem_append.1 this with h1 | h1
          · have := hall z h1; omega
          · rw [List.mem_singleton] at h1; omega
      · rw [if_neg hf]
        have hf' : aclFitsR (l.getD i default) t = false := by cases hh : aclFitsR (l.getD i default) t <;> simp_all
        refine down_ok l t n i _ (by omega) (by omega) ?_
        rcases ht with ⟨rfl, h2⟩ | ⟨k, h0, h1, h2, h3, h4, h5, h6⟩
        · refine .inl ⟨rfl, fun k h1 h3 => ?_⟩
          by_cases e : k = i
          · subst e; exact hf'
          · exact h2 k (by omega) h3
        · refine .inr ⟨k, h0, h1, by omega, h3, h4, fun j h7 h8 => ?_, fun z hz => ?_⟩
          · by_cases e : j = i
            · subst e; exact hf'
            · exact h5 j (by omega) h8
          · have := h6 z hz; omega
theorem firstFit_some {l : List Rule} {t : Target} {k : Nat} (h1 : k < l.length) (h2 : aclFitsR (l.getD k default) t = true) (h3 : ∀ j, j < k → aclFitsR (l.getD j default) t = false) : firstFit l t = some k := by
  unfold firstFit
  rw [List.findIdx?_eq_some_iff_getElem]
  refine ⟨h1, ?_, fun j hj => ?_⟩
  · rw [List.getD_eq_getElem?_getD, List.getElem?_eq_getElem h1] at h2; exact h2
  · have := h3 j hj
    rw [List.getD_eq_getElem?_getD, List.getElem?_eq_getElem (by omega)] at this
    simpa using this
theorem firstFit_none {l : List Rule} {t : Target} (h : ∀ j, j < l.length → aclFitsR (l.getD j default) t = false) : firstFit l t = none := by
  unfold firstFit
  rw [List.findIdx?_eq_none_iff]
  intro x hx
  obtain ⟨j, hj, rfl⟩ := List.getElem_of_mem hx
  have := h j hj
  rw [List.getD_eq_getElem?_getD, List.getElem?_eq_getElem hj] at this
  exact this
theorem firstFit_at {l : List Rule} {t : Target} {k : Nat} (h : firstFit l t = some k) : k < l.length ∧ aclFitsR (l.getD k default) t = true ∧ ∀ j, j < k → aclFitsR (l.getD j default) t = false := by
  unfold firstFit at h
  rw [List.findIdx?_eq_some_iff_getElem] at h
  obtain ⟨h1, h2, h3⟩ := h
  refine ⟨h1, ?_, fun j hj => ?_⟩
  · rw [List.getD_eq_getElem?_getD, List.getElem?_eq_getElem h1]; exact h2
  · have := h3 j hj
    rw [List.getD_eq_getElem?_getD, List.getElem?_eq_getElem (by omega)]
    simpa using this
theorem firstFit_no {l : List Rule} {t : Target} (h : firstFit l t = none) : ∀ j, j < l.length → aclFitsR (l.getD j default) t = false := fun j hj => by
  unfold firstFit at h
  rw [List.findIdx?_eq_none_iff] at h
  rw [List.getD_eq_getElem?_getD, List.getElem?_eq_getElem hj]
  exact h _ (List.getElem_mem hj)
def said (l : List Rule) (t : Target) : Bool × Int × Int := match firstFit l t with
  | none => (false, -1, 0)
  | some k => ((l.getD k default).allow, (k : Int), 0)
theorem aclDecide_eq (l : List Rule) (t : Target) : aclDecide l t = if aclRight l = false then (false, 0, 81) else if (tPrint t).2 ≠ 0 then (false, 0, 71) else said l t := by
  unfold aclDecide
  by_cases h1 : aclRight l = false
  · rw [if_pos h1, if_pos (by rw [h1]; rfl)]
  · have h1' : aclRight l = true := by cases h : aclRight l <;> simp_all
    rw [if_neg h1, if_neg (by rw [h1']; simp)]
    by_cases h2 : (tPrint t).2 ≠ 0
    · rw [if_pos h2, if_pos h2]
    · rw [if_neg h2, if_neg h2]
      have hd := down_ok l t ((((l.length : Nat) : Int) - 1 + 1).toNat + 1) l.length [] (by omega) (Nat.le_refl _) (.inl ⟨rfl, fun k h3 h4 => by omega⟩)
      unfold run2 said
      generalize (aclDecide_l0 l t ((((l.length : Nat) : Int) - 1 + 1).toNat + 1) (((l.length : Nat) : Int) - 1) []) = q at hd ⊢
      rcases hd with ⟨h3, h4⟩ | ⟨k, h3, h4, _, h5, h6, h7, _⟩
      · rw [h3, firstFit_none (fun j hj => h4 j (Nat.zero_le _) hj)]; simp
      · dsimp only
        rw [if_neg (by intro e; exact h3 (List.length_eq_zero_iff.1 (by omega))), h4, firstFit_some h5 h6 (fun j hj => h7 j (Nat.zero_le _) hj)]
        simp
theorem said_bd (l : List Rule) (t : Target) : -1 ≤ (said l t).2.1 ∧ (said l t).2.1 ≤ (l.length : Int) ∧ (said l t).2.2 = 0 := by
  unfold said
  cases h : firstFit l t with
  | none => show -1 ≤ (-1 : Int) ∧ (-1 : Int) ≤ (l.length : Int) ∧ (0 : Int) = 0; omega
  | some k => have := (firstFit_at h).1; show -1 ≤ (k : Int) ∧ (k : Int) ≤ (l.length : Int) ∧ (0 : Int) = 0; omega
theorem aclDecide_bd (l : List Rule) (t : Target) : -1 ≤ (aclDecide l t).2.1 ∧ (aclDecide l t).2.1 ≤ (l.length : Int) := by
  rw [aclDecide_eq]
  split
  · simp
  · split
    · simp
    · have := said_bd l t; exact ⟨this.1, this.2.1⟩
end Go.Proofs.YtnblakihpoacjaaGreatDoor.Jd

namespace Go.Proofs.YtnblakihpoacjaaGreatDoor.Jd
set_option linter.unusedVariables false
set_option linter.unusedSimpArgs false
theorem isAddr_iff {a : Int} : isAddr a = true ↔ 0 ≤ a ∧ a ≤ 4294967295 := by
  refine ⟨isAddr_t, fun h => ?_⟩
  unfold isAddr
  rw [if_pos h.1]; simpa using h.2
theorem isAddr_eq : isAddr = rIsAddr := rfl
theorem rSize_at {b : Int} (h : 0 ≤ b ∧ b ≤ 32) : ∃ k : Nat, k ≤ 32 ∧ b = 32 - (k : Int) ∧ rSize b = 2 ^ k := by
  refine ⟨(32 - b).toNat, by omega, by omega, rSize_pow h⟩
def Good (p : Prefix) : Prop := (0 ≤ p.bits ∧ p.bits ≤ 32) ∧ (0 ≤ p.addr ∧ p.addr ≤ 4294967295) ∧ p.addr % rSize p.bits = 0
theorem rRight_iff {p : Prefix} : rRight p = true ↔ Good p := by
  unfold Good
  constructor
  · intro h
    obtain ⟨h1, h2, h3, h4⟩ := rRight_t h
    refine ⟨⟨h1, h2⟩, ⟨h3, h4⟩, ?_⟩
    unfold rRight at h
    rw [if_pos h1, if_pos h2, if_pos (by rw [← isAddr_eq]; exact isAddr_iff.2 ⟨h3, h4⟩)] at h
    simpa using h
  · rintro ⟨⟨h1, h2⟩, h3, h4⟩
    unfold rRight
    rw [if_pos h1, if_pos h2, if_pos (by rw [← isAddr_eq]; exact isAddr_iff.2 h3)]
    simpa using h4
theorem aRest_eq (p : Prefix) : aRest p = rSize p.bits - 1 := rfl
theorem aEven_iff {p : Prefix} (hb : 0 ≤ p.bits ∧ p.bits ≤ 32) (ha : 0 ≤ p.addr ∧ p.addr ≤ 4294967295) : aEven p = true ↔ p.addr % rSize p.bits = 0 := by
  obtain ⟨k, hk, _, hs⟩ := rSize_at hb
  unfold aEven
  rw [aRest_eq, hs]
  obtain ⟨m, hm⟩ : ∃ m : Nat, p.addr = (m : Int) := ⟨p.addr.toNat, by omega⟩
  rw [hm, and_mask (by omega) hk]
  simp
theorem aShort_iff {p : Prefix} : aShort p = true ↔ (0 ≤ p.bits ∧ p.bits ≤ 32) ∧ (0 ≤ p.addr ∧ p.addr ≤ 4294967295) := by
  constructor
  · intro h; have := aShort_t h; omega
  · rintro ⟨⟨h1, h2⟩, h3⟩
    unfold aShort
    rw [if_pos h1, if_pos h2]; exact isAddr_iff.2 h3
theorem aRight_iff {p : Prefix} : aRight p = true ↔ Good p := by
  unfold Good
  constructor
  · intro h
    have hs : aShort p = true := by
      unfold aRight at h
      cases hs : aShort p
      · simp [hs] at h
      · rfl
    have hb := aShort_iff.1 hs
    refine ⟨hb.1, hb.2, (aEven_iff hb.1 hb.2).1 ?_⟩
    unfold aRight at h
    cases he : aEven p
    · simp [hs, he] at h
    · rfl
  · rintro ⟨h1, h2, h3⟩
    unfold aRight
    rw [aShort_iff.2 ⟨h1, h2⟩, (aEven_iff h1 h2).2 h3]; simp
theorem aRight_eq (p : Prefix) : aRight p = rRight p := by rw [Bool.eq_iff_iff, aRight_iff, rRight_iff]
theorem Good.size {p : Prefix} (h : Good p) : 1 ≤ rSize p.bits ∧ rSize p.bits ≤ 4294967296 := rSize_bd h.1
theorem size0 : rSize 0 = 4294967296 := by rw [rSize_pow (by omega)]; rfl
theorem Good.dvd {p : Prefix} (h : Good p) : rSize p.bits ∣ p.addr := Int.dvd_of_emod_eq_zero h.2.2
theorem emod_at {S a x : Int} (hS : 0 < S) (hx : S ∣ x) : a - a % S = x ↔ x ≤ a ∧ a < x + S := by
  have h1 := Int.emod_nonneg a (show S ≠ 0 by omega)
  have h2 := Int.emod_lt_of_pos a hS
  constructor
  · intro h; omega
  · rintro ⟨h3, h4⟩
    obtain ⟨q, rfl⟩ := hx
    have := (Int.ediv_emod_unique (a := a) (r := a - S * q) (q := q) hS).2 ⟨by omega, by omega, by omega⟩
    omega
theorem rHas_iff {p : Prefix} {a : Int} : rHas p a = true ↔ Good p ∧ (0 ≤ a ∧ a ≤ 4294967295) ∧ p.addr ≤ a ∧ a < p.addr + rSize p.bits := by
  constructor
  · intro h
    unfold rHas at h
    split at h
    · rename_i h1
      split at h
      · rename_i h2
        split at h
        · rename_i h3
          exact ⟨rRight_iff.1 h1, rIsAddr_t h2, h3, by simpa using h⟩
        · cases h
      · cases h
    · cases h
  · rintro ⟨h1, h2, h3, h4⟩
    unfold rHas
    rw [if_pos (rRight_iff.2 h1), if_pos (by rw [← isAddr_eq]; exact isAddr_iff.2 h2), if_pos h3]
    simpa using h4
theorem aHas_iff {p : Prefix} {a : Int} : aHas p a = true ↔ Good p ∧ (0 ≤ a ∧ a ≤ 4294967295) ∧ p.addr ≤ a ∧ a < p.addr + rSize p.bits := by
  have key : ∀ (h1 : Good p) (h2 : 0 ≤ a ∧ a ≤ 4294967295), decide (andNotI .i64 a (aRest p) = p.addr) = true ↔ p.addr ≤ a ∧ a < p.addr + rSize p.bits := by
    intro h1 h2
    obtain ⟨k, hk, _, hs⟩ := rSize_at h1.1
    obtain ⟨m, hm⟩ : ∃ m : Nat, a = (m : Int) := ⟨a.toNat, by omega⟩
    have hS := h1.size
    rw [decide_eq_true_eq, aRest_eq, ← emod_at (by omega) h1.dvd, hs, hm, andNot_mask (by omega) hk]
  constructor
  · intro h
    unfold aHas at h
    split at h
    · rename_i h1
      split at h
      · rename_i h2
        exact ⟨aRight_iff.1 h1, isAddr_t h2, (key (aRight_iff.1 h1) (isAddr_t h2)).1 h⟩
      · cases h
    · cases h
  · rintro ⟨h1, h2, h3⟩
    unfold aHas
    rw [if_pos (aRight_iff.2 h1), if_pos (isAddr_iff.2 h2)]
    exact (key h1 h2).2 h3
theorem aHas_eq (p : Prefix) (a : Int) : aHas p a = rHas p a := by rw [Bool.eq_iff_iff, aHas_iff, rHas_iff]
def decF : Nat → Nat → Str
  | 0, _ => []
  | f + 1, u => if u < 10 then [UInt8.ofNat (48 + u)] else decF f (u / 10) ++ [UInt8.ofNat (48 + u % 10)]
theorem decF_eq : ∀ (f u : Nat), u < f → decF f u = Lib.decDigits u
  | 0, u, h => by omega
  | f + 1, u, h => by
    rw [Lib.decDigits]
    unfold decF
    split
    · rfl
    · rw [decF_eq f (u / 10) (by omega)]
def itoaF (n : Int) : Str := if n < 0 then 45 :: decF (n.natAbs + 1) n.natAbs else decF (n.toNat + 1) n.toNat
theorem itoaF_eq : Lib.itoa = itoaF := by
  funext n
  unfold Lib.itoa itoaF
  rw [decF_eq _ _ (by omega), decF_eq _ _ (by omega)]
def aNumberF (t : Str) (most : Int) : Int × Bool := outc2 (aNumber_l0 t most (t.length + 1) 0 0) (fun r => r) (fun a _ => if a ≤ most then (a, decide (itoaF a = t)) else (a, false))
theorem aNumberF_eq : aNumber = aNumberF := by
  funext t most
  unfold aNumber aNumberF
  rw [itoaF_eq]
end Go.Proofs.YtnblakihpoacjaaGreatDoor.Jd

namespace Go.Proofs.YtnblakihpoacjaaGreatDoor.Jd
set_option linter.unusedVariables false
set_option linter.unusedSimpArgs false
theorem e1 : aParsePrefix [49, 48, 46, 49, 46, 48, 46, 48, 47, 49, 54] = (⟨167837696, 16⟩, 0) := by unfold aParsePrefix aParse; rw [aNumberF_eq]; kernel_rfl
theorem e2 : aParse [49, 48, 46, 49, 46, 50, 46, 51] = (167838211, 0) := by unfold aParse; rw [aNumberF_eq]; kernel_rfl
theorem e3 : aParse [49, 48, 46, 50, 46, 48, 46, 48] = (167903232, 0) := by unfold aParse; rw [aNumberF_eq]; kernel_rfl
theorem e4 : aPrint 167903231 = ([49, 48, 46, 49, 46, 50, 53, 53, 46, 50, 53, 53], 0) := by unfold aPrint; rw [itoaF_eq]; kernel_rfl
theorem e5 : aParse [49, 46, 50, 46, 51, 46, 48, 52] = (0, 60) := by unfold aParse; rw [aNumberF_eq]; kernel_rfl
theorem bool_not {b : Bool} (h : ¬ b = true) : b = false := by cases b <;> simp_all
end Go.Proofs.YtnblakihpoacjaaGreatDoor.Jd

namespace Go.Proofs.YtnblakihpoacjaaGreatDoor.Jd
set_option linter.unusedVariables false
set_option linter.unusedSimpArgs false
theorem q1 : pParse [56, 48, 45, 57, 48] = (⟨80, 90⟩, 0) := by unfold pParse pPrint; rw [itoaF_eq]; kernel_rfl
theorem q2 : pParse [42] = (⟨0, 65535⟩, 0) := by unfold pParse pPrint; rw [itoaF_eq]; kernel_rfl
theorem q3 : tParse [49, 46, 50, 46, 51, 46, 52, 58, 56, 48] = (⟨16909060, 80⟩, 0) := by unfold tParse tPrint aParse aPrint; rw [aNumberF_eq, itoaF_eq]; kernel_rfl
theorem pRight_d (p : PortsT) : pRight p = decide (0 ≤ p.lo ∧ p.lo ≤ p.hi ∧ p.hi ≤ 65535) := by
  rw [Bool.eq_iff_iff, decide_eq_true_eq]
  refine ⟨pRight_t, fun h => ?_⟩
  unfold pRight
  rw [if_neg (by omega), if_neg (by omega), if_neg (by omega)]
theorem pHas_d (p : PortsT) (n : Int) : pHas p n = decide ((0 ≤ p.lo ∧ p.lo ≤ p.hi ∧ p.hi ≤ 65535) ∧ p.lo ≤ n ∧ n ≤ p.hi) := by
  unfold pHas
  rw [pRight_d]
  by_cases h : 0 ≤ p.lo ∧ p.lo ≤ p.hi ∧ p.hi ≤ 65535 <;> by_cases h2 : p.lo ≤ n <;> simp [h, h2]
end Go.Proofs.YtnblakihpoacjaaGreatDoor.Jd

namespace Go.Proofs.YtnblakihpoacjaaGreatDoor.Jd
set_option linter.unusedVariables false
set_option linter.unusedSimpArgs false
theorem ba_get {s : Str} {i : Nat} (h : i < s.length) : (bs s).get! i = s.getD i default := by
  have h2 : i < (bs s).data.size := by simpa [bs] using h
  rw [ByteArray.get!]
  rw [getElem!_pos (bs s).data i h2]
  simp [bs, List.getD, h]
theorem dec_lo {s : Str} {i : Nat} (h : i < s.length) (hb : (s.getD i default).toNat < 128) : dec s i = ((s.getD i default).toNat, 1) := by
  unfold dec Utf8.decode
  simp only [Nat.add_zero, ba_get h]
  rw [if_pos hb]
theorem dec_hi {s : Str} {i : Nat} (h : i < s.length) (hb : ¬ (s.getD i default).toNat < 128) : 128 ≤ (dec s i).1 := by
  unfold dec Utf8.decode
  simp only [Nat.add_zero, ba_get h]
  rw [if_neg hb]
  repeat' split
  all_goals (simp only [Utf8.runeError]; try simp only [Bool.and_eq_true, decide_eq_true_eq] at *; try omega)
theorem aNumber_l0_eq (t : Str) (m : Int) : ∀ (n : Nat) (a : Int) (i : Nat), aNumber_l0 t m n a i = rNumber_l0 t m n a i
  | 0, _, _ => rfl
  | n + 1, a, i => by
    unfold aNumber_l0 rNumber_l0
    by_cases hi : i < t.length
    · have h1 : ((i : Nat) : Int) < ((t.length : Nat) : Int) := by omega
      rw [if_pos hi, if_pos h1]
      by_cases hb : (t.getD i default).toNat < 128
      · rw [dec_lo hi hb, aNumber_l0_eq t m n, Int.mul_comm 10 a]
      · have h2 := dec_hi hi hb
        rw [if_neg (show ¬ (((dec t i).1 : Nat) : Int) < 48 by omega), if_pos (show (57 : Int) < (((dec t i).1 : Nat) : Int) by omega), if_neg (show ¬ (((t.getD i default).toNat : Nat) : Int) < 48 by omega), if_pos (show (57 : Int) < (((t.getD i default).toNat : Nat) : Int) by omega)]
    · have h1 : ¬ ((i : Nat) : Int) < ((t.length : Nat) : Int) := by omega
      rw [if_neg hi, if_neg h1]
theorem aNumber_eq : aNumber = rNumber := by
  funext t m
  unfold aNumber rNumber
  rw [aNumber_l0_eq]
theorem index_one (c b : UInt8) (l : Str) : Lib.index (b :: l) [c] = if b = c then 0 else if Lib.index l [c] = -1 then -1 else Lib.index l [c] + 1 := by
  by_cases h : b = c
  · subst h; simp [Lib.index, List.isPrefixOf]
  · have h' : ¬ c = b := fun e => h e.symm
    simp [Lib.index, List.isPrefixOf, h, h']
theorem rCut_l0_eq (s : Str) (c : UInt8) : ∀ (n i : Nat), s.length < i + n → i ≤ s.length → rCut_l0 s (c.toNat : Int) n i = if 0 ≤ Lib.index (s.drop i) [c] then .error (s.take (i + (Lib.index (s.drop i) [c]).toNat), s.drop (i + (Lib.index (s.drop i) [c]).toNat + 1), true) else .ok s.length
  | 0, i, h, _ => by omega
  | n + 1, i, h, hle => by
    unfold rCut_l0
    by_cases hi : i < s.length
    · have h1 : ((i : Nat) : Int) < ((s.length : Nat) : Int) := by omega
      have hd : s.drop i = s.getD i default :: s.drop (i + 1) := by
        rw [List.drop_eq_getElem_cons hi]; simp [List.getD, hi]
      rw [if_pos h1, hd, index_one]
      by_cases hc : s.getD i default = c
      · rw [if_pos (by rw [hc]), if_pos hc]; simp
      · have hc2 : ¬ (((s.getD i default).toNat : Nat) : Int) = ((c.toNat : Nat) : Int) := fun e => hc (UInt8.toNat_inj.1 (by omega))
        rw [if_neg hc2, if_neg hc, rCut_l0_eq s c n (i + 1) (by omega) (by omega)]
        have hge := Lib.index_ge (s.drop (i + 1)) [c]
        by_cases hx : Lib.index (s.drop (i + 1)) [c] = -1
        · rw [if_pos hx, hx]; simp
        · rw [if_neg hx, if_pos (by omega), if_pos (by omega)]
          have e1 : (Lib.index (s.drop (i + 1)) [c] + 1).toNat = (Lib.index (s.drop (i + 1)) [c]).toNat + 1 := by omega
          rw [e1, show i + 1 + (Lib.index (s.drop (i + 1)) [c]).toNat = i + ((Lib.index (s.drop (i + 1)) [c]).toNat + 1) by omega]
    · have h1 : ¬ ((i : Nat) : Int) < ((s.length : Nat) : Int) := by omega
      have h2 : i = s.length := by omega
      rw [if_neg h1, h2, List.drop_length]
      simp [Lib.index]
theorem rCut_eq (s : Str) (c : UInt8) : rCut s (c.toNat : Int) = Lib.cut s [c] := by
  unfold rCut Lib.cut
  rw [rCut_l0_eq s c _ 0 (by omega) (by omega)]
  simp only [List.drop_zero, Nat.zero_add]
  split <;> simp [outc1]
theorem cut46 (s : Str) : rCut s 46 = Lib.cut s [46] := rCut_eq s 46
theorem cut47 (s : Str) : rCut s 47 = Lib.cut s [47] := rCut_eq s 47
theorem join4 (x y z w : Str) : Lib.join ((([x] ++ [y]) ++ [z]) ++ [w]) [46] = ((((((x ++ [46]) ++ y) ++ [46]) ++ z) ++ [46]) ++ w) := by
  simp [Lib.join, List.intercalate]
theorem aPrint_eq (a : Int) : aPrint a = rPrint a := by
  unfold aPrint rPrint
  rw [← isAddr_eq]
  split
  · rfl
  · rename_i hn
    have h : 0 ≤ a ∧ a ≤ 4294967295 := isAddr_iff.1 (by simpa using hn)
    rw [join4]
    have b24 := (byte_at h 24 (by omega)).1
    have b16 := (byte_at h 16 (by omega)).1
    have b8 := (byte_at h 8 (by omega)).1
    have b0 := (byte_at h 0 (by omega)).1
    have e24 : andI .i64 (shrI .i64 a 24) 255 = a / 16777216 := by
      refine b24.trans ?_
      show a / 16777216 % 256 = a / 16777216
      omega
    have e16 : andI .i64 (shrI .i64 a 16) 255 = a / 65536 % 256 := b16
    have e8 : andI .i64 (shrI .i64 a 8) 255 = a / 256 % 256 := b8
    have e0 : andI .i64 (shrI .i64 a 0) 255 = a % 256 := b0.trans (by show a / 1 % 256 = _; rw [Int.ediv_one])
    rw [e24, e16, e8, e0]
theorem shl_or {a n : Int} (ha : 0 ≤ a ∧ a ≤ 1099511627776) (hn : 0 ≤ n ∧ n ≤ 255) : orI .i64 (shlI .i64 a 8) n = 256 * a + n := by
  obtain ⟨m, rfl⟩ : ∃ m : Nat, a = (m : Int) := ⟨a.toNat, by omega⟩
  obtain ⟨k, rfl⟩ : ∃ k : Nat, n = (k : Int) := ⟨n.toNat, by omega⟩
  have h1 : shlI .i64 (m : Int) 8 = (m : Int) * 256 := shlI_eq (k := 8) (by omega) (by show _ ≤ (m : Int) * 256 ∧ (m : Int) * 256 ≤ _; omega)
  have h2 : (m : Int) * 256 = ((256 * m : Nat) : Int) := by omega
  have h3 := Nat.two_pow_add_eq_or_of_lt (i := 8) (b := k) (by show k < 256; omega) m
  rw [show (2 : Nat) ^ 8 = 256 from rfl] at h3
  rw [h1, h2, orI_nat (by omega) (by omega), ← h3]
  omega
theorem aParse_eq (s : Str) : aParse s = rParse s := by
  unfold aParse rParse
  rw [aNumber_eq]
  simp only [cut46]
  generalize Lib.cut s [46] = c1
  generalize Lib.cut c1.2.1 [46] = c2
  generalize Lib.cut c2.2.1 [46] = c3
  generalize Lib.cut c3.2.1 [46] = c4
  cases k1 : (rNumber c1.1 255).2
  · simp
  · cases m1 : c1.2.2
    · simp
    · cases k2 : (rNumber c2.1 255).2
      · simp
      · cases m2 : c2.2.2
        · simp
        · cases k3 : (rNumber c3.1 255).2
          · simp
          · cases m3 : c3.2.2
            · simp
            · cases k4 : (rNumber c4.1 255).2
              · simp
              · cases m4 : c4.2.2
                · have b1 := rNumber_bd k1
                  have b2 := rNumber_bd k2
                  have b3 := rNumber_bd k3
                  have b4 := rNumber_bd k4
                  rw [shl_or (a := 0) (by omega) b1, shl_or (by omega) b2, shl_or (by omega) b3, shl_or (by omega) b4]
                  simp
                · simp
theorem aPrintPrefix_eq (p : Prefix) : aPrintPrefix p = rPrintPrefix p := by
  unfold aPrintPrefix rPrintPrefix
  rw [aRight_eq, aPrint_eq]
theorem number_nil (m : Int) (hm : 0 ≤ m) : rNumber [] m = (0, false) := by
  unfold rNumber
  have : rNumber_l0 [] m (([] : Str).length + 1) 0 0 = .ok (0, 0) := rfl
  rw [this]
  simp only [outc2]
  rw [if_pos hm, itoaF_eq]
  rfl
theorem cut_none {s sep : Str} (h : (Lib.cut s sep).2.2 = false) : Lib.cut s sep = (s, [], false) := by
  unfold Lib.cut at *
  split at h
  · cases h
  · rename_i hn; rw [if_neg hn]
theorem aParsePrefix_eq (s : Str) : aParsePrefix s = rParsePrefix s := by
  unfold aParsePrefix rParsePrefix
  rw [aNumber_eq]
  simp only [cut47, aParse_eq, aRight_eq]
  cases m1 : (Lib.cut s [47]).2.2
  · rw [cut_none m1]
    simp [number_nil 32 (by decide)]
  · cases k1 : (rNumber (Lib.cut s [47]).2.1 32).2
    · simp
    · simp
end Go.Proofs.YtnblakihpoacjaaGreatDoor.Jd

namespace Go.Proofs.YtnblakihpoacjaaGreatDoor.Jd
set_option linter.unusedVariables false
set_option linter.unusedSimpArgs false
def isDig (b : UInt8) : Prop := 48 ≤ b.toNat ∧ b.toNat ≤ 57
def valD (l : Str) (a : Int) : Int := l.foldl (fun n b => 10 * n + ((b.toNat : Int) - 48)) a
theorem ofNat_toNat (k : Nat) : (UInt8.ofNat k).toNat = k % 256 := by simp
theorem decDigits_dig : ∀ (u : Nat), ∀ b ∈ Lib.decDigits u, isDig b := fun u => by
  induction u using Nat.strongRecOn with
  | ind u ih =>
    intro b hb
    rw [Lib.decDigits] at hb
    have hd : ∀ k, k < 10 → isDig (UInt8.ofNat (48 + k)) := fun k hk => by
      unfold isDig; rw [ofNat_toNat]; omega
    split at hb
    · rename_i h
      have hb := List.mem_singleton.1 hb; subst hb; exact hd u h
    · rcases List.mem_append.1 hb with hb | hb
      · exact ih _ (by omega) b hb
      · have hb := List.mem_singleton.1 hb; subst hb; exact hd _ (by omega)
theorem decDigits_val (u : Nat) : valD (Lib.decDigits u) 0 = u := by
  induction u using Nat.strongRecOn with
  | ind u ih =>
    rw [Lib.decDigits]
    split
    · rename_i h
      simp only [valD, List.foldl_cons, List.foldl_nil, ofNat_toNat]; omega
    · have := ih (u / 10) (by omega)
      unfold valD at *
      rw [List.foldl_append, this]
      simp only [List.foldl_cons, List.foldl_nil, ofNat_toNat]; omega
theorem valD_mono : ∀ (l : Str) (a : Int), (∀ b ∈ l, isDig b) → 0 ≤ a → a ≤ valD l a
  | [], a, _, _ => Int.le_refl _
  | b :: r, a, h, ha => by
    have hb := h b List.mem_cons_self
    unfold isDig at hb
    have := valD_mono r (10 * a + ((b.toNat : Int) - 48)) (fun x hx => h x (List.mem_cons_of_mem _ hx)) (by omega)
    unfold valD at *
    simp only [List.foldl_cons]
    omega
theorem number_l0_dig (s : Str) (m : Int) : ∀ (n : Nat) (a : Int) (i : Nat), s.length < i + n → i ≤ s.length → (∀ b ∈ s.drop i, isDig b) → 0 ≤ a → valD (s.drop i) a ≤ m → rNumber_l0 s m n a i = .ok (valD (s.drop i) a, s.length)
  | 0, a, i, h, _, _, _, _ => by omega
  | n + 1, a, i, h, hle, hd, ha, hm => by
    unfold rNumber_l0
    by_cases hi : i < s.length
    · have e : s.drop i = s.getD i default :: s.drop (i + 1) := by
        rw [List.drop_eq_getElem_cons hi]; simp [List.getD, hi]
      rw [e] at hd hm ⊢
      have hb := hd _ List.mem_cons_self
      unfold isDig at hb
      have hmono := valD_mono (s.getD i default :: s.drop (i + 1)) a hd ha
      rw [if_pos (by omega), if_neg (by omega), if_neg (by omega), if_neg (by omega)]
      exact number_l0_dig s m n _ (i + 1) (by omega) (by omega) (fun x hx => hd x (List.mem_cons_of_mem _ hx)) (by omega) hm
    · have h2 : i = s.length := by omega
      rw [if_neg (by omega), h2, List.drop_length]
      rfl
theorem number_itoa {n m : Int} (h : 0 ≤ n ∧ n ≤ m) : rNumber (Lib.itoa n) m = (n, true) := by
  have e : Lib.itoa n = Lib.decDigits n.toNat := by unfold Lib.itoa; rw [if_neg (by omega)]
  have hv : valD (Lib.decDigits n.toNat) 0 = n := by rw [decDigits_val]; omega
  unfold rNumber
  rw [number_l0_dig (Lib.itoa n) m _ 0 0 (by omega) (by omega) (by rw [e]; simpa using decDigits_dig _) (by omega) (by rw [e]; simp [hv]; omega)]
  rw [List.drop_zero, e, hv]
  simp [outc2, h.2, e]
theorem itoa_dig {n : Int} (h : 0 ≤ n) : ∀ b ∈ Lib.itoa n, isDig b := by
  unfold Lib.itoa; rw [if_neg (by omega)]; exact decDigits_dig _
theorem cut_at {c : UInt8} : ∀ (x r : Str), (∀ b ∈ x, b ≠ c) → Lib.cut (x ++ [c] ++ r) [c] = (x, r, true) := by
  intro x r hx
  have key : ∀ x : Str, (∀ b ∈ x, b ≠ c) → Lib.index (x ++ ([c] ++ r)) [c] = x.length := by
    intro x
    induction x with
    | nil => intro _; rw [List.nil_append]; simp [index_one]
    | cons b l ih =>
      intro h
      rw [List.cons_append, index_one, if_neg (h b List.mem_cons_self), ih (fun y hy => h y (List.mem_cons_of_mem _ hy)), if_neg (by omega)]
      simp
  unfold Lib.cut
  rw [List.append_assoc, key x hx, if_pos (by omega)]
  have e1 : ((x.length : Nat) : Int).toNat = x.length := by omega
  rw [e1]
  have e2 : (x ++ ([c] ++ r)).take x.length = x := by simp
  have e3 : (x ++ ([c] ++ r)).drop (x.length + [c].length) = r := by
    rw [← List.append_assoc, List.drop_append_of_le_length (by simp), List.drop_of_length_le (by simp)]; simp
  rw [e2, e3]
theorem cut_not {c : UInt8} (x : Str) (hx : ∀ b ∈ x, b ≠ c) : Lib.cut x [c] = (x, [], false) := by
  have key : ∀ x : Str, (∀ b ∈ x, b ≠ c) → Lib.index x [c] = -1 := by
    intro x
    induction x with
    | nil => intro _; simp [Lib.index]
    | cons b l ih =>
      intro h
      rw [index_one, if_neg (h b List.mem_cons_self), ih (fun y hy => h y (List.mem_cons_of_mem _ hy)), if_pos rfl]
  unfold Lib.cut
  rw [key x hx, if_neg (by omega)]
theorem dig_ne {l : Str} (h : ∀ b ∈ l, isDig b) {c : UInt8} (hc : c.toNat < 48) : ∀ b ∈ l, b ≠ c := fun b hb e => by
  have := (h b hb).1; subst e; omega
theorem parse4 {a b c d : Int} (ha : 0 ≤ a ∧ a ≤ 255) (hb : 0 ≤ b ∧ b ≤ 255) (hc : 0 ≤ c ∧ c ≤ 255) (hd : 0 ≤ d ∧ d ≤ 255) :
    rParse ((((((Lib.itoa a ++ [46]) ++ Lib.itoa b) ++ [46]) ++ Lib.itoa c) ++ [46]) ++ Lib.itoa d) = (256 * (256 * (256 * a + b) + c) + d, 0) := by
  have n1 := dig_ne (itoa_dig ha.1) (c := 46) (by decide)
  have n2 := dig_ne (itoa_dig hb.1) (c := 46) (by decide)
  have n3 := dig_ne (itoa_dig hc.1) (c := 46) (by decide)
  have n4 := dig_ne (itoa_dig hd.1) (c := 46) (by decide)
  have e : ((((((Lib.itoa a ++ [46]) ++ Lib.itoa b) ++ [46]) ++ Lib.itoa c) ++ [46]) ++ Lib.itoa d) = Lib.itoa a ++ [46] ++ (Lib.itoa b ++ [46] ++ (Lib.itoa c ++ [46] ++ Lib.itoa d)) := by simp
  have c1 := cut_at (Lib.itoa a) (Lib.itoa b ++ [46] ++ (Lib.itoa c ++ [46] ++ Lib.itoa d)) n1
  have c2 := cut_at (Lib.itoa b) (Lib.itoa c ++ [46] ++ Lib.itoa d) n2
  have c3 := cut_at (Lib.itoa c) (Lib.itoa d) n3
  have c4 := cut_not (Lib.itoa d) n4
  unfold rParse
  simp only [cut46]
  rw [e]
  simp only [c1, c2, c3, c4, number_itoa ha, number_itoa hb, number_itoa hc, number_itoa hd]
  simp
theorem parse_print {a : Int} (h : 0 ≤ a ∧ a ≤ 4294967295) : rParse (rPrint a).1 = (a, 0) ∧ (rPrint a).2 = 0 := by
  unfold rPrint
  rw [← isAddr_eq, isAddr_iff.2 h]
  simp only [Bool.not_true, Bool.false_eq_true, if_false]
  rw [parse4 (by omega) (by omega) (by omega) (by omega)]
  refine ⟨?_, trivial⟩
  congr 1
  omega
theorem rPrint_bad {a : Int} (h : ¬ (0 ≤ a ∧ a ≤ 4294967295)) : rPrint a = ([], 60) := by
  unfold rPrint
  have : rIsAddr a = false := bool_not fun h2 => h (rIsAddr_t h2)
  rw [this]; simp
theorem prefix_back {p : Prefix} (h : rRight p = true) : rParsePrefix (rPrintPrefix p).1 = (p, 0) ∧ (rPrintPrefix p).2 = 0 := by
  have hg := rRight_iff.1 h
  have hp := parse_print hg.2.1
  have hpr : ∀ b ∈ (rPrint p.addr).1, b ≠ (47 : UInt8) := by
    unfold rPrint
    rw [← isAddr_eq, isAddr_iff.2 hg.2.1]
    simp only [Bool.not_true, Bool.false_eq_true, if_false]
    have h1 := dig_ne (itoa_dig (n := p.addr / 16777216) (by have := hg.2.1; omega)) (c := 47) (by decide)
    have h2 := dig_ne (itoa_dig (n := p.addr / 65536 % 256) (by omega)) (c := 47) (by decide)
    have h3 := dig_ne (itoa_dig (n := p.addr / 256 % 256) (by omega)) (c := 47) (by decide)
    have h4 := dig_ne (itoa_dig (n := p.addr % 256) (by omega)) (c := 47) (by decide)
    intro b hb
    simp only [List.mem_append, List.mem_cons, List.not_mem_nil, or_false] at hb
    rcases hb with (((((hb | hb) | hb) | hb) | hb) | hb) | hb
    · exact h1 b hb
    · subst hb; decide
    · exact h2 b hb
    · subst hb; decide
    · exact h3 b hb
    · subst hb; decide
    · exact h4 b hb
  unfold rPrintPrefix
  rw [h]
  simp only [Bool.not_true, Bool.false_eq_true, if_false]
  refine ⟨?_, trivial⟩
  unfold rParsePrefix
  simp only [cut47]
  have hc := cut_at (c := 47) (rPrint p.addr).1 (Lib.itoa p.bits) hpr
  rw [hc]
  simp only [hp.1, number_itoa hg.1, h]
  simp [h]
end Go.Proofs.YtnblakihpoacjaaGreatDoor.Jd

namespace Go.Proofs.YtnblakihpoacjaaGreatDoor.Jd
set_option linter.unusedVariables false
set_option linter.unusedSimpArgs false
theorem cut45 (s : Str) : rCut s 45 = Lib.cut s [45] := rCut_eq s 45
theorem rPRight_d (p : PortsT) : rPRight p = decide (0 ≤ p.lo ∧ p.lo ≤ p.hi ∧ p.hi ≤ 65535) := by
  rw [Bool.eq_iff_iff, decide_eq_true_eq]
  refine ⟨rPRight_t, fun h => ?_⟩
  unfold rPRight
  rw [if_pos (by omega), if_pos (by omega)]; simp; omega
theorem rPRight_eq (p : PortsT) : rPRight p = pRight p := by rw [rPRight_d, pRight_d]
theorem rPPrint_eq (p : PortsT) : rPPrint p = pPrint p := by
  unfold rPPrint pPrint
  rw [rPRight_eq]
  by_cases h1 : p.lo = 0 <;> by_cases h2 : p.hi = 65535 <;> simp [h1, h2]
theorem rPHas_eq (p : PortsT) (n : Int) : rPHas p n = pHas p n := by unfold rPHas pHas; rw [rPRight_eq]
theorem rTPrint_eq (t : Target) : rTPrint t = tPrint t := by unfold rTPrint tPrint; rw [aPrint_eq]
theorem pNumber_l0_dig (s : Str) : ∀ (n : Nat) (a : Int) (i : Nat), s.length < i + n → i ≤ s.length → (∀ b ∈ s.drop i, isDig b) → 0 ≤ a → valD (s.drop i) a ≤ 65535 → pNumber_l0 s n a i = .ok (valD (s.drop i) a, s.length)
  | 0, a, i, h, _, _, _, _ => by omega
  | n + 1, a, i, h, hle, hd, ha, hm => by
    unfold pNumber_l0
    by_cases hi : i < s.length
    · have e : s.drop i = s.getD i default :: s.drop (i + 1) := by
        rw [List.drop_eq_getElem_cons hi]; simp [List.getD, hi]
      rw [e] at hd hm ⊢
      have hb := hd _ List.mem_cons_self
      unfold isDig at hb
      have hmono := valD_mono (s.drop (i + 1)) (10 * a + (((s.getD i default).toNat : Int) - 48)) (fun x hx => hd x (List.mem_cons_of_mem _ hx)) (by omega)
      have hv : valD (s.getD i default :: s.drop (i + 1)) a = valD (s.drop (i + 1)) (10 * a + (((s.getD i default).toNat : Int) - 48)) := rfl
      rw [hv] at hm ⊢
      rw [dec_lo hi (by omega), if_pos hi]
      dsimp only
      rw [if_neg (by omega), if_neg (by omega)]
      rw [show a * 10 + (((s.getD i default).toNat : Int) - 48) = 10 * a + (((s.getD i default).toNat : Int) - 48) by omega]
      exact pNumber_l0_dig s n _ (i + 1) (by omega) (by omega) (fun x hx => hd x (List.mem_cons_of_mem _ hx)) (by omega) hm
    · have h2 : i = s.length := by omega
      rw [if_neg hi, h2, List.drop_length]
      rfl
theorem pNumber_itoa {n : Int} (h : 0 ≤ n ∧ n ≤ 65535) : pNumber (Lib.itoa n) = n := by
  have e : Lib.itoa n = Lib.decDigits n.toNat := by unfold Lib.itoa; rw [if_neg (by omega)]
  have hv : valD (Lib.decDigits n.toNat) 0 = n := by rw [decDigits_val]; omega
  unfold pNumber
  rw [pNumber_l0_dig (Lib.itoa n) _ 0 0 (by omega) (by omega) (by rw [e]; simpa using decDigits_dig _) (by omega) (by rw [e]; simp [hv]; omega)]
  rw [List.drop_zero, e, hv]
  rfl
def P0 : PortsT := ⟨0, 65535⟩
def one (s : Str) : PortsT := ⟨pNumber s, pNumber s⟩
def two (s : Str) : PortsT := ⟨pNumber (Lib.cut s [45]).1, pNumber (Lib.cut s [45]).2.1⟩
def cnd (s : Str) : PortsT := if s = [42] then P0 else if (Lib.cut s [45]).2.2 = true then ⟨(rNumber (Lib.cut s [45]).1 65535).1, (rNumber (Lib.cut s [45]).2.1 65535).1⟩ else ⟨(rNumber (Lib.cut s [45]).1 65535).1, (rNumber (Lib.cut s [45]).1 65535).1⟩
theorem pr_iff {x : Str × Int} {s : Str} : x = (s, 0) ↔ x.2 = 0 ∧ x.1 = s := by
  obtain ⟨a, b⟩ := x; simp only [Prod.mk.injEq]; exact And.comm
theorem pParse_u (s : Str) : pParse s = if pPrint P0 = (s, 0) then (P0, 0) else if pPrint (one s) = (s, 0) then (one s, 0) else if pPrint (two s) = (s, 0) then (two s, 0) else (⟨0, 0⟩, 70) := by
  unfold pParse
  simp only [pr_iff]
  unfold P0 one two
  by_cases a1 : (pPrint ⟨0, 65535⟩).2 = 0 <;> by_cases a2 : (pPrint ⟨0, 65535⟩).1 = s <;> by_cases b1 : (pPrint ⟨pNumber s, pNumber s⟩).2 = 0 <;> by_cases b2 : (pPrint ⟨pNumber s, pNumber s⟩).1 = s <;> simp only [a1, a2, b1, b2, if_true, if_false, and_self, and_true, true_and, and_false, false_and]
  all_goals (by_cases c1 : (pPrint ⟨pNumber (Lib.cut s [45]).1, pNumber (Lib.cut s [45]).2.1⟩).2 = 0 <;> by_cases c2 : (pPrint ⟨pNumber (Lib.cut s [45]).1, pNumber (Lib.cut s [45]).2.1⟩).1 = s <;> simp [c1, c2])
theorem rPParse_u (s : Str) : rPParse s = if pPrint (cnd s) = (s, 0) then (cnd s, 0) else (⟨0, 0⟩, 70) := by
  unfold rPParse cnd P0
  simp only [pr_iff, rPPrint_eq, cut45]
  by_cases h : s = [42]
  · subst h; simp only [ne_eq, not_true, if_false, if_true]
    by_cases c1 : (pPrint ⟨0, 65535⟩).2 = 0 <;> by_cases c2 : (pPrint ⟨0, 65535⟩).1 = [42] <;> simp [c1, c2]
  · simp only [ne_eq, h, not_false_eq_true, if_true, if_false]
    by_cases h2 : (Lib.cut s [45]).2.2 = true
    · simp only [h2, if_true]
      by_cases c1 : (pPrint ⟨(rNumber (Lib.cut s [45]).1 65535).1, (rNumber (Lib.cut s [45]).2.1 65535).1⟩).2 = 0 <;> by_cases c2 : (pPrint ⟨(rNumber (Lib.cut s [45]).1 65535).1, (rNumber (Lib.cut s [45]).2.1 65535).1⟩).1 = s <;> simp [c1, c2]
    · simp only [h2, if_false]
      by_cases c1 : (pPrint ⟨(rNumber (Lib.cut s [45]).1 65535).1, (rNumber (Lib.cut s [45]).1 65535).1⟩).2 = 0 <;> by_cases c2 : (pPrint ⟨(rNumber (Lib.cut s [45]).1 65535).1, (rNumber (Lib.cut s [45]).1 65535).1⟩).1 = s <;> simp [c1, c2]
theorem print_cases {p : PortsT} {s : Str} (h : pPrint p = (s, 0)) : (0 ≤ p.lo ∧ p.lo ≤ p.hi ∧ p.hi ≤ 65535) ∧ ((p = P0 ∧ s = [42]) ∨ (p.lo = p.hi ∧ s = Lib.itoa p.lo) ∨ (p.lo ≠ p.hi ∧ s = Lib.itoa p.lo ++ [45] ++ Lib.itoa p.hi)) := by
  unfold pPrint at h
  cases hr : pRight p
  · rw [hr, if_pos (by simp)] at h; simp at h
  · have hb := pRight_t hr
    refine ⟨hb, ?_⟩
    rw [hr, if_neg (by simp)] at h
    by_cases h1 : p.lo = 0 ∧ p.hi = 65535
    · rw [if_pos h1] at h
      simp only [Prod.mk.injEq] at h
      obtain ⟨a, b⟩ := p
      simp only at h1
      exact .inl ⟨by rw [h1.1, h1.2]; rfl, h.1.symm⟩
    · rw [if_neg h1] at h
      by_cases h2 : p.lo = p.hi
      · rw [if_pos h2] at h
        simp only [Prod.mk.injEq] at h
        exact .inr (.inl ⟨h2, h.1.symm⟩)
      · rw [if_neg h2] at h
        simp only [Prod.mk.injEq] at h
        exact .inr (.inr ⟨h2, h.1.symm⟩)
theorem itoa_no {n : Int} (h : 0 ≤ n) : Lib.itoa n ≠ [42] := fun e => by
  have := itoa_dig h 42 (by rw [e]; exact List.mem_cons_self)
  unfold isDig at this
  simp at this
theorem cand {p : PortsT} {s : Str} (h : pPrint p = (s, 0)) : p = P0 ∨ p = one s ∨ p = two s := by
  obtain ⟨hb, h1 | ⟨h1, rfl⟩ | ⟨h1, rfl⟩⟩ := print_cases h
  · exact .inl h1.1
  · refine .inr (.inl ?_)
    obtain ⟨a, b⟩ := p
    simp only at h1 hb ⊢
    subst h1
    unfold one
    rw [pNumber_itoa (by omega)]
  · refine .inr (.inr ?_)
    obtain ⟨a, b⟩ := p
    simp only at h1 hb ⊢
    unfold two
    rw [cut_at _ _ (dig_ne (itoa_dig (by omega)) (by decide)), pNumber_itoa (by omega), pNumber_itoa (by omega)]
theorem uniq {p : PortsT} {s : Str} (h : pPrint p = (s, 0)) : cnd s = p := by
  obtain ⟨hb, ⟨rfl, rfl⟩ | ⟨h1, rfl⟩ | ⟨h1, rfl⟩⟩ := print_cases h
  · rfl
  · obtain ⟨a, b⟩ := p
    simp only at h1 hb ⊢
    subst h1
    unfold cnd
    rw [if_neg (itoa_no (by omega)), cut_not _ (dig_ne (itoa_dig (by omega)) (by decide)), if_neg (by simp)]
    simp only [number_itoa (show 0 ≤ a ∧ a ≤ 65535 by omega)]
  · obtain ⟨a, b⟩ := p
    simp only at h1 hb ⊢
    unfold cnd
    rw [if_neg (fun e => by
      have : (45 : UInt8) ∈ ([42] : Str) := by rw [← e]; simp
      simp at this), cut_at _ _ (dig_ne (itoa_dig (by omega)) (by decide)), if_pos rfl]
    simp only [number_itoa (show 0 ≤ a ∧ a ≤ 65535 by omega), number_itoa (show 0 ≤ b ∧ b ≤ 65535 by omega)]
theorem pParse_eq (s : Str) : pParse s = rPParse s := by
  rw [pParse_u, rPParse_u]
  by_cases h1 : pPrint P0 = (s, 0)
  · rw [if_pos h1, uniq h1, if_pos h1]
  by_cases h2 : pPrint (one s) = (s, 0)
  · rw [if_neg h1, if_pos h2, uniq h2, if_pos h2]
  by_cases h3 : pPrint (two s) = (s, 0)
  · rw [if_neg h1, if_neg h2, if_pos h3, uniq h3, if_pos h3]
  rw [if_neg h1, if_neg h2, if_neg h3, if_neg]
  intro h
  rcases cand h with e | e | e
  · rw [e] at h; exact h1 h
  · rw [e] at h; exact h2 h
  · rw [e] at h; exact h3 h
theorem tprint_cases {t : Target} {s : Str} (h : tPrint t = (s, 0)) : (0 ≤ t.addr ∧ t.addr ≤ 4294967295) ∧ (1 ≤ t.port ∧ t.port ≤ 65535) ∧ s = (rPrint t.addr).1 ++ [58] ++ Lib.itoa t.port := by
  unfold tPrint at h
  rw [aPrint_eq] at h
  by_cases ha : 0 ≤ t.addr ∧ t.addr ≤ 4294967295
  · rw [if_neg (by rw [(parse_print ha).2]; simp)] at h
    by_cases h1 : t.port < 1
    · rw [if_pos h1] at h; simp at h
    by_cases h2 : 65535 < t.port
    · rw [if_neg h1, if_pos h2] at h; simp at h
    rw [if_neg h1, if_neg h2] at h
    simp only [Prod.mk.injEq] at h
    exact ⟨ha, by omega, h.1.symm⟩
  · rw [rPrint_bad ha] at h; simp at h
end Go.Proofs.YtnblakihpoacjaaGreatDoor.Jd

namespace Go.Proofs.YtnblakihpoacjaaGreatDoor.Jd
set_option linter.unusedVariables false
set_option linter.unusedSimpArgs false
theorem rPrintPrefix_len8 (p : Prefix) : (rPrintPrefix p).1.length ≤ 200 := by rw [← aPrintPrefix_eq]; exact aPrintPrefix_len' p
theorem rPPrint_len8 (p : PortsT) : (rPPrint p).1.length ≤ 100 := by rw [rPPrint_eq]; exact pPrint_len p
theorem rlPrint_len (r : Rule) : (rlPrint r).1.length ≤ 1000 := by
  have h1 := aPrintPrefix_len' r.pfx
  have h2 := pPrint_len r.prt
  rw [aPrintPrefix_eq] at h1
  rw [← rPPrint_eq] at h2
  unfold rlPrint
  split
  · simp
  · split <;> simp only [List.length_append, List.length_cons, List.length_nil] <;> omega
theorem lcut8_len (s : Str) : (lcut8 s).length ≤ 60 := by unfold lcut8; rw [List.length_take]; omega
end Go.Proofs.YtnblakihpoacjaaGreatDoor.Jd

