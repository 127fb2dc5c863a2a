/- Part of the proofs of this seat: walks and plain facts. No condition. -/
import Derived.Test.YtofkflecgnmemaaProg
import Derived.Test.YtofkflecgnmemaaJ17
namespace Go.Proofs.Ytofkflecgnmemaa.Jd
open Go.Proofs
open Go.RowKit (Below)
set_option maxRecDepth 100000
set_option linter.unusedVariables false
set_option linter.unusedSimpArgs false
theorem mixed : Try.prog.follows .mixedOrders = true := by kernel_rfl
theorem FO_25_0 : FieldOff Try.prog 25 0 0 := fun r k w => by simp [Instr.fieldAt, Instr.sureAddr, fieldPlace, addr_add]
theorem FO_25_1 : FieldOff Try.prog 25 1 1 := fun r k w => by simp [Instr.fieldAt, Instr.sureAddr, fieldPlace, addr_add]
theorem FO_25_2 : FieldOff Try.prog 25 2 2 := fun r k w => by simp [Instr.fieldAt, Instr.sureAddr, fieldPlace, addr_add]
theorem FO_27_0 : FieldOff Try.prog 27 0 0 := fun r k w => by simp [Instr.fieldAt, Instr.sureAddr, fieldPlace, addr_add]
theorem FO_48_0 : FieldOff Try.prog 48 0 0 := fun r k w => by simp [Instr.fieldAt, Instr.sureAddr, fieldPlace, addr_add]
theorem PL_25 : Places Try.prog 25 [(0, 1), (1, 1), (2, 1)] := ⟨_, fun w => Try.runUnderlying25 w, fun w => by simp⟩
theorem PL_27 : Places Try.prog 27 [(0, 1), (1, 1)] := ⟨_, fun w => Try.runUnderlying27 w, fun w => by simp⟩
theorem PL_48 : Places Try.prog 48 [(0, 3)] := ⟨_, fun w => Try.runUnderlying48 w, fun w => by simp⟩
theorem EQo_27 (x y : Operand) (a0 a1 b0 b1 : Int) (w : World) : (do eqGuard .eql 27 x y (Value.agg [Value.int .i64 a0, Value.int .i64 a1].toArray) (Value.agg [Value.int .i64 b0, Value.int .i64 b1].toArray); binOp .eql 27 (Value.agg [Value.int .i64 a0, Value.int .i64 a1].toArray) (Value.agg [Value.int .i64 b0, Value.int .i64 b1].toArray) : Sem Value).run Try.prog w = .ok (.bool (decide (a0 = b0 ∧ a1 = b1))) w := by
  have h : ∀ n, (Op.equalIn (n + 2) 27 (Value.agg [Value.int .i64 a0, Value.int .i64 a1].toArray) (Value.agg [Value.int .i64 b0, Value.int .i64 b1].toArray)).run Try.prog w = .ok (decide (a0 = b0 ∧ a1 = b1)) w := fun n => by
    rw [show n + 2 = (n + 1) + 1 from rfl]
    unfold Op.equalIn
    simp [part, run_eqI (P := Try.prog) (t := 3) n .i64 _ _ Try.runUnderlying3]
    by_cases h0 : a0 = b0 <;> by_cases h1 : a1 = b1 <;> simp_all
  have h2 : (binOp .eql 27 (Value.agg [Value.int .i64 a0, Value.int .i64 a1].toArray) (Value.agg [Value.int .i64 b0, Value.int .i64 b1].toArray)).run Try.prog w = .ok (.bool (decide (a0 = b0 ∧ a1 = b1))) w := by
    show (do pure (.bool (← Op.equal 27 _ _)) : Sem Value).run Try.prog w = _
    simp only [Sem.run_bind, Op.equal, Op.maxDepth, h 9998, Result.andThen_ok, Sem.run_pure]
  simp [eqGuard]
  simpa using h2
theorem TY_3 : Ty Try.prog 3 1 8 (Value.int .i64 (0)) := ⟨⟨Try.t3, by kernel_rfl, rfl, rfl, rfl⟩, rfl⟩
theorem TY_4 : Ty Try.prog 4 1 1 (Value.bool (false)) := ⟨⟨Try.t4, by kernel_rfl, rfl, rfl, rfl⟩, rfl⟩
theorem TY_27 : Ty Try.prog 27 2 16 (Value.agg [(Value.int .i64 (0)), (Value.int .i64 (0))].toArray) := ⟨⟨Try.t27, by kernel_rfl, rfl, rfl, rfl⟩, rfl⟩

def eH (x : Int × Int) : List Value := [.int .i64 x.1, .int .i64 x.2]
theorem eH_ok : EncOk eH 2 := ⟨by omega, fun _ => rfl, fun _ => rfl⟩
def badGen (n : Int) : Bool := decide (n < 0 ∨ 1000000000 < n)
def longD (gl : List Int) (ul : List Bool) : Bool := decide (1 ≤ gl.length ∧ gl.length ≤ 64 ∧ ul.length = gl.length)
theorem getD_lt {α : Type} [Inhabited α] {xs : List α} {k : Nat} (h : k < xs.length) : xs.getD k default = xs[k] := by simp [List.getD, h]
theorem take_succ' {α : Type} [Inhabited α] {xs : List α} {k : Nat} (h : k < xs.length) : xs.take (k + 1) = xs.take k ++ [xs.getD k default] := by
  rw [List.take_add_one, List.getElem?_eq_getElem h, getD_lt h]; rfl
theorem any_step {α : Type} [Inhabited α] {p : α → Bool} {xs : List α} {k : Nat} (h : k < xs.length) (h1 : (xs.take k).any p = false) (h2 : p (xs.getD k default) = false) : (xs.take (k + 1)).any p = false := by
  rw [take_succ' h, List.any_append, h1]; simp only [List.any_cons, h2, List.any_nil]; rfl
theorem any_hit {α : Type} [Inhabited α] {p : α → Bool} {xs : List α} {k : Nat} (h : k < xs.length) (h2 : p (xs.getD k default) = true) : (0 ≤ (k : Int) ↔ xs.any p = true) := by
  refine ⟨fun _ => ?_, fun _ => by omega⟩
  rw [getD_lt h] at h2
  exact List.any_eq_true.2 ⟨_, List.getElem_mem h, h2⟩
theorem any_none {α : Type} {p : α → Bool} {xs : List α} {k : Nat} (h : xs.length ≤ k) (h1 : (xs.take k).any p = false) : (0 ≤ (-1 : Int) ↔ xs.any p = true) := by
  rw [List.take_of_length_le h] at h1
  rw [h1]; simp
theorem dec_iff {p : Prop} [Decidable p] {b : Bool} (h : p ↔ b = true) : decide p = b := by
  cases b <;> simp_all
def CtxU (r r1 : Nat) (ga ua fa : Option Addr) (gc uc fc : Nat) (gl : List Int) (ul : List Bool) (fl : List Int) (w : World) : Prop :=
  w.heap[r1]? = some (Obj.cells [Value.pointer (some ⟨r, 0, none⟩)].toArray 45) ∧ w.heap[r]? = some (Obj.cells [Value.slice ga gl.length gc, Value.slice ua ul.length uc, Value.slice fa fl.length fc].toArray 48) ∧ Sl w eI 1 ga gl ∧ Sl w eB 1 ua ul
def OkU (r r1 : Nat) (ga ua : Option Addr) (gl : List Int) (ul : List Bool) (k : Nat) : Prop := k ≠ r1 ∧ k ≠ r ∧ NotIn ga gl k ∧ NotIn ua ul k
def usedIx : Nat → List Bool → List Nat
  | _, [] => []
  | i, true :: r => i :: usedIx (i + 1) r
  | i, false :: r => usedIx (i + 1) r
theorem usedIx_append : ∀ (l m : List Bool) (i : Nat), usedIx i (l ++ m) = usedIx i l ++ usedIx (i + l.length) m
  | [], m, i => by simp [usedIx]
  | true :: r, m, i => by simp [usedIx, usedIx_append r m, Nat.add_assoc, Nat.add_comm 1]
  | false :: r, m, i => by simp [usedIx, usedIx_append r m, Nat.add_assoc, Nat.add_comm 1]
def cntU (l : List Bool) : Nat := (usedIx 0 l).length
def usedE (gl : List Int) (ul : List Bool) : List (List Value) := (usedIx 0 ul).map fun i => [Value.agg [.int .i64 i, .int .i64 (gl.getD i default)].toArray]
theorem usedIx_take {ul : List Bool} {k : Nat} (h : k < ul.length) : usedIx 0 (ul.take (k + 1)) = usedIx 0 (ul.take k) ++ (if ul.getD k default then [k] else []) := by
  rw [take_succ' h, usedIx_append]
  congr 1
  have : 0 + (ul.take k).length = k := by simp; omega
  rw [this]
  cases ul.getD k default <;> simp [usedIx]
theorem usedE_get {gl : List Int} {ul : List Bool} {k : Nat} (h : k < ul.length) (ht : ul.getD k default = true) : (usedE gl ul)[cntU (ul.take k)]? = some [Value.agg [.int .i64 k, .int .i64 (gl.getD k default)].toArray] := by
  have h1 : ul = ul.take (k + 1) ++ ul.drop (k + 1) := (List.take_append_drop _ _).symm
  have h2 : usedIx 0 ul = usedIx 0 (ul.take k) ++ k :: usedIx (0 + (ul.take (k + 1)).length) (ul.drop (k + 1)) := by
    conv => lhs; rw [h1, usedIx_append, usedIx_take h, ht]
    simp
  unfold usedE cntU
  rw [h2]
  simp
theorem usedS_t {ul : List Bool} {k : Nat} {S : Nat → Heap → Prop} {H : Heap} (h : k < ul.length) (ht : ul.getD k default = true) (hS : S (cntU (ul.take k) + 1) H) : S (cntU (ul.take (k + 1))) H := by
  have : cntU (ul.take (k + 1)) = cntU (ul.take k) + 1 := by unfold cntU; rw [usedIx_take h, ht]; simp
  rw [this]; exact hS
theorem usedS_f {ul : List Bool} {k : Nat} {S : Nat → Heap → Prop} {H : Heap} (h : k < ul.length) (ht : ul.getD k default = false) (hS : S (cntU (ul.take k)) H) : S (cntU (ul.take (k + 1))) H := by
  have : cntU (ul.take (k + 1)) = cntU (ul.take k) := by unfold cntU; rw [usedIx_take h, ht]; simp
  rw [this]; exact hS
theorem usedS_end {gl : List Int} {ul : List Bool} {k : Nat} {S : Nat → Heap → Prop} {H : Heap} (h : ul.length ≤ k) (hS : S (cntU (ul.take k)) H) : S (usedE gl ul).length H := by
  rw [List.take_of_length_le h] at hS
  simpa [usedE, cntU] using hS
theorem ctxU_alloc {r r1 : Nat} {ga ua fa : Option Addr} {gc uc fc : Nat} {gl : List Int} {ul : List Bool} {fl : List Int} {w : World} (h : CtxU r r1 ga ua fa gc uc fc gl ul fl w) (o : Obj) : CtxU r r1 ga ua fa gc uc fc gl ul fl (w.alloc o) := by
  have he : Ext w (w.alloc o) := (Below.refl _ w).alloc (Nat.le_refl _) o
  exact ⟨by rw [he.block r1 (Array.getElem?_eq_some_iff.1 h.1).1]; exact h.1, by rw [he.block r (Array.getElem?_eq_some_iff.1 h.2.1).1]; exact h.2.1, h.2.2.1.ext he, h.2.2.2.ext he⟩
theorem usedE_at {gl : List Int} {ul : List Bool} {i : Nat} {vs : List Value} (h : (usedE gl ul)[i]? = some vs) : ∃ j : Nat, (usedIx 0 ul)[i]? = some j ∧ vs = [Value.agg [.int .i64 j, .int .i64 (gl.getD j default)].toArray] := by
  unfold usedE at h
  rw [List.getElem?_map] at h
  cases hj : (usedIx 0 ul)[i]? with
  | none => simp [hj] at h
  | some j => exact ⟨j, rfl, by simpa [hj] using h.symm⟩
theorem usedE_len {gl : List Int} {ul : List Bool} : ∀ vs ∈ usedE gl ul, Nat.beq vs.length 1 = true := fun vs h => by
  obtain ⟨j, _, rfl⟩ := List.mem_map.1 h
  rfl
theorem usedIx_length : ∀ (l : List Bool) (i : Nat), (usedIx i l).length ≤ l.length
  | [], i => by simp [usedIx]
  | true :: r, i => by have := usedIx_length r (i + 1); simp [usedIx]; omega
  | false :: r, i => by have := usedIx_length r (i + 1); simp [usedIx]; omega
theorem usedE_bd {gl : List Int} {ul : List Bool} {i : Nat} {vs : List Value} (h : (usedE gl ul)[i]? = some vs) : i < ul.length := by
  have h1 := (List.getElem?_eq_some_iff.1 h).1
  have h2 := usedIx_length ul 0
  simp only [usedE, List.length_map] at h1
  omega
def freeD (ul : List Bool) (fl : List Int) : Prop := (∀ x ∈ fl, 0 ≤ x ∧ x < ul.length ∧ ul.getD x.toNat default = false) ∧ fl.Nodup
instance (ul : List Bool) (fl : List Int) : Decidable (freeD ul fl) := inferInstanceAs (Decidable (_ ∧ _))
theorem freeD_nil {ul : List Bool} {fl : List Int} : freeD ul (fl.take 0) := ⟨by simp, by simp⟩
theorem freeD_step {ul : List Bool} {fl : List Int} {k : Nat} (h : k < fl.length) (h1 : freeD ul (fl.take k)) (c1 : 0 ≤ fl.getD k default) (c2 : fl.getD k default < ul.length) (c3 : ul.getD (fl.getD k default).toNat default = false) (c4 : ¬ fl.getD k default ∈ fl.take k) : freeD ul (fl.take (k + 1)) := by
  rw [take_succ' h]
  refine ⟨fun x hx => ?_, ?_⟩
  · rcases List.mem_append.1 hx with hx | hx
    · exact h1.1 x hx
    · have := List.mem_singleton.1 hx
      subst this
      exact ⟨c1, c2, c3⟩
  · rw [List.nodup_append]
    exact ⟨h1.2, by simp, fun a ha b hb => by have := List.mem_singleton.1 hb; subst this; exact fun e => c4 (e ▸ ha)⟩
theorem freeD_neg {ul : List Bool} {fl : List Int} {k : Nat} (h : k < fl.length) (hc : ¬ (0 ≤ fl.getD k default ∧ fl.getD k default < ul.length ∧ ul.getD (fl.getD k default).toNat default = false ∧ ¬ fl.getD k default ∈ fl.take k)) : ¬ freeD ul fl := fun hf => by
  have hm : fl.getD k default ∈ fl := by rw [getD_lt h]; exact List.getElem_mem h
  obtain ⟨c1, c2, c3⟩ := hf.1 _ hm
  refine hc ⟨c1, c2, c3, fun h4 => ?_⟩
  have h5 : fl = fl.take k ++ fl.drop k := (List.take_append_drop _ _).symm
  have h6 := hf.2
  rw [h5, List.nodup_append] at h6
  refine h6.2.2 _ h4 (fl.getD k default) ?_ rfl
  rw [getD_lt h]
  exact List.mem_iff_getElem.2 ⟨0, by simp; omega, by simp⟩
theorem lookT {fl : List Int} {k : Nat} {q : Int} : (lookL ((fl.take k).map fun x => (x, Value.bool true)) q).getD (Value.bool false) = Value.bool (decide (q ∈ fl.take k)) := by
  generalize fl.take k = l
  induction l with
  | nil => simp [lookL]
  | cons x r ih =>
    simp only [lookL, List.map_cons, List.find?_cons] at *
    by_cases h : x = q
    · simp [h]
    · have h' : ¬ q = x := fun e => h e.symm
      simp only [h, decide_false, List.mem_cons, h', false_or]
      exact ih
theorem notin_keys {fl : List Int} {k : Nat} {q : Int} (h : ¬ q ∈ fl.take k) : ∀ p ∈ (fl.take k).map (fun x => (x, Value.bool true)), p.1 ≠ q := fun p hp e => by
  obtain ⟨x, hx, rfl⟩ := List.mem_map.1 hp
  exact h (e ▸ hx)
theorem mapIs_step {fl : List Int} {k : Nat} {es : Array MapEntry} (h : k < fl.length) (hm : MapIs (fun x => Value.int .i64 x) es ((fl.take k).map (fun x => (x, Value.bool true)) ++ [(fl.getD k default, Value.bool true)])) : MapIs (fun x => Value.int .i64 x) es ((fl.take (k + 1)).map (fun x => (x, Value.bool true))) := by
  rw [take_succ' h, List.map_append]; exact hm
theorem free_end {gl : List Int} {ul : List Bool} {fl : List Int} {k : Nat} {es : Array MapEntry} (h : fl.length ≤ k) (hm : MapIs (fun x => Value.int .i64 x) es ((fl.take k).map (fun x => (x, Value.bool true)))) (hf : freeD ul (fl.take k)) :
    decide ((gl.length : Int) - ((usedE gl ul).length : Int) = (es.size : Int)) = decide (freeD ul fl ∧ (gl.length : Int) - (cntU ul : Int) = (fl.length : Int)) := by
  rw [List.take_of_length_le h] at hm hf
  have h1 : es.size = fl.length := by
    have := congrArg List.length hm
    simpa using this
  have h2 : (usedE gl ul).length = cntU ul := by simp [usedE, cntU]
  rw [h1, h2, decide_eq_decide]
  exact ⟨fun h => ⟨hf, h⟩, fun h => h.2⟩
def rightB (gl : List Int) (ul : List Bool) (fl : List Int) : Bool := longD gl ul && !(gl.any badGen) && decide (freeD ul fl ∧ (gl.length : Int) - (cntU ul : Int) = (fl.length : Int))
theorem longD_len {gl : List Int} {ul : List Bool} (h : longD gl ul = true) : ul.length = gl.length := by simp [longD] at h; exact h.2.2
theorem rb_f1 {gl : List Int} {ul : List Bool} {fl : List Int} (h : (!(longD gl ul)) = true) : false = rightB gl ul fl := by unfold rightB; cases hA : longD gl ul <;> simp [hA] at h ⊢
theorem rb_f2 {gl : List Int} {ul : List Bool} {fl : List Int} (h : (!(!(gl.any badGen))) = true) : false = rightB gl ul fl := by unfold rightB; cases hA : gl.any badGen <;> simp [hA] at h ⊢
theorem rb_f3 {gl : List Int} {ul : List Bool} {fl : List Int} (h : ¬ (freeD ul fl ∧ (gl.length : Int) - (cntU ul : Int) = (fl.length : Int))) : false = rightB gl ul fl := by
  unfold rightB; rw [decide_eq_false h]; simp
theorem rb_t {gl : List Int} {ul : List Bool} {fl : List Int} (h1 : longD gl ul = true) (h2 : gl.any badGen = false) (h3 : freeD ul fl ∧ (gl.length : Int) - (cntU ul : Int) = (fl.length : Int)) : true = rightB gl ul fl := by
  unfold rightB; rw [decide_eq_true h3, h1, h2]; rfl
theorem fresh_pick4 {w w' : World} {p : Nat × Obj} {A B C R : Heap} (h : SH w [] (p :: (A ++ (B ++ (C ++ R)))) w') : Fresh w w' (p :: (A ++ (B ++ C))) :=
  h.fresh_out.sub (List.Sublist.cons_cons _ (List.Sublist.append (List.Sublist.refl _) (List.Sublist.append (List.Sublist.refl _) (List.sublist_append_left _ _))))
def hnd (gl : List Int) (ul : List Bool) : List (Int × Int) := (usedIx 0 ul).map fun i : Nat => ((i : Int), gl.getD i default)
def allD (gl : List Int) (ul : List Bool) (fl : List Int) : List (Int × Int) := if rightB gl ul fl then hnd gl ul else []
theorem all_no {gl : List Int} {ul : List Bool} {fl : List Int} (h : rightB gl ul fl = false) : allD gl ul fl = [] := by simp [allD, h]
theorem all_len {gl : List Int} {ul : List Bool} {fl : List Int} (h : rightB gl ul fl = true) : (usedE gl ul).length = (allD gl ul fl).length := by simp [allD, h, hnd, usedE]
theorem all_own {gl : List Int} {ul : List Bool} {fl : List Int} {a : Option Addr} {c : Nat} {B : Heap} (h : rightB gl ul fl = true) (ho : OwnB eH 2 27 a c B ((hnd gl ul).take (usedE gl ul).length)) : OwnB eH 2 27 a c B (allD gl ul fl) := by
  rw [List.take_of_length_le (by simp [hnd, usedE])] at ho
  simpa [allD, h] using ho
theorem right_le {gl : List Int} {ul : List Bool} {fl : List Int} (h : rightB gl ul fl = true) : ul.length ≤ gl.length := by
  simp only [rightB, Bool.and_eq_true] at h
  exact Nat.le_of_eq (longD_len h.1.1)
theorem hnd_len {gl : List Int} {ul : List Bool} {i j : Nat} (h : (usedIx 0 ul)[i]? = some j) : ((hnd gl ul).take i).length = i := by
  have := (List.getElem?_eq_some_iff.1 h).1
  simp [hnd]; omega
theorem hnd_len2 {gl : List Int} {ul : List Bool} {i j : Nat} (h : (usedIx 0 ul)[i]? = some j) : ((hnd gl ul).take (i + 1)).length = i + 1 := by
  have := (List.getElem?_eq_some_iff.1 h).1
  simp [hnd]; omega
theorem hnd_step {gl : List Int} {ul : List Bool} {i j : Nat} (h : (usedIx 0 ul)[i]? = some j) : (hnd gl ul).take i ++ [((j : Int), gl.getD j default)] = (hnd gl ul).take (i + 1) := by
  rw [List.take_add_one]
  simp [hnd, h]
theorem allD_le {gl : List Int} {ul : List Bool} {fl : List Int} : (allD gl ul fl).length ≤ ul.length := by
  have := usedIx_length ul 0
  unfold allD
  split
  · simpa [hnd] using this
  · simp
theorem notmem_step {xs : List (Int × Int)} {k : Nat} {p q : Int} (h : k < xs.length) (h1 : ¬ (p, q) ∈ xs.take k) (h2 : ¬ ((xs.getD k default).1 = p ∧ (xs.getD k default).2 = q)) : ¬ (p, q) ∈ xs.take (k + 1) := by
  rw [take_succ' h, List.mem_append, not_or]
  refine ⟨h1, fun hm => h2 ?_⟩
  rw [← List.mem_singleton.1 hm]; exact ⟨rfl, rfl⟩
theorem mem_hit {xs : List (Int × Int)} {k : Nat} {p q : Int} (h : k < xs.length) (h2 : (xs.getD k default).1 = p ∧ (xs.getD k default).2 = q) : true = decide ((p, q) ∈ xs) := by
  symm; rw [decide_eq_true_eq]
  have : (p, q) = xs[k] := by rw [← getD_lt h]; exact Prod.ext h2.1.symm h2.2.symm
  rw [this]; exact List.getElem_mem h
theorem mem_none {xs : List (Int × Int)} {k : Nat} {p q : Int} (h : xs.length ≤ k) (h1 : ¬ (p, q) ∈ xs.take k) : false = decide ((p, q) ∈ xs) := by
  rw [List.take_of_length_le h] at h1
  exact (decide_eq_false h1).symm
abbrev Slots3 := List Int × List Bool × List Int
def lastI (fl : List Int) : Int := fl.getD ((fl.length : Int) - 1).toNat default
def takeD (gl : List Int) (ul : List Bool) (fl : List Int) : Slots3 × (Int × Int) × Int :=
  if rightB gl ul fl then
    if fl.length = 0 ∨ gl.getD (lastI fl).toNat default = 1000000000 then (([], [], []), (0, 0), 92)
    else ((gl.set (lastI fl).toNat (gl.getD (lastI fl).toNat default + 1), ul.set (lastI fl).toNat true, fl.take (fl.length - 1)), (lastI fl, gl.getD (lastI fl).toNat default + 1), 0)
  else (([], [], []), (0, 0), 90)
theorem take_no {gl : List Int} {ul : List Bool} {fl : List Int} (h : rightB gl ul fl = false) : takeD gl ul fl = (([], [], []), (0, 0), 90) := by simp [takeD, h]
theorem take_full {gl : List Int} {ul : List Bool} {fl : List Int} (h : rightB gl ul fl = true) (h1 : fl.length = 0 ∨ gl.getD (fl.getD ((fl.length : Int) - 1).toNat default).toNat default = 1000000000) : takeD gl ul fl = (([], [], []), (0, 0), 92) := by
  unfold takeD; rw [if_pos h]; exact if_pos h1
theorem take_yes {gl : List Int} {ul : List Bool} {fl : List Int} (h : rightB gl ul fl = true) (h1 : fl.length ≠ 0) (h2 : ¬ gl.getD (fl.getD ((fl.length : Int) - 1).toNat default).toNat default = 1000000000) :
    takeD gl ul fl = ((gl.set (lastI fl).toNat (gl.getD (lastI fl).toNat default + 1), ul.set (lastI fl).toNat true, fl.take (fl.length - 1)), (lastI fl, gl.getD (lastI fl).toNat default + 1), 0) := by
  unfold takeD; rw [if_pos h]; exact if_neg (fun hh => hh.elim h1 h2)
theorem rightB_iff {gl : List Int} {ul : List Bool} {fl : List Int} : rightB gl ul fl = true ↔ (1 ≤ gl.length ∧ gl.length ≤ 64 ∧ ul.length = gl.length) ∧ (∀ x ∈ gl, 0 ≤ x ∧ x ≤ 1000000000) ∧ freeD ul fl ∧ (gl.length : Int) - (cntU ul : Int) = (fl.length : Int) := by
  simp only [rightB, Bool.and_eq_true, longD, decide_eq_true_eq, Bool.not_eq_true', List.any_eq_false, badGen]
  constructor
  · rintro ⟨⟨h1, h2⟩, h3, h4⟩
    exact ⟨h1, fun x hx => by have := h2 x hx; omega, h3, h4⟩
  · rintro ⟨h1, h2, h3, h4⟩
    exact ⟨⟨h1, fun x hx => by have := h2 x hx; omega⟩, h3, h4⟩
theorem right_last {gl : List Int} {ul : List Bool} {fl : List Int} (h : rightB gl ul fl = true) (h1 : fl.length ≠ 0) :
    0 ≤ fl.getD ((fl.length : Int) - 1).toNat default ∧ fl.getD ((fl.length : Int) - 1).toNat default < gl.length ∧ gl.length = ul.length ∧ 0 ≤ gl.getD (fl.getD ((fl.length : Int) - 1).toNat default).toNat default ∧ gl.getD (fl.getD ((fl.length : Int) - 1).toNat default).toNat default ≤ 1000000000 := by
  obtain ⟨⟨g1, g2, g3⟩, h2, h3, _⟩ := rightB_iff.1 h
  have hlt : ((fl.length : Int) - 1).toNat < fl.length := by omega
  have hm : fl.getD ((fl.length : Int) - 1).toNat default ∈ fl := by rw [getD_lt hlt]; exact List.getElem_mem hlt
  obtain ⟨c1, c2, _⟩ := h3.1 _ hm
  have hlt2 : (fl.getD ((fl.length : Int) - 1).toNat default).toNat < gl.length := by omega
  have := h2 (gl.getD (fl.getD ((fl.length : Int) - 1).toNat default).toNat default) (by rw [getD_lt hlt2]; exact List.getElem_mem hlt2)
  exact ⟨c1, by omega, by omega, this⟩
theorem getD_set_self {xs : List Int} {m : Nat} {v : Int} (h : m < xs.length) : (xs.set m v).getD m default = v := by simp [List.getD, h]
theorem tup_slots {a1 a2 a3 : Option Addr} {n1 m1 c1 n2 m2 c2 n3 m3 c3 : Nat} {p q q' r : Int} (h1 : n1 = m1) (h2 : n2 = m2) (h3 : n3 = m3) (h4 : q = q') :
    Value.tuple [Value.agg [Value.slice a1 n1 c1, Value.slice a2 n2 c2, Value.slice a3 n3 c3].toArray, Value.agg [Value.int .i64 p, Value.int .i64 q].toArray, Value.int .i64 r].toArray = Value.tuple [Value.agg [Value.slice a1 m1 c1, Value.slice a2 m2 c2, Value.slice a3 m3 c3].toArray, Value.agg [Value.int .i64 p, Value.int .i64 q'].toArray, Value.int .i64 r].toArray := by
  subst h1 h2 h3 h4; rfl
def giveD (gl : List Int) (ul : List Bool) (fl : List Int) (h1 h2 : Int) : Slots3 × Int :=
  if rightB gl ul fl then if (h1, h2) ∈ allD gl ul fl then ((gl, ul.set h1.toNat false, fl ++ [h1]), 0) else (([], [], []), 91) else (([], [], []), 90)
theorem give_no {gl : List Int} {ul : List Bool} {fl : List Int} {h1 h2 : Int} (h : rightB gl ul fl = false) : giveD gl ul fl h1 h2 = (([], [], []), 90) := by simp [giveD, h]
theorem give_bad {gl : List Int} {ul : List Bool} {fl : List Int} {h1 h2 : Int} (h : rightB gl ul fl = true) (hv : ¬ (h1, h2) ∈ allD gl ul fl) : giveD gl ul fl h1 h2 = (([], [], []), 91) := by simp [giveD, h, hv]
theorem give_yes {gl : List Int} {ul : List Bool} {fl : List Int} {h1 h2 : Int} (h : rightB gl ul fl = true) (hv : (h1, h2) ∈ allD gl ul fl) : giveD gl ul fl h1 h2 = ((gl, ul.set h1.toNat false, fl ++ [h1]), 0) := by simp [giveD, h, hv]
theorem usedIx_mem : ∀ (l : List Bool) (i j : Nat), j ∈ usedIx i l ↔ i ≤ j ∧ l[j - i]? = some true
  | [], i, j => by simp [usedIx]
  | true :: r, i, j => by
    simp only [usedIx, List.mem_cons, usedIx_mem r]
    constructor
    · rintro (rfl | ⟨h1, h2⟩)
      · simp
      · refine ⟨by omega, ?_⟩
        rw [show j - i = (j - (i + 1)) + 1 by omega]; simpa using h2
    · rintro ⟨h1, h2⟩
      rcases Nat.eq_or_lt_of_le h1 with e | h3
      · exact .inl e.symm
      · refine .inr ⟨h3, ?_⟩
        rw [show j - i = (j - (i + 1)) + 1 by omega] at h2; simpa using h2
  | false :: r, i, j => by
    simp only [usedIx, usedIx_mem r]
    constructor
    · rintro ⟨h1, h2⟩
      refine ⟨by omega, ?_⟩
      rw [show j - i = (j - (i + 1)) + 1 by omega]; simpa using h2
    · rintro ⟨h1, h2⟩
      rcases Nat.eq_or_lt_of_le h1 with e | h3
      · subst e; simp at h2
      · refine ⟨h3, ?_⟩
        rw [show j - i = (j - (i + 1)) + 1 by omega] at h2; simpa using h2
theorem hnd_mem {gl : List Int} {ul : List Bool} {p q : Int} : (p, q) ∈ hnd gl ul ↔ 0 ≤ p ∧ ul[p.toNat]? = some true ∧ gl.getD p.toNat default = q := by
  simp only [hnd, List.mem_map, usedIx_mem, Prod.mk.injEq]
  constructor
  · rintro ⟨j, ⟨_, h2⟩, rfl, rfl⟩
    exact ⟨by omega, by simpa using h2, by simp⟩
  · rintro ⟨h1, h2, h3⟩
    exact ⟨p.toNat, ⟨Nat.zero_le _, by simpa using h2⟩, by omega, h3⟩
theorem valid_at {gl : List Int} {ul : List Bool} {fl : List Int} {p q : Int} (h : (p, q) ∈ allD gl ul fl) : 0 ≤ p ∧ p < ul.length := by
  unfold allD at h
  split at h
  · obtain ⟨h1, h2, _⟩ := hnd_mem.1 h
    have := (List.getElem?_eq_some_iff.1 h2).1
    omega
  · cases h
theorem tup_slots2 {a1 a2 a3 : Option Addr} {n1 m1 c1 n2 m2 c2 n3 m3 c3 : Nat} {r : Int} (h1 : n1 = m1) (h2 : n2 = m2) (h3 : n3 = m3) :
    Value.tuple [Value.agg [Value.slice a1 n1 c1, Value.slice a2 n2 c2, Value.slice a3 n3 c3].toArray, Value.int .i64 r].toArray = Value.tuple [Value.agg [Value.slice a1 m1 c1, Value.slice a2 m2 c2, Value.slice a3 m3 c3].toArray, Value.int .i64 r].toArray := by
  subst h1 h2 h3; rfl
def downF (m k : Nat) : List Int := (List.range k).map fun i : Nat => (m : Int) - 1 - i
theorem downF_step {m k : Nat} : downF m k ++ [(m : Int) - 1 - k] = downF m (k + 1) := by simp [downF, List.range_succ]
def newD (n : Int) : Slots3 × Int := if 1 ≤ n ∧ n ≤ 64 then ((List.replicate n.toNat 0, List.replicate n.toNat false, downF n.toNat n.toNat), 0) else (([], [], []), 2)
theorem new_bad {n : Int} (h : ¬ (1 ≤ n ∧ n ≤ 64)) : newD n = (([], [], []), 2) := if_neg h
theorem new_good {m : Nat} (h1 : 1 ≤ m) (h2 : m ≤ 64) : newD (m : Int) = ((List.replicate m 0, List.replicate m false, downF m m), 0) := by
  unfold newD; rw [if_pos (by omega), Int.toNat_natCast]
theorem in_t {xs : List (Int × Int)} {k : Nat} {p : Int × Int} (h : p ∈ xs.take k) : true = decide (p ∈ xs.take (k + 1)) := by
  symm; rw [decide_eq_true_eq, List.take_add_one]; exact List.mem_append_left _ h
theorem in_f {xs : List (Int × Int)} {k : Nat} {p q : Int} (h : k < xs.length) (hn : ¬ (p, q) ∈ xs.take k) : decide ((xs.getD k default).1 = p ∧ (xs.getD k default).2 = q) = decide ((p, q) ∈ xs.take (k + 1)) := by
  rw [decide_eq_decide, take_succ' h, List.mem_append, List.mem_singleton]
  constructor
  · rintro ⟨h1, h2⟩; exact .inr (Prod.ext h1.symm h2.symm)
  · rintro (h1 | h1)
    · exact absurd h1 hn
    · rw [← h1]; exact ⟨rfl, rfl⟩
theorem in_end {xs : List (Int × Int)} {k : Nat} {p : Int × Int} (h : xs.length ≤ k) : (decide (p ∈ xs.take k) == decide (p ∈ xs)) = true := by
  rw [List.take_of_length_le h]; simp
theorem getD_mem {xs : List (Int × Int)} {k : Nat} (h : k < xs.length) : ((xs.getD k default).1, (xs.getD k default).2) ∈ xs := by
  rw [getD_lt h]; exact List.getElem_mem h
theorem usedIx_sorted : ∀ (l : List Bool) (i : Nat), (usedIx i l).Pairwise (· < ·)
  | [], _ => List.Pairwise.nil
  | true :: r, i => List.Pairwise.cons (fun j hj => by have := (usedIx_mem r (i + 1) j).1 hj; omega) (usedIx_sorted r (i + 1))
  | false :: r, i => usedIx_sorted r (i + 1)
theorem allD_lt {gl : List Int} {ul : List Bool} {fl : List Int} {k : Nat} (h0 : 0 < k) (h : k < (allD gl ul fl).length) : ((allD gl ul fl).getD ((k : Int) - 1).toNat default).1 < ((allD gl ul fl).getD k default).1 := by
  have hk : ((k : Int) - 1).toNat = k - 1 := by omega
  rw [hk, getD_lt h, getD_lt (by omega)]
  revert h
  unfold allD
  split
  · intro h
    simp only [hnd, List.length_map] at h
    simp only [hnd, List.getElem_map]
    have := List.pairwise_iff_getElem.1 (usedIx_sorted ul 0) (k - 1) k (by omega) h (by omega)
    omega
  · intro h; simp at h
theorem all_zero {gl : List Int} {ul : List Bool} {fl : List Int} (h : (!(rightB gl ul fl)) = true) : (((allD gl ul fl).length : Nat) : Int) = 0 := by
  rw [all_no (by simpa using h)]; rfl
theorem all_cnt {gl : List Int} {ul : List Bool} {fl : List Int} (h : rightB gl ul fl = true) : (((allD gl ul fl).length : Nat) : Int) + ((fl.length : Nat) : Int) = ((gl.length : Nat) : Int) := by
  have h1 := (rightB_iff.1 h).2.2.2
  have h2 : (allD gl ul fl).length = cntU ul := by simp [allD, h, hnd, cntU]
  omega

theorem badGen_ok (w : World) {n : Int}  : Val Try.prog 38 [(Value.int .i64 (n))] w (Value.bool (badGen n)) := by
  refine enter Try.func38 Try.ntmps38 (h := ?_)
  refine J_seq ?_
  refine J_reg ?_
  refine JL_q (q_assign) (k := ?_)
  refine JL_nil ?_
  refine JX_seq ?_
  refine J_seq ?_
  refine J_reg ?_
  refine JL_q (q_move) (k := ?_)
  refine JL_q (q_lss) (k := ?_)
  refine JL_q (q_move) (k := ?_)
  refine JL_dec 5 rfl (fun hq1 => ?_) (fun hq1 => ?_)
  · first
    | (exfalso; omega)
    |
      refine JL_skip (k := ?_)
      refine JL_skip (k := ?_)
      refine JL_q (q_pickT) (k := ?_)
      refine JL_q (q_assign) (k := ?_)
      refine JL_nil ?_
      refine JX_seq ?_
      refine J_ret ?_
      refine JX_ret Try.results38 (Res.tmp rfl Res.nil) (fun w1 hw1 => ?_)
      exact ⟨congrArg Ending.returned (congrArg Value.bool (by simp [badGen, *])), hw1.ext_out⟩
  · first
    | (exfalso; omega)
    |
      refine JL_qg (q_move) (k := ?_)
      refine JL_qg (q_gtr) (k := ?_)
      refine JL_q (q_pickF) (k := ?_)
      refine JL_q (q_assign) (k := ?_)
      refine JL_nil ?_
      refine JX_seq ?_
      refine J_ret ?_
      refine JX_ret Try.results38 (Res.tmp rfl Res.nil) (fun w1 hw1 => ?_)
      exact ⟨congrArg Ending.returned (congrArg Value.bool (by simp [badGen, *])), hw1.ext_out⟩
theorem idx_ok (w : World) {a : Option Addr} {c : Nat} {xs : List Int} (hx : Sl w eI 1 a xs) (hn : xs.length ≤ 1000000) : Calls Try.prog 41 (List.toArray [(Value.slice (a) (xs.length) (c)), (Value.func (.func 38) [].toArray [].toArray)]) w fun e w2 => ∃ m : Int, e = .returned (Value.int .i64 (m)) ∧ Fresh w w2 ([]) ∧ (0 ≤ m ↔ xs.any badGen = true) := by
  refine enter Try.func41 Try.ntmps41 (h := ?_)
  refine J_seq ?_
  refine J_reg ?_
  refine JL_q (q_assign) (k := ?_)
  refine JL_nil ?_
  refine JX_seq ?_
  refine J_seq ?_
  refine J_seq ?_
  refine J_reg ?_
  refine JL_q (q_move) (k := ?_)
  refine JL_q (q_lenS Try.runUnderlying22) (k := ?_)
  refine JL_q (q_move) (k := ?_)
  refine JL_nil ?_
  refine JX_seq ?_
  refine J_block ?_
  refine J_loop1 (σ1 := Nat) (fun k => []) (fun k => [(0, (Value.slice (a) (xs.length) (c))), (1, (Value.func (.func 38) [].toArray [].toArray)), (7, (Value.int .i64 (((xs.length : Nat) : Int)))), (8, (Value.int .i64 (((k : Nat) : Int))))]) (fun k => k ≤ xs.length ∧ (xs.take k).any badGen = false) (fun k => xs.length - k) (0) ?_ (.cons (t := 0) rfl (.cons (t := 1) rfl (.cons (t := 7) rfl (.cons (t := 8) rfl .nil)))) (List.Perm.refl _) ?_
  · exact ⟨by omega, rfl⟩
  · rintro k ⟨hk, ht⟩
    refine J_seq ?_
    refine J_reg ?_
    refine JL_q (q_lss) (k := ?_)
    refine JL_nil ?_
    refine JX_seq ?_
    refine J_seq ?_
    refine J_dec rfl (fun hq3 => ?_) (fun hq3 => ?_)
    · first
      | (exfalso; omega)
      |
        refine J_skip ?_
        refine JX_seq ?_
        refine J_seq ?_
        refine J_block ?_
        refine J_seq ?_
        refine J_reg ?_
        refine JL_q (q_move) (k := ?_)
        refine JL_q (q_assign) (k := ?_)
        refine JL_nil ?_
        refine JX_seq ?_
        refine J_seq ?_
        refine J_reg ?_
        refine JL_q (q_move) (k := ?_)
        refine JL_q (q_move) (k := ?_)
        refine JL_q (q_move) (k := ?_)
        refine JL_q (q_idx (n := xs.length) Try.runUnderlying22 Try.sizeOf3 (k) (SlJ.of_base hx) (gD (by omega)) (by first | rfl | simp)) (k := ?_)
        refine JL_q (q_loadE Try.isAgg3 (k) 0 (SlJ.of_base hx) (gD (by omega))) (k := ?_)
        refine JL_v (args := [(Value.int .i64 ((xs.getD k default)))]) (c_callA Try.call38) (fun w1 hw1 => badGen_ok w1 ) (k := ?_)
        refine JL_nil ?_
        refine JX_seq ?_
        refine J_cond rfl (fun hq4 => ?_) (fun hq4 => ?_)
        · first
          | (exfalso; omega)
          |
            refine J_seq ?_
            refine J_reg ?_
            refine JL_q (q_move) (k := ?_)
            refine JL_q (q_assign) (k := ?_)
            refine JL_nil ?_
            refine JX_seq ?_
            refine J_ret ?_
            refine JX_block_ret ?_
            refine JX_seq_ret ?_
            refine JX_inv_ret ?_
            refine JX_block_ret ?_
            refine JX_seq_ret ?_
            refine JX_ret Try.results41 (Res.tmp rfl Res.nil) (fun w1 hw1 => ?_)
            exact ⟨_, congrArg Ending.returned rfl, hw1.fresh_out, by first | exact any_hit (by omega) (by simp_all) | exact any_none (by omega) ht⟩
        · first
          | (exfalso; omega)
          |
            refine J_skip ?_
            refine JX_block ?_
            refine JX_seq ?_
            refine J_reg ?_
            refine JL_q (q_add) (k := ?_)
            refine JL_q (q_move) (k := ?_)
            refine JL_nil ?_
            refine JX_inv1 (k + 1) ?_ ?_ (.cons (t := 0) rfl (.cons (t := 1) rfl (.cons (t := 7) rfl (.cons (t := 8) rfl .nil)))) (List.Perm.refl _)
            · exact ⟨by omega, any_step (by omega) ht (by simp_all)⟩
            · omega
    · first
      | (exfalso; omega)
      |
        refine J_exit ?_
        refine JX_seq_exit ?_
        refine JX_inv_exit ?_
        refine JX_block_hit ?_
        refine JX_seq ?_
        refine J_seq ?_
        refine J_reg ?_
        refine JL_q (q_assign) (k := ?_)
        refine JL_nil ?_
        refine JX_seq ?_
        refine J_ret ?_
        refine JX_ret Try.results41 (Res.tmp rfl Res.nil) (fun w1 hw1 => ?_)
        exact ⟨_, congrArg Ending.returned rfl, hw1.fresh_out, by first | exact any_hit (by omega) (by simp_all) | exact any_none (by omega) ht⟩
theorem has_ok (w : World) {a : Option Addr} {c : Nat} {xs : List Int} (hx : Sl w eI 1 a xs) (hn : xs.length ≤ 1000000) : Val Try.prog 39 [(Value.slice (a) (xs.length) (c)), (Value.func (.func 38) [].toArray [].toArray)] w (Value.bool (xs.any badGen)) := by
  refine enter Try.func39 Try.ntmps39 (h := ?_)
  refine J_seq ?_
  refine J_reg ?_
  refine JL_q (q_assign) (k := ?_)
  refine JL_nil ?_
  refine JX_seq ?_
  refine J_seq ?_
  refine J_reg ?_
  refine JL_q (q_move) (k := ?_)
  refine JL_q (q_move) (k := ?_)
  refine JL_p (args := [(Value.slice (a) (xs.length) (c)), (Value.func (.func 38) [].toArray [].toArray)]) (c_callA Try.call41) (fun w1 hw1 => idx_ok w1 (hx := (SlJ.of_base hx) w1 hw1) (hn := by omega)) (k := ?_)
  rintro w1_1 e1_1 w2_1 hw1_1 ⟨m_1, he_1, hf_1, hm_1⟩
  refine ⟨_, [], he_1, hw1_1.fresh hf_1, ?_⟩
  refine JL_q (q_geq) (k := ?_)
  refine JL_q (q_assign) (k := ?_)
  refine JL_nil ?_
  refine JX_seq ?_
  refine J_ret ?_
  refine JX_ret Try.results39 (Res.tmp rfl Res.nil) (fun w1 hw1 => ?_)
  exact ⟨congrArg Ending.returned (congrArg Value.bool (by exact dec_iff hm_1)), hw1.ext_out⟩
theorem isLong_ok (w : World) {r : Nat} {ga ua fa : Option Addr} {gc uc fc : Nat} {gl : List Int} {ul : List Bool} {fl : List Int} (hb : w.heap[r]? = some (Obj.cells [(Value.slice (ga) (gl.length) (gc)), (Value.slice (ua) (ul.length) (uc)), (Value.slice (fa) (fl.length) (fc))].toArray 48)) (hg : Sl w eI 1 ga gl) (hu : Sl w eB 1 ua ul) (hfr : Sl w eI 1 fa fl) (ng : gl.length ≤ 1000000) (nu : ul.length ≤ 1000000) (nf : fl.length ≤ 1000000) : Val Try.prog 30 [(Value.pointer (some ⟨r, 0, none⟩))] w (Value.bool (longD gl ul)) := by
  refine enter Try.func30 Try.ntmps30 (h := ?_)
  refine J_seq ?_
  refine J_reg ?_
  refine JL_q (q_assign) (k := ?_)
  refine JL_nil ?_
  refine JX_seq ?_
  refine J_seq ?_
  refine J_plan mixed 32 [(true, 0), (true, 1), (true, 2), (true, 3), (true, 4), (true, 5), (true, 6), (true, 7), (true, 8), (true, 9), (true, 10), (true, 11), (true, 12), (true, 13), (true, 14), (true, 15), (true, 16), (true, 17), (true, 18), (true, 19), (true, 20), (true, 21), (true, 22), (true, 23), (true, 24), (true, 25), (true, 26), (true, 27), (true, 28), (true, 29), (true, 30), (true, 31)] (by kernel_rfl) ?_
  refine JD_q (q_move) (k := ?_)
  refine JD_q (q_nil) (k := ?_)
  refine JD_q (q_fld FO_48_0) (k := ?_)
  refine JD_q (q_fld FO_25_0) (k := ?_)
  refine JD_q (q_loadB Try.isAgg22 hb) (k := ?_)
  refine JD_q (q_lenS Try.runUnderlying22) (k := ?_)
  refine JD_q (q_geq) (k := ?_)
  refine JD_q (q_move) (k := ?_)
  refine JD_dec 10 rfl (fun hq1 => ?_) (fun hq1 => ?_)
  · first
    | (exfalso; omega)
    |
      refine JD_qg (q_move) (k := ?_)
      refine JD_qg (q_nil) (k := ?_)
      refine JD_qg (q_fld FO_48_0) (k := ?_)
      refine JD_qg (q_fld FO_25_0) (k := ?_)
      refine JD_qg (q_loadB Try.isAgg22 hb) (k := ?_)
      refine JD_qg (q_lenS Try.runUnderlying22) (k := ?_)
      refine JD_qg (q_leq) (k := ?_)
      refine JD_q (q_pickT) (k := ?_)
      refine JD_q (q_move) (k := ?_)
      refine JD_dec 19 rfl (fun hq2 => ?_) (fun hq2 => ?_)
      · first
        | (exfalso; omega)
        |
          refine JD_qg (q_move) (k := ?_)
          refine JD_qg (q_nil) (k := ?_)
          refine JD_qg (q_fld FO_48_0) (k := ?_)
          refine JD_qg (q_fld FO_25_1) (k := ?_)
          refine JD_qg (q_loadB Try.isAgg23 hb) (k := ?_)
          refine JD_qg (q_lenS Try.runUnderlying23) (k := ?_)
          refine JD_qg (q_move) (k := ?_)
          refine JD_qg (q_nil) (k := ?_)
          refine JD_qg (q_fld FO_48_0) (k := ?_)
          refine JD_qg (q_fld FO_25_0) (k := ?_)
          refine JD_qg (q_loadB Try.isAgg22 hb) (k := ?_)
          refine JD_qg (q_lenS Try.runUnderlying22) (k := ?_)
          refine JD_qg (q_eql) (k := ?_)
          refine JD_q (q_pickT) (k := ?_)
          refine JD_q (q_assign) (k := ?_)
          refine JD_nil ?_
          refine JL_nil ?_
          refine JX_seq ?_
          refine J_ret ?_
          refine JX_ret Try.results30 (Res.tmp rfl Res.nil) (fun w1 hw1 => ?_)
          exact ⟨congrArg Ending.returned (congrArg Value.bool (by unfold longD; first | rfl | exact (decide_eq_true (by omega)).symm | exact (decide_eq_false (by omega)).symm | exact decide_eq_decide.2 (by omega))), hw1.ext_out⟩
      · first
        | (exfalso; omega)
        |
          refine JD_skip (k := ?_)
          refine JD_skip (k := ?_)
          refine JD_skip (k := ?_)
          refine JD_skip (k := ?_)
          refine JD_skip (k := ?_)
          refine JD_skip (k := ?_)
          refine JD_skip (k := ?_)
          refine JD_skip (k := ?_)
          refine JD_skip (k := ?_)
          refine JD_skip (k := ?_)
          refine JD_skip (k := ?_)
          refine JD_skip (k := ?_)
          refine JD_skip (k := ?_)
          refine JD_q (q_pickF) (k := ?_)
          refine JD_q (q_assign) (k := ?_)
          refine JD_nil ?_
          refine JL_nil ?_
          refine JX_seq ?_
          refine J_ret ?_
          refine JX_ret Try.results30 (Res.tmp rfl Res.nil) (fun w1 hw1 => ?_)
          exact ⟨congrArg Ending.returned (congrArg Value.bool (by unfold longD; first | rfl | exact (decide_eq_true (by omega)).symm | exact (decide_eq_false (by omega)).symm | exact decide_eq_decide.2 (by omega))), hw1.ext_out⟩
  · first
    | (exfalso; omega)
    |
      refine JD_skip (k := ?_)
      refine JD_skip (k := ?_)
      refine JD_skip (k := ?_)
      refine JD_skip (k := ?_)
      refine JD_skip (k := ?_)
      refine JD_skip (k := ?_)
      refine JD_skip (k := ?_)
      refine JD_q (q_pickF) (k := ?_)
      refine JD_q (q_move) (k := ?_)
      refine JD_skip (k := ?_)
      refine JD_skip (k := ?_)
      refine JD_skip (k := ?_)
      refine JD_skip (k := ?_)
      refine JD_skip (k := ?_)
      refine JD_skip (k := ?_)
      refine JD_skip (k := ?_)
      refine JD_skip (k := ?_)
      refine JD_skip (k := ?_)
      refine JD_skip (k := ?_)
      refine JD_skip (k := ?_)
      refine JD_skip (k := ?_)
      refine JD_skip (k := ?_)
      refine JD_q (q_pickF) (k := ?_)
      refine JD_q (q_assign) (k := ?_)
      refine JD_nil ?_
      refine JL_nil ?_
      refine JX_seq ?_
      refine J_ret ?_
      refine JX_ret Try.results30 (Res.tmp rfl Res.nil) (fun w1 hw1 => ?_)
      exact ⟨congrArg Ending.returned (congrArg Value.bool (by unfold longD; first | rfl | exact (decide_eq_true (by omega)).symm | exact (decide_eq_false (by omega)).symm | exact decide_eq_decide.2 (by omega))), hw1.ext_out⟩
theorem areGens_ok (w : World) {r : Nat} {ga ua fa : Option Addr} {gc uc fc : Nat} {gl : List Int} {ul : List Bool} {fl : List Int} (hb : w.heap[r]? = some (Obj.cells [(Value.slice (ga) (gl.length) (gc)), (Value.slice (ua) (ul.length) (uc)), (Value.slice (fa) (fl.length) (fc))].toArray 48)) (hg : Sl w eI 1 ga gl) (hu : Sl w eB 1 ua ul) (hfr : Sl w eI 1 fa fl) (ng : gl.length ≤ 1000000) (nu : ul.length ≤ 1000000) (nf : fl.length ≤ 1000000) : Val Try.prog 31 [(Value.pointer (some ⟨r, 0, none⟩))] w (Value.bool (!(gl.any badGen))) := by
  refine enter Try.func31 Try.ntmps31 (h := ?_)
  refine J_seq ?_
  refine J_reg ?_
  refine JL_q (q_assign) (k := ?_)
  refine JL_nil ?_
  refine JX_seq ?_
  refine J_seq ?_
  refine J_reg ?_
  refine JL_q (q_assign) (k := ?_)
  refine JL_nil ?_
  refine JX_seq ?_
  refine J_seq ?_
  refine J_reg ?_
  refine JL_q (q_move) (k := ?_)
  refine JL_q (q_nil) (k := ?_)
  refine JL_q (q_fld FO_48_0) (k := ?_)
  refine JL_q (q_fld FO_25_0) (k := ?_)
  refine JL_q (q_loadB Try.isAgg22 hb) (k := ?_)
  refine JL_q (q_move) (k := ?_)
  refine JL_v (args := [(Value.slice (ga) (gl.length) (gc)), (Value.func (.func 38) [].toArray [].toArray)]) (c_callA Try.call39) (fun w1 hw1 => has_ok w1 (hx := (SlJ.of_base hg) w1 hw1) (hn := by omega)) (k := ?_)
  refine JL_q (q_not) (k := ?_)
  refine JL_q (q_assign) (k := ?_)
  refine JL_nil ?_
  refine JX_seq ?_
  refine J_ret ?_
  refine JX_ret Try.results31 (Res.tmp rfl Res.nil) (fun w1 hw1 => ?_)
  exact ⟨congrArg Ending.returned (congrArg Value.bool (by rfl)), hw1.ext_out⟩
theorem used_ok (w : World) {r : Nat}  : Calls Try.prog 33 (List.toArray [(Value.pointer (some ⟨r, 0, none⟩))]) w fun e w2 => ∃ r1 : Nat, e = .returned (Value.func (.func 40) [].toArray [(Value.pointer (some ⟨r1, 0, none⟩))].toArray) ∧ Fresh w w2 ([(r1, Obj.cells [Value.pointer (some ⟨r, 0, none⟩)].toArray 45)]) := by
  refine enter Try.func33 Try.ntmps33 (h := ?_)
  refine J_seq ?_
  refine J_reg ?_
  refine JL_a noMk (a_box (l := [_])) (k := fun r1 hr1 => ?_)
  refine JL_q (q_assign) (k := ?_)
  refine JL_nil ?_
  refine JX_seq ?_
  refine J_seq ?_
  refine J_reg ?_
  refine JL_q (q_func) (k := ?_)
  refine JL_q (q_assign) (k := ?_)
  refine JL_nil ?_
  refine JX_seq ?_
  refine J_ret ?_
  refine JX_ret Try.results33 (Res.tmp rfl Res.nil) (fun w1 hw1 => ?_)
  exact ⟨_, congrArg Ending.returned rfl, hw1.fresh_out⟩
theorem used_iter {r r1 : Nat} {ga ua fa : Option Addr} {gc uc fc : Nat} {gl : List Int} {ul : List Bool} {fl : List Int} (nu : ul.length ≤ 1000000) (hle : ul.length ≤ gl.length) : Iter Try.prog 40 [] [(Value.pointer (some ⟨r1, 0, none⟩))] (CtxU r r1 ga ua fa gc uc fc gl ul fl) (OkU r r1 ga ua gl ul) (usedE gl ul) := by
  refine iter_enter Try.func40 Try.ntmps40 (h := ?_)
  intro l w H0 S Sx hC hok hS0 hR hkey
  have hok2 : ∀ k ∈ keys H0, OkU r r1 ga ua gl ul k := fun k hk => by
      obtain ⟨o, ho⟩ := keys_mem hk
      exact hok _ ho
  have hMg : ∀ k ∈ keys H0, NotIn ga gl k := fun k hk => (hok2 k hk).2.2.1
  have hMu : ∀ k ∈ keys H0, NotIn ua ul k := fun k hk => (hok2 k hk).2.2.2
  have hM1 : r1 ∉ keys H0 := fun hk => (hok2 _ hk).1 rfl
  have hMr : r ∉ keys H0 := fun hk => (hok2 _ hk).2.1 rfl
  refine J_scope ?_
  refine J_seq ?_
  refine J_label ?_
  refine JX_seq ?_
  refine J_seq ?_
  refine J_reg ?_
  refine JL_q (q_loadB Try.isAgg45 hC.1 (hM := hM1)) (k := ?_)
  refine JL_q (q_nil) (k := ?_)
  refine JL_q (q_fld FO_48_0) (k := ?_)
  refine JL_q (q_fld FO_25_1) (k := ?_)
  refine JL_q (q_loadB Try.isAgg23 hC.2.1 (hM := hMr)) (k := ?_)
  refine JL_q (q_lenS Try.runUnderlying23) (k := ?_)
  refine JL_q (q_move) (k := ?_)
  refine JL_nil ?_
  refine JX_seq ?_
  refine J_block ?_
  refine J_loop2 (σ1 := Nat) (σ2 := Heap) (fun k H => H) (fun k H => [(0, (Value.func (.yield l) [].toArray [].toArray)), (1, (Value.pointer (some ⟨r1, 0, none⟩))), (9, (Value.slice (ua) (ul.length) (uc))), (10, (Value.int .i64 (((ul.length : Nat) : Int)))), (11, (Value.int .i64 (((k : Nat) : Int))))]) (fun k H => k ≤ ul.length ∧ S (cntU (ul.take k)) H) (fun k H => ul.length - k) (0) (H0) ?_ (.cons (t := 0) rfl (.cons (t := 1) rfl (.cons (t := 9) rfl (.cons (t := 10) rfl (.cons (t := 11) rfl .nil))))) (List.Perm.refl _) ?_
  · exact ⟨by omega, hS0⟩
  · rintro k H ⟨hk, hS⟩
    refine J_seq ?_
    refine J_reg ?_
    refine JL_q (q_lss) (k := ?_)
    refine JL_nil ?_
    refine JX_seq ?_
    refine J_seq ?_
    refine J_dec rfl (fun hq3 => ?_) (fun hq3 => ?_)
    · first
      | (exfalso; omega)
      |
        refine J_skip ?_
        refine JX_seq ?_
        refine J_seq ?_
        refine J_block ?_
        refine J_seq ?_
        refine J_reg ?_
        refine JL_q (q_move) (k := ?_)
        refine JL_q (q_idx (n := ul.length) Try.runUnderlying23 Try.sizeOf4 (k) (SlJ.of_world hC.2.2.2 hMu) (gD (by omega)) (by first | rfl | simp)) (k := ?_)
        refine JL_q (q_loadE Try.isAgg4 (k) 0 (SlJ.of_world hC.2.2.2 hMu) (gD (by omega))) (k := ?_)
        refine JL_q (q_assign) (k := ?_)
        refine JL_q (q_assign) (k := ?_)
        refine JL_nil ?_
        refine JX_seq ?_
        refine J_seq ?_
        refine J_reg ?_
        refine JL_q (q_move) (k := ?_)
        refine JL_q (q_move) (k := ?_)
        refine JL_bool 17 rfl (fun hq4 => ?_) (fun hq4 => ?_)
        · first
          | (exfalso; omega)
          |
            refine JL_qg (q_move) (k := ?_)
            refine JL_qg (q_move) (k := ?_)
            refine JL_qg (q_loadB Try.isAgg45 hC.1 (hM := hM1)) (k := ?_)
            refine JL_qg (q_nil) (k := ?_)
            refine JL_qg (q_fld FO_48_0) (k := ?_)
            refine JL_qg (q_fld FO_25_0) (k := ?_)
            refine JL_qg (q_loadB Try.isAgg22 hC.2.1 (hM := hMr)) (k := ?_)
            refine JL_qg (q_move) (k := ?_)
            refine JL_qg (q_idx (n := gl.length) Try.runUnderlying22 Try.sizeOf3 (k) (SlJ.of_world hC.2.2.1 hMg) (gD (by omega)) (by first | rfl | simp)) (k := ?_)
            refine JL_qg (q_loadE Try.isAgg3 (k) 0 (SlJ.of_world hC.2.2.1 hMg) (gD (by omega))) (k := ?_)
            refine JL_qg (q_build (cs := [_, _]) Try.zeroValue27 PL_27) (k := ?_)
            refine JL_yg (vs := [(Value.agg [(Value.int .i64 (((k : Nat) : Int))), (Value.int .i64 ((gl.getD k default)))].toArray)]) (Lr := []) hR (usedE_get (by omega) ‹_›) hS (List.Perm.of_eq (List.append_nil _).symm) y_call (k1 := fun H1_ hS1 => ?_) (k0 := fun H1_ hS1 => ?_)
            · skip
              refine JL_qg (q_not) (k := ?_)
              refine JL_q (q_pickT) (k := ?_)
              refine JL_nil ?_
              refine JX_seq ?_
              refine J_false rfl ?_
              refine J_skip ?_
              refine JX_block ?_
              refine JX_seq ?_
              refine J_reg ?_
              refine JL_q (q_add) (k := ?_)
              refine JL_q (q_move) (k := ?_)
              refine JL_nil ?_
              refine JX_inv2 (k + 1) (H1_) ?_ ?_ (.cons (t := 0) rfl (.cons (t := 1) rfl (.cons (t := 9) rfl (.cons (t := 10) rfl (.cons (t := 11) rfl .nil))))) (List.Perm.of_eq (List.append_nil _))
              · exact ⟨by omega, usedS_t (by omega) ‹_› hS1⟩
              · omega
            · skip
              refine JL_qg (q_not) (k := ?_)
              refine JL_q (q_pickT) (k := ?_)
              refine JL_nil ?_
              refine JX_seq ?_
              refine J_true rfl ?_
              refine J_exit ?_
              refine JX_block_miss rfl ?_
              refine JX_seq_exit ?_
              refine JX_inv_exit ?_
              refine JX_block_hit ?_
              refine JX_scope ?_
              refine JX_end Try.results40 Res.nil (fun w1 hw1 => ?_)
              exact bodyPost_iter (Lr := []) hw1 (.inr hS1)
        · first
          | (exfalso; omega)
          |
            refine JL_skip (k := ?_)
            refine JL_skip (k := ?_)
            refine JL_skip (k := ?_)
            refine JL_skip (k := ?_)
            refine JL_skip (k := ?_)
            refine JL_skip (k := ?_)
            refine JL_skip (k := ?_)
            refine JL_skip (k := ?_)
            refine JL_skip (k := ?_)
            refine JL_skip (k := ?_)
            refine JL_skip (k := ?_)
            refine JL_skip (k := ?_)
            refine JL_skip (k := ?_)
            refine JL_q (q_pickF) (k := ?_)
            refine JL_nil ?_
            refine JX_seq ?_
            refine J_false rfl ?_
            refine J_skip ?_
            refine JX_block ?_
            refine JX_seq ?_
            refine J_reg ?_
            refine JL_q (q_add) (k := ?_)
            refine JL_q (q_move) (k := ?_)
            refine JL_nil ?_
            refine JX_inv2 (k + 1) (H) ?_ ?_ (.cons (t := 0) rfl (.cons (t := 1) rfl (.cons (t := 9) rfl (.cons (t := 10) rfl (.cons (t := 11) rfl .nil))))) (List.Perm.refl _)
            · exact ⟨by omega, usedS_f (by omega) ‹_› hS⟩
            · omega
    · first
      | (exfalso; omega)
      |
        refine J_exit ?_
        refine JX_seq_exit ?_
        refine JX_inv_exit ?_
        refine JX_block_hit ?_
        refine JX_scope ?_
        refine JX_end Try.results40 Res.nil (fun w1 hw1 => ?_)
        exact bodyPost_iter (Lr := []) (by simpa using hw1) (.inl (usedS_end (by omega) hS))
theorem areFree_ok (w : World) {r : Nat} {ga ua fa : Option Addr} {gc uc fc : Nat} {gl : List Int} {ul : List Bool} {fl : List Int} (hb : w.heap[r]? = some (Obj.cells [(Value.slice (ga) (gl.length) (gc)), (Value.slice (ua) (ul.length) (uc)), (Value.slice (fa) (fl.length) (fc))].toArray 48)) (hg : Sl w eI 1 ga gl) (hu : Sl w eB 1 ua ul) (hfr : Sl w eI 1 fa fl) (ng : gl.length ≤ 1000000) (nu : ul.length ≤ 1000000) (nf : fl.length ≤ 1000000) (hlen : ul.length = gl.length) : Val Try.prog 32 [(Value.pointer (some ⟨r, 0, none⟩))] w (Value.bool (decide (freeD ul fl ∧ (gl.length : Int) - (cntU ul : Int) = (fl.length : Int)))) := by
  refine enterD Try.func32 Try.ntmps32 (h := ?_)
  refine J_seq ?_
  refine J_reg ?_
  refine JL_q (q_assign) (k := ?_)
  refine JL_nil ?_
  refine JX_seq ?_
  refine J_seq ?_
  refine J_reg ?_
  refine JL_a noMk a_map (k := fun r1 hr1 => ?_)
  refine JL_q (q_assign) (k := ?_)
  refine JL_nil ?_
  refine JX_seq ?_
  refine J_seq ?_
  refine J_seq ?_
  refine J_reg ?_
  refine JL_q (q_move) (k := ?_)
  refine JL_q (q_nil) (k := ?_)
  refine JL_q (q_fld FO_48_0) (k := ?_)
  refine JL_q (q_fld FO_25_2) (k := ?_)
  refine JL_q (q_loadB Try.isAgg22 hb) (k := ?_)
  refine JL_q (q_lenS Try.runUnderlying22) (k := ?_)
  refine JL_q (q_move) (k := ?_)
  refine JL_nil ?_
  refine JX_seq ?_
  refine J_block ?_
  refine J_loop3 (σ1 := Nat) (σ2 := Array MapEntry) (σ3 := Nat) (fun k es ck => ((r1, Obj.map es ck) :: [])) (fun k es ck => [(0, (Value.pointer (some ⟨r, 0, none⟩))), (3, (Value.map (some r1))), (12, (Value.slice (fa) (fl.length) (fc))), (13, (Value.int .i64 (((fl.length : Nat) : Int)))), (14, (Value.int .i64 (((k : Nat) : Int))))]) (fun k es ck => k ≤ fl.length ∧ MapIs (fun x => Value.int .i64 x) es ((fl.take k).map fun x => (x, Value.bool true)) ∧ freeD ul (fl.take k)) (fun k es ck => fl.length - k) (0) (#[]) (0) ?_ (.cons (t := 0) rfl (.cons (t := 3) rfl (.cons (t := 12) rfl (.cons (t := 13) rfl (.cons (t := 14) rfl .nil))))) (List.Perm.refl _) ?_
  · exact ⟨by omega, MapIs.nil, freeD_nil⟩
  · rintro k es ck ⟨hk, hmap, hfd⟩
    refine J_seq ?_
    refine J_reg ?_
    refine JL_q (q_lss) (k := ?_)
    refine JL_nil ?_
    refine JX_seq ?_
    refine J_seq ?_
    refine J_dec rfl (fun hq4 => ?_) (fun hq4 => ?_)
    · first
      | (exfalso; omega)
      |
        refine J_skip ?_
        refine JX_seq ?_
        refine J_seq ?_
        refine J_block ?_
        refine J_seq ?_
        refine J_reg ?_
        refine JL_q (q_idx (n := fl.length) Try.runUnderlying22 Try.sizeOf3 (k) (SlJ.of_base hfr) (gD (by omega)) (by first | rfl | simp)) (k := ?_)
        refine JL_q (q_loadE Try.isAgg3 (k) 0 (SlJ.of_base hfr) (gD (by omega))) (k := ?_)
        refine JL_q (q_assign) (k := ?_)
        refine JL_nil ?_
        refine JX_seq ?_
        refine J_seq ?_
        refine J_seq ?_
        refine J_reg ?_
        refine JL_q (q_move) (k := ?_)
        refine JL_q (q_lss) (k := ?_)
        refine JL_q (q_move) (k := ?_)
        refine JL_dec 20 rfl (fun hq5 => ?_) (fun hq5 => ?_)
        · first
          | (exfalso; omega)
          |
            refine JL_skip (k := ?_)
            refine JL_skip (k := ?_)
            refine JL_skip (k := ?_)
            refine JL_skip (k := ?_)
            refine JL_skip (k := ?_)
            refine JL_skip (k := ?_)
            refine JL_skip (k := ?_)
            refine JL_skip (k := ?_)
            refine JL_q (q_pickT) (k := ?_)
            refine JL_q (q_move) (k := ?_)
            refine JL_skip (k := ?_)
            refine JL_skip (k := ?_)
            refine JL_skip (k := ?_)
            refine JL_skip (k := ?_)
            refine JL_skip (k := ?_)
            refine JL_skip (k := ?_)
            refine JL_skip (k := ?_)
            refine JL_skip (k := ?_)
            refine JL_q (q_pickT) (k := ?_)
            refine JL_q (q_move) (k := ?_)
            refine JL_skip (k := ?_)
            refine JL_skip (k := ?_)
            refine JL_skip (k := ?_)
            refine JL_q (q_pickT) (k := ?_)
            refine JL_nil ?_
            refine JX_seq ?_
            refine J_true rfl ?_
            refine J_seq ?_
            refine J_reg ?_
            refine JL_q (q_assign) (k := ?_)
            refine JL_nil ?_
            refine JX_seq ?_
            refine J_ret ?_
            refine JX_seq_ret ?_
            refine JX_block_ret ?_
            refine JX_seq_ret ?_
            refine JX_inv_ret ?_
            refine JX_block_ret ?_
            refine JX_seq_ret ?_
            refine JX_retD [] (List.Perm.refl _) Try.results32 (Res.tmp rfl Res.nil) (fun w1 hw1 => ?_)
            exact ⟨congrArg Ending.returned (congrArg Value.bool (by first | exact free_end (by omega) hmap hfd | exact (decide_eq_false (fun hh => freeD_neg (k := k) (by omega) (fun hc => by obtain ⟨c1, c2, c3, c4⟩ := hc; first | omega | simp_all) hh.1)).symm)), hw1.ext_out⟩
        · first
          | (exfalso; omega)
          |
            refine JL_qg (q_move) (k := ?_)
            refine JL_qg (q_move) (k := ?_)
            refine JL_qg (q_nil) (k := ?_)
            refine JL_qg (q_fld FO_48_0) (k := ?_)
            refine JL_qg (q_fld FO_25_1) (k := ?_)
            refine JL_qg (q_loadB Try.isAgg23 hb) (k := ?_)
            refine JL_qg (q_lenS Try.runUnderlying23) (k := ?_)
            refine JL_qg (q_geq) (k := ?_)
            refine JL_q (q_pickF) (k := ?_)
            refine JL_q (q_move) (k := ?_)
            refine JL_dec 30 rfl (fun hq6 => ?_) (fun hq6 => ?_)
            · first
              | (exfalso; omega)
              |
                refine JL_skip (k := ?_)
                refine JL_skip (k := ?_)
                refine JL_skip (k := ?_)
                refine JL_skip (k := ?_)
                refine JL_skip (k := ?_)
                refine JL_skip (k := ?_)
                refine JL_skip (k := ?_)
                refine JL_skip (k := ?_)
                refine JL_q (q_pickT) (k := ?_)
                refine JL_q (q_move) (k := ?_)
                refine JL_skip (k := ?_)
                refine JL_skip (k := ?_)
                refine JL_skip (k := ?_)
                refine JL_q (q_pickT) (k := ?_)
                refine JL_nil ?_
                refine JX_seq ?_
                refine J_true rfl ?_
                refine J_seq ?_
                refine J_reg ?_
                refine JL_q (q_assign) (k := ?_)
                refine JL_nil ?_
                refine JX_seq ?_
                refine J_ret ?_
                refine JX_seq_ret ?_
                refine JX_block_ret ?_
                refine JX_seq_ret ?_
                refine JX_inv_ret ?_
                refine JX_block_ret ?_
                refine JX_seq_ret ?_
                refine JX_retD [] (List.Perm.refl _) Try.results32 (Res.tmp rfl Res.nil) (fun w1 hw1 => ?_)
                exact ⟨congrArg Ending.returned (congrArg Value.bool (by first | exact free_end (by omega) hmap hfd | exact (decide_eq_false (fun hh => freeD_neg (k := k) (by omega) (fun hc => by obtain ⟨c1, c2, c3, c4⟩ := hc; first | omega | simp_all) hh.1)).symm)), hw1.ext_out⟩
            · first
              | (exfalso; omega)
              |
                refine JL_qg (q_move) (k := ?_)
                refine JL_qg (q_nil) (k := ?_)
                refine JL_qg (q_fld FO_48_0) (k := ?_)
                refine JL_qg (q_fld FO_25_1) (k := ?_)
                refine JL_qg (q_loadB Try.isAgg23 hb) (k := ?_)
                refine JL_qg (q_move) (k := ?_)
                refine JL_qg (q_idx (n := ul.length) Try.runUnderlying23 Try.sizeOf4 (((fl.getD k default)).toNat) (SlJ.of_base hu) (gD (by omega)) (by first | rfl | simp)) (k := ?_)
                refine JL_qg (q_loadE Try.isAgg4 (((fl.getD k default)).toNat) 0 (SlJ.of_base hu) (gD (by omega))) (k := ?_)
                refine JL_q (q_pickF) (k := ?_)
                refine JL_q (q_move) (k := ?_)
                refine JL_bool 40 rfl (fun hq7 => ?_) (fun hq7 => ?_)
                · first
                  | (exfalso; omega)
                  |
                    refine JL_skip (k := ?_)
                    refine JL_skip (k := ?_)
                    refine JL_skip (k := ?_)
                    refine JL_q (q_pickT) (k := ?_)
                    refine JL_nil ?_
                    refine JX_seq ?_
                    refine J_true rfl ?_
                    refine J_seq ?_
                    refine J_reg ?_
                    refine JL_q (q_assign) (k := ?_)
                    refine JL_nil ?_
                    refine JX_seq ?_
                    refine J_ret ?_
                    refine JX_seq_ret ?_
                    refine JX_block_ret ?_
                    refine JX_seq_ret ?_
                    refine JX_inv_ret ?_
                    refine JX_block_ret ?_
                    refine JX_seq_ret ?_
                    refine JX_retD [] (List.Perm.refl _) Try.results32 (Res.tmp rfl Res.nil) (fun w1 hw1 => ?_)
                    exact ⟨congrArg Ending.returned (congrArg Value.bool (by first | exact free_end (by omega) hmap hfd | exact (decide_eq_false (fun hh => freeD_neg (k := k) (by omega) (fun hc => by obtain ⟨c1, c2, c3, c4⟩ := hc; first | omega | simp_all) hh.1)).symm)), hw1.ext_out⟩
                · first
                  | (exfalso; omega)
                  |
                    refine JL_qg (q_move) (k := ?_)
                    refine JL_qg (q_move) (k := ?_)
                    refine JL_qg (q_lookup ((fl.getD k default)) keyInt Try.runUnderlying60 Try.runUnderlying3 Try.zeroValue4 hmap) (k := ?_)
                    refine JL_alter 43 (Value.bool (decide (fl.getD k default ∈ fl.take k))) rfl lookT ?_
                    refine JL_q (q_pickF) (k := ?_)
                    refine JL_nil ?_
                    refine JX_seq ?_
                    refine J_dec rfl (fun hq8 => ?_) (fun hq8 => ?_)
                    · first
                      | (exfalso; omega)
                      |
                        refine J_seq ?_
                        refine J_reg ?_
                        refine JL_q (q_assign) (k := ?_)
                        refine JL_nil ?_
                        refine JX_seq ?_
                        refine J_ret ?_
                        refine JX_seq_ret ?_
                        refine JX_block_ret ?_
                        refine JX_seq_ret ?_
                        refine JX_inv_ret ?_
                        refine JX_block_ret ?_
                        refine JX_seq_ret ?_
                        refine JX_retD [] (List.Perm.refl _) Try.results32 (Res.tmp rfl Res.nil) (fun w1 hw1 => ?_)
                        exact ⟨congrArg Ending.returned (congrArg Value.bool (by first | exact free_end (by omega) hmap hfd | exact (decide_eq_false (fun hh => freeD_neg (k := k) (by omega) (fun hc => by obtain ⟨c1, c2, c3, c4⟩ := hc; first | omega | simp_all) hh.1)).symm)), hw1.ext_out⟩
                    · first
                      | (exfalso; omega)
                      |
                        refine J_skip ?_
                        refine JX_seq ?_
                        refine J_reg ?_
                        refine JL_q (q_move) (k := ?_)
                        refine JL_q (q_move) (k := ?_)
                        refine JL_put ((fl.getD k default)) keyInt Try.runUnderlying60 Try.runUnderlying3 hmap ((notin_keys (by assumption))) (List.Perm.refl _) (k := fun es1 ck1 hm1 => ?_)
                        refine JL_nil ?_
                        refine JX_block ?_
                        refine JX_seq ?_
                        refine J_reg ?_
                        refine JL_q (q_add) (k := ?_)
                        refine JL_q (q_move) (k := ?_)
                        refine JL_nil ?_
                        refine JX_inv3 (k + 1) (es1) (ck1) ?_ ?_ (.cons (t := 0) rfl (.cons (t := 3) rfl (.cons (t := 12) rfl (.cons (t := 13) rfl (.cons (t := 14) rfl .nil))))) (List.Perm.refl _)
                        · exact ⟨by omega, mapIs_step (by omega) hm1, freeD_step (by omega) hfd (by omega) (by omega) (by simp_all) (by assumption)⟩
                        · omega
    · first
      | (exfalso; omega)
      |
        refine J_exit ?_
        refine JX_seq_exit ?_
        refine JX_inv_exit ?_
        refine JX_block_hit ?_
        refine JX_seq ?_
        refine J_seq ?_
        refine J_reg ?_
        refine JL_q (q_move) (k := ?_)
        refine JL_q (q_nil) (k := ?_)
        refine JL_q (q_fld FO_48_0) (k := ?_)
        refine JL_q (q_fld FO_25_0) (k := ?_)
        refine JL_q (q_loadB Try.isAgg22 hb) (k := ?_)
        refine JL_q (q_lenS Try.runUnderlying22) (k := ?_)
        refine JL_alter 53 (Value.int .i64 ((gl.length : Int) - ((0 : Nat) : Int))) rfl (congrArg (Value.int .i64) (by omega)) ?_
        refine JL_a noMk (a_alloc (l := [_]) Try.zeroValue3) (k := fun r2 hr2 => ?_)
        refine JL_s (w_store (l' := [_]) Try.sizeOf3) (k := ?_)
        refine JL_nil ?_
        refine JX_seq ?_
        refine J_seq ?_
        refine J_seq ?_
        refine J_reg ?_
        refine JL_q (q_move) (k := ?_)
        refine JL_p (args := [(Value.pointer (some ⟨r, 0, none⟩))]) (c_callA Try.call33) (fun w1 hw1 => used_ok w1 ) (k := ?_)
        rintro w1_1 e1_1 w2_1 hw1_1 ⟨r1_1, he_1, hf_1⟩
        refine ⟨_, ((r1_1, Obj.cells [(Value.pointer (some ⟨r, 0, none⟩))].toArray 45) :: ((r2, Obj.cells [(Value.int .i64 ((gl.length : Int) - ((0 : Nat) : Int)))].toArray 3) :: ((r1, Obj.map es ck) :: []))), he_1, hw1_1.fresh hf_1, ?_⟩
        have hlt_1 := fun p hp => Nat.lt_of_lt_of_le (hw1_1.lt (p := p) hp) (hf_1.new (r1_1, _) List.mem_cons_self)
        have hnd_1 := hw1_1.nd
        refine JL_nil ?_
        refine JX_seq ?_
        refine J_block ?_
        refine J_rangeFunc (σ := Unit) (τ := Empty) (fun i s => ((r2, Obj.cells [(Value.int .i64 ((gl.length : Int) - ((i : Nat) : Int)))].toArray 3) :: [])) ((r1_1, Obj.cells [(Value.pointer (some ⟨r, 0, none⟩))].toArray 45) :: ((r1, Obj.map es ck) :: [])) (fun i s => True) (()) (fun x => nomatch x) (fun _ => False) (fun _ => Code.skip) noMk rfl Try.call40 ((List.Perm.cons _ (List.Perm.refl _)).trans (List.Perm.swap _ _ _)) (trivial) (used_iter (r := r) (r1 := r1_1) (ga := ga) (ua := ua) (fa := fa) (gc := gc) (uc := uc) (fc := fc) (gl := gl) (ul := ul) (fl := fl) nu (by omega)) (fun w1 hw1 => ⟨hw1.own (r1_1, _) (by repeat (first | exact List.mem_cons_self | apply List.mem_cons_of_mem | apply List.mem_append_right)), hw1.base hb (by simp), hg.ext hw1.ext_out, hu.ext hw1.ext_out⟩) (fun w1 o h => ctxU_alloc h o) (fun k h1 h2 => ⟨fun e => h2 (by subst e; simp [keys]), fun e => by have := (Array.getElem?_eq_some_iff.1 hb).1; omega, hg.notIn eI_ok h1, hu.notIn eB_ok h1⟩) (fun p hp => by
          have hp2 := List.mem_singleton.1 hp
          subst hp2
          exact ⟨fun e => by have := hlt_1 (r2, _) (by repeat (first | exact List.mem_cons_self | apply List.mem_cons_of_mem | apply List.mem_append_right)); simp only at this e; omega, fun e => by have := (Array.getElem?_eq_some_iff.1 hb).1; simp only at e; omega, hg.notIn eI_ok hr2, hu.notIn eB_ok hr2⟩) rfl (usedE_len) ?_ ?_ ?_
        · intro l rD r0 i vs s wy Mkr hl hi hs hbs hkr R hA hB
          obtain ⟨j, hj, rfl⟩ := usedE_at hi
          have hib := usedE_bd hi
          skip
          refine J_skip ?_
          refine JX_begin (List.Perm.refl _) ?_
          refine J_block ?_
          refine J_reg ?_
          refine JL_q (q_load Try.isAgg3) (k := ?_)
          refine JL_q (q_sub) (k := ?_)
          refine JL_alter 58 (Value.int .i64 ((gl.length : Int) - ((i + 1 : Nat) : Int))) rfl (congrArg (Value.int .i64) (by omega)) ?_
          refine JL_s (w_store (l' := [_]) Try.sizeOf3) (k := ?_)
          refine JL_nil ?_
          refine JX_block ?_
          refine JX_permL ((l, loopAt r0 .busy none) :: ((r2, Obj.cells [(Value.int .i64 ((gl.length : Int) - ((i + 1 : Nat) : Int)))].toArray 3) :: ((rD, Obj.deferred (some [])) :: ((r1_1, Obj.cells [(Value.pointer (some ⟨r, 0, none⟩))].toArray 45) :: ((r1, Obj.map es ck) :: []))))) ((((((List.Perm.cons _ ((List.Perm.cons _ ((List.Perm.cons _ ((List.Perm.cons _ (List.Perm.refl _)).trans (List.Perm.swap _ _ _))).trans (List.Perm.swap _ _ _))).trans (List.Perm.swap _ _ _))).trans (List.Perm.swap _ _ _)).trans ((List.Perm.cons _ ((List.Perm.cons _ ((List.Perm.cons _ ((List.Perm.cons _ (List.Perm.refl _)).trans (List.Perm.swap _ _ _))).trans (List.Perm.swap _ _ _))).trans (List.Perm.swap _ _ _))).trans (List.Perm.swap _ _ _))).trans ((List.Perm.cons _ ((List.Perm.cons _ ((List.Perm.cons _ ((List.Perm.cons _ (List.Perm.refl _)).trans (List.Perm.swap _ _ _))).trans (List.Perm.swap _ _ _))).trans (List.Perm.swap _ _ _))).trans (List.Perm.swap _ _ _))).trans ((List.Perm.cons _ ((List.Perm.cons _ ((List.Perm.cons _ ((List.Perm.cons _ (List.Perm.refl _)).trans (List.Perm.swap _ _ _))).trans (List.Perm.swap _ _ _))).trans (List.Perm.swap _ _ _))).trans (List.Perm.swap _ _ _))).trans ((List.Perm.cons _ ((List.Perm.cons _ ((List.Perm.cons _ ((List.Perm.cons _ (List.Perm.refl _)).trans (List.Perm.swap _ _ _))).trans (List.Perm.swap _ _ _))).trans (List.Perm.swap _ _ _))).trans (List.Perm.swap _ _ _))) ?_
          exact JX_round (List.Perm.refl _) (fun w1 hw1 => hA (()) w1 (trivial) hw1)
        · intro l rD r0 s hs
          refine JX_block ?_
          refine JX_seq ?_
          refine J_seq ?_
          refine J_reg ?_
          refine JL_q (q_load Try.isAgg3) (k := ?_)
          refine JL_q (q_move) (k := ?_)
          refine JL_q (q_lenM Try.runUnderlying60) (k := ?_)
          refine JL_q (q_eql) (k := ?_)
          refine JL_q (q_assign) (k := ?_)
          refine JL_nil ?_
          refine JX_seq ?_
          refine J_ret ?_
          refine JX_retD [rD] ((List.Perm.cons _ ((List.Perm.cons _ (List.Perm.refl _)).trans (List.Perm.swap _ _ _))).trans (List.Perm.swap _ _ _)) Try.results32 (Res.tmp rfl Res.nil) (fun w1 hw1 => ?_)
          exact ⟨congrArg Ending.returned (congrArg Value.bool (by first | exact free_end (by omega) hmap hfd | exact (decide_eq_false (fun hh => freeD_neg (k := k) (by omega) (fun hc => by obtain ⟨c1, c2, c3, c4⟩ := hc; first | omega | simp_all) hh.1)).symm)), hw1.ext_out⟩
        · intro l rD r0 t; exact nomatch t
theorem isAll_ok (w : World) {r q : Nat} {ga ua fa : Option Addr} {gc uc fc : Nat} {gl : List Int} {ul : List Bool} {fl : List Int} (hb : w.heap[r]? = some (Obj.cells [(Value.slice (ga) (gl.length) (gc)), (Value.slice (ua) (ul.length) (uc)), (Value.slice (fa) (fl.length) (fc))].toArray 48)) (hq : w.heap[q]? = some (Obj.cells [Value.func (.func 30) [].toArray [].toArray, Value.func (.func 31) [].toArray [].toArray, Value.func (.func 32) [].toArray [].toArray].toArray 51)) (hg : Sl w eI 1 ga gl) (hu : Sl w eB 1 ua ul) (hfr : Sl w eI 1 fa fl) (ng : gl.length ≤ 1000000) (nu : ul.length ≤ 1000000) (nf : fl.length ≤ 1000000) : Val Try.prog 29 [(Value.pointer (some ⟨r, 0, none⟩)), (Value.slice (some ⟨q, 0, none⟩) (3) (3))] w (Value.bool (rightB gl ul fl)) := by
  refine enter Try.func29 Try.ntmps29 (h := ?_)
  refine J_seq ?_
  refine J_reg ?_
  refine JL_q (q_assign) (k := ?_)
  refine JL_nil ?_
  refine JX_seq ?_
  refine J_seq ?_
  refine J_seq ?_
  refine J_reg ?_
  refine JL_q (q_move) (k := ?_)
  refine JL_q (q_lenS Try.runUnderlying58) (k := ?_)
  refine JL_q (q_move) (k := ?_)
  refine JL_nil ?_
  refine JX_seq ?_
  refine J_block ?_
  refine J_loop1 (σ1 := Nat) (fun k => []) (fun k => [(0, (Value.pointer (some ⟨r, 0, none⟩))), (7, (Value.slice (some ⟨q, 0, none⟩) (3) (3))), (8, (Value.int .i64 (((3 : Nat) : Int)))), (9, (Value.int .i64 (((k : Nat) : Int))))]) (fun k => k ≤ 3 ∧ (1 ≤ k → longD gl ul = true) ∧ (2 ≤ k → gl.any badGen = false) ∧ (3 ≤ k → freeD ul fl ∧ (gl.length : Int) - (cntU ul : Int) = (fl.length : Int))) (fun k => 3 - k) (0) ?_ (.cons (t := 0) rfl (.cons (t := 7) rfl (.cons (t := 8) rfl (.cons (t := 9) rfl .nil)))) (List.Perm.refl _) ?_
  · exact ⟨by omega, fun h => by omega, fun h => by omega, fun h => by omega⟩
  · rintro k ⟨hk, i1, i2, i3⟩
    obtain rfl | rfl | rfl | rfl : k = 0 ∨ k = 1 ∨ k = 2 ∨ k = 3 := by omega
    · skip
      refine J_seq ?_
      refine J_reg ?_
      refine JL_q (q_lss) (k := ?_)
      refine JL_nil ?_
      refine JX_seq ?_
      refine J_seq ?_
      refine J_true rfl ?_
      refine J_skip ?_
      refine JX_seq ?_
      refine J_seq ?_
      refine J_block ?_
      refine J_seq ?_
      refine J_reg ?_
      refine JL_q (q_idxO Try.runUnderlying58 Try.sizeOf51 0) (k := ?_)
      refine JL_q (q_loadB Try.isAgg51 hq) (k := ?_)
      refine JL_q (q_assign) (k := ?_)
      refine JL_nil ?_
      refine JX_seq ?_
      refine J_seq ?_
      refine J_reg ?_
      refine JL_q (q_move) (k := ?_)
      refine JL_q (q_move) (k := ?_)
      refine JL_v (args := [(Value.pointer (some ⟨r, 0, none⟩))]) (c_callA Try.call30) (fun w1 hw1 => isLong_ok w1 (hb := hw1.base hb (by simp)) (hg := (SlJ.of_base hg) w1 hw1) (hu := (SlJ.of_base hu) w1 hw1) (hfr := (SlJ.of_base hfr) w1 hw1) (ng := by omega) (nu := by omega) (nf := by omega)) (k := ?_)
      refine JL_q (q_not) (k := ?_)
      refine JL_nil ?_
      refine JX_seq ?_
      refine J_cond rfl (fun hq5 => ?_) (fun hq5 => ?_)
      · first
        | (exfalso; omega)
        |
          refine J_seq ?_
          refine J_reg ?_
          refine JL_q (q_assign) (k := ?_)
          refine JL_nil ?_
          refine JX_seq ?_
          refine J_ret ?_
          refine JX_block_ret ?_
          refine JX_seq_ret ?_
          refine JX_inv_ret ?_
          refine JX_block_ret ?_
          refine JX_seq_ret ?_
          refine JX_ret Try.results29 (Res.tmp rfl Res.nil) (fun w1 hw1 => ?_)
          exact ⟨congrArg Ending.returned (congrArg Value.bool (by first | exact rb_f1 ‹_› | exact rb_f2 ‹_› | exact rb_f3 ‹_› | exact rb_t (i1 (by omega)) (i2 (by omega)) (i3 (by omega)))), hw1.ext_out⟩
      · first
        | (exfalso; omega)
        |
          refine J_skip ?_
          refine JX_block ?_
          refine JX_seq ?_
          refine J_reg ?_
          refine JL_q (q_add) (k := ?_)
          refine JL_q (q_move) (k := ?_)
          refine JL_nil ?_
          refine JX_inv1 (1) ?_ ?_ (.cons (t := 0) rfl (.cons (t := 7) rfl (.cons (t := 8) rfl (.cons (t := 9) rfl .nil)))) (List.Perm.refl _)
          · exact ⟨by omega, fun _ => by first | omega | simp_all, fun _ => by first | omega | simp_all, fun _ => by first | omega | simp_all⟩
          · omega
    · skip
      refine J_seq ?_
      refine J_reg ?_
      refine JL_q (q_lss) (k := ?_)
      refine JL_nil ?_
      refine JX_seq ?_
      refine J_seq ?_
      refine J_true rfl ?_
      refine J_skip ?_
      refine JX_seq ?_
      refine J_seq ?_
      refine J_block ?_
      refine J_seq ?_
      refine J_reg ?_
      refine JL_q (q_idxO Try.runUnderlying58 Try.sizeOf51 1) (k := ?_)
      refine JL_q (q_loadB Try.isAgg51 hq) (k := ?_)
      refine JL_q (q_assign) (k := ?_)
      refine JL_nil ?_
      refine JX_seq ?_
      refine J_seq ?_
      refine J_reg ?_
      refine JL_q (q_move) (k := ?_)
      refine JL_q (q_move) (k := ?_)
      refine JL_v (args := [(Value.pointer (some ⟨r, 0, none⟩))]) (c_callA Try.call31) (fun w1 hw1 => areGens_ok w1 (hb := hw1.base hb (by simp)) (hg := (SlJ.of_base hg) w1 hw1) (hu := (SlJ.of_base hu) w1 hw1) (hfr := (SlJ.of_base hfr) w1 hw1) (ng := by omega) (nu := by omega) (nf := by omega)) (k := ?_)
      refine JL_q (q_not) (k := ?_)
      refine JL_nil ?_
      refine JX_seq ?_
      refine J_cond rfl (fun hq6 => ?_) (fun hq6 => ?_)
      · first
        | (exfalso; omega)
        |
          refine J_seq ?_
          refine J_reg ?_
          refine JL_q (q_assign) (k := ?_)
          refine JL_nil ?_
          refine JX_seq ?_
          refine J_ret ?_
          refine JX_block_ret ?_
          refine JX_seq_ret ?_
          refine JX_inv_ret ?_
          refine JX_block_ret ?_
          refine JX_seq_ret ?_
          refine JX_ret Try.results29 (Res.tmp rfl Res.nil) (fun w1 hw1 => ?_)
          exact ⟨congrArg Ending.returned (congrArg Value.bool (by first | exact rb_f1 ‹_› | exact rb_f2 ‹_› | exact rb_f3 ‹_› | exact rb_t (i1 (by omega)) (i2 (by omega)) (i3 (by omega)))), hw1.ext_out⟩
      · first
        | (exfalso; omega)
        |
          refine J_skip ?_
          refine JX_block ?_
          refine JX_seq ?_
          refine J_reg ?_
          refine JL_q (q_add) (k := ?_)
          refine JL_q (q_move) (k := ?_)
          refine JL_nil ?_
          refine JX_inv1 (2) ?_ ?_ (.cons (t := 0) rfl (.cons (t := 7) rfl (.cons (t := 8) rfl (.cons (t := 9) rfl .nil)))) (List.Perm.refl _)
          · exact ⟨by omega, fun _ => by first | omega | simp_all, fun _ => by first | omega | simp_all, fun _ => by first | omega | simp_all⟩
          · omega
    · skip
      refine J_seq ?_
      refine J_reg ?_
      refine JL_q (q_lss) (k := ?_)
      refine JL_nil ?_
      refine JX_seq ?_
      refine J_seq ?_
      refine J_true rfl ?_
      refine J_skip ?_
      refine JX_seq ?_
      refine J_seq ?_
      refine J_block ?_
      refine J_seq ?_
      refine J_reg ?_
      refine JL_q (q_idxO Try.runUnderlying58 Try.sizeOf51 2) (k := ?_)
      refine JL_q (q_loadB Try.isAgg51 hq) (k := ?_)
      refine JL_q (q_assign) (k := ?_)
      refine JL_nil ?_
      refine JX_seq ?_
      refine J_seq ?_
      refine J_reg ?_
      refine JL_q (q_move) (k := ?_)
      refine JL_q (q_move) (k := ?_)
      refine JL_v (args := [(Value.pointer (some ⟨r, 0, none⟩))]) (c_callA Try.call32) (fun w1 hw1 => areFree_ok w1 (hb := hw1.base hb (by simp)) (hg := (SlJ.of_base hg) w1 hw1) (hu := (SlJ.of_base hu) w1 hw1) (hfr := (SlJ.of_base hfr) w1 hw1) (ng := by omega) (nu := by omega) (nf := by omega) (hlen := by exact longD_len (i1 (by omega)))) (k := ?_)
      refine JL_q (q_notD) (k := ?_)
      refine JL_nil ?_
      refine JX_seq ?_
      refine J_dec rfl (fun hq7 => ?_) (fun hq7 => ?_)
      · first
        | (exfalso; omega)
        |
          refine J_seq ?_
          refine J_reg ?_
          refine JL_q (q_assign) (k := ?_)
          refine JL_nil ?_
          refine JX_seq ?_
          refine J_ret ?_
          refine JX_block_ret ?_
          refine JX_seq_ret ?_
          refine JX_inv_ret ?_
          refine JX_block_ret ?_
          refine JX_seq_ret ?_
          refine JX_ret Try.results29 (Res.tmp rfl Res.nil) (fun w1 hw1 => ?_)
          exact ⟨congrArg Ending.returned (congrArg Value.bool (by first | exact rb_f1 ‹_› | exact rb_f2 ‹_› | exact rb_f3 ‹_› | exact rb_t (i1 (by omega)) (i2 (by omega)) (i3 (by omega)))), hw1.ext_out⟩
      · first
        | (exfalso; omega)
        |
          refine J_skip ?_
          refine JX_block ?_
          refine JX_seq ?_
          refine J_reg ?_
          refine JL_q (q_add) (k := ?_)
          refine JL_q (q_move) (k := ?_)
          refine JL_nil ?_
          refine JX_inv1 (3) ?_ ?_ (.cons (t := 0) rfl (.cons (t := 7) rfl (.cons (t := 8) rfl (.cons (t := 9) rfl .nil)))) (List.Perm.refl _)
          · exact ⟨by omega, fun _ => by first | omega | simp_all, fun _ => by first | omega | simp_all, fun _ => by first | omega | simp_all⟩
          · omega
    · skip
      refine J_seq ?_
      refine J_reg ?_
      refine JL_q (q_lss) (k := ?_)
      refine JL_nil ?_
      refine JX_seq ?_
      refine J_seq ?_
      refine J_false rfl ?_
      refine J_exit ?_
      refine JX_seq_exit ?_
      refine JX_inv_exit ?_
      refine JX_block_hit ?_
      refine JX_seq ?_
      refine J_seq ?_
      refine J_reg ?_
      refine JL_q (q_assign) (k := ?_)
      refine JL_nil ?_
      refine JX_seq ?_
      refine J_ret ?_
      refine JX_ret Try.results29 (Res.tmp rfl Res.nil) (fun w1 hw1 => ?_)
      exact ⟨congrArg Ending.returned (congrArg Value.bool (by first | exact rb_f1 ‹_› | exact rb_f2 ‹_› | exact rb_f3 ‹_› | exact rb_t (i1 (by omega)) (i2 (by omega)) (i3 (by omega)))), hw1.ext_out⟩
theorem Right_ok (w : World) {ga ua fa : Option Addr} {gc uc fc : Nat} {gl : List Int} {ul : List Bool} {fl : List Int} (hg : Sl w eI 1 ga gl) (hu : Sl w eB 1 ua ul) (hfr : Sl w eI 1 fa fl) (ng : gl.length ≤ 1000000) (nu : ul.length ≤ 1000000) (nf : fl.length ≤ 1000000) : Val Try.prog 16 [(Value.agg [(Value.slice (ga) (gl.length) (gc)), (Value.slice (ua) (ul.length) (uc)), (Value.slice (fa) (fl.length) (fc))].toArray)] w (Value.bool (rightB gl ul fl)) := by
  refine enter Try.func16 Try.ntmps16 (h := ?_)
  refine J_seq ?_
  refine J_reg ?_
  refine JL_a noMk (a_box (l := [_, _, _])) (k := fun r1 hr1 => ?_)
  refine JL_q (q_assign) (k := ?_)
  refine JL_nil ?_
  refine JX_seq ?_
  refine J_seq ?_
  refine J_reg ?_
  refine JL_q (q_loadA Try.isAgg25 Try.sizeOf25) (k := ?_)
  refine JL_q (q_build (cs := [_, _, _]) Try.zeroValue48 PL_48) (k := ?_)
  refine JL_a noMk (a_box (l := [_, _, _])) (k := fun r2 hr2 => ?_)
  refine JL_a noMk (a_bslice (l := [_, _, _]) Try.runUnderlying58 Try.sizeOf51 Try.zeroValue51) (k := fun r3 hr3 => ?_)
  refine JL_v (args := [(Value.pointer (some ⟨r2, 0, none⟩)), (Value.slice (some ⟨r3, 0, none⟩) (3) (3))]) (c_callA Try.call29) (fun w1 hw1 => isAll_ok w1 (hb := hw1.own (r2, _) (by repeat (first | exact List.mem_cons_self | apply List.mem_cons_of_mem | apply List.mem_append_right))) (hq := hw1.own (r3, _) (by repeat (first | exact List.mem_cons_self | apply List.mem_cons_of_mem | apply List.mem_append_right))) (hg := (SlJ.of_base hg) w1 hw1) (hu := (SlJ.of_base hu) w1 hw1) (hfr := (SlJ.of_base hfr) w1 hw1) (ng := by omega) (nu := by omega) (nf := by omega)) (k := ?_)
  refine JL_q (q_assign) (k := ?_)
  refine JL_nil ?_
  refine JX_seq ?_
  refine J_ret ?_
  refine JX_ret Try.results16 (Res.tmp rfl Res.nil) (fun w1 hw1 => ?_)
  exact ⟨congrArg Ending.returned (congrArg Value.bool (by rfl)), hw1.ext_out⟩
theorem cloneI_ok (w : World) {a : Option Addr} {c : Nat} {xs : List Int} (hx : Sl w eI 1 a xs) (hn : xs.length ≤ 1000000) : Calls Try.prog 37 (List.toArray [(Value.slice (a) (xs.length) (c))]) w fun e w2 => ∃ a2 : Option Addr, ∃ c2 : Nat, ∃ B : Heap, e = .returned (Value.slice (a2) (xs.length) (c2)) ∧ Fresh w w2 (B) ∧ OwnB eI 1 3 a2 c2 B xs := by
  refine enter Try.func37 Try.ntmps37 (h := ?_)
  refine J_seq ?_
  refine J_reg ?_
  refine JL_q (q_assign) (k := ?_)
  refine JL_nil ?_
  refine JX_seq ?_
  refine J_seq ?_
  refine J_seq ?_
  refine J_reg ?_
  refine JL_q (q_move) (k := ?_)
  refine JL_q (q_eqNil Try.runUnderlying22) (k := ?_)
  refine JL_nil ?_
  refine JX_seq ?_
  refine J_cond rfl (fun hq1 => ?_) (fun hq1 => ?_)
  · first
    | (exfalso; omega)
    |
      refine J_seq ?_
      refine J_reg ?_
      refine JL_q (q_assign) (k := ?_)
      refine JL_nil ?_
      refine JX_seq ?_
      refine J_ret ?_
      refine JX_seq_ret ?_
      refine JX_ret Try.results37 (Res.tmp rfl Res.nil) (fun w1 hw1 => ?_)
      have hxs : xs = [] := Sl.none (by rw [← Option.isNone_iff_eq_none.1 ‹_›]; exact hx)
      subst hxs
      exact ⟨none, 0, [], congrArg Ending.returned rfl, hw1.fresh_out, OwnB.nil⟩
  · first
    | (exfalso; omega)
    |
      refine J_skip ?_
      refine JX_seq ?_
      refine J_seq ?_
      refine J_reg ?_
      refine JL_a noMk (a_bslice (l := []) Try.runUnderlying22 Try.sizeOf3 Try.zeroValue3) (k := fun r1 hr1 => ?_)
      refine JL_q (q_move) (k := ?_)
      refine JL_append (xs) (List.nil_append _) TY_3 Try.underlying22 eI_ok OwnB.nil (List.Perm.refl _) (SlJ.of_base hx) ⟨by omega, by omega⟩ (n := 0) (m := xs.length) (k := fun ax1 cx1 Bx1 hox1 => ?_)
      refine JL_q (q_assign) (k := ?_)
      refine JL_nil ?_
      refine JX_seq ?_
      refine J_ret ?_
      refine JX_ret Try.results37 (Res.tmp rfl Res.nil) (fun w1 hw1 => ?_)
      exact ⟨_, _, Bx1, congrArg Ending.returned rfl, hw1.fresh_out.sub (List.sublist_append_left _ _), hox1⟩
theorem cloneB_ok (w : World) {a : Option Addr} {c : Nat} {xs : List Bool} (hx : Sl w eB 1 a xs) (hn : xs.length ≤ 1000000) : Calls Try.prog 36 (List.toArray [(Value.slice (a) (xs.length) (c))]) w fun e w2 => ∃ a2 : Option Addr, ∃ c2 : Nat, ∃ B : Heap, e = .returned (Value.slice (a2) (xs.length) (c2)) ∧ Fresh w w2 (B) ∧ OwnB eB 1 4 a2 c2 B xs := by
  refine enter Try.func36 Try.ntmps36 (h := ?_)
  refine J_seq ?_
  refine J_reg ?_
  refine JL_q (q_assign) (k := ?_)
  refine JL_nil ?_
  refine JX_seq ?_
  refine J_seq ?_
  refine J_seq ?_
  refine J_reg ?_
  refine JL_q (q_move) (k := ?_)
  refine JL_q (q_eqNil Try.runUnderlying23) (k := ?_)
  refine JL_nil ?_
  refine JX_seq ?_
  refine J_cond rfl (fun hq1 => ?_) (fun hq1 => ?_)
  · first
    | (exfalso; omega)
    |
      refine J_seq ?_
      refine J_reg ?_
      refine JL_q (q_assign) (k := ?_)
      refine JL_nil ?_
      refine JX_seq ?_
      refine J_ret ?_
      refine JX_seq_ret ?_
      refine JX_ret Try.results36 (Res.tmp rfl Res.nil) (fun w1 hw1 => ?_)
      have hxs : xs = [] := Sl.none (by rw [← Option.isNone_iff_eq_none.1 ‹_›]; exact hx)
      subst hxs
      exact ⟨none, 0, [], congrArg Ending.returned rfl, hw1.fresh_out, OwnB.nil⟩
  · first
    | (exfalso; omega)
    |
      refine J_skip ?_
      refine JX_seq ?_
      refine J_seq ?_
      refine J_reg ?_
      refine JL_a noMk (a_bslice (l := []) Try.runUnderlying23 Try.sizeOf4 Try.zeroValue4) (k := fun r1 hr1 => ?_)
      refine JL_q (q_move) (k := ?_)
      refine JL_append (xs) (List.nil_append _) TY_4 Try.underlying23 eB_ok OwnB.nil (List.Perm.refl _) (SlJ.of_base hx) ⟨by omega, by omega⟩ (n := 0) (m := xs.length) (k := fun ax1 cx1 Bx1 hox1 => ?_)
      refine JL_q (q_assign) (k := ?_)
      refine JL_nil ?_
      refine JX_seq ?_
      refine J_ret ?_
      refine JX_ret Try.results36 (Res.tmp rfl Res.nil) (fun w1 hw1 => ?_)
      exact ⟨_, _, Bx1, congrArg Ending.returned rfl, hw1.fresh_out.sub (List.sublist_append_left _ _), hox1⟩
theorem own_ok (w : World) {ga ua fa : Option Addr} {gc uc fc : Nat} {gl : List Int} {ul : List Bool} {fl : List Int} (hg : Sl w eI 1 ga gl) (hu : Sl w eB 1 ua ul) (hfr : Sl w eI 1 fa fl) (ng : gl.length ≤ 1000000) (nu : ul.length ≤ 1000000) (nf : fl.length ≤ 1000000) : Calls Try.prog 26 (List.toArray [(Value.agg [(Value.slice (ga) (gl.length) (gc)), (Value.slice (ua) (ul.length) (uc)), (Value.slice (fa) (fl.length) (fc))].toArray)]) w fun e w2 => ∃ r2 : Nat, ∃ ga2 : Option Addr, ∃ gc2 : Nat, ∃ B1 : Heap, ∃ ua2 : Option Addr, ∃ uc2 : Nat, ∃ B2 : Heap, ∃ fa2 : Option Addr, ∃ fc2 : Nat, ∃ B3 : Heap, e = .returned (Value.pointer (some ⟨r2, 0, none⟩)) ∧ Fresh w w2 ((r2, Obj.cells [(Value.slice (ga2) (gl.length) (gc2)), (Value.slice (ua2) (ul.length) (uc2)), (Value.slice (fa2) (fl.length) (fc2))].toArray 48) :: (B1 ++ (B2 ++ B3))) ∧ OwnB eI 1 3 ga2 gc2 B1 gl ∧ OwnB eB 1 4 ua2 uc2 B2 ul ∧ OwnB eI 1 3 fa2 fc2 B3 fl := by
  refine enter Try.func26 Try.ntmps26 (h := ?_)
  refine J_seq ?_
  refine J_reg ?_
  refine JL_a noMk (a_box (l := [_, _, _])) (k := fun r1 hr1 => ?_)
  refine JL_q (q_assign) (k := ?_)
  refine JL_nil ?_
  refine JX_seq ?_
  refine J_seq ?_
  refine J_any (V := []) mixed 14 (by kernel_rfl) ?_
  refine JG_q 0 rfl (by kernel_rfl) (q_fld FO_25_0) (k := ?_)
  refine JG_q 1 rfl (by kernel_rfl) (q_load Try.isAgg22) (k := ?_)
  refine JG_q 2 rfl (by kernel_rfl) (q_lenS Try.runUnderlying22) (k := ?_)
  refine JG_q 4 rfl (by kernel_rfl) (q_fld FO_25_1) (k := ?_)
  refine JG_q 5 rfl (by kernel_rfl) (q_load Try.isAgg23) (k := ?_)
  refine JG_q 7 rfl (by kernel_rfl) (q_fld FO_25_2) (k := ?_)
  refine JG_q 8 rfl (by kernel_rfl) (q_load Try.isAgg22) (k := ?_)
  refine JG_br [3, 6] (by kernel_rfl) rfl (List.forall_mem_cons.2 ⟨?_, (List.forall_mem_cons.2 ⟨?_, nofun⟩)⟩)
  · skip
    refine JO_a rfl noMk (a_make (n := gl.length) TY_3 Try.underlying22 (by omega) (by omega)) (k := fun r2 hr2 => ?_)
    refine JG_br [6] (by kernel_rfl) rfl (List.forall_mem_cons.2 ⟨?_, nofun⟩)
    · skip
      refine JO_p rfl (args := [(Value.slice (ua) (ul.length) (uc))]) (c_callA Try.call36) (fun w1 hw1 => cloneB_ok w1 (hx := (SlJ.of_base hu) w1 hw1) (hn := by omega)) (k := ?_)
      rintro w1_1 e1_1 w2_1 hw1_1 ⟨a2_1, c2_1, B_1, he_1, hf_1, ho_1⟩
      refine ⟨_, _, (B_1 ++ ((r2, Obj.cells (madeCells (Value.cells (Value.int .i64 (0))) (gl.length * 1)) 3) :: ((r1, Obj.cells [(Value.slice (ga) (gl.length) (gc)), (Value.slice (ua) (ul.length) (uc)), (Value.slice (fa) (fl.length) (fc))].toArray 25) :: []))), he_1, hf_1, rfl, ?_⟩
      refine JG_br [9] (by kernel_rfl) rfl (List.forall_mem_cons.2 ⟨?_, nofun⟩)
      · skip
        refine JO_p rfl (args := [(Value.slice (fa) (fl.length) (fc))]) (c_callA Try.call37) (fun w1 hw1 => cloneI_ok w1 (hx := (SlJ.of_base hfr) w1 hw1) (hn := by omega)) (k := ?_)
        rintro w1_2 e1_2 w2_2 hw1_2 ⟨a2_2, c2_2, B_2, he_2, hf_2, ho_2⟩
        refine ⟨_, _, (B_2 ++ (B_1 ++ ((r2, Obj.cells (madeCells (Value.cells (Value.int .i64 (0))) (gl.length * 1)) 3) :: ((r1, Obj.cells [(Value.slice (ga) (gl.length) (gc)), (Value.slice (ua) (ul.length) (uc)), (Value.slice (fa) (fl.length) (fc))].toArray 25) :: [])))), he_2, hf_2, rfl, ?_⟩
        refine JG_q 10 rfl (by kernel_rfl) (q_build (cs := [_, _, _]) Try.zeroValue25 PL_25) (k := ?_)
        refine JG_q 11 rfl (by kernel_rfl) (q_build (cs := [_, _, _]) Try.zeroValue48 PL_48) (k := ?_)
        refine JG_br [12] (by kernel_rfl) rfl (List.forall_mem_cons.2 ⟨?_, nofun⟩)
        · skip
          refine JO_a rfl noMk (a_box (l := [_, _, _])) (k := fun r3 hr3 => ?_)
          refine JG_q 13 rfl (by kernel_rfl) (q_assign) (k := ?_)
          refine JG_nil (by kernel_rfl) _ ?_
          refine JL_nil ?_
          refine JX_seq ?_
          refine J_seq ?_
          refine J_planV ((r3, Obj.cells [(Value.slice (some ⟨r2, 0, none⟩) (gl.length) (gl.length)), (Value.slice (a2_1) (ul.length) (c2_1)), (Value.slice (a2_2) (fl.length) (c2_2))].toArray 48) :: (B_2 ++ (B_1 ++ ((r1, Obj.cells [(Value.slice (ga) (gl.length) (gc)), (Value.slice (ua) (ul.length) (uc)), (Value.slice (fa) (fl.length) (fc))].toArray 25) :: [])))) ((r2, Obj.cells (madeCells (Value.cells (Value.int .i64 (0))) (gl.length * 1)) 3) :: []) (by simpa using ((List.Perm.cons _ ((List.Perm.append_left _ ((List.Perm.append_left _ (List.Perm.refl _)).trans List.perm_middle)).trans List.perm_middle)).trans (List.Perm.swap _ _ _))) mixed 8 [(true, 0), (true, 1), (true, 2), (true, 3), (true, 4), (true, 5), (true, 6), (false, 7)] (by kernel_rfl) ?_
          refine JD_q (q_move) (k := ?_)
          refine JD_q (q_nil) (k := ?_)
          refine JD_q (q_fld FO_48_0) (k := ?_)
          refine JD_q (q_fld FO_25_0) (k := ?_)
          refine JD_q (q_load Try.isAgg22) (k := ?_)
          refine JD_q (q_fld FO_25_0) (k := ?_)
          refine JD_q (q_load Try.isAgg22) (k := ?_)
          refine JD_copy (n := gl.length) TY_3 Try.underlying22 eI_ok (OwnB.made (e := 3) (z := (Value.int .i64 (0))) (x0 := default) (r := r2) (n := gl.length) eI_ok rfl) (List.Perm.refl _) (SlJ.of_base hg) (by simp) rfl (kk := fun Bx1 hox1 => ?_)
          refine JD_nil ?_
          refine JL_eqL (L' := (Bx1 ++ ((r3, Obj.cells [(Value.slice (some ⟨r2, 0, none⟩) (gl.length) (gl.length)), (Value.slice (a2_1) (ul.length) (c2_1)), (Value.slice (a2_2) (fl.length) (c2_2))].toArray 48) :: (B_2 ++ (B_1 ++ ((r1, Obj.cells [(Value.slice (ga) (gl.length) (gc)), (Value.slice (ua) (ul.length) (uc)), (Value.slice (fa) (fl.length) (fc))].toArray 25) :: [])))))) (by simp only [List.append_nil, List.append_assoc, List.cons_append, List.nil_append]) ?_
          refine JL_nil ?_
          refine JX_seq ?_
          refine J_seq ?_
          refine J_reg ?_
          refine JL_q (q_move) (k := ?_)
          refine JL_q (q_assign) (k := ?_)
          refine JL_nil ?_
          refine JX_seq ?_
          refine J_ret ?_
          refine JX_ret Try.results26 (Res.tmp rfl Res.nil) (fun w1 hw1 => ?_)
          exact ⟨_, _, _, _, _, _, _, _, _, _, congrArg Ending.returned rfl, (fresh_pick4 (hw1.perm (((((List.Perm.append_left _ ((List.Perm.cons _ (List.Perm.refl _)).trans List.perm_middle.symm)).trans (perm_seg _ _ _)).trans ((List.Perm.append_left _ ((List.Perm.append_left _ ((List.Perm.cons _ (List.Perm.refl _)).trans List.perm_middle.symm)).trans (perm_seg _ _ _))).trans (perm_seg _ _ _))).trans ((List.Perm.append_left _ ((List.Perm.append_left _ (List.Perm.refl _)).trans (perm_seg _ _ _))).trans (perm_seg _ _ _))).trans ((List.Perm.append_left _ ((List.Perm.append_left _ ((List.Perm.append_left _ (List.Perm.refl _)).trans List.perm_middle)).trans List.perm_middle)).trans List.perm_middle)))), hox1, ho_1, ho_2⟩
  · skip
    refine JO_p rfl (args := [(Value.slice (ua) (ul.length) (uc))]) (c_callA Try.call36) (fun w1 hw1 => cloneB_ok w1 (hx := (SlJ.of_base hu) w1 hw1) (hn := by omega)) (k := ?_)
    rintro w1_3 e1_3 w2_3 hw1_3 ⟨a2_3, c2_3, B_3, he_3, hf_3, ho_3⟩
    refine ⟨_, _, (B_3 ++ ((r1, Obj.cells [(Value.slice (ga) (gl.length) (gc)), (Value.slice (ua) (ul.length) (uc)), (Value.slice (fa) (fl.length) (fc))].toArray 25) :: [])), he_3, hf_3, rfl, ?_⟩
    refine JG_br [3, 9] (by kernel_rfl) rfl (List.forall_mem_cons.2 ⟨?_, (List.forall_mem_cons.2 ⟨?_, nofun⟩)⟩)
    · skip
      refine JO_a rfl noMk (a_make (n := gl.length) TY_3 Try.underlying22 (by omega) (by omega)) (k := fun r4 hr4 => ?_)
      refine JG_br [9] (by kernel_rfl) rfl (List.forall_mem_cons.2 ⟨?_, nofun⟩)
      · skip
        refine JO_p rfl (args := [(Value.slice (fa) (fl.length) (fc))]) (c_callA Try.call37) (fun w1 hw1 => cloneI_ok w1 (hx := (SlJ.of_base hfr) w1 hw1) (hn := by omega)) (k := ?_)
        rintro w1_4 e1_4 w2_4 hw1_4 ⟨a2_4, c2_4, B_4, he_4, hf_4, ho_4⟩
        refine ⟨_, _, (B_4 ++ ((r4, Obj.cells (madeCells (Value.cells (Value.int .i64 (0))) (gl.length * 1)) 3) :: (B_3 ++ ((r1, Obj.cells [(Value.slice (ga) (gl.length) (gc)), (Value.slice (ua) (ul.length) (uc)), (Value.slice (fa) (fl.length) (fc))].toArray 25) :: [])))), he_4, hf_4, rfl, ?_⟩
        refine JG_q 10 rfl (by kernel_rfl) (q_build (cs := [_, _, _]) Try.zeroValue25 PL_25) (k := ?_)
        refine JG_q 11 rfl (by kernel_rfl) (q_build (cs := [_, _, _]) Try.zeroValue48 PL_48) (k := ?_)
        refine JG_br [12] (by kernel_rfl) rfl (List.forall_mem_cons.2 ⟨?_, nofun⟩)
        · skip
          refine JO_a rfl noMk (a_box (l := [_, _, _])) (k := fun r5 hr5 => ?_)
          refine JG_q 13 rfl (by kernel_rfl) (q_assign) (k := ?_)
          refine JG_nil (by kernel_rfl) _ ?_
          refine JL_nil ?_
          refine JX_seq ?_
          refine J_seq ?_
          refine J_planV ((r5, Obj.cells [(Value.slice (some ⟨r4, 0, none⟩) (gl.length) (gl.length)), (Value.slice (a2_3) (ul.length) (c2_3)), (Value.slice (a2_4) (fl.length) (c2_4))].toArray 48) :: (B_4 ++ (B_3 ++ ((r1, Obj.cells [(Value.slice (ga) (gl.length) (gc)), (Value.slice (ua) (ul.length) (uc)), (Value.slice (fa) (fl.length) (fc))].toArray 25) :: [])))) ((r4, Obj.cells (madeCells (Value.cells (Value.int .i64 (0))) (gl.length * 1)) 3) :: []) (by simpa using ((List.Perm.cons _ ((List.Perm.append_left _ (List.Perm.refl _)).trans List.perm_middle)).trans (List.Perm.swap _ _ _))) mixed 8 [(true, 0), (true, 1), (true, 2), (true, 3), (true, 4), (true, 5), (true, 6), (false, 7)] (by kernel_rfl) ?_
          refine JD_q (q_move) (k := ?_)
          refine JD_q (q_nil) (k := ?_)
          refine JD_q (q_fld FO_48_0) (k := ?_)
          refine JD_q (q_fld FO_25_0) (k := ?_)
          refine JD_q (q_load Try.isAgg22) (k := ?_)
          refine JD_q (q_fld FO_25_0) (k := ?_)
          refine JD_q (q_load Try.isAgg22) (k := ?_)
          refine JD_copy (n := gl.length) TY_3 Try.underlying22 eI_ok (OwnB.made (e := 3) (z := (Value.int .i64 (0))) (x0 := default) (r := r4) (n := gl.length) eI_ok rfl) (List.Perm.refl _) (SlJ.of_base hg) (by simp) rfl (kk := fun Bx2 hox2 => ?_)
          refine JD_nil ?_
          refine JL_eqL (L' := (Bx2 ++ ((r5, Obj.cells [(Value.slice (some ⟨r4, 0, none⟩) (gl.length) (gl.length)), (Value.slice (a2_3) (ul.length) (c2_3)), (Value.slice (a2_4) (fl.length) (c2_4))].toArray 48) :: (B_4 ++ (B_3 ++ ((r1, Obj.cells [(Value.slice (ga) (gl.length) (gc)), (Value.slice (ua) (ul.length) (uc)), (Value.slice (fa) (fl.length) (fc))].toArray 25) :: [])))))) (by simp only [List.append_nil, List.append_assoc, List.cons_append, List.nil_append]) ?_
          refine JL_nil ?_
          refine JX_seq ?_
          refine J_seq ?_
          refine J_reg ?_
          refine JL_q (q_move) (k := ?_)
          refine JL_q (q_assign) (k := ?_)
          refine JL_nil ?_
          refine JX_seq ?_
          refine J_ret ?_
          refine JX_ret Try.results26 (Res.tmp rfl Res.nil) (fun w1 hw1 => ?_)
          exact ⟨_, _, _, _, _, _, _, _, _, _, congrArg Ending.returned rfl, (fresh_pick4 (hw1.perm (((((List.Perm.append_left _ ((List.Perm.cons _ (List.Perm.refl _)).trans List.perm_middle.symm)).trans (perm_seg _ _ _)).trans ((List.Perm.append_left _ ((List.Perm.append_left _ ((List.Perm.cons _ (List.Perm.refl _)).trans List.perm_middle.symm)).trans (perm_seg _ _ _))).trans (perm_seg _ _ _))).trans ((List.Perm.append_left _ ((List.Perm.append_left _ (List.Perm.refl _)).trans (perm_seg _ _ _))).trans (perm_seg _ _ _))).trans ((List.Perm.append_left _ ((List.Perm.append_left _ ((List.Perm.append_left _ (List.Perm.refl _)).trans List.perm_middle)).trans List.perm_middle)).trans List.perm_middle)))), hox2, ho_3, ho_4⟩
    · skip
      refine JO_p rfl (args := [(Value.slice (fa) (fl.length) (fc))]) (c_callA Try.call37) (fun w1 hw1 => cloneI_ok w1 (hx := (SlJ.of_base hfr) w1 hw1) (hn := by omega)) (k := ?_)
      rintro w1_5 e1_5 w2_5 hw1_5 ⟨a2_5, c2_5, B_5, he_5, hf_5, ho_5⟩
      refine ⟨_, _, (B_5 ++ (B_3 ++ ((r1, Obj.cells [(Value.slice (ga) (gl.length) (gc)), (Value.slice (ua) (ul.length) (uc)), (Value.slice (fa) (fl.length) (fc))].toArray 25) :: []))), he_5, hf_5, rfl, ?_⟩
      refine JG_br [3] (by kernel_rfl) rfl (List.forall_mem_cons.2 ⟨?_, nofun⟩)
      · skip
        refine JO_a rfl noMk (a_make (n := gl.length) TY_3 Try.underlying22 (by omega) (by omega)) (k := fun r6 hr6 => ?_)
        refine JG_q 10 rfl (by kernel_rfl) (q_build (cs := [_, _, _]) Try.zeroValue25 PL_25) (k := ?_)
        refine JG_q 11 rfl (by kernel_rfl) (q_build (cs := [_, _, _]) Try.zeroValue48 PL_48) (k := ?_)
        refine JG_br [12] (by kernel_rfl) rfl (List.forall_mem_cons.2 ⟨?_, nofun⟩)
        · skip
          refine JO_a rfl noMk (a_box (l := [_, _, _])) (k := fun r7 hr7 => ?_)
          refine JG_q 13 rfl (by kernel_rfl) (q_assign) (k := ?_)
          refine JG_nil (by kernel_rfl) _ ?_
          refine JL_nil ?_
          refine JX_seq ?_
          refine J_seq ?_
          refine J_planV ((r7, Obj.cells [(Value.slice (some ⟨r6, 0, none⟩) (gl.length) (gl.length)), (Value.slice (a2_3) (ul.length) (c2_3)), (Value.slice (a2_5) (fl.length) (c2_5))].toArray 48) :: (B_5 ++ (B_3 ++ ((r1, Obj.cells [(Value.slice (ga) (gl.length) (gc)), (Value.slice (ua) (ul.length) (uc)), (Value.slice (fa) (fl.length) (fc))].toArray 25) :: [])))) ((r6, Obj.cells (madeCells (Value.cells (Value.int .i64 (0))) (gl.length * 1)) 3) :: []) (by simpa using ((List.Perm.cons _ (List.Perm.refl _)).trans (List.Perm.swap _ _ _))) mixed 8 [(true, 0), (true, 1), (true, 2), (true, 3), (true, 4), (true, 5), (true, 6), (false, 7)] (by kernel_rfl) ?_
          refine JD_q (q_move) (k := ?_)
          refine JD_q (q_nil) (k := ?_)
          refine JD_q (q_fld FO_48_0) (k := ?_)
          refine JD_q (q_fld FO_25_0) (k := ?_)
          refine JD_q (q_load Try.isAgg22) (k := ?_)
          refine JD_q (q_fld FO_25_0) (k := ?_)
          refine JD_q (q_load Try.isAgg22) (k := ?_)
          refine JD_copy (n := gl.length) TY_3 Try.underlying22 eI_ok (OwnB.made (e := 3) (z := (Value.int .i64 (0))) (x0 := default) (r := r6) (n := gl.length) eI_ok rfl) (List.Perm.refl _) (SlJ.of_base hg) (by simp) rfl (kk := fun Bx3 hox3 => ?_)
          refine JD_nil ?_
          refine JL_eqL (L' := (Bx3 ++ ((r7, Obj.cells [(Value.slice (some ⟨r6, 0, none⟩) (gl.length) (gl.length)), (Value.slice (a2_3) (ul.length) (c2_3)), (Value.slice (a2_5) (fl.length) (c2_5))].toArray 48) :: (B_5 ++ (B_3 ++ ((r1, Obj.cells [(Value.slice (ga) (gl.length) (gc)), (Value.slice (ua) (ul.length) (uc)), (Value.slice (fa) (fl.length) (fc))].toArray 25) :: [])))))) (by simp only [List.append_nil, List.append_assoc, List.cons_append, List.nil_append]) ?_
          refine JL_nil ?_
          refine JX_seq ?_
          refine J_seq ?_
          refine J_reg ?_
          refine JL_q (q_move) (k := ?_)
          refine JL_q (q_assign) (k := ?_)
          refine JL_nil ?_
          refine JX_seq ?_
          refine J_ret ?_
          refine JX_ret Try.results26 (Res.tmp rfl Res.nil) (fun w1 hw1 => ?_)
          exact ⟨_, _, _, _, _, _, _, _, _, _, congrArg Ending.returned rfl, (fresh_pick4 (hw1.perm (((((List.Perm.append_left _ ((List.Perm.cons _ (List.Perm.refl _)).trans List.perm_middle.symm)).trans (perm_seg _ _ _)).trans ((List.Perm.append_left _ ((List.Perm.append_left _ ((List.Perm.cons _ (List.Perm.refl _)).trans List.perm_middle.symm)).trans (perm_seg _ _ _))).trans (perm_seg _ _ _))).trans ((List.Perm.append_left _ ((List.Perm.append_left _ (List.Perm.refl _)).trans (perm_seg _ _ _))).trans (perm_seg _ _ _))).trans ((List.Perm.append_left _ ((List.Perm.append_left _ ((List.Perm.append_left _ (List.Perm.refl _)).trans List.perm_middle)).trans List.perm_middle)).trans List.perm_middle)))), hox3, ho_3, ho_5⟩
theorem All_ok (w : World) {ga ua fa : Option Addr} {gc uc fc : Nat} {gl : List Int} {ul : List Bool} {fl : List Int} (hg : Sl w eI 1 ga gl) (hu : Sl w eB 1 ua ul) (hfr : Sl w eI 1 fa fl) (ng : gl.length ≤ 1000000) (nu : ul.length ≤ 1000000) (nf : fl.length ≤ 1000000) : Calls Try.prog 18 (List.toArray [(Value.agg [(Value.slice (ga) (gl.length) (gc)), (Value.slice (ua) (ul.length) (uc)), (Value.slice (fa) (fl.length) (fc))].toArray)]) w fun e w2 => ∃ a2 : Option Addr, ∃ c2 : Nat, ∃ B : Heap, e = .returned (Value.slice (a2) ((allD gl ul fl).length) (c2)) ∧ Fresh w w2 (B) ∧ OwnB eH 2 27 a2 c2 B (allD gl ul fl) := by
  refine enterD Try.func18 Try.ntmps18 (h := ?_)
  refine J_seq ?_
  refine J_reg ?_
  refine JL_a noMk (a_box (l := [_, _, _])) (k := fun r1 hr1 => ?_)
  refine JL_q (q_assign) (k := ?_)
  refine JL_nil ?_
  refine JX_seq ?_
  refine J_seq ?_
  refine J_seq ?_
  refine J_reg ?_
  refine JL_q (q_loadA Try.isAgg25 Try.sizeOf25) (k := ?_)
  refine JL_v (args := [(Value.agg [(Value.slice (ga) (gl.length) (gc)), (Value.slice (ua) (ul.length) (uc)), (Value.slice (fa) (fl.length) (fc))].toArray)]) (c_callA Try.call16) (fun w1 hw1 => Right_ok w1 (hg := (SlJ.of_base hg) w1 hw1) (hu := (SlJ.of_base hu) w1 hw1) (hfr := (SlJ.of_base hfr) w1 hw1) (ng := by omega) (nu := by omega) (nf := by omega)) (k := ?_)
  refine JL_q (q_not) (k := ?_)
  refine JL_nil ?_
  refine JX_seq ?_
  refine J_cond rfl (fun hq1 => ?_) (fun hq1 => ?_)
  · first
    | (exfalso; omega)
    |
      refine J_seq ?_
      refine J_reg ?_
      refine JL_q (q_assign) (k := ?_)
      refine JL_nil ?_
      refine JX_seq ?_
      refine J_ret ?_
      refine JX_seq_ret ?_
      refine JX_retD [] (List.Perm.refl _) Try.results18 (Res.tmp rfl Res.nil) (fun w1 hw1 => ?_)
      have hno := all_no (gl := gl) (ul := ul) (fl := fl) (by simpa using ‹(!rightB gl ul fl) = true›)
      rw [hno]
      exact ⟨none, 0, [], congrArg Ending.returned rfl, hw1.fresh_out.sub (List.nil_sublist _), OwnB.nil⟩
  · first
    | (exfalso; omega)
    |
      refine J_skip ?_
      refine JX_seq ?_
      refine J_seq ?_
      refine J_reg ?_
      refine JL_a noMk (a_alloc (l := [_]) Try.zeroValue38) (k := fun r2 hr2 => ?_)
      refine JL_nil ?_
      refine JX_seq ?_
      refine J_seq ?_
      refine J_reg ?_
      refine JL_q (q_loadA Try.isAgg25 Try.sizeOf25) (k := ?_)
      refine JL_q (q_build (cs := [_, _, _]) Try.zeroValue48 PL_48) (k := ?_)
      refine JL_a noMk (a_box (l := [_, _, _])) (k := fun r3 hr3 => ?_)
      refine JL_q (q_func) (k := ?_)
      refine JL_q (q_assign) (k := ?_)
      refine JL_nil ?_
      refine JX_seq ?_
      refine J_seq ?_
      refine J_seq ?_
      refine J_reg ?_
      refine JL_q (q_move) (k := ?_)
      refine JL_p (args := [(Value.pointer (some ⟨r3, 0, none⟩))]) (c_callA Try.call33) (fun w1 hw1 => used_ok w1 ) (k := ?_)
      rintro w1_1 e1_1 w2_1 hw1_1 ⟨r1_1, he_1, hf_1⟩
      refine ⟨_, ((r1_1, Obj.cells [(Value.pointer (some ⟨r3, 0, none⟩))].toArray 45) :: ((r3, Obj.cells [(Value.slice (ga) (gl.length) (gc)), (Value.slice (ua) (ul.length) (uc)), (Value.slice (fa) (fl.length) (fc))].toArray 48) :: ((r2, Obj.cells [(Value.slice (none) (0) (0))].toArray 38) :: ((r1, Obj.cells [(Value.slice (ga) (gl.length) (gc)), (Value.slice (ua) (ul.length) (uc)), (Value.slice (fa) (fl.length) (fc))].toArray 25) :: [])))), he_1, hw1_1.fresh hf_1, ?_⟩
      have hlt_1 := fun p hp => Nat.lt_of_lt_of_le (hw1_1.lt (p := p) hp) (hf_1.new (r1_1, _) List.mem_cons_self)
      have hnd_1 := hw1_1.nd
      refine JL_nil ?_
      refine JX_seq ?_
      refine J_block ?_
      refine J_rangeFunc (σ := Option Addr × Nat × Heap) (τ := Empty) (fun i s => ((r2, Obj.cells [(Value.slice (s.1) (i) (s.2.1))].toArray 38) :: s.2.2)) ((r1_1, Obj.cells [(Value.pointer (some ⟨r3, 0, none⟩))].toArray 45) :: ((r3, Obj.cells [(Value.slice (ga) (gl.length) (gc)), (Value.slice (ua) (ul.length) (uc)), (Value.slice (fa) (fl.length) (fc))].toArray 48) :: ((r1, Obj.cells [(Value.slice (ga) (gl.length) (gc)), (Value.slice (ua) (ul.length) (uc)), (Value.slice (fa) (fl.length) (fc))].toArray 25) :: []))) (fun i s => OwnB eH 2 27 s.1 s.2.1 s.2.2 ((hnd gl ul).take i)) (((none, 0, []) : Option Addr × Nat × Heap)) (fun x => nomatch x) (fun _ => False) (fun _ => Code.skip) noMk rfl Try.call40 ((List.Perm.cons _ ((List.Perm.cons _ (List.Perm.refl _)).trans (List.Perm.swap _ _ _))).trans (List.Perm.swap _ _ _)) (OwnB.nil) (used_iter (r := r3) (r1 := r1_1) (ga := ga) (ua := ua) (fa := fa) (gc := gc) (uc := uc) (fc := fc) (gl := gl) (ul := ul) (fl := fl) nu (right_le (fl := fl) (by simpa using ‹(!rightB gl ul fl) = false›))) (fun w1 hw1 => ⟨hw1.own (r1_1, _) (by repeat (first | exact List.mem_cons_self | apply List.mem_cons_of_mem | apply List.mem_append_right)), hw1.own (r3, _) (by repeat (first | exact List.mem_cons_self | apply List.mem_cons_of_mem | apply List.mem_append_right)), hg.ext hw1.ext_out, hu.ext hw1.ext_out⟩) (fun w1 o h => ctxU_alloc h o) (fun k h1 h2 => ⟨fun e => h2 (by subst e; simp [keys]), fun e => h2 (by subst e; simp [keys]), hg.notIn eI_ok h1, hu.notIn eB_ok h1⟩) (fun p hp => by
          have hp2 := List.mem_singleton.1 hp
          subst hp2
          exact ⟨fun e => by have := hlt_1 (r2, _) (by repeat (first | exact List.mem_cons_self | apply List.mem_cons_of_mem | apply List.mem_append_right)); simp only at this e; omega, fun e => by simp only at e; have hh := hnd_1; simp [e] at hh, hg.notIn eI_ok hr2, hu.notIn eB_ok hr2⟩) rfl (usedE_len) ?_ ?_ ?_
      · intro l rD r0 i vs s wy Mkr hl hi hs hbs hkr R hA hB
        obtain ⟨j, hj, rfl⟩ := usedE_at hi
        have hib := usedE_bd hi
        skip
        refine J_reg ?_
        refine JL_a hkr (a_alloc (l := [_, _]) Try.zeroValue27) (k := fun r4 hr4 => ?_)
        refine JL_s (w_store (l' := [_, _]) Try.sizeOf27) (k := ?_)
        refine JL_nil ?_
        refine JX_begin ((List.Perm.cons _ (List.Perm.refl _)).trans (List.Perm.swap _ _ _)) ?_
        refine J_block ?_
        refine J_reg ?_
        refine JL_q (q_load Try.isAgg38) (k := ?_)
        refine JL_q (q_loadA Try.isAgg27 Try.sizeOf27) (k := ?_)
        refine JL_a hkr (a_bslice (l := [_, _]) Try.runUnderlying38 Try.sizeOf27 Try.zeroValue27) (k := fun r5 hr5 => ?_)
        refine JL_append ((hnd gl ul).take (i + 1)) (hnd_step hj) TY_27 Try.underlying38 eH_ok hs ((List.Perm.cons _ ((List.Perm.cons _ ((List.Perm.cons _ ((List.Perm.cons _ (List.Perm.refl _)).trans List.perm_middle.symm)).trans List.perm_middle.symm)).trans List.perm_middle.symm)).trans List.perm_middle.symm) (SlJ.lit (xs := [((((j : Nat) : Int), (gl.getD j default)) : Int × Int)]) eH_ok) ⟨by omega, by omega⟩ (n := i) (m := 1) (hn := by exact hnd_len hj) (k := fun ax1 cx1 Bx1 hox1 => ?_)
        refine JL_alter 19 (Value.slice (ax1) (i + 1) (cx1)) rfl (congrArg (fun q => Value.slice _ q _) (by exact hnd_len2 hj)) ?_
        refine JL_s (w_store (l' := [_]) Try.sizeOf38) (k := ?_)
        refine JL_nil ?_
        refine JX_block ?_
        refine JX_permL ((l, loopAt r0 .busy none) :: ((r2, Obj.cells [(Value.slice (ax1) (i + 1) (cx1))].toArray 38) :: (Bx1 ++ ((rD, Obj.deferred (some [])) :: ((r1_1, Obj.cells [(Value.pointer (some ⟨r3, 0, none⟩))].toArray 45) :: ((r3, Obj.cells [(Value.slice (ga) (gl.length) (gc)), (Value.slice (ua) (ul.length) (uc)), (Value.slice (fa) (fl.length) (fc))].toArray 48) :: ((r1, Obj.cells [(Value.slice (ga) (gl.length) (gc)), (Value.slice (ua) (ul.length) (uc)), (Value.slice (fa) (fl.length) (fc))].toArray 25) :: ((r5, Obj.cells [(Value.int .i64 (((j : Nat) : Int))), (Value.int .i64 ((gl.getD j default)))].toArray 27) :: ((r4, Obj.cells [(Value.int .i64 (((j : Nat) : Int))), (Value.int .i64 ((gl.getD j default)))].toArray 27) :: []))))))))) ((((((((List.Perm.append_left _ ((List.Perm.cons _ ((List.Perm.cons _ ((List.Perm.cons _ ((List.Perm.cons _ ((List.Perm.cons _ ((List.Perm.cons _ ((List.Perm.cons _ (List.Perm.refl _)).trans (List.Perm.swap _ _ _))).trans (List.Perm.swap _ _ _))).trans (List.Perm.swap _ _ _))).trans (List.Perm.swap _ _ _))).trans (List.Perm.swap _ _ _))).trans (List.Perm.swap _ _ _))).trans (List.Perm.swap _ _ _))).trans List.perm_middle).trans ((List.Perm.cons _ ((List.Perm.append_left _ ((List.Perm.cons _ ((List.Perm.cons _ ((List.Perm.cons _ ((List.Perm.cons _ ((List.Perm.cons _ ((List.Perm.cons _ (List.Perm.refl _)).trans (List.Perm.swap _ _ _))).trans (List.Perm.swap _ _ _))).trans (List.Perm.swap _ _ _))).trans (List.Perm.swap _ _ _))).trans (List.Perm.swap _ _ _))).trans (List.Perm.swap _ _ _))).trans List.perm_middle)).trans (List.Perm.swap _ _ _))).trans ((List.Perm.cons _ ((List.Perm.cons _ ((List.Perm.append_left _ ((List.Perm.cons _ ((List.Perm.cons _ ((List.Perm.cons _ ((List.Perm.cons _ ((List.Perm.cons _ (List.Perm.refl _)).trans (List.Perm.swap _ _ _))).trans (List.Perm.swap _ _ _))).trans (List.Perm.swap _ _ _))).trans (List.Perm.swap _ _ _))).trans (List.Perm.swap _ _ _))).trans List.perm_middle)).trans (List.Perm.swap _ _ _))).trans (List.Perm.swap _ _ _))).trans ((List.Perm.cons _ ((List.Perm.cons _ ((List.Perm.cons _ ((List.Perm.append_left _ ((List.Perm.cons _ ((List.Perm.cons _ ((List.Perm.cons _ ((List.Perm.cons _ (List.Perm.refl _)).trans (List.Perm.swap _ _ _))).trans (List.Perm.swap _ _ _))).trans (List.Perm.swap _ _ _))).trans (List.Perm.swap _ _ _))).trans List.perm_middle)).trans (List.Perm.swap _ _ _))).trans (List.Perm.swap _ _ _))).trans (List.Perm.swap _ _ _))).trans ((List.Perm.cons _ ((List.Perm.cons _ ((List.Perm.cons _ ((List.Perm.cons _ (List.Perm.refl _)).trans List.perm_middle.symm)).trans List.perm_middle.symm)).trans List.perm_middle.symm)).trans List.perm_middle.symm)).trans ((List.Perm.append_left _ ((List.Perm.cons _ ((List.Perm.cons _ ((List.Perm.cons _ ((List.Perm.cons _ ((List.Perm.cons _ ((List.Perm.cons _ ((List.Perm.cons _ (List.Perm.refl _)).trans (List.Perm.swap _ _ _))).trans (List.Perm.swap _ _ _))).trans (List.Perm.swap _ _ _))).trans (List.Perm.swap _ _ _))).trans (List.Perm.swap _ _ _))).trans (List.Perm.swap _ _ _))).trans (List.Perm.swap _ _ _))).trans List.perm_middle)).trans ((List.Perm.cons _ ((List.Perm.append_left _ ((List.Perm.cons _ ((List.Perm.cons _ ((List.Perm.cons _ ((List.Perm.cons _ ((List.Perm.cons _ (List.Perm.refl _)).trans (List.Perm.swap _ _ _))).trans (List.Perm.swap _ _ _))).trans (List.Perm.swap _ _ _))).trans (List.Perm.swap _ _ _))).trans (List.Perm.swap _ _ _))).trans List.perm_middle)).trans (List.Perm.swap _ _ _))) ?_
        refine JX_subL ((l, loopAt r0 .busy none) :: ((r2, Obj.cells [(Value.slice (ax1) (i + 1) (cx1))].toArray 38) :: (Bx1 ++ ((rD, Obj.deferred (some [])) :: ((r1_1, Obj.cells [(Value.pointer (some ⟨r3, 0, none⟩))].toArray 45) :: ((r3, Obj.cells [(Value.slice (ga) (gl.length) (gc)), (Value.slice (ua) (ul.length) (uc)), (Value.slice (fa) (fl.length) (fc))].toArray 48) :: ((r1, Obj.cells [(Value.slice (ga) (gl.length) (gc)), (Value.slice (ua) (ul.length) (uc)), (Value.slice (fa) (fl.length) (fc))].toArray 25) :: []))))))) (List.Sublist.cons_cons _ (List.Sublist.cons_cons _ (List.Sublist.append (List.Sublist.refl _) (List.Sublist.cons_cons _ (List.Sublist.cons_cons _ (List.Sublist.cons_cons _ (List.Sublist.cons_cons _ (List.nil_sublist _)))))))) ?_
        exact JX_round (List.Perm.refl _) (fun w1 hw1 => hA ((ax1, cx1, Bx1)) w1 (hox1) hw1)
      · intro l rD r0 s hs
        refine JX_block ?_
        refine JX_seq ?_
        refine J_seq ?_
        refine J_reg ?_
        refine JL_q (q_load Try.isAgg38) (k := ?_)
        refine JL_q (q_assign) (k := ?_)
        refine JL_nil ?_
        refine JX_seq ?_
        refine J_ret ?_
        refine JX_retD [rD] ((List.Perm.cons _ ((List.Perm.cons _ ((List.Perm.append_left _ (List.Perm.refl _)).trans List.perm_middle)).trans (List.Perm.swap _ _ _))).trans (List.Perm.swap _ _ _)) Try.results18 (Res.tmp rfl Res.nil) (fun w1 hw1 => ?_)
        exact ⟨s.1, s.2.1, s.2.2, congrArg Ending.returned (congrArg (fun q => Value.slice _ q _) (all_len (by simpa using ‹(!rightB gl ul fl) = false›))), (hw1.perm ((List.Perm.cons _ ((List.Perm.cons _ (List.Perm.refl _)).trans List.perm_middle.symm)).trans List.perm_middle.symm)).fresh_out.sub (List.sublist_append_left _ _), all_own (by simpa using ‹(!rightB gl ul fl) = false›) hs⟩
      · intro l rD r0 t; exact nomatch t
theorem Valid_ok (w : World) {ga ua fa : Option Addr} {gc uc fc : Nat} {gl : List Int} {ul : List Bool} {fl : List Int} {h1 h2 : Int} (hg : Sl w eI 1 ga gl) (hu : Sl w eB 1 ua ul) (hfr : Sl w eI 1 fa fl) (ng : gl.length ≤ 1000000) (nu : ul.length ≤ 1000000) (nf : fl.length ≤ 1000000) : Val Try.prog 17 [(Value.agg [(Value.slice (ga) (gl.length) (gc)), (Value.slice (ua) (ul.length) (uc)), (Value.slice (fa) (fl.length) (fc))].toArray), (Value.agg [(Value.int .i64 (h1)), (Value.int .i64 (h2))].toArray)] w (Value.bool (decide ((h1, h2) ∈ allD gl ul fl))) := by
  have hal := allD_le (gl := gl) (ul := ul) (fl := fl)
  refine enter Try.func17 Try.ntmps17 (h := ?_)
  refine J_seq ?_
  refine J_reg ?_
  refine JL_a noMk (a_box (l := [_, _, _])) (k := fun r1 hr1 => ?_)
  refine JL_a noMk (a_box (l := [_, _])) (k := fun r2 hr2 => ?_)
  refine JL_q (q_assign) (k := ?_)
  refine JL_nil ?_
  refine JX_seq ?_
  refine J_seq ?_
  refine J_seq ?_
  refine J_reg ?_
  refine JL_q (q_loadA Try.isAgg25 Try.sizeOf25) (k := ?_)
  refine JL_p (args := [(Value.agg [(Value.slice (ga) (gl.length) (gc)), (Value.slice (ua) (ul.length) (uc)), (Value.slice (fa) (fl.length) (fc))].toArray)]) (c_callA Try.call18) (fun w1 hw1 => All_ok w1 (hg := (SlJ.of_base hg) w1 hw1) (hu := (SlJ.of_base hu) w1 hw1) (hfr := (SlJ.of_base hfr) w1 hw1) (ng := by omega) (nu := by omega) (nf := by omega)) (k := ?_)
  rintro w1_1 e1_1 w2_1 hw1_1 ⟨a2_1, c2_1, B_1, he_1, hf_1, ho_1⟩
  refine ⟨_, (B_1 ++ ((r2, Obj.cells [(Value.int .i64 (h1)), (Value.int .i64 (h2))].toArray 27) :: ((r1, Obj.cells [(Value.slice (ga) (gl.length) (gc)), (Value.slice (ua) (ul.length) (uc)), (Value.slice (fa) (fl.length) (fc))].toArray 25) :: []))), he_1, hw1_1.fresh hf_1, ?_⟩
  refine JL_q (q_lenS Try.runUnderlying38) (k := ?_)
  refine JL_q (q_move) (k := ?_)
  refine JL_nil ?_
  refine JX_seq ?_
  refine J_block ?_
  refine J_loop1 (σ1 := Nat) (fun k => (B_1 ++ ((r2, Obj.cells [(Value.int .i64 (h1)), (Value.int .i64 (h2))].toArray 27) :: ((r1, Obj.cells [(Value.slice (ga) (gl.length) (gc)), (Value.slice (ua) (ul.length) (uc)), (Value.slice (fa) (fl.length) (fc))].toArray 25) :: [])))) (fun k => [(3, (Value.pointer (some ⟨r2, 0, none⟩))), (8, (Value.slice (a2_1) ((allD gl ul fl).length) (c2_1))), (9, (Value.int .i64 ((((allD gl ul fl).length : Nat) : Int)))), (10, (Value.int .i64 (((k : Nat) : Int))))]) (fun k => k ≤ (allD gl ul fl).length ∧ ¬ (h1, h2) ∈ (allD gl ul fl).take k) (fun k => (allD gl ul fl).length - k) (0) ?_ (.cons (t := 3) rfl (.cons (t := 8) rfl (.cons (t := 9) rfl (.cons (t := 10) rfl .nil)))) (List.Perm.refl _) ?_
  · exact ⟨by omega, by simp⟩
  · rintro k ⟨hk, hni⟩
    refine J_seq ?_
    refine J_reg ?_
    refine JL_q (q_lss) (k := ?_)
    refine JL_nil ?_
    refine JX_seq ?_
    refine J_seq ?_
    refine J_dec rfl (fun hq3 => ?_) (fun hq3 => ?_)
    · first
      | (exfalso; omega)
      |
        refine J_skip ?_
        refine JX_seq ?_
        refine J_seq ?_
        refine J_block ?_
        refine J_seq ?_
        refine J_reg ?_
        refine JL_q (q_idx (n := (allD gl ul fl).length) Try.runUnderlying38 Try.sizeOf27 (k) (ho_1.slj eH_ok) (gD (by omega)) (by first | rfl | simp)) (k := ?_)
        refine JL_q (q_loadEA Try.isAgg27 Try.sizeOf27 (k) (ho_1.slj eH_ok) (gD (by omega))) (k := ?_)
        refine JL_a noMk (a_alloc (l := [_, _]) Try.zeroValue27) (k := fun r3 hr3 => ?_)
        refine JL_s (w_store (l' := [_, _]) Try.sizeOf27) (k := ?_)
        refine JL_nil ?_
        refine JX_seq ?_
        refine J_seq ?_
        refine J_reg ?_
        refine JL_q (q_loadA Try.isAgg27 Try.sizeOf27) (k := ?_)
        refine JL_q (q_loadA Try.isAgg27 Try.sizeOf27) (k := ?_)
        refine JL_q (q_eqS (EQo_27 _ _ _ _ _ _)) (k := ?_)
        refine JL_nil ?_
        refine JX_seq ?_
        refine J_dec rfl (fun hq4 => ?_) (fun hq4 => ?_)
        · first
          | (exfalso; omega)
          |
            refine J_seq ?_
            refine J_reg ?_
            refine JL_q (q_assign) (k := ?_)
            refine JL_nil ?_
            refine JX_seq ?_
            refine J_ret ?_
            refine JX_block_ret ?_
            refine JX_seq_ret ?_
            refine JX_inv_ret ?_
            refine JX_block_ret ?_
            refine JX_seq_ret ?_
            refine JX_ret Try.results17 (Res.tmp rfl Res.nil) (fun w1 hw1 => ?_)
            exact ⟨congrArg Ending.returned (congrArg Value.bool (by first | exact mem_hit (k := k) (by omega) ‹_ ∧ _› | exact mem_none (k := k) (by omega) hni)), hw1.ext_out⟩
        · first
          | (exfalso; omega)
          |
            refine J_skip ?_
            refine JX_block ?_
            refine JX_seq ?_
            refine J_reg ?_
            refine JL_q (q_add) (k := ?_)
            refine JL_q (q_move) (k := ?_)
            refine JL_nil ?_
            refine JX_permL (B_1 ++ ((r2, Obj.cells [(Value.int .i64 (h1)), (Value.int .i64 (h2))].toArray 27) :: ((r1, Obj.cells [(Value.slice (ga) (gl.length) (gc)), (Value.slice (ua) (ul.length) (uc)), (Value.slice (fa) (fl.length) (fc))].toArray 25) :: ((r3, Obj.cells [(Value.int .i64 (((allD (gl) (ul) (fl)).getD k default).1)), (Value.int .i64 (((allD (gl) (ul) (fl)).getD k default).2))].toArray 27) :: [])))) ((((List.Perm.cons _ ((List.Perm.append_left _ ((List.Perm.cons _ (List.Perm.refl _)).trans (List.Perm.swap _ _ _))).trans List.perm_middle)).trans (List.Perm.swap _ _ _)).trans ((List.Perm.cons _ ((List.Perm.cons _ ((List.Perm.append_left _ (List.Perm.refl _)).trans List.perm_middle)).trans (List.Perm.swap _ _ _))).trans (List.Perm.swap _ _ _))).trans ((List.Perm.cons _ ((List.Perm.cons _ ((List.Perm.cons _ (List.Perm.refl _)).trans List.perm_middle.symm)).trans List.perm_middle.symm)).trans List.perm_middle.symm)) ?_
            refine JX_subL (B_1 ++ ((r2, Obj.cells [(Value.int .i64 (h1)), (Value.int .i64 (h2))].toArray 27) :: ((r1, Obj.cells [(Value.slice (ga) (gl.length) (gc)), (Value.slice (ua) (ul.length) (uc)), (Value.slice (fa) (fl.length) (fc))].toArray 25) :: []))) (List.Sublist.append (List.Sublist.refl _) (List.Sublist.cons_cons _ (List.Sublist.cons_cons _ (List.nil_sublist _)))) ?_
            refine JX_inv1 (k + 1) ?_ ?_ (.cons (t := 3) rfl (.cons (t := 8) rfl (.cons (t := 9) rfl (.cons (t := 10) rfl .nil)))) (List.Perm.refl _)
            · exact ⟨by omega, notmem_step (by omega) hni ‹¬ (_ ∧ _)›⟩
            · omega
    · first
      | (exfalso; omega)
      |
        refine J_exit ?_
        refine JX_seq_exit ?_
        refine JX_inv_exit ?_
        refine JX_block_hit ?_
        refine JX_seq ?_
        refine J_seq ?_
        refine J_reg ?_
        refine JL_q (q_assign) (k := ?_)
        refine JL_nil ?_
        refine JX_seq ?_
        refine J_ret ?_
        refine JX_ret Try.results17 (Res.tmp rfl Res.nil) (fun w1 hw1 => ?_)
        exact ⟨congrArg Ending.returned (congrArg Value.bool (by first | exact mem_hit (k := k) (by omega) ‹_ ∧ _› | exact mem_none (k := k) (by omega) hni)), hw1.ext_out⟩
theorem Take_ok (w : World) {ga ua fa : Option Addr} {gc uc fc : Nat} {gl : List Int} {ul : List Bool} {fl : List Int} (hg : Sl w eI 1 ga gl) (hu : Sl w eB 1 ua ul) (hfr : Sl w eI 1 fa fl) (ng : gl.length ≤ 1000000) (nu : ul.length ≤ 1000000) (nf : fl.length ≤ 1000000) : Calls Try.prog 11 (List.toArray [(Value.agg [(Value.slice (ga) (gl.length) (gc)), (Value.slice (ua) (ul.length) (uc)), (Value.slice (fa) (fl.length) (fc))].toArray)]) w fun e w2 => ∃ a1 : Option Addr, ∃ c1 : Nat, ∃ a2 : Option Addr, ∃ c2 : Nat, ∃ a3 : Option Addr, ∃ c3 : Nat, ∃ B : Heap, e = .returned (Value.tuple [(Value.agg [(Value.slice (a1) (((takeD gl ul fl).1.1).length) (c1)), (Value.slice (a2) (((takeD gl ul fl).1.2.1).length) (c2)), (Value.slice (a3) (((takeD gl ul fl).1.2.2).length) (c3))].toArray), (Value.agg [(Value.int .i64 ((takeD gl ul fl).2.1.1)), (Value.int .i64 ((takeD gl ul fl).2.1.2))].toArray), (Value.int .i64 ((takeD gl ul fl).2.2))].toArray) ∧ Fresh w w2 (B) ∧ SlB B eI 1 a1 ((takeD gl ul fl).1.1) ∧ SlB B eB 1 a2 ((takeD gl ul fl).1.2.1) ∧ SlB B eI 1 a3 ((takeD gl ul fl).1.2.2) := by
  refine enter Try.func11 Try.ntmps11 (h := ?_)
  refine J_seq ?_
  refine J_reg ?_
  refine JL_a noMk (a_box (l := [_, _, _])) (k := fun r1 hr1 => ?_)
  refine JL_a noMk (a_alloc (l := [_, _, _]) Try.zeroValue25) (k := fun r2 hr2 => ?_)
  refine JL_a noMk (a_alloc (l := [_, _]) Try.zeroValue27) (k := fun r3 hr3 => ?_)
  refine JL_q (q_assign) (k := ?_)
  refine JL_nil ?_
  refine JX_seq ?_
  refine J_seq ?_
  refine J_seq ?_
  refine J_reg ?_
  refine JL_q (q_loadA Try.isAgg25 Try.sizeOf25) (k := ?_)
  refine JL_v (args := [(Value.agg [(Value.slice (ga) (gl.length) (gc)), (Value.slice (ua) (ul.length) (uc)), (Value.slice (fa) (fl.length) (fc))].toArray)]) (c_callA Try.call16) (fun w1 hw1 => Right_ok w1 (hg := (SlJ.of_base hg) w1 hw1) (hu := (SlJ.of_base hu) w1 hw1) (hfr := (SlJ.of_base hfr) w1 hw1) (ng := by omega) (nu := by omega) (nf := by omega)) (k := ?_)
  refine JL_q (q_not) (k := ?_)
  refine JL_nil ?_
  refine JX_seq ?_
  refine J_cond rfl (fun hq1 => ?_) (fun hq1 => ?_)
  · first
    | (exfalso; omega)
    |
      refine J_seq ?_
      refine J_reg ?_
      refine JL_q (q_build (cs := [_, _, _]) Try.zeroValue25 PL_25) (k := ?_)
      refine JL_q (q_build (cs := [_, _]) Try.zeroValue27 PL_27) (k := ?_)
      refine JL_s (w_store (l' := [_, _, _]) Try.sizeOf25) (k := ?_)
      refine JL_s (w_store (l' := [_, _]) Try.sizeOf27) (k := ?_)
      refine JL_q (q_assign) (k := ?_)
      refine JL_nil ?_
      refine JX_seq ?_
      refine J_ret ?_
      refine JX_seq_ret ?_
      refine JX_ret Try.results11 (Res.agg Try.isAgg25 Try.sizeOf25 rfl (by repeat (first | exact List.mem_cons_self | apply List.mem_cons_of_mem | apply List.mem_append_right)) rfl (Res.agg Try.isAgg27 Try.sizeOf27 rfl (by repeat (first | exact List.mem_cons_self | apply List.mem_cons_of_mem | apply List.mem_append_right)) rfl (Res.tmp rfl Res.nil))) (fun w1 hw1 => ?_)
      rw [take_no (gl := gl) (ul := ul) (fl := fl) (by simpa using ‹(!rightB gl ul fl) = true›)]
      exact ⟨none, 0, none, 0, none, 0, [], congrArg Ending.returned rfl, hw1.fresh_out.sub (List.nil_sublist _), SlB.nil, SlB.nil, SlB.nil⟩
  · first
    | (exfalso; omega)
    |
      refine J_skip ?_
      refine JX_seq ?_
      refine J_seq ?_
      refine J_reg ?_
      refine JL_q (q_loadA Try.isAgg25 Try.sizeOf25) (k := ?_)
      refine JL_p (args := [(Value.agg [(Value.slice (ga) (gl.length) (gc)), (Value.slice (ua) (ul.length) (uc)), (Value.slice (fa) (fl.length) (fc))].toArray)]) (c_callA Try.call26) (fun w1 hw1 => own_ok w1 (hg := (SlJ.of_base hg) w1 hw1) (hu := (SlJ.of_base hu) w1 hw1) (hfr := (SlJ.of_base hfr) w1 hw1) (ng := by omega) (nu := by omega) (nf := by omega)) (k := ?_)
      rintro w1_1 e1_1 w2_1 hw1_1 ⟨r2_1, ga2_1, gc2_1, B1_1, ua2_1, uc2_1, B2_1, fa2_1, fc2_1, B3_1, he_1, hf_1, ho1_1, ho2_1, ho3_1⟩
      refine ⟨_, ((r2_1, Obj.cells [(Value.slice (ga2_1) (gl.length) (gc2_1)), (Value.slice (ua2_1) (ul.length) (uc2_1)), (Value.slice (fa2_1) (fl.length) (fc2_1))].toArray 48) :: (B1_1 ++ (B2_1 ++ (B3_1 ++ ((r3, Obj.cells [(Value.int .i64 (0)), (Value.int .i64 (0))].toArray 27) :: ((r2, Obj.cells [(Value.slice (none) (0) (0)), (Value.slice (none) (0) (0)), (Value.slice (none) (0) (0))].toArray 25) :: ((r1, Obj.cells [(Value.slice (ga) (gl.length) (gc)), (Value.slice (ua) (ul.length) (uc)), (Value.slice (fa) (fl.length) (fc))].toArray 25) :: []))))))), he_1, (hw1_1.fresh hf_1).perm (List.Perm.of_eq (by simp only [List.append_assoc, List.cons_append, List.nil_append])), ?_⟩
      refine JL_q (q_assign) (k := ?_)
      refine JL_nil ?_
      refine JX_seq ?_
      refine J_seq ?_
      refine J_reg ?_
      refine JL_q (q_move) (k := ?_)
      refine JL_q (q_nil) (k := ?_)
      refine JL_q (q_fld FO_48_0) (k := ?_)
      refine JL_q (q_fld FO_25_2) (k := ?_)
      refine JL_q (q_load Try.isAgg22) (k := ?_)
      refine JL_q (q_lenS Try.runUnderlying22) (k := ?_)
      refine JL_q (q_sub) (k := ?_)
      refine JL_q (q_assign) (k := ?_)
      refine JL_nil ?_
      refine JX_seq ?_
      refine J_seq ?_
      refine J_seq ?_
      refine J_plan mixed 20 [(true, 0), (true, 1), (true, 2), (true, 3), (true, 4), (true, 5), (true, 6), (true, 7), (true, 8), (true, 9), (true, 10), (true, 11), (true, 12), (true, 13), (true, 14), (true, 15), (true, 16), (true, 17), (true, 18), (true, 19)] (by kernel_rfl) ?_
      refine JD_q (q_move) (k := ?_)
      refine JD_q (q_lss) (k := ?_)
      refine JD_q (q_move) (k := ?_)
      refine JD_dec 24 rfl (fun hq2 => ?_) (fun hq2 => ?_)
      · first
        | (exfalso; omega)
        |
          refine JD_skip (k := ?_)
          refine JD_skip (k := ?_)
          refine JD_skip (k := ?_)
          refine JD_skip (k := ?_)
          refine JD_skip (k := ?_)
          refine JD_skip (k := ?_)
          refine JD_skip (k := ?_)
          refine JD_skip (k := ?_)
          refine JD_skip (k := ?_)
          refine JD_skip (k := ?_)
          refine JD_skip (k := ?_)
          refine JD_skip (k := ?_)
          refine JD_skip (k := ?_)
          refine JD_skip (k := ?_)
          refine JD_skip (k := ?_)
          refine JD_skip (k := ?_)
          refine JD_q (q_pickT) (k := ?_)
          refine JD_nil ?_
          refine JL_nil ?_
          refine JX_seq ?_
          refine J_true rfl ?_
          refine J_seq ?_
          refine J_reg ?_
          refine JL_q (q_build (cs := [_, _, _]) Try.zeroValue25 PL_25) (k := ?_)
          refine JL_q (q_build (cs := [_, _]) Try.zeroValue27 PL_27) (k := ?_)
          refine JL_s (w_store (l' := [_, _, _]) Try.sizeOf25) (k := ?_)
          refine JL_s (w_store (l' := [_, _]) Try.sizeOf27) (k := ?_)
          refine JL_q (q_assign) (k := ?_)
          refine JL_nil ?_
          refine JX_seq ?_
          refine J_ret ?_
          refine JX_seq_ret ?_
          refine JX_ret Try.results11 (Res.agg Try.isAgg25 Try.sizeOf25 rfl (by repeat (first | exact List.mem_cons_self | apply List.mem_cons_of_mem | apply List.mem_append_right)) rfl (Res.agg Try.isAgg27 Try.sizeOf27 rfl (by repeat (first | exact List.mem_cons_self | apply List.mem_cons_of_mem | apply List.mem_append_right)) rfl (Res.tmp rfl Res.nil))) (fun w1 hw1 => ?_)
          rw [take_full (gl := gl) (ul := ul) (fl := fl) (by simpa using ‹(!rightB gl ul fl) = false›) (by first | exact .inl (by omega) | exact .inr ‹_›)]
          exact ⟨none, 0, none, 0, none, 0, [], congrArg Ending.returned rfl, hw1.fresh_out.sub (List.nil_sublist _), SlB.nil, SlB.nil, SlB.nil⟩
      · first
        | (exfalso; omega)
        |
          refine JD_qg (q_move) (k := ?_)
          refine JD_qg (q_nil) (k := ?_)
          refine JD_qg (q_fld FO_48_0) (k := ?_)
          refine JD_qg (q_fld FO_25_0) (k := ?_)
          refine JD_qg (q_load Try.isAgg22) (k := ?_)
          refine JD_qg (q_move) (k := ?_)
          refine JD_qg (q_nil) (k := ?_)
          refine JD_qg (q_fld FO_48_0) (k := ?_)
          refine JD_qg (q_fld FO_25_2) (k := ?_)
          refine JD_qg (q_load Try.isAgg22) (k := ?_)
          refine JD_qg (q_move) (k := ?_)
          refine JD_qg (q_idx (n := fl.length) Try.runUnderlying22 Try.sizeOf3 (((((fl.length : Nat) : Int) - 1)).toNat) (ho3_1.slj eI_ok) (gD (by first | omega | (simp only [List.length_set]; omega))) (by first | rfl | simp)) (k := ?_)
          refine JD_qg (q_loadE Try.isAgg3 (((((fl.length : Nat) : Int) - 1)).toNat) 0 (ho3_1.slj eI_ok) (gD (by first | omega | (simp only [List.length_set]; omega)))) (k := ?_)
          have hat := right_last (gl := gl) (ul := ul) (fl := fl) (by simpa using ‹(!rightB gl ul fl) = false›) (by omega)
          refine JD_qg (q_idx (n := gl.length) Try.runUnderlying22 Try.sizeOf3 (((fl.getD (((((fl.length : Nat) : Int) - 1)).toNat) default)).toNat) (ho1_1.slj eI_ok) (gD (by first | omega | (simp only [List.length_set]; omega))) (by first | rfl | simp)) (k := ?_)
          refine JD_qg (q_loadE Try.isAgg3 (((fl.getD (((((fl.length : Nat) : Int) - 1)).toNat) default)).toNat) 0 (ho1_1.slj eI_ok) (gD (by first | omega | (simp only [List.length_set]; omega)))) (k := ?_)
          refine JD_qg (q_eql) (k := ?_)
          refine JD_q (q_pickF) (k := ?_)
          refine JD_nil ?_
          refine JL_nil ?_
          refine JX_seq ?_
          refine J_dec rfl (fun hq3 => ?_) (fun hq3 => ?_)
          · first
            | (exfalso; omega)
            |
              refine J_seq ?_
              refine J_reg ?_
              refine JL_q (q_build (cs := [_, _, _]) Try.zeroValue25 PL_25) (k := ?_)
              refine JL_q (q_build (cs := [_, _]) Try.zeroValue27 PL_27) (k := ?_)
              refine JL_s (w_store (l' := [_, _, _]) Try.sizeOf25) (k := ?_)
              refine JL_s (w_store (l' := [_, _]) Try.sizeOf27) (k := ?_)
              refine JL_q (q_assign) (k := ?_)
              refine JL_nil ?_
              refine JX_seq ?_
              refine J_ret ?_
              refine JX_seq_ret ?_
              refine JX_ret Try.results11 (Res.agg Try.isAgg25 Try.sizeOf25 rfl (by repeat (first | exact List.mem_cons_self | apply List.mem_cons_of_mem | apply List.mem_append_right)) rfl (Res.agg Try.isAgg27 Try.sizeOf27 rfl (by repeat (first | exact List.mem_cons_self | apply List.mem_cons_of_mem | apply List.mem_append_right)) rfl (Res.tmp rfl Res.nil))) (fun w1 hw1 => ?_)
              rw [take_full (gl := gl) (ul := ul) (fl := fl) (by simpa using ‹(!rightB gl ul fl) = false›) (by first | exact .inl (by omega) | exact .inr ‹_›)]
              exact ⟨none, 0, none, 0, none, 0, [], congrArg Ending.returned rfl, hw1.fresh_out.sub (List.nil_sublist _), SlB.nil, SlB.nil, SlB.nil⟩
          · first
            | (exfalso; omega)
            |
              refine J_skip ?_
              refine JX_seq ?_
              refine J_seq ?_
              refine J_reg ?_
              refine JL_q (q_move) (k := ?_)
              refine JL_q (q_nil) (k := ?_)
              refine JL_q (q_fld FO_48_0) (k := ?_)
              refine JL_q (q_fld FO_25_2) (k := ?_)
              refine JL_q (q_load Try.isAgg22) (k := ?_)
              refine JL_q (q_move) (k := ?_)
              refine JL_q (q_idx (n := fl.length) Try.runUnderlying22 Try.sizeOf3 (((((fl.length : Nat) : Int) - 1)).toNat) (ho3_1.slj eI_ok) (gD (by first | omega | (simp only [List.length_set]; omega))) (by first | rfl | simp)) (k := ?_)
              refine JL_q (q_loadE Try.isAgg3 (((((fl.length : Nat) : Int) - 1)).toNat) 0 (ho3_1.slj eI_ok) (gD (by first | omega | (simp only [List.length_set]; omega)))) (k := ?_)
              refine JL_q (q_assign) (k := ?_)
              refine JL_nil ?_
              refine JX_seq ?_
              refine J_seq ?_
              refine J_reg ?_
              refine JL_q (q_move) (k := ?_)
              refine JL_q (q_move) (k := ?_)
              refine JL_q (q_nil) (k := ?_)
              refine JL_q (q_fld FO_48_0) (k := ?_)
              refine JL_q (q_fld FO_25_2) (k := ?_)
              refine JL_q (q_load Try.isAgg22) (k := ?_)
              refine JL_q (q_move) (k := ?_)
              refine JL_q (q_move) (k := ?_)
              have hc60 := ho3_1.le
              refine JL_q (q_sliceHiMax (c := fc2_1) (fl.length - 1) (fl.length - 1) Try.runUnderlying22 (fun w => ⟨_, Try.sizeOf3 w⟩) (by omega) (by omega)) (k := ?_)
              refine JL_q (q_nil) (k := ?_)
              refine JL_q (q_fld FO_48_0) (k := ?_)
              refine JL_q (q_fld FO_25_2) (k := ?_)
              refine JL_s (w_store (l' := [_, _, _]) Try.sizeOf22) (k := ?_)
              refine JL_nil ?_
              refine JX_seq ?_
              refine J_seq ?_
              refine J_reg ?_
              refine JL_q (q_move) (k := ?_)
              refine JL_q (q_nil) (k := ?_)
              refine JL_q (q_fld FO_48_0) (k := ?_)
              refine JL_q (q_fld FO_25_1) (k := ?_)
              refine JL_q (q_load Try.isAgg23) (k := ?_)
              refine JL_q (q_move) (k := ?_)
              refine JL_q (q_idx (n := ul.length) Try.runUnderlying23 Try.sizeOf4 (((fl.getD (((((fl.length : Nat) : Int) - 1)).toNat) default)).toNat) (ho2_1.slj eB_ok) (gD (by first | omega | (simp only [List.length_set]; omega))) (by first | rfl | simp)) (k := ?_)
              refine JL_storeE (((fl.getD (((((fl.length : Nat) : Int) - 1)).toNat) default)).toNat) (true) Try.sizeOf4 eB_ok ho2_1 ((List.Perm.cons _ ((List.Perm.append_left _ (List.Perm.refl _)).trans (perm_seg _ _ _))).trans List.perm_middle.symm) (by first | omega | (simp only [List.length_set]; omega)) (k := fun Bs1 hos1 => ?_)
              refine JL_nil ?_
              refine JX_seq ?_
              refine J_seq ?_
              refine J_reg ?_
              refine JL_q (q_move) (k := ?_)
              refine JL_q (q_nil) (k := ?_)
              refine JL_q (q_fld FO_48_0) (k := ?_)
              refine JL_q (q_fld FO_25_0) (k := ?_)
              refine JL_q (q_load Try.isAgg22) (k := ?_)
              refine JL_q (q_move) (k := ?_)
              refine JL_q (q_idx (n := gl.length) Try.runUnderlying22 Try.sizeOf3 (((fl.getD (((((fl.length : Nat) : Int) - 1)).toNat) default)).toNat) (ho1_1.slj eI_ok) (gD (by first | omega | (simp only [List.length_set]; omega))) (by first | rfl | simp)) (k := ?_)
              refine JL_q (q_loadE Try.isAgg3 (((fl.getD (((((fl.length : Nat) : Int) - 1)).toNat) default)).toNat) 0 (ho1_1.slj eI_ok) (gD (by first | omega | (simp only [List.length_set]; omega)))) (k := ?_)
              refine JL_q (q_add) (k := ?_)
              refine JL_q (q_idx (n := gl.length) Try.runUnderlying22 Try.sizeOf3 (((fl.getD (((((fl.length : Nat) : Int) - 1)).toNat) default)).toNat) (ho1_1.slj eI_ok) (gD (by first | omega | (simp only [List.length_set]; omega))) (by first | rfl | simp)) (k := ?_)
              refine JL_storeE (((fl.getD (((((fl.length : Nat) : Int) - 1)).toNat) default)).toNat) (((gl.getD (((fl.getD (((((fl.length : Nat) : Int) - 1)).toNat) default)).toNat) default) + 1)) Try.sizeOf3 eI_ok ho1_1 ((List.Perm.append_left _ ((List.Perm.cons _ (List.Perm.refl _)).trans List.perm_middle.symm)).trans (perm_seg _ _ _)) (by first | omega | (simp only [List.length_set]; omega)) (k := fun Bs2 hos2 => ?_)
              refine JL_nil ?_
              refine JX_seq ?_
              refine J_seq ?_
              refine J_planV (Bs2 ++ (Bs1 ++ ((r2_1, Obj.cells [(Value.slice (ga2_1) (gl.length) (gc2_1)), (Value.slice (ua2_1) (ul.length) (uc2_1)), (Value.slice (fa2_1) (fl.length - 1) (fl.length - 1))].toArray 48) :: (B3_1 ++ ((r1, Obj.cells [(Value.slice (ga) (gl.length) (gc)), (Value.slice (ua) (ul.length) (uc)), (Value.slice (fa) (fl.length) (fc))].toArray 25) :: []))))) ((r2, Obj.cells [(Value.slice (none) (0) (0)), (Value.slice (none) (0) (0)), (Value.slice (none) (0) (0))].toArray 25) :: ((r3, Obj.cells [(Value.int .i64 (0)), (Value.int .i64 (0))].toArray 27) :: [])) (by simpa using (((List.Perm.append_left _ ((List.Perm.append_left _ ((List.Perm.cons _ ((List.Perm.append_left _ (List.Perm.refl _)).trans List.perm_middle)).trans (List.Perm.swap _ _ _))).trans List.perm_middle)).trans List.perm_middle).trans ((List.Perm.cons _ ((List.Perm.append_left _ ((List.Perm.append_left _ ((List.Perm.cons _ ((List.Perm.append_left _ (List.Perm.refl _)).trans List.perm_middle)).trans (List.Perm.swap _ _ _))).trans List.perm_middle)).trans List.perm_middle)).trans (List.Perm.swap _ _ _)))) mixed 17 [(true, 0), (true, 1), (true, 2), (true, 3), (true, 4), (true, 5), (true, 6), (true, 7), (true, 8), (true, 9), (true, 10), (true, 11), (true, 12), (true, 13), (false, 14), (false, 15), (true, 16)] (by kernel_rfl) ?_
              refine JD_q (q_move) (k := ?_)
              refine JD_q (q_nil) (k := ?_)
              refine JD_q (q_fld FO_48_0) (k := ?_)
              refine JD_q (q_loadA Try.isAgg25 Try.sizeOf25) (k := ?_)
              refine JD_q (q_move) (k := ?_)
              refine JD_q (q_move) (k := ?_)
              refine JD_q (q_nil) (k := ?_)
              refine JD_q (q_fld FO_48_0) (k := ?_)
              refine JD_q (q_fld FO_25_0) (k := ?_)
              refine JD_q (q_load Try.isAgg22) (k := ?_)
              refine JD_q (q_move) (k := ?_)
              refine JD_q (q_idx (n := gl.length) Try.runUnderlying22 Try.sizeOf3 (((fl.getD (((((fl.length : Nat) : Int) - 1)).toNat) default)).toNat) (hos2.slj eI_ok) (gD (by first | omega | (simp only [List.length_set]; omega))) (by first | rfl | simp)) (k := ?_)
              refine JD_q (q_loadE Try.isAgg3 (((fl.getD (((((fl.length : Nat) : Int) - 1)).toNat) default)).toNat) 0 (hos2.slj eI_ok) (gD (by first | omega | (simp only [List.length_set]; omega)))) (k := ?_)
              refine JD_q (q_build (cs := [_, _]) Try.zeroValue27 PL_27) (k := ?_)
              refine JD_s (V' := ((r2, Obj.cells [(Value.slice (ga2_1) (gl.length) (gc2_1)), (Value.slice (ua2_1) (ul.length) (uc2_1)), (Value.slice (fa2_1) (fl.length - 1) (fl.length - 1))].toArray 25) :: ((r3, Obj.cells [(Value.int .i64 (0)), (Value.int .i64 (0))].toArray 27) :: []))) (w_store (l' := [_, _, _]) Try.sizeOf25) (k := ?_)
              refine JD_s (V' := ((r2, Obj.cells [(Value.slice (ga2_1) (gl.length) (gc2_1)), (Value.slice (ua2_1) (ul.length) (uc2_1)), (Value.slice (fa2_1) (fl.length - 1) (fl.length - 1))].toArray 25) :: ((r3, Obj.cells [(Value.int .i64 ((fl.getD (((((fl.length : Nat) : Int) - 1)).toNat) default))), (Value.int .i64 ((((gl).set (((fl.getD (((((fl.length : Nat) : Int) - 1)).toNat) default)).toNat) (((gl.getD (((fl.getD (((((fl.length : Nat) : Int) - 1)).toNat) default)).toNat) default) + 1))).getD (((fl.getD (((((fl.length : Nat) : Int) - 1)).toNat) default)).toNat) default)))].toArray 27) :: []))) (w_store (l' := [_, _]) Try.sizeOf27) (k := ?_)
              refine JD_q (q_assign) (k := ?_)
              refine JD_nil ?_
              refine JL_eqL (L' := ((r2, Obj.cells [(Value.slice (ga2_1) (gl.length) (gc2_1)), (Value.slice (ua2_1) (ul.length) (uc2_1)), (Value.slice (fa2_1) (fl.length - 1) (fl.length - 1))].toArray 25) :: ((r3, Obj.cells [(Value.int .i64 ((fl.getD (((((fl.length : Nat) : Int) - 1)).toNat) default))), (Value.int .i64 ((((gl).set (((fl.getD (((((fl.length : Nat) : Int) - 1)).toNat) default)).toNat) (((gl.getD (((fl.getD (((((fl.length : Nat) : Int) - 1)).toNat) default)).toNat) default) + 1))).getD (((fl.getD (((((fl.length : Nat) : Int) - 1)).toNat) default)).toNat) default)))].toArray 27) :: (Bs2 ++ (Bs1 ++ ((r2_1, Obj.cells [(Value.slice (ga2_1) (gl.length) (gc2_1)), (Value.slice (ua2_1) (ul.length) (uc2_1)), (Value.slice (fa2_1) (fl.length - 1) (fl.length - 1))].toArray 48) :: (B3_1 ++ ((r1, Obj.cells [(Value.slice (ga) (gl.length) (gc)), (Value.slice (ua) (ul.length) (uc)), (Value.slice (fa) (fl.length) (fc))].toArray 25) :: [])))))))) (by simp only [List.append_nil, List.append_assoc, List.cons_append, List.nil_append]) ?_
              refine JL_nil ?_
              refine JX_seq ?_
              refine J_ret ?_
              refine JX_ret Try.results11 (Res.agg Try.isAgg25 Try.sizeOf25 rfl (by repeat (first | exact List.mem_cons_self | apply List.mem_cons_of_mem | apply List.mem_append_right)) rfl (Res.agg Try.isAgg27 Try.sizeOf27 rfl (by repeat (first | exact List.mem_cons_self | apply List.mem_cons_of_mem | apply List.mem_append_right)) rfl (Res.tmp rfl Res.nil))) (fun w1 hw1 => ?_)
              rw [take_yes (gl := gl) (ul := ul) (fl := fl) (by simpa using ‹(!rightB gl ul fl) = false›) (by omega) ‹¬ _ = (1000000000 : Int)›]
              exact ⟨_, _, _, _, _, _, _, congrArg Ending.returned (tup_slots (by simp only [List.length_set]) (by simp only [List.length_set]) (by rw [List.length_take]; omega) (getD_set_self (by omega))), fresh_pick3 (hw1.perm ((((List.Perm.cons _ ((List.Perm.cons _ ((List.Perm.append_left _ ((List.Perm.append_left _ ((List.Perm.cons _ (List.Perm.refl _)).trans List.perm_middle.symm)).trans (perm_seg _ _ _))).trans (perm_seg _ _ _))).trans List.perm_middle.symm)).trans List.perm_middle.symm).trans ((List.Perm.append_left _ ((List.Perm.cons _ ((List.Perm.cons _ ((List.Perm.append_left _ (List.Perm.refl _)).trans (perm_seg _ _ _))).trans List.perm_middle.symm)).trans List.perm_middle.symm)).trans (perm_seg _ _ _))).trans ((List.Perm.append_left _ ((List.Perm.append_left _ ((List.Perm.cons _ ((List.Perm.cons _ (List.Perm.refl _)).trans List.perm_middle.symm)).trans List.perm_middle.symm)).trans (perm_seg _ _ _))).trans (perm_seg _ _ _)))), hos2.slb eI_ok, hos1.slb eB_ok, (ho3_1.slb eI_ok).take _⟩
theorem Give_ok (w : World) {ga ua fa : Option Addr} {gc uc fc : Nat} {gl : List Int} {ul : List Bool} {fl : List Int} {h1 h2 : Int} (hg : Sl w eI 1 ga gl) (hu : Sl w eB 1 ua ul) (hfr : Sl w eI 1 fa fl) (ng : gl.length ≤ 1000000) (nu : ul.length ≤ 1000000) (nf : fl.length ≤ 1000000) : Calls Try.prog 13 (List.toArray [(Value.agg [(Value.slice (ga) (gl.length) (gc)), (Value.slice (ua) (ul.length) (uc)), (Value.slice (fa) (fl.length) (fc))].toArray), (Value.agg [(Value.int .i64 (h1)), (Value.int .i64 (h2))].toArray)]) w fun e w2 => ∃ a1 : Option Addr, ∃ c1 : Nat, ∃ a2 : Option Addr, ∃ c2 : Nat, ∃ a3 : Option Addr, ∃ c3 : Nat, ∃ B : Heap, e = .returned (Value.tuple [(Value.agg [(Value.slice (a1) (((giveD gl ul fl h1 h2).1.1).length) (c1)), (Value.slice (a2) (((giveD gl ul fl h1 h2).1.2.1).length) (c2)), (Value.slice (a3) (((giveD gl ul fl h1 h2).1.2.2).length) (c3))].toArray), (Value.int .i64 ((giveD gl ul fl h1 h2).2))].toArray) ∧ Fresh w w2 (B) ∧ SlB B eI 1 a1 ((giveD gl ul fl h1 h2).1.1) ∧ SlB B eB 1 a2 ((giveD gl ul fl h1 h2).1.2.1) ∧ SlB B eI 1 a3 ((giveD gl ul fl h1 h2).1.2.2) := by
  refine enter Try.func13 Try.ntmps13 (h := ?_)
  refine J_seq ?_
  refine J_reg ?_
  refine JL_a noMk (a_box (l := [_, _, _])) (k := fun r1 hr1 => ?_)
  refine JL_a noMk (a_box (l := [_, _])) (k := fun r2 hr2 => ?_)
  refine JL_a noMk (a_alloc (l := [_, _, _]) Try.zeroValue25) (k := fun r3 hr3 => ?_)
  refine JL_q (q_assign) (k := ?_)
  refine JL_nil ?_
  refine JX_seq ?_
  refine J_seq ?_
  refine J_block ?_
  refine J_seq ?_
  refine J_reg ?_
  refine JL_q (q_loadA Try.isAgg25 Try.sizeOf25) (k := ?_)
  refine JL_v (args := [(Value.agg [(Value.slice (ga) (gl.length) (gc)), (Value.slice (ua) (ul.length) (uc)), (Value.slice (fa) (fl.length) (fc))].toArray)]) (c_callA Try.call16) (fun w1 hw1 => Right_ok w1 (hg := (SlJ.of_base hg) w1 hw1) (hu := (SlJ.of_base hu) w1 hw1) (hfr := (SlJ.of_base hfr) w1 hw1) (ng := by omega) (nu := by omega) (nf := by omega)) (k := ?_)
  refine JL_q (q_not) (k := ?_)
  refine JL_q (q_assign) (k := ?_)
  refine JL_nil ?_
  refine JX_seq ?_
  refine J_cond rfl (fun hq1 => ?_) (fun hq1 => ?_)
  · first
    | (exfalso; omega)
    |
      refine J_seq ?_
      refine J_reg ?_
      refine JL_q (q_build (cs := [_, _, _]) Try.zeroValue25 PL_25) (k := ?_)
      refine JL_s (w_store (l' := [_, _, _]) Try.sizeOf25) (k := ?_)
      refine JL_q (q_assign) (k := ?_)
      refine JL_nil ?_
      refine JX_seq ?_
      refine J_ret ?_
      refine JX_block_ret ?_
      refine JX_seq_ret ?_
      refine JX_ret Try.results13 (Res.agg Try.isAgg25 Try.sizeOf25 rfl (by repeat (first | exact List.mem_cons_self | apply List.mem_cons_of_mem | apply List.mem_append_right)) rfl (Res.tmp rfl Res.nil)) (fun w1 hw1 => ?_)
      rw [give_no (gl := gl) (ul := ul) (fl := fl) (h1 := h1) (h2 := h2) (by simpa using ‹(!rightB gl ul fl) = true›)]
      exact ⟨none, 0, none, 0, none, 0, [], congrArg Ending.returned rfl, hw1.fresh_out.sub (List.nil_sublist _), SlB.nil, SlB.nil, SlB.nil⟩
  · first
    | (exfalso; omega)
    |
      refine J_seq ?_
      refine J_reg ?_
      refine JL_q (q_loadA Try.isAgg25 Try.sizeOf25) (k := ?_)
      refine JL_q (q_loadA Try.isAgg27 Try.sizeOf27) (k := ?_)
      refine JL_v (args := [(Value.agg [(Value.slice (ga) (gl.length) (gc)), (Value.slice (ua) (ul.length) (uc)), (Value.slice (fa) (fl.length) (fc))].toArray), (Value.agg [(Value.int .i64 (h1)), (Value.int .i64 (h2))].toArray)]) (c_callA Try.call17) (fun w1 hw1 => Valid_ok w1 (hg := (SlJ.of_base hg) w1 hw1) (hu := (SlJ.of_base hu) w1 hw1) (hfr := (SlJ.of_base hfr) w1 hw1) (ng := by omega) (nu := by omega) (nf := by omega)) (k := ?_)
      refine JL_q (q_notD) (k := ?_)
      refine JL_q (q_assign) (k := ?_)
      refine JL_nil ?_
      refine JX_seq ?_
      refine J_dec rfl (fun hq2 => ?_) (fun hq2 => ?_)
      · first
        | (exfalso; omega)
        |
          refine J_seq ?_
          refine J_reg ?_
          refine JL_q (q_build (cs := [_, _, _]) Try.zeroValue25 PL_25) (k := ?_)
          refine JL_s (w_store (l' := [_, _, _]) Try.sizeOf25) (k := ?_)
          refine JL_q (q_assign) (k := ?_)
          refine JL_nil ?_
          refine JX_seq ?_
          refine J_ret ?_
          refine JX_block_ret ?_
          refine JX_seq_ret ?_
          refine JX_ret Try.results13 (Res.agg Try.isAgg25 Try.sizeOf25 rfl (by repeat (first | exact List.mem_cons_self | apply List.mem_cons_of_mem | apply List.mem_append_right)) rfl (Res.tmp rfl Res.nil)) (fun w1 hw1 => ?_)
          rw [give_bad (gl := gl) (ul := ul) (fl := fl) (h1 := h1) (h2 := h2) (by simpa using ‹(!rightB gl ul fl) = false›) ‹_›]
          exact ⟨none, 0, none, 0, none, 0, [], congrArg Ending.returned rfl, hw1.fresh_out.sub (List.nil_sublist _), SlB.nil, SlB.nil, SlB.nil⟩
      · first
        | (exfalso; omega)
        |
          refine J_skip ?_
          refine JX_block ?_
          refine JX_seq ?_
          refine J_seq ?_
          refine J_reg ?_
          refine JL_q (q_loadA Try.isAgg25 Try.sizeOf25) (k := ?_)
          refine JL_p (args := [(Value.agg [(Value.slice (ga) (gl.length) (gc)), (Value.slice (ua) (ul.length) (uc)), (Value.slice (fa) (fl.length) (fc))].toArray)]) (c_callA Try.call26) (fun w1 hw1 => own_ok w1 (hg := (SlJ.of_base hg) w1 hw1) (hu := (SlJ.of_base hu) w1 hw1) (hfr := (SlJ.of_base hfr) w1 hw1) (ng := by omega) (nu := by omega) (nf := by omega)) (k := ?_)
          rintro w1_1 e1_1 w2_1 hw1_1 ⟨r2_1, ga2_1, gc2_1, B1_1, ua2_1, uc2_1, B2_1, fa2_1, fc2_1, B3_1, he_1, hf_1, ho1_1, ho2_1, ho3_1⟩
          refine ⟨_, ((r2_1, Obj.cells [(Value.slice (ga2_1) (gl.length) (gc2_1)), (Value.slice (ua2_1) (ul.length) (uc2_1)), (Value.slice (fa2_1) (fl.length) (fc2_1))].toArray 48) :: (B1_1 ++ (B2_1 ++ (B3_1 ++ ((r3, Obj.cells [(Value.slice (none) (0) (0)), (Value.slice (none) (0) (0)), (Value.slice (none) (0) (0))].toArray 25) :: ((r2, Obj.cells [(Value.int .i64 (h1)), (Value.int .i64 (h2))].toArray 27) :: ((r1, Obj.cells [(Value.slice (ga) (gl.length) (gc)), (Value.slice (ua) (ul.length) (uc)), (Value.slice (fa) (fl.length) (fc))].toArray 25) :: []))))))), he_1, (hw1_1.fresh hf_1).perm (List.Perm.of_eq (by simp only [List.append_assoc, List.cons_append, List.nil_append])), ?_⟩
          refine JL_q (q_assign) (k := ?_)
          refine JL_nil ?_
          refine JX_seq ?_
          refine J_seq ?_
          refine J_plan mixed 8 [(true, 0), (true, 1), (true, 2), (true, 3), (true, 4), (true, 5), (true, 6), (true, 7)] (by kernel_rfl) ?_
          refine JD_q (q_move) (k := ?_)
          refine JD_q (q_nil) (k := ?_)
          refine JD_q (q_fld FO_48_0) (k := ?_)
          refine JD_q (q_fld FO_25_1) (k := ?_)
          refine JD_q (q_load Try.isAgg23) (k := ?_)
          refine JD_q (q_fld FO_27_0) (k := ?_)
          refine JD_q (q_load Try.isAgg3) (k := ?_)
          have hat := valid_at (Decidable.not_not.1 ‹¬ ¬ (h1, h2) ∈ allD gl ul fl›)
          refine JD_q (q_idx (n := ul.length) Try.runUnderlying23 Try.sizeOf4 ((h1).toNat) (ho2_1.slj eB_ok) (gD (by omega)) (by first | rfl | simp)) (k := ?_)
          refine JD_nil ?_
          refine JL_storeE ((h1).toNat) (false) Try.sizeOf4 eB_ok ho2_1 ((List.Perm.cons _ ((List.Perm.append_left _ (List.Perm.refl _)).trans (perm_seg _ _ _))).trans List.perm_middle.symm) (by omega) (k := fun Bs1 hos1 => ?_)
          refine JL_nil ?_
          refine JX_seq ?_
          refine J_seq ?_
          refine J_planV (Bs1 ++ ((r2_1, Obj.cells [(Value.slice (ga2_1) (gl.length) (gc2_1)), (Value.slice (ua2_1) (ul.length) (uc2_1)), (Value.slice (fa2_1) (fl.length) (fc2_1))].toArray 48) :: (B1_1 ++ ((r3, Obj.cells [(Value.slice (none) (0) (0)), (Value.slice (none) (0) (0)), (Value.slice (none) (0) (0))].toArray 25) :: ((r2, Obj.cells [(Value.int .i64 (h1)), (Value.int .i64 (h2))].toArray 27) :: ((r1, Obj.cells [(Value.slice (ga) (gl.length) (gc)), (Value.slice (ua) (ul.length) (uc)), (Value.slice (fa) (fl.length) (fc))].toArray 25) :: [])))))) (B3_1 ++ []) (by simpa using ((List.Perm.append_left _ ((List.Perm.cons _ ((List.Perm.append_left _ (List.Perm.refl _)).trans (perm_seg _ _ _))).trans List.perm_middle.symm)).trans (perm_seg _ _ _))) mixed 13 [(true, 0), (true, 1), (true, 2), (true, 3), (true, 4), (true, 5), (true, 6), (true, 7), (false, 8), (false, 9), (true, 10), (true, 11), (true, 12)] (by kernel_rfl) ?_
          refine JD_q (q_move) (k := ?_)
          refine JD_q (q_move) (k := ?_)
          refine JD_q (q_nil) (k := ?_)
          refine JD_q (q_fld FO_48_0) (k := ?_)
          refine JD_q (q_fld FO_25_2) (k := ?_)
          refine JD_q (q_load Try.isAgg22) (k := ?_)
          refine JD_q (q_fld FO_27_0) (k := ?_)
          refine JD_q (q_load Try.isAgg3) (k := ?_)
          refine JD_a noMk (a_bslice (l := [_]) Try.runUnderlying22 Try.sizeOf3 Try.zeroValue3) (k := fun r4 hr4 => ?_)
          refine JD_append (fl ++ [h1]) rfl TY_3 Try.underlying22 eI_ok ho3_1 (List.Perm.refl _) (SlJ.lit (xs := [h1]) eI_ok) ⟨by omega, by omega⟩ (n := fl.length) (m := 1) (k := fun ax1 cx1 Bx1 hox1 => ?_)
          refine JD_q (q_nil) (k := ?_)
          refine JD_q (q_fld FO_48_0) (k := ?_)
          refine JD_q (q_fld FO_25_2) (k := ?_)
          refine JD_nil ?_
          refine JL_eqL (L' := (Bx1 ++ ((r4, Obj.cells [(Value.int .i64 (h1))].toArray 3) :: (Bs1 ++ ((r2_1, Obj.cells [(Value.slice (ga2_1) (gl.length) (gc2_1)), (Value.slice (ua2_1) (ul.length) (uc2_1)), (Value.slice (fa2_1) (fl.length) (fc2_1))].toArray 48) :: (B1_1 ++ ((r3, Obj.cells [(Value.slice (none) (0) (0)), (Value.slice (none) (0) (0)), (Value.slice (none) (0) (0))].toArray 25) :: ((r2, Obj.cells [(Value.int .i64 (h1)), (Value.int .i64 (h2))].toArray 27) :: ((r1, Obj.cells [(Value.slice (ga) (gl.length) (gc)), (Value.slice (ua) (ul.length) (uc)), (Value.slice (fa) (fl.length) (fc))].toArray 25) :: []))))))))) (by simp only [List.append_nil, List.append_assoc, List.cons_append, List.nil_append]) ?_
          refine JL_s (w_store (l' := [_, _, _]) Try.sizeOf22) (k := ?_)
          refine JL_nil ?_
          refine JX_seq ?_
          refine J_seq ?_
          refine J_reg ?_
          refine JL_q (q_move) (k := ?_)
          refine JL_q (q_nil) (k := ?_)
          refine JL_q (q_fld FO_48_0) (k := ?_)
          refine JL_q (q_loadA Try.isAgg25 Try.sizeOf25) (k := ?_)
          refine JL_s (w_store (l' := [_, _, _]) Try.sizeOf25) (k := ?_)
          refine JL_q (q_assign) (k := ?_)
          refine JL_nil ?_
          refine JX_seq ?_
          refine J_ret ?_
          refine JX_ret Try.results13 (Res.agg Try.isAgg25 Try.sizeOf25 rfl (by repeat (first | exact List.mem_cons_self | apply List.mem_cons_of_mem | apply List.mem_append_right)) rfl (Res.tmp rfl Res.nil)) (fun w1 hw1 => ?_)
          rw [give_yes (gl := gl) (ul := ul) (fl := fl) (h1 := h1) (h2 := h2) (by simpa using ‹(!rightB gl ul fl) = false›) (Decidable.not_not.1 ‹_›)]
          exact ⟨_, _, _, _, _, _, _, congrArg Ending.returned (tup_slots2 rfl (by simp only [List.length_set]) rfl), fresh_pick3 (hw1.perm (((List.Perm.refl _).trans ((List.Perm.append_left _ ((List.Perm.cons _ (List.Perm.refl _)).trans List.perm_middle.symm)).trans (perm_seg _ _ _))).trans ((List.Perm.append_left _ ((List.Perm.append_left _ ((List.Perm.cons _ ((List.Perm.cons _ (List.Perm.refl _)).trans List.perm_middle.symm)).trans List.perm_middle.symm)).trans (perm_seg _ _ _))).trans (perm_seg _ _ _)))), ho1_1.slb eI_ok, hos1.slb eB_ok, hox1.slb eI_ok⟩
theorem New_bad (w : World) {n : Int} (hn : ¬ (1 ≤ n ∧ n ≤ 64)) : Calls Try.prog 19 (List.toArray [(Value.int .i64 (n))]) w fun e w2 => ∃ a1 : Option Addr, ∃ c1 : Nat, ∃ a2 : Option Addr, ∃ c2 : Nat, ∃ a3 : Option Addr, ∃ c3 : Nat, ∃ B : Heap, e = .returned (Value.tuple [(Value.agg [(Value.slice (a1) (((newD n).1.1).length) (c1)), (Value.slice (a2) (((newD n).1.2.1).length) (c2)), (Value.slice (a3) (((newD n).1.2.2).length) (c3))].toArray), (Value.int .i64 ((newD n).2))].toArray) ∧ Fresh w w2 (B) ∧ SlB B eI 1 a1 ((newD n).1.1) ∧ SlB B eB 1 a2 ((newD n).1.2.1) ∧ SlB B eI 1 a3 ((newD n).1.2.2) := by
  refine enter Try.func19 Try.ntmps19 (h := ?_)
  refine J_seq ?_
  refine J_reg ?_
  refine JL_a noMk (a_alloc (l := [_, _, _]) Try.zeroValue25) (k := fun r1 hr1 => ?_)
  refine JL_q (q_assign) (k := ?_)
  refine JL_nil ?_
  refine JX_seq ?_
  refine J_seq ?_
  refine J_seq ?_
  refine J_reg ?_
  refine JL_q (q_move) (k := ?_)
  refine JL_q (q_lss) (k := ?_)
  refine JL_q (q_move) (k := ?_)
  refine JL_dec 8 rfl (fun hq1 => ?_) (fun hq1 => ?_)
  · first
    | (exfalso; omega)
    |
      refine JL_skip (k := ?_)
      refine JL_skip (k := ?_)
      refine JL_q (q_pickT) (k := ?_)
      refine JL_nil ?_
      refine JX_seq ?_
      refine J_true rfl ?_
      refine J_seq ?_
      refine J_reg ?_
      refine JL_q (q_build (cs := [_, _, _]) Try.zeroValue25 PL_25) (k := ?_)
      refine JL_s (w_store (l' := [_, _, _]) Try.sizeOf25) (k := ?_)
      refine JL_q (q_assign) (k := ?_)
      refine JL_nil ?_
      refine JX_seq ?_
      refine J_ret ?_
      refine JX_seq_ret ?_
      refine JX_ret Try.results19 (Res.agg Try.isAgg25 Try.sizeOf25 rfl (by repeat (first | exact List.mem_cons_self | apply List.mem_cons_of_mem | apply List.mem_append_right)) rfl (Res.tmp rfl Res.nil)) (fun w1 hw1 => ?_)
      rw [new_bad hn]
      exact ⟨none, 0, none, 0, none, 0, [], congrArg Ending.returned rfl, hw1.fresh_out.sub (List.nil_sublist _), SlB.nil, SlB.nil, SlB.nil⟩
  · first
    | (exfalso; omega)
    |
      refine JL_qg (q_move) (k := ?_)
      refine JL_qg (q_gtr) (k := ?_)
      refine JL_q (q_pickF) (k := ?_)
      refine JL_nil ?_
      refine JX_seq ?_
      refine J_dec rfl (fun hq2 => ?_) (fun hq2 => ?_)
      · first
        | (exfalso; omega)
        |
          refine J_seq ?_
          refine J_reg ?_
          refine JL_q (q_build (cs := [_, _, _]) Try.zeroValue25 PL_25) (k := ?_)
          refine JL_s (w_store (l' := [_, _, _]) Try.sizeOf25) (k := ?_)
          refine JL_q (q_assign) (k := ?_)
          refine JL_nil ?_
          refine JX_seq ?_
          refine J_ret ?_
          refine JX_seq_ret ?_
          refine JX_ret Try.results19 (Res.agg Try.isAgg25 Try.sizeOf25 rfl (by repeat (first | exact List.mem_cons_self | apply List.mem_cons_of_mem | apply List.mem_append_right)) rfl (Res.tmp rfl Res.nil)) (fun w1 hw1 => ?_)
          rw [new_bad hn]
          exact ⟨none, 0, none, 0, none, 0, [], congrArg Ending.returned rfl, hw1.fresh_out.sub (List.nil_sublist _), SlB.nil, SlB.nil, SlB.nil⟩
      · exfalso; omega
theorem New_good (w : World) {m : Nat} (hm1 : 1 ≤ m) (hm2 : m ≤ 64) : Calls Try.prog 19 (List.toArray [(Value.int .i64 (((m : Nat) : Int)))]) w fun e w2 => ∃ a1 : Option Addr, ∃ c1 : Nat, ∃ a2 : Option Addr, ∃ c2 : Nat, ∃ a3 : Option Addr, ∃ c3 : Nat, ∃ B : Heap, e = .returned (Value.tuple [(Value.agg [(Value.slice (a1) (((newD ((m : Nat) : Int)).1.1).length) (c1)), (Value.slice (a2) (((newD ((m : Nat) : Int)).1.2.1).length) (c2)), (Value.slice (a3) (((newD ((m : Nat) : Int)).1.2.2).length) (c3))].toArray), (Value.int .i64 ((newD ((m : Nat) : Int)).2))].toArray) ∧ Fresh w w2 (B) ∧ SlB B eI 1 a1 ((newD ((m : Nat) : Int)).1.1) ∧ SlB B eB 1 a2 ((newD ((m : Nat) : Int)).1.2.1) ∧ SlB B eI 1 a3 ((newD ((m : Nat) : Int)).1.2.2) := by
  refine enter Try.func19 Try.ntmps19 (h := ?_)
  refine J_seq ?_
  refine J_reg ?_
  refine JL_a noMk (a_alloc (l := [_, _, _]) Try.zeroValue25) (k := fun r1 hr1 => ?_)
  refine JL_q (q_assign) (k := ?_)
  refine JL_nil ?_
  refine JX_seq ?_
  refine J_seq ?_
  refine J_seq ?_
  refine J_reg ?_
  refine JL_q (q_move) (k := ?_)
  refine JL_q (q_lss) (k := ?_)
  refine JL_q (q_move) (k := ?_)
  refine JL_dec 8 rfl (fun hq1 => ?_) (fun hq1 => ?_)
  · first
    | (exfalso; omega)
    |
      refine JL_skip (k := ?_)
      refine JL_skip (k := ?_)
      refine JL_q (q_pickT) (k := ?_)
      refine JL_nil ?_
      refine JX_seq ?_
      refine J_true rfl ?_
      refine J_seq ?_
      refine J_reg ?_
      refine JL_q (q_build (cs := [_, _, _]) Try.zeroValue25 PL_25) (k := ?_)
      refine JL_s (w_store (l' := [_, _, _]) Try.sizeOf25) (k := ?_)
      refine JL_q (q_assign) (k := ?_)
      refine JL_nil ?_
      refine JX_seq ?_
      refine J_ret ?_
      refine JX_seq_ret ?_
      refine JX_ret Try.results19 (Res.agg Try.isAgg25 Try.sizeOf25 rfl (by repeat (first | exact List.mem_cons_self | apply List.mem_cons_of_mem | apply List.mem_append_right)) rfl (Res.tmp rfl Res.nil)) (fun w1 hw1 => ?_)
      exfalso; omega
  · first
    | (exfalso; omega)
    |
      refine JL_qg (q_move) (k := ?_)
      refine JL_qg (q_gtr) (k := ?_)
      refine JL_q (q_pickF) (k := ?_)
      refine JL_nil ?_
      refine JX_seq ?_
      refine J_dec rfl (fun hq2 => ?_) (fun hq2 => ?_)
      · first
        | (exfalso; omega)
        |
          refine J_seq ?_
          refine J_reg ?_
          refine JL_q (q_build (cs := [_, _, _]) Try.zeroValue25 PL_25) (k := ?_)
          refine JL_s (w_store (l' := [_, _, _]) Try.sizeOf25) (k := ?_)
          refine JL_q (q_assign) (k := ?_)
          refine JL_nil ?_
          refine JX_seq ?_
          refine J_ret ?_
          refine JX_seq_ret ?_
          refine JX_ret Try.results19 (Res.agg Try.isAgg25 Try.sizeOf25 rfl (by repeat (first | exact List.mem_cons_self | apply List.mem_cons_of_mem | apply List.mem_append_right)) rfl (Res.tmp rfl Res.nil)) (fun w1 hw1 => ?_)
          exfalso; omega
      · first
        | (exfalso; omega)
        |
          refine J_skip ?_
          refine JX_seq ?_
          refine J_seq ?_
          refine J_any (V := []) mixed 6 (by kernel_rfl) ?_
          refine JG_q 0 rfl (by kernel_rfl) (q_move) (k := ?_)
          refine JG_q 2 rfl (by kernel_rfl) (q_move) (k := ?_)
          refine JG_br [1, 3, 5] (by kernel_rfl) rfl (List.forall_mem_cons.2 ⟨?_, (List.forall_mem_cons.2 ⟨?_, (List.forall_mem_cons.2 ⟨?_, nofun⟩)⟩)⟩)
          · skip
            refine JO_a rfl noMk (a_make (n := m) TY_3 Try.underlying22 (by omega) (by omega)) (k := fun r2 hr2 => ?_)
            refine JG_br [3, 5] (by kernel_rfl) rfl (List.forall_mem_cons.2 ⟨?_, (List.forall_mem_cons.2 ⟨?_, nofun⟩)⟩)
            · skip
              refine JO_a rfl noMk (a_make (n := m) TY_4 Try.underlying23 (by omega) (by omega)) (k := fun r3 hr3 => ?_)
              refine JG_q 4 rfl (by kernel_rfl) (q_build (cs := [_, _, _]) Try.zeroValue25 PL_25) (k := ?_)
              refine JG_br [5] (by kernel_rfl) rfl (List.forall_mem_cons.2 ⟨?_, nofun⟩)
              · skip
                refine JO_a rfl noMk (a_alloc (l := [_, _, _]) Try.zeroValue25) (k := fun r4 hr4 => ?_)
                refine JG_nil (by kernel_rfl) _ ?_
                refine JL_s (w_store (l' := [_, _, _]) Try.sizeOf25) (k := ?_)
                refine JL_nil ?_
                refine JX_seq ?_
                refine J_seq ?_
                refine J_seq ?_
                refine J_reg ?_
                refine JL_q (q_move) (k := ?_)
                refine JL_q (q_move) (k := ?_)
                refine JL_nil ?_
                refine JX_seq ?_
                refine J_block ?_
                refine J_loop4 (σ1 := Nat) (σ2 := Option Addr) (σ3 := Nat) (σ4 := Heap) (fun k a c Bf => (Bf ++ ((r4, Obj.cells [(Value.slice (some ⟨r2, 0, none⟩) (m) (m)), (Value.slice (some ⟨r3, 0, none⟩) (m) (m)), (Value.slice (a) (k) (c))].toArray 25) :: ((r3, Obj.cells (madeCells (Value.cells (Value.bool (false))) (m * 1)) 4) :: ((r2, Obj.cells (madeCells (Value.cells (Value.int .i64 (0))) (m * 1)) 3) :: ((r1, Obj.cells [(Value.slice (none) (0) (0)), (Value.slice (none) (0) (0)), (Value.slice (none) (0) (0))].toArray 25) :: [])))))) (fun k a c Bf => [(0, (Value.int .i64 (((m : Nat) : Int)))), (2, (Value.pointer (some ⟨r1, 0, none⟩))), (3, (Value.int .i64 (0))), (4, (Value.pointer (some ⟨r4, 0, none⟩))), (18, (Value.int .i64 (((m : Nat) : Int)))), (19, (Value.int .i64 (((k : Nat) : Int))))]) (fun k a c Bf => k ≤ m ∧ OwnB eI 1 3 a c Bf (downF m k)) (fun k a c Bf => m - k) (0) (none) (0) ([]) ?_ (.cons (t := 0) rfl (.cons (t := 2) rfl (.cons (t := 3) rfl (.cons (t := 4) rfl (.cons (t := 18) rfl (.cons (t := 19) rfl .nil)))))) (List.Perm.refl _) ?_
                · exact ⟨by omega, OwnB.nil⟩
                · rintro k a c Bf ⟨hk, hB⟩
                  refine J_seq ?_
                  refine J_reg ?_
                  refine JL_q (q_lss) (k := ?_)
                  refine JL_nil ?_
                  refine JX_seq ?_
                  refine J_seq ?_
                  refine J_dec rfl (fun hq5 => ?_) (fun hq5 => ?_)
                  · first
                    | (exfalso; omega)
                    |
                      refine J_skip ?_
                      refine JX_seq ?_
                      refine J_seq ?_
                      refine J_block ?_
                      refine J_seq ?_
                      refine J_reg ?_
                      refine JL_q (q_move) (k := ?_)
                      refine JL_q (q_assign) (k := ?_)
                      refine JL_nil ?_
                      refine JX_seq ?_
                      refine J_reg ?_
                      refine JL_q (q_fld FO_25_2) (k := ?_)
                      refine JL_q (q_load Try.isAgg22) (k := ?_)
                      refine JL_q (q_move) (k := ?_)
                      refine JL_q (q_sub) (k := ?_)
                      refine JL_q (q_move) (k := ?_)
                      refine JL_q (q_sub) (k := ?_)
                      refine JL_a noMk (a_bslice (l := [_]) Try.runUnderlying22 Try.sizeOf3 Try.zeroValue3) (k := fun r5 hr5 => ?_)
                      refine JL_append (downF m (k + 1)) downF_step TY_3 Try.underlying22 eI_ok hB ((List.Perm.cons _ (List.Perm.refl _)).trans List.perm_middle.symm) (SlJ.lit (xs := [((((m : Nat) : Int) - 1) - ((k : Nat) : Int))]) eI_ok) ⟨by omega, by omega⟩ (n := k) (m := 1) (hn := by simp [downF]) (k := fun ax1 cx1 Bx1 hox1 => ?_)
                      refine JL_alter 29 (Value.slice (ax1) (k + 1) (cx1)) rfl (congrArg (fun q => Value.slice _ q _) (by simp [downF])) ?_
                      refine JL_q (q_fld FO_25_2) (k := ?_)
                      refine JL_s (w_store (l' := [_, _, _]) Try.sizeOf22) (k := ?_)
                      refine JL_nil ?_
                      refine JX_block ?_
                      refine JX_seq ?_
                      refine J_reg ?_
                      refine JL_q (q_add) (k := ?_)
                      refine JL_q (q_move) (k := ?_)
                      refine JL_nil ?_
                      refine JX_permL (Bx1 ++ ((r4, Obj.cells [(Value.slice (some ⟨r2, 0, none⟩) (m) (m)), (Value.slice (some ⟨r3, 0, none⟩) (m) (m)), (Value.slice (ax1) (k + 1) (cx1))].toArray 25) :: ((r3, Obj.cells (madeCells (Value.cells (Value.bool (false))) (m * 1)) 4) :: ((r2, Obj.cells (madeCells (Value.cells (Value.int .i64 (0))) (m * 1)) 3) :: ((r1, Obj.cells [(Value.slice (none) (0) (0)), (Value.slice (none) (0) (0)), (Value.slice (none) (0) (0))].toArray 25) :: ((r5, Obj.cells [(Value.int .i64 (((((m : Nat) : Int) - 1) - ((k : Nat) : Int))))].toArray 3) :: [])))))) ((((((List.Perm.append_left _ ((List.Perm.cons _ ((List.Perm.cons _ ((List.Perm.cons _ ((List.Perm.cons _ (List.Perm.refl _)).trans (List.Perm.swap _ _ _))).trans (List.Perm.swap _ _ _))).trans (List.Perm.swap _ _ _))).trans (List.Perm.swap _ _ _))).trans List.perm_middle).trans ((List.Perm.cons _ ((List.Perm.append_left _ ((List.Perm.cons _ ((List.Perm.cons _ ((List.Perm.cons _ (List.Perm.refl _)).trans (List.Perm.swap _ _ _))).trans (List.Perm.swap _ _ _))).trans (List.Perm.swap _ _ _))).trans List.perm_middle)).trans (List.Perm.swap _ _ _))).trans ((List.Perm.cons _ ((List.Perm.cons _ ((List.Perm.append_left _ ((List.Perm.cons _ ((List.Perm.cons _ (List.Perm.refl _)).trans (List.Perm.swap _ _ _))).trans (List.Perm.swap _ _ _))).trans List.perm_middle)).trans (List.Perm.swap _ _ _))).trans (List.Perm.swap _ _ _))).trans ((List.Perm.cons _ ((List.Perm.cons _ ((List.Perm.cons _ ((List.Perm.append_left _ ((List.Perm.cons _ (List.Perm.refl _)).trans (List.Perm.swap _ _ _))).trans List.perm_middle)).trans (List.Perm.swap _ _ _))).trans (List.Perm.swap _ _ _))).trans (List.Perm.swap _ _ _))).trans ((List.Perm.cons _ ((List.Perm.cons _ ((List.Perm.cons _ ((List.Perm.cons _ (List.Perm.refl _)).trans List.perm_middle.symm)).trans List.perm_middle.symm)).trans List.perm_middle.symm)).trans List.perm_middle.symm)) ?_
                      refine JX_subL (Bx1 ++ ((r4, Obj.cells [(Value.slice (some ⟨r2, 0, none⟩) (m) (m)), (Value.slice (some ⟨r3, 0, none⟩) (m) (m)), (Value.slice (ax1) (k + 1) (cx1))].toArray 25) :: ((r3, Obj.cells (madeCells (Value.cells (Value.bool (false))) (m * 1)) 4) :: ((r2, Obj.cells (madeCells (Value.cells (Value.int .i64 (0))) (m * 1)) 3) :: ((r1, Obj.cells [(Value.slice (none) (0) (0)), (Value.slice (none) (0) (0)), (Value.slice (none) (0) (0))].toArray 25) :: []))))) (List.Sublist.append (List.Sublist.refl _) (List.Sublist.cons_cons _ (List.Sublist.cons_cons _ (List.Sublist.cons_cons _ (List.Sublist.cons_cons _ (List.nil_sublist _)))))) ?_
                      refine JX_inv4 (k + 1) (ax1) (cx1) (Bx1) ?_ ?_ (.cons (t := 0) rfl (.cons (t := 2) rfl (.cons (t := 3) rfl (.cons (t := 4) rfl (.cons (t := 18) rfl (.cons (t := 19) rfl .nil)))))) (List.Perm.refl _)
                      · exact ⟨by omega, hox1⟩
                      · omega
                  · first
                    | (exfalso; omega)
                    |
                      refine J_exit ?_
                      refine JX_seq_exit ?_
                      refine JX_inv_exit ?_
                      refine JX_block_hit ?_
                      refine JX_seq ?_
                      refine J_seq ?_
                      refine J_reg ?_
                      refine JL_q (q_loadA Try.isAgg25 Try.sizeOf25) (k := ?_)
                      refine JL_s (w_store (l' := [_, _, _]) Try.sizeOf25) (k := ?_)
                      refine JL_q (q_assign) (k := ?_)
                      refine JL_nil ?_
                      refine JX_seq ?_
                      refine J_ret ?_
                      refine JX_ret Try.results19 (Res.agg Try.isAgg25 Try.sizeOf25 rfl (by repeat (first | exact List.mem_cons_self | apply List.mem_cons_of_mem | apply List.mem_append_right)) rfl (Res.tmp rfl Res.nil)) (fun w1 hw1 => ?_)
                      rw [new_good (by omega) (by omega)]
                      have hk0 : m = k := by omega
                      subst hk0
                      exact ⟨_, _, _, _, _, _, [(r2, Obj.cells (madeCells (Value.cells (Value.int .i64 (0))) (m * 1)) 3)] ++ ([(r3, Obj.cells (madeCells (Value.cells (Value.bool (false))) (m * 1)) 4)] ++ Bf), congrArg Ending.returned (tup_slots2 (by simp) (by simp) (by simp [downF])), (hw1.perm (((List.Perm.refl _).trans ((List.Perm.append_left _ ((List.Perm.cons _ (List.Perm.refl _)).trans (List.Perm.swap _ _ _))).trans List.perm_middle)).trans ((List.Perm.cons _ ((List.Perm.append_left _ ((List.Perm.cons _ (List.Perm.refl _)).trans (List.Perm.swap _ _ _))).trans List.perm_middle)).trans (List.Perm.swap _ _ _)))).fresh_out.sub (List.Sublist.cons_cons _ (List.Sublist.cons_cons _ (List.sublist_append_left _ _))), (OwnB.made (e := 3) (z := (Value.int .i64 (0))) (x0 := default) (r := r2) (n := m) eI_ok rfl).slb eI_ok, (OwnB.made (e := 4) (z := (Value.bool (false))) (x0 := default) (r := r3) (n := m) eB_ok rfl).slb eB_ok, hB.slb eI_ok⟩
            · skip
              refine JO_a rfl noMk (a_alloc (l := [_, _, _]) Try.zeroValue25) (k := fun r6 hr6 => ?_)
              refine JG_br [3] (by kernel_rfl) rfl (List.forall_mem_cons.2 ⟨?_, nofun⟩)
              · skip
                refine JO_a rfl noMk (a_make (n := m) TY_4 Try.underlying23 (by omega) (by omega)) (k := fun r7 hr7 => ?_)
                refine JG_q 4 rfl (by kernel_rfl) (q_build (cs := [_, _, _]) Try.zeroValue25 PL_25) (k := ?_)
                refine JG_nil (by kernel_rfl) _ ?_
                refine JL_s (w_store (l' := [_, _, _]) Try.sizeOf25) (k := ?_)
                refine JL_nil ?_
                refine JX_seq ?_
                refine J_seq ?_
                refine J_seq ?_
                refine J_reg ?_
                refine JL_q (q_move) (k := ?_)
                refine JL_q (q_move) (k := ?_)
                refine JL_nil ?_
                refine JX_seq ?_
                refine J_block ?_
                refine J_loop4 (σ1 := Nat) (σ2 := Option Addr) (σ3 := Nat) (σ4 := Heap) (fun k a c Bf => (Bf ++ ((r7, Obj.cells (madeCells (Value.cells (Value.bool (false))) (m * 1)) 4) :: ((r6, Obj.cells [(Value.slice (some ⟨r2, 0, none⟩) (m) (m)), (Value.slice (some ⟨r7, 0, none⟩) (m) (m)), (Value.slice (a) (k) (c))].toArray 25) :: ((r2, Obj.cells (madeCells (Value.cells (Value.int .i64 (0))) (m * 1)) 3) :: ((r1, Obj.cells [(Value.slice (none) (0) (0)), (Value.slice (none) (0) (0)), (Value.slice (none) (0) (0))].toArray 25) :: [])))))) (fun k a c Bf => [(0, (Value.int .i64 (((m : Nat) : Int)))), (2, (Value.pointer (some ⟨r1, 0, none⟩))), (3, (Value.int .i64 (0))), (4, (Value.pointer (some ⟨r6, 0, none⟩))), (18, (Value.int .i64 (((m : Nat) : Int)))), (19, (Value.int .i64 (((k : Nat) : Int))))]) (fun k a c Bf => k ≤ m ∧ OwnB eI 1 3 a c Bf (downF m k)) (fun k a c Bf => m - k) (0) (none) (0) ([]) ?_ (.cons (t := 0) rfl (.cons (t := 2) rfl (.cons (t := 3) rfl (.cons (t := 4) rfl (.cons (t := 18) rfl (.cons (t := 19) rfl .nil)))))) (List.Perm.refl _) ?_
                · exact ⟨by omega, OwnB.nil⟩
                · rintro k a c Bf ⟨hk, hB⟩
                  refine J_seq ?_
                  refine J_reg ?_
                  refine JL_q (q_lss) (k := ?_)
                  refine JL_nil ?_
                  refine JX_seq ?_
                  refine J_seq ?_
                  refine J_dec rfl (fun hq8 => ?_) (fun hq8 => ?_)
                  · first
                    | (exfalso; omega)
                    |
                      refine J_skip ?_
                      refine JX_seq ?_
                      refine J_seq ?_
                      refine J_block ?_
                      refine J_seq ?_
                      refine J_reg ?_
                      refine JL_q (q_move) (k := ?_)
                      refine JL_q (q_assign) (k := ?_)
                      refine JL_nil ?_
                      refine JX_seq ?_
                      refine J_reg ?_
                      refine JL_q (q_fld FO_25_2) (k := ?_)
                      refine JL_q (q_load Try.isAgg22) (k := ?_)
                      refine JL_q (q_move) (k := ?_)
                      refine JL_q (q_sub) (k := ?_)
                      refine JL_q (q_move) (k := ?_)
                      refine JL_q (q_sub) (k := ?_)
                      refine JL_a noMk (a_bslice (l := [_]) Try.runUnderlying22 Try.sizeOf3 Try.zeroValue3) (k := fun r8 hr8 => ?_)
                      refine JL_append (downF m (k + 1)) downF_step TY_3 Try.underlying22 eI_ok hB ((List.Perm.cons _ (List.Perm.refl _)).trans List.perm_middle.symm) (SlJ.lit (xs := [((((m : Nat) : Int) - 1) - ((k : Nat) : Int))]) eI_ok) ⟨by omega, by omega⟩ (n := k) (m := 1) (hn := by simp [downF]) (k := fun ax2 cx2 Bx2 hox2 => ?_)
                      refine JL_alter 29 (Value.slice (ax2) (k + 1) (cx2)) rfl (congrArg (fun q => Value.slice _ q _) (by simp [downF])) ?_
                      refine JL_q (q_fld FO_25_2) (k := ?_)
                      refine JL_s (w_store (l' := [_, _, _]) Try.sizeOf22) (k := ?_)
                      refine JL_nil ?_
                      refine JX_block ?_
                      refine JX_seq ?_
                      refine J_reg ?_
                      refine JL_q (q_add) (k := ?_)
                      refine JL_q (q_move) (k := ?_)
                      refine JL_nil ?_
                      refine JX_permL (Bx2 ++ ((r7, Obj.cells (madeCells (Value.cells (Value.bool (false))) (m * 1)) 4) :: ((r6, Obj.cells [(Value.slice (some ⟨r2, 0, none⟩) (m) (m)), (Value.slice (some ⟨r7, 0, none⟩) (m) (m)), (Value.slice (ax2) (k + 1) (cx2))].toArray 25) :: ((r2, Obj.cells (madeCells (Value.cells (Value.int .i64 (0))) (m * 1)) 3) :: ((r1, Obj.cells [(Value.slice (none) (0) (0)), (Value.slice (none) (0) (0)), (Value.slice (none) (0) (0))].toArray 25) :: ((r8, Obj.cells [(Value.int .i64 (((((m : Nat) : Int) - 1) - ((k : Nat) : Int))))].toArray 3) :: [])))))) ((((((List.Perm.append_left _ ((List.Perm.cons _ ((List.Perm.cons _ ((List.Perm.cons _ ((List.Perm.cons _ (List.Perm.refl _)).trans (List.Perm.swap _ _ _))).trans (List.Perm.swap _ _ _))).trans (List.Perm.swap _ _ _))).trans (List.Perm.swap _ _ _))).trans List.perm_middle).trans ((List.Perm.cons _ ((List.Perm.append_left _ ((List.Perm.cons _ ((List.Perm.cons _ ((List.Perm.cons _ (List.Perm.refl _)).trans (List.Perm.swap _ _ _))).trans (List.Perm.swap _ _ _))).trans (List.Perm.swap _ _ _))).trans List.perm_middle)).trans (List.Perm.swap _ _ _))).trans ((List.Perm.cons _ ((List.Perm.cons _ ((List.Perm.append_left _ ((List.Perm.cons _ ((List.Perm.cons _ (List.Perm.refl _)).trans (List.Perm.swap _ _ _))).trans (List.Perm.swap _ _ _))).trans List.perm_middle)).trans (List.Perm.swap _ _ _))).trans (List.Perm.swap _ _ _))).trans ((List.Perm.cons _ ((List.Perm.cons _ ((List.Perm.cons _ ((List.Perm.append_left _ ((List.Perm.cons _ (List.Perm.refl _)).trans (List.Perm.swap _ _ _))).trans List.perm_middle)).trans (List.Perm.swap _ _ _))).trans (List.Perm.swap _ _ _))).trans (List.Perm.swap _ _ _))).trans ((List.Perm.cons _ ((List.Perm.cons _ ((List.Perm.cons _ ((List.Perm.cons _ (List.Perm.refl _)).trans List.perm_middle.symm)).trans List.perm_middle.symm)).trans List.perm_middle.symm)).trans List.perm_middle.symm)) ?_
                      refine JX_subL (Bx2 ++ ((r7, Obj.cells (madeCells (Value.cells (Value.bool (false))) (m * 1)) 4) :: ((r6, Obj.cells [(Value.slice (some ⟨r2, 0, none⟩) (m) (m)), (Value.slice (some ⟨r7, 0, none⟩) (m) (m)), (Value.slice (ax2) (k + 1) (cx2))].toArray 25) :: ((r2, Obj.cells (madeCells (Value.cells (Value.int .i64 (0))) (m * 1)) 3) :: ((r1, Obj.cells [(Value.slice (none) (0) (0)), (Value.slice (none) (0) (0)), (Value.slice (none) (0) (0))].toArray 25) :: []))))) (List.Sublist.append (List.Sublist.refl _) (List.Sublist.cons_cons _ (List.Sublist.cons_cons _ (List.Sublist.cons_cons _ (List.Sublist.cons_cons _ (List.nil_sublist _)))))) ?_
                      refine JX_inv4 (k + 1) (ax2) (cx2) (Bx2) ?_ ?_ (.cons (t := 0) rfl (.cons (t := 2) rfl (.cons (t := 3) rfl (.cons (t := 4) rfl (.cons (t := 18) rfl (.cons (t := 19) rfl .nil)))))) (List.Perm.refl _)
                      · exact ⟨by omega, hox2⟩
                      · omega
                  · first
                    | (exfalso; omega)
                    |
                      refine J_exit ?_
                      refine JX_seq_exit ?_
                      refine JX_inv_exit ?_
                      refine JX_block_hit ?_
                      refine JX_seq ?_
                      refine J_seq ?_
                      refine J_reg ?_
                      refine JL_q (q_loadA Try.isAgg25 Try.sizeOf25) (k := ?_)
                      refine JL_s (w_store (l' := [_, _, _]) Try.sizeOf25) (k := ?_)
                      refine JL_q (q_assign) (k := ?_)
                      refine JL_nil ?_
                      refine JX_seq ?_
                      refine J_ret ?_
                      refine JX_ret Try.results19 (Res.agg Try.isAgg25 Try.sizeOf25 rfl (by repeat (first | exact List.mem_cons_self | apply List.mem_cons_of_mem | apply List.mem_append_right)) rfl (Res.tmp rfl Res.nil)) (fun w1 hw1 => ?_)
                      rw [new_good (by omega) (by omega)]
                      have hk0 : m = k := by omega
                      subst hk0
                      exact ⟨_, _, _, _, _, _, [(r2, Obj.cells (madeCells (Value.cells (Value.int .i64 (0))) (m * 1)) 3)] ++ ([(r7, Obj.cells (madeCells (Value.cells (Value.bool (false))) (m * 1)) 4)] ++ Bf), congrArg Ending.returned (tup_slots2 (by simp) (by simp) (by simp [downF])), (hw1.perm (((List.Perm.refl _).trans ((List.Perm.append_left _ (List.Perm.refl _)).trans List.perm_middle)).trans ((List.Perm.cons _ ((List.Perm.append_left _ ((List.Perm.cons _ (List.Perm.refl _)).trans (List.Perm.swap _ _ _))).trans List.perm_middle)).trans (List.Perm.swap _ _ _)))).fresh_out.sub (List.Sublist.cons_cons _ (List.Sublist.cons_cons _ (List.sublist_append_left _ _))), (OwnB.made (e := 3) (z := (Value.int .i64 (0))) (x0 := default) (r := r2) (n := m) eI_ok rfl).slb eI_ok, (OwnB.made (e := 4) (z := (Value.bool (false))) (x0 := default) (r := r7) (n := m) eB_ok rfl).slb eB_ok, hB.slb eI_ok⟩
          · skip
            refine JO_a rfl noMk (a_make (n := m) TY_4 Try.underlying23 (by omega) (by omega)) (k := fun r9 hr9 => ?_)
            refine JG_br [1, 5] (by kernel_rfl) rfl (List.forall_mem_cons.2 ⟨?_, (List.forall_mem_cons.2 ⟨?_, nofun⟩)⟩)
            · skip
              refine JO_a rfl noMk (a_make (n := m) TY_3 Try.underlying22 (by omega) (by omega)) (k := fun r10 hr10 => ?_)
              refine JG_q 4 rfl (by kernel_rfl) (q_build (cs := [_, _, _]) Try.zeroValue25 PL_25) (k := ?_)
              refine JG_br [5] (by kernel_rfl) rfl (List.forall_mem_cons.2 ⟨?_, nofun⟩)
              · skip
                refine JO_a rfl noMk (a_alloc (l := [_, _, _]) Try.zeroValue25) (k := fun r11 hr11 => ?_)
                refine JG_nil (by kernel_rfl) _ ?_
                refine JL_s (w_store (l' := [_, _, _]) Try.sizeOf25) (k := ?_)
                refine JL_nil ?_
                refine JX_seq ?_
                refine J_seq ?_
                refine J_seq ?_
                refine J_reg ?_
                refine JL_q (q_move) (k := ?_)
                refine JL_q (q_move) (k := ?_)
                refine JL_nil ?_
                refine JX_seq ?_
                refine J_block ?_
                refine J_loop4 (σ1 := Nat) (σ2 := Option Addr) (σ3 := Nat) (σ4 := Heap) (fun k a c Bf => (Bf ++ ((r11, Obj.cells [(Value.slice (some ⟨r10, 0, none⟩) (m) (m)), (Value.slice (some ⟨r9, 0, none⟩) (m) (m)), (Value.slice (a) (k) (c))].toArray 25) :: ((r10, Obj.cells (madeCells (Value.cells (Value.int .i64 (0))) (m * 1)) 3) :: ((r9, Obj.cells (madeCells (Value.cells (Value.bool (false))) (m * 1)) 4) :: ((r1, Obj.cells [(Value.slice (none) (0) (0)), (Value.slice (none) (0) (0)), (Value.slice (none) (0) (0))].toArray 25) :: [])))))) (fun k a c Bf => [(0, (Value.int .i64 (((m : Nat) : Int)))), (2, (Value.pointer (some ⟨r1, 0, none⟩))), (3, (Value.int .i64 (0))), (4, (Value.pointer (some ⟨r11, 0, none⟩))), (18, (Value.int .i64 (((m : Nat) : Int)))), (19, (Value.int .i64 (((k : Nat) : Int))))]) (fun k a c Bf => k ≤ m ∧ OwnB eI 1 3 a c Bf (downF m k)) (fun k a c Bf => m - k) (0) (none) (0) ([]) ?_ (.cons (t := 0) rfl (.cons (t := 2) rfl (.cons (t := 3) rfl (.cons (t := 4) rfl (.cons (t := 18) rfl (.cons (t := 19) rfl .nil)))))) (List.Perm.refl _) ?_
                · exact ⟨by omega, OwnB.nil⟩
                · rintro k a c Bf ⟨hk, hB⟩
                  refine J_seq ?_
                  refine J_reg ?_
                  refine JL_q (q_lss) (k := ?_)
                  refine JL_nil ?_
                  refine JX_seq ?_
                  refine J_seq ?_
                  refine J_dec rfl (fun hq11 => ?_) (fun hq11 => ?_)
                  · first
                    | (exfalso; omega)
                    |
                      refine J_skip ?_
                      refine JX_seq ?_
                      refine J_seq ?_
                      refine J_block ?_
                      refine J_seq ?_
                      refine J_reg ?_
                      refine JL_q (q_move) (k := ?_)
                      refine JL_q (q_assign) (k := ?_)
                      refine JL_nil ?_
                      refine JX_seq ?_
                      refine J_reg ?_
                      refine JL_q (q_fld FO_25_2) (k := ?_)
                      refine JL_q (q_load Try.isAgg22) (k := ?_)
                      refine JL_q (q_move) (k := ?_)
                      refine JL_q (q_sub) (k := ?_)
                      refine JL_q (q_move) (k := ?_)
                      refine JL_q (q_sub) (k := ?_)
                      refine JL_a noMk (a_bslice (l := [_]) Try.runUnderlying22 Try.sizeOf3 Try.zeroValue3) (k := fun r12 hr12 => ?_)
                      refine JL_append (downF m (k + 1)) downF_step TY_3 Try.underlying22 eI_ok hB ((List.Perm.cons _ (List.Perm.refl _)).trans List.perm_middle.symm) (SlJ.lit (xs := [((((m : Nat) : Int) - 1) - ((k : Nat) : Int))]) eI_ok) ⟨by omega, by omega⟩ (n := k) (m := 1) (hn := by simp [downF]) (k := fun ax3 cx3 Bx3 hox3 => ?_)
                      refine JL_alter 29 (Value.slice (ax3) (k + 1) (cx3)) rfl (congrArg (fun q => Value.slice _ q _) (by simp [downF])) ?_
                      refine JL_q (q_fld FO_25_2) (k := ?_)
                      refine JL_s (w_store (l' := [_, _, _]) Try.sizeOf22) (k := ?_)
                      refine JL_nil ?_
                      refine JX_block ?_
                      refine JX_seq ?_
                      refine J_reg ?_
                      refine JL_q (q_add) (k := ?_)
                      refine JL_q (q_move) (k := ?_)
                      refine JL_nil ?_
                      refine JX_permL (Bx3 ++ ((r11, Obj.cells [(Value.slice (some ⟨r10, 0, none⟩) (m) (m)), (Value.slice (some ⟨r9, 0, none⟩) (m) (m)), (Value.slice (ax3) (k + 1) (cx3))].toArray 25) :: ((r10, Obj.cells (madeCells (Value.cells (Value.int .i64 (0))) (m * 1)) 3) :: ((r9, Obj.cells (madeCells (Value.cells (Value.bool (false))) (m * 1)) 4) :: ((r1, Obj.cells [(Value.slice (none) (0) (0)), (Value.slice (none) (0) (0)), (Value.slice (none) (0) (0))].toArray 25) :: ((r12, Obj.cells [(Value.int .i64 (((((m : Nat) : Int) - 1) - ((k : Nat) : Int))))].toArray 3) :: [])))))) ((((((List.Perm.append_left _ ((List.Perm.cons _ ((List.Perm.cons _ ((List.Perm.cons _ ((List.Perm.cons _ (List.Perm.refl _)).trans (List.Perm.swap _ _ _))).trans (List.Perm.swap _ _ _))).trans (List.Perm.swap _ _ _))).trans (List.Perm.swap _ _ _))).trans List.perm_middle).trans ((List.Perm.cons _ ((List.Perm.append_left _ ((List.Perm.cons _ ((List.Perm.cons _ ((List.Perm.cons _ (List.Perm.refl _)).trans (List.Perm.swap _ _ _))).trans (List.Perm.swap _ _ _))).trans (List.Perm.swap _ _ _))).trans List.perm_middle)).trans (List.Perm.swap _ _ _))).trans ((List.Perm.cons _ ((List.Perm.cons _ ((List.Perm.append_left _ ((List.Perm.cons _ ((List.Perm.cons _ (List.Perm.refl _)).trans (List.Perm.swap _ _ _))).trans (List.Perm.swap _ _ _))).trans List.perm_middle)).trans (List.Perm.swap _ _ _))).trans (List.Perm.swap _ _ _))).trans ((List.Perm.cons _ ((List.Perm.cons _ ((List.Perm.cons _ ((List.Perm.append_left _ ((List.Perm.cons _ (List.Perm.refl _)).trans (List.Perm.swap _ _ _))).trans List.perm_middle)).trans (List.Perm.swap _ _ _))).trans (List.Perm.swap _ _ _))).trans (List.Perm.swap _ _ _))).trans ((List.Perm.cons _ ((List.Perm.cons _ ((List.Perm.cons _ ((List.Perm.cons _ (List.Perm.refl _)).trans List.perm_middle.symm)).trans List.perm_middle.symm)).trans List.perm_middle.symm)).trans List.perm_middle.symm)) ?_
                      refine JX_subL (Bx3 ++ ((r11, Obj.cells [(Value.slice (some ⟨r10, 0, none⟩) (m) (m)), (Value.slice (some ⟨r9, 0, none⟩) (m) (m)), (Value.slice (ax3) (k + 1) (cx3))].toArray 25) :: ((r10, Obj.cells (madeCells (Value.cells (Value.int .i64 (0))) (m * 1)) 3) :: ((r9, Obj.cells (madeCells (Value.cells (Value.bool (false))) (m * 1)) 4) :: ((r1, Obj.cells [(Value.slice (none) (0) (0)), (Value.slice (none) (0) (0)), (Value.slice (none) (0) (0))].toArray 25) :: []))))) (List.Sublist.append (List.Sublist.refl _) (List.Sublist.cons_cons _ (List.Sublist.cons_cons _ (List.Sublist.cons_cons _ (List.Sublist.cons_cons _ (List.nil_sublist _)))))) ?_
                      refine JX_inv4 (k + 1) (ax3) (cx3) (Bx3) ?_ ?_ (.cons (t := 0) rfl (.cons (t := 2) rfl (.cons (t := 3) rfl (.cons (t := 4) rfl (.cons (t := 18) rfl (.cons (t := 19) rfl .nil)))))) (List.Perm.refl _)
                      · exact ⟨by omega, hox3⟩
                      · omega
                  · first
                    | (exfalso; omega)
                    |
                      refine J_exit ?_
                      refine JX_seq_exit ?_
                      refine JX_inv_exit ?_
                      refine JX_block_hit ?_
                      refine JX_seq ?_
                      refine J_seq ?_
                      refine J_reg ?_
                      refine JL_q (q_loadA Try.isAgg25 Try.sizeOf25) (k := ?_)
                      refine JL_s (w_store (l' := [_, _, _]) Try.sizeOf25) (k := ?_)
                      refine JL_q (q_assign) (k := ?_)
                      refine JL_nil ?_
                      refine JX_seq ?_
                      refine J_ret ?_
                      refine JX_ret Try.results19 (Res.agg Try.isAgg25 Try.sizeOf25 rfl (by repeat (first | exact List.mem_cons_self | apply List.mem_cons_of_mem | apply List.mem_append_right)) rfl (Res.tmp rfl Res.nil)) (fun w1 hw1 => ?_)
                      rw [new_good (by omega) (by omega)]
                      have hk0 : m = k := by omega
                      subst hk0
                      exact ⟨_, _, _, _, _, _, [(r10, Obj.cells (madeCells (Value.cells (Value.int .i64 (0))) (m * 1)) 3)] ++ ([(r9, Obj.cells (madeCells (Value.cells (Value.bool (false))) (m * 1)) 4)] ++ Bf), congrArg Ending.returned (tup_slots2 (by simp) (by simp) (by simp [downF])), (hw1.perm (((List.Perm.refl _).trans ((List.Perm.append_left _ ((List.Perm.cons _ ((List.Perm.cons _ (List.Perm.refl _)).trans (List.Perm.swap _ _ _))).trans (List.Perm.swap _ _ _))).trans List.perm_middle)).trans ((List.Perm.cons _ ((List.Perm.append_left _ ((List.Perm.cons _ (List.Perm.refl _)).trans (List.Perm.swap _ _ _))).trans List.perm_middle)).trans (List.Perm.swap _ _ _)))).fresh_out.sub (List.Sublist.cons_cons _ (List.Sublist.cons_cons _ (List.sublist_append_left _ _))), (OwnB.made (e := 3) (z := (Value.int .i64 (0))) (x0 := default) (r := r10) (n := m) eI_ok rfl).slb eI_ok, (OwnB.made (e := 4) (z := (Value.bool (false))) (x0 := default) (r := r9) (n := m) eB_ok rfl).slb eB_ok, hB.slb eI_ok⟩
            · skip
              refine JO_a rfl noMk (a_alloc (l := [_, _, _]) Try.zeroValue25) (k := fun r13 hr13 => ?_)
              refine JG_br [1] (by kernel_rfl) rfl (List.forall_mem_cons.2 ⟨?_, nofun⟩)
              · skip
                refine JO_a rfl noMk (a_make (n := m) TY_3 Try.underlying22 (by omega) (by omega)) (k := fun r14 hr14 => ?_)
                refine JG_q 4 rfl (by kernel_rfl) (q_build (cs := [_, _, _]) Try.zeroValue25 PL_25) (k := ?_)
                refine JG_nil (by kernel_rfl) _ ?_
                refine JL_s (w_store (l' := [_, _, _]) Try.sizeOf25) (k := ?_)
                refine JL_nil ?_
                refine JX_seq ?_
                refine J_seq ?_
                refine J_seq ?_
                refine J_reg ?_
                refine JL_q (q_move) (k := ?_)
                refine JL_q (q_move) (k := ?_)
                refine JL_nil ?_
                refine JX_seq ?_
                refine J_block ?_
                refine J_loop4 (σ1 := Nat) (σ2 := Option Addr) (σ3 := Nat) (σ4 := Heap) (fun k a c Bf => (Bf ++ ((r14, Obj.cells (madeCells (Value.cells (Value.int .i64 (0))) (m * 1)) 3) :: ((r13, Obj.cells [(Value.slice (some ⟨r14, 0, none⟩) (m) (m)), (Value.slice (some ⟨r9, 0, none⟩) (m) (m)), (Value.slice (a) (k) (c))].toArray 25) :: ((r9, Obj.cells (madeCells (Value.cells (Value.bool (false))) (m * 1)) 4) :: ((r1, Obj.cells [(Value.slice (none) (0) (0)), (Value.slice (none) (0) (0)), (Value.slice (none) (0) (0))].toArray 25) :: [])))))) (fun k a c Bf => [(0, (Value.int .i64 (((m : Nat) : Int)))), (2, (Value.pointer (some ⟨r1, 0, none⟩))), (3, (Value.int .i64 (0))), (4, (Value.pointer (some ⟨r13, 0, none⟩))), (18, (Value.int .i64 (((m : Nat) : Int)))), (19, (Value.int .i64 (((k : Nat) : Int))))]) (fun k a c Bf => k ≤ m ∧ OwnB eI 1 3 a c Bf (downF m k)) (fun k a c Bf => m - k) (0) (none) (0) ([]) ?_ (.cons (t := 0) rfl (.cons (t := 2) rfl (.cons (t := 3) rfl (.cons (t := 4) rfl (.cons (t := 18) rfl (.cons (t := 19) rfl .nil)))))) (List.Perm.refl _) ?_
                · exact ⟨by omega, OwnB.nil⟩
                · rintro k a c Bf ⟨hk, hB⟩
                  refine J_seq ?_
                  refine J_reg ?_
                  refine JL_q (q_lss) (k := ?_)
                  refine JL_nil ?_
                  refine JX_seq ?_
                  refine J_seq ?_
                  refine J_dec rfl (fun hq14 => ?_) (fun hq14 => ?_)
                  · first
                    | (exfalso; omega)
                    |
                      refine J_skip ?_
                      refine JX_seq ?_
                      refine J_seq ?_
                      refine J_block ?_
                      refine J_seq ?_
                      refine J_reg ?_
                      refine JL_q (q_move) (k := ?_)
                      refine JL_q (q_assign) (k := ?_)
                      refine JL_nil ?_
                      refine JX_seq ?_
                      refine J_reg ?_
                      refine JL_q (q_fld FO_25_2) (k := ?_)
                      refine JL_q (q_load Try.isAgg22) (k := ?_)
                      refine JL_q (q_move) (k := ?_)
                      refine JL_q (q_sub) (k := ?_)
                      refine JL_q (q_move) (k := ?_)
                      refine JL_q (q_sub) (k := ?_)
                      refine JL_a noMk (a_bslice (l := [_]) Try.runUnderlying22 Try.sizeOf3 Try.zeroValue3) (k := fun r15 hr15 => ?_)
                      refine JL_append (downF m (k + 1)) downF_step TY_3 Try.underlying22 eI_ok hB ((List.Perm.cons _ (List.Perm.refl _)).trans List.perm_middle.symm) (SlJ.lit (xs := [((((m : Nat) : Int) - 1) - ((k : Nat) : Int))]) eI_ok) ⟨by omega, by omega⟩ (n := k) (m := 1) (hn := by simp [downF]) (k := fun ax4 cx4 Bx4 hox4 => ?_)
                      refine JL_alter 29 (Value.slice (ax4) (k + 1) (cx4)) rfl (congrArg (fun q => Value.slice _ q _) (by simp [downF])) ?_
                      refine JL_q (q_fld FO_25_2) (k := ?_)
                      refine JL_s (w_store (l' := [_, _, _]) Try.sizeOf22) (k := ?_)
                      refine JL_nil ?_
                      refine JX_block ?_
                      refine JX_seq ?_
                      refine J_reg ?_
                      refine JL_q (q_add) (k := ?_)
                      refine JL_q (q_move) (k := ?_)
                      refine JL_nil ?_
                      refine JX_permL (Bx4 ++ ((r14, Obj.cells (madeCells (Value.cells (Value.int .i64 (0))) (m * 1)) 3) :: ((r13, Obj.cells [(Value.slice (some ⟨r14, 0, none⟩) (m) (m)), (Value.slice (some ⟨r9, 0, none⟩) (m) (m)), (Value.slice (ax4) (k + 1) (cx4))].toArray 25) :: ((r9, Obj.cells (madeCells (Value.cells (Value.bool (false))) (m * 1)) 4) :: ((r1, Obj.cells [(Value.slice (none) (0) (0)), (Value.slice (none) (0) (0)), (Value.slice (none) (0) (0))].toArray 25) :: ((r15, Obj.cells [(Value.int .i64 (((((m : Nat) : Int) - 1) - ((k : Nat) : Int))))].toArray 3) :: [])))))) ((((((List.Perm.append_left _ ((List.Perm.cons _ ((List.Perm.cons _ ((List.Perm.cons _ ((List.Perm.cons _ (List.Perm.refl _)).trans (List.Perm.swap _ _ _))).trans (List.Perm.swap _ _ _))).trans (List.Perm.swap _ _ _))).trans (List.Perm.swap _ _ _))).trans List.perm_middle).trans ((List.Perm.cons _ ((List.Perm.append_left _ ((List.Perm.cons _ ((List.Perm.cons _ ((List.Perm.cons _ (List.Perm.refl _)).trans (List.Perm.swap _ _ _))).trans (List.Perm.swap _ _ _))).trans (List.Perm.swap _ _ _))).trans List.perm_middle)).trans (List.Perm.swap _ _ _))).trans ((List.Perm.cons _ ((List.Perm.cons _ ((List.Perm.append_left _ ((List.Perm.cons _ ((List.Perm.cons _ (List.Perm.refl _)).trans (List.Perm.swap _ _ _))).trans (List.Perm.swap _ _ _))).trans List.perm_middle)).trans (List.Perm.swap _ _ _))).trans (List.Perm.swap _ _ _))).trans ((List.Perm.cons _ ((List.Perm.cons _ ((List.Perm.cons _ ((List.Perm.append_left _ ((List.Perm.cons _ (List.Perm.refl _)).trans (List.Perm.swap _ _ _))).trans List.perm_middle)).trans (List.Perm.swap _ _ _))).trans (List.Perm.swap _ _ _))).trans (List.Perm.swap _ _ _))).trans ((List.Perm.cons _ ((List.Perm.cons _ ((List.Perm.cons _ ((List.Perm.cons _ (List.Perm.refl _)).trans List.perm_middle.symm)).trans List.perm_middle.symm)).trans List.perm_middle.symm)).trans List.perm_middle.symm)) ?_
                      refine JX_subL (Bx4 ++ ((r14, Obj.cells (madeCells (Value.cells (Value.int .i64 (0))) (m * 1)) 3) :: ((r13, Obj.cells [(Value.slice (some ⟨r14, 0, none⟩) (m) (m)), (Value.slice (some ⟨r9, 0, none⟩) (m) (m)), (Value.slice (ax4) (k + 1) (cx4))].toArray 25) :: ((r9, Obj.cells (madeCells (Value.cells (Value.bool (false))) (m * 1)) 4) :: ((r1, Obj.cells [(Value.slice (none) (0) (0)), (Value.slice (none) (0) (0)), (Value.slice (none) (0) (0))].toArray 25) :: []))))) (List.Sublist.append (List.Sublist.refl _) (List.Sublist.cons_cons _ (List.Sublist.cons_cons _ (List.Sublist.cons_cons _ (List.Sublist.cons_cons _ (List.nil_sublist _)))))) ?_
                      refine JX_inv4 (k + 1) (ax4) (cx4) (Bx4) ?_ ?_ (.cons (t := 0) rfl (.cons (t := 2) rfl (.cons (t := 3) rfl (.cons (t := 4) rfl (.cons (t := 18) rfl (.cons (t := 19) rfl .nil)))))) (List.Perm.refl _)
                      · exact ⟨by omega, hox4⟩
                      · omega
                  · first
                    | (exfalso; omega)
                    |
                      refine J_exit ?_
                      refine JX_seq_exit ?_
                      refine JX_inv_exit ?_
                      refine JX_block_hit ?_
                      refine JX_seq ?_
                      refine J_seq ?_
                      refine J_reg ?_
                      refine JL_q (q_loadA Try.isAgg25 Try.sizeOf25) (k := ?_)
                      refine JL_s (w_store (l' := [_, _, _]) Try.sizeOf25) (k := ?_)
                      refine JL_q (q_assign) (k := ?_)
                      refine JL_nil ?_
                      refine JX_seq ?_
                      refine J_ret ?_
                      refine JX_ret Try.results19 (Res.agg Try.isAgg25 Try.sizeOf25 rfl (by repeat (first | exact List.mem_cons_self | apply List.mem_cons_of_mem | apply List.mem_append_right)) rfl (Res.tmp rfl Res.nil)) (fun w1 hw1 => ?_)
                      rw [new_good (by omega) (by omega)]
                      have hk0 : m = k := by omega
                      subst hk0
                      exact ⟨_, _, _, _, _, _, [(r14, Obj.cells (madeCells (Value.cells (Value.int .i64 (0))) (m * 1)) 3)] ++ ([(r9, Obj.cells (madeCells (Value.cells (Value.bool (false))) (m * 1)) 4)] ++ Bf), congrArg Ending.returned (tup_slots2 (by simp) (by simp) (by simp [downF])), (hw1.perm (((List.Perm.refl _).trans ((List.Perm.append_left _ ((List.Perm.cons _ ((List.Perm.cons _ (List.Perm.refl _)).trans (List.Perm.swap _ _ _))).trans (List.Perm.swap _ _ _))).trans List.perm_middle)).trans ((List.Perm.cons _ ((List.Perm.append_left _ (List.Perm.refl _)).trans List.perm_middle)).trans (List.Perm.swap _ _ _)))).fresh_out.sub (List.Sublist.cons_cons _ (List.Sublist.cons_cons _ (List.sublist_append_left _ _))), (OwnB.made (e := 3) (z := (Value.int .i64 (0))) (x0 := default) (r := r14) (n := m) eI_ok rfl).slb eI_ok, (OwnB.made (e := 4) (z := (Value.bool (false))) (x0 := default) (r := r9) (n := m) eB_ok rfl).slb eB_ok, hB.slb eI_ok⟩
          · skip
            refine JO_a rfl noMk (a_alloc (l := [_, _, _]) Try.zeroValue25) (k := fun r16 hr16 => ?_)
            refine JG_br [1, 3] (by kernel_rfl) rfl (List.forall_mem_cons.2 ⟨?_, (List.forall_mem_cons.2 ⟨?_, nofun⟩)⟩)
            · skip
              refine JO_a rfl noMk (a_make (n := m) TY_3 Try.underlying22 (by omega) (by omega)) (k := fun r17 hr17 => ?_)
              refine JG_br [3] (by kernel_rfl) rfl (List.forall_mem_cons.2 ⟨?_, nofun⟩)
              · skip
                refine JO_a rfl noMk (a_make (n := m) TY_4 Try.underlying23 (by omega) (by omega)) (k := fun r18 hr18 => ?_)
                refine JG_q 4 rfl (by kernel_rfl) (q_build (cs := [_, _, _]) Try.zeroValue25 PL_25) (k := ?_)
                refine JG_nil (by kernel_rfl) _ ?_
                refine JL_s (w_store (l' := [_, _, _]) Try.sizeOf25) (k := ?_)
                refine JL_nil ?_
                refine JX_seq ?_
                refine J_seq ?_
                refine J_seq ?_
                refine J_reg ?_
                refine JL_q (q_move) (k := ?_)
                refine JL_q (q_move) (k := ?_)
                refine JL_nil ?_
                refine JX_seq ?_
                refine J_block ?_
                refine J_loop4 (σ1 := Nat) (σ2 := Option Addr) (σ3 := Nat) (σ4 := Heap) (fun k a c Bf => (Bf ++ ((r18, Obj.cells (madeCells (Value.cells (Value.bool (false))) (m * 1)) 4) :: ((r17, Obj.cells (madeCells (Value.cells (Value.int .i64 (0))) (m * 1)) 3) :: ((r16, Obj.cells [(Value.slice (some ⟨r17, 0, none⟩) (m) (m)), (Value.slice (some ⟨r18, 0, none⟩) (m) (m)), (Value.slice (a) (k) (c))].toArray 25) :: ((r1, Obj.cells [(Value.slice (none) (0) (0)), (Value.slice (none) (0) (0)), (Value.slice (none) (0) (0))].toArray 25) :: [])))))) (fun k a c Bf => [(0, (Value.int .i64 (((m : Nat) : Int)))), (2, (Value.pointer (some ⟨r1, 0, none⟩))), (3, (Value.int .i64 (0))), (4, (Value.pointer (some ⟨r16, 0, none⟩))), (18, (Value.int .i64 (((m : Nat) : Int)))), (19, (Value.int .i64 (((k : Nat) : Int))))]) (fun k a c Bf => k ≤ m ∧ OwnB eI 1 3 a c Bf (downF m k)) (fun k a c Bf => m - k) (0) (none) (0) ([]) ?_ (.cons (t := 0) rfl (.cons (t := 2) rfl (.cons (t := 3) rfl (.cons (t := 4) rfl (.cons (t := 18) rfl (.cons (t := 19) rfl .nil)))))) (List.Perm.refl _) ?_
                · exact ⟨by omega, OwnB.nil⟩
                · rintro k a c Bf ⟨hk, hB⟩
                  refine J_seq ?_
                  refine J_reg ?_
                  refine JL_q (q_lss) (k := ?_)
                  refine JL_nil ?_
                  refine JX_seq ?_
                  refine J_seq ?_
                  refine J_dec rfl (fun hq17 => ?_) (fun hq17 => ?_)
                  · first
                    | (exfalso; omega)
                    |
                      refine J_skip ?_
                      refine JX_seq ?_
                      refine J_seq ?_
                      refine J_block ?_
                      refine J_seq ?_
                      refine J_reg ?_
                      refine JL_q (q_move) (k := ?_)
                      refine JL_q (q_assign) (k := ?_)
                      refine JL_nil ?_
                      refine JX_seq ?_
                      refine J_reg ?_
                      refine JL_q (q_fld FO_25_2) (k := ?_)
                      refine JL_q (q_load Try.isAgg22) (k := ?_)
                      refine JL_q (q_move) (k := ?_)
                      refine JL_q (q_sub) (k := ?_)
                      refine JL_q (q_move) (k := ?_)
                      refine JL_q (q_sub) (k := ?_)
                      refine JL_a noMk (a_bslice (l := [_]) Try.runUnderlying22 Try.sizeOf3 Try.zeroValue3) (k := fun r19 hr19 => ?_)
                      refine JL_append (downF m (k + 1)) downF_step TY_3 Try.underlying22 eI_ok hB ((List.Perm.cons _ (List.Perm.refl _)).trans List.perm_middle.symm) (SlJ.lit (xs := [((((m : Nat) : Int) - 1) - ((k : Nat) : Int))]) eI_ok) ⟨by omega, by omega⟩ (n := k) (m := 1) (hn := by simp [downF]) (k := fun ax5 cx5 Bx5 hox5 => ?_)
                      refine JL_alter 29 (Value.slice (ax5) (k + 1) (cx5)) rfl (congrArg (fun q => Value.slice _ q _) (by simp [downF])) ?_
                      refine JL_q (q_fld FO_25_2) (k := ?_)
                      refine JL_s (w_store (l' := [_, _, _]) Try.sizeOf22) (k := ?_)
                      refine JL_nil ?_
                      refine JX_block ?_
                      refine JX_seq ?_
                      refine J_reg ?_
                      refine JL_q (q_add) (k := ?_)
                      refine JL_q (q_move) (k := ?_)
                      refine JL_nil ?_
                      refine JX_permL (Bx5 ++ ((r18, Obj.cells (madeCells (Value.cells (Value.bool (false))) (m * 1)) 4) :: ((r17, Obj.cells (madeCells (Value.cells (Value.int .i64 (0))) (m * 1)) 3) :: ((r16, Obj.cells [(Value.slice (some ⟨r17, 0, none⟩) (m) (m)), (Value.slice (some ⟨r18, 0, none⟩) (m) (m)), (Value.slice (ax5) (k + 1) (cx5))].toArray 25) :: ((r1, Obj.cells [(Value.slice (none) (0) (0)), (Value.slice (none) (0) (0)), (Value.slice (none) (0) (0))].toArray 25) :: ((r19, Obj.cells [(Value.int .i64 (((((m : Nat) : Int) - 1) - ((k : Nat) : Int))))].toArray 3) :: [])))))) ((((((List.Perm.append_left _ ((List.Perm.cons _ ((List.Perm.cons _ ((List.Perm.cons _ ((List.Perm.cons _ (List.Perm.refl _)).trans (List.Perm.swap _ _ _))).trans (List.Perm.swap _ _ _))).trans (List.Perm.swap _ _ _))).trans (List.Perm.swap _ _ _))).trans List.perm_middle).trans ((List.Perm.cons _ ((List.Perm.append_left _ ((List.Perm.cons _ ((List.Perm.cons _ ((List.Perm.cons _ (List.Perm.refl _)).trans (List.Perm.swap _ _ _))).trans (List.Perm.swap _ _ _))).trans (List.Perm.swap _ _ _))).trans List.perm_middle)).trans (List.Perm.swap _ _ _))).trans ((List.Perm.cons _ ((List.Perm.cons _ ((List.Perm.append_left _ ((List.Perm.cons _ ((List.Perm.cons _ (List.Perm.refl _)).trans (List.Perm.swap _ _ _))).trans (List.Perm.swap _ _ _))).trans List.perm_middle)).trans (List.Perm.swap _ _ _))).trans (List.Perm.swap _ _ _))).trans ((List.Perm.cons _ ((List.Perm.cons _ ((List.Perm.cons _ ((List.Perm.append_left _ ((List.Perm.cons _ (List.Perm.refl _)).trans (List.Perm.swap _ _ _))).trans List.perm_middle)).trans (List.Perm.swap _ _ _))).trans (List.Perm.swap _ _ _))).trans (List.Perm.swap _ _ _))).trans ((List.Perm.cons _ ((List.Perm.cons _ ((List.Perm.cons _ ((List.Perm.cons _ (List.Perm.refl _)).trans List.perm_middle.symm)).trans List.perm_middle.symm)).trans List.perm_middle.symm)).trans List.perm_middle.symm)) ?_
                      refine JX_subL (Bx5 ++ ((r18, Obj.cells (madeCells (Value.cells (Value.bool (false))) (m * 1)) 4) :: ((r17, Obj.cells (madeCells (Value.cells (Value.int .i64 (0))) (m * 1)) 3) :: ((r16, Obj.cells [(Value.slice (some ⟨r17, 0, none⟩) (m) (m)), (Value.slice (some ⟨r18, 0, none⟩) (m) (m)), (Value.slice (ax5) (k + 1) (cx5))].toArray 25) :: ((r1, Obj.cells [(Value.slice (none) (0) (0)), (Value.slice (none) (0) (0)), (Value.slice (none) (0) (0))].toArray 25) :: []))))) (List.Sublist.append (List.Sublist.refl _) (List.Sublist.cons_cons _ (List.Sublist.cons_cons _ (List.Sublist.cons_cons _ (List.Sublist.cons_cons _ (List.nil_sublist _)))))) ?_
                      refine JX_inv4 (k + 1) (ax5) (cx5) (Bx5) ?_ ?_ (.cons (t := 0) rfl (.cons (t := 2) rfl (.cons (t := 3) rfl (.cons (t := 4) rfl (.cons (t := 18) rfl (.cons (t := 19) rfl .nil)))))) (List.Perm.refl _)
                      · exact ⟨by omega, hox5⟩
                      · omega
                  · first
                    | (exfalso; omega)
                    |
                      refine J_exit ?_
                      refine JX_seq_exit ?_
                      refine JX_inv_exit ?_
                      refine JX_block_hit ?_
                      refine JX_seq ?_
                      refine J_seq ?_
                      refine J_reg ?_
                      refine JL_q (q_loadA Try.isAgg25 Try.sizeOf25) (k := ?_)
                      refine JL_s (w_store (l' := [_, _, _]) Try.sizeOf25) (k := ?_)
                      refine JL_q (q_assign) (k := ?_)
                      refine JL_nil ?_
                      refine JX_seq ?_
                      refine J_ret ?_
                      refine JX_ret Try.results19 (Res.agg Try.isAgg25 Try.sizeOf25 rfl (by repeat (first | exact List.mem_cons_self | apply List.mem_cons_of_mem | apply List.mem_append_right)) rfl (Res.tmp rfl Res.nil)) (fun w1 hw1 => ?_)
                      rw [new_good (by omega) (by omega)]
                      have hk0 : m = k := by omega
                      subst hk0
                      exact ⟨_, _, _, _, _, _, [(r17, Obj.cells (madeCells (Value.cells (Value.int .i64 (0))) (m * 1)) 3)] ++ ([(r18, Obj.cells (madeCells (Value.cells (Value.bool (false))) (m * 1)) 4)] ++ Bf), congrArg Ending.returned (tup_slots2 (by simp) (by simp) (by simp [downF])), (hw1.perm (((List.Perm.refl _).trans ((List.Perm.append_left _ (List.Perm.refl _)).trans List.perm_middle)).trans ((List.Perm.cons _ ((List.Perm.append_left _ (List.Perm.refl _)).trans List.perm_middle)).trans (List.Perm.swap _ _ _)))).fresh_out.sub (List.Sublist.cons_cons _ (List.Sublist.cons_cons _ (List.sublist_append_left _ _))), (OwnB.made (e := 3) (z := (Value.int .i64 (0))) (x0 := default) (r := r17) (n := m) eI_ok rfl).slb eI_ok, (OwnB.made (e := 4) (z := (Value.bool (false))) (x0 := default) (r := r18) (n := m) eB_ok rfl).slb eB_ok, hB.slb eI_ok⟩
            · skip
              refine JO_a rfl noMk (a_make (n := m) TY_4 Try.underlying23 (by omega) (by omega)) (k := fun r20 hr20 => ?_)
              refine JG_br [1] (by kernel_rfl) rfl (List.forall_mem_cons.2 ⟨?_, nofun⟩)
              · skip
                refine JO_a rfl noMk (a_make (n := m) TY_3 Try.underlying22 (by omega) (by omega)) (k := fun r21 hr21 => ?_)
                refine JG_q 4 rfl (by kernel_rfl) (q_build (cs := [_, _, _]) Try.zeroValue25 PL_25) (k := ?_)
                refine JG_nil (by kernel_rfl) _ ?_
                refine JL_s (w_store (l' := [_, _, _]) Try.sizeOf25) (k := ?_)
                refine JL_nil ?_
                refine JX_seq ?_
                refine J_seq ?_
                refine J_seq ?_
                refine J_reg ?_
                refine JL_q (q_move) (k := ?_)
                refine JL_q (q_move) (k := ?_)
                refine JL_nil ?_
                refine JX_seq ?_
                refine J_block ?_
                refine J_loop4 (σ1 := Nat) (σ2 := Option Addr) (σ3 := Nat) (σ4 := Heap) (fun k a c Bf => (Bf ++ ((r21, Obj.cells (madeCells (Value.cells (Value.int .i64 (0))) (m * 1)) 3) :: ((r20, Obj.cells (madeCells (Value.cells (Value.bool (false))) (m * 1)) 4) :: ((r16, Obj.cells [(Value.slice (some ⟨r21, 0, none⟩) (m) (m)), (Value.slice (some ⟨r20, 0, none⟩) (m) (m)), (Value.slice (a) (k) (c))].toArray 25) :: ((r1, Obj.cells [(Value.slice (none) (0) (0)), (Value.slice (none) (0) (0)), (Value.slice (none) (0) (0))].toArray 25) :: [])))))) (fun k a c Bf => [(0, (Value.int .i64 (((m : Nat) : Int)))), (2, (Value.pointer (some ⟨r1, 0, none⟩))), (3, (Value.int .i64 (0))), (4, (Value.pointer (some ⟨r16, 0, none⟩))), (18, (Value.int .i64 (((m : Nat) : Int)))), (19, (Value.int .i64 (((k : Nat) : Int))))]) (fun k a c Bf => k ≤ m ∧ OwnB eI 1 3 a c Bf (downF m k)) (fun k a c Bf => m - k) (0) (none) (0) ([]) ?_ (.cons (t := 0) rfl (.cons (t := 2) rfl (.cons (t := 3) rfl (.cons (t := 4) rfl (.cons (t := 18) rfl (.cons (t := 19) rfl .nil)))))) (List.Perm.refl _) ?_
                · exact ⟨by omega, OwnB.nil⟩
                · rintro k a c Bf ⟨hk, hB⟩
                  refine J_seq ?_
                  refine J_reg ?_
                  refine JL_q (q_lss) (k := ?_)
                  refine JL_nil ?_
                  refine JX_seq ?_
                  refine J_seq ?_
                  refine J_dec rfl (fun hq20 => ?_) (fun hq20 => ?_)
                  · first
                    | (exfalso; omega)
                    |
                      refine J_skip ?_
                      refine JX_seq ?_
                      refine J_seq ?_
                      refine J_block ?_
                      refine J_seq ?_
                      refine J_reg ?_
                      refine JL_q (q_move) (k := ?_)
                      refine JL_q (q_assign) (k := ?_)
                      refine JL_nil ?_
                      refine JX_seq ?_
                      refine J_reg ?_
                      refine JL_q (q_fld FO_25_2) (k := ?_)
                      refine JL_q (q_load Try.isAgg22) (k := ?_)
                      refine JL_q (q_move) (k := ?_)
                      refine JL_q (q_sub) (k := ?_)
                      refine JL_q (q_move) (k := ?_)
                      refine JL_q (q_sub) (k := ?_)
                      refine JL_a noMk (a_bslice (l := [_]) Try.runUnderlying22 Try.sizeOf3 Try.zeroValue3) (k := fun r22 hr22 => ?_)
                      refine JL_append (downF m (k + 1)) downF_step TY_3 Try.underlying22 eI_ok hB ((List.Perm.cons _ (List.Perm.refl _)).trans List.perm_middle.symm) (SlJ.lit (xs := [((((m : Nat) : Int) - 1) - ((k : Nat) : Int))]) eI_ok) ⟨by omega, by omega⟩ (n := k) (m := 1) (hn := by simp [downF]) (k := fun ax6 cx6 Bx6 hox6 => ?_)
                      refine JL_alter 29 (Value.slice (ax6) (k + 1) (cx6)) rfl (congrArg (fun q => Value.slice _ q _) (by simp [downF])) ?_
                      refine JL_q (q_fld FO_25_2) (k := ?_)
                      refine JL_s (w_store (l' := [_, _, _]) Try.sizeOf22) (k := ?_)
                      refine JL_nil ?_
                      refine JX_block ?_
                      refine JX_seq ?_
                      refine J_reg ?_
                      refine JL_q (q_add) (k := ?_)
                      refine JL_q (q_move) (k := ?_)
                      refine JL_nil ?_
                      refine JX_permL (Bx6 ++ ((r21, Obj.cells (madeCells (Value.cells (Value.int .i64 (0))) (m * 1)) 3) :: ((r20, Obj.cells (madeCells (Value.cells (Value.bool (false))) (m * 1)) 4) :: ((r16, Obj.cells [(Value.slice (some ⟨r21, 0, none⟩) (m) (m)), (Value.slice (some ⟨r20, 0, none⟩) (m) (m)), (Value.slice (ax6) (k + 1) (cx6))].toArray 25) :: ((r1, Obj.cells [(Value.slice (none) (0) (0)), (Value.slice (none) (0) (0)), (Value.slice (none) (0) (0))].toArray 25) :: ((r22, Obj.cells [(Value.int .i64 (((((m : Nat) : Int) - 1) - ((k : Nat) : Int))))].toArray 3) :: [])))))) ((((((List.Perm.append_left _ ((List.Perm.cons _ ((List.Perm.cons _ ((List.Perm.cons _ ((List.Perm.cons _ (List.Perm.refl _)).trans (List.Perm.swap _ _ _))).trans (List.Perm.swap _ _ _))).trans (List.Perm.swap _ _ _))).trans (List.Perm.swap _ _ _))).trans List.perm_middle).trans ((List.Perm.cons _ ((List.Perm.append_left _ ((List.Perm.cons _ ((List.Perm.cons _ ((List.Perm.cons _ (List.Perm.refl _)).trans (List.Perm.swap _ _ _))).trans (List.Perm.swap _ _ _))).trans (List.Perm.swap _ _ _))).trans List.perm_middle)).trans (List.Perm.swap _ _ _))).trans ((List.Perm.cons _ ((List.Perm.cons _ ((List.Perm.append_left _ ((List.Perm.cons _ ((List.Perm.cons _ (List.Perm.refl _)).trans (List.Perm.swap _ _ _))).trans (List.Perm.swap _ _ _))).trans List.perm_middle)).trans (List.Perm.swap _ _ _))).trans (List.Perm.swap _ _ _))).trans ((List.Perm.cons _ ((List.Perm.cons _ ((List.Perm.cons _ ((List.Perm.append_left _ ((List.Perm.cons _ (List.Perm.refl _)).trans (List.Perm.swap _ _ _))).trans List.perm_middle)).trans (List.Perm.swap _ _ _))).trans (List.Perm.swap _ _ _))).trans (List.Perm.swap _ _ _))).trans ((List.Perm.cons _ ((List.Perm.cons _ ((List.Perm.cons _ ((List.Perm.cons _ (List.Perm.refl _)).trans List.perm_middle.symm)).trans List.perm_middle.symm)).trans List.perm_middle.symm)).trans List.perm_middle.symm)) ?_
                      refine JX_subL (Bx6 ++ ((r21, Obj.cells (madeCells (Value.cells (Value.int .i64 (0))) (m * 1)) 3) :: ((r20, Obj.cells (madeCells (Value.cells (Value.bool (false))) (m * 1)) 4) :: ((r16, Obj.cells [(Value.slice (some ⟨r21, 0, none⟩) (m) (m)), (Value.slice (some ⟨r20, 0, none⟩) (m) (m)), (Value.slice (ax6) (k + 1) (cx6))].toArray 25) :: ((r1, Obj.cells [(Value.slice (none) (0) (0)), (Value.slice (none) (0) (0)), (Value.slice (none) (0) (0))].toArray 25) :: []))))) (List.Sublist.append (List.Sublist.refl _) (List.Sublist.cons_cons _ (List.Sublist.cons_cons _ (List.Sublist.cons_cons _ (List.Sublist.cons_cons _ (List.nil_sublist _)))))) ?_
                      refine JX_inv4 (k + 1) (ax6) (cx6) (Bx6) ?_ ?_ (.cons (t := 0) rfl (.cons (t := 2) rfl (.cons (t := 3) rfl (.cons (t := 4) rfl (.cons (t := 18) rfl (.cons (t := 19) rfl .nil)))))) (List.Perm.refl _)
                      · exact ⟨by omega, hox6⟩
                      · omega
                  · first
                    | (exfalso; omega)
                    |
                      refine J_exit ?_
                      refine JX_seq_exit ?_
                      refine JX_inv_exit ?_
                      refine JX_block_hit ?_
                      refine JX_seq ?_
                      refine J_seq ?_
                      refine J_reg ?_
                      refine JL_q (q_loadA Try.isAgg25 Try.sizeOf25) (k := ?_)
                      refine JL_s (w_store (l' := [_, _, _]) Try.sizeOf25) (k := ?_)
                      refine JL_q (q_assign) (k := ?_)
                      refine JL_nil ?_
                      refine JX_seq ?_
                      refine J_ret ?_
                      refine JX_ret Try.results19 (Res.agg Try.isAgg25 Try.sizeOf25 rfl (by repeat (first | exact List.mem_cons_self | apply List.mem_cons_of_mem | apply List.mem_append_right)) rfl (Res.tmp rfl Res.nil)) (fun w1 hw1 => ?_)
                      rw [new_good (by omega) (by omega)]
                      have hk0 : m = k := by omega
                      subst hk0
                      exact ⟨_, _, _, _, _, _, [(r21, Obj.cells (madeCells (Value.cells (Value.int .i64 (0))) (m * 1)) 3)] ++ ([(r20, Obj.cells (madeCells (Value.cells (Value.bool (false))) (m * 1)) 4)] ++ Bf), congrArg Ending.returned (tup_slots2 (by simp) (by simp) (by simp [downF])), (hw1.perm (((List.Perm.refl _).trans ((List.Perm.append_left _ ((List.Perm.cons _ (List.Perm.refl _)).trans (List.Perm.swap _ _ _))).trans List.perm_middle)).trans ((List.Perm.cons _ ((List.Perm.append_left _ (List.Perm.refl _)).trans List.perm_middle)).trans (List.Perm.swap _ _ _)))).fresh_out.sub (List.Sublist.cons_cons _ (List.Sublist.cons_cons _ (List.sublist_append_left _ _))), (OwnB.made (e := 3) (z := (Value.int .i64 (0))) (x0 := default) (r := r21) (n := m) eI_ok rfl).slb eI_ok, (OwnB.made (e := 4) (z := (Value.bool (false))) (x0 := default) (r := r20) (n := m) eB_ok rfl).slb eB_ok, hB.slb eI_ok⟩
theorem New_ok (w : World) {n : Int} : Calls Try.prog 19 (List.toArray [(Value.int .i64 (n))]) w fun e w2 => ∃ a1 : Option Addr, ∃ c1 : Nat, ∃ a2 : Option Addr, ∃ c2 : Nat, ∃ a3 : Option Addr, ∃ c3 : Nat, ∃ B : Heap, e = .returned (Value.tuple [(Value.agg [(Value.slice (a1) (((newD n).1.1).length) (c1)), (Value.slice (a2) (((newD n).1.2.1).length) (c2)), (Value.slice (a3) (((newD n).1.2.2).length) (c3))].toArray), (Value.int .i64 ((newD n).2))].toArray) ∧ Fresh w w2 (B) ∧ SlB B eI 1 a1 ((newD n).1.1) ∧ SlB B eB 1 a2 ((newD n).1.2.1) ∧ SlB B eI 1 a3 ((newD n).1.2.2) := by
  by_cases hn : 1 ≤ n ∧ n ≤ 64
  · obtain ⟨m, rfl⟩ : ∃ m : Nat, n = (m : Int) := ⟨n.toNat, by omega⟩
    exact New_good w (by omega) (by omega)
  · exact New_bad w hn
theorem shown_ok (w : World)   : Val Try.prog 9 [] w (Value.bool (true)) := by
  refine enter Try.func9 Try.ntmps9 (h := ?_)
  refine J_seq ?_
  refine J_reg ?_
  refine JL_q (q_assign) (k := ?_)
  refine JL_nil ?_
  refine JX_seq ?_
  refine J_seq ?_
  refine J_reg ?_
  refine JL_p (args := [(Value.int .i64 (2))]) (c_callA Try.call19) (fun w1 hw1 => New_ok w1 ) (k := ?_)
  rintro w1_1 e1_1 w2_1 hw1_1 ⟨a1_1, c1_1, a2_1, c2_1, a3_1, c3_1, B_1, he_1, hf_1, hs1_1, hs2_1, hs3_1⟩
  rw [show newD 2 = (([0, 0], [false, false], [1, 0]), 0) from by kernel_rfl] at he_1 hs1_1 hs2_1 hs3_1
  refine ⟨_, (B_1 ++ []), he_1, hw1_1.fresh hf_1, ?_⟩
  refine JL_q (q_move) (k := ?_)
  refine JL_q (q_ext) (k := ?_)
  refine JL_q (q_ext) (k := ?_)
  refine JL_a noMk (a_alloc (l := [_, _, _]) Try.zeroValue25) (k := fun r1 hr1 => ?_)
  refine JL_s (w_store (l' := [_, _, _]) Try.sizeOf25) (k := ?_)
  refine JL_q (q_assign) (k := ?_)
  refine JL_nil ?_
  refine JX_seq ?_
  refine J_seq ?_
  refine J_reg ?_
  refine JL_q (q_loadA Try.isAgg25 Try.sizeOf25) (k := ?_)
  refine JL_p (args := [(Value.agg [(Value.slice (a1_1) (2) (c1_1)), (Value.slice (a2_1) (2) (c2_1)), (Value.slice (a3_1) (2) (c3_1))].toArray)]) (c_callA Try.call11) (fun w1 hw1 => Take_ok w1 (fl := ([1, 0] : List Int)) (ul := ([false, false] : List Bool)) (gl := ([0, 0] : List Int)) (hg := (SlB.slj hs1_1) w1 hw1) (hu := (SlB.slj hs2_1) w1 hw1) (hfr := (SlB.slj hs3_1) w1 hw1) (ng := by decide) (nu := by decide) (nf := by decide)) (k := ?_)
  rintro w1_2 e1_2 w2_2 hw1_2 ⟨a1_2, c1_2, a2_2, c2_2, a3_2, c3_2, B_2, he_2, hf_2, hs1_2, hs2_2, hs3_2⟩
  rw [show takeD (([0, 0] : List Int)) (([false, false] : List Bool)) (([1, 0] : List Int)) = (([1, 0], [true, false], [1]), (0, 1), 0) from by kernel_rfl] at he_2 hs1_2 hs2_2 hs3_2
  refine ⟨_, (B_2 ++ ((r1, Obj.cells [(Value.slice (a1_1) (2) (c1_1)), (Value.slice (a2_1) (2) (c2_1)), (Value.slice (a3_1) (2) (c3_1))].toArray 25) :: (B_1 ++ []))), he_2, hw1_2.fresh hf_2, ?_⟩
  refine JL_q (q_move) (k := ?_)
  refine JL_q (q_ext) (k := ?_)
  refine JL_q (q_ext) (k := ?_)
  refine JL_q (q_ext) (k := ?_)
  refine JL_a noMk (a_alloc (l := [_, _, _]) Try.zeroValue25) (k := fun r2 hr2 => ?_)
  refine JL_a noMk (a_alloc (l := [_, _]) Try.zeroValue27) (k := fun r3 hr3 => ?_)
  refine JL_s (w_store (l' := [_, _, _]) Try.sizeOf25) (k := ?_)
  refine JL_s (w_store (l' := [_, _]) Try.sizeOf27) (k := ?_)
  refine JL_q (q_assign) (k := ?_)
  refine JL_nil ?_
  refine JX_seq ?_
  refine J_seq ?_
  refine J_reg ?_
  refine JL_q (q_loadA Try.isAgg25 Try.sizeOf25) (k := ?_)
  refine JL_p (args := [(Value.agg [(Value.slice (a1_2) (2) (c1_2)), (Value.slice (a2_2) (2) (c2_2)), (Value.slice (a3_2) (1) (c3_2))].toArray)]) (c_callA Try.call11) (fun w1 hw1 => Take_ok w1 (fl := ([1] : List Int)) (ul := ([true, false] : List Bool)) (gl := ([1, 0] : List Int)) (hg := (SlB.slj hs1_2) w1 hw1) (hu := (SlB.slj hs2_2) w1 hw1) (hfr := (SlB.slj hs3_2) w1 hw1) (ng := by decide) (nu := by decide) (nf := by decide)) (k := ?_)
  rintro w1_3 e1_3 w2_3 hw1_3 ⟨a1_3, c1_3, a2_3, c2_3, a3_3, c3_3, B_3, he_3, hf_3, hs1_3, hs2_3, hs3_3⟩
  rw [show takeD (([1, 0] : List Int)) (([true, false] : List Bool)) (([1] : List Int)) = (([1, 1], [true, true], []), (1, 1), 0) from by kernel_rfl] at he_3 hs1_3 hs2_3 hs3_3
  refine ⟨_, (B_3 ++ ((r3, Obj.cells [(Value.int .i64 (0)), (Value.int .i64 (1))].toArray 27) :: ((r2, Obj.cells [(Value.slice (a1_2) (2) (c1_2)), (Value.slice (a2_2) (2) (c2_2)), (Value.slice (a3_2) (1) (c3_2))].toArray 25) :: (B_2 ++ ((r1, Obj.cells [(Value.slice (a1_1) (2) (c1_1)), (Value.slice (a2_1) (2) (c2_1)), (Value.slice (a3_1) (2) (c3_1))].toArray 25) :: (B_1 ++ [])))))), he_3, hw1_3.fresh hf_3, ?_⟩
  refine JL_q (q_move) (k := ?_)
  refine JL_q (q_ext) (k := ?_)
  refine JL_q (q_ext) (k := ?_)
  refine JL_q (q_ext) (k := ?_)
  refine JL_a noMk (a_alloc (l := [_, _, _]) Try.zeroValue25) (k := fun r4 hr4 => ?_)
  refine JL_a noMk (a_alloc (l := [_, _]) Try.zeroValue27) (k := fun r5 hr5 => ?_)
  refine JL_s (w_store (l' := [_, _, _]) Try.sizeOf25) (k := ?_)
  refine JL_s (w_store (l' := [_, _]) Try.sizeOf27) (k := ?_)
  refine JL_q (q_assign) (k := ?_)
  refine JL_nil ?_
  refine JX_seq ?_
  refine J_seq ?_
  refine J_reg ?_
  refine JL_q (q_loadA Try.isAgg25 Try.sizeOf25) (k := ?_)
  refine JL_q (q_loadA Try.isAgg27 Try.sizeOf27) (k := ?_)
  refine JL_p (args := [(Value.agg [(Value.slice (a1_3) (2) (c1_3)), (Value.slice (a2_3) (2) (c2_3)), (Value.slice (a3_3) (0) (c3_3))].toArray), (Value.agg [(Value.int .i64 (0)), (Value.int .i64 (1))].toArray)]) (c_callA Try.call13) (fun w1 hw1 => Give_ok w1 (fl := ([] : List Int)) (ul := ([true, true] : List Bool)) (gl := ([1, 1] : List Int)) (hg := (SlB.slj hs1_3) w1 hw1) (hu := (SlB.slj hs2_3) w1 hw1) (hfr := (SlB.slj hs3_3) w1 hw1) (ng := by decide) (nu := by decide) (nf := by decide)) (k := ?_)
  rintro w1_4 e1_4 w2_4 hw1_4 ⟨a1_4, c1_4, a2_4, c2_4, a3_4, c3_4, B_4, he_4, hf_4, hs1_4, hs2_4, hs3_4⟩
  rw [show giveD (([1, 1] : List Int)) (([true, true] : List Bool)) (([] : List Int)) 0 1 = (([1, 1], [false, true], [0]), 0) from by kernel_rfl] at he_4 hs1_4 hs2_4 hs3_4
  refine ⟨_, (B_4 ++ ((r5, Obj.cells [(Value.int .i64 (1)), (Value.int .i64 (1))].toArray 27) :: ((r4, Obj.cells [(Value.slice (a1_3) (2) (c1_3)), (Value.slice (a2_3) (2) (c2_3)), (Value.slice (a3_3) (0) (c3_3))].toArray 25) :: (B_3 ++ ((r3, Obj.cells [(Value.int .i64 (0)), (Value.int .i64 (1))].toArray 27) :: ((r2, Obj.cells [(Value.slice (a1_2) (2) (c1_2)), (Value.slice (a2_2) (2) (c2_2)), (Value.slice (a3_2) (1) (c3_2))].toArray 25) :: (B_2 ++ ((r1, Obj.cells [(Value.slice (a1_1) (2) (c1_1)), (Value.slice (a2_1) (2) (c2_1)), (Value.slice (a3_1) (2) (c3_1))].toArray 25) :: (B_1 ++ []))))))))), he_4, hw1_4.fresh hf_4, ?_⟩
  refine JL_q (q_move) (k := ?_)
  refine JL_q (q_ext) (k := ?_)
  refine JL_q (q_ext) (k := ?_)
  refine JL_a noMk (a_alloc (l := [_, _, _]) Try.zeroValue25) (k := fun r6 hr6 => ?_)
  refine JL_s (w_store (l' := [_, _, _]) Try.sizeOf25) (k := ?_)
  refine JL_q (q_assign) (k := ?_)
  refine JL_nil ?_
  refine JX_seq ?_
  refine J_seq ?_
  refine J_reg ?_
  refine JL_q (q_loadA Try.isAgg25 Try.sizeOf25) (k := ?_)
  refine JL_p (args := [(Value.agg [(Value.slice (a1_4) (2) (c1_4)), (Value.slice (a2_4) (2) (c2_4)), (Value.slice (a3_4) (1) (c3_4))].toArray)]) (c_callA Try.call11) (fun w1 hw1 => Take_ok w1 (fl := ([0] : List Int)) (ul := ([false, true] : List Bool)) (gl := ([1, 1] : List Int)) (hg := (SlB.slj hs1_4) w1 hw1) (hu := (SlB.slj hs2_4) w1 hw1) (hfr := (SlB.slj hs3_4) w1 hw1) (ng := by decide) (nu := by decide) (nf := by decide)) (k := ?_)
  rintro w1_5 e1_5 w2_5 hw1_5 ⟨a1_5, c1_5, a2_5, c2_5, a3_5, c3_5, B_5, he_5, hf_5, hs1_5, hs2_5, hs3_5⟩
  rw [show takeD (([1, 1] : List Int)) (([false, true] : List Bool)) (([0] : List Int)) = (([2, 1], [true, true], []), (0, 2), 0) from by kernel_rfl] at he_5 hs1_5 hs2_5 hs3_5
  refine ⟨_, (B_5 ++ ((r6, Obj.cells [(Value.slice (a1_4) (2) (c1_4)), (Value.slice (a2_4) (2) (c2_4)), (Value.slice (a3_4) (1) (c3_4))].toArray 25) :: (B_4 ++ ((r5, Obj.cells [(Value.int .i64 (1)), (Value.int .i64 (1))].toArray 27) :: ((r4, Obj.cells [(Value.slice (a1_3) (2) (c1_3)), (Value.slice (a2_3) (2) (c2_3)), (Value.slice (a3_3) (0) (c3_3))].toArray 25) :: (B_3 ++ ((r3, Obj.cells [(Value.int .i64 (0)), (Value.int .i64 (1))].toArray 27) :: ((r2, Obj.cells [(Value.slice (a1_2) (2) (c1_2)), (Value.slice (a2_2) (2) (c2_2)), (Value.slice (a3_2) (1) (c3_2))].toArray 25) :: (B_2 ++ ((r1, Obj.cells [(Value.slice (a1_1) (2) (c1_1)), (Value.slice (a2_1) (2) (c2_1)), (Value.slice (a3_1) (2) (c3_1))].toArray 25) :: (B_1 ++ []))))))))))), he_5, hw1_5.fresh hf_5, ?_⟩
  refine JL_q (q_move) (k := ?_)
  refine JL_q (q_ext) (k := ?_)
  refine JL_q (q_ext) (k := ?_)
  refine JL_q (q_ext) (k := ?_)
  refine JL_a noMk (a_alloc (l := [_, _, _]) Try.zeroValue25) (k := fun r7 hr7 => ?_)
  refine JL_a noMk (a_alloc (l := [_, _]) Try.zeroValue27) (k := fun r8 hr8 => ?_)
  refine JL_s (w_store (l' := [_, _, _]) Try.sizeOf25) (k := ?_)
  refine JL_s (w_store (l' := [_, _]) Try.sizeOf27) (k := ?_)
  refine JL_q (q_assign) (k := ?_)
  refine JL_nil ?_
  refine JX_seq ?_
  refine J_seq ?_
  refine J_reg ?_
  refine JL_q (q_loadA Try.isAgg25 Try.sizeOf25) (k := ?_)
  refine JL_p (args := [(Value.agg [(Value.slice (a1_5) (2) (c1_5)), (Value.slice (a2_5) (2) (c2_5)), (Value.slice (a3_5) (0) (c3_5))].toArray)]) (c_callA Try.call11) (fun w1 hw1 => Take_ok w1 (fl := ([] : List Int)) (ul := ([true, true] : List Bool)) (gl := ([2, 1] : List Int)) (hg := (SlB.slj hs1_5) w1 hw1) (hu := (SlB.slj hs2_5) w1 hw1) (hfr := (SlB.slj hs3_5) w1 hw1) (ng := by decide) (nu := by decide) (nf := by decide)) (k := ?_)
  rintro w1_6 e1_6 w2_6 hw1_6 ⟨a1_6, c1_6, a2_6, c2_6, a3_6, c3_6, B_6, he_6, hf_6, hs1_6, hs2_6, hs3_6⟩
  rw [show takeD (([2, 1] : List Int)) (([true, true] : List Bool)) (([] : List Int)) = (([], [], []), (0, 0), 92) from by kernel_rfl] at he_6 hs1_6 hs2_6 hs3_6
  refine ⟨_, (B_6 ++ ((r8, Obj.cells [(Value.int .i64 (0)), (Value.int .i64 (2))].toArray 27) :: ((r7, Obj.cells [(Value.slice (a1_5) (2) (c1_5)), (Value.slice (a2_5) (2) (c2_5)), (Value.slice (a3_5) (0) (c3_5))].toArray 25) :: (B_5 ++ ((r6, Obj.cells [(Value.slice (a1_4) (2) (c1_4)), (Value.slice (a2_4) (2) (c2_4)), (Value.slice (a3_4) (1) (c3_4))].toArray 25) :: (B_4 ++ ((r5, Obj.cells [(Value.int .i64 (1)), (Value.int .i64 (1))].toArray 27) :: ((r4, Obj.cells [(Value.slice (a1_3) (2) (c1_3)), (Value.slice (a2_3) (2) (c2_3)), (Value.slice (a3_3) (0) (c3_3))].toArray 25) :: (B_3 ++ ((r3, Obj.cells [(Value.int .i64 (0)), (Value.int .i64 (1))].toArray 27) :: ((r2, Obj.cells [(Value.slice (a1_2) (2) (c1_2)), (Value.slice (a2_2) (2) (c2_2)), (Value.slice (a3_2) (1) (c3_2))].toArray 25) :: (B_2 ++ ((r1, Obj.cells [(Value.slice (a1_1) (2) (c1_1)), (Value.slice (a2_1) (2) (c2_1)), (Value.slice (a3_1) (2) (c3_1))].toArray 25) :: (B_1 ++ [])))))))))))))), he_6, hw1_6.fresh hf_6, ?_⟩
  refine JL_q (q_move) (k := ?_)
  refine JL_q (q_ext) (k := ?_)
  refine JL_q (q_ext) (k := ?_)
  refine JL_q (q_ext) (k := ?_)
  refine JL_a noMk (a_alloc (l := [_, _, _]) Try.zeroValue25) (k := fun r9 hr9 => ?_)
  refine JL_a noMk (a_alloc (l := [_, _]) Try.zeroValue27) (k := fun r10 hr10 => ?_)
  refine JL_s (w_store (l' := [_, _, _]) Try.sizeOf25) (k := ?_)
  refine JL_s (w_store (l' := [_, _]) Try.sizeOf27) (k := ?_)
  refine JL_q (q_assign) (k := ?_)
  refine JL_nil ?_
  refine JX_seq ?_
  refine J_seq ?_
  refine J_reg ?_
  refine JL_q (q_loadA Try.isAgg25 Try.sizeOf25) (k := ?_)
  refine JL_q (q_loadA Try.isAgg27 Try.sizeOf27) (k := ?_)
  refine JL_p (args := [(Value.agg [(Value.slice (a1_5) (2) (c1_5)), (Value.slice (a2_5) (2) (c2_5)), (Value.slice (a3_5) (0) (c3_5))].toArray), (Value.agg [(Value.int .i64 (0)), (Value.int .i64 (1))].toArray)]) (c_callA Try.call13) (fun w1 hw1 => Give_ok w1 (fl := ([] : List Int)) (ul := ([true, true] : List Bool)) (gl := ([2, 1] : List Int)) (hg := (SlB.slj hs1_5) w1 hw1) (hu := (SlB.slj hs2_5) w1 hw1) (hfr := (SlB.slj hs3_5) w1 hw1) (ng := by decide) (nu := by decide) (nf := by decide)) (k := ?_)
  rintro w1_7 e1_7 w2_7 hw1_7 ⟨a1_7, c1_7, a2_7, c2_7, a3_7, c3_7, B_7, he_7, hf_7, hs1_7, hs2_7, hs3_7⟩
  rw [show giveD (([2, 1] : List Int)) (([true, true] : List Bool)) (([] : List Int)) 0 1 = (([], [], []), 91) from by kernel_rfl] at he_7 hs1_7 hs2_7 hs3_7
  refine ⟨_, (B_7 ++ ((r10, Obj.cells [(Value.int .i64 (0)), (Value.int .i64 (0))].toArray 27) :: ((r9, Obj.cells [(Value.slice (a1_6) (0) (c1_6)), (Value.slice (a2_6) (0) (c2_6)), (Value.slice (a3_6) (0) (c3_6))].toArray 25) :: (B_6 ++ ((r8, Obj.cells [(Value.int .i64 (0)), (Value.int .i64 (2))].toArray 27) :: ((r7, Obj.cells [(Value.slice (a1_5) (2) (c1_5)), (Value.slice (a2_5) (2) (c2_5)), (Value.slice (a3_5) (0) (c3_5))].toArray 25) :: (B_5 ++ ((r6, Obj.cells [(Value.slice (a1_4) (2) (c1_4)), (Value.slice (a2_4) (2) (c2_4)), (Value.slice (a3_4) (1) (c3_4))].toArray 25) :: (B_4 ++ ((r5, Obj.cells [(Value.int .i64 (1)), (Value.int .i64 (1))].toArray 27) :: ((r4, Obj.cells [(Value.slice (a1_3) (2) (c1_3)), (Value.slice (a2_3) (2) (c2_3)), (Value.slice (a3_3) (0) (c3_3))].toArray 25) :: (B_3 ++ ((r3, Obj.cells [(Value.int .i64 (0)), (Value.int .i64 (1))].toArray 27) :: ((r2, Obj.cells [(Value.slice (a1_2) (2) (c1_2)), (Value.slice (a2_2) (2) (c2_2)), (Value.slice (a3_2) (1) (c3_2))].toArray 25) :: (B_2 ++ ((r1, Obj.cells [(Value.slice (a1_1) (2) (c1_1)), (Value.slice (a2_1) (2) (c2_1)), (Value.slice (a3_1) (2) (c3_1))].toArray 25) :: (B_1 ++ []))))))))))))))))), he_7, hw1_7.fresh hf_7, ?_⟩
  refine JL_q (q_move) (k := ?_)
  refine JL_q (q_ext) (k := ?_)
  refine JL_q (q_ext) (k := ?_)
  refine JL_a noMk (a_alloc (l := [_, _, _]) Try.zeroValue25) (k := fun r11 hr11 => ?_)
  refine JL_s (w_store (l' := [_, _, _]) Try.sizeOf25) (k := ?_)
  refine JL_q (q_assign) (k := ?_)
  refine JL_nil ?_
  refine JX_seq ?_
  refine J_seq ?_
  refine J_reg ?_
  refine JL_q (q_move) (k := ?_)
  refine JL_q (q_eql) (k := ?_)
  refine JL_q (q_move) (k := ?_)
  refine JL_qg (q_loadA Try.isAgg27 Try.sizeOf27) (k := ?_)
  refine JL_qg (q_build (cs := [_, _]) Try.zeroValue27 PL_27) (k := ?_)
  refine JL_qg (q_eqS (EQo_27 _ _ _ _ _ _)) (k := ?_)
  refine JL_q (q_pickT) (k := ?_)
  refine JL_q (q_move) (k := ?_)
  refine JL_qg (q_move) (k := ?_)
  refine JL_qg (q_eql) (k := ?_)
  refine JL_q (q_pickT) (k := ?_)
  refine JL_q (q_move) (k := ?_)
  refine JL_qg (q_loadA Try.isAgg27 Try.sizeOf27) (k := ?_)
  refine JL_qg (q_build (cs := [_, _]) Try.zeroValue27 PL_27) (k := ?_)
  refine JL_qg (q_eqS (EQo_27 _ _ _ _ _ _)) (k := ?_)
  refine JL_q (q_pickT) (k := ?_)
  refine JL_q (q_move) (k := ?_)
  refine JL_qg (q_move) (k := ?_)
  refine JL_qg (q_eql) (k := ?_)
  refine JL_q (q_pickT) (k := ?_)
  refine JL_q (q_move) (k := ?_)
  refine JL_qg (q_move) (k := ?_)
  refine JL_qg (q_eql) (k := ?_)
  refine JL_q (q_pickT) (k := ?_)
  refine JL_q (q_move) (k := ?_)
  refine JL_qg (q_loadA Try.isAgg27 Try.sizeOf27) (k := ?_)
  refine JL_qg (q_build (cs := [_, _]) Try.zeroValue27 PL_27) (k := ?_)
  refine JL_qg (q_eqS (EQo_27 _ _ _ _ _ _)) (k := ?_)
  refine JL_q (q_pickT) (k := ?_)
  refine JL_q (q_move) (k := ?_)
  refine JL_qg (q_move) (k := ?_)
  refine JL_qg (q_eql) (k := ?_)
  refine JL_q (q_pickT) (k := ?_)
  refine JL_q (q_move) (k := ?_)
  refine JL_qg (q_move) (k := ?_)
  refine JL_qg (q_eql) (k := ?_)
  refine JL_q (q_pickT) (k := ?_)
  refine JL_q (q_move) (k := ?_)
  refine JL_qg (q_move) (k := ?_)
  refine JL_qg (q_eql) (k := ?_)
  refine JL_q (q_pickT) (k := ?_)
  refine JL_q (q_move) (k := ?_)
  refine JL_qg (q_loadA Try.isAgg25 Try.sizeOf25) (k := ?_)
  refine JL_pg (args := [(Value.agg [(Value.slice (a1_5) (2) (c1_5)), (Value.slice (a2_5) (2) (c2_5)), (Value.slice (a3_5) (0) (c3_5))].toArray)]) (c_callA Try.call18) (fun w1 hw1 => All_ok w1 (fl := ([] : List Int)) (ul := ([true, true] : List Bool)) (gl := ([2, 1] : List Int)) (hg := (SlB.slj hs1_5) w1 hw1) (hu := (SlB.slj hs2_5) w1 hw1) (hfr := (SlB.slj hs3_5) w1 hw1) (ng := by decide) (nu := by decide) (nf := by decide)) (k := ?_)
  rintro w1_8 e1_8 w2_8 hw1_8 ⟨a2_8, c2_8, B_8, he_8, hf_8, ho_8⟩
  rw [show allD (([2, 1] : List Int)) (([true, true] : List Bool)) (([] : List Int)) = [(0, 2), (1, 1)] from by kernel_rfl] at he_8 ho_8
  refine ⟨_, (B_8 ++ ((r11, Obj.cells [(Value.slice (a1_7) (0) (c1_7)), (Value.slice (a2_7) (0) (c2_7)), (Value.slice (a3_7) (0) (c3_7))].toArray 25) :: (B_7 ++ ((r10, Obj.cells [(Value.int .i64 (0)), (Value.int .i64 (0))].toArray 27) :: ((r9, Obj.cells [(Value.slice (a1_6) (0) (c1_6)), (Value.slice (a2_6) (0) (c2_6)), (Value.slice (a3_6) (0) (c3_6))].toArray 25) :: (B_6 ++ ((r8, Obj.cells [(Value.int .i64 (0)), (Value.int .i64 (2))].toArray 27) :: ((r7, Obj.cells [(Value.slice (a1_5) (2) (c1_5)), (Value.slice (a2_5) (2) (c2_5)), (Value.slice (a3_5) (0) (c3_5))].toArray 25) :: (B_5 ++ ((r6, Obj.cells [(Value.slice (a1_4) (2) (c1_4)), (Value.slice (a2_4) (2) (c2_4)), (Value.slice (a3_4) (1) (c3_4))].toArray 25) :: (B_4 ++ ((r5, Obj.cells [(Value.int .i64 (1)), (Value.int .i64 (1))].toArray 27) :: ((r4, Obj.cells [(Value.slice (a1_3) (2) (c1_3)), (Value.slice (a2_3) (2) (c2_3)), (Value.slice (a3_3) (0) (c3_3))].toArray 25) :: (B_3 ++ ((r3, Obj.cells [(Value.int .i64 (0)), (Value.int .i64 (1))].toArray 27) :: ((r2, Obj.cells [(Value.slice (a1_2) (2) (c1_2)), (Value.slice (a2_2) (2) (c2_2)), (Value.slice (a3_2) (1) (c3_2))].toArray 25) :: (B_2 ++ ((r1, Obj.cells [(Value.slice (a1_1) (2) (c1_1)), (Value.slice (a2_1) (2) (c2_1)), (Value.slice (a3_1) (2) (c3_1))].toArray 25) :: (B_1 ++ []))))))))))))))))))), he_8, hw1_8.fresh hf_8, ?_⟩
  refine JL_qg (q_lenS Try.runUnderlying38) (k := ?_)
  refine JL_qg (q_eql) (k := ?_)
  refine JL_q (q_pickT) (k := ?_)
  refine JL_q (q_assign) (k := ?_)
  refine JL_nil ?_
  refine JX_seq ?_
  refine J_ret ?_
  refine JX_ret Try.results9 (Res.tmp rfl Res.nil) (fun w1 hw1 => ?_)
  exact ⟨congrArg Ending.returned (congrArg Value.bool (by rfl)), hw1.ext_out⟩
theorem Cut_ok (w : World) {ga ua fa : Option Addr} {gc uc fc : Nat} {gl : List Int} {ul : List Bool} {fl : List Int} (hg : Sl w eI 1 ga gl) (hu : Sl w eB 1 ua ul) (hfr : Sl w eI 1 fa fl) (kg : gl.length ≤ gc) (ku : ul.length ≤ uc) (kf : fl.length ≤ fc) : Val Try.prog 10 [(Value.agg [(Value.slice (ga) (gl.length) (gc)), (Value.slice (ua) (ul.length) (uc)), (Value.slice (fa) (fl.length) (fc))].toArray)] w (Value.agg [(Value.slice (ga) ((gl.take 66).length) (gc)), (Value.slice (ua) ((ul.take 66).length) (uc)), (Value.slice (fa) ((fl.take 66).length) (fc))].toArray) := by
  refine enter Try.func10 Try.ntmps10 (h := ?_)
  refine J_seq ?_
  refine J_reg ?_
  refine JL_a noMk (a_box (l := [_, _, _])) (k := fun r1 hr1 => ?_)
  refine JL_a noMk (a_alloc (l := [_, _, _]) Try.zeroValue25) (k := fun r2 hr2 => ?_)
  refine JL_nil ?_
  refine JX_seq ?_
  refine J_seq ?_
  refine J_plan mixed 22 [(true, 0), (true, 1), (true, 2), (true, 3), (true, 4), (true, 5), (true, 6), (true, 7), (true, 8), (true, 9), (true, 10), (true, 11), (true, 12), (true, 13), (true, 14), (true, 15), (true, 16), (true, 17), (true, 18), (true, 19), (true, 20), (true, 21)] (by kernel_rfl) ?_
  refine JD_q (q_fld FO_25_0) (k := ?_)
  refine JD_q (q_load Try.isAgg22) (k := ?_)
  refine JD_q (q_fld FO_25_0) (k := ?_)
  refine JD_q (q_load Try.isAgg22) (k := ?_)
  refine JD_q (q_lenS Try.runUnderlying22) (k := ?_)
  refine JD_q (q_min) (k := ?_)
  refine JD_q (q_sliceHi (c := gc) ((gl.take 66).length) Try.runUnderlying22 (fun w => ⟨_, Try.sizeOf3 w⟩) (by rw [List.length_take]; omega) (hi := by rw [List.length_take]; split <;> omega)) (k := ?_)
  refine JD_q (q_fld FO_25_1) (k := ?_)
  refine JD_q (q_load Try.isAgg23) (k := ?_)
  refine JD_q (q_fld FO_25_1) (k := ?_)
  refine JD_q (q_load Try.isAgg23) (k := ?_)
  refine JD_q (q_lenS Try.runUnderlying23) (k := ?_)
  refine JD_q (q_min) (k := ?_)
  refine JD_q (q_sliceHi (c := uc) ((ul.take 66).length) Try.runUnderlying23 (fun w => ⟨_, Try.sizeOf4 w⟩) (by rw [List.length_take]; omega) (hi := by rw [List.length_take]; split <;> omega)) (k := ?_)
  refine JD_q (q_fld FO_25_2) (k := ?_)
  refine JD_q (q_load Try.isAgg22) (k := ?_)
  refine JD_q (q_fld FO_25_2) (k := ?_)
  refine JD_q (q_load Try.isAgg22) (k := ?_)
  refine JD_q (q_lenS Try.runUnderlying22) (k := ?_)
  refine JD_q (q_min) (k := ?_)
  refine JD_q (q_sliceHi (c := fc) ((fl.take 66).length) Try.runUnderlying22 (fun w => ⟨_, Try.sizeOf3 w⟩) (by rw [List.length_take]; omega) (hi := by rw [List.length_take]; split <;> omega)) (k := ?_)
  refine JD_q (q_build (cs := [_, _, _]) Try.zeroValue25 PL_25) (k := ?_)
  refine JD_nil ?_
  refine JL_s (w_store (l' := [_, _, _]) Try.sizeOf25) (k := ?_)
  refine JL_nil ?_
  refine JX_seq ?_
  refine J_ret ?_
  refine JX_ret Try.results10 (Res.agg Try.isAgg25 Try.sizeOf25 rfl (by repeat (first | exact List.mem_cons_self | apply List.mem_cons_of_mem | apply List.mem_append_right)) rfl Res.nil) (fun w1 hw1 => ?_)
  exact ⟨congrArg Ending.returned (by first | rfl | simp_all | omega), hw1.ext_out⟩
theorem SlotsAll_ok (w : World) {ga ua fa : Option Addr} {gc uc fc : Nat} {gl : List Int} {ul : List Bool} {fl : List Int} {h1 h2 : Int} (hg : Sl w eI 1 ga gl) (hu : Sl w eB 1 ua ul) (hfr : Sl w eI 1 fa fl) (kg : gl.length ≤ gc) (ku : ul.length ≤ uc) (kf : fl.length ≤ fc) : Val Try.prog 6 [(Value.agg [(Value.slice (ga) (gl.length) (gc)), (Value.slice (ua) (ul.length) (uc)), (Value.slice (fa) (fl.length) (fc))].toArray), (Value.agg [(Value.int .i64 (h1)), (Value.int .i64 (h2))].toArray)] w (Value.bool (true)) := by
  have hal := allD_le (gl := gl.take 66) (ul := ul.take 66) (fl := fl.take 66)
  have h66 : (ul.take 66).length ≤ 66 := by rw [List.length_take]; omega
  have h66f : (fl.take 66).length ≤ 66 := by rw [List.length_take]; omega
  have h66g : (gl.take 66).length ≤ 66 := by rw [List.length_take]; omega
  refine enter Try.func6 Try.ntmps6 (h := ?_)
  refine J_seq ?_
  refine J_reg ?_
  refine JL_a noMk (a_box (l := [_, _, _])) (k := fun r1 hr1 => ?_)
  refine JL_a noMk (a_box (l := [_, _])) (k := fun r2 hr2 => ?_)
  refine JL_q (q_assign) (k := ?_)
  refine JL_nil ?_
  refine JX_seq ?_
  refine J_seq ?_
  refine J_reg ?_
  refine JL_v (args := []) (c_callA Try.call9) (fun w1 hw1 => shown_ok w1 ) (k := ?_)
  refine JL_q (q_assign) (k := ?_)
  refine JL_nil ?_
  refine JX_seq ?_
  refine J_seq ?_
  refine J_reg ?_
  refine JL_q (q_loadA Try.isAgg25 Try.sizeOf25) (k := ?_)
  refine JL_v (args := [(Value.agg [(Value.slice (ga) (gl.length) (gc)), (Value.slice (ua) (ul.length) (uc)), (Value.slice (fa) (fl.length) (fc))].toArray)]) (c_callA Try.call10) (fun w1 hw1 => Cut_ok w1 (fl := fl) (ul := ul) (gl := gl) (hg := (SlJ.of_base hg) w1 hw1) (hu := (SlJ.of_base hu) w1 hw1) (hfr := (SlJ.of_base hfr) w1 hw1) (kg := by first | omega | (rw [List.length_take]; omega)) (ku := by first | omega | (rw [List.length_take]; omega)) (kf := by first | omega | (rw [List.length_take]; omega))) (k := ?_)
  refine JL_s (w_store (l' := [_, _, _]) Try.sizeOf25) (k := ?_)
  refine JL_nil ?_
  refine JX_seq ?_
  refine J_seq ?_
  refine J_reg ?_
  refine JL_q (q_loadA Try.isAgg25 Try.sizeOf25) (k := ?_)
  refine JL_p (args := [(Value.agg [(Value.slice (ga) ((gl.take 66).length) (gc)), (Value.slice (ua) ((ul.take 66).length) (uc)), (Value.slice (fa) ((fl.take 66).length) (fc))].toArray)]) (c_callA Try.call18) (fun w1 hw1 => All_ok w1 (fl := fl.take 66) (ul := ul.take 66) (gl := gl.take 66) (hg := ((SlJ.of_base hg).take 66) w1 hw1) (hu := ((SlJ.of_base hu).take 66) w1 hw1) (hfr := ((SlJ.of_base hfr).take 66) w1 hw1) (ng := by first | omega | (rw [List.length_take]; omega)) (nu := by first | omega | (rw [List.length_take]; omega)) (nf := by first | omega | (rw [List.length_take]; omega))) (k := ?_)
  rintro w1_1 e1_1 w2_1 hw1_1 ⟨a2_1, c2_1, B_1, he_1, hf_1, ho_1⟩
  refine ⟨_, (B_1 ++ ((r2, Obj.cells [(Value.int .i64 (h1)), (Value.int .i64 (h2))].toArray 27) :: ((r1, Obj.cells [(Value.slice (ga) ((gl.take 66).length) (gc)), (Value.slice (ua) ((ul.take 66).length) (uc)), (Value.slice (fa) ((fl.take 66).length) (fc))].toArray 25) :: []))), he_1, hw1_1.fresh hf_1, ?_⟩
  refine JL_q (q_assign) (k := ?_)
  refine JL_nil ?_
  refine JX_seq ?_
  refine J_seq ?_
  refine J_reg ?_
  refine JL_q (q_assign) (k := ?_)
  refine JL_nil ?_
  refine JX_seq ?_
  refine J_seq ?_
  refine J_seq ?_
  refine J_reg ?_
  refine JL_q (q_assign) (k := ?_)
  refine JL_nil ?_
  refine JX_seq ?_
  refine J_block ?_
  refine J_loop1 (σ1 := Nat) (fun k => (B_1 ++ ((r2, Obj.cells [(Value.int .i64 (h1)), (Value.int .i64 (h2))].toArray 27) :: ((r1, Obj.cells [(Value.slice (ga) ((gl.take 66).length) (gc)), (Value.slice (ua) ((ul.take 66).length) (uc)), (Value.slice (fa) ((fl.take 66).length) (fc))].toArray 25) :: [])))) (fun k => [(2, (Value.pointer (some ⟨r1, 0, none⟩))), (3, (Value.pointer (some ⟨r2, 0, none⟩))), (5, (Value.bool (true))), (6, (Value.slice (a2_1) ((allD (gl.take 66) (ul.take 66) (fl.take 66)).length) (c2_1))), (7, (Value.bool (decide ((h1, h2) ∈ (allD (gl.take 66) (ul.take 66) (fl.take 66)).take k)))), (8, (Value.int .i64 (((k : Nat) : Int))))]) (fun k => k ≤ (allD (gl.take 66) (ul.take 66) (fl.take 66)).length) (fun k => (allD (gl.take 66) (ul.take 66) (fl.take 66)).length - k) (0) ?_ (.cons (t := 2) rfl (.cons (t := 3) rfl (.cons (t := 5) rfl (.cons (t := 6) rfl (.cons (t := 7) rfl (.cons (t := 8) rfl .nil)))))) (List.Perm.refl _) ?_
  · omega
  · rintro k hk
    refine J_seq ?_
    refine J_seq ?_
    refine J_reg ?_
    refine JL_q (q_move) (k := ?_)
    refine JL_q (q_move) (k := ?_)
    refine JL_q (q_lenS Try.runUnderlying38) (k := ?_)
    refine JL_q (q_lss) (k := ?_)
    refine JL_nil ?_
    refine JX_seq ?_
    refine J_dec rfl (fun hq2 => ?_) (fun hq2 => ?_)
    · first
      | (exfalso; omega)
      | (exfalso; exact hq2 (getD_mem (by omega)))
      | (exfalso; exact absurd hq2 (by have := allD_lt (gl := gl.take 66) (ul := ul.take 66) (fl := fl.take 66) (k := k) (by omega) (by omega); omega))
      | (exfalso; exact absurd ‹(!(rightB (gl.take 66) (ul.take 66) (fl.take 66))) = false› (by rw [hq2]; decide))
      |
        refine J_skip ?_
        refine JX_seq ?_
        refine J_seq ?_
        refine J_block ?_
        refine J_seq ?_
        refine J_plan mixed 10 [(true, 0), (true, 1), (true, 2), (true, 3), (true, 4), (true, 5), (true, 6), (true, 7), (true, 8), (true, 9)] (by kernel_rfl) ?_
        refine JD_q (q_move) (k := ?_)
        refine JD_q (q_move) (k := ?_)
        refine JD_dec 21 rfl (fun hq3 => ?_) (fun hq3 => ?_)
        · first
          | (exfalso; omega)
          | (exfalso; exact hq3 (getD_mem (by omega)))
          | (exfalso; exact absurd hq3 (by have := allD_lt (gl := gl.take 66) (ul := ul.take 66) (fl := fl.take 66) (k := k) (by omega) (by omega); omega))
          | (exfalso; exact absurd ‹(!(rightB (gl.take 66) (ul.take 66) (fl.take 66))) = false› (by rw [hq3]; decide))
          |
            refine JD_skip (k := ?_)
            refine JD_skip (k := ?_)
            refine JD_skip (k := ?_)
            refine JD_skip (k := ?_)
            refine JD_skip (k := ?_)
            refine JD_skip (k := ?_)
            refine JD_q (q_pickT) (k := ?_)
            refine JD_q (q_assign) (k := ?_)
            refine JD_nil ?_
            refine JL_nil ?_
            refine JX_seq ?_
            refine J_seq ?_
            refine J_plan mixed 25 [(true, 0), (true, 1), (true, 2), (true, 3), (true, 4), (false, 5), (true, 6), (true, 7), (true, 8), (true, 9), (true, 10), (true, 11), (true, 12), (true, 13), (true, 14), (true, 15), (true, 16), (true, 17), (true, 18), (true, 19), (true, 20), (true, 21), (true, 22), (true, 23), (true, 24)] (by kernel_rfl) ?_
            refine JD_q (q_loadA Try.isAgg25 Try.sizeOf25) (k := ?_)
            refine JD_q (q_move) (k := ?_)
            refine JD_q (q_move) (k := ?_)
            refine JD_q (q_idx (n := (allD (gl.take 66) (ul.take 66) (fl.take 66)).length) Try.runUnderlying38 Try.sizeOf27 (k) (ho_1.slj eH_ok) (gD (by omega)) (by first | rfl | simp)) (k := ?_)
            refine JD_q (q_loadEA Try.isAgg27 Try.sizeOf27 (k) (ho_1.slj eH_ok) (gD (by omega))) (k := ?_)
            refine JD_v (args := [(Value.agg [(Value.slice (ga) ((gl.take 66).length) (gc)), (Value.slice (ua) ((ul.take 66).length) (uc)), (Value.slice (fa) ((fl.take 66).length) (fc))].toArray), (Value.agg [(Value.int .i64 (((allD (gl.take 66) (ul.take 66) (fl.take 66)).getD k default).1)), (Value.int .i64 (((allD (gl.take 66) (ul.take 66) (fl.take 66)).getD k default).2))].toArray)]) (c_callA Try.call17) (fun w1 hw1 => Valid_ok w1 (fl := fl.take 66) (ul := ul.take 66) (gl := gl.take 66) (hg := ((SlJ.of_base hg).take 66) w1 hw1) (hu := ((SlJ.of_base hu).take 66) w1 hw1) (hfr := ((SlJ.of_base hfr).take 66) w1 hw1) (ng := by first | omega | (rw [List.length_take]; omega)) (nu := by first | omega | (rw [List.length_take]; omega)) (nf := by first | omega | (rw [List.length_take]; omega))) (k := ?_)
            refine JD_q (q_notD) (k := ?_)
            refine JD_q (q_move) (k := ?_)
            refine JD_dec 36 rfl (fun hq4 => ?_) (fun hq4 => ?_)
            · first
              | (exfalso; omega)
              | (exfalso; exact hq4 (getD_mem (by omega)))
              | (exfalso; exact absurd hq4 (by have := allD_lt (gl := gl.take 66) (ul := ul.take 66) (fl := fl.take 66) (k := k) (by omega) (by omega); omega))
              | (exfalso; exact absurd ‹(!(rightB (gl.take 66) (ul.take 66) (fl.take 66))) = false› (by rw [hq4]; decide))
              |
                refine JD_skip (k := ?_)
                refine JD_skip (k := ?_)
                refine JD_skip (k := ?_)
                refine JD_skip (k := ?_)
                refine JD_skip (k := ?_)
                refine JD_skip (k := ?_)
                refine JD_skip (k := ?_)
                refine JD_skip (k := ?_)
                refine JD_skip (k := ?_)
                refine JD_skip (k := ?_)
                refine JD_skip (k := ?_)
                refine JD_skip (k := ?_)
                refine JD_skip (k := ?_)
                refine JD_skip (k := ?_)
                refine JD_skip (k := ?_)
                refine JD_skip (k := ?_)
                refine JD_q (q_pickT) (k := ?_)
                refine JD_nil ?_
                refine JL_nil ?_
                refine JX_seq ?_
                refine J_true rfl ?_
                refine J_seq ?_
                refine J_reg ?_
                refine JL_q (q_assign) (k := ?_)
                refine JL_nil ?_
                refine JX_seq ?_
                refine J_ret ?_
                refine JX_block_ret ?_
                refine JX_seq_ret ?_
                refine JX_inv_ret ?_
                refine JX_block_ret ?_
                refine JX_seq_ret ?_
                refine JX_ret Try.results6 (Res.tmp rfl Res.nil) (fun w1 hw1 => ?_)
                exact ⟨congrArg Ending.returned (congrArg Value.bool (by rfl)), hw1.ext_out⟩
            · first
              | (exfalso; omega)
              | (exfalso; exact hq4 (getD_mem (by omega)))
              | (exfalso; exact absurd hq4 (by have := allD_lt (gl := gl.take 66) (ul := ul.take 66) (fl := fl.take 66) (k := k) (by omega) (by omega); omega))
              | (exfalso; exact absurd ‹(!(rightB (gl.take 66) (ul.take 66) (fl.take 66))) = false› (by rw [hq4]; decide))
              |
                refine JD_qg (q_move) (k := ?_)
                refine JD_qg (q_gtr) (k := ?_)
                refine JD_qg (q_move) (k := ?_)
                refine JD_dec 39 rfl (fun hq5 => ?_) (fun hq5 => ?_)
                · first
                  | (exfalso; omega)
                  | (exfalso; exact hq5 (getD_mem (by omega)))
                  | (exfalso; exact absurd hq5 (by have := allD_lt (gl := gl.take 66) (ul := ul.take 66) (fl := fl.take 66) (k := k) (by omega) (by omega); omega))
                  | (exfalso; exact absurd ‹(!(rightB (gl.take 66) (ul.take 66) (fl.take 66))) = false› (by rw [hq5]; decide))
                  |
                    refine JD_qg (q_move) (k := ?_)
                    refine JD_qg (q_move) (k := ?_)
                    refine JD_qg (q_idx (n := (allD (gl.take 66) (ul.take 66) (fl.take 66)).length) Try.runUnderlying38 Try.sizeOf27 (k) (ho_1.slj eH_ok) (gD (by omega)) (by first | rfl | simp)) (k := ?_)
                    refine JD_qg (q_fldE FO_27_0) (k := ?_)
                    refine JD_qg (q_loadE Try.isAgg3 (k) 0 (ho_1.slj eH_ok) (gD (by omega))) (k := ?_)
                    refine JD_qg (q_move) (k := ?_)
                    refine JD_qg (q_move) (k := ?_)
                    refine JD_qg (q_sub) (k := ?_)
                    refine JD_qg (q_idx (n := (allD (gl.take 66) (ul.take 66) (fl.take 66)).length) Try.runUnderlying38 Try.sizeOf27 (((((k : Nat) : Int) - 1)).toNat) (ho_1.slj eH_ok) (gD (by omega)) (by first | rfl | simp)) (k := ?_)
                    refine JD_qg (q_fldE FO_27_0) (k := ?_)
                    refine JD_qg (q_loadE Try.isAgg3 (((((k : Nat) : Int) - 1)).toNat) 0 (ho_1.slj eH_ok) (gD (by omega))) (k := ?_)
                    refine JD_qg (q_leq) (k := ?_)
                    refine JD_qg (q_pickT) (k := ?_)
                    refine JD_q (q_pickF) (k := ?_)
                    refine JD_nil ?_
                    refine JL_nil ?_
                    refine JX_seq ?_
                    refine J_dec rfl (fun hq6 => ?_) (fun hq6 => ?_)
                    · first
                      | (exfalso; omega)
                      | (exfalso; exact hq6 (getD_mem (by omega)))
                      | (exfalso; exact absurd hq6 (by have := allD_lt (gl := gl.take 66) (ul := ul.take 66) (fl := fl.take 66) (k := k) (by omega) (by omega); omega))
                      | (exfalso; exact absurd ‹(!(rightB (gl.take 66) (ul.take 66) (fl.take 66))) = false› (by rw [hq6]; decide))
                      |
                        refine J_seq ?_
                        refine J_reg ?_
                        refine JL_q (q_assign) (k := ?_)
                        refine JL_nil ?_
                        refine JX_seq ?_
                        refine J_ret ?_
                        refine JX_block_ret ?_
                        refine JX_seq_ret ?_
                        refine JX_inv_ret ?_
                        refine JX_block_ret ?_
                        refine JX_seq_ret ?_
                        refine JX_ret Try.results6 (Res.tmp rfl Res.nil) (fun w1 hw1 => ?_)
                        exact ⟨congrArg Ending.returned (congrArg Value.bool (by rfl)), hw1.ext_out⟩
                    · first
                      | (exfalso; omega)
                      | (exfalso; exact hq6 (getD_mem (by omega)))
                      | (exfalso; exact absurd hq6 (by have := allD_lt (gl := gl.take 66) (ul := ul.take 66) (fl := fl.take 66) (k := k) (by omega) (by omega); omega))
                      | (exfalso; exact absurd ‹(!(rightB (gl.take 66) (ul.take 66) (fl.take 66))) = false› (by rw [hq6]; decide))
                      |
                        refine J_skip ?_
                        refine JX_block ?_
                        refine JX_seq ?_
                        refine J_reg ?_
                        refine JL_q (q_move) (k := ?_)
                        refine JL_q (q_add) (k := ?_)
                        refine JL_q (q_assign) (k := ?_)
                        refine JL_nil ?_
                        refine JX_alter 7 (Value.bool (decide ((h1, h2) ∈ (allD (gl.take 66) (ul.take 66) (fl.take 66)).take (k + 1)))) rfl (congrArg Value.bool (by first | exact in_t ‹_› | exact in_f (by omega) ‹_›)) ?_
                        refine JX_inv1 (k + 1) ?_ ?_ (.cons (t := 2) rfl (.cons (t := 3) rfl (.cons (t := 5) rfl (.cons (t := 6) rfl (.cons (t := 7) rfl (.cons (t := 8) rfl .nil)))))) (List.Perm.refl _)
                        · omega
                        · omega
                · first
                  | (exfalso; omega)
                  | (exfalso; exact hq5 (getD_mem (by omega)))
                  | (exfalso; exact absurd hq5 (by have := allD_lt (gl := gl.take 66) (ul := ul.take 66) (fl := fl.take 66) (k := k) (by omega) (by omega); omega))
                  | (exfalso; exact absurd ‹(!(rightB (gl.take 66) (ul.take 66) (fl.take 66))) = false› (by rw [hq5]; decide))
                  |
                    refine JD_skip (k := ?_)
                    refine JD_skip (k := ?_)
                    refine JD_skip (k := ?_)
                    refine JD_skip (k := ?_)
                    refine JD_skip (k := ?_)
                    refine JD_skip (k := ?_)
                    refine JD_skip (k := ?_)
                    refine JD_skip (k := ?_)
                    refine JD_skip (k := ?_)
                    refine JD_skip (k := ?_)
                    refine JD_skip (k := ?_)
                    refine JD_skip (k := ?_)
                    refine JD_qg (q_pickF) (k := ?_)
                    refine JD_q (q_pickF) (k := ?_)
                    refine JD_nil ?_
                    refine JL_nil ?_
                    refine JX_seq ?_
                    refine J_false rfl ?_
                    refine J_skip ?_
                    refine JX_block ?_
                    refine JX_seq ?_
                    refine J_reg ?_
                    refine JL_q (q_move) (k := ?_)
                    refine JL_q (q_add) (k := ?_)
                    refine JL_q (q_assign) (k := ?_)
                    refine JL_nil ?_
                    refine JX_alter 7 (Value.bool (decide ((h1, h2) ∈ (allD (gl.take 66) (ul.take 66) (fl.take 66)).take (k + 1)))) rfl (congrArg Value.bool (by first | exact in_t ‹_› | exact in_f (by omega) ‹_›)) ?_
                    refine JX_inv1 (k + 1) ?_ ?_ (.cons (t := 2) rfl (.cons (t := 3) rfl (.cons (t := 5) rfl (.cons (t := 6) rfl (.cons (t := 7) rfl (.cons (t := 8) rfl .nil)))))) (List.Perm.refl _)
                    · omega
                    · omega
        · first
          | (exfalso; omega)
          | (exfalso; exact hq3 (getD_mem (by omega)))
          | (exfalso; exact absurd hq3 (by have := allD_lt (gl := gl.take 66) (ul := ul.take 66) (fl := fl.take 66) (k := k) (by omega) (by omega); omega))
          | (exfalso; exact absurd ‹(!(rightB (gl.take 66) (ul.take 66) (fl.take 66))) = false› (by rw [hq3]; decide))
          |
            refine JD_qg (q_move) (k := ?_)
            refine JD_qg (q_move) (k := ?_)
            refine JD_qg (q_idx (n := (allD (gl.take 66) (ul.take 66) (fl.take 66)).length) Try.runUnderlying38 Try.sizeOf27 (k) (ho_1.slj eH_ok) (gD (by omega)) (by first | rfl | simp)) (k := ?_)
            refine JD_qg (q_loadEA Try.isAgg27 Try.sizeOf27 (k) (ho_1.slj eH_ok) (gD (by omega))) (k := ?_)
            refine JD_qg (q_loadA Try.isAgg27 Try.sizeOf27) (k := ?_)
            refine JD_qg (q_eqS (EQo_27 _ _ _ _ _ _)) (k := ?_)
            refine JD_q (q_pickF) (k := ?_)
            refine JD_q (q_assign) (k := ?_)
            refine JD_nil ?_
            refine JL_nil ?_
            refine JX_seq ?_
            refine J_seq ?_
            refine J_plan mixed 25 [(true, 0), (true, 1), (true, 2), (true, 3), (true, 4), (false, 5), (true, 6), (true, 7), (true, 8), (true, 9), (true, 10), (true, 11), (true, 12), (true, 13), (true, 14), (true, 15), (true, 16), (true, 17), (true, 18), (true, 19), (true, 20), (true, 21), (true, 22), (true, 23), (true, 24)] (by kernel_rfl) ?_
            refine JD_q (q_loadA Try.isAgg25 Try.sizeOf25) (k := ?_)
            refine JD_q (q_move) (k := ?_)
            refine JD_q (q_move) (k := ?_)
            refine JD_q (q_idx (n := (allD (gl.take 66) (ul.take 66) (fl.take 66)).length) Try.runUnderlying38 Try.sizeOf27 (k) (ho_1.slj eH_ok) (gD (by omega)) (by first | rfl | simp)) (k := ?_)
            refine JD_q (q_loadEA Try.isAgg27 Try.sizeOf27 (k) (ho_1.slj eH_ok) (gD (by omega))) (k := ?_)
            refine JD_v (args := [(Value.agg [(Value.slice (ga) ((gl.take 66).length) (gc)), (Value.slice (ua) ((ul.take 66).length) (uc)), (Value.slice (fa) ((fl.take 66).length) (fc))].toArray), (Value.agg [(Value.int .i64 (((allD (gl.take 66) (ul.take 66) (fl.take 66)).getD k default).1)), (Value.int .i64 (((allD (gl.take 66) (ul.take 66) (fl.take 66)).getD k default).2))].toArray)]) (c_callA Try.call17) (fun w1 hw1 => Valid_ok w1 (fl := fl.take 66) (ul := ul.take 66) (gl := gl.take 66) (hg := ((SlJ.of_base hg).take 66) w1 hw1) (hu := ((SlJ.of_base hu).take 66) w1 hw1) (hfr := ((SlJ.of_base hfr).take 66) w1 hw1) (ng := by first | omega | (rw [List.length_take]; omega)) (nu := by first | omega | (rw [List.length_take]; omega)) (nf := by first | omega | (rw [List.length_take]; omega))) (k := ?_)
            refine JD_q (q_notD) (k := ?_)
            refine JD_q (q_move) (k := ?_)
            refine JD_dec 36 rfl (fun hq7 => ?_) (fun hq7 => ?_)
            · first
              | (exfalso; omega)
              | (exfalso; exact hq7 (getD_mem (by omega)))
              | (exfalso; exact absurd hq7 (by have := allD_lt (gl := gl.take 66) (ul := ul.take 66) (fl := fl.take 66) (k := k) (by omega) (by omega); omega))
              | (exfalso; exact absurd ‹(!(rightB (gl.take 66) (ul.take 66) (fl.take 66))) = false› (by rw [hq7]; decide))
              |
                refine JD_skip (k := ?_)
                refine JD_skip (k := ?_)
                refine JD_skip (k := ?_)
                refine JD_skip (k := ?_)
                refine JD_skip (k := ?_)
                refine JD_skip (k := ?_)
                refine JD_skip (k := ?_)
                refine JD_skip (k := ?_)
                refine JD_skip (k := ?_)
                refine JD_skip (k := ?_)
                refine JD_skip (k := ?_)
                refine JD_skip (k := ?_)
                refine JD_skip (k := ?_)
                refine JD_skip (k := ?_)
                refine JD_skip (k := ?_)
                refine JD_skip (k := ?_)
                refine JD_q (q_pickT) (k := ?_)
                refine JD_nil ?_
                refine JL_nil ?_
                refine JX_seq ?_
                refine J_true rfl ?_
                refine J_seq ?_
                refine J_reg ?_
                refine JL_q (q_assign) (k := ?_)
                refine JL_nil ?_
                refine JX_seq ?_
                refine J_ret ?_
                refine JX_block_ret ?_
                refine JX_seq_ret ?_
                refine JX_inv_ret ?_
                refine JX_block_ret ?_
                refine JX_seq_ret ?_
                refine JX_ret Try.results6 (Res.tmp rfl Res.nil) (fun w1 hw1 => ?_)
                exact ⟨congrArg Ending.returned (congrArg Value.bool (by rfl)), hw1.ext_out⟩
            · first
              | (exfalso; omega)
              | (exfalso; exact hq7 (getD_mem (by omega)))
              | (exfalso; exact absurd hq7 (by have := allD_lt (gl := gl.take 66) (ul := ul.take 66) (fl := fl.take 66) (k := k) (by omega) (by omega); omega))
              | (exfalso; exact absurd ‹(!(rightB (gl.take 66) (ul.take 66) (fl.take 66))) = false› (by rw [hq7]; decide))
              |
                refine JD_qg (q_move) (k := ?_)
                refine JD_qg (q_gtr) (k := ?_)
                refine JD_qg (q_move) (k := ?_)
                refine JD_dec 39 rfl (fun hq8 => ?_) (fun hq8 => ?_)
                · first
                  | (exfalso; omega)
                  | (exfalso; exact hq8 (getD_mem (by omega)))
                  | (exfalso; exact absurd hq8 (by have := allD_lt (gl := gl.take 66) (ul := ul.take 66) (fl := fl.take 66) (k := k) (by omega) (by omega); omega))
                  | (exfalso; exact absurd ‹(!(rightB (gl.take 66) (ul.take 66) (fl.take 66))) = false› (by rw [hq8]; decide))
                  |
                    refine JD_qg (q_move) (k := ?_)
                    refine JD_qg (q_move) (k := ?_)
                    refine JD_qg (q_idx (n := (allD (gl.take 66) (ul.take 66) (fl.take 66)).length) Try.runUnderlying38 Try.sizeOf27 (k) (ho_1.slj eH_ok) (gD (by omega)) (by first | rfl | simp)) (k := ?_)
                    refine JD_qg (q_fldE FO_27_0) (k := ?_)
                    refine JD_qg (q_loadE Try.isAgg3 (k) 0 (ho_1.slj eH_ok) (gD (by omega))) (k := ?_)
                    refine JD_qg (q_move) (k := ?_)
                    refine JD_qg (q_move) (k := ?_)
                    refine JD_qg (q_sub) (k := ?_)
                    refine JD_qg (q_idx (n := (allD (gl.take 66) (ul.take 66) (fl.take 66)).length) Try.runUnderlying38 Try.sizeOf27 (((((k : Nat) : Int) - 1)).toNat) (ho_1.slj eH_ok) (gD (by omega)) (by first | rfl | simp)) (k := ?_)
                    refine JD_qg (q_fldE FO_27_0) (k := ?_)
                    refine JD_qg (q_loadE Try.isAgg3 (((((k : Nat) : Int) - 1)).toNat) 0 (ho_1.slj eH_ok) (gD (by omega))) (k := ?_)
                    refine JD_qg (q_leq) (k := ?_)
                    refine JD_qg (q_pickT) (k := ?_)
                    refine JD_q (q_pickF) (k := ?_)
                    refine JD_nil ?_
                    refine JL_nil ?_
                    refine JX_seq ?_
                    refine J_dec rfl (fun hq9 => ?_) (fun hq9 => ?_)
                    · first
                      | (exfalso; omega)
                      | (exfalso; exact hq9 (getD_mem (by omega)))
                      | (exfalso; exact absurd hq9 (by have := allD_lt (gl := gl.take 66) (ul := ul.take 66) (fl := fl.take 66) (k := k) (by omega) (by omega); omega))
                      | (exfalso; exact absurd ‹(!(rightB (gl.take 66) (ul.take 66) (fl.take 66))) = false› (by rw [hq9]; decide))
                      |
                        refine J_seq ?_
                        refine J_reg ?_
                        refine JL_q (q_assign) (k := ?_)
                        refine JL_nil ?_
                        refine JX_seq ?_
                        refine J_ret ?_
                        refine JX_block_ret ?_
                        refine JX_seq_ret ?_
                        refine JX_inv_ret ?_
                        refine JX_block_ret ?_
                        refine JX_seq_ret ?_
                        refine JX_ret Try.results6 (Res.tmp rfl Res.nil) (fun w1 hw1 => ?_)
                        exact ⟨congrArg Ending.returned (congrArg Value.bool (by rfl)), hw1.ext_out⟩
                    · first
                      | (exfalso; omega)
                      | (exfalso; exact hq9 (getD_mem (by omega)))
                      | (exfalso; exact absurd hq9 (by have := allD_lt (gl := gl.take 66) (ul := ul.take 66) (fl := fl.take 66) (k := k) (by omega) (by omega); omega))
                      | (exfalso; exact absurd ‹(!(rightB (gl.take 66) (ul.take 66) (fl.take 66))) = false› (by rw [hq9]; decide))
                      |
                        refine J_skip ?_
                        refine JX_block ?_
                        refine JX_seq ?_
                        refine J_reg ?_
                        refine JL_q (q_move) (k := ?_)
                        refine JL_q (q_add) (k := ?_)
                        refine JL_q (q_assign) (k := ?_)
                        refine JL_nil ?_
                        refine JX_alter 7 (Value.bool (decide ((h1, h2) ∈ (allD (gl.take 66) (ul.take 66) (fl.take 66)).take (k + 1)))) rfl (congrArg Value.bool (by first | exact in_t ‹_› | exact in_f (by omega) ‹_›)) ?_
                        refine JX_inv1 (k + 1) ?_ ?_ (.cons (t := 2) rfl (.cons (t := 3) rfl (.cons (t := 5) rfl (.cons (t := 6) rfl (.cons (t := 7) rfl (.cons (t := 8) rfl .nil)))))) (List.Perm.refl _)
                        · omega
                        · omega
                · first
                  | (exfalso; omega)
                  | (exfalso; exact hq8 (getD_mem (by omega)))
                  | (exfalso; exact absurd hq8 (by have := allD_lt (gl := gl.take 66) (ul := ul.take 66) (fl := fl.take 66) (k := k) (by omega) (by omega); omega))
                  | (exfalso; exact absurd ‹(!(rightB (gl.take 66) (ul.take 66) (fl.take 66))) = false› (by rw [hq8]; decide))
                  |
                    refine JD_skip (k := ?_)
                    refine JD_skip (k := ?_)
                    refine JD_skip (k := ?_)
                    refine JD_skip (k := ?_)
                    refine JD_skip (k := ?_)
                    refine JD_skip (k := ?_)
                    refine JD_skip (k := ?_)
                    refine JD_skip (k := ?_)
                    refine JD_skip (k := ?_)
                    refine JD_skip (k := ?_)
                    refine JD_skip (k := ?_)
                    refine JD_skip (k := ?_)
                    refine JD_qg (q_pickF) (k := ?_)
                    refine JD_q (q_pickF) (k := ?_)
                    refine JD_nil ?_
                    refine JL_nil ?_
                    refine JX_seq ?_
                    refine J_false rfl ?_
                    refine J_skip ?_
                    refine JX_block ?_
                    refine JX_seq ?_
                    refine J_reg ?_
                    refine JL_q (q_move) (k := ?_)
                    refine JL_q (q_add) (k := ?_)
                    refine JL_q (q_assign) (k := ?_)
                    refine JL_nil ?_
                    refine JX_alter 7 (Value.bool (decide ((h1, h2) ∈ (allD (gl.take 66) (ul.take 66) (fl.take 66)).take (k + 1)))) rfl (congrArg Value.bool (by first | exact in_t ‹_› | exact in_f (by omega) ‹_›)) ?_
                    refine JX_inv1 (k + 1) ?_ ?_ (.cons (t := 2) rfl (.cons (t := 3) rfl (.cons (t := 5) rfl (.cons (t := 6) rfl (.cons (t := 7) rfl (.cons (t := 8) rfl .nil)))))) (List.Perm.refl _)
                    · omega
                    · omega
    · first
      | (exfalso; omega)
      | (exfalso; exact hq2 (getD_mem (by omega)))
      | (exfalso; exact absurd hq2 (by have := allD_lt (gl := gl.take 66) (ul := ul.take 66) (fl := fl.take 66) (k := k) (by omega) (by omega); omega))
      | (exfalso; exact absurd ‹(!(rightB (gl.take 66) (ul.take 66) (fl.take 66))) = false› (by rw [hq2]; decide))
      |
        refine J_exit ?_
        refine JX_seq_exit ?_
        refine JX_inv_exit ?_
        refine JX_block_hit ?_
        refine JX_seq ?_
        refine J_seq ?_
        refine J_reg ?_
        refine JL_q (q_move) (k := ?_)
        refine JL_q (q_move) (k := ?_)
        refine JL_qg (q_move) (k := ?_)
        refine JL_qg (q_loadA Try.isAgg25 Try.sizeOf25) (k := ?_)
        refine JL_qg (q_loadA Try.isAgg27 Try.sizeOf27) (k := ?_)
        refine JL_vg (args := [(Value.agg [(Value.slice (ga) ((gl.take 66).length) (gc)), (Value.slice (ua) ((ul.take 66).length) (uc)), (Value.slice (fa) ((fl.take 66).length) (fc))].toArray), (Value.agg [(Value.int .i64 (h1)), (Value.int .i64 (h2))].toArray)]) (c_callA Try.call17) (fun w1 hw1 => Valid_ok w1 (fl := fl.take 66) (ul := ul.take 66) (gl := gl.take 66) (hg := ((SlJ.of_base hg).take 66) w1 hw1) (hu := ((SlJ.of_base hu).take 66) w1 hw1) (hfr := ((SlJ.of_base hfr).take 66) w1 hw1) (ng := by first | omega | (rw [List.length_take]; omega)) (nu := by first | omega | (rw [List.length_take]; omega)) (nf := by first | omega | (rw [List.length_take]; omega))) (k := ?_)
        refine JL_qg (q_eqlB Try.runUnderlying4) (k := ?_)
        refine JL_alter 60 (Value.bool (true)) rfl (congrArg Value.bool (in_end (by omega))) ?_
        refine JL_q (q_pickT) (k := ?_)
        refine JL_q (q_move) (k := ?_)
        refine JL_qg (q_loadA Try.isAgg25 Try.sizeOf25) (k := ?_)
        refine JL_vg (args := [(Value.agg [(Value.slice (ga) ((gl.take 66).length) (gc)), (Value.slice (ua) ((ul.take 66).length) (uc)), (Value.slice (fa) ((fl.take 66).length) (fc))].toArray)]) (c_callA Try.call16) (fun w1 hw1 => Right_ok w1 (fl := fl.take 66) (ul := ul.take 66) (gl := gl.take 66) (hg := ((SlJ.of_base hg).take 66) w1 hw1) (hu := ((SlJ.of_base hu).take 66) w1 hw1) (hfr := ((SlJ.of_base hfr).take 66) w1 hw1) (ng := by first | omega | (rw [List.length_take]; omega)) (nu := by first | omega | (rw [List.length_take]; omega)) (nf := by first | omega | (rw [List.length_take]; omega))) (k := ?_)
        refine JL_qg (q_not) (k := ?_)
        refine JL_qg (q_move) (k := ?_)
        refine JL_bool 66 rfl (fun hq10 => ?_) (fun hq10 => ?_)
        · first
          | (exfalso; omega)
          | (exfalso; exact hq10 (getD_mem (by omega)))
          | (exfalso; exact absurd hq10 (by have := allD_lt (gl := gl.take 66) (ul := ul.take 66) (fl := fl.take 66) (k := k) (by omega) (by omega); omega))
          | (exfalso; exact absurd ‹(!(rightB (gl.take 66) (ul.take 66) (fl.take 66))) = false› (by rw [hq10]; decide))
          |
            refine JL_qg (q_move) (k := ?_)
            refine JL_qg (q_lenS Try.runUnderlying38) (k := ?_)
            refine JL_qg (q_eql) (k := ?_)
            refine JL_alter 69 (Value.bool (true)) rfl (congrArg Value.bool (decide_eq_true (all_zero ‹_›))) ?_
            refine JL_qg (q_pickT) (k := ?_)
            refine JL_qg (q_move) (k := ?_)
            refine JL_skip (k := ?_)
            refine JL_skip (k := ?_)
            refine JL_skip (k := ?_)
            refine JL_skip (k := ?_)
            refine JL_skip (k := ?_)
            refine JL_skip (k := ?_)
            refine JL_skip (k := ?_)
            refine JL_skip (k := ?_)
            refine JL_skip (k := ?_)
            refine JL_skip (k := ?_)
            refine JL_skip (k := ?_)
            refine JL_skip (k := ?_)
            refine JL_skip (k := ?_)
            refine JL_skip (k := ?_)
            refine JL_qg (q_pickT) (k := ?_)
            refine JL_q (q_pickT) (k := ?_)
            refine JL_q (q_assign) (k := ?_)
            refine JL_nil ?_
            refine JX_seq ?_
            refine J_ret ?_
            refine JX_ret Try.results6 (Res.tmp rfl Res.nil) (fun w1 hw1 => ?_)
            exact ⟨congrArg Ending.returned (congrArg Value.bool (by rfl)), hw1.ext_out⟩
        · first
          | (exfalso; omega)
          | (exfalso; exact hq10 (getD_mem (by omega)))
          | (exfalso; exact absurd hq10 (by have := allD_lt (gl := gl.take 66) (ul := ul.take 66) (fl := fl.take 66) (k := k) (by omega) (by omega); omega))
          | (exfalso; exact absurd ‹(!(rightB (gl.take 66) (ul.take 66) (fl.take 66))) = false› (by rw [hq10]; decide))
          |
            refine JL_skip (k := ?_)
            refine JL_skip (k := ?_)
            refine JL_skip (k := ?_)
            refine JL_qg (q_pickF) (k := ?_)
            refine JL_qg (q_move) (k := ?_)
            refine JL_qg (q_loadA Try.isAgg25 Try.sizeOf25) (k := ?_)
            refine JL_vg (args := [(Value.agg [(Value.slice (ga) ((gl.take 66).length) (gc)), (Value.slice (ua) ((ul.take 66).length) (uc)), (Value.slice (fa) ((fl.take 66).length) (fc))].toArray)]) (c_callA Try.call16) (fun w1 hw1 => Right_ok w1 (fl := fl.take 66) (ul := ul.take 66) (gl := gl.take 66) (hg := ((SlJ.of_base hg).take 66) w1 hw1) (hu := ((SlJ.of_base hu).take 66) w1 hw1) (hfr := ((SlJ.of_base hfr).take 66) w1 hw1) (ng := by first | omega | (rw [List.length_take]; omega)) (nu := by first | omega | (rw [List.length_take]; omega)) (nf := by first | omega | (rw [List.length_take]; omega))) (k := ?_)
            refine JL_qg (q_move) (k := ?_)
            refine JL_bool 74 rfl (fun hq11 => ?_) (fun hq11 => ?_)
            · first
              | (exfalso; omega)
              | (exfalso; exact hq11 (getD_mem (by omega)))
              | (exfalso; exact absurd hq11 (by have := allD_lt (gl := gl.take 66) (ul := ul.take 66) (fl := fl.take 66) (k := k) (by omega) (by omega); omega))
              | (exfalso; exact absurd ‹(!(rightB (gl.take 66) (ul.take 66) (fl.take 66))) = false› (by rw [hq11]; decide))
              |
                refine JL_qg (q_move) (k := ?_)
                refine JL_qg (q_lenS Try.runUnderlying38) (k := ?_)
                refine JL_qg (q_fld FO_25_2) (k := ?_)
                refine JL_qg (q_load Try.isAgg22) (k := ?_)
                refine JL_qg (q_lenS Try.runUnderlying22) (k := ?_)
                refine JL_qg (q_add) (k := ?_)
                refine JL_qg (q_fld FO_25_0) (k := ?_)
                refine JL_qg (q_load Try.isAgg22) (k := ?_)
                refine JL_qg (q_lenS Try.runUnderlying22) (k := ?_)
                refine JL_qg (q_eql) (k := ?_)
                refine JL_alter 84 (Value.bool (true)) rfl (congrArg Value.bool (decide_eq_true (all_cnt ‹(rightB (gl.take 66) (ul.take 66) (fl.take 66)) = true›))) ?_
                refine JL_qg (q_pickT) (k := ?_)
                refine JL_qg (q_pickF) (k := ?_)
                refine JL_q (q_pickT) (k := ?_)
                refine JL_q (q_assign) (k := ?_)
                refine JL_nil ?_
                refine JX_seq ?_
                refine J_ret ?_
                refine JX_ret Try.results6 (Res.tmp rfl Res.nil) (fun w1 hw1 => ?_)
                exact ⟨congrArg Ending.returned (congrArg Value.bool (by rfl)), hw1.ext_out⟩
            · first
              | (exfalso; omega)
              | (exfalso; exact hq11 (getD_mem (by omega)))
              | (exfalso; exact absurd hq11 (by have := allD_lt (gl := gl.take 66) (ul := ul.take 66) (fl := fl.take 66) (k := k) (by omega) (by omega); omega))
              | (exfalso; exact absurd ‹(!(rightB (gl.take 66) (ul.take 66) (fl.take 66))) = false› (by rw [hq11]; decide))
              |
                refine JL_skip (k := ?_)
                refine JL_skip (k := ?_)
                refine JL_skip (k := ?_)
                refine JL_skip (k := ?_)
                refine JL_skip (k := ?_)
                refine JL_skip (k := ?_)
                refine JL_skip (k := ?_)
                refine JL_skip (k := ?_)
                refine JL_skip (k := ?_)
                refine JL_skip (k := ?_)
                refine JL_qg (q_pickF) (k := ?_)
                refine JL_qg (q_pickF) (k := ?_)
                refine JL_q (q_pickT) (k := ?_)
                refine JL_q (q_assign) (k := ?_)
                refine JL_nil ?_
                refine JX_seq ?_
                refine J_ret ?_
                refine JX_ret Try.results6 (Res.tmp rfl Res.nil) (fun w1 hw1 => ?_)
                exact ⟨congrArg Ending.returned (congrArg Value.bool (by rfl)), hw1.ext_out⟩
end Go.Proofs.Ytofkflecgnmemaa.Jd
