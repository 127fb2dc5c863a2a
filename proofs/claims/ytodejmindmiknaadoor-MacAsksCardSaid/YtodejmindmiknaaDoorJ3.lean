/- Operations, one by one; how a function is entered and left. No condition. -/
import Derived.Test.YtodejmindmiknaaDoorJ2
import Derived.IntWalk
namespace Go.Proofs.YtodejmindmiknaaDoor.Jd
set_option linter.unusedSimpArgs false
set_option linter.unusedVariables false
open Go.RowKit (Below)

def nth : List Value → Nat → Option Value
  | [], _ => none
  | v :: _, 0 => some v
  | _ :: r, n + 1 => nth r n

theorem nth_eq : ∀ (l : List Value) (k : Nat), nth l k = l[k]?
  | [], _ => rfl
  | _ :: _, 0 => rfl
  | _ :: r, n + 1 => by simp [nth, nth_eq r n]

def seg : List Value → Nat → Nat → Option (List Value)
  | _, _, 0 => some []
  | l, k, n + 1 => match nth l k, seg l (k + 1) n with
    | some v, some r => some (v :: r)
    | _, _ => none

theorem seg_spec : ∀ (l : List Value) (n k : Nat) (cs : List Value), seg l k n = some cs → cs.length = n ∧ ∀ j v, cs[j]? = some v → l[k + j]? = some v
  | l, 0, k, cs, h => by
    have : cs = [] := by simpa [seg] using h.symm
    subst this
    exact ⟨rfl, fun j v hv => by simp at hv⟩
  | l, n + 1, k, cs, h => by
    unfold seg at h
    split at h
    · rename_i v r hv hr
      have := Option.some.inj h
      subst this
      obtain ⟨h1, h2⟩ := seg_spec l n (k + 1) r hr
      refine ⟨by simp [h1], fun j u hu => ?_⟩
      cases j with
      | zero => rw [nth_eq] at hv; simp at hu; subst hu; simpa using hv
      | succ j => have := h2 j u (by simpa using hu); rwa [show k + (j + 1) = k + 1 + j by omega]
    · cases h

def cellsL : Value → List Value
  | .agg c => c.toList
  | v => [v]

theorem cellsL_eq (v : Value) : v.cells = (cellsL v).toArray := by cases v <;> simp [Value.cells, cellsL]

def evs (E : Env) : List Operand → Option (List Value)
  | [] => some []
  | x :: r => match ev E x, evs E r with
    | some v, some vs => some (v :: vs)
    | _, _ => none

theorem Holds.evals {N : Nat} {D : List Deferred} {E : Env} {a : Act} (h : Holds N D E a) : ∀ {l : List Operand} {vs : List Value}, evs E l = some vs → l.map a.eval = vs
  | [], vs, hv => by simpa [evs] using hv
  | x :: r, vs, hv => by
    unfold evs at hv
    split at hv
    · rename_i v us hx hr
      have := Option.some.inj hv
      subst this
      simp [h.eval hx, h.evals hr]
    · cases hv

section ops
variable {P : Program} {b0 : World} {Mk : List Nat} {N : Nat} {D : List Deferred} {L V : Heap} {E : Env} {ty : TypeId}

theorem q_move {x : Operand} {v : Value} (hx : ev E x = some v := by rfl) : RunQ P N D b0 Mk L E (.move x) ty v := fun a w ha _ => by
  simp [mkO, execOp, ha.eval hx]
theorem q_assign {x : Operand} {v : Value} (hx : ev E x = some v := by rfl) : RunQ P N D b0 Mk L E (.assign x) ty v := fun a w ha _ => by
  simp [mkO, execOp, ha.eval hx]
theorem q_pickT {c x y : Operand} {v : Value} (hc : ev E c = some (.bool true) := by rfl) (hx : ev E x = some v := by rfl) : RunQ P N D b0 Mk L E (.pick c x y) ty v := fun a w ha _ => by
  simp [mkO, execOp, asBool, ha.eval hc, ha.eval hx]
theorem q_pickF {c x y : Operand} {v : Value} (hc : ev E c = some (.bool false) := by rfl) (hy : ev E y = some v := by rfl) : RunQ P N D b0 Mk L E (.pick c x y) ty v := fun a w ha _ => by
  simp [mkO, execOp, asBool, ha.eval hc, ha.eval hy]

theorem SH.cell {w : World} (h : SH b0 Mk L w) {r k : Nat} {l : List Value} {T : TypeId} {f : Nat × Nat} (hm : (r, Obj.cells l.toArray T f) ∈ L) {v : Value} (hv : l[k]? = some v) :
    w.cell? ⟨r, k, none⟩ = some v := by
  have := h.own _ hm
  simp only at this
  simp [World.cell?, this, hv]

theorem addr_add (r k n : Nat) : (Addr.mk r k none).add n = ⟨r, k + n, none⟩ := by
  unfold Addr.add
  split
  · rename_i h; subst h; rfl
  · rfl

theorem q_load {t : TypeId} {x : Operand} {r k : Nat} {l : List Value} {T : TypeId} {f : Nat × Nat} {v : Value} (hA : ∀ w, (isAgg t).run P w = .ok false w) (hx : ev E x = some (.pointer (some ⟨r, k, none⟩)) := by rfl)
    (hm : (r, Obj.cells l.toArray T f) ∈ L := by repeat (first | exact List.mem_cons_self | apply List.mem_cons_of_mem | apply List.mem_append_right)) (hv : nth l k = some v := by rfl) :
    RunQ P N D b0 Mk L E (.load t x) ty v := fun a w ha hw => by
  have hc := hw.cell hm (by rw [← nth_eq]; exact hv)
  simp [mkO, execOp, ha.eval hx, Instr.loadAt, Instr.sureAddr, loadVar, hA, hc]

theorem q_loadA {t : TypeId} {x : Operand} {r k n : Nat} {l : List Value} {T : TypeId} {f : Nat × Nat} {cs : List Value} (hA : ∀ w, (isAgg t).run P w = .ok true w) (hS : ∀ w, (sizeOf t).run P w = .ok n w)
    (hx : ev E x = some (.pointer (some ⟨r, k, none⟩)) := by rfl)
    (hm : (r, Obj.cells l.toArray T f) ∈ L := by repeat (first | exact List.mem_cons_self | apply List.mem_cons_of_mem | apply List.mem_append_right)) (hv : seg l k n = some cs := by rfl) :
    RunQ P N D b0 Mk L E (.load t x) ty (.agg cs.toArray) := fun a w ha hw => by
  obtain ⟨h1, h2⟩ := seg_spec l n k cs hv
  have hl : (loadCells ⟨r, k, none⟩ n).run P w = .ok cs.toArray w := by
    rw [← h1]
    exact run_loadCells_list w ⟨r, k, none⟩ cs fun j v hj => by
      rw [addr_add]
      exact hw.cell hm (h2 j v hj)
  simp [mkO, execOp, ha.eval hx, Instr.loadAt, Instr.sureAddr, loadVar, hA, hS, hl]

theorem q_nil {x : Operand} {p : Addr} (hx : ev E x = some (.pointer (some p)) := by rfl) : RunQ P N D b0 Mk L E (.nilCheck x) ty (.pointer (some p)) := fun a w ha _ => by
  simp [mkO, execOp, ha.eval hx]
theorem q_nilF {x : Operand} {f : FuncId} {p q : Array Value} (hx : ev E x = some (.func (.func f) p q) := by rfl) : RunQ P N D b0 Mk L E (.nilCheck x) ty (.func (.func f) p q) := fun a w ha _ => by
  simp [mkO, execOp, ha.eval hx]

/-- The field's offset. -/
def FieldOff (P : Program) (s f off : Nat) : Prop := ∀ r k w, (Instr.fieldAt s (.pointer (some ⟨r, k, none⟩)) f).run P w = .ok (.pointer (some ⟨r, k + off, none⟩)) w

theorem q_fld {s f off : Nat} {x : Operand} {r k : Nat} (hf : FieldOff P s f off) (hx : ev E x = some (.pointer (some ⟨r, k, none⟩)) := by rfl) :
    RunQ P N D b0 Mk L E (.fieldAddr s x f) ty (.pointer (some ⟨r, k + off, none⟩)) := fun a w ha _ => by
  simp [mkO, execOp, ha.eval hx, hf r k w]

/-! integers -/
section ints
variable {t t' : TypeId} {x y : Operand} {k : IntKind} {p q : Int}
theorem q_lss (hx : ev E x = some (.int k p) := by rfl) (hy : ev E y = some (.int k q) := by rfl) : RunQ P N D b0 Mk L E (.binOp .lss t x y t') ty (.bool (decide (p < q))) := fun a w ha _ => by
  simp [mkO, execOp, ha.eval hx, ha.eval hy, eqGuard, binOp, Op.intCmp]
theorem q_leq (hx : ev E x = some (.int k p) := by rfl) (hy : ev E y = some (.int k q) := by rfl) : RunQ P N D b0 Mk L E (.binOp .leq t x y t') ty (.bool (decide (p ≤ q))) := fun a w ha _ => by
  simp [mkO, execOp, ha.eval hx, ha.eval hy, eqGuard, binOp, Op.intCmp]
theorem q_gtr (hx : ev E x = some (.int k p) := by rfl) (hy : ev E y = some (.int k q) := by rfl) : RunQ P N D b0 Mk L E (.binOp .gtr t x y t') ty (.bool (decide (q < p))) := fun a w ha _ => by
  simp [mkO, execOp, ha.eval hx, ha.eval hy, eqGuard, binOp, Op.intCmp]
theorem q_geq (hx : ev E x = some (.int k p) := by rfl) (hy : ev E y = some (.int k q) := by rfl) : RunQ P N D b0 Mk L E (.binOp .geq t x y t') ty (.bool (decide (q ≤ p))) := fun a w ha _ => by
  simp [mkO, execOp, ha.eval hx, ha.eval hy, eqGuard, binOp, Op.intCmp]
theorem q_eql (hx : ev E x = some (.int k p) := by rfl) (hy : ev E y = some (.int k q) := by rfl) : RunQ P N D b0 Mk L E (.binOp .eql t x y t') ty (.bool (decide (p = q))) := fun a w ha _ => by
  simp only [mkO, execOp, ha.eval hx, ha.eval hy, eqGuard, binOp, Op.intCmp]
  by_cases h : p = q <;> simp [h]
theorem q_neq (hx : ev E x = some (.int k p) := by rfl) (hy : ev E y = some (.int k q) := by rfl) : RunQ P N D b0 Mk L E (.binOp .neq t x y t') ty (.bool (decide (p ≠ q))) := fun a w ha _ => by
  simp only [mkO, execOp, ha.eval hx, ha.eval hy, eqGuard, binOp, Op.intCmp]
  by_cases h : p = q <;> simp [h]

theorem wrap_i64 {n : Int} (h : -9223372036854775808 ≤ n ∧ n ≤ 9223372036854775807) : IntKind.i64.wrap n = n := IntWalk.i64_in n h

theorem q_add (hx : ev E x = some (.int .i64 p) := by rfl) (hy : ev E y = some (.int .i64 q) := by rfl) (h : -9223372036854775808 ≤ p + q ∧ p + q ≤ 9223372036854775807 := by omega) :
    RunQ P N D b0 Mk L E (.binOp .add t x y t') ty (.int .i64 (p + q)) := fun a w ha _ => by
  simp [mkO, execOp, ha.eval hx, ha.eval hy, eqGuard, binOp, Op.intArith, wrap_i64 h]
theorem q_sub (hx : ev E x = some (.int .i64 p) := by rfl) (hy : ev E y = some (.int .i64 q) := by rfl) (h : -9223372036854775808 ≤ p - q ∧ p - q ≤ 9223372036854775807 := by omega) :
    RunQ P N D b0 Mk L E (.binOp .sub t x y t') ty (.int .i64 (p - q)) := fun a w ha _ => by
  simp [mkO, execOp, ha.eval hx, ha.eval hy, eqGuard, binOp, Op.intArith, wrap_i64 h]
theorem q_mul (hx : ev E x = some (.int .i64 p) := by rfl) (hy : ev E y = some (.int .i64 q) := by rfl) (h : -9223372036854775808 ≤ p * q ∧ p * q ≤ 9223372036854775807 := by omega) :
    RunQ P N D b0 Mk L E (.binOp .mul t x y t') ty (.int .i64 (p * q)) := fun a w ha _ => by
  simp [mkO, execOp, ha.eval hx, ha.eval hy, eqGuard, binOp, Op.intArith, wrap_i64 h]
end ints

theorem q_notD {t : TypeId} {x : Operand} {p : Prop} [Decidable p] (hx : ev E x = some (.bool (decide p)) := by rfl) : RunQ P N D b0 Mk L E (.unOp .not t x) ty (.bool (decide (¬ p))) := fun a w ha _ => by
  simp [mkO, execOp, ha.eval hx, Op.unary]
theorem q_not {t : TypeId} {x : Operand} {p : Bool} (hx : ev E x = some (.bool p) := by rfl) : RunQ P N D b0 Mk L E (.unOp .not t x) ty (.bool (!p)) := fun a w ha _ => by
  simp [mkO, execOp, ha.eval hx, Op.unary]

theorem run_eqB {t : TypeId} {w : World} (d : Nat) (p q : Bool) (hU : ∀ w, (underlying t).run P w = .ok .bool w) : (Op.equalIn (d + 1) t (.bool p) (.bool q)).run P w = .ok (p == q) w := by
  unfold Op.equalIn
  simp only [Sem.run_bind, hU, Result.andThen_ok, Sem.run_pure]
theorem q_eqlB {t t' : TypeId} {x y : Operand} {p q : Bool} (hU : ∀ w, (underlying t).run P w = .ok .bool w) (hx : ev E x = some (.bool p) := by rfl) (hy : ev E y = some (.bool q) := by rfl) :
    RunQ P N D b0 Mk L E (.binOp .eql t x y t') ty (.bool (p == q)) := fun a w ha _ => by
  have h := run_eqB (P := P) (w := w) 9999 p q hU
  have h1 : (binOp .eql t (.bool p) (.bool q)).run P w = .ok (.bool (p == q)) w := by
    show (do pure (.bool (← Op.equal t (.bool p) (.bool q))) : Sem Value).run P w = _
    simp only [Sem.run_bind, Op.equal, Op.maxDepth, h, Result.andThen_ok, Sem.run_pure]
  simp only [mkO, execOp, ha.eval hx, ha.eval hy, eqGuard, Sem.run_bind]
  simp [h1]
theorem q_neqB {t t' : TypeId} {x y : Operand} {p q : Bool} (hU : ∀ w, (underlying t).run P w = .ok .bool w) (hx : ev E x = some (.bool p) := by rfl) (hy : ev E y = some (.bool q) := by rfl) :
    RunQ P N D b0 Mk L E (.binOp .neq t x y t') ty (.bool (!(p == q))) := fun a w ha _ => by
  have h := run_eqB (P := P) (w := w) 9999 p q hU
  have h1 : (binOp .neq t (.bool p) (.bool q)).run P w = .ok (.bool (!(p == q))) w := by
    show (do pure (.bool (!(← Op.equal t (.bool p) (.bool q)))) : Sem Value).run P w = _
    simp only [Sem.run_bind, Op.equal, Op.maxDepth, h, Result.andThen_ok, Sem.run_pure]
  simp only [mkO, execOp, ha.eval hx, ha.eval hy, eqGuard, Sem.run_bind]
  simp [h1]

/-! len -/
theorem q_lenS {t e : TypeId} {x : Operand} {a : Option Addr} {n c : Nat} (hU : ∀ w, (underlying t).run P w = .ok (.slice e) w) (hx : ev E x = some (.slice a n c) := by rfl) :
    RunQ P N D b0 Mk L E (.call { callee := .builtin .len, args := #[x], argTypes := #[t] }) ty (.int .i64 n) := fun a w ha _ => by
  simp [mkO, execOp, resolve, invoke, builtin, Builtin.len_, ha.eval hx, hU, goInt]
theorem q_lenStr {t : TypeId} {x : Operand} {s : ByteArray} (hU : ∀ w, (underlying t).run P w = .ok .string w) (hx : ev E x = some (.string s) := by rfl) :
    RunQ P N D b0 Mk L E (.call { callee := .builtin .len, args := #[x], argTypes := #[t] }) ty (.int .i64 s.size) := fun a w ha _ => by
  simp [mkO, execOp, resolve, invoke, builtin, Builtin.len_, ha.eval hx, hU, goInt]
theorem SH.obj {w : World} (h : SH b0 Mk L w) {r : Nat} {o : Obj} (hm : (r, o) ∈ L) : w.heap[r]? = some o := h.own _ hm
theorem run_getObj_map {P : Program} {w : World} {r : Nat} {es : Array MapEntry} {c : Nat} (h : w.heap[r]? = some (.map es c)) : (getObj r).run P w = .ok (.map es c) w := by
  simp [getObj, Sem.run, h]
theorem q_lenM {t kt et : TypeId} {x : Operand} {r : Nat} {es : Array MapEntry} {c : Nat} (hU : ∀ w, (underlying t).run P w = .ok (.map kt et) w) (hx : ev E x = some (.map (some r)) := by rfl)
    (hm : (r, Obj.map es c) ∈ L := by repeat (first | exact List.mem_cons_self | apply List.mem_cons_of_mem | apply List.mem_append_right)) :
    RunQ P N D b0 Mk L E (.call { callee := .builtin .len, args := #[x], argTypes := #[t] }) ty (.int .i64 es.size) := fun a w ha hw => by
  simp [mkO, execOp, resolve, invoke, builtin, Builtin.len_, ha.eval hx, hU, goInt, run_getObj_map (hw.obj hm)]

/-! slices: what they hold -/
/-- From address a on lie, each in k cells, the elements xs. -/
def Sl (w : World) {α : Type} (enc : α → List Value) (k : Nat) (a : Option Addr) (xs : List α) : Prop :=
  ∀ (i : Nat) (x : α), xs[i]? = some x → ∃ b off, a = some ⟨b, off, none⟩ ∧ (enc x).length = k ∧ ∀ j v, (enc x)[j]? = some v → w.cell? ⟨b, off + i * k + j, none⟩ = some v

def SlJ (b0 : World) (Mk : List Nat) (L : Heap) {α : Type} (enc : α → List Value) (k : Nat) (a : Option Addr) (xs : List α) : Prop := ∀ w, SH b0 Mk L w → Sl w enc k a xs

theorem cell_of_same {w w' : World} {p : Addr} {v : Value} (h : w.cell? p = some v) (hs : w'.heap[p.block]? = w.heap[p.block]?) : w'.cell? p = some v := by
  unfold World.cell? at *
  rw [hs]; exact h

theorem Sl.ext {w w' : World} {α : Type} {enc : α → List Value} {k : Nat} {a : Option Addr} {xs : List α} (h : Sl w enc k a xs) (he : Ext w w') : Sl w' enc k a xs := fun i x hx => by
  obtain ⟨b, off, h1, h2, h3⟩ := h i x hx
  exact ⟨b, off, h1, h2, fun j v hv => by
    have hc := h3 j v hv
    exact cell_of_same hc (he.block _ (World.block_lt_of_cell? w _ hc))⟩

theorem SlJ.of_base {α : Type} {enc : α → List Value} {k : Nat} {a : Option Addr} {xs : List α} (h : Sl b0 enc k a xs) : SlJ b0 [] L enc k a xs := fun _ hw => h.ext hw.ext_out

theorem Sl.nil {w : World} {α : Type} {enc : α → List Value} {k : Nat} {a : Option Addr} : Sl w enc k a [] := fun i x hx => by simp at hx
theorem SlJ.mono {L' : Heap} {α : Type} {enc : α → List Value} {k : Nat} {a : Option Addr} {xs : List α} (h : SlJ b0 Mk L enc k a xs) (hs : List.Sublist L L') : SlJ b0 Mk L' enc k a xs :=
  fun w hw => h w (hw.sub hs)

/-- One block of the call's own, each element one cell. -/
theorem SlJ.own1 {α : Type} {enc1 : α → Value} {b : Nat} {l : List Value} {T : TypeId} {f : Nat × Nat} {xs : List α} (hm : (b, Obj.cells l.toArray T f) ∈ L) (hl : ∀ (i : Nat) (x : α), xs[i]? = some x → l[i]? = some (enc1 x)) :
    SlJ b0 Mk L (fun x => [enc1 x]) 1 (some ⟨b, 0, none⟩) xs := fun w hw i x hx => by
  refine ⟨b, 0, rfl, rfl, fun j v hv => ?_⟩
  have : j = 0 := by
    rcases Nat.eq_zero_or_pos j with h | h
    · exact h
    · rw [List.getElem?_eq_none (show [enc1 x].length ≤ j by simp; omega)] at hv; cases hv
  subst this
  have : v = enc1 x := by simpa using hv.symm
  subst this
  have := hw.cell hm (hl i x hx)
  simpa using this

/-- The address o cells behind a. -/
def ea (a : Option Addr) (o : Nat) : Addr := ⟨(a.getD default).block, (a.getD default).off + o, none⟩

theorem q_idx {t e : TypeId} {x y : Operand} {a : Option Addr} {n c : Nat} {i : Int} {ki : IntKind} {α : Type} {enc : α → List Value} {k : Nat} {xs : List α} (hU : ∀ w, (underlying t).run P w = .ok (.slice e) w) (hS : ∀ w, (sizeOf e).run P w = .ok k w)
    (m : Nat) {z : α} (hs : SlJ b0 Mk L enc k a xs) (hz : xs[m]? = some z) (hn : xs.length = n) (hx : ev E x = some (.slice a n c) := by rfl) (hy : ev E y = some (.int ki i) := by rfl) (hi : i = (m : Int) := by first | rfl | omega) :
    RunQ P N D b0 Mk L E (.indexAddr t x y) ty (.pointer (some (ea a (m * k)))) := fun a' w ha hw => by
  obtain ⟨b, off, rfl, _, _⟩ := hs w hw m z hz
  subst hi
  have hlt : m < n := by rw [← hn]; exact (List.getElem?_eq_some_iff.1 hz).1
  have hlt' : (m : Int) < (n : Int) := by omega
  simp [mkO, execOp, ha.eval hx, ha.eval hy, Instr.indexAt, asIntOf, hU, hS, hlt, ea, addr_add]

theorem q_loadE {t : TypeId} {x : Operand} {a : Option Addr} {o : Nat} {α : Type} {enc : α → List Value} {k : Nat} {xs : List α} {v : Value} (hA : ∀ w, (isAgg t).run P w = .ok false w) (m : Nat) {z : α} (j : Nat) (hs : SlJ b0 Mk L enc k a xs) (hz : xs[m]? = some z)
    (hv : (enc z)[j]? = some v := by rfl) (hx : ev E x = some (.pointer (some (ea a o))) := by rfl) (ho : o = m * k + j := by first | rfl | omega) :
    RunQ P N D b0 Mk L E (.load t x) ty v := fun a' w ha hw => by
  obtain ⟨b, off, rfl, _, hc⟩ := hs w hw m z hz
  subst ho
  have := hc j v hv
  have he : ea (some ⟨b, off, none⟩) (m * k + j) = ⟨b, off + m * k + j, none⟩ := by simp [ea, Nat.add_assoc]
  simp [mkO, execOp, ha.eval hx, Instr.loadAt, Instr.sureAddr, loadVar, hA, he, this]

theorem q_loadEA {t : TypeId} {x : Operand} {a : Option Addr} {o n : Nat} {α : Type} {enc : α → List Value} {k : Nat} {xs : List α} (hA : ∀ w, (isAgg t).run P w = .ok true w) (hS : ∀ w, (sizeOf t).run P w = .ok n w) (m : Nat) {z : α} (hs : SlJ b0 Mk L enc k a xs) (hz : xs[m]? = some z)
    (hx : ev E x = some (.pointer (some (ea a o))) := by rfl) (ho : o = m * k := by first | rfl | omega) (hk : k = n := by rfl) :
    RunQ P N D b0 Mk L E (.load t x) ty (.agg (enc z).toArray) := fun a' w ha hw => by
  obtain ⟨b, off, rfl, hlen, hc⟩ := hs w hw m z hz
  subst ho hk
  have he : ea (some ⟨b, off, none⟩) (m * k) = ⟨b, off + m * k, none⟩ := by simp [ea]
  have hl : (loadCells ⟨b, off + m * k, none⟩ k).run P w = .ok (enc z).toArray w := by
    rw [← hlen]
    exact run_loadCells_list w _ (enc z) fun j v hj => by
      rw [addr_add, hlen]
      exact hc j v hj
  simp [mkO, execOp, ha.eval hx, Instr.loadAt, Instr.sureAddr, loadVar, hA, hS, he, hl]

theorem q_fldE {s f off : Nat} {x : Operand} {a : Option Addr} {o : Nat} (hf : FieldOff P s f off) (hx : ev E x = some (.pointer (some (ea a o))) := by rfl) :
    RunQ P N D b0 Mk L E (.fieldAddr s x f) ty (.pointer (some (ea a (o + off)))) := fun a' w ha _ => by
  have := hf (a.getD default).block ((a.getD default).off + o) w
  simp only [mkO, execOp, ha.eval hx]
  simp only [ea]
  simp [this, Nat.add_assoc]

/-! new blocks -/
theorem a_box {T : TypeId} {x : Operand} {v : Value} {l : List Value} (hx : ev E x = some v := by rfl) (hl : cellsL v = l := by rfl) : RunA P N D b0 Mk L E (.box T x) ty (.cells l.toArray T) (fun r => .pointer (some ⟨r, 0, none⟩)) :=
  fun a w ha _ => by
    simp [mkO, execOp, ha.eval hx, Instr.box, newVar, newRow, cellsL_eq, hl]
theorem a_alloc {T : TypeId} {z : Value} {l : List Value} (hz : ∀ w, (zeroValue T).run P w = .ok z w) (hl : cellsL z = l := by rfl) : RunA P N D b0 Mk L E (.alloc T) ty (.cells l.toArray T) (fun r => .pointer (some ⟨r, 0, none⟩)) :=
  fun a w _ _ => by
    simp [mkO, execOp, Instr.alloc, hz, newVar, newRow, cellsL_eq, hl]

/-! structs that are put together -/
def setL : List Value → Nat → List Value → List Value
  | l, _, [] => l
  | [], _, _ => []
  | _ :: r, 0, u :: us => u :: setL r 0 us
  | c :: r, n + 1, us => c :: setL r n us

def fillL (pl : List (Nat × Nat)) : List Value → List (Nat × List Value) → Option (List Value)
  | z, [] => some z
  | z, (i, vs) :: r => match pl[i]? with
    | none => none
    | some (off, size) => if Nat.beq vs.length size && Nat.ble (off + vs.length) z.length then fillL pl (setL z off vs) r else none

theorem setL_length : ∀ (l : List Value) (n : Nat) (us : List Value), (setL l n us).length = l.length
  | l, n, [] => by cases l <;> simp [setL]
  | [], n, u :: us => by simp [setL]
  | _ :: r, 0, u :: us => by simp [setL, setL_length r 0 us]
  | c :: r, n + 1, u :: us => by simp [setL, setL_length r n (u :: us)]

theorem setL_foldl : ∀ (us : List Value) (l : List Value) (n i : Nat), n + i + us.length ≤ l.length →
    (us.zipIdx i).foldl (fun (cs : Array Value) (x : Value × Nat) => cs.setIfInBounds (n + x.2) x.1) l.toArray = (setL l (n + i) us).toArray
  | [], l, n, i, _ => by cases l <;> simp [setL]
  | u :: us, l, n, i, h => by
    simp only [List.zipIdx_cons, List.foldl_cons, List.setIfInBounds_toArray]
    rw [setL_foldl us (l.set (n + i) u) n (i + 1) (by simp at h ⊢; omega)]
    congr 1
    have : ∀ (l : List Value) (m : Nat), m + 1 + us.length ≤ l.length → setL (l.set m u) (m + 1) us = setL l m (u :: us) := by
      intro l
      induction l with
      | nil => intro m hm; simp at hm
      | cons c r ih =>
        intro m hm
        cases m with
        | zero => simp only [List.set_cons_zero]; cases us <;> simp [setL]
        | succ m => simp only [List.set_cons_succ]; rw [show setL (c :: r) (m + 1) (u :: us) = c :: setL r m (u :: us) by simp [setL], ← ih m (by simp at hm ⊢; omega)]; cases us <;> simp [setL]
    rw [show n + (i + 1) = (n + i) + 1 by omega]
    exact this l (n + i) (by simp at h; omega)

theorem fill_fillL (pl : List (Nat × Nat)) (f : Nat → Option (Nat × Nat)) (hf : ∀ (i : Nat) (q : Nat × Nat), pl[i]? = some q → f i = some q) : ∀ (parts : List (Nat × Value)) (z : List Value) (cs : List Value), fillL pl z (parts.map fun p => (p.1, cellsL p.2)) = some cs →
    Instr.fill f z.toArray parts = some cs.toArray
  | [], z, cs, h => by simp [fillL] at h; simp [Instr.fill, h]
  | (i, v) :: r, z, cs, h => by
    simp only [List.map_cons, fillL] at h
    simp only [Instr.fill]
    cases hp : pl[i]? with
    | none => simp [hp] at h
    | some q =>
      obtain ⟨off, size⟩ := q
      simp only [hp] at h
      simp only [hf _ _ hp]
      split at h
      · rename_i hc
        simp only [Bool.and_eq_true, Nat.beq_eq, Nat.ble_eq] at hc
        obtain ⟨h1, h2⟩ := hc
        have h1' : (cellsL v).length = size := h1
        have e1 : v.cells.size = size := by rw [cellsL_eq]; simpa using h1'
        have e2 : ¬ (off + v.cells.size > z.toArray.size) := by rw [e1, ← h1']; simpa using h2
        simp only [e1, ne_eq, not_true, decide_false, Bool.false_or]
        rw [e1] at e2
        simp only [decide_eq_true_eq, e2, if_false]
        have := setL_foldl (cellsL v) z off 0 (by simpa using h2)
        rw [cellsL_eq, show (cellsL v).toArray.zipIdx = ((cellsL v).zipIdx 0).toArray by simp]
        simp only [List.size_toArray, List.foldl_toArray']
        simp only [Nat.add_zero] at this
        rw [this]
        exact fill_fillL pl f hf r _ cs h
      · cases h

/-- Where the fields of struct type t lie. -/
def Places (P : Program) (t : TypeId) (pl : List (Nat × Nat)) : Prop :=
  ∃ fields : Array Field, (∀ w, (underlying t).run P w = .ok (.struct fields) w) ∧ ∀ w, (fields.mapM fun (f : Field) => do pure (f.offset, ← sizeOf f.type)).run P w = .ok pl.toArray w

def evp (E : Env) : List (Nat × Operand) → Option (List (Nat × List Value))
  | [] => some []
  | (i, x) :: r => match ev E x, evp E r with
    | some v, some vs => some ((i, cellsL v) :: vs)
    | _, _ => none

theorem Holds.evalp {a : Act} (h : Holds N D E a) : ∀ {l : List (Nat × Operand)} {vs : List (Nat × List Value)}, evp E l = some vs → (l.map fun p => (p.1, cellsL (a.eval p.2))) = vs
  | [], vs, hv => by simpa [evp] using hv
  | (i, x) :: r, vs, hv => by
    unfold evp at hv
    split at hv
    · rename_i v us hx hr
      have := Option.some.inj hv
      subst this
      simp [h.eval hx, h.evalp hr]
    · cases hv

theorem q_build {t : TypeId} {z : Value} {pl : List (Nat × Nat)} {parts : List (Nat × Operand)} {ps : List (Nat × List Value)} {cs : List Value} (hz : ∀ w, (zeroValue t).run P w = .ok z w) (hp : Places P t pl) (hv : evp E parts = some ps := by rfl)
    (hf : fillL pl (cellsL z) ps = some cs := by rfl) : RunQ P N D b0 Mk L E (.build t parts.toArray) ty (.agg cs.toArray) := fun a w ha _ => by
  obtain ⟨fields, hU, hM⟩ := hp
  have h1 := ha.evalp hv
  subst h1
  have := fill_fillL pl (fun i => pl.toArray[i]?) (fun i q hq => by simpa using hq) (parts.map fun p => (p.1, a.eval p.2)) (cellsL z) cs (by rw [List.map_map]; exact hf)
  have hM' := hM w
  simp only [mkO, execOp, Instr.build, Sem.run_bind, hz, hU, Result.andThen_ok]
  rw [hM']
  have e : (Array.map (fun x => match x with | (i, x) => (i, a.eval x)) parts.toArray).toList = parts.map fun p => (p.1, a.eval p.2) := by simp
  simp only [Result.andThen_ok, cellsL_eq, e, this, Sem.run_pure]

/-! calls -/
theorem c_call {f : Operand} {l : List Operand} {tys : Array TypeId} {k : FuncId} {fs cs vs : List Value} (hc : ∀ args w, (callFunc k args).run P w = .ok (.enter k args) w)
    (hf : ev E f = some (.func (.func k) fs.toArray cs.toArray) := by rfl) (ha : evs E l = some vs := by rfl) :
    RunC P N D b0 Mk L E (.call { callee := .value f, args := l.toArray, argTypes := tys }) ty k (fs ++ vs ++ cs) := fun a w hh _ => by
  have := hh.evals ha
  simp only [mkO, execOp, resolve, hh.eval hf, Deferred.ofValue]
  simp only [Sem.run_bind, Sem.run_pure, Result.andThen_ok, invoke, hc]
  simp [this]

theorem q_func {fn : Fn} {fs cs : List Operand} {us vs : List Value} (h1 : evs E fs = some us := by rfl) (h2 : evs E cs = some vs := by rfl) :
    RunQ P N D b0 Mk L E (.makeFunc fn fs.toArray cs.toArray) ty (.func fn us.toArray vs.toArray) := fun a w ha _ => by
  have e1 := ha.evals h1
  have e2 := ha.evals h2
  simp [mkO, execOp, Instr.makeFunc, e1, e2]

theorem q_ext {x : Operand} {l : List Value} {i : Nat} {v : Value} (hx : ev E x = some (.tuple l.toArray) := by rfl) (hv : nth l i = some v := by rfl) : RunQ P N D b0 Mk L E (.extract x i) ty v := fun a w ha _ => by
  rw [nth_eq] at hv
  simp [mkO, execOp, ha.eval hx, Instr.extract, hv]

/-! stores into blocks that are known -/
inductive Repl (r : Nat) (o o' : Obj) : Heap → Heap → Prop
  | head {L : Heap} : Repl r o o' ((r, o) :: L) ((r, o') :: L)
  | tail {p : Nat × Obj} {L L' : Heap} (h : Repl r o o' L L') : Repl r o o' (p :: L) (p :: L')
  | app {B L L' : Heap} (h : Repl r o o' L L') : Repl r o o' (B ++ L) (B ++ L')

theorem Repl.keys {r : Nat} {o o' : Obj} {L L' : Heap} (h : Repl r o o' L L') : L'.map Prod.fst = L.map Prod.fst := by
  induction h with
  | head => rfl
  | tail _ ih => simp [ih]
  | app _ ih => simp [ih]

theorem Repl.mem {r : Nat} {o o' : Obj} {L L' : Heap} (h : Repl r o o' L L') : (r, o) ∈ L := by
  induction h with
  | head => exact List.mem_cons_self
  | tail _ ih => exact List.mem_cons_of_mem _ ih
  | app _ ih => exact List.mem_append_right _ ih

theorem Repl.or {r : Nat} {o o' : Obj} {L L' : Heap} (h : Repl r o o' L L') (hn : (L.map Prod.fst).Nodup) : ∀ p ∈ L', p = (r, o') ∨ (p ∈ L ∧ p.1 ≠ r) := by
  induction h with
  | head =>
    intro p hp
    simp only [List.map_cons, List.nodup_cons] at hn
    rcases List.mem_cons.1 hp with hp | hp
    · exact .inl hp
    · exact .inr ⟨List.mem_cons_of_mem _ hp, fun e => hn.1 (e ▸ List.mem_map_of_mem hp)⟩
  | tail h ih =>
    intro p hp
    simp only [List.map_cons, List.nodup_cons] at hn
    rcases List.mem_cons.1 hp with hp | hp
    · subst hp
      refine .inr ⟨List.mem_cons_self, fun e => hn.1 ?_⟩
      rw [e]
      exact List.mem_map_of_mem (f := Prod.fst) h.mem
    · exact (ih hn.2 p hp).imp id fun ⟨a, b⟩ => ⟨List.mem_cons_of_mem _ a, b⟩
  | app h ih =>
    intro p hp
    rw [List.map_append, List.nodup_append] at hn
    rcases List.mem_append.1 hp with hp | hp
    · refine .inr ⟨List.mem_append_left _ hp, fun e => ?_⟩
      exact hn.2.2 p.1 (List.mem_map_of_mem hp) r (List.mem_map_of_mem (f := Prod.fst) h.mem) e
    · exact (ih hn.2.1 p hp).imp id fun ⟨a, b⟩ => ⟨List.mem_append_right _ a, b⟩

/-- The block r is turned into o'. -/
theorem SH.repl {w w' : World} {r : Nat} {o o' : Obj} {L' : Heap} (h : SH b0 Mk L w) (hr : Repl r o o' L L') (h1 : w'.heap[r]? = some o') (h2 : ∀ k, k ≠ r → w'.heap[k]? = w.heap[k]?) (h3 : w'.heap.size = w.heap.size)
    (h4 : w'.os = w.os) (h5 : w'.tape = w.tape) (h6 : w'.output = w.output) : SH b0 Mk L' w' := by
  have hkey := h.key _ hr.mem
  refine ⟨h4.trans h.os, h5.trans h.tape, h6.trans h.output, by rw [h3]; exact h.size, fun k hk hM => ?_, fun p hp => ?_, fun p hp => ?_, by rw [hr.keys]; exact h.nd⟩
  · rw [h2 k (fun e => ?_)]
    · exact h.same k hk hM
    · subst e
      rcases hkey with hk' | hk'
      · exact hM hk'
      · simp only at hk'; omega
  · rcases hr.or h.nd p hp with rfl | ⟨hp, hne⟩
    · exact h1
    · rw [h2 _ hne]; exact h.own p hp
  · rcases hr.or h.nd p hp with rfl | ⟨hp, _⟩
    · exact hkey
    · exact h.key p hp

def allOne : List Value → Bool
  | [] => true
  | v :: r => v.oneCell' && allOne r

theorem setL_step : ∀ (l : List Value) (k : Nat) (u : Value) (us : List Value), k + 1 + us.length ≤ l.length → setL (l.set k u) (k + 1) us = setL l k (u :: us)
  | [], _, _, _, h => by simp at h
  | c :: r, 0, u, us, _ => by simp only [List.set_cons_zero]; cases us <;> simp [setL]
  | c :: r, k + 1, u, us, h => by
    simp only [List.set_cons_succ]
    rw [show setL (c :: r) (k + 1) (u :: us) = c :: setL r k (u :: us) by simp [setL], ← setL_step r k u us (by simp at h ⊢; omega)]
    cases us <;> simp [setL]

/-- A frozen range that is empty, or lies behind the first n cells. -/
def FrOk (f : Nat × Nat) (n : Nat) : Prop := f.2 = 0 ∨ n ≤ f.1
theorem FrOk.zero {n : Nat} : FrOk (0, 0) n := .inl rfl
theorem FrOk.not {w : World} {r k n : Nat} {cs : Array Value} {T : TypeId} {f : Nat × Nat} (hf : FrOk f n) (h : w.heap[r]? = some (.cells cs T f)) (hk : k < n) : w.frozen? ⟨r, k, none⟩ = false := by
  obtain ⟨lo, hi⟩ := f
  simp only [World.frozen?, h, Bool.and_eq_false_iff, decide_eq_false_iff_not]
  rcases hf with hf | hf
  · right; simp only at hf; omega
  · left; simp only at hf; omega
theorem run_storeCellsF {r k : Nat} {T : TypeId} {f : Nat × Nat} : ∀ (vs : List Value) (l : List Value) (i : Nat) (w : World), w.heap[r]? = some (.cells l.toArray T f) → FrOk f l.length → allOne vs = true → k + i + vs.length ≤ l.length →
    ∃ w', (storeCells ⟨r, k, none⟩ vs i).run P w = .ok () w' ∧ w'.heap[r]? = some (.cells (setL l (k + i) vs).toArray T f) ∧ (∀ j, j ≠ r → w'.heap[j]? = w.heap[j]?) ∧ w'.heap.size = w.heap.size ∧ w'.os = w.os ∧ w'.tape = w.tape ∧ w'.output = w.output
  | [], l, i, w, h, _, _, _ => ⟨w, by simp [storeCells], by cases l <;> simpa [setL] using h, fun _ _ => rfl, rfl, rfl, rfl, rfl⟩
  | v :: vs, l, i, w, h, hfr, ho, hl => by
    simp only [allOne, Bool.and_eq_true] at ho
    have hlt : k + i < l.length := by simp at hl; omega
    have hc : w.cell? ⟨r, k + i, none⟩ = some l[k + i] := by simp [World.cell?, h, hlt]
    have hf : w.frozen? ⟨r, k + i, none⟩ = false := hfr.not h hlt
    have hs : (store ((Addr.mk r k none).add i) v).run P w = .ok () (w.setCell ⟨r, k + i, none⟩ v) := by
      rw [addr_add, run_store P w _ v .plain ho.1, hc]; simp [hf]
    have hh : (w.setCell ⟨r, k + i, none⟩ v).heap[r]? = some (.cells (l.set (k + i) v).toArray T f) := by
      simp [World.setCell, Array.getElem?_modify, h]
    obtain ⟨w', h1, h2, h3, h4, h5, h6, h7⟩ := run_storeCellsF (r := r) (k := k) (T := T) (f := f) vs (l.set (k + i) v) (i + 1) _ hh (by simpa using hfr) ho.2 (by simp at hl ⊢; omega)
    refine ⟨w', ?_, ?_, fun j hj => ?_, by rw [h4]; simp, h5, h6, h7⟩
    · simp only [storeCells, Sem.run_bind, hs, Result.andThen_ok, h1]
    · rw [h2, show k + (i + 1) = (k + i) + 1 by omega, setL_step l (k + i) v vs (by simp at hl; omega)]
    · rw [h3 j hj]; exact Below.heap_setCell w _ v j hj

theorem run_storeCells {r k : Nat} {T : TypeId} (vs : List Value) (l : List Value) (i : Nat) (w : World) (h : w.heap[r]? = some (.cells l.toArray T (0, 0))) (ho : allOne vs = true) (hk : k + i + vs.length ≤ l.length) :
    ∃ w', (storeCells ⟨r, k, none⟩ vs i).run P w = .ok () w' ∧ w'.heap[r]? = some (.cells (setL l (k + i) vs).toArray T (0, 0)) ∧ (∀ j, j ≠ r → w'.heap[j]? = w.heap[j]?) ∧ w'.heap.size = w.heap.size ∧ w'.os = w.os ∧ w'.tape = w.tape ∧ w'.output = w.output :=
  run_storeCellsF vs l i w h .zero ho hk
theorem w_store {t : TypeId} {x y : Operand} {v : Value} {r k n : Nat} {l l' : List Value} {T : TypeId} {L' : Heap} (hS : ∀ w, (sizeOf t).run P w = .ok n w) (hx : ev E x = some (.pointer (some ⟨r, k, none⟩)) := by rfl) (hy : ev E y = some v := by rfl)
    (hR : Repl r (.cells l.toArray T) (.cells l'.toArray T) L L' := by repeat (first | exact Repl.head | apply Repl.tail | apply Repl.app)) (hl : setL l k (cellsL v) = l' := by rfl) (hn : Nat.beq (cellsL v).length n = true := by rfl) (ho : allOne (cellsL v) = true := by rfl)
    (hk : Nat.ble (k + (cellsL v).length) l.length = true := by rfl) :
    RunW P N D b0 Mk L E (.store t x y) ty L' .skip := fun a w ha hw => by
  have hw0 := hw.own _ hR.mem
  simp only at hw0
  subst hl
  obtain ⟨w', h1, h2, h3, h4, h5, h6, h7⟩ := run_storeCells (P := P) (r := r) (k := k) (T := T) (cellsL v) l 0 w hw0 ho (by simpa using hk)
  refine ⟨w', ?_, hw.repl hR h2 h3 h4 h5 h6 h7⟩
  have hn' : (cellsL v).length = n := by simpa using hn
  simp [mkO, execOp, ha.eval hx, ha.eval hy, Instr.storeAt, Instr.sureAddr, storeVar, cellsL_eq, hS, hn', h1]
end ops

/-! ### functions -/
def argsE : Nat → List Value → Env
  | _, [] => []
  | i, v :: r => (i, v) :: argsE (i + 1) r

theorem look_argsE : ∀ (l : List Value) (i t : Nat) (v : Value), look (argsE i l) t = some v → ∃ j, t = i + j ∧ l[j]? = some v
  | [], _, _, _, h => by cases h
  | u :: r, i, t, v, h => by
    simp only [argsE, look] at h
    split at h
    · rename_i hb
      have := Nat.eq_of_beq_eq_true hb
      exact ⟨0, by omega, by simpa using h⟩
    · obtain ⟨j, h1, h2⟩ := look_argsE r (i + 1) t v h
      exact ⟨j + 1, by omega, by simpa using h2⟩

theorem holds_begin {N : Nat} (args : List Value) (h : Nat.ble args.length N = true) : Holds N [] (argsE 0 args) { tmps := args.toArray ++ Array.replicate (N - args.toArray.size) undef, defers := [] } := by
  have h' : args.length ≤ N := by simpa using h
  refine ⟨by simp; omega, rfl, fun t v hv => ?_⟩
  obtain ⟨j, h1, h2⟩ := look_argsE args 0 t v hv
  have hj := (List.getElem?_eq_some_iff.1 h2).1
  have : t = j := by omega
  subst this
  simp only [Array.getD_eq_getD_getElem?]
  rw [Array.getElem?_append_left (by simpa using hj)]
  simp [h2]

section fns
variable {P : Program} {f : FuncId} {fn : Func} {c : Code} {args : List Value} {N : Nat} {w : World} {R : Ending → World → Prop}

theorem enter (hf : P.funcs[f]? = some fn) (hN : fn.ntmps = N) (hb : fn.body = some c := by rfl) (ha : Nat.ble args.length N = true := by rfl)
    (h : J P none w [] N [] [] (argsE 0 args) c (bodyPost P fn R)) : Calls P f args.toArray w R := by
  subst hN
  exact callsIn_wide.1 (callsIn_of_wp (F := FW none) (n := 0) hf hb trivial (h _ w (holds_begin args ha) (SH.begin w)))

/-- .. of a function that writes blocks that were there: L, whose numbers are Mk. -/
theorem enterM (Mk : List Nat) (L : Heap) (hL : ∀ p ∈ L, w.heap[p.1]? = some p.2) (hk : ∀ p ∈ L, p.1 ∈ Mk) (hnd : (L.map Prod.fst).Nodup) (hf : P.funcs[f]? = some fn) (hN : fn.ntmps = N) (hb : fn.body = some c := by rfl) (ha : Nat.ble args.length N = true := by rfl)
    (h : J P none w Mk N [] L (argsE 0 args) c (bodyPost P fn R)) : Calls P f args.toArray w R := by
  subst hN
  exact callsIn_wide.1 (callsIn_of_wp (F := FW none) (n := 0) hf hb trivial (h _ w (holds_begin args ha) ⟨rfl, rfl, rfl, Nat.le_refl _, fun _ _ _ => rfl, hL, fun p hp => .inl (hk p hp), hnd⟩))

/-- The results, off the slots and the blocks. -/
inductive Res (P : Program) (L : Heap) (E : Env) : List ResultVar → List Value → Prop
  | nil : Res P L E [] []
  | tmp {t : Tmp} {v : Value} {r : List ResultVar} {vs : List Value} (hv : look E t = some v) (h : Res P L E r vs) : Res P L E (.tmp t :: r) (v :: vs)
  | word {a : Tmp} {t : TypeId} {b : Nat} {l : List Value} {T : TypeId} {g : Nat × Nat} {v : Value} {r : List ResultVar} {vs : List Value} (hA : ∀ w, (isAgg t).run P w = .ok false w) (ha : look E a = some (.pointer (some ⟨b, 0, none⟩)))
      (hm : (b, Obj.cells l.toArray T g) ∈ L) (hv : nth l 0 = some v) (h : Res P L E r vs) : Res P L E (.cell a t :: r) (v :: vs)
  | agg {a : Tmp} {t : TypeId} {b n : Nat} {l : List Value} {T : TypeId} {g : Nat × Nat} {cs : List Value} {r : List ResultVar} {vs : List Value} (hA : ∀ w, (isAgg t).run P w = .ok true w) (hS : ∀ w, (sizeOf t).run P w = .ok n w)
      (ha : look E a = some (.pointer (some ⟨b, 0, none⟩))) (hm : (b, Obj.cells l.toArray T g) ∈ L) (hv : seg l 0 n = some cs) (h : Res P L E r vs) : Res P L E (.cell a t :: r) (.agg cs.toArray :: vs)

def resOf : List Value → Value
  | [v] => v
  | vs => .tuple vs.toArray

def resSem (a : Act) : ResultVar → Sem Value
  | .tmp t => pure (a.tmps.getD t undef)
  | .cell x t => do loadVar t (← asAddr (a.tmps.getD x undef))

theorem Res.run {b0 : World} {Mk : List Nat} {D : List Deferred} {L : Heap} {E : Env} {rs : List ResultVar} {vs : List Value} (h : Res P L E rs vs) {a : Act} {w : World} (ha : Holds N D E a) (hw : SH b0 Mk L w) :
    (rs.mapM (resSem a)).run P w = .ok vs w := by
  induction h with
  | nil => simp
  | @tmp t v r vs hv _ ih =>
    have h1 : (resSem a (.tmp t)).run P w = .ok v w := by simp only [resSem, ha.val _ _ hv, Sem.run_pure]
    rw [List.mapM_cons]
    simp only [Sem.run_bind, h1, Result.andThen_ok, ih, Sem.run_pure]
  | @word x t b l T g v r vs hA hx hm hv _ ih =>
    have hc := hw.cell hm (by rw [← nth_eq]; exact hv)
    have h1 : (resSem a (.cell x t)).run P w = .ok v w := by
      simp only [resSem, Sem.run_bind, ha.val _ _ hx, asAddr, Sem.run_pure, Result.andThen_ok, loadVar, hA, Bool.false_eq_true, if_false, run_load, hc]
    rw [List.mapM_cons]
    simp only [Sem.run_bind, h1, Result.andThen_ok, ih, Sem.run_pure]
  | @agg x t b n l T g cs r vs hA hS hx hm hv _ ih =>
    obtain ⟨h1, h2⟩ := seg_spec l n 0 cs hv
    have hl : (loadCells ⟨b, 0, none⟩ n).run P w = .ok cs.toArray w := by
      rw [← h1]
      exact run_loadCells_list w ⟨b, 0, none⟩ cs fun j v hj => by
        rw [addr_add]
        exact hw.cell hm (h2 j v hj)
    have h1 : (resSem a (.cell x t)).run P w = .ok (.agg cs.toArray) w := by
      simp only [resSem, Sem.run_bind, ha.val _ _ hx, asAddr, Sem.run_pure, Result.andThen_ok, loadVar, hA, if_true, hS, hl]
    rw [List.mapM_cons]
    simp only [Sem.run_bind, h1, Result.andThen_ok, ih, Sem.run_pure]

theorem run_results {b0 : World} {Mk : List Nat} {D : List Deferred} {L : Heap} {E : Env} {rs : List ResultVar} {vs : List Value} (hr : fn.results = rs.toArray) (h : Res P L E rs vs) {a : Act} {w : World} (ha : Holds N D E a) (hw : SH b0 Mk L w) :
    (results fn a.tmps).run P w = .ok (resOf vs) w := by
  have h1 := h.run ha hw
  have e : results fn a.tmps = (do let vs ← Array.mapM (resSem a) fn.results; pure (if h : vs.size = 1 then vs[0] else .tuple vs)) := by
    unfold results
    congr 1
  rw [e, hr]
  simp only [List.mapM_toArray, Sem.run_bind, Sem.run_map, h1, Result.andThen_ok, Sem.run_pure]
  congr 1
  cases vs with
  | nil => rfl
  | cons v r => cases r <;> rfl

theorem JX_ret {b0 : World} {Mk : List Nat} {L : Heap} {E : Env} {rs : List ResultVar} {vs : List Value} (hr : fn.results = rs.toArray) (h : Res P L E rs vs) (hR : ∀ w, SH b0 Mk L w → R (.returned (resOf vs)) w) :
    JX b0 Mk N [] L E (bodyPost P fn R) .ret := fun _ w ha hw => ⟨ha.defs, _, run_results hr h ha hw, hR w hw⟩
theorem JX_end {b0 : World} {Mk : List Nat} {L : Heap} {E : Env} {rs : List ResultVar} {vs : List Value} (hr : fn.results = rs.toArray) (h : Res P L E rs vs) (hR : ∀ w, SH b0 Mk L w → R (.returned (resOf vs)) w) :
    JX b0 Mk N [] L E (bodyPost P fn R) .normal := fun _ w ha hw => ⟨ha.defs, _, run_results hr h ha hw, hR w hw⟩

theorem Fresh.sub {w w' : World} {B B' : Heap} (h : Fresh w w' B) (hs : List.Sublist B' B) : Fresh w w' B' :=
  ⟨h.ext, fun p hp => h.own p (hs.subset hp), fun p hp => h.new p (hs.subset hp), (hs.map _).nodup h.nd⟩
end fns
end Go.Proofs.YtodejmindmiknaaDoor.Jd
