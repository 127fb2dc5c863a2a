/- Scopes; slices against nil; copy; facts on blocks that only readers follow. No condition. -/
import Derived.Test.YtodejmindmiknaaDoorJ8
import Derived.Scope
namespace Go.Proofs.YtodejmindmiknaaDoor.Jd
set_option linter.unusedSimpArgs false
set_option linter.unusedVariables false
open Go.RowKit (Below)

theorem stepR_scope {P : Program} {b : Frame} {a : Act} {k : List Item} {cs : List Frame} {w : World} {c : Code} : step P (lone (b.atR a (.code (.scope c) :: k)) cs w) = .next (lone (b.atR a (.code c :: .inScope c :: k)) cs w) :=
  step_lone_go (by simp [stepG, stepG.exec, Frame.atR])
theorem stepR_inScope {P : Program} {b : Frame} {a : Act} {k : List Item} {cs : List Frame} {w : World} {c : Code} : step P (lone (b.atR a (.inScope c :: k)) cs w) = .next (lone (b.atR a k) cs w) :=
  step_lone_go (by simp [stepG, stepG.exec, Frame.atR])

section
variable {P : Program} {rd : Option Nat} {b0 : World} {Mk : List Nat} {N : Nat} {D : List Deferred} {ops : Array Oper} {L V : Heap} {E : Env} {T : Act → World → Prop} {Q : Exit → Act → World → Prop}
variable {op : Op} {ty : TypeId} {pos : String} {after : Array Edge} {d : Nat}

theorem J_scope {c : Code} (h : J P rd b0 Mk N D L E c (Exit.noGoto Q)) : J P rd b0 Mk N D L E (Code.scope c) Q := by
  intro a w ha hw b k cs hro hb hr
  have h0 : (lone (b.atR a (.code (.scope c) :: k)) cs w).fenced P (FW rd) := fenced_calm hb hr rfl
  obtain ⟨e, a₁, w₁, hq, harr⟩ := h a w ha hw b (.inScope c :: k) cs hro hb hr
  cases e with
  | normal => exact ⟨.normal, a₁, w₁, hq, .head h0 stepR_scope (StepsIn.trans harr (.one (fenced_calm hb hr rfl) stepR_inScope))⟩
  | goto l => exact hq.elim
  | exit id => exact ⟨_, a₁, w₁, hq, .of_steps (.one h0 stepR_scope) (e := .exit id) ⟨fun k' hk => harr.1 k' (by simpa [exitTo] using hk), fun hr hk => harr.2 hr (by simpa [exitTo] using hk)⟩⟩
  | ret => exact ⟨_, a₁, w₁, hq, .of_steps (.one h0 stepR_scope) harr⟩
  | panic ch => exact ⟨_, a₁, w₁, hq, .of_steps (.one h0 stepR_scope) harr⟩
  | outgrown => exact ⟨_, a₁, w₁, hq, .of_steps (.one h0 stepR_scope) harr⟩
theorem JX_scope (h : JX b0 Mk N D L E Q .normal) : JX b0 Mk N D L E (Exit.noGoto Q) .normal := h
theorem JX_scope_exit {id : Nat} (h : JX b0 Mk N D L E Q (.exit id)) : JX b0 Mk N D L E (Exit.noGoto Q) (.exit id) := h
theorem JX_scope_ret (h : JX b0 Mk N D L E Q .ret) : JX b0 Mk N D L E (Exit.noGoto Q) .ret := h

theorem c_callA {f : Operand} {l : List Operand} {tys : Array TypeId} {k : FuncId} {fs cs vs args : List Value} (hc : ∀ args w, (callFunc k args).run P w = .ok (.enter k args) w)
    (hf : ev E f = some (.func (.func k) fs.toArray cs.toArray) := by rfl) (ha : evs E l = some vs := by rfl) (he : fs ++ vs ++ cs = args := by rfl) :
    RunC P N D b0 Mk L E (.call { callee := .value f, args := l.toArray, argTypes := tys }) ty k args := he ▸ c_call hc hf ha

/-- A slice against nil. -/
theorem q_eqNil {t e t' : TypeId} {x y : Operand} {a : Option Addr} {n c : Nat} (hU : ∀ w, (underlying t).run P w = .ok (.slice e) w) (hx : ev E x = some (.slice a n c) := by rfl) (hy : ev E y = some (.slice none 0 0) := by rfl) : RunQ P N D b0 Mk L E (.binOp .eql t x y t') ty (.bool a.isNone) := fun ac w ha _ => by
  have h : ∀ d, (Op.equalIn (d + 1) t (.slice a n c) (.slice none 0 0)).run P w = .ok a.isNone w := fun d => by
    unfold Op.equalIn
    cases a <;> simp [hU]
  have h1 : (binOp .eql t (.slice a n c) (.slice none 0 0)).run P w = .ok (.bool a.isNone) w := by
    show (do pure (.bool (← Op.equal t (.slice a n c) (.slice none 0 0))) : Sem Value).run P w = _
    simp only [Sem.run_bind, Op.equal, Op.maxDepth, h 9999, Result.andThen_ok, Sem.run_pure]
  simp only [mkO, execOp, ha.eval hx, ha.eval hy, eqGuard, Sem.run_bind]
  simp [h1]

/-- What the blocks B hold, for those who read them. -/
def SlB (B : Heap) {α : Type} (enc : α → List Value) (k : Nat) (a : Option Addr) (xs : List α) : Prop := ∀ w : World, (∀ p ∈ B, w.heap[p.1]? = some p.2) → Sl w enc k a xs

theorem SlB.slj {B : Heap} {α : Type} {enc : α → List Value} {k : Nat} {a : Option Addr} {xs : List α} (h : SlB B enc k a xs) (hB : ∀ p ∈ B, p ∈ L := by intro p hp; repeat (first | exact hp | exact List.mem_append_left _ hp | apply List.mem_append_right | apply List.mem_cons_of_mem)) : SlJ b0 Mk L enc k a xs :=
  fun w hw => h w fun p hp => hw.own p (hB p hp)
theorem SlB.mono {B B' : Heap} {α : Type} {enc : α → List Value} {k : Nat} {a : Option Addr} {xs : List α} (h : SlB B enc k a xs) (hB : ∀ p ∈ B, p ∈ B') : SlB B' enc k a xs :=
  fun w hw => h w fun p hp => hw p (hB p hp)
theorem SlB.nil {B : Heap} {α : Type} {enc : α → List Value} {k : Nat} {a : Option Addr} : SlB B enc k a [] := fun _ _ => Sl.nil
theorem OwnB.slb {α : Type} {enc : α → List Value} {k : Nat} {e : TypeId} {a : Option Addr} {c : Nat} {B B' : Heap} {xs : List α} (h : OwnB enc k e a c B xs) (hE : EncOk enc k) (hB : ∀ p ∈ B, p ∈ B' := by intro p hp; repeat (first | exact hp | exact List.mem_append_left _ hp | apply List.mem_append_right | apply List.mem_cons_of_mem)) : SlB B' enc k a xs :=
  fun _ hw => h.sl hE fun p hp => hw p (hB p hp)

theorem Sl.none {α : Type} {enc : α → List Value} {k : Nat} {xs : List α} {w : World} (h : Sl w enc k none xs) : xs = [] := by
  cases xs with
  | nil => rfl
  | cons x r => obtain ⟨b, off, h1, _⟩ := h 0 x rfl; cases h1

theorem Sl.lt {w : World} {α : Type} {enc : α → List Value} {k : Nat} {p : Addr} {xs : List α} (h : Sl w enc k (some p) xs) (hE : EncOk enc k) (hx : xs ≠ []) : p.block < w.heap.size := by
  cases xs with
  | nil => exact absurd rfl hx
  | cons x r =>
    obtain ⟨b, off, h1, _, h3⟩ := h 0 x rfl
    have e1 := Option.some.inj h1
    have hp : 0 < (enc x).length := by rw [hE.len]; exact hE.pos
    have hc := h3 0 _ (List.getElem?_eq_getElem hp)
    have := World.block_lt_of_cell? w _ hc
    rw [e1]; exact this
/-- The block of the slice is none of those that a loop writes. -/
def NotIn {α : Type} (a : Option Addr) (xs : List α) (k : Nat) : Prop := ∀ p, a = some p → xs ≠ [] → k ≠ p.block
theorem Sl.notIn {w : World} {α : Type} {enc : α → List Value} {k n : Nat} {a : Option Addr} {xs : List α} (h : Sl w enc k a xs) (hE : EncOk enc k) (hn : w.heap.size ≤ n) : NotIn a xs n := fun p hp hx e => by
  subst hp
  have := h.lt hE hx
  omega
theorem SlJ.of_world {α : Type} {enc : α → List Value} {k : Nat} {a : Option Addr} {xs : List α} (h : Sl b0 enc k a xs) (hM : ∀ m ∈ Mk, NotIn a xs m) : SlJ b0 Mk L enc k a xs := fun w hw i x hx => by
  obtain ⟨b, off, h1, h2, h3⟩ := h i x hx
  refine ⟨b, off, h1, h2, fun j v hv => ?_⟩
  have hc := h3 j v hv
  have hlt := World.block_lt_of_cell? b0 _ hc
  exact cell_of_same hc (hw.same b hlt (fun hm => hM b hm _ h1 (fun e => by subst e; simp at hx) rfl))

/-- Slices of a world that this one has grown from, where the blocks to be written are none of that world's. -/
theorem SlJ.of_below {wb : World} {α : Type} {enc : α → List Value} {k : Nat} {a : Option Addr} {xs : List α} (h : Sl wb enc k a xs) (hb : Ext wb b0) (hM : ∀ k ∈ Mk, wb.heap.size ≤ k) : SlJ b0 Mk L enc k a xs := fun w hw i x hx => by
  obtain ⟨b, off, h1, h2, h3⟩ := (h.ext hb) i x hx
  obtain ⟨b', off', h1', _, h3'⟩ := h i x hx
  rw [h1] at h1'
  have e1 := Option.some.inj h1'
  refine ⟨b, off, h1, h2, fun j v hv => ?_⟩
  have hc := h3 j v hv
  have hlt := World.block_lt_of_cell? b0 _ hc
  have hlt0 := World.block_lt_of_cell? wb _ (h3' j v hv)
  simp only at hlt hlt0
  have hbb : b = b' := by have := congrArg Addr.block e1; exact this
  subst hbb
  exact cell_of_same hc (hw.same b hlt (fun hm => by have := hM b hm; omega))

theorem q_loadB' {wb : World} {t : TypeId} {x : Operand} {r k : Nat} {l : List Value} {T : TypeId} {f : Nat × Nat} {v : Value} (hA : ∀ w, (isAgg t).run P w = .ok false w) (hwb : Ext wb b0) (hM : ∀ k ∈ Mk, wb.heap.size ≤ k) (hb : wb.heap[r]? = some (Obj.cells l.toArray T f)) (hx : ev E x = some (.pointer (some ⟨r, k, none⟩)) := by rfl)
    (hv : nth l k = some v := by rfl) : RunQ P N D b0 Mk L E (.load t x) ty v := by
  have hlt := (Array.getElem?_eq_some_iff.1 hb).1
  refine q_loadB (f := f) (T := T) hA ?_ hx (fun hm => ?_) hv
  · have := hwb.block r hlt
    rw [this]; exact hb
  · have := hM r hm; omega

/-- copy onto a row of the call's own. -/
theorem e_copy {α : Type} {enc : α → List Value} {k by_ : Nat} {t e : TypeId} {z : Value} {x y : Operand} {a a' : Option Addr} {c c' n : Nat} {B : Heap} {xs ys : List α} (hT : Ty P e k by_ z) (hU : P.underlying t = some (.slice e)) (hE : EncOk enc k) (ho : OwnB enc k e a c B xs)
    (hs : SlJ b0 Mk L enc k a' ys) (hB : ∀ p ∈ B, p ∈ L) (hn : xs.length = n) (hm : ys.length = n) (hx : ev E x = some (.slice a n c) := by rfl) (hy : ev E y = some (.slice a' n c') := by rfl) :
    RunM P N D b0 Mk L E (.call { callee := .builtin .copy, args := #[x, y], argTypes := #[t, t] }) ty B Heap (fun _ => .value (.int .i64 n)) (fun q => q) (fun q => OwnB enc k e a c q ys) := by
  intro ac w ha hw
  obtain ⟨i, hi, rfl, rfl, hz⟩ := hT.ex
  have run1 : ∀ (v' : Value) (w' : World), (Builtin.copy_ #[t, t] ty #[.slice a n c, .slice a' n c']).run P w = .ok v' w' →
      (execOp ac.eval (mkO (.call { callee := .builtin .copy, args := #[x, y], argTypes := #[t, t] }) ty)).run P w = .ok (.value v') w' := fun v' w' h => by
    simp [mkO, execOp, resolve, invoke, builtin, ha.eval hx, ha.eval hy, h]
  have hsl := hs w hw
  have hmin : Nat.min n n = n := Nat.min_self n
  rcases ho with ⟨rfl, rfl, rfl⟩ | ⟨r, cur, fz, rfl, rfl, hfz, h1, h2, h3⟩
  · simp at hn; subst hn
    have : ys = [] := List.length_eq_zero_iff.1 hm
    subst this
    refine ⟨[], w, run1 _ _ ?_, Tr.refl (fun _ h => by cases h) (by simp [keys]), OwnB.nil⟩
    rcases a with _ | ad <;> rcases a' with _ | ad' <;> simp [Builtin.copy_, run_underlying hU, Builtin.lenOf, Builtin.firstCells, sizeOf, typeInfo, hi, loadCells, loadCellsFrom, storeCells, goInt]
  · have hh : w.heap[r]? = some (.cells cur e fz) := hw.own _ (hB _ List.mem_cons_self)
    have hfl := flat_length hE ys
    have hle : n * i.size ≤ c * i.size := Nat.mul_le_mul_right _ (by omega)
    have hst := run_storeCells_atG P r 0 e fz (flat enc ys) 0 cur w hh hfz (by rw [hfl, hm]; omega) (flat_one hE ys)
    refine ⟨[(r, .cells (cur.toList.take (0 + 0) ++ flat enc ys ++ cur.toList.drop (0 + 0 + (flat enc ys).length)).toArray e fz)], _, run1 _ _ ?_, tr_row hh, OwnB.fullF ?_ (by omega) ?_ ?_⟩
    · rcases a' with _ | ad
      · have : ys = [] := Sl.none hsl
        subst this
        have hn0 : n = 0 := by simpa using hm.symm
        subst hn0
        simp only [flat, List.map_nil, List.flatten_nil] at hst ⊢
        simp [Builtin.copy_, run_underlying hU, Builtin.lenOf, Builtin.firstCells, sizeOf, typeInfo, hi, hst, goInt]
      · have hl : (loadCells ad (n * i.size)).run P w = .ok (flat enc ys).toArray w := by
          rw [← hm, ← hfl]
          have := Sl.cells hE hsl ys.length (Nat.le_refl _)
          rw [List.take_length] at this
          exact run_loadCells_list w ad _ this
        simp [Builtin.copy_, run_underlying hU, Builtin.lenOf, Builtin.firstCells, sizeOf, typeInfo, hi, hmin, hl, hst, goInt]
    · refine hfz.imp id fun h => Nat.le_trans (Nat.le_of_eq ?_) h
      simp [hfl, hm, h2]; omega
    · simp [hfl, hm, h2]; omega
    · simp only [Nat.add_zero, List.take_zero, List.nil_append, Nat.zero_add]
      rw [List.take_left' (by rw [hfl])]
theorem JL_copy {α : Type} {enc : α → List Value} {k by_ : Nat} {t e : TypeId} {z : Value} {x y : Operand} {a a' : Option Addr} {c c' n : Nat} {B R : Heap} {xs ys : List α} {l : List Oper} (hT : Ty P e k by_ z) (hU : P.underlying t = some (.slice e)) (hE : EncOk enc k) (ho : OwnB enc k e a c B xs)
    (hL : List.Perm L (B ++ R)) (hs : SlJ b0 Mk L enc k a' ys) (hn : xs.length = n) (hm : ys.length = n) (hx : ev E x = some (.slice a n c) := by rfl) (hy : ev E y = some (.slice a' n c') := by rfl)
    (hd : Nat.blt d N = true := by rfl)
    (kk : ∀ B2, OwnB enc k e a c B2 ys → JL P rd b0 Mk N D ops (B2 ++ R) ((d, .int .i64 n) :: E) l T) :
    JL P rd b0 Mk N D ops L E ({ dst := some d, op := .call { callee := .builtin .copy, args := #[x, y], argTypes := #[t, t] }, type := ty, pos := pos, after := after, guard := none } :: l) T :=
  JL_e hL (e_copy hT hU hE ho hs (fun p hp => hL.mem_iff.2 (List.mem_append_left _ hp)) hn hm hx hy) rfl hd (fun q hq => kk q hq)
end
end Go.Proofs.YtodejmindmiknaaDoor.Jd
namespace Go.Proofs.YtodejmindmiknaaDoor.Jd
set_option linter.unusedSimpArgs false
set_option linter.unusedVariables false
section
variable {P : Program} {rd : Option Nat} {b0 : World} {Mk : List Nat} {N : Nat} {D : List Deferred} {ops : Array Oper} {L V : Heap} {E : Env} {T : Act → World → Prop}
variable {ty : TypeId} {pos : String} {after : Array Edge} {d : Nat}
theorem JD_copy {α : Type} {enc : α → List Value} {k by_ : Nat} {t e : TypeId} {z : Value} {x y : Operand} {a a' : Option Addr} {c c' n : Nat} {B R : Heap} {xs ys : List α} {l : List (Bool × Oper)} (hT : Ty P e k by_ z) (hU : P.underlying t = some (.slice e)) (hE : EncOk enc k) (ho : OwnB enc k e a c B xs)
    (hV : List.Perm V (B ++ R)) (hs : SlJ b0 Mk (V ++ L) enc k a' ys) (hn : xs.length = n) (hm : ys.length = n) (hx : ev E x = some (.slice a n c) := by rfl) (hy : ev E y = some (.slice a' n c') := by rfl)
    (hd : Nat.blt d N = true := by rfl)
    (kk : ∀ B2, OwnB enc k e a c B2 ys → JD P rd b0 Mk N D ops L (B2 ++ R) ((d, .int .i64 n) :: E) l T) :
    JD P rd b0 Mk N D ops L V E ((false, { dst := some d, op := .call { callee := .builtin .copy, args := #[x, y], argTypes := #[t, t] }, type := ty, pos := pos, after := after, guard := none }) :: l) T :=
  JD_e hV (e_copy hT hU hE ho hs (fun p hp => List.mem_append_left _ (hV.mem_iff.2 (List.mem_append_left _ hp))) hn hm hx hy) rfl hd (fun q hq => kk q hq)
end
theorem run_eqI {P : Program} {t : TypeId} {w : World} (d : Nat) (k : IntKind) (p q : Int) (hU : ∀ w, (underlying t).run P w = .ok (.int k) w) : (Op.equalIn (d + 1) t (.int k p) (.int k q)).run P w = .ok (decide (p = q)) w := by
  unfold Op.equalIn
  simp only [Sem.run_bind, hU, Result.andThen_ok]
  by_cases h : p = q <;> simp [h]
theorem OwnB.le {α : Type} {enc : α → List Value} {k : Nat} {e : TypeId} {a : Option Addr} {c : Nat} {B : Heap} {xs : List α} (h : OwnB enc k e a c B xs) : xs.length ≤ c := by
  rcases h with ⟨_, _, rfl⟩ | ⟨_, _, _, _, _, _, h, _, _⟩
  · simp
  · exact h
theorem SlB.take {B : Heap} {α : Type} {enc : α → List Value} {k : Nat} {a : Option Addr} {xs : List α} (h : SlB B enc k a xs) (n : Nat) : SlB B enc k a (xs.take n) := fun w hw i x hx => h w hw i x (by
  rw [List.getElem?_take] at hx
  split at hx
  · exact hx
  · cases hx)
theorem fresh_pick3 {w w' : World} {A B C R : Heap} (h : SH w [] (A ++ (B ++ (C ++ R))) w') : Fresh w w' (A ++ (B ++ C)) :=
  h.fresh_out.sub (List.Sublist.append (List.Sublist.refl _) (List.Sublist.append (List.Sublist.refl _) (List.sublist_append_left _ _)))
theorem perm_seg (A B C : Heap) : List.Perm (A ++ (B ++ C)) (B ++ (A ++ C)) := by
  rw [← List.append_assoc, ← List.append_assoc]; exact List.perm_append_comm.append_right _
end Go.Proofs.YtodejmindmiknaaDoor.Jd
namespace Go.Proofs.YtodejmindmiknaaDoor.Jd
set_option linter.unusedSimpArgs false
set_option linter.unusedVariables false
section
variable {P : Program} {rd : Option Nat} {b0 : World} {Mk : List Nat} {N : Nat} {D : List Deferred} {L : Heap} {E : Env} {Q : Exit → Act → World → Prop} {c : Code}
def Round11 {σ1 σ2 σ3 σ4 σ5 σ6 σ7 σ8 σ9 σ10 σ11 : Type} (b0 : World) (Mk : List Nat) (N : Nat) (D : List Deferred) (Ls : σ1 → σ2 → σ3 → σ4 → σ5 → σ6 → σ7 → σ8 → σ9 → σ10 → σ11 → Heap) (Es : σ1 → σ2 → σ3 → σ4 → σ5 → σ6 → σ7 → σ8 → σ9 → σ10 → σ11 → Env) (I : σ1 → σ2 → σ3 → σ4 → σ5 → σ6 → σ7 → σ8 → σ9 → σ10 → σ11 → Prop) (m : σ1 → σ2 → σ3 → σ4 → σ5 → σ6 → σ7 → σ8 → σ9 → σ10 → σ11 → Nat) (n : Nat) : Act → World → Prop :=
  Round b0 Mk N D (fun s : σ1 × σ2 × σ3 × σ4 × σ5 × σ6 × σ7 × σ8 × σ9 × σ10 × σ11 => Ls s.1 s.2.1 s.2.2.1 s.2.2.2.1 s.2.2.2.2.1 s.2.2.2.2.2.1 s.2.2.2.2.2.2.1 s.2.2.2.2.2.2.2.1 s.2.2.2.2.2.2.2.2.1 s.2.2.2.2.2.2.2.2.2.1 s.2.2.2.2.2.2.2.2.2.2) (fun s => Es s.1 s.2.1 s.2.2.1 s.2.2.2.1 s.2.2.2.2.1 s.2.2.2.2.2.1 s.2.2.2.2.2.2.1 s.2.2.2.2.2.2.2.1 s.2.2.2.2.2.2.2.2.1 s.2.2.2.2.2.2.2.2.2.1 s.2.2.2.2.2.2.2.2.2.2) (fun s => I s.1 s.2.1 s.2.2.1 s.2.2.2.1 s.2.2.2.2.1 s.2.2.2.2.2.1 s.2.2.2.2.2.2.1 s.2.2.2.2.2.2.2.1 s.2.2.2.2.2.2.2.2.1 s.2.2.2.2.2.2.2.2.2.1 s.2.2.2.2.2.2.2.2.2.2) (fun s => m s.1 s.2.1 s.2.2.1 s.2.2.2.1 s.2.2.2.2.1 s.2.2.2.2.2.1 s.2.2.2.2.2.2.1 s.2.2.2.2.2.2.2.1 s.2.2.2.2.2.2.2.2.1 s.2.2.2.2.2.2.2.2.2.1 s.2.2.2.2.2.2.2.2.2.2) n
theorem J_loop11 {σ1 σ2 σ3 σ4 σ5 σ6 σ7 σ8 σ9 σ10 σ11 : Type} (Ls : σ1 → σ2 → σ3 → σ4 → σ5 → σ6 → σ7 → σ8 → σ9 → σ10 → σ11 → Heap) (Es : σ1 → σ2 → σ3 → σ4 → σ5 → σ6 → σ7 → σ8 → σ9 → σ10 → σ11 → Env) (I : σ1 → σ2 → σ3 → σ4 → σ5 → σ6 → σ7 → σ8 → σ9 → σ10 → σ11 → Prop) (m : σ1 → σ2 → σ3 → σ4 → σ5 → σ6 → σ7 → σ8 → σ9 → σ10 → σ11 → Nat) (x1 : σ1) (x2 : σ2) (x3 : σ3) (x4 : σ4) (x5 : σ5) (x6 : σ6) (x7 : σ7) (x8 : σ8) (x9 : σ9) (x10 : σ10) (x11 : σ11) (hI : I x1 x2 x3 x4 x5 x6 x7 x8 x9 x10 x11) (hE : SubE E (Es x1 x2 x3 x4 x5 x6 x7 x8 x9 x10 x11)) (hL : List.Perm L (Ls x1 x2 x3 x4 x5 x6 x7 x8 x9 x10 x11))
    (h : ∀ s1 s2 s3 s4 s5 s6 s7 s8 s9 s10 s11, I s1 s2 s3 s4 s5 s6 s7 s8 s9 s10 s11 → J P rd b0 Mk N D (Ls s1 s2 s3 s4 s5 s6 s7 s8 s9 s10 s11) (Es s1 s2 s3 s4 s5 s6 s7 s8 s9 s10 s11) c (kInv (Round11 b0 Mk N D Ls Es I m (m s1 s2 s3 s4 s5 s6 s7 s8 s9 s10 s11)) Q)) : J P rd b0 Mk N D L E (Code.loop c) Q :=
  J_loop (σ := σ1 × σ2 × σ3 × σ4 × σ5 × σ6 × σ7 × σ8 × σ9 × σ10 × σ11) (fun s : σ1 × σ2 × σ3 × σ4 × σ5 × σ6 × σ7 × σ8 × σ9 × σ10 × σ11 => Ls s.1 s.2.1 s.2.2.1 s.2.2.2.1 s.2.2.2.2.1 s.2.2.2.2.2.1 s.2.2.2.2.2.2.1 s.2.2.2.2.2.2.2.1 s.2.2.2.2.2.2.2.2.1 s.2.2.2.2.2.2.2.2.2.1 s.2.2.2.2.2.2.2.2.2.2) (fun s => Es s.1 s.2.1 s.2.2.1 s.2.2.2.1 s.2.2.2.2.1 s.2.2.2.2.2.1 s.2.2.2.2.2.2.1 s.2.2.2.2.2.2.2.1 s.2.2.2.2.2.2.2.2.1 s.2.2.2.2.2.2.2.2.2.1 s.2.2.2.2.2.2.2.2.2.2) (fun s => I s.1 s.2.1 s.2.2.1 s.2.2.2.1 s.2.2.2.2.1 s.2.2.2.2.2.1 s.2.2.2.2.2.2.1 s.2.2.2.2.2.2.2.1 s.2.2.2.2.2.2.2.2.1 s.2.2.2.2.2.2.2.2.2.1 s.2.2.2.2.2.2.2.2.2.2) (fun s => m s.1 s.2.1 s.2.2.1 s.2.2.2.1 s.2.2.2.2.1 s.2.2.2.2.2.1 s.2.2.2.2.2.2.1 s.2.2.2.2.2.2.2.1 s.2.2.2.2.2.2.2.2.1 s.2.2.2.2.2.2.2.2.2.1 s.2.2.2.2.2.2.2.2.2.2) (x1, x2, x3, x4, x5, x6, x7, x8, x9, x10, x11) hI hE hL (fun s hI => h s.1 s.2.1 s.2.2.1 s.2.2.2.1 s.2.2.2.2.1 s.2.2.2.2.2.1 s.2.2.2.2.2.2.1 s.2.2.2.2.2.2.2.1 s.2.2.2.2.2.2.2.2.1 s.2.2.2.2.2.2.2.2.2.1 s.2.2.2.2.2.2.2.2.2.2 hI)
theorem JX_inv11 {σ1 σ2 σ3 σ4 σ5 σ6 σ7 σ8 σ9 σ10 σ11 : Type} {Ls : σ1 → σ2 → σ3 → σ4 → σ5 → σ6 → σ7 → σ8 → σ9 → σ10 → σ11 → Heap} {Es : σ1 → σ2 → σ3 → σ4 → σ5 → σ6 → σ7 → σ8 → σ9 → σ10 → σ11 → Env} {I : σ1 → σ2 → σ3 → σ4 → σ5 → σ6 → σ7 → σ8 → σ9 → σ10 → σ11 → Prop} {m : σ1 → σ2 → σ3 → σ4 → σ5 → σ6 → σ7 → σ8 → σ9 → σ10 → σ11 → Nat} {n : Nat} (s1 : σ1) (s2 : σ2) (s3 : σ3) (s4 : σ4) (s5 : σ5) (s6 : σ6) (s7 : σ7) (s8 : σ8) (s9 : σ9) (s10 : σ10) (s11 : σ11) (hI : I s1 s2 s3 s4 s5 s6 s7 s8 s9 s10 s11) (hm : m s1 s2 s3 s4 s5 s6 s7 s8 s9 s10 s11 < n) (hE : SubE E (Es s1 s2 s3 s4 s5 s6 s7 s8 s9 s10 s11)) (hL : List.Perm L (Ls s1 s2 s3 s4 s5 s6 s7 s8 s9 s10 s11)) :
    JX b0 Mk N D L E (kInv (Round11 b0 Mk N D Ls Es I m n) Q) .normal := JX_inv (Ls := fun s : σ1 × σ2 × σ3 × σ4 × σ5 × σ6 × σ7 × σ8 × σ9 × σ10 × σ11 => Ls s.1 s.2.1 s.2.2.1 s.2.2.2.1 s.2.2.2.2.1 s.2.2.2.2.2.1 s.2.2.2.2.2.2.1 s.2.2.2.2.2.2.2.1 s.2.2.2.2.2.2.2.2.1 s.2.2.2.2.2.2.2.2.2.1 s.2.2.2.2.2.2.2.2.2.2) (Es := fun s => Es s.1 s.2.1 s.2.2.1 s.2.2.2.1 s.2.2.2.2.1 s.2.2.2.2.2.1 s.2.2.2.2.2.2.1 s.2.2.2.2.2.2.2.1 s.2.2.2.2.2.2.2.2.1 s.2.2.2.2.2.2.2.2.2.1 s.2.2.2.2.2.2.2.2.2.2) (I := fun s => I s.1 s.2.1 s.2.2.1 s.2.2.2.1 s.2.2.2.2.1 s.2.2.2.2.2.1 s.2.2.2.2.2.2.1 s.2.2.2.2.2.2.2.1 s.2.2.2.2.2.2.2.2.1 s.2.2.2.2.2.2.2.2.2.1 s.2.2.2.2.2.2.2.2.2.2) (m := fun s => m s.1 s.2.1 s.2.2.1 s.2.2.2.1 s.2.2.2.2.1 s.2.2.2.2.2.1 s.2.2.2.2.2.2.1 s.2.2.2.2.2.2.2.1 s.2.2.2.2.2.2.2.2.1 s.2.2.2.2.2.2.2.2.2.1 s.2.2.2.2.2.2.2.2.2.2) (s1, s2, s3, s4, s5, s6, s7, s8, s9, s10, s11) hI hm hE hL
def Round12 {σ1 σ2 σ3 σ4 σ5 σ6 σ7 σ8 σ9 σ10 σ11 σ12 : Type} (b0 : World) (Mk : List Nat) (N : Nat) (D : List Deferred) (Ls : σ1 → σ2 → σ3 → σ4 → σ5 → σ6 → σ7 → σ8 → σ9 → σ10 → σ11 → σ12 → Heap) (Es : σ1 → σ2 → σ3 → σ4 → σ5 → σ6 → σ7 → σ8 → σ9 → σ10 → σ11 → σ12 → Env) (I : σ1 → σ2 → σ3 → σ4 → σ5 → σ6 → σ7 → σ8 → σ9 → σ10 → σ11 → σ12 → Prop) (m : σ1 → σ2 → σ3 → σ4 → σ5 → σ6 → σ7 → σ8 → σ9 → σ10 → σ11 → σ12 → Nat) (n : Nat) : Act → World → Prop :=
  Round b0 Mk N D (fun s : σ1 × σ2 × σ3 × σ4 × σ5 × σ6 × σ7 × σ8 × σ9 × σ10 × σ11 × σ12 => Ls s.1 s.2.1 s.2.2.1 s.2.2.2.1 s.2.2.2.2.1 s.2.2.2.2.2.1 s.2.2.2.2.2.2.1 s.2.2.2.2.2.2.2.1 s.2.2.2.2.2.2.2.2.1 s.2.2.2.2.2.2.2.2.2.1 s.2.2.2.2.2.2.2.2.2.2.1 s.2.2.2.2.2.2.2.2.2.2.2) (fun s => Es s.1 s.2.1 s.2.2.1 s.2.2.2.1 s.2.2.2.2.1 s.2.2.2.2.2.1 s.2.2.2.2.2.2.1 s.2.2.2.2.2.2.2.1 s.2.2.2.2.2.2.2.2.1 s.2.2.2.2.2.2.2.2.2.1 s.2.2.2.2.2.2.2.2.2.2.1 s.2.2.2.2.2.2.2.2.2.2.2) (fun s => I s.1 s.2.1 s.2.2.1 s.2.2.2.1 s.2.2.2.2.1 s.2.2.2.2.2.1 s.2.2.2.2.2.2.1 s.2.2.2.2.2.2.2.1 s.2.2.2.2.2.2.2.2.1 s.2.2.2.2.2.2.2.2.2.1 s.2.2.2.2.2.2.2.2.2.2.1 s.2.2.2.2.2.2.2.2.2.2.2) (fun s => m s.1 s.2.1 s.2.2.1 s.2.2.2.1 s.2.2.2.2.1 s.2.2.2.2.2.1 s.2.2.2.2.2.2.1 s.2.2.2.2.2.2.2.1 s.2.2.2.2.2.2.2.2.1 s.2.2.2.2.2.2.2.2.2.1 s.2.2.2.2.2.2.2.2.2.2.1 s.2.2.2.2.2.2.2.2.2.2.2) n
theorem J_loop12 {σ1 σ2 σ3 σ4 σ5 σ6 σ7 σ8 σ9 σ10 σ11 σ12 : Type} (Ls : σ1 → σ2 → σ3 → σ4 → σ5 → σ6 → σ7 → σ8 → σ9 → σ10 → σ11 → σ12 → Heap) (Es : σ1 → σ2 → σ3 → σ4 → σ5 → σ6 → σ7 → σ8 → σ9 → σ10 → σ11 → σ12 → Env) (I : σ1 → σ2 → σ3 → σ4 → σ5 → σ6 → σ7 → σ8 → σ9 → σ10 → σ11 → σ12 → Prop) (m : σ1 → σ2 → σ3 → σ4 → σ5 → σ6 → σ7 → σ8 → σ9 → σ10 → σ11 → σ12 → Nat) (x1 : σ1) (x2 : σ2) (x3 : σ3) (x4 : σ4) (x5 : σ5) (x6 : σ6) (x7 : σ7) (x8 : σ8) (x9 : σ9) (x10 : σ10) (x11 : σ11) (x12 : σ12) (hI : I x1 x2 x3 x4 x5 x6 x7 x8 x9 x10 x11 x12) (hE : SubE E (Es x1 x2 x3 x4 x5 x6 x7 x8 x9 x10 x11 x12)) (hL : List.Perm L (Ls x1 x2 x3 x4 x5 x6 x7 x8 x9 x10 x11 x12))
    (h : ∀ s1 s2 s3 s4 s5 s6 s7 s8 s9 s10 s11 s12, I s1 s2 s3 s4 s5 s6 s7 s8 s9 s10 s11 s12 → J P rd b0 Mk N D (Ls s1 s2 s3 s4 s5 s6 s7 s8 s9 s10 s11 s12) (Es s1 s2 s3 s4 s5 s6 s7 s8 s9 s10 s11 s12) c (kInv (Round12 b0 Mk N D Ls Es I m (m s1 s2 s3 s4 s5 s6 s7 s8 s9 s10 s11 s12)) Q)) : J P rd b0 Mk N D L E (Code.loop c) Q :=
  J_loop (σ := σ1 × σ2 × σ3 × σ4 × σ5 × σ6 × σ7 × σ8 × σ9 × σ10 × σ11 × σ12) (fun s : σ1 × σ2 × σ3 × σ4 × σ5 × σ6 × σ7 × σ8 × σ9 × σ10 × σ11 × σ12 => Ls s.1 s.2.1 s.2.2.1 s.2.2.2.1 s.2.2.2.2.1 s.2.2.2.2.2.1 s.2.2.2.2.2.2.1 s.2.2.2.2.2.2.2.1 s.2.2.2.2.2.2.2.2.1 s.2.2.2.2.2.2.2.2.2.1 s.2.2.2.2.2.2.2.2.2.2.1 s.2.2.2.2.2.2.2.2.2.2.2) (fun s => Es s.1 s.2.1 s.2.2.1 s.2.2.2.1 s.2.2.2.2.1 s.2.2.2.2.2.1 s.2.2.2.2.2.2.1 s.2.2.2.2.2.2.2.1 s.2.2.2.2.2.2.2.2.1 s.2.2.2.2.2.2.2.2.2.1 s.2.2.2.2.2.2.2.2.2.2.1 s.2.2.2.2.2.2.2.2.2.2.2) (fun s => I s.1 s.2.1 s.2.2.1 s.2.2.2.1 s.2.2.2.2.1 s.2.2.2.2.2.1 s.2.2.2.2.2.2.1 s.2.2.2.2.2.2.2.1 s.2.2.2.2.2.2.2.2.1 s.2.2.2.2.2.2.2.2.2.1 s.2.2.2.2.2.2.2.2.2.2.1 s.2.2.2.2.2.2.2.2.2.2.2) (fun s => m s.1 s.2.1 s.2.2.1 s.2.2.2.1 s.2.2.2.2.1 s.2.2.2.2.2.1 s.2.2.2.2.2.2.1 s.2.2.2.2.2.2.2.1 s.2.2.2.2.2.2.2.2.1 s.2.2.2.2.2.2.2.2.2.1 s.2.2.2.2.2.2.2.2.2.2.1 s.2.2.2.2.2.2.2.2.2.2.2) (x1, x2, x3, x4, x5, x6, x7, x8, x9, x10, x11, x12) hI hE hL (fun s hI => h s.1 s.2.1 s.2.2.1 s.2.2.2.1 s.2.2.2.2.1 s.2.2.2.2.2.1 s.2.2.2.2.2.2.1 s.2.2.2.2.2.2.2.1 s.2.2.2.2.2.2.2.2.1 s.2.2.2.2.2.2.2.2.2.1 s.2.2.2.2.2.2.2.2.2.2.1 s.2.2.2.2.2.2.2.2.2.2.2 hI)
theorem JX_inv12 {σ1 σ2 σ3 σ4 σ5 σ6 σ7 σ8 σ9 σ10 σ11 σ12 : Type} {Ls : σ1 → σ2 → σ3 → σ4 → σ5 → σ6 → σ7 → σ8 → σ9 → σ10 → σ11 → σ12 → Heap} {Es : σ1 → σ2 → σ3 → σ4 → σ5 → σ6 → σ7 → σ8 → σ9 → σ10 → σ11 → σ12 → Env} {I : σ1 → σ2 → σ3 → σ4 → σ5 → σ6 → σ7 → σ8 → σ9 → σ10 → σ11 → σ12 → Prop} {m : σ1 → σ2 → σ3 → σ4 → σ5 → σ6 → σ7 → σ8 → σ9 → σ10 → σ11 → σ12 → Nat} {n : Nat} (s1 : σ1) (s2 : σ2) (s3 : σ3) (s4 : σ4) (s5 : σ5) (s6 : σ6) (s7 : σ7) (s8 : σ8) (s9 : σ9) (s10 : σ10) (s11 : σ11) (s12 : σ12) (hI : I s1 s2 s3 s4 s5 s6 s7 s8 s9 s10 s11 s12) (hm : m s1 s2 s3 s4 s5 s6 s7 s8 s9 s10 s11 s12 < n) (hE : SubE E (Es s1 s2 s3 s4 s5 s6 s7 s8 s9 s10 s11 s12)) (hL : List.Perm L (Ls s1 s2 s3 s4 s5 s6 s7 s8 s9 s10 s11 s12)) :
    JX b0 Mk N D L E (kInv (Round12 b0 Mk N D Ls Es I m n) Q) .normal := JX_inv (Ls := fun s : σ1 × σ2 × σ3 × σ4 × σ5 × σ6 × σ7 × σ8 × σ9 × σ10 × σ11 × σ12 => Ls s.1 s.2.1 s.2.2.1 s.2.2.2.1 s.2.2.2.2.1 s.2.2.2.2.2.1 s.2.2.2.2.2.2.1 s.2.2.2.2.2.2.2.1 s.2.2.2.2.2.2.2.2.1 s.2.2.2.2.2.2.2.2.2.1 s.2.2.2.2.2.2.2.2.2.2.1 s.2.2.2.2.2.2.2.2.2.2.2) (Es := fun s => Es s.1 s.2.1 s.2.2.1 s.2.2.2.1 s.2.2.2.2.1 s.2.2.2.2.2.1 s.2.2.2.2.2.2.1 s.2.2.2.2.2.2.2.1 s.2.2.2.2.2.2.2.2.1 s.2.2.2.2.2.2.2.2.2.1 s.2.2.2.2.2.2.2.2.2.2.1 s.2.2.2.2.2.2.2.2.2.2.2) (I := fun s => I s.1 s.2.1 s.2.2.1 s.2.2.2.1 s.2.2.2.2.1 s.2.2.2.2.2.1 s.2.2.2.2.2.2.1 s.2.2.2.2.2.2.2.1 s.2.2.2.2.2.2.2.2.1 s.2.2.2.2.2.2.2.2.2.1 s.2.2.2.2.2.2.2.2.2.2.1 s.2.2.2.2.2.2.2.2.2.2.2) (m := fun s => m s.1 s.2.1 s.2.2.1 s.2.2.2.1 s.2.2.2.2.1 s.2.2.2.2.2.1 s.2.2.2.2.2.2.1 s.2.2.2.2.2.2.2.1 s.2.2.2.2.2.2.2.2.1 s.2.2.2.2.2.2.2.2.2.1 s.2.2.2.2.2.2.2.2.2.2.1 s.2.2.2.2.2.2.2.2.2.2.2) (s1, s2, s3, s4, s5, s6, s7, s8, s9, s10, s11, s12) hI hm hE hL
def Round13 {σ1 σ2 σ3 σ4 σ5 σ6 σ7 σ8 σ9 σ10 σ11 σ12 σ13 : Type} (b0 : World) (Mk : List Nat) (N : Nat) (D : List Deferred) (Ls : σ1 → σ2 → σ3 → σ4 → σ5 → σ6 → σ7 → σ8 → σ9 → σ10 → σ11 → σ12 → σ13 → Heap) (Es : σ1 → σ2 → σ3 → σ4 → σ5 → σ6 → σ7 → σ8 → σ9 → σ10 → σ11 → σ12 → σ13 → Env) (I : σ1 → σ2 → σ3 → σ4 → σ5 → σ6 → σ7 → σ8 → σ9 → σ10 → σ11 → σ12 → σ13 → Prop) (m : σ1 → σ2 → σ3 → σ4 → σ5 → σ6 → σ7 → σ8 → σ9 → σ10 → σ11 → σ12 → σ13 → Nat) (n : Nat) : Act → World → Prop :=
  Round b0 Mk N D (fun s : σ1 × σ2 × σ3 × σ4 × σ5 × σ6 × σ7 × σ8 × σ9 × σ10 × σ11 × σ12 × σ13 => Ls s.1 s.2.1 s.2.2.1 s.2.2.2.1 s.2.2.2.2.1 s.2.2.2.2.2.1 s.2.2.2.2.2.2.1 s.2.2.2.2.2.2.2.1 s.2.2.2.2.2.2.2.2.1 s.2.2.2.2.2.2.2.2.2.1 s.2.2.2.2.2.2.2.2.2.2.1 s.2.2.2.2.2.2.2.2.2.2.2.1 s.2.2.2.2.2.2.2.2.2.2.2.2) (fun s => Es s.1 s.2.1 s.2.2.1 s.2.2.2.1 s.2.2.2.2.1 s.2.2.2.2.2.1 s.2.2.2.2.2.2.1 s.2.2.2.2.2.2.2.1 s.2.2.2.2.2.2.2.2.1 s.2.2.2.2.2.2.2.2.2.1 s.2.2.2.2.2.2.2.2.2.2.1 s.2.2.2.2.2.2.2.2.2.2.2.1 s.2.2.2.2.2.2.2.2.2.2.2.2) (fun s => I s.1 s.2.1 s.2.2.1 s.2.2.2.1 s.2.2.2.2.1 s.2.2.2.2.2.1 s.2.2.2.2.2.2.1 s.2.2.2.2.2.2.2.1 s.2.2.2.2.2.2.2.2.1 s.2.2.2.2.2.2.2.2.2.1 s.2.2.2.2.2.2.2.2.2.2.1 s.2.2.2.2.2.2.2.2.2.2.2.1 s.2.2.2.2.2.2.2.2.2.2.2.2) (fun s => m s.1 s.2.1 s.2.2.1 s.2.2.2.1 s.2.2.2.2.1 s.2.2.2.2.2.1 s.2.2.2.2.2.2.1 s.2.2.2.2.2.2.2.1 s.2.2.2.2.2.2.2.2.1 s.2.2.2.2.2.2.2.2.2.1 s.2.2.2.2.2.2.2.2.2.2.1 s.2.2.2.2.2.2.2.2.2.2.2.1 s.2.2.2.2.2.2.2.2.2.2.2.2) n
theorem J_loop13 {σ1 σ2 σ3 σ4 σ5 σ6 σ7 σ8 σ9 σ10 σ11 σ12 σ13 : Type} (Ls : σ1 → σ2 → σ3 → σ4 → σ5 → σ6 → σ7 → σ8 → σ9 → σ10 → σ11 → σ12 → σ13 → Heap) (Es : σ1 → σ2 → σ3 → σ4 → σ5 → σ6 → σ7 → σ8 → σ9 → σ10 → σ11 → σ12 → σ13 → Env) (I : σ1 → σ2 → σ3 → σ4 → σ5 → σ6 → σ7 → σ8 → σ9 → σ10 → σ11 → σ12 → σ13 → Prop) (m : σ1 → σ2 → σ3 → σ4 → σ5 → σ6 → σ7 → σ8 → σ9 → σ10 → σ11 → σ12 → σ13 → Nat) (x1 : σ1) (x2 : σ2) (x3 : σ3) (x4 : σ4) (x5 : σ5) (x6 : σ6) (x7 : σ7) (x8 : σ8) (x9 : σ9) (x10 : σ10) (x11 : σ11) (x12 : σ12) (x13 : σ13) (hI : I x1 x2 x3 x4 x5 x6 x7 x8 x9 x10 x11 x12 x13) (hE : SubE E (Es x1 x2 x3 x4 x5 x6 x7 x8 x9 x10 x11 x12 x13)) (hL : List.Perm L (Ls x1 x2 x3 x4 x5 x6 x7 x8 x9 x10 x11 x12 x13))
    (h : ∀ s1 s2 s3 s4 s5 s6 s7 s8 s9 s10 s11 s12 s13, I s1 s2 s3 s4 s5 s6 s7 s8 s9 s10 s11 s12 s13 → J P rd b0 Mk N D (Ls s1 s2 s3 s4 s5 s6 s7 s8 s9 s10 s11 s12 s13) (Es s1 s2 s3 s4 s5 s6 s7 s8 s9 s10 s11 s12 s13) c (kInv (Round13 b0 Mk N D Ls Es I m (m s1 s2 s3 s4 s5 s6 s7 s8 s9 s10 s11 s12 s13)) Q)) : J P rd b0 Mk N D L E (Code.loop c) Q :=
  J_loop (σ := σ1 × σ2 × σ3 × σ4 × σ5 × σ6 × σ7 × σ8 × σ9 × σ10 × σ11 × σ12 × σ13) (fun s : σ1 × σ2 × σ3 × σ4 × σ5 × σ6 × σ7 × σ8 × σ9 × σ10 × σ11 × σ12 × σ13 => Ls s.1 s.2.1 s.2.2.1 s.2.2.2.1 s.2.2.2.2.1 s.2.2.2.2.2.1 s.2.2.2.2.2.2.1 s.2.2.2.2.2.2.2.1 s.2.2.2.2.2.2.2.2.1 s.2.2.2.2.2.2.2.2.2.1 s.2.2.2.2.2.2.2.2.2.2.1 s.2.2.2.2.2.2.2.2.2.2.2.1 s.2.2.2.2.2.2.2.2.2.2.2.2) (fun s => Es s.1 s.2.1 s.2.2.1 s.2.2.2.1 s.2.2.2.2.1 s.2.2.2.2.2.1 s.2.2.2.2.2.2.1 s.2.2.2.2.2.2.2.1 s.2.2.2.2.2.2.2.2.1 s.2.2.2.2.2.2.2.2.2.1 s.2.2.2.2.2.2.2.2.2.2.1 s.2.2.2.2.2.2.2.2.2.2.2.1 s.2.2.2.2.2.2.2.2.2.2.2.2) (fun s => I s.1 s.2.1 s.2.2.1 s.2.2.2.1 s.2.2.2.2.1 s.2.2.2.2.2.1 s.2.2.2.2.2.2.1 s.2.2.2.2.2.2.2.1 s.2.2.2.2.2.2.2.2.1 s.2.2.2.2.2.2.2.2.2.1 s.2.2.2.2.2.2.2.2.2.2.1 s.2.2.2.2.2.2.2.2.2.2.2.1 s.2.2.2.2.2.2.2.2.2.2.2.2) (fun s => m s.1 s.2.1 s.2.2.1 s.2.2.2.1 s.2.2.2.2.1 s.2.2.2.2.2.1 s.2.2.2.2.2.2.1 s.2.2.2.2.2.2.2.1 s.2.2.2.2.2.2.2.2.1 s.2.2.2.2.2.2.2.2.2.1 s.2.2.2.2.2.2.2.2.2.2.1 s.2.2.2.2.2.2.2.2.2.2.2.1 s.2.2.2.2.2.2.2.2.2.2.2.2) (x1, x2, x3, x4, x5, x6, x7, x8, x9, x10, x11, x12, x13) hI hE hL (fun s hI => h s.1 s.2.1 s.2.2.1 s.2.2.2.1 s.2.2.2.2.1 s.2.2.2.2.2.1 s.2.2.2.2.2.2.1 s.2.2.2.2.2.2.2.1 s.2.2.2.2.2.2.2.2.1 s.2.2.2.2.2.2.2.2.2.1 s.2.2.2.2.2.2.2.2.2.2.1 s.2.2.2.2.2.2.2.2.2.2.2.1 s.2.2.2.2.2.2.2.2.2.2.2.2 hI)
theorem JX_inv13 {σ1 σ2 σ3 σ4 σ5 σ6 σ7 σ8 σ9 σ10 σ11 σ12 σ13 : Type} {Ls : σ1 → σ2 → σ3 → σ4 → σ5 → σ6 → σ7 → σ8 → σ9 → σ10 → σ11 → σ12 → σ13 → Heap} {Es : σ1 → σ2 → σ3 → σ4 → σ5 → σ6 → σ7 → σ8 → σ9 → σ10 → σ11 → σ12 → σ13 → Env} {I : σ1 → σ2 → σ3 → σ4 → σ5 → σ6 → σ7 → σ8 → σ9 → σ10 → σ11 → σ12 → σ13 → Prop} {m : σ1 → σ2 → σ3 → σ4 → σ5 → σ6 → σ7 → σ8 → σ9 → σ10 → σ11 → σ12 → σ13 → Nat} {n : Nat} (s1 : σ1) (s2 : σ2) (s3 : σ3) (s4 : σ4) (s5 : σ5) (s6 : σ6) (s7 : σ7) (s8 : σ8) (s9 : σ9) (s10 : σ10) (s11 : σ11) (s12 : σ12) (s13 : σ13) (hI : I s1 s2 s3 s4 s5 s6 s7 s8 s9 s10 s11 s12 s13) (hm : m s1 s2 s3 s4 s5 s6 s7 s8 s9 s10 s11 s12 s13 < n) (hE : SubE E (Es s1 s2 s3 s4 s5 s6 s7 s8 s9 s10 s11 s12 s13)) (hL : List.Perm L (Ls s1 s2 s3 s4 s5 s6 s7 s8 s9 s10 s11 s12 s13)) :
    JX b0 Mk N D L E (kInv (Round13 b0 Mk N D Ls Es I m n) Q) .normal := JX_inv (Ls := fun s : σ1 × σ2 × σ3 × σ4 × σ5 × σ6 × σ7 × σ8 × σ9 × σ10 × σ11 × σ12 × σ13 => Ls s.1 s.2.1 s.2.2.1 s.2.2.2.1 s.2.2.2.2.1 s.2.2.2.2.2.1 s.2.2.2.2.2.2.1 s.2.2.2.2.2.2.2.1 s.2.2.2.2.2.2.2.2.1 s.2.2.2.2.2.2.2.2.2.1 s.2.2.2.2.2.2.2.2.2.2.1 s.2.2.2.2.2.2.2.2.2.2.2.1 s.2.2.2.2.2.2.2.2.2.2.2.2) (Es := fun s => Es s.1 s.2.1 s.2.2.1 s.2.2.2.1 s.2.2.2.2.1 s.2.2.2.2.2.1 s.2.2.2.2.2.2.1 s.2.2.2.2.2.2.2.1 s.2.2.2.2.2.2.2.2.1 s.2.2.2.2.2.2.2.2.2.1 s.2.2.2.2.2.2.2.2.2.2.1 s.2.2.2.2.2.2.2.2.2.2.2.1 s.2.2.2.2.2.2.2.2.2.2.2.2) (I := fun s => I s.1 s.2.1 s.2.2.1 s.2.2.2.1 s.2.2.2.2.1 s.2.2.2.2.2.1 s.2.2.2.2.2.2.1 s.2.2.2.2.2.2.2.1 s.2.2.2.2.2.2.2.2.1 s.2.2.2.2.2.2.2.2.2.1 s.2.2.2.2.2.2.2.2.2.2.1 s.2.2.2.2.2.2.2.2.2.2.2.1 s.2.2.2.2.2.2.2.2.2.2.2.2) (m := fun s => m s.1 s.2.1 s.2.2.1 s.2.2.2.1 s.2.2.2.2.1 s.2.2.2.2.2.1 s.2.2.2.2.2.2.1 s.2.2.2.2.2.2.2.1 s.2.2.2.2.2.2.2.2.1 s.2.2.2.2.2.2.2.2.2.1 s.2.2.2.2.2.2.2.2.2.2.1 s.2.2.2.2.2.2.2.2.2.2.2.1 s.2.2.2.2.2.2.2.2.2.2.2.2) (s1, s2, s3, s4, s5, s6, s7, s8, s9, s10, s11, s12, s13) hI hm hE hL
def Round14 {σ1 σ2 σ3 σ4 σ5 σ6 σ7 σ8 σ9 σ10 σ11 σ12 σ13 σ14 : Type} (b0 : World) (Mk : List Nat) (N : Nat) (D : List Deferred) (Ls : σ1 → σ2 → σ3 → σ4 → σ5 → σ6 → σ7 → σ8 → σ9 → σ10 → σ11 → σ12 → σ13 → σ14 → Heap) (Es : σ1 → σ2 → σ3 → σ4 → σ5 → σ6 → σ7 → σ8 → σ9 → σ10 → σ11 → σ12 → σ13 → σ14 → Env) (I : σ1 → σ2 → σ3 → σ4 → σ5 → σ6 → σ7 → σ8 → σ9 → σ10 → σ11 → σ12 → σ13 → σ14 → Prop) (m : σ1 → σ2 → σ3 → σ4 → σ5 → σ6 → σ7 → σ8 → σ9 → σ10 → σ11 → σ12 → σ13 → σ14 → Nat) (n : Nat) : Act → World → Prop :=
  Round b0 Mk N D (fun s : σ1 × σ2 × σ3 × σ4 × σ5 × σ6 × σ7 × σ8 × σ9 × σ10 × σ11 × σ12 × σ13 × σ14 => Ls s.1 s.2.1 s.2.2.1 s.2.2.2.1 s.2.2.2.2.1 s.2.2.2.2.2.1 s.2.2.2.2.2.2.1 s.2.2.2.2.2.2.2.1 s.2.2.2.2.2.2.2.2.1 s.2.2.2.2.2.2.2.2.2.1 s.2.2.2.2.2.2.2.2.2.2.1 s.2.2.2.2.2.2.2.2.2.2.2.1 s.2.2.2.2.2.2.2.2.2.2.2.2.1 s.2.2.2.2.2.2.2.2.2.2.2.2.2) (fun s => Es s.1 s.2.1 s.2.2.1 s.2.2.2.1 s.2.2.2.2.1 s.2.2.2.2.2.1 s.2.2.2.2.2.2.1 s.2.2.2.2.2.2.2.1 s.2.2.2.2.2.2.2.2.1 s.2.2.2.2.2.2.2.2.2.1 s.2.2.2.2.2.2.2.2.2.2.1 s.2.2.2.2.2.2.2.2.2.2.2.1 s.2.2.2.2.2.2.2.2.2.2.2.2.1 s.2.2.2.2.2.2.2.2.2.2.2.2.2) (fun s => I s.1 s.2.1 s.2.2.1 s.2.2.2.1 s.2.2.2.2.1 s.2.2.2.2.2.1 s.2.2.2.2.2.2.1 s.2.2.2.2.2.2.2.1 s.2.2.2.2.2.2.2.2.1 s.2.2.2.2.2.2.2.2.2.1 s.2.2.2.2.2.2.2.2.2.2.1 s.2.2.2.2.2.2.2.2.2.2.2.1 s.2.2.2.2.2.2.2.2.2.2.2.2.1 s.2.2.2.2.2.2.2.2.2.2.2.2.2) (fun s => m s.1 s.2.1 s.2.2.1 s.2.2.2.1 s.2.2.2.2.1 s.2.2.2.2.2.1 s.2.2.2.2.2.2.1 s.2.2.2.2.2.2.2.1 s.2.2.2.2.2.2.2.2.1 s.2.2.2.2.2.2.2.2.2.1 s.2.2.2.2.2.2.2.2.2.2.1 s.2.2.2.2.2.2.2.2.2.2.2.1 s.2.2.2.2.2.2.2.2.2.2.2.2.1 s.2.2.2.2.2.2.2.2.2.2.2.2.2) n
theorem J_loop14 {σ1 σ2 σ3 σ4 σ5 σ6 σ7 σ8 σ9 σ10 σ11 σ12 σ13 σ14 : Type} (Ls : σ1 → σ2 → σ3 → σ4 → σ5 → σ6 → σ7 → σ8 → σ9 → σ10 → σ11 → σ12 → σ13 → σ14 → Heap) (Es : σ1 → σ2 → σ3 → σ4 → σ5 → σ6 → σ7 → σ8 → σ9 → σ10 → σ11 → σ12 → σ13 → σ14 → Env) (I : σ1 → σ2 → σ3 → σ4 → σ5 → σ6 → σ7 → σ8 → σ9 → σ10 → σ11 → σ12 → σ13 → σ14 → Prop) (m : σ1 → σ2 → σ3 → σ4 → σ5 → σ6 → σ7 → σ8 → σ9 → σ10 → σ11 → σ12 → σ13 → σ14 → Nat) (x1 : σ1) (x2 : σ2) (x3 : σ3) (x4 : σ4) (x5 : σ5) (x6 : σ6) (x7 : σ7) (x8 : σ8) (x9 : σ9) (x10 : σ10) (x11 : σ11) (x12 : σ12) (x13 : σ13) (x14 : σ14) (hI : I x1 x2 x3 x4 x5 x6 x7 x8 x9 x10 x11 x12 x13 x14) (hE : SubE E (Es x1 x2 x3 x4 x5 x6 x7 x8 x9 x10 x11 x12 x13 x14)) (hL : List.Perm L (Ls x1 x2 x3 x4 x5 x6 x7 x8 x9 x10 x11 x12 x13 x14))
    (h : ∀ s1 s2 s3 s4 s5 s6 s7 s8 s9 s10 s11 s12 s13 s14, I s1 s2 s3 s4 s5 s6 s7 s8 s9 s10 s11 s12 s13 s14 → J P rd b0 Mk N D (Ls s1 s2 s3 s4 s5 s6 s7 s8 s9 s10 s11 s12 s13 s14) (Es s1 s2 s3 s4 s5 s6 s7 s8 s9 s10 s11 s12 s13 s14) c (kInv (Round14 b0 Mk N D Ls Es I m (m s1 s2 s3 s4 s5 s6 s7 s8 s9 s10 s11 s12 s13 s14)) Q)) : J P rd b0 Mk N D L E (Code.loop c) Q :=
  J_loop (σ := σ1 × σ2 × σ3 × σ4 × σ5 × σ6 × σ7 × σ8 × σ9 × σ10 × σ11 × σ12 × σ13 × σ14) (fun s : σ1 × σ2 × σ3 × σ4 × σ5 × σ6 × σ7 × σ8 × σ9 × σ10 × σ11 × σ12 × σ13 × σ14 => Ls s.1 s.2.1 s.2.2.1 s.2.2.2.1 s.2.2.2.2.1 s.2.2.2.2.2.1 s.2.2.2.2.2.2.1 s.2.2.2.2.2.2.2.1 s.2.2.2.2.2.2.2.2.1 s.2.2.2.2.2.2.2.2.2.1 s.2.2.2.2.2.2.2.2.2.2.1 s.2.2.2.2.2.2.2.2.2.2.2.1 s.2.2.2.2.2.2.2.2.2.2.2.2.1 s.2.2.2.2.2.2.2.2.2.2.2.2.2) (fun s => Es s.1 s.2.1 s.2.2.1 s.2.2.2.1 s.2.2.2.2.1 s.2.2.2.2.2.1 s.2.2.2.2.2.2.1 s.2.2.2.2.2.2.2.1 s.2.2.2.2.2.2.2.2.1 s.2.2.2.2.2.2.2.2.2.1 s.2.2.2.2.2.2.2.2.2.2.1 s.2.2.2.2.2.2.2.2.2.2.2.1 s.2.2.2.2.2.2.2.2.2.2.2.2.1 s.2.2.2.2.2.2.2.2.2.2.2.2.2) (fun s => I s.1 s.2.1 s.2.2.1 s.2.2.2.1 s.2.2.2.2.1 s.2.2.2.2.2.1 s.2.2.2.2.2.2.1 s.2.2.2.2.2.2.2.1 s.2.2.2.2.2.2.2.2.1 s.2.2.2.2.2.2.2.2.2.1 s.2.2.2.2.2.2.2.2.2.2.1 s.2.2.2.2.2.2.2.2.2.2.2.1 s.2.2.2.2.2.2.2.2.2.2.2.2.1 s.2.2.2.2.2.2.2.2.2.2.2.2.2) (fun s => m s.1 s.2.1 s.2.2.1 s.2.2.2.1 s.2.2.2.2.1 s.2.2.2.2.2.1 s.2.2.2.2.2.2.1 s.2.2.2.2.2.2.2.1 s.2.2.2.2.2.2.2.2.1 s.2.2.2.2.2.2.2.2.2.1 s.2.2.2.2.2.2.2.2.2.2.1 s.2.2.2.2.2.2.2.2.2.2.2.1 s.2.2.2.2.2.2.2.2.2.2.2.2.1 s.2.2.2.2.2.2.2.2.2.2.2.2.2) (x1, x2, x3, x4, x5, x6, x7, x8, x9, x10, x11, x12, x13, x14) hI hE hL (fun s hI => h s.1 s.2.1 s.2.2.1 s.2.2.2.1 s.2.2.2.2.1 s.2.2.2.2.2.1 s.2.2.2.2.2.2.1 s.2.2.2.2.2.2.2.1 s.2.2.2.2.2.2.2.2.1 s.2.2.2.2.2.2.2.2.2.1 s.2.2.2.2.2.2.2.2.2.2.1 s.2.2.2.2.2.2.2.2.2.2.2.1 s.2.2.2.2.2.2.2.2.2.2.2.2.1 s.2.2.2.2.2.2.2.2.2.2.2.2.2 hI)
theorem JX_inv14 {σ1 σ2 σ3 σ4 σ5 σ6 σ7 σ8 σ9 σ10 σ11 σ12 σ13 σ14 : Type} {Ls : σ1 → σ2 → σ3 → σ4 → σ5 → σ6 → σ7 → σ8 → σ9 → σ10 → σ11 → σ12 → σ13 → σ14 → Heap} {Es : σ1 → σ2 → σ3 → σ4 → σ5 → σ6 → σ7 → σ8 → σ9 → σ10 → σ11 → σ12 → σ13 → σ14 → Env} {I : σ1 → σ2 → σ3 → σ4 → σ5 → σ6 → σ7 → σ8 → σ9 → σ10 → σ11 → σ12 → σ13 → σ14 → Prop} {m : σ1 → σ2 → σ3 → σ4 → σ5 → σ6 → σ7 → σ8 → σ9 → σ10 → σ11 → σ12 → σ13 → σ14 → Nat} {n : Nat} (s1 : σ1) (s2 : σ2) (s3 : σ3) (s4 : σ4) (s5 : σ5) (s6 : σ6) (s7 : σ7) (s8 : σ8) (s9 : σ9) (s10 : σ10) (s11 : σ11) (s12 : σ12) (s13 : σ13) (s14 : σ14) (hI : I s1 s2 s3 s4 s5 s6 s7 s8 s9 s10 s11 s12 s13 s14) (hm : m s1 s2 s3 s4 s5 s6 s7 s8 s9 s10 s11 s12 s13 s14 < n) (hE : SubE E (Es s1 s2 s3 s4 s5 s6 s7 s8 s9 s10 s11 s12 s13 s14)) (hL : List.Perm L (Ls s1 s2 s3 s4 s5 s6 s7 s8 s9 s10 s11 s12 s13 s14)) :
    JX b0 Mk N D L E (kInv (Round14 b0 Mk N D Ls Es I m n) Q) .normal := JX_inv (Ls := fun s : σ1 × σ2 × σ3 × σ4 × σ5 × σ6 × σ7 × σ8 × σ9 × σ10 × σ11 × σ12 × σ13 × σ14 => Ls s.1 s.2.1 s.2.2.1 s.2.2.2.1 s.2.2.2.2.1 s.2.2.2.2.2.1 s.2.2.2.2.2.2.1 s.2.2.2.2.2.2.2.1 s.2.2.2.2.2.2.2.2.1 s.2.2.2.2.2.2.2.2.2.1 s.2.2.2.2.2.2.2.2.2.2.1 s.2.2.2.2.2.2.2.2.2.2.2.1 s.2.2.2.2.2.2.2.2.2.2.2.2.1 s.2.2.2.2.2.2.2.2.2.2.2.2.2) (Es := fun s => Es s.1 s.2.1 s.2.2.1 s.2.2.2.1 s.2.2.2.2.1 s.2.2.2.2.2.1 s.2.2.2.2.2.2.1 s.2.2.2.2.2.2.2.1 s.2.2.2.2.2.2.2.2.1 s.2.2.2.2.2.2.2.2.2.1 s.2.2.2.2.2.2.2.2.2.2.1 s.2.2.2.2.2.2.2.2.2.2.2.1 s.2.2.2.2.2.2.2.2.2.2.2.2.1 s.2.2.2.2.2.2.2.2.2.2.2.2.2) (I := fun s => I s.1 s.2.1 s.2.2.1 s.2.2.2.1 s.2.2.2.2.1 s.2.2.2.2.2.1 s.2.2.2.2.2.2.1 s.2.2.2.2.2.2.2.1 s.2.2.2.2.2.2.2.2.1 s.2.2.2.2.2.2.2.2.2.1 s.2.2.2.2.2.2.2.2.2.2.1 s.2.2.2.2.2.2.2.2.2.2.2.1 s.2.2.2.2.2.2.2.2.2.2.2.2.1 s.2.2.2.2.2.2.2.2.2.2.2.2.2) (m := fun s => m s.1 s.2.1 s.2.2.1 s.2.2.2.1 s.2.2.2.2.1 s.2.2.2.2.2.1 s.2.2.2.2.2.2.1 s.2.2.2.2.2.2.2.1 s.2.2.2.2.2.2.2.2.1 s.2.2.2.2.2.2.2.2.2.1 s.2.2.2.2.2.2.2.2.2.2.1 s.2.2.2.2.2.2.2.2.2.2.2.1 s.2.2.2.2.2.2.2.2.2.2.2.2.1 s.2.2.2.2.2.2.2.2.2.2.2.2.2) (s1, s2, s3, s4, s5, s6, s7, s8, s9, s10, s11, s12, s13, s14) hI hm hE hL
end
end Go.Proofs.YtodejmindmiknaaDoor.Jd
