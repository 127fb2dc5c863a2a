/- Callees whose answer is told by a predicate; maps. No condition. -/
import Derived.Test.YtodejmindmiknaaDoorJ7
namespace Go.Proofs.YtodejmindmiknaaDoor.Jd
set_option linter.unusedSimpArgs false
set_option linter.unusedVariables false
open Go.RowKit (Below)
section
variable {P : Program} {rd : Option Nat} {b0 : World} {Mk : List Nat} {N : Nat} {D : List Deferred} {ops : Array Oper} {L V : Heap} {E : Env} {T : Act → World → Prop}
variable {op : Op} {ty : TypeId} {pos : String} {after : Array Edge} {d : Nat}

theorem JL_p {l : List Oper} {f : FuncId} {args : List Value} {R : World → Ending → World → Prop} (hc : RunC P N D b0 Mk L E op ty f args) (h : ∀ w, SH b0 Mk L w → Calls P f args.toArray w (R w)) (hn : notDeferOp op = true := by rfl) (hd : Nat.blt d N = true := by rfl)
    (k : ∀ w e w', SH b0 Mk L w → R w e w' → ∃ v L', e = .returned v ∧ SH b0 Mk L' w' ∧ JL P rd b0 Mk N D ops L' ((d, v) :: E) l T) :
    JL P rd b0 Mk N D ops L E ({ dst := some d, op := op, type := ty, pos := pos, after := after, guard := none } :: l) T := by
  intro a w ha hw
  unfold wpL
  rw [if_pos (by rfl)]
  refine wpIn_enter (notDefer_mk hn) (by rw [execOp_mkO]; exact hc a w ha hw) ((h w hw).mono fun e w' he => ?_)
  obtain ⟨v, L', rfl, h2, h3⟩ := k w e w' hw he
  exact ⟨_, rfl, h3 _ _ (ha.put hd _) h2⟩

theorem JL_pg {l : List Oper} {f : FuncId} {args : List Value} {R : World → Ending → World → Prop} {g t : Nat} {b : Bool} {u : Value} (hc : RunC P N D b0 Mk L E op ty f args) (h : ∀ w, SH b0 Mk L w → Calls P f args.toArray w (R w))
    (hg : (ops[g]?).bind (·.dst) = some t := by rfl) (hu : look E t = some u := by rfl) (hb : wantB u b = true := by rfl) (ht : Nat.blt t N = true := by rfl) (hn : notDeferOp op = true := by rfl) (hd : Nat.blt d N = true := by rfl)
    (k : ∀ w e w', SH b0 Mk L w → R w e w' → ∃ v L', e = .returned v ∧ SH b0 Mk L' w' ∧ JL P rd b0 Mk N D ops L' ((d, v) :: E) l T) :
    JL P rd b0 Mk N D ops L E ({ dst := some d, op := op, type := ty, pos := pos, after := after, guard := some (g, b) } :: l) T := by
  intro a w ha hw
  unfold wpL
  rw [if_pos (by simp only [Region.wanted]; rw [yielded_of ha hg hu ht]; exact hb)]
  refine wpIn_enter (notDefer_mk hn) (by rw [execOp_mkO]; exact hc a w ha hw) ((h w hw).mono fun e w' he => ?_)
  obtain ⟨v, L', rfl, h2, h3⟩ := k w e w' hw he
  exact ⟨_, rfl, h3 _ _ (ha.put hd _) h2⟩

theorem fresh_shV {w w' : World} {B : Heap} (hw : SH b0 Mk (V ++ L) w) (h2 : Fresh w w' B) : SH b0 Mk (V ++ (B ++ L)) w' :=
  (hw.fresh h2).perm (by rw [← List.append_assoc, ← List.append_assoc]; exact List.perm_append_comm.append_right _)

theorem JD_p {l : List (Bool × Oper)} {f : FuncId} {args : List Value} {R : World → Ending → World → Prop} (hc : RunC P N D b0 Mk L E op ty f args) (h : ∀ w, SH b0 Mk L w → Calls P f args.toArray w (R w)) (hn : notDeferOp op = true := by rfl) (hd : Nat.blt d N = true := by rfl)
    (k : ∀ w e w', SH b0 Mk L w → R w e w' → ∃ v B L', e = .returned v ∧ Fresh w w' B ∧ L' = B ++ L ∧ JD P rd b0 Mk N D ops L' V ((d, v) :: E) l T) :
    JD P rd b0 Mk N D ops L V E ((false, { dst := some d, op := op, type := ty, pos := pos, after := after, guard := none }) :: l) T := by
  intro a w ha hw
  unfold wpS
  rw [if_pos (by rfl)]
  refine wpIn_enter (notDefer_mk hn) (by rw [execOp_mkO]; exact hc a w ha hw.right) ((h w hw.right).mono fun e w' he => ?_)
  obtain ⟨v, B, L', rfl, h2, rfl, h3⟩ := k w e w' hw.right he
  have h4 := fresh_shV hw h2
  exact ⟨_, rfl, SH b0 Mk (B ++ L), fun y hy => hy.right, h4.right, h3 _ _ (ha.put hd _) h4⟩

theorem JD_pg {l : List (Bool × Oper)} {f : FuncId} {args : List Value} {R : World → Ending → World → Prop} {g t : Nat} {b : Bool} {u : Value} (hc : RunC P N D b0 Mk L E op ty f args) (h : ∀ w, SH b0 Mk L w → Calls P f args.toArray w (R w))
    (hg : (ops[g]?).bind (·.dst) = some t := by rfl) (hu : look E t = some u := by rfl) (hb : wantB u b = true := by rfl) (ht : Nat.blt t N = true := by rfl) (hn : notDeferOp op = true := by rfl) (hd : Nat.blt d N = true := by rfl)
    (k : ∀ w e w', SH b0 Mk L w → R w e w' → ∃ v B L', e = .returned v ∧ Fresh w w' B ∧ L' = B ++ L ∧ JD P rd b0 Mk N D ops L' V ((d, v) :: E) l T) :
    JD P rd b0 Mk N D ops L V E ((false, { dst := some d, op := op, type := ty, pos := pos, after := after, guard := some (g, b) }) :: l) T := by
  intro a w ha hw
  unfold wpS
  rw [if_pos (by simp only [Region.wanted]; rw [yielded_of ha hg hu ht]; exact hb)]
  refine wpIn_enter (notDefer_mk hn) (by rw [execOp_mkO]; exact hc a w ha hw.right) ((h w hw.right).mono fun e w' he => ?_)
  obtain ⟨v, B, L', rfl, h2, rfl, h3⟩ := k w e w' hw.right he
  have h4 := fresh_shV hw h2
  exact ⟨_, rfl, SH b0 Mk (B ++ L), fun y hy => hy.right, h4.right, h3 _ _ (ha.put hd _) h4⟩

theorem JO_p {l : List Oper} {n f' : Nat} {listed : Array Bool} {i : Nat} {f : FuncId} {args : List Value} {R : World → Ending → World → Prop} (hi : l[i]? = some { dst := some d, op := op, type := ty, pos := pos, after := after, guard := none }) (hc : RunC P N D b0 Mk L E op ty f args)
    (h : ∀ w, SH b0 Mk L w → Calls P f args.toArray w (R w)) (hn : notDeferOp op = true := by rfl) (hd : Nat.blt d N = true := by rfl)
    (k : ∀ w e w', SH b0 Mk L w → R w e w' → ∃ v B L', e = .returned v ∧ Fresh w w' B ∧ L' = B ++ L ∧ JG P rd b0 Mk N D l n f' (listed.setIfInBounds i true) L' V ((d, v) :: E) T) : JO P rd b0 Mk N D l n f' listed L V E T i := by
  intro hg inv a w ha hw
  have hi' : l.toArray[i]? = some { dst := some d, op := op, type := ty, pos := pos, after := after, guard := none } := by simpa using hi
  unfold wpO
  simp only [hi']
  rw [if_pos (by rfl)]
  refine wpIn_enter (notDefer_mk hn) (by rw [execOp_mkO]; exact hc a w ha hw.right) ((h w hw.right).mono fun e w' he => ?_)
  obtain ⟨v, B, L', rfl, h2, rfl, h3⟩ := k w e w' hw.right he
  have h4 := fresh_shV hw h2
  exact ⟨_, rfl, SH b0 Mk (B ++ L), fun y hy => hy.right, h4.right, h3 hg inv _ _ (ha.put hd _) h4⟩

/-- An operation (append, ..) in a region whose order is gone through, that makes new blocks only. -/
theorem JO_e {l : List Oper} {n f' : Nat} {listed : Array Bool} {i : Nat} {X : Type} {v : X → Value} {H' : X → Heap} {Pr : X → Prop} (hi : l[i]? = some { dst := some d, op := op, type := ty, pos := pos, after := after, guard := none })
    (h : RunM P N D b0 Mk L E op ty [] X (fun x => .value (v x)) H' Pr) (hn : notDeferOp op = true := by rfl) (hd : Nat.blt d N = true := by rfl)
    (k : ∀ x, Pr x → JG P rd b0 Mk N D l n f' (listed.setIfInBounds i true) (H' x ++ L) V ((d, v x) :: E) T) : JO P rd b0 Mk N D l n f' listed L V E T i := by
  intro hg inv a w ha hw
  have hi' : l.toArray[i]? = some { dst := some d, op := op, type := ty, pos := pos, after := after, guard := none } := by simpa using hi
  unfold wpO
  simp only [hi']
  rw [if_pos (by rfl)]
  obtain ⟨x, w', h1, h2, h3⟩ := h a w ha hw.right
  have hf : Fresh w w' (H' x) := ⟨⟨h2.os, h2.tape, h2.output, h2.size, fun k hk => h2.same k hk (by simp [keys])⟩, h2.own, fun p hp => (h2.key p hp).resolve_left (by simp [keys]), h2.nd⟩
  have h4 := fresh_shV hw hf
  exact wpIn_value (notDefer_mk hn) (by rw [execOp_mkO]; exact h1) ⟨SH b0 Mk (H' x ++ L), fun y hy => hy.right, h4.right, k x h3 hg inv _ _ (ha.put hd _) h4⟩

theorem SH.base {w : World} (h : SH b0 Mk L w) {r : Nat} {o : Obj} (hb : b0.heap[r]? = some o) (hM : r ∉ Mk) : w.heap[r]? = some o := by
  rw [h.same r (Array.getElem?_eq_some_iff.1 hb).1 hM]; exact hb

/-- A load from a block that was there when the call began. -/
theorem q_loadB {t : TypeId} {x : Operand} {r k : Nat} {l : List Value} {T : TypeId} {f : Nat × Nat} {v : Value} (hA : ∀ w, (isAgg t).run P w = .ok false w) (hb : b0.heap[r]? = some (Obj.cells l.toArray T f)) (hx : ev E x = some (.pointer (some ⟨r, k, none⟩)) := by rfl)
    (hM : r ∉ Mk := by simp) (hv : nth l k = some v := by rfl) : RunQ P N D b0 Mk L E (.load t x) ty v := fun a w ha hw => by
  have ho := hw.base hb hM
  have hc : w.cell? ⟨r, k, none⟩ = some v := by rw [nth_eq] at hv; simp [World.cell?, ho, hv]
  simp [mkO, execOp, ha.eval hx, Instr.loadAt, Instr.sureAddr, loadVar, hA, hc]

theorem q_loadAB {t : TypeId} {x : Operand} {r k n : Nat} {l : List Value} {T : TypeId} {f : Nat × Nat} {cs : List Value} (hA : ∀ w, (isAgg t).run P w = .ok true w) (hS : ∀ w, (sizeOf t).run P w = .ok n w) (hb : b0.heap[r]? = some (Obj.cells l.toArray T f))
    (hx : ev E x = some (.pointer (some ⟨r, k, none⟩)) := by rfl) (hM : r ∉ Mk := by simp) (hv : seg l k n = some cs := by rfl) : RunQ P N D b0 Mk L E (.load t x) ty (.agg cs.toArray) := fun a w ha hw => by
  have ho := hw.base hb hM
  obtain ⟨h1, h2⟩ := seg_spec l n k cs hv
  have hl : (loadCells ⟨r, k, none⟩ n).run P w = .ok cs.toArray w := by
    rw [← h1]
    exact run_loadCells_list w ⟨r, k, none⟩ cs fun j v hj => by
      rw [addr_add]
      simp [World.cell?, ho, h2 j v hj]
  simp [mkO, execOp, ha.eval hx, Instr.loadAt, Instr.sureAddr, loadVar, hA, hS, hl]

/-- An index into a slice that begins at a known address. -/
theorem q_idxO {t e : TypeId} {x y : Operand} {r o n c k : Nat} {i : Int} {ki : IntKind} (hU : ∀ w, (underlying t).run P w = .ok (.slice e) w) (hS : ∀ w, (sizeOf e).run P w = .ok k w) (m : Nat) (hx : ev E x = some (.slice (some ⟨r, o, none⟩) n c) := by rfl) (hy : ev E y = some (.int ki i) := by rfl)
    (hi : i = (m : Int) := by first | rfl | omega) (hm : m < n := by omega) : RunQ P N D b0 Mk L E (.indexAddr t x y) ty (.pointer (some ⟨r, o + m * k, none⟩)) := fun a' w ha hw => by
  have _ := hw
  subst hi
  have hlt' : (m : Int) < (n : Int) := by omega
  simp [mkO, execOp, ha.eval hx, ha.eval hy, Instr.indexAt, asIntOf, hU, hS, hm, addr_add]

theorem JL_eqL {l : List Oper} {L' : Heap} (h : L = L') (k : JL P rd b0 Mk N D ops L' E l T) : JL P rd b0 Mk N D ops L E l T := h ▸ k

theorem SlJ.of_bs {wy : World} {Mk' : List Nat} {α : Type} {enc : α → List Value} {k : Nat} {a : Option Addr} {xs : List α} (h : Sl b0 enc k a xs) (hb : Bs b0 [] wy Mk') : SlJ wy Mk' L enc k a xs := fun w hw i x hx => by
  obtain ⟨b, off, h1, h2, h3⟩ := h i x hx
  refine ⟨b, off, h1, h2, fun j v hv => ?_⟩
  have hc := h3 j v hv
  have hlt := World.block_lt_of_cell? b0 _ hc
  simp only at hlt
  have hbb := hb b hlt (by simp)
  have hlt2 : b < wy.heap.size := by
    rcases Nat.lt_or_ge b wy.heap.size with h' | h'
    · exact h'
    · have : wy.heap[b]? = none := Array.getElem?_eq_none h'
      rw [this] at hbb
      have := hbb.1.symm
      rw [Array.getElem?_eq_getElem hlt] at this
      cases this
  exact cell_of_same hc ((hw.same b hlt2 hbb.2).trans hbb.1)

/-! ### maps -/
/-- The entries of a map, in their order. -/
def MapIs {κ : Type} (enc : κ → Value) (es : Array MapEntry) (l : List (κ × Value)) : Prop := es.toList.map (fun e => (e.key, e.val)) = l.map fun p => (enc p.1, p.2)

def lookL {κ : Type} [DecidableEq κ] (l : List (κ × Value)) (x : κ) : Option Value := (l.find? fun p => p.1 = x).map (·.2)

/-- A kind of keys: how two of them are held against each other. -/
def KeyOk {κ : Type} [DecidableEq κ] (kd : TypeDesc) (enc : κ → Value) : Prop := (∀ x y, Instr.sameNow kd (enc x) (enc y) = some (decide (x = y))) ∧ (∀ n t x (P : Program) w, (∀ w, (underlying t).run P w = .ok kd w) → (Instr.checkKey n 10000 t (enc x)).run P w = .ok () w)

theorem keyInt : KeyOk (κ := Int) (.int .i64) (fun x => .int .i64 x) := by
  refine ⟨fun x y => ?_, fun n t x P w h => ?_⟩
  · simp only [Instr.sameNow]
    by_cases hh : x = y <;> simp [hh]
  · show (do match ← underlying t, Value.int .i64 x with | _, _ => _ : Sem Unit).run P w = _
    simp only [Sem.run_bind, h, Result.andThen_ok, Sem.run_pure]

theorem findNow_is {κ : Type} [DecidableEq κ] {kd : TypeDesc} {enc : κ → Value} (hk : KeyOk kd enc) (x : κ) : ∀ (es : List MapEntry) (l : List (κ × Value)) (i : Nat), es.map (fun e => (e.key, e.val)) = l.map (fun p => (enc p.1, p.2)) →
    ∃ r, Instr.findNow kd (enc x) es i = some r ∧ r.map (·.2) = lookL l x ∧ (r = none ↔ ∀ p ∈ l, p.1 ≠ x)
  | [], [], i, _ => ⟨none, rfl, rfl, by simp⟩
  | [], _ :: _, _, h => by simp at h
  | _ :: _, [], _, h => by simp at h
  | e :: es, p :: l, i, h => by
    simp only [List.map_cons, List.cons.injEq, Prod.mk.injEq] at h
    obtain ⟨⟨h1, h2⟩, h3⟩ := h
    simp only [Instr.findNow, h1, hk.1]
    by_cases hx : x = p.1
    · subst hx
      refine ⟨some (i, e.val), by simp, by simp [lookL, h2], by simp⟩
    · have hx' : ¬ p.1 = x := fun e => hx e.symm
      obtain ⟨r, g1, g2, g3⟩ := findNow_is hk x es l (i + 1) h3
      refine ⟨r, by simp [hx, g1], by simp [g2, lookL, hx'], by simp [g3, hx']⟩

theorem q_lookup {κ : Type} [DecidableEq κ] {kd : TypeDesc} {enc : κ → Value} {t kt et : TypeId} {x y : Operand} {r ck : Nat} {es : Array MapEntry} {l : List (κ × Value)} {z : Value} (q : κ) (hk : KeyOk kd enc) (hU : ∀ w, (underlying t).run P w = .ok (.map kt et) w) (hK : ∀ w, (underlying kt).run P w = .ok kd w)
    (hz : ∀ w, (zeroValue et).run P w = .ok z w) (hes : MapIs enc es l) (hx : ev E x = some (.map (some r)) := by rfl) (hy : ev E y = some (enc q) := by rfl)
    (hm : (r, Obj.map es ck) ∈ L := by repeat (first | exact List.mem_cons_self | apply List.mem_cons_of_mem | apply List.mem_append_right)) :
    RunQ P N D b0 Mk L E (.lookup t x y false) ty ((lookL l q).getD z) := fun a w ha hw => by
  have ho := hw.own _ hm
  simp only at ho
  obtain ⟨rr, g1, g2, _⟩ := findNow_is hk q es.toList l 0 hes
  simp only [mkO, execOp, ha.eval hx, ha.eval hy, Instr.lookup, Sem.run_bind, hU, Result.andThen_ok, run_getObj_map ho, Sem.run_pure]
  rw [hk.2 _ _ _ P w hK]
  simp only [Result.andThen_ok, Instr.findKey, Sem.run_bind, hK, g1, Sem.run_pure]
  cases rr with
  | none => simp [← g2, hz]
  | some p => simp [← g2]

theorem q_lookupOk {κ : Type} [DecidableEq κ] {kd : TypeDesc} {enc : κ → Value} {t kt et : TypeId} {x y : Operand} {r ck : Nat} {es : Array MapEntry} {l : List (κ × Value)} {z : Value} (q : κ) (hk : KeyOk kd enc) (hU : ∀ w, (underlying t).run P w = .ok (.map kt et) w) (hK : ∀ w, (underlying kt).run P w = .ok kd w)
    (hz : ∀ w, (zeroValue et).run P w = .ok z w) (hes : MapIs enc es l) (hx : ev E x = some (.map (some r)) := by rfl) (hy : ev E y = some (enc q) := by rfl)
    (hm : (r, Obj.map es ck) ∈ L := by repeat (first | exact List.mem_cons_self | apply List.mem_cons_of_mem | apply List.mem_append_right)) :
    RunQ P N D b0 Mk L E (.lookup t x y true) ty (.tuple [(lookL l q).getD z, .bool (lookL l q).isSome].toArray) := fun a w ha hw => by
  have ho := hw.own _ hm
  simp only at ho
  obtain ⟨rr, g1, g2, _⟩ := findNow_is hk q es.toList l 0 hes
  simp only [mkO, execOp, ha.eval hx, ha.eval hy, Instr.lookup, Sem.run_bind, hU, Result.andThen_ok, run_getObj_map ho, Sem.run_pure]
  rw [hk.2 _ _ _ P w hK]
  simp only [Result.andThen_ok, Instr.findKey, Sem.run_bind, hK, g1, Sem.run_pure]
  cases rr with
  | none => simp [← g2, hz]
  | some p => simp [← g2]

theorem a_map {t : TypeId} : RunA P N D b0 Mk L E (.makeMap t none) ty (.map #[] 0) (fun r => .map (some r)) := fun a w _ _ => by
  simp [mkO, execOp, Instr.makeMap]
theorem MapIs.nil {κ : Type} {enc : κ → Value} : MapIs enc #[] [] := rfl

/-- A new key. -/
theorem e_put {κ : Type} [DecidableEq κ] {kd : TypeDesc} {enc : κ → Value} {t kt et : TypeId} {x y u : Operand} {r ck : Nat} {es : Array MapEntry} {l : List (κ × Value)} {v : Value} (q : κ) (hk : KeyOk kd enc) (hU : ∀ w, (underlying t).run P w = .ok (.map kt et) w) (hK : ∀ w, (underlying kt).run P w = .ok kd w)
    (hes : MapIs enc es l) (hnew : ∀ p ∈ l, p.1 ≠ q) (hx : ev E x = some (.map (some r)) := by rfl) (hy : ev E y = some (enc q) := by rfl) (hu : ev E u = some v := by rfl)
    (hm : (r, Obj.map es ck) ∈ L := by repeat (first | exact List.mem_cons_self | apply List.mem_cons_of_mem | apply List.mem_append_right)) :
    RunM P N D b0 Mk L E (.mapUpdate t x y u) ty [(r, .map es ck)] (Array MapEntry × Nat) (fun _ => .skip) (fun x => [(r, .map x.1 x.2)]) (fun x => MapIs enc x.1 (l ++ [(q, v)])) := fun a w ha hw => by
  have ho := hw.own _ hm
  simp only at ho
  obtain ⟨rr, g1, _, g3⟩ := findNow_is hk q es.toList l 0 hes
  have hr : rr = none := g3.2 hnew
  subst hr
  have hset : (setObj r (.map (es.push { key := enc q, val := v, born := ck }) (ck + 1))).run P w = .ok () (w.putObj r (.map (es.push { key := enc q, val := v, born := ck }) (ck + 1))) := by
    simp [setObj, Sem.run, ho, World.putObj]
  refine ⟨(es.push { key := enc q, val := v, born := ck }, ck + 1), w.putObj r (.map (es.push { key := enc q, val := v, born := ck }) (ck + 1)), ?_, ?_, ?_⟩
  · simp only [mkO, execOp, ha.eval hx, ha.eval hy, ha.eval hu, Instr.mapUpdate, Sem.run_bind, hU, Result.andThen_ok, run_getObj_map ho]
    rw [hk.2 _ _ _ P w hK]
    simp only [Result.andThen_ok, Instr.findKey, Sem.run_bind, hK, g1, Sem.run_pure, hset]
  · exact putObj_tr (R := []) ho (fun _ h => by cases h) (by simp [keys])
  · simp only [MapIs, Array.toList_push, List.map_append] at hes ⊢
    rw [hes]; rfl
end
end Go.Proofs.YtodejmindmiknaaDoor.Jd
namespace Go.Proofs.YtodejmindmiknaaDoor.Jd
set_option linter.unusedSimpArgs false
set_option linter.unusedVariables false
section
variable {P : Program} {rd : Option Nat} {b0 : World} {Mk : List Nat} {N : Nat} {D : List Deferred} {ops : Array Oper} {L V : Heap} {E : Env} {T : Act → World → Prop}
variable {op : Op} {ty : TypeId} {pos : String} {after : Array Edge} {d : Nat}

theorem SlJ.lit {α : Type} {enc : α → List Value} {k : Nat} {r : Nat} {l : List Value} {T : TypeId} {xs : List α} (hE : EncOk enc k) (hl : l = flat enc xs := by rfl)
    (hm : (r, Obj.cells l.toArray T) ∈ L := by repeat (first | exact List.mem_cons_self | apply List.mem_cons_of_mem | apply List.mem_append_right)) : SlJ b0 Mk L enc k (some ⟨r, 0, none⟩) xs := fun w hw =>
  OwnB.sl (e := T) (c := xs.length) (B := [(r, Obj.cells l.toArray T)]) hE (OwnB.mk rfl hl hE) (fun p hp => by
    have : p = (r, Obj.cells l.toArray T) := by simpa using hp
    subst this
    exact hw.own _ hm)

theorem JL_append {α : Type} {enc : α → List Value} {kk by_ : Nat} {t e : TypeId} {z : Value} {x y : Operand} {a a' : Option Addr} {c c' n m : Nat} {B R : Heap} {xs ys : List α} {l : List Oper} (zs : List α) (hz : xs ++ ys = zs) (hT : Ty P e kk by_ z) (hU : P.underlying t = some (.slice e)) (hE : EncOk enc kk) (ho : OwnB enc kk e a c B xs)
    (hL : List.Perm L (B ++ R)) (hs : SlJ b0 Mk L enc kk a' ys) (hb : 2 * (n + m) * by_ ≤ 281474976710656 ∧ n + m ≤ 4611686018427387904) (hx : ev E x = some (.slice a n c) := by rfl) (hy : ev E y = some (.slice a' m c') := by rfl) (hn : xs.length = n := by rfl) (hm : ys.length = m := by rfl)
    (hd : Nat.blt d N = true := by rfl)
    (k : ∀ a2 c2 B2, OwnB enc kk e a2 c2 B2 zs → JL P rd b0 Mk N D ops (B2 ++ R) ((d, .slice a2 zs.length c2) :: E) l T) :
    JL P rd b0 Mk N D ops L E ({ dst := some d, op := .call { callee := .builtin .append, args := #[x, y], argTypes := #[t, t] }, type := ty, pos := pos, after := after, guard := none } :: l) T := by
  subst hz
  refine JL_e hL (e_append hT hU hE ho hs (fun p hp => hL.mem_iff.2 (List.mem_append_left _ hp)) hn hm hb.1 hb.2 hx hy) rfl hd (fun q hq => ?_)
  have := k q.1 q.2.1 q.2.2 hq
  rw [List.length_append, hn, hm] at this
  exact this

theorem JD_append {α : Type} {enc : α → List Value} {kk by_ : Nat} {t e : TypeId} {z : Value} {x y : Operand} {a a' : Option Addr} {c c' n m : Nat} {B R : Heap} {xs ys : List α} {l : List (Bool × Oper)} (zs : List α) (hz : xs ++ ys = zs) (hT : Ty P e kk by_ z) (hU : P.underlying t = some (.slice e)) (hE : EncOk enc kk) (ho : OwnB enc kk e a c B xs)
    (hV : List.Perm V (B ++ R)) (hs : SlJ b0 Mk (V ++ L) enc kk a' ys) (hb : 2 * (n + m) * by_ ≤ 281474976710656 ∧ n + m ≤ 4611686018427387904) (hx : ev E x = some (.slice a n c) := by rfl) (hy : ev E y = some (.slice a' m c') := by rfl) (hn : xs.length = n := by rfl) (hm : ys.length = m := by rfl)
    (hd : Nat.blt d N = true := by rfl)
    (k : ∀ a2 c2 B2, OwnB enc kk e a2 c2 B2 zs → JD P rd b0 Mk N D ops L (B2 ++ R) ((d, .slice a2 zs.length c2) :: E) l T) :
    JD P rd b0 Mk N D ops L V E ((false, { dst := some d, op := .call { callee := .builtin .append, args := #[x, y], argTypes := #[t, t] }, type := ty, pos := pos, after := after, guard := none }) :: l) T := by
  subst hz
  refine JD_e hV (e_append hT hU hE ho hs (fun p hp => List.mem_append_left _ (hV.mem_iff.2 (List.mem_append_left _ hp))) hn hm hb.1 hb.2 hx hy) rfl hd (fun q hq => ?_)
  have := k q.1 q.2.1 q.2.2 hq
  rw [List.length_append, hn, hm] at this
  exact this

/-- append to nil, or to an empty slice without room: only new blocks are made. -/
theorem JO_append {α : Type} {enc : α → List Value} {kk by_ : Nat} {t e : TypeId} {z : Value} {x y : Operand} {a a' : Option Addr} {c' m : Nat} {ys : List α} {l : List Oper} {n f' : Nat} {listed : Array Bool} {i : Nat} (hi : l[i]? = some { dst := some d, op := .call { callee := .builtin .append, args := #[x, y], argTypes := #[t, t] }, type := ty, pos := pos, after := after, guard := none }) (hT : Ty P e kk by_ z) (hU : P.underlying t = some (.slice e)) (hE : EncOk enc kk)
    (hs : SlJ b0 Mk L enc kk a' ys) (hb : 2 * (0 + m) * by_ ≤ 281474976710656 ∧ 0 + m ≤ 4611686018427387904) (hx : ev E x = some (.slice a 0 0) := by rfl) (hy : ev E y = some (.slice a' m c') := by rfl) (hm : ys.length = m := by rfl)
    (hd : Nat.blt d N = true := by rfl)
    (k : ∀ a2 c2 B2, OwnB enc kk e a2 c2 B2 ys → JG P rd b0 Mk N D l n f' (listed.setIfInBounds i true) (B2 ++ L) V ((d, .slice a2 ys.length c2) :: E) T) :
    JO P rd b0 Mk N D l n f' listed L V E T i := by
  have hap := e_append (P := P) (N := N) (D := D) (b0 := b0) (Mk := Mk) (L := L) (E := E) (ty := ty) (xs := ([] : List α)) hT hU hE (OwnB.nil (e := e) (a := a)) hs (fun _ h => by cases h) rfl hm hb.1 hb.2 hx hy
  refine JO_e hi hap rfl hd (fun q hq => ?_)
  have := k q.1 q.2.1 q.2.2 (by simpa using hq)
  rw [hm] at this
  simpa using this

/-- A store to one element of a slice of the call's own. -/
theorem JL_storeE {α : Type} {enc : α → List Value} {kk : Nat} {t e : TypeId} {x y : Operand} {v : Value} {a : Option Addr} {c o : Nat} {B R : Heap} {xs : List α} {l : List Oper} (m : Nat) (u : α) (hS : ∀ w, (sizeOf t).run P w = .ok kk w) (hE : EncOk enc kk) (ho : OwnB enc kk e a c B xs) (hL : List.Perm L (B ++ R)) (hm : m < xs.length)
    (hx : ev E x = some (.pointer (some (ea a o))) := by rfl) (hy : ev E y = some v := by rfl) (hv : cellsL v = enc u := by rfl) (hoo : o = m * kk := by first | rfl | omega)
    (k : ∀ B2, OwnB enc kk e a c B2 (xs.set m u) → JL P rd b0 Mk N D ops (B2 ++ R) E l T) :
    JL P rd b0 Mk N D ops L E ({ dst := none, op := .store t x y, type := ty, pos := pos, after := after, guard := none } :: l) T :=
  JL_es hL (e_storeE m u hS hE ho (fun p hp => hL.mem_iff.2 (List.mem_append_left _ hp)) hm hx hy hv hoo) rfl k

theorem JL_put {κ : Type} [DecidableEq κ] {kd : TypeDesc} {enc : κ → Value} {t kt et : TypeId} {x y u : Operand} {r ck : Nat} {es : Array MapEntry} {ml : List (κ × Value)} {v : Value} {R : Heap} {l : List Oper} (q : κ) (hk : KeyOk kd enc) (hU : ∀ w, (underlying t).run P w = .ok (.map kt et) w) (hK : ∀ w, (underlying kt).run P w = .ok kd w)
    (hes : MapIs enc es ml) (hnew : ∀ p ∈ ml, p.1 ≠ q) (hL : List.Perm L ((r, Obj.map es ck) :: R)) (hx : ev E x = some (.map (some r)) := by rfl) (hy : ev E y = some (enc q) := by rfl) (hu : ev E u = some v := by rfl)
    (k : ∀ es2 ck2, MapIs enc es2 (ml ++ [(q, v)]) → JL P rd b0 Mk N D ops ((r, Obj.map es2 ck2) :: R) E l T) :
    JL P rd b0 Mk N D ops L E ({ dst := none, op := .mapUpdate t x y u, type := ty, pos := pos, after := after, guard := none } :: l) T :=
  JL_es (H := [(r, Obj.map es ck)]) hL (e_put q hk hU hK hes hnew hx hy hu (hL.mem_iff.2 List.mem_cons_self)) rfl (fun x hq => k x.1 x.2 hq)
end
end Go.Proofs.YtodejmindmiknaaDoor.Jd
