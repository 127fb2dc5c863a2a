/- Regions in any order whose operations read cells of blocks that they write elsewhere. No condition. -/
import Derived.Test.YtodejmindmiknaaDoorJ14
namespace Go.Proofs.YtodejmindmiknaaDoor.Jd
set_option linter.unusedSimpArgs false
open Go.RowKit (Below)
set_option linter.unusedVariables false
section
variable {P : Program} {rd : Option Nat} {b0 : World} {Mk : List Nat} {N : Nat} {D : List Deferred} {ops : Array Oper} {L V : Heap} {C : List (Addr × Value)} {E : Env} {T : Act → World → Prop} {Q : Exit → Act → World → Prop}
variable {op : Op} {ty : TypeId} {pos : String} {after : Array Edge} {v : Value} {d : Nat}

def KHolds (C : List (Addr × Value)) (w : World) : Prop := ∀ p ∈ C, w.cell? p.1 = some p.2
/-- Cells of known blocks. -/
inductive KC (L : Heap) : List (Addr × Value) → Prop
  | nil : KC L []
  | cons {r k : Nat} {l : List Value} {T : TypeId} {f : Nat × Nat} {v : Value} {C : List (Addr × Value)} (hm : (r, Obj.cells l.toArray T f) ∈ L) (hv : nth l k = some v) (h : KC L C) : KC L ((⟨r, k, none⟩, v) :: C)
theorem KC.holds {w : World} (h : KC L C) (hw : SH b0 Mk L w) : KHolds C w := by
  induction h with
  | nil => intro p hp; cases hp
  | cons hm hv _ ih =>
    intro p hp
    rcases List.mem_cons.1 hp with rfl | hp
    · exact hw.cell hm (by rw [← nth_eq]; exact hv)
    · exact ih p hp
theorem KHolds.ext {w w' : World} (h : KHolds C w) (he : Ext w w') : KHolds C w' := fun p hp => by
  have := h p hp
  have hlt := World.block_lt_of_cell? w _ this
  simp only [World.cell?] at this ⊢
  rw [he.block _ hlt]; exact this

def SK (b0 : World) (Mk : List Nat) (L : Heap) (C : List (Addr × Value)) (w : World) : Prop := SH b0 Mk L w ∧ KHolds C w
/-- The rest of a plan, as JD; the cells C are not written. -/
def JK (P : Program) (rd : Option Nat) (b0 : World) (Mk : List Nat) (N : Nat) (D : List Deferred) (ops : Array Oper) (L V : Heap) (C : List (Addr × Value)) (E : Env) (l : List (Bool × Oper)) (T : Act → World → Prop) : Prop :=
  ∀ a w, Holds N D E a → SH b0 Mk (V ++ L) w → KHolds C w → wpS P rd ops T (SK b0 Mk L C) l a w
def RunK (P : Program) (N : Nat) (D : List Deferred) (b0 : World) (Mk : List Nat) (L : Heap) (C : List (Addr × Value)) (E : Env) (op : Op) (ty : TypeId) (v : Value) : Prop :=
  ∀ a w, Holds N D E a → SK b0 Mk L C w → (execOp a.eval (mkO op ty)).run P w = .ok (.value v) w
theorem RunQ.k (h : RunQ P N D b0 Mk L E op ty v) : RunK P N D b0 Mk L C E op ty v := fun a w ha hw => h a w ha hw.1

theorem J_planK {id : Nat} {l : List Oper} (L' V : Heap) (C : List (Addr × Value)) (hL : List.Perm L (V ++ L')) (hC : KC (V ++ L') C) (hm : P.follows .mixedOrders = true) (n : Nat) (pl : List (Bool × Nat)) (hB : planOk l n pl = true)
    (h : JK P rd b0 Mk N D l.toArray L' V C E (opsOf l.toArray pl) (fun a w => wpL P rd l.toArray (Q .normal) (l.drop n) a w)) : J P rd b0 Mk N D L E (Code.region id l.toArray true) Q :=
  fun a w ha hw => wpIn_region_plan hm n pl hB (SK b0 Mk L' C) ⟨((hw.perm hL).right.drawn _), hC.holds ((hw.perm hL).drawn _)⟩ (h a _ ha ((hw.perm hL).drawn _) (hC.holds ((hw.perm hL).drawn _)))

theorem JK_nil {l : List Oper} (h : JL P rd b0 Mk N D ops (V ++ L) E l T) : JK P rd b0 Mk N D ops L V C E [] (fun a w => wpL P rd ops T l a w) := fun a w ha hw _ => h a w ha hw
theorem JK_q {f : Bool} {l : List (Bool × Oper)} (h : RunK P N D b0 Mk L C E op ty v) (hn : notDeferOp op = true := by rfl) (hd : Nat.blt d N = true := by rfl) (k : JK P rd b0 Mk N D ops L V C ((d, v) :: E) l T) :
    JK P rd b0 Mk N D ops L V C E ((f, { dst := some d, op := op, type := ty, pos := pos, after := after, guard := none }) :: l) T := by
  intro a w ha hw hc
  cases f
  · unfold wpS
    rw [if_pos (by rfl)]
    exact wpIn_value (notDefer_mk hn) (by rw [execOp_mkO]; exact h a w ha ⟨hw.right, hc⟩) ⟨_, fun _ h => h, ⟨hw.right, hc⟩, k _ _ (ha.put hd v) hw hc⟩
  · unfold wpS
    exact ⟨v, .inl ⟨by rfl, fun w' hw' => by rw [execOp_mkO]; exact h a w' ha hw'⟩, k _ _ (ha.put hd v) hw hc⟩
theorem JK_qg {f : Bool} {l : List (Bool × Oper)} {g t : Nat} {b : Bool} {u : Value} (h : RunK P N D b0 Mk L C E op ty v) (hg : (ops[g]?).bind (·.dst) = some t := by rfl) (hu : look E t = some u := by rfl) (hb : wantB u b = true := by rfl)
    (ht : Nat.blt t N = true := by rfl) (hn : notDeferOp op = true := by rfl) (hd : Nat.blt d N = true := by rfl) (k : JK P rd b0 Mk N D ops L V C ((d, v) :: E) l T) :
    JK P rd b0 Mk N D ops L V C E ((f, { dst := some d, op := op, type := ty, pos := pos, after := after, guard := some (g, b) }) :: l) T := by
  intro a w ha hw hc
  have hwant : Region.wanted { dst := some d, op := op, type := ty, pos := pos, after := after, guard := some (g, b) } (yielded ops a.tmps) = true := by
    simp only [Region.wanted]; rw [yielded_of ha hg hu ht]; exact hb
  cases f
  · unfold wpS
    rw [if_pos hwant]
    exact wpIn_value (notDefer_mk hn) (by rw [execOp_mkO]; exact h a w ha ⟨hw.right, hc⟩) ⟨_, fun _ h => h, ⟨hw.right, hc⟩, k _ _ (ha.put hd v) hw hc⟩
  · unfold wpS
    exact ⟨v, .inl ⟨hwant, fun w' hw' => by rw [execOp_mkO]; exact h a w' ha hw'⟩, k _ _ (ha.put hd v) hw hc⟩
theorem JK_skip {f : Bool} {l : List (Bool × Oper)} {g t : Nat} {b : Bool} {u : Value} (hg : (ops[g]?).bind (·.dst) = some t := by rfl) (hu : look E t = some u := by rfl) (hb : wantB u b = false := by rfl) (ht : Nat.blt t N = true := by rfl)
    (hd : Nat.blt d N = true := by rfl) (k : JK P rd b0 Mk N D ops L V C ((d, undef) :: E) l T) :
    JK P rd b0 Mk N D ops L V C E ((f, { dst := some d, op := op, type := ty, pos := pos, after := after, guard := some (g, b) }) :: l) T := by
  intro a w ha hw hc
  have hwant : Region.wanted { dst := some d, op := op, type := ty, pos := pos, after := after, guard := some (g, b) } (yielded ops a.tmps) = false := by
    simp only [Region.wanted]; rw [yielded_of ha hg hu ht]; exact hb
  cases f
  · unfold wpS
    rw [if_neg (by rw [hwant]; simp)]
    exact k _ _ (ha.put hd _) hw hc
  · unfold wpS
    exact ⟨undef, .inr ⟨hwant, rfl⟩, k _ _ (ha.put hd _) hw hc⟩
theorem JK_dec {l : List (Bool × Oper)} (t : Nat) {p : Prop} [Decidable p] (hu : look E t = some (.bool (decide p)) := by rfl) (h1 : p → JK P rd b0 Mk N D ops L V C ((t, .bool true) :: E) l T)
    (h0 : ¬ p → JK P rd b0 Mk N D ops L V C ((t, .bool false) :: E) l T) : JK P rd b0 Mk N D ops L V C E l T := by
  intro a w ha hw hc
  by_cases hp : p
  · exact h1 hp a w (ha.alter hu (by simp [hp])) hw hc
  · exact h0 hp a w (ha.alter hu (by simp [hp])) hw hc
theorem JK_bool {l : List (Bool × Oper)} (t : Nat) {p : Bool} (hu : look E t = some (.bool p) := by rfl) (h1 : p = true → JK P rd b0 Mk N D ops L V C ((t, .bool true) :: E) l T)
    (h0 : p = false → JK P rd b0 Mk N D ops L V C ((t, .bool false) :: E) l T) : JK P rd b0 Mk N D ops L V C E l T := by
  intro a w ha hw hc
  cases p
  · exact h0 rfl a w (ha.alter hu rfl) hw hc
  · exact h1 rfl a w (ha.alter hu rfl) hw hc
theorem JK_s {l : List (Bool × Oper)} {V' : Heap} (hk : KC (V' ++ L) C) (h : RunW P N D b0 Mk (V ++ L) E op ty (V' ++ L) .skip) (hn : notDeferOp op = true := by rfl) (k : JK P rd b0 Mk N D ops L V' C E l T) :
    JK P rd b0 Mk N D ops L V C E ((false, { dst := none, op := op, type := ty, pos := pos, after := after, guard := none }) :: l) T := by
  intro a w ha hw hc
  unfold wpS
  rw [if_pos (by rfl)]
  obtain ⟨w', h1, h2⟩ := h a w ha hw
  exact wpIn_skip' (notDefer_mk hn) (by rw [execOp_mkO]; exact h1) ⟨SK b0 Mk L C, fun _ h => h, ⟨h2.right, hk.holds h2⟩, k _ _ ha h2 (hk.holds h2)⟩
theorem JK_v {l : List (Bool × Oper)} {f : FuncId} {args : List Value} (hc : RunC P N D b0 Mk L E op ty f args) (h : ∀ w, SH b0 Mk L w → Val P f args w v) (hn : notDeferOp op = true := by rfl) (hd : Nat.blt d N = true := by rfl)
    (k : JK P rd b0 Mk N D ops L V C ((d, v) :: E) l T) : JK P rd b0 Mk N D ops L V C E ((false, { dst := some d, op := op, type := ty, pos := pos, after := after, guard := none }) :: l) T := by
  intro a w ha hw hk
  unfold wpS
  rw [if_pos (by rfl)]
  refine wpIn_enter (notDefer_mk hn) (by rw [execOp_mkO]; exact hc a w ha hw.right) ((h w hw.right).mono fun e w' ⟨he, hx⟩ => ?_)
  subst he
  exact ⟨_, rfl, SK b0 Mk L C, fun y hy => hy, ⟨(hw.ext hx).right, hk.ext hx⟩, k _ _ (ha.put hd _) (hw.ext hx) (hk.ext hx)⟩
theorem k_load {t : TypeId} {x : Operand} {r k : Nat} (hA : ∀ w, (isAgg t).run P w = .ok false w) (hx : ev E x = some (.pointer (some ⟨r, k, none⟩)) := by rfl)
    (hm : ((⟨r, k, none⟩ : Addr), v) ∈ C := by repeat (first | exact List.mem_cons_self | apply List.mem_cons_of_mem)) : RunK P N D b0 Mk L C E (.load t x) ty v := fun a w ha hw => by
  have hc := hw.2 _ hm
  simp only at hc
  simp [mkO, execOp, ha.eval hx, Instr.loadAt, Instr.sureAddr, loadVar, hA, hc]
/-- The cells from ⟨r, k⟩ on, as C has them. -/
inductive KRun (C : List (Addr × Value)) (r : Nat) : Nat → List Value → Prop
  | nil {k : Nat} : KRun C r k []
  | cons {k : Nat} {v : Value} {cs : List Value} (hm : ((⟨r, k, none⟩ : Addr), v) ∈ C) (h : KRun C r (k + 1) cs) : KRun C r k (v :: cs)
theorem KRun.at {r : Nat} : ∀ {cs : List Value} {k : Nat}, KRun C r k cs → ∀ j v, cs[j]? = some v → ((⟨r, k + j, none⟩ : Addr), v) ∈ C
  | _, _, .nil, j, v, h => by cases h
  | _, _, .cons hm h, j, v, hj => by
    cases j with
    | zero => cases hj; exact hm
    | succ j => have := KRun.at h j v (by simpa using hj); rwa [Nat.add_assoc, Nat.add_comm 1 j] at this
theorem k_loadA {t : TypeId} {x : Operand} {r k n : Nat} {cs : List Value} (hA : ∀ w, (isAgg t).run P w = .ok true w) (hS : ∀ w, (sizeOf t).run P w = .ok n w) (hr : KRun C r k cs) (hn : cs.length = n := by rfl) (hx : ev E x = some (.pointer (some ⟨r, k, none⟩)) := by rfl) :
    RunK P N D b0 Mk L C E (.load t x) ty (.agg cs.toArray) := fun a w ha hw => by
  have hl : (loadCells ⟨r, k, none⟩ n).run P w = .ok cs.toArray w := by
    rw [← hn]
    exact run_loadCells_list w ⟨r, k, none⟩ cs fun j v hj => by
      rw [addr_add]
      exact hw.2 _ (hr.at j v hj)
  simp [mkO, execOp, ha.eval hx, Instr.loadAt, Instr.sureAddr, loadVar, hA, hS, hl]
end
end Go.Proofs.YtodejmindmiknaaDoor.Jd
