/- Operations: what each leaves in its slot, from the symbolic state. No condition. -/
import Derived.Test.YtodejmindmiknaaDoorJ1
import Derived.Laws.Cells
import Derived.Laws.World
namespace Go.Proofs.YtodejmindmiknaaDoor.Jd
set_option linter.unusedSimpArgs false
set_option linter.unusedVariables false
open Go.RowKit (Below)

def mkO (op : Op) (ty : TypeId) : Oper := { dst := none, op := op, type := ty, pos := "", after := #[], guard := none }

theorem execOp_mkO (ρ : Operand → Value) (dst : Option Tmp) (op : Op) (ty : TypeId) (pos : String) (after : Array Edge) (guard : Option (Nat × Bool)) :
    execOp ρ { dst := dst, op := op, type := ty, pos := pos, after := after, guard := guard } = execOp ρ (mkO op ty) := by
  cases op <;> rfl

/-- The operation yields v and leaves the world alone. -/
def RunQ (P : Program) (N : Nat) (D : List Deferred) (b0 : World) (Mk : List Nat) (L : Heap) (E : Env) (op : Op) (ty : TypeId) (v : Value) : Prop :=
  ∀ a w, Holds N D E a → SH b0 Mk L w → (execOp a.eval (mkO op ty)).run P w = .ok (.value v) w

/-- The operation makes one new block and yields a value that bears its number. -/
def RunA (P : Program) (N : Nat) (D : List Deferred) (b0 : World) (Mk : List Nat) (L : Heap) (E : Env) (op : Op) (ty : TypeId) (o : Obj) (v : Nat → Value) : Prop :=
  ∀ a w, Holds N D E a → SH b0 Mk L w → (execOp a.eval (mkO op ty)).run P w = .ok (.value (v w.heap.size)) (w.alloc o)

def notDeferOp : Op → Bool
  | .defer _ => false
  | .select .. => false
  | _ => true

theorem notDefer_mk {dst : Option Tmp} {op : Op} {ty : TypeId} {pos : String} {after : Array Edge} {guard : Option (Nat × Bool)} (h : notDeferOp op = true) :
    notDefer { dst := dst, op := op, type := ty, pos := pos, after := after, guard := guard } = true := by
  cases op <;> first | rfl | (simp [notDeferOp] at h)

section judgements
variable (P : Program) (rd : Option Nat) (b0 : World) (Mk : List Nat) (N : Nat) (D : List Deferred) (ops : Array Oper) (L V : Heap) (E : Env)

/-- The rest of a region in the text's order. -/
def JL (l : List Oper) (T : Act → World → Prop) : Prop := ∀ a w, Holds N D E a → SH b0 Mk L w → wpL P rd ops T l a w

/-- The rest of a plan; the blocks L stay as they are while the region runs, the blocks V may be written. -/
def JD (l : List (Bool × Oper)) (T : Act → World → Prop) : Prop := ∀ a w, Holds N D E a → SH b0 Mk (V ++ L) w → wpS P rd ops T (SH b0 Mk L) l a w
end judgements

def wantB (v : Value) (b : Bool) : Bool := match v with | .bool c => c == b | _ => false

section steps
variable {P : Program} {rd : Option Nat} {b0 : World} {Mk : List Nat} {N : Nat} {D : List Deferred} {ops : Array Oper} {L V : Heap} {E : Env} {Q : Exit → Act → World → Prop} {T : Act → World → Prop}

theorem SH.right {w : World} (h : SH b0 Mk (V ++ L) w) : SH b0 Mk L w := h.sub (List.sublist_append_right V L)

theorem J_reg {id : Nat} {l : List Oper} (h : JL P rd b0 Mk N D l.toArray L E l (Q .normal)) : J P rd b0 Mk N D L E (Code.region id l.toArray false) Q :=
  fun a w ha hw => wpIn_region_lex (h a w ha hw)

theorem JL_nil (h : JX b0 Mk N D L E Q .normal) : JL P rd b0 Mk N D ops L E [] (Q .normal) := fun a w ha hw => h a w ha hw

theorem J_plan {id : Nat} {l : List Oper} (hm : P.follows .mixedOrders = true) (n : Nat) (pl : List (Bool × Nat)) (hB : planOk l n pl = true)
    (h : JD P rd b0 Mk N D l.toArray L [] E (opsOf l.toArray pl) (fun a w => wpL P rd l.toArray (Q .normal) (l.drop n) a w)) : J P rd b0 Mk N D L E (Code.region id l.toArray true) Q :=
  fun a w ha hw => wpIn_region_plan hm n pl hB (SH b0 Mk L) (hw.drawn _) (h a _ ha (hw.drawn _))

/-- .. where the blocks V are written while the region runs. -/
theorem J_planV {id : Nat} {l : List Oper} (L' V : Heap) (hL : List.Perm L (V ++ L')) (hm : P.follows .mixedOrders = true) (n : Nat) (pl : List (Bool × Nat)) (hB : planOk l n pl = true)
    (h : JD P rd b0 Mk N D l.toArray L' V E (opsOf l.toArray pl) (fun a w => wpL P rd l.toArray (Q .normal) (l.drop n) a w)) : J P rd b0 Mk N D L E (Code.region id l.toArray true) Q :=
  fun a w ha hw => wpIn_region_plan hm n pl hB (SH b0 Mk L') ((hw.perm hL).right.drawn _) (h a _ ha ((hw.perm hL).drawn _))

theorem JD_nil {l : List Oper} (h : JL P rd b0 Mk N D ops (V ++ L) E l T) : JD P rd b0 Mk N D ops L V E [] (fun a w => wpL P rd ops T l a w) := fun a w ha hw => h a w ha hw

variable {op : Op} {ty : TypeId} {pos : String} {after : Array Edge} {v : Value} {d : Nat}

/-! quiet operations -/
theorem JL_q {l : List Oper} (h : RunQ P N D b0 Mk L E op ty v) (hn : notDeferOp op = true := by rfl) (hd : Nat.blt d N = true := by rfl) (k : JL P rd b0 Mk N D ops L ((d, v) :: E) l T) :
    JL P rd b0 Mk N D ops L E ({ dst := some d, op := op, type := ty, pos := pos, after := after, guard := none } :: l) T := by
  intro a w ha hw
  unfold wpL
  rw [if_pos (by rfl)]
  refine wpIn_value (notDefer_mk hn) (by rw [execOp_mkO]; exact h a w ha hw) (k _ _ (ha.put hd v) hw)

theorem yielded_of {a : Act} {g t : Nat} {u : Value} (ha : Holds N D E a) (hg : (ops[g]?).bind (·.dst) = some t) (hu : look E t = some u) (ht : Nat.blt t N = true) (b : Bool) : (yielded ops a.tmps g == some b) = wantB u b := by
  have h1 := ha.val t u hu
  have hlt : t < a.tmps.size := by rw [ha.size]; simpa [Nat.blt_eq] using ht
  have h2 : a.tmps[t]? = some u := by
    rw [Array.getElem?_eq_getElem hlt]
    simp [hlt] at h1
    rw [h1]
  unfold yielded
  rw [hg, Option.bind_some, h2]
  cases u <;> simp [wantB]

theorem JL_qg {l : List Oper} {g t : Nat} {b : Bool} {u : Value} (h : RunQ P N D b0 Mk L E op ty v) (hg : (ops[g]?).bind (·.dst) = some t := by rfl) (hu : look E t = some u := by rfl) (hb : wantB u b = true := by rfl)
    (ht : Nat.blt t N = true := by rfl) (hn : notDeferOp op = true := by rfl) (hd : Nat.blt d N = true := by rfl) (k : JL P rd b0 Mk N D ops L ((d, v) :: E) l T) :
    JL P rd b0 Mk N D ops L E ({ dst := some d, op := op, type := ty, pos := pos, after := after, guard := some (g, b) } :: l) T := by
  intro a w ha hw
  unfold wpL
  rw [if_pos (by simp only [Region.wanted]; rw [yielded_of ha hg hu ht]; exact hb)]
  refine wpIn_value (notDefer_mk hn) (by rw [execOp_mkO]; exact h a w ha hw) (k _ _ (ha.put hd v) hw)

theorem JL_skip {l : List Oper} {g t : Nat} {b : Bool} {u : Value} (hg : (ops[g]?).bind (·.dst) = some t := by rfl) (hu : look E t = some u := by rfl) (hb : wantB u b = false := by rfl) (ht : Nat.blt t N = true := by rfl)
    (hd : Nat.blt d N = true := by rfl) (k : JL P rd b0 Mk N D ops L ((d, undef) :: E) l T) :
    JL P rd b0 Mk N D ops L E ({ dst := some d, op := op, type := ty, pos := pos, after := after, guard := some (g, b) } :: l) T := by
  intro a w ha hw
  unfold wpL
  rw [if_neg (by simp only [Region.wanted]; rw [yielded_of ha hg hu ht, hb]; simp)]
  exact k _ _ (ha.put hd _) hw

theorem JD_q {f : Bool} {l : List (Bool × Oper)} (h : RunQ P N D b0 Mk L E op ty v) (hn : notDeferOp op = true := by rfl) (hd : Nat.blt d N = true := by rfl) (k : JD P rd b0 Mk N D ops L V ((d, v) :: E) l T) :
    JD P rd b0 Mk N D ops L V E ((f, { dst := some d, op := op, type := ty, pos := pos, after := after, guard := none }) :: l) T := by
  intro a w ha hw
  cases f
  · unfold wpS
    rw [if_pos (by rfl)]
    exact wpIn_value (notDefer_mk hn) (by rw [execOp_mkO]; exact h a w ha hw.right) ⟨_, fun _ h => h, hw.right, k _ _ (ha.put hd v) hw⟩
  · unfold wpS
    exact ⟨v, .inl ⟨by rfl, fun w' hw' => by rw [execOp_mkO]; exact h a w' ha hw'⟩, k _ _ (ha.put hd v) hw⟩

theorem JD_qg {f : Bool} {l : List (Bool × Oper)} {g t : Nat} {b : Bool} {u : Value} (h : RunQ P N D b0 Mk L E op ty v) (hg : (ops[g]?).bind (·.dst) = some t := by rfl) (hu : look E t = some u := by rfl) (hb : wantB u b = true := by rfl)
    (ht : Nat.blt t N = true := by rfl) (hn : notDeferOp op = true := by rfl) (hd : Nat.blt d N = true := by rfl) (k : JD P rd b0 Mk N D ops L V ((d, v) :: E) l T) :
    JD P rd b0 Mk N D ops L V E ((f, { dst := some d, op := op, type := ty, pos := pos, after := after, guard := some (g, b) }) :: l) T := by
  intro a w ha hw
  have hwant : Region.wanted { dst := some d, op := op, type := ty, pos := pos, after := after, guard := some (g, b) } (yielded ops a.tmps) = true := by
    simp only [Region.wanted]; rw [yielded_of ha hg hu ht]; exact hb
  cases f
  · unfold wpS
    rw [if_pos hwant]
    exact wpIn_value (notDefer_mk hn) (by rw [execOp_mkO]; exact h a w ha hw.right) ⟨_, fun _ h => h, hw.right, k _ _ (ha.put hd v) hw⟩
  · unfold wpS
    exact ⟨v, .inl ⟨hwant, fun w' hw' => by rw [execOp_mkO]; exact h a w' ha hw'⟩, k _ _ (ha.put hd v) hw⟩

theorem JD_skip {f : Bool} {l : List (Bool × Oper)} {g t : Nat} {b : Bool} {u : Value} (hg : (ops[g]?).bind (·.dst) = some t := by rfl) (hu : look E t = some u := by rfl) (hb : wantB u b = false := by rfl) (ht : Nat.blt t N = true := by rfl)
    (hd : Nat.blt d N = true := by rfl) (k : JD P rd b0 Mk N D ops L V ((d, undef) :: E) l T) :
    JD P rd b0 Mk N D ops L V E ((f, { dst := some d, op := op, type := ty, pos := pos, after := after, guard := some (g, b) }) :: l) T := by
  intro a w ha hw
  have hwant : Region.wanted { dst := some d, op := op, type := ty, pos := pos, after := after, guard := some (g, b) } (yielded ops a.tmps) = false := by
    simp only [Region.wanted]; rw [yielded_of ha hg hu ht]; exact hb
  cases f
  · unfold wpS
    rw [if_neg (by rw [hwant]; simp)]
    exact k _ _ (ha.put hd _) hw
  · unfold wpS
    exact ⟨undef, .inr ⟨hwant, rfl⟩, k _ _ (ha.put hd _) hw⟩

/-! a test in a slot is parted on -/
theorem Holds.alter {a : Act} {t : Nat} {u u' : Value} (ha : Holds N D E a) (hu : look E t = some u) (h : u = u') : Holds N D ((t, u') :: E) a := by
  subst h
  refine ⟨ha.size, ha.defs, fun s x hx => ?_⟩
  simp only [look] at hx
  split at hx
  · rename_i hb
    have := Nat.eq_of_beq_eq_true hb
    subst this
    have := Option.some.inj hx
    subst this
    exact ha.val _ _ hu
  · exact ha.val _ _ hx

theorem JL_dec {l : List Oper} (t : Nat) {p : Prop} [Decidable p] (hu : look E t = some (.bool (decide p)) := by rfl) (h1 : p → JL P rd b0 Mk N D ops L ((t, .bool true) :: E) l T)
    (h0 : ¬ p → JL P rd b0 Mk N D ops L ((t, .bool false) :: E) l T) : JL P rd b0 Mk N D ops L E l T := by
  intro a w ha hw
  by_cases hp : p
  · exact h1 hp a w (ha.alter hu (by simp [hp])) hw
  · exact h0 hp a w (ha.alter hu (by simp [hp])) hw

theorem JL_bool {l : List Oper} (t : Nat) {p : Bool} (hu : look E t = some (.bool p) := by rfl) (h1 : p = true → JL P rd b0 Mk N D ops L ((t, .bool true) :: E) l T)
    (h0 : p = false → JL P rd b0 Mk N D ops L ((t, .bool false) :: E) l T) : JL P rd b0 Mk N D ops L E l T := by
  intro a w ha hw
  cases p
  · exact h0 rfl a w (ha.alter hu rfl) hw
  · exact h1 rfl a w (ha.alter hu rfl) hw

theorem JD_dec {l : List (Bool × Oper)} (t : Nat) {p : Prop} [Decidable p] (hu : look E t = some (.bool (decide p)) := by rfl) (h1 : p → JD P rd b0 Mk N D ops L V ((t, .bool true) :: E) l T)
    (h0 : ¬ p → JD P rd b0 Mk N D ops L V ((t, .bool false) :: E) l T) : JD P rd b0 Mk N D ops L V E l T := by
  intro a w ha hw
  by_cases hp : p
  · exact h1 hp a w (ha.alter hu (by simp [hp])) hw
  · exact h0 hp a w (ha.alter hu (by simp [hp])) hw

theorem JD_bool {l : List (Bool × Oper)} (t : Nat) {p : Bool} (hu : look E t = some (.bool p) := by rfl) (h1 : p = true → JD P rd b0 Mk N D ops L V ((t, .bool true) :: E) l T)
    (h0 : p = false → JD P rd b0 Mk N D ops L V ((t, .bool false) :: E) l T) : JD P rd b0 Mk N D ops L V E l T := by
  intro a w ha hw
  cases p
  · exact h0 rfl a w (ha.alter hu rfl) hw
  · exact h1 rfl a w (ha.alter hu rfl) hw

/-- A slot's value is said otherwise. -/
theorem JL_alter {l : List Oper} (t : Nat) (u' : Value) {u : Value} (hu : look E t = some u) (he : u = u') (h : JL P rd b0 Mk N D ops L ((t, u') :: E) l T) : JL P rd b0 Mk N D ops L E l T :=
  fun a w ha hw => h a w (ha.alter hu he) hw
theorem JD_alter {l : List (Bool × Oper)} (t : Nat) (u' : Value) {u : Value} (hu : look E t = some u) (he : u = u') (h : JD P rd b0 Mk N D ops L V ((t, u') :: E) l T) : JD P rd b0 Mk N D ops L V E l T :=
  fun a w ha hw => h a w (ha.alter hu he) hw
theorem JX_alter {e : Exit} (t : Nat) (u' : Value) {u : Value} (hu : look E t = some u) (he : u = u') (h : JX b0 Mk N D L ((t, u') :: E) Q e) : JX b0 Mk N D L E Q e :=
  fun a w ha hw => h a w (ha.alter hu he) hw

/-! new blocks -/
theorem JL_a {l : List Oper} {o : Obj} {v : Nat → Value} (hM : ∀ k ∈ Mk, k < b0.heap.size) (h : RunA P N D b0 Mk L E op ty o v) (hn : notDeferOp op = true := by rfl) (hd : Nat.blt d N = true := by rfl)
    (k : ∀ r, b0.heap.size ≤ r → JL P rd b0 Mk N D ops ((r, o) :: L) ((d, v r) :: E) l T) :
    JL P rd b0 Mk N D ops L E ({ dst := some d, op := op, type := ty, pos := pos, after := after, guard := none } :: l) T := by
  intro a w ha hw
  unfold wpL
  rw [if_pos (by rfl)]
  exact wpIn_value (notDefer_mk hn) (by rw [execOp_mkO]; exact h a w ha hw) (k _ hw.size _ _ (ha.put hd _) (hw.alloc o hM))

theorem SH.alloc_mid {w : World} (h : SH b0 Mk (V ++ L) w) (o : Obj) (hM : ∀ k ∈ Mk, k < b0.heap.size) : SH b0 Mk (V ++ (w.heap.size, o) :: L) (w.alloc o) :=
  (h.alloc o hM).perm List.perm_middle.symm

theorem JD_a {l : List (Bool × Oper)} {o : Obj} {v : Nat → Value} (hM : ∀ k ∈ Mk, k < b0.heap.size) (h : RunA P N D b0 Mk L E op ty o v) (hn : notDeferOp op = true := by rfl) (hd : Nat.blt d N = true := by rfl)
    (k : ∀ r, b0.heap.size ≤ r → JD P rd b0 Mk N D ops ((r, o) :: L) V ((d, v r) :: E) l T) :
    JD P rd b0 Mk N D ops L V E ((false, { dst := some d, op := op, type := ty, pos := pos, after := after, guard := none }) :: l) T := by
  intro a w ha hw
  unfold wpS
  rw [if_pos (by rfl)]
  exact wpIn_value (notDefer_mk hn) (by rw [execOp_mkO]; exact h a w ha hw.right)
    ⟨SH b0 Mk ((w.heap.size, o) :: L), fun x hx => hx.sub (List.sublist_cons_self _ _), (hw.alloc_mid o hM).right, k _ hw.size _ _ (ha.put hd _) (hw.alloc_mid o hM)⟩

theorem JL_ag {l : List Oper} {o : Obj} {v : Nat → Value} {g t : Nat} {b : Bool} {u : Value} (hM : ∀ k ∈ Mk, k < b0.heap.size) (h : RunA P N D b0 Mk L E op ty o v) (hg : (ops[g]?).bind (·.dst) = some t := by rfl)
    (hu : look E t = some u := by rfl) (hb : wantB u b = true := by rfl) (ht : Nat.blt t N = true := by rfl) (hn : notDeferOp op = true := by rfl) (hd : Nat.blt d N = true := by rfl)
    (k : ∀ r, b0.heap.size ≤ r → JL P rd b0 Mk N D ops ((r, o) :: L) ((d, v r) :: E) l T) :
    JL P rd b0 Mk N D ops L E ({ dst := some d, op := op, type := ty, pos := pos, after := after, guard := some (g, b) } :: l) T := by
  intro a w ha hw
  unfold wpL
  rw [if_pos (by simp only [Region.wanted]; rw [yielded_of ha hg hu ht]; exact hb)]
  exact wpIn_value (notDefer_mk hn) (by rw [execOp_mkO]; exact h a w ha hw) (k _ hw.size _ _ (ha.put hd _) (hw.alloc o hM))

theorem JD_ag {l : List (Bool × Oper)} {o : Obj} {v : Nat → Value} {g t : Nat} {b : Bool} {u : Value} (hM : ∀ k ∈ Mk, k < b0.heap.size) (h : RunA P N D b0 Mk L E op ty o v) (hg : (ops[g]?).bind (·.dst) = some t := by rfl)
    (hu : look E t = some u := by rfl) (hb : wantB u b = true := by rfl) (ht : Nat.blt t N = true := by rfl) (hn : notDeferOp op = true := by rfl) (hd : Nat.blt d N = true := by rfl)
    (k : ∀ r, b0.heap.size ≤ r → JD P rd b0 Mk N D ops ((r, o) :: L) V ((d, v r) :: E) l T) :
    JD P rd b0 Mk N D ops L V E ((false, { dst := some d, op := op, type := ty, pos := pos, after := after, guard := some (g, b) }) :: l) T := by
  intro a w ha hw
  unfold wpS
  rw [if_pos (by simp only [Region.wanted]; rw [yielded_of ha hg hu ht]; exact hb)]
  exact wpIn_value (notDefer_mk hn) (by rw [execOp_mkO]; exact h a w ha hw.right)
    ⟨SH b0 Mk ((w.heap.size, o) :: L), fun x hx => hx.sub (List.sublist_cons_self _ _), (hw.alloc_mid o hM).right, k _ hw.size _ _ (ha.put hd _) (hw.alloc_mid o hM)⟩

/-! stores, and whatever changes blocks that are known -/
/-- The operation yields a value (or none) and turns the known blocks L into L'. -/
def RunW (P : Program) (N : Nat) (D : List Deferred) (b0 : World) (Mk : List Nat) (L : Heap) (E : Env) (op : Op) (ty : TypeId) (L' : Heap) (r : Next) : Prop :=
  ∀ a w, Holds N D E a → SH b0 Mk L w → ∃ w', (execOp a.eval (mkO op ty)).run P w = .ok r w' ∧ SH b0 Mk L' w'

theorem wpIn_skip' {o : Oper} {a : Act} {w w' : World} {K : Act → World → Prop} {Q : Exit → Act → World → Prop} (hd : notDefer o = true) (h : (execOp a.eval o).run P w = .ok .skip w') (hK : K (a.put o.dst undef) w') :
    o.wpIn (FW rd) 0 P a w K Q := by
  refine ⟨fun _ _ => trivial, ?_⟩
  rw [Oper.semAt_eq _ _ _ (notDefer_defer hd), h]
  exact hK

theorem JL_s {l : List Oper} {L' : Heap} (h : RunW P N D b0 Mk L E op ty L' .skip) (hn : notDeferOp op = true := by rfl) (k : JL P rd b0 Mk N D ops L' E l T) :
    JL P rd b0 Mk N D ops L E ({ dst := none, op := op, type := ty, pos := pos, after := after, guard := none } :: l) T := by
  intro a w ha hw
  unfold wpL
  rw [if_pos (by rfl)]
  obtain ⟨w', h1, h2⟩ := h a w ha hw
  exact wpIn_skip' (notDefer_mk hn) (by rw [execOp_mkO]; exact h1) (k _ _ ha h2)

theorem JL_w {l : List Oper} {L' : Heap} (h : RunW P N D b0 Mk L E op ty L' (.value v)) (hn : notDeferOp op = true := by rfl) (hd : Nat.blt d N = true := by rfl) (k : JL P rd b0 Mk N D ops L' ((d, v) :: E) l T) :
    JL P rd b0 Mk N D ops L E ({ dst := some d, op := op, type := ty, pos := pos, after := after, guard := none } :: l) T := by
  intro a w ha hw
  unfold wpL
  rw [if_pos (by rfl)]
  obtain ⟨w', h1, h2⟩ := h a w ha hw
  exact wpIn_value (notDefer_mk hn) (by rw [execOp_mkO]; exact h1) (k _ _ (ha.put hd _) h2)

/-- The same in a plan: the blocks V alone are written. -/
theorem JD_s {l : List (Bool × Oper)} {V' : Heap} (h : RunW P N D b0 Mk (V ++ L) E op ty (V' ++ L) .skip) (hn : notDeferOp op = true := by rfl) (k : JD P rd b0 Mk N D ops L V' E l T) :
    JD P rd b0 Mk N D ops L V E ((false, { dst := none, op := op, type := ty, pos := pos, after := after, guard := none }) :: l) T := by
  intro a w ha hw
  unfold wpS
  rw [if_pos (by rfl)]
  obtain ⟨w', h1, h2⟩ := h a w ha hw
  exact wpIn_skip' (notDefer_mk hn) (by rw [execOp_mkO]; exact h1) ⟨SH b0 Mk L, fun _ h => h, h2.right, k _ _ ha h2⟩

theorem JD_w {l : List (Bool × Oper)} {V' : Heap} (h : RunW P N D b0 Mk (V ++ L) E op ty (V' ++ L) (.value v)) (hn : notDeferOp op = true := by rfl) (hd : Nat.blt d N = true := by rfl) (k : JD P rd b0 Mk N D ops L V' ((d, v) :: E) l T) :
    JD P rd b0 Mk N D ops L V E ((false, { dst := some d, op := op, type := ty, pos := pos, after := after, guard := none }) :: l) T := by
  intro a w ha hw
  unfold wpS
  rw [if_pos (by rfl)]
  obtain ⟨w', h1, h2⟩ := h a w ha hw
  exact wpIn_value (notDefer_mk hn) (by rw [execOp_mkO]; exact h1) ⟨SH b0 Mk L, fun _ h => h, h2.right, k _ _ (ha.put hd _) h2⟩

/-! calls -/
theorem callsIn_of_calls {F : Fence} {f : FuncId} {args : Array Value} {w : World} {R : Ending → World → Prop} (hF : F = FW rd) (h : Calls P f args w R) : CallsIn F 0 P f args w R := by
  subst hF
  have h' : CallsIn Fence.wide 0 P f args w R := callsIn_wide.2 h
  exact ⟨trivial, fun cs _ => h'.2 cs (room_wide _)⟩

/-- The callee, whatever it is, is function number f, at these arguments. -/
def RunC (P : Program) (N : Nat) (D : List Deferred) (b0 : World) (Mk : List Nat) (L : Heap) (E : Env) (op : Op) (ty : TypeId) (f : FuncId) (args : List Value) : Prop :=
  ∀ a w, Holds N D E a → SH b0 Mk L w → (execOp a.eval (mkO op ty)).run P w = .ok (.enter f args.toArray) w

theorem wpIn_enter {o : Oper} {a : Act} {w : World} {f : FuncId} {args : Array Value} {K : Act → World → Prop} {Q : Exit → Act → World → Prop} (hd : notDefer o = true) (h : (execOp a.eval o).run P w = .ok (.enter f args) w)
    (hK : Calls P f args w fun e w' => ∃ v, e = .returned v ∧ K (a.put o.dst v) w') : o.wpIn (FW rd) 0 P a w K Q := by
  refine ⟨fun _ _ => trivial, ?_⟩
  rw [Oper.semAt_eq _ _ _ (notDefer_defer hd), h]
  refine ⟨fun h => by simp [FW] at h, callsIn_of_calls rfl (hK.mono fun e w' he => ?_)⟩
  obtain ⟨v, rfl, hk⟩ := he
  exact hk

theorem JL_c {l : List Oper} {f : FuncId} {args : List Value} {X : Type} {v : X → Value} {L' : X → Heap} (hc : RunC P N D b0 Mk L E op ty f args)
    (h : ∀ w, SH b0 Mk L w → Calls P f args.toArray w fun e w' => ∃ x, e = .returned (v x) ∧ SH b0 Mk (L' x) w') (hn : notDeferOp op = true := by rfl) (hd : Nat.blt d N = true := by rfl)
    (k : ∀ x, JL P rd b0 Mk N D ops (L' x) ((d, v x) :: E) l T) :
    JL P rd b0 Mk N D ops L E ({ dst := some d, op := op, type := ty, pos := pos, after := after, guard := none } :: l) T := by
  intro a w ha hw
  unfold wpL
  rw [if_pos (by rfl)]
  refine wpIn_enter (notDefer_mk hn) (by rw [execOp_mkO]; exact hc a w ha hw) ((h w hw).mono fun e w' he => ?_)
  obtain ⟨x, rfl, h2⟩ := he
  exact ⟨_, rfl, k x _ _ (ha.put hd _) h2⟩

theorem JL_cg {l : List Oper} {f : FuncId} {args : List Value} {X : Type} {v : X → Value} {L' : X → Heap} {g t : Nat} {b : Bool} {u : Value} (hc : RunC P N D b0 Mk L E op ty f args)
    (h : ∀ w, SH b0 Mk L w → Calls P f args.toArray w fun e w' => ∃ x, e = .returned (v x) ∧ SH b0 Mk (L' x) w')
    (hg : (ops[g]?).bind (·.dst) = some t := by rfl) (hu : look E t = some u := by rfl) (hb : wantB u b = true := by rfl) (ht : Nat.blt t N = true := by rfl) (hn : notDeferOp op = true := by rfl) (hd : Nat.blt d N = true := by rfl)
    (k : ∀ x, JL P rd b0 Mk N D ops (L' x) ((d, v x) :: E) l T) :
    JL P rd b0 Mk N D ops L E ({ dst := some d, op := op, type := ty, pos := pos, after := after, guard := some (g, b) } :: l) T := by
  intro a w ha hw
  unfold wpL
  rw [if_pos (by simp only [Region.wanted]; rw [yielded_of ha hg hu ht]; exact hb)]
  refine wpIn_enter (notDefer_mk hn) (by rw [execOp_mkO]; exact hc a w ha hw) ((h w hw).mono fun e w' he => ?_)
  obtain ⟨x, rfl, h2⟩ := he
  exact ⟨_, rfl, k x _ _ (ha.put hd _) h2⟩

/-- In a plan: the callee makes new blocks (and may write V). -/
theorem JD_c {l : List (Bool × Oper)} {f : FuncId} {args : List Value} {X : Type} {v : X → Value} {B V' : X → Heap} (hc : RunC P N D b0 Mk L E op ty f args)
    (h : ∀ w, SH b0 Mk (V ++ L) w → Calls P f args.toArray w fun e w' => ∃ x, e = .returned (v x) ∧ SH b0 Mk (V' x ++ (B x ++ L)) w') (hn : notDeferOp op = true := by rfl) (hd : Nat.blt d N = true := by rfl)
    (k : ∀ x, JD P rd b0 Mk N D ops (B x ++ L) (V' x) ((d, v x) :: E) l T) :
    JD P rd b0 Mk N D ops L V E ((false, { dst := some d, op := op, type := ty, pos := pos, after := after, guard := none }) :: l) T := by
  intro a w ha hw
  unfold wpS
  rw [if_pos (by rfl)]
  refine wpIn_enter (notDefer_mk hn) (by rw [execOp_mkO]; exact hc a w ha hw.right) ((h w hw).mono fun e w' he => ?_)
  obtain ⟨x, rfl, h2⟩ := he
  exact ⟨_, rfl, SH b0 Mk (B x ++ L), fun y hy => hy.right, h2.right, k x _ _ (ha.put hd _) h2⟩

theorem JD_cg {l : List (Bool × Oper)} {f : FuncId} {args : List Value} {X : Type} {v : X → Value} {B V' : X → Heap} {g t : Nat} {b : Bool} {u : Value} (hc : RunC P N D b0 Mk L E op ty f args)
    (h : ∀ w, SH b0 Mk (V ++ L) w → Calls P f args.toArray w fun e w' => ∃ x, e = .returned (v x) ∧ SH b0 Mk (V' x ++ (B x ++ L)) w')
    (hg : (ops[g]?).bind (·.dst) = some t := by rfl) (hu : look E t = some u := by rfl) (hb : wantB u b = true := by rfl) (ht : Nat.blt t N = true := by rfl) (hn : notDeferOp op = true := by rfl) (hd : Nat.blt d N = true := by rfl)
    (k : ∀ x, JD P rd b0 Mk N D ops (B x ++ L) (V' x) ((d, v x) :: E) l T) :
    JD P rd b0 Mk N D ops L V E ((false, { dst := some d, op := op, type := ty, pos := pos, after := after, guard := some (g, b) }) :: l) T := by
  intro a w ha hw
  unfold wpS
  rw [if_pos (by simp only [Region.wanted]; rw [yielded_of ha hg hu ht]; exact hb)]
  refine wpIn_enter (notDefer_mk hn) (by rw [execOp_mkO]; exact hc a w ha hw.right) ((h w hw).mono fun e w' he => ?_)
  obtain ⟨x, rfl, h2⟩ := he
  exact ⟨_, rfl, SH b0 Mk (B x ++ L), fun y hy => hy.right, h2.right, k x _ _ (ha.put hd _) h2⟩

/-- What a callee that only makes new blocks gives. -/
def Ret (P : Program) (f : FuncId) (args : List Value) (w : World) (X : Type) (v : X → Value) (B : X → Heap) : Prop :=
  Calls P f args.toArray w fun e w' => ∃ x, e = .returned (v x) ∧ Fresh w w' (B x)

theorem Ret.sh {f : FuncId} {args : List Value} {w : World} {X : Type} {v : X → Value} {B : X → Heap} (h : Ret P f args w X v B) (hw : SH b0 Mk L w) :
    Calls P f args.toArray w fun e w' => ∃ x, e = .returned (v x) ∧ SH b0 Mk (B x ++ L) w' :=
  h.mono fun _ _ ⟨x, he, hf⟩ => ⟨x, he, hw.fresh hf⟩

theorem Ret.shV {f : FuncId} {args : List Value} {w : World} {X : Type} {v : X → Value} {B : X → Heap} (h : Ret P f args w X v B) (hw : SH b0 Mk (V ++ L) w) :
    Calls P f args.toArray w fun e w' => ∃ x, e = .returned (v x) ∧ SH b0 Mk (V ++ (B x ++ L)) w' :=
  h.mono fun _ _ ⟨x, he, hf⟩ => ⟨x, he, (hw.fresh hf).perm (by rw [← List.append_assoc, ← List.append_assoc]; exact List.perm_append_comm.append_right _)⟩

/-- A callee whose answer is one value and which leaves no block that matters. -/
def Val (P : Program) (f : FuncId) (args : List Value) (w : World) (v : Value) : Prop :=
  Calls P f args.toArray w fun e w' => e = .returned v ∧ Ext w w'

theorem Val.sh {f : FuncId} {args : List Value} {w : World} {v : Value} (h : Val P f args w v) (hw : SH b0 Mk L w) :
    Calls P f args.toArray w fun e w' => ∃ _ : Unit, e = .returned v ∧ SH b0 Mk L w' :=
  h.mono fun _ _ ⟨he, hf⟩ => ⟨(), he, hw.ext hf⟩

theorem JL_v {l : List Oper} {f : FuncId} {args : List Value} (hc : RunC P N D b0 Mk L E op ty f args) (h : ∀ w, SH b0 Mk L w → Val P f args w v) (hn : notDeferOp op = true := by rfl) (hd : Nat.blt d N = true := by rfl)
    (k : JL P rd b0 Mk N D ops L ((d, v) :: E) l T) : JL P rd b0 Mk N D ops L E ({ dst := some d, op := op, type := ty, pos := pos, after := after, guard := none } :: l) T :=
  JL_c (X := Unit) (v := fun _ => v) (L' := fun _ => L) hc (fun w hw => (h w hw).sh hw) hn hd fun _ => k
theorem JL_vg {l : List Oper} {f : FuncId} {args : List Value} {g t : Nat} {b : Bool} {u : Value} (hc : RunC P N D b0 Mk L E op ty f args) (h : ∀ w, SH b0 Mk L w → Val P f args w v)
    (hg : (ops[g]?).bind (·.dst) = some t := by rfl) (hu : look E t = some u := by rfl) (hb : wantB u b = true := by rfl) (ht : Nat.blt t N = true := by rfl) (hn : notDeferOp op = true := by rfl) (hd : Nat.blt d N = true := by rfl)
    (k : JL P rd b0 Mk N D ops L ((d, v) :: E) l T) : JL P rd b0 Mk N D ops L E ({ dst := some d, op := op, type := ty, pos := pos, after := after, guard := some (g, b) } :: l) T :=
  JL_cg (X := Unit) (v := fun _ => v) (L' := fun _ => L) hc (fun w hw => (h w hw).sh hw) hg hu hb ht hn hd fun _ => k
theorem JD_v {l : List (Bool × Oper)} {f : FuncId} {args : List Value} (hc : RunC P N D b0 Mk L E op ty f args) (h : ∀ w, SH b0 Mk L w → Val P f args w v) (hn : notDeferOp op = true := by rfl) (hd : Nat.blt d N = true := by rfl)
    (k : JD P rd b0 Mk N D ops L V ((d, v) :: E) l T) : JD P rd b0 Mk N D ops L V E ((false, { dst := some d, op := op, type := ty, pos := pos, after := after, guard := none }) :: l) T :=
  JD_c (X := Unit) (v := fun _ => v) (B := fun _ => []) (V' := fun _ => V) hc (fun w hw => (h w hw.right).mono fun _ _ ⟨he, hf⟩ => ⟨(), he, hw.ext hf⟩) hn hd fun _ => k
theorem JD_vg {l : List (Bool × Oper)} {f : FuncId} {args : List Value} {g t : Nat} {b : Bool} {u : Value} (hc : RunC P N D b0 Mk L E op ty f args) (h : ∀ w, SH b0 Mk L w → Val P f args w v)
    (hg : (ops[g]?).bind (·.dst) = some t := by rfl) (hu : look E t = some u := by rfl) (hb : wantB u b = true := by rfl) (ht : Nat.blt t N = true := by rfl) (hn : notDeferOp op = true := by rfl) (hd : Nat.blt d N = true := by rfl)
    (k : JD P rd b0 Mk N D ops L V ((d, v) :: E) l T) : JD P rd b0 Mk N D ops L V E ((false, { dst := some d, op := op, type := ty, pos := pos, after := after, guard := some (g, b) }) :: l) T :=
  JD_cg (X := Unit) (v := fun _ => v) (B := fun _ => []) (V' := fun _ => V) hc (fun w hw => (h w hw.right).mono fun _ _ ⟨he, hf⟩ => ⟨(), he, hw.ext hf⟩) hg hu hb ht hn hd fun _ => k

theorem JL_r {l : List Oper} {f : FuncId} {args : List Value} {X : Type} {v : X → Value} {B : X → Heap} (hc : RunC P N D b0 Mk L E op ty f args) (h : ∀ w, SH b0 Mk L w → Ret P f args w X v B) (hn : notDeferOp op = true := by rfl) (hd : Nat.blt d N = true := by rfl)
    (k : ∀ x, JL P rd b0 Mk N D ops (B x ++ L) ((d, v x) :: E) l T) : JL P rd b0 Mk N D ops L E ({ dst := some d, op := op, type := ty, pos := pos, after := after, guard := none } :: l) T :=
  JL_c hc (fun w hw => (h w hw).sh hw) hn hd k
theorem JD_r {l : List (Bool × Oper)} {f : FuncId} {args : List Value} {X : Type} {v : X → Value} {B : X → Heap} (hc : RunC P N D b0 Mk L E op ty f args) (h : ∀ w, SH b0 Mk L w → Ret P f args w X v B) (hn : notDeferOp op = true := by rfl) (hd : Nat.blt d N = true := by rfl)
    (k : ∀ x, JD P rd b0 Mk N D ops (B x ++ L) V ((d, v x) :: E) l T) : JD P rd b0 Mk N D ops L V E ((false, { dst := some d, op := op, type := ty, pos := pos, after := after, guard := none }) :: l) T :=
  JD_c (V' := fun _ => V) hc (fun w hw => (h w hw.right).shV hw) hn hd k
theorem JD_rg {l : List (Bool × Oper)} {f : FuncId} {args : List Value} {X : Type} {v : X → Value} {B : X → Heap} {g t : Nat} {b : Bool} {u : Value} (hc : RunC P N D b0 Mk L E op ty f args) (h : ∀ w, SH b0 Mk L w → Ret P f args w X v B)
    (hg : (ops[g]?).bind (·.dst) = some t := by rfl) (hu : look E t = some u := by rfl) (hb : wantB u b = true := by rfl) (ht : Nat.blt t N = true := by rfl) (hn : notDeferOp op = true := by rfl) (hd : Nat.blt d N = true := by rfl)
    (k : ∀ x, JD P rd b0 Mk N D ops (B x ++ L) V ((d, v x) :: E) l T) : JD P rd b0 Mk N D ops L V E ((false, { dst := some d, op := op, type := ty, pos := pos, after := after, guard := some (g, b) }) :: l) T :=
  JD_cg (V' := fun _ => V) hc (fun w hw => (h w hw.right).shV hw) hg hu hb ht hn hd k

end steps
end Go.Proofs.YtodejmindmiknaaDoor.Jd
