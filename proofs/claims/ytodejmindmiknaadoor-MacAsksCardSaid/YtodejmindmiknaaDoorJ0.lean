/- The frame of the walks: a symbolic state (slots, blocks of the call's own, a base world) and the rules of control flow over it. No condition. -/
import Derived.CallsIn
import Derived.RangeFuncLeaves
import Derived.RangeFuncRecord
import Derived.Below
import Derived.OrdersHeld
import Derived.KernelRfl
namespace Go.Proofs.YtodejmindmiknaaDoor.Jd
set_option linter.unusedSimpArgs false
set_option linter.unusedVariables false
open Go.RowKit (Below)

/-! ### the fence: everything is let in; a round's number or none -/
def FW (rd : Option Nat) : Fence := { fn := fun _ => True, depth := none, alive := false, round := rd }

theorem FW_room (rd : Option Nat) (k : Nat) : (FW rd).room k := fun _ h => by simp [FW] at h

/-! ### slots -/
abbrev Env := List (Nat × Value)

def look : Env → Nat → Option Value
  | [], _ => none
  | p :: r, t => match Nat.beq p.1 t with
    | true => some p.2
    | false => look r t

def ev (E : Env) : Operand → Option Value
  | .tmp t => look E t
  | .const v => some v
  | .global g => some (.pointer (some ⟨g, 0, none⟩))
  | .func f => some (.func (.func f) #[] #[])

structure Holds (N : Nat) (D : List Deferred) (E : Env) (a : Act) : Prop where
  size : a.tmps.size = N
  defs : a.defers = D
  val : ∀ t v, look E t = some v → a.tmps.getD t undef = v

theorem Holds.eval {N : Nat} {D : List Deferred} {E : Env} {a : Act} (h : Holds N D E a) {x : Operand} {v : Value} (hx : ev E x = some v) : a.eval x = v := by
  cases x with
  | tmp t => exact h.val t v hx
  | const u => exact Option.some.inj hx
  | global g => exact Option.some.inj hx
  | func f => exact Option.some.inj hx

theorem Holds.put {N : Nat} {D : List Deferred} {E : Env} {a : Act} (h : Holds N D E a) {d : Nat} (hd : Nat.blt d N = true) (v : Value) : Holds N D ((d, v) :: E) (a.put (some d) v) := by
  have hd' : d < N := by simpa [Nat.blt_eq] using hd
  refine ⟨by simp [Act.put, h.size], h.defs, fun t u hu => ?_⟩
  simp only [look] at hu
  by_cases e : d = t
  · subst e
    simp only [Nat.beq_refl] at hu
    have : v = u := Option.some.inj hu
    subst this
    simp [Act.put, h.size, hd']
  · have hb : Nat.beq d t = false := by
      cases hq : Nat.beq d t with
      | false => rfl
      | true => exact absurd (Nat.eq_of_beq_eq_true hq) e
    rw [hb] at hu
    have := h.val t u hu
    simp only [Act.put, Array.getD_eq_getD_getElem?] at *
    rw [Array.getElem?_setIfInBounds_ne e]
    exact this

/-- What is forgotten: fewer slots are known. -/
inductive SubE (E : Env) : Env → Prop
  | nil : SubE E []
  | cons {t : Nat} {v : Value} {r : Env} (h : look E t = some v) (hr : SubE E r) : SubE E ((t, v) :: r)

theorem SubE.look {E E' : Env} (h : SubE E E') : ∀ t v, look E' t = some v → Jd.look E t = some v := by
  induction h with
  | nil => intro t v h; cases h
  | cons h hr ih =>
    intro t v hv
    simp only [Jd.look] at hv
    split at hv
    · rename_i hb
      have := Nat.eq_of_beq_eq_true hb
      subst this
      have := Option.some.inj hv
      subst this
      exact h
    · exact ih t v hv

theorem Holds.sub {N : Nat} {D : List Deferred} {E E' : Env} {a : Act} (h : Holds N D E a) (hs : SubE E E') : Holds N D E' a :=
  ⟨h.size, h.defs, fun t v hv => h.val t v (hs.look t v hv)⟩

/-! ### memory -/
abbrev Heap := List (Nat × Obj)

/-- w is the base world b0, but for the blocks Mk (which the call may write) and for new blocks; of the blocks L the content is known. -/
structure SH (b0 : World) (Mk : List Nat) (L : Heap) (w : World) : Prop where
  os : w.os = b0.os
  tape : w.tape = b0.tape
  output : w.output = b0.output
  size : b0.heap.size ≤ w.heap.size
  same : ∀ k, k < b0.heap.size → k ∉ Mk → w.heap[k]? = b0.heap[k]?
  own : ∀ p ∈ L, w.heap[p.1]? = some p.2
  key : ∀ p ∈ L, p.1 ∈ Mk ∨ b0.heap.size ≤ p.1
  nd : (L.map Prod.fst).Nodup

theorem SH.lt {b0 : World} {Mk : List Nat} {L : Heap} {w : World} (h : SH b0 Mk L w) {p : Nat × Obj} (hp : p ∈ L) : p.1 < w.heap.size :=
  (Array.getElem?_eq_some_iff.1 (h.own p hp)).1

theorem SH.begin (w : World) : SH w [] [] w :=
  ⟨rfl, rfl, rfl, Nat.le_refl _, fun _ _ _ => rfl, (fun _ h => by cases h), (fun _ h => by cases h), List.nodup_nil⟩

/-- The same, a draw later (or whatever leaves the heap as it was). -/
theorem SH.drawn {b0 : World} {Mk : List Nat} {L : Heap} {w : World} (h : SH b0 Mk L w) (n : Nat) : SH b0 Mk L { w with drawn := n } :=
  ⟨h.os, h.tape, h.output, h.size, h.same, h.own, h.key, h.nd⟩

/-- A new block. -/
theorem SH.alloc {b0 : World} {Mk : List Nat} {L : Heap} {w : World} (h : SH b0 Mk L w) (o : Obj) (hM : ∀ k ∈ Mk, k < b0.heap.size) :
    SH b0 Mk ((w.heap.size, o) :: L) (w.alloc o) := by
  refine ⟨h.os, h.tape, h.output, ?_, ?_, ?_, ?_, ?_⟩
  · have := h.size; simp; omega
  · intro k hk hM
    rw [Below.heap_alloc w o k (Nat.lt_of_lt_of_le hk h.size)]; exact h.same k hk hM
  · intro p hp
    rcases List.mem_cons.1 hp with rfl | hp
    · show (w.heap.push o)[w.heap.size]? = some o
      simp
    · rw [Below.heap_alloc w o p.1 (h.lt hp)]; exact h.own p hp
  · intro p hp
    rcases List.mem_cons.1 hp with rfl | hp
    · exact .inr h.size
    · exact h.key p hp
  · simp only [List.map_cons, List.nodup_cons]
    refine ⟨fun hm => ?_, h.nd⟩
    obtain ⟨p, hp, he⟩ := List.mem_map.1 hm
    have := h.lt hp
    omega

/-- Fewer blocks. -/
theorem SH.sub {b0 : World} {Mk : List Nat} {L L' : Heap} {w : World} (h : SH b0 Mk L w) (hs : List.Sublist L' L) : SH b0 Mk L' w :=
  ⟨h.os, h.tape, h.output, h.size, h.same, fun p hp => h.own p (hs.subset hp), fun p hp => h.key p (hs.subset hp), (hs.map _).nodup h.nd⟩

theorem SH.perm {b0 : World} {Mk : List Nat} {L L' : Heap} {w : World} (h : SH b0 Mk L w) (hs : List.Perm L L') : SH b0 Mk L' w :=
  ⟨h.os, h.tape, h.output, h.size, h.same, fun p hp => h.own p (hs.mem_iff.2 hp), fun p hp => h.key p (hs.mem_iff.2 hp), (hs.map _).nodup_iff.1 h.nd⟩

/-- What a call did that has only made new blocks. -/
abbrev Ext (w w' : World) : Prop := Below w.heap.size w w'

theorem SH.ext {b0 : World} {Mk : List Nat} {L : Heap} {w w' : World} (h : SH b0 Mk L w) (he : Ext w w') : SH b0 Mk L w' :=
  ⟨he.os.trans h.os, he.tape.trans h.tape, he.output.trans h.output, Nat.le_trans h.size he.size,
   fun k hk hM => (he.block k (Nat.lt_of_lt_of_le hk h.size)).trans (h.same k hk hM),
   fun p hp => (he.block p.1 (h.lt hp)).trans (h.own p hp), h.key, h.nd⟩

/-- New blocks of a callee, with their content. -/
structure Fresh (w w' : World) (B : Heap) : Prop where
  ext : Ext w w'
  own : ∀ p ∈ B, w'.heap[p.1]? = some p.2
  new : ∀ p ∈ B, w.heap.size ≤ p.1
  nd : (B.map Prod.fst).Nodup

theorem SH.fresh {b0 : World} {Mk : List Nat} {L B : Heap} {w w' : World} (h : SH b0 Mk L w) (hf : Fresh w w' B) : SH b0 Mk (B ++ L) w' := by
  have h' := h.ext hf.ext
  refine ⟨h'.os, h'.tape, h'.output, h'.size, h'.same, ?_, ?_, ?_⟩
  · intro p hp
    rcases List.mem_append.1 hp with hp | hp
    · exact hf.own p hp
    · exact h'.own p hp
  · intro p hp
    rcases List.mem_append.1 hp with hp | hp
    · exact .inr (Nat.le_trans h.size (hf.new p hp))
    · exact h'.key p hp
  · rw [List.map_append, List.nodup_append]
    refine ⟨hf.nd, h.nd, fun a ha b hb => ?_⟩
    obtain ⟨p, hp, rfl⟩ := List.mem_map.1 ha
    obtain ⟨q, hq, rfl⟩ := List.mem_map.1 hb
    have h1 := hf.new p hp
    have h2 := h.lt hq
    omega

theorem Fresh.of_ext {w w' : World} (h : Ext w w') : Fresh w w' [] := ⟨h, (fun _ h => by cases h), (fun _ h => by cases h), List.nodup_nil⟩

/-- At the end of a call that owns no old block: what it says of its new blocks. -/
theorem SH.ext_out {b0 : World} {L : Heap} {w : World} (h : SH b0 [] L w) : Ext b0 w :=
  ⟨h.os, h.tape, h.output, h.size, fun k hk => h.same k hk (by simp)⟩

theorem SH.fresh_out {b0 : World} {L : Heap} {w : World} (h : SH b0 [] L w) : Fresh b0 w L :=
  ⟨h.ext_out, h.own, fun p hp => (h.key p hp).resolve_left (by simp), h.nd⟩

/-! ### the judgements -/
section
variable (P : Program) (rd : Option Nat) (b0 : World) (Mk : List Nat) (N : Nat) (D : List Deferred) (L : Heap) (E : Env)

/-- From the symbolic state (D, L, E) the code c runs, and ends as Q says. -/
def J (c : Code) (Q : Exit → Act → World → Prop) : Prop :=
  ∀ a w, Holds N D E a → SH b0 Mk L w → c.wpIn (FW rd) 0 P Q a w

/-- At the end of a piece of code, left by e. -/
def JX (Q : Exit → Act → World → Prop) (e : Exit) : Prop :=
  ∀ a w, Holds N D E a → SH b0 Mk L w → Q e a w
end

def kSeq (P : Program) (rd : Option Nat) (c : Code) (Q : Exit → Act → World → Prop) : Exit → Act → World → Prop :=
  Exit.then (c.wpIn (FW rd) 0 P Q) Q

def kInv (I : Act → World → Prop) (Q : Exit → Act → World → Prop) : Exit → Act → World → Prop := Exit.then I Q

section rules
variable {P : Program} {rd : Option Nat} {b0 : World} {Mk : List Nat} {N : Nat} {D : List Deferred} {L : Heap} {E : Env} {Q : Exit → Act → World → Prop}

theorem J_seq {x y : Code} (h : J P rd b0 Mk N D L E x (kSeq P rd y Q)) : J P rd b0 Mk N D L E (Code.seq x y) Q :=
  fun a w ha hw => wpIn_seq (h a w ha hw)
theorem J_skip (h : JX b0 Mk N D L E Q .normal) : J P rd b0 Mk N D L E Code.skip Q := fun a w ha hw => wpIn_skip (h a w ha hw)
theorem J_label {l : Nat} (h : JX b0 Mk N D L E Q .normal) : J P rd b0 Mk N D L E (Code.label l) Q := fun a w ha hw => wpIn_label (h a w ha hw)
theorem J_exit {id : Nat} (h : JX b0 Mk N D L E Q (.exit id)) : J P rd b0 Mk N D L E (Code.exit id) Q := fun a w ha hw => wpIn_exit (h a w ha hw)
theorem J_ret (h : JX b0 Mk N D L E Q .ret) : J P rd b0 Mk N D L E Code.ret Q := fun a w ha hw => wpIn_ret (h a w ha hw)
theorem J_block {id : Nat} {c : Code} (h : J P rd b0 Mk N D L E c (Exit.inBlock id Q)) : J P rd b0 Mk N D L E (Code.block id c) Q :=
  fun a w ha hw => wpIn_block (h a w ha hw)
theorem J_true {c : Operand} {x y : Code} (hc : ev E c = some (.bool true)) (h : J P rd b0 Mk N D L E x Q) : J P rd b0 Mk N D L E (Code.cond c x y) Q :=
  fun a w ha hw => wpIn_cond_true (ha.eval hc) (h a w ha hw)
theorem J_false {c : Operand} {x y : Code} (hc : ev E c = some (.bool false)) (h : J P rd b0 Mk N D L E y Q) : J P rd b0 Mk N D L E (Code.cond c x y) Q :=
  fun a w ha hw => wpIn_cond_false (ha.eval hc) (h a w ha hw)
theorem J_cond {c : Operand} {x y : Code} {t : Bool} (hc : ev E c = some (.bool t)) (h1 : t = true → J P rd b0 Mk N D L E x Q)
    (h0 : t = false → J P rd b0 Mk N D L E y Q) : J P rd b0 Mk N D L E (Code.cond c x y) Q := by
  cases t
  · exact J_false hc (h0 rfl)
  · exact J_true hc (h1 rfl)
theorem J_dec {c : Operand} {x y : Code} {p : Prop} [Decidable p] (hc : ev E c = some (.bool (decide p))) (h1 : p → J P rd b0 Mk N D L E x Q)
    (h0 : ¬ p → J P rd b0 Mk N D L E y Q) : J P rd b0 Mk N D L E (Code.cond c x y) Q := by
  by_cases hp : p
  · exact J_true (by rw [hc]; simp [hp]) (h1 hp)
  · exact J_false (by rw [hc]; simp [hp]) (h0 hp)
theorem J_sub {c : Code} (E' : Env) (hs : SubE E E') (h : J P rd b0 Mk N D L E' c Q) : J P rd b0 Mk N D L E c Q :=
  fun a w ha hw => h a w (ha.sub hs) hw
theorem J_subL {c : Code} (L' : Heap) (hs : List.Sublist L' L) (h : J P rd b0 Mk N D L' E c Q) : J P rd b0 Mk N D L E c Q :=
  fun a w ha hw => h a w ha (hw.sub hs)
theorem J_permL {c : Code} (L' : Heap) (hs : List.Perm L L') (h : J P rd b0 Mk N D L' E c Q) : J P rd b0 Mk N D L E c Q :=
  fun a w ha hw => h a w ha (hw.perm hs)
theorem JX_sub {e : Exit} (E' : Env) (hs : SubE E E') (h : JX b0 Mk N D L E' Q e) : JX b0 Mk N D L E Q e :=
  fun a w ha hw => h a w (ha.sub hs) hw
theorem JX_subL {e : Exit} (L' : Heap) (hs : List.Sublist L' L) (h : JX b0 Mk N D L' E Q e) : JX b0 Mk N D L E Q e :=
  fun a w ha hw => h a w ha (hw.sub hs)
theorem JX_permL {e : Exit} (L' : Heap) (hs : List.Perm L L') (h : JX b0 Mk N D L' E Q e) : JX b0 Mk N D L E Q e :=
  fun a w ha hw => h a w ha (hw.perm hs)

theorem JX_seq {y : Code} (h : J P rd b0 Mk N D L E y Q) : JX b0 Mk N D L E (kSeq P rd y Q) .normal := h
theorem JX_seq_exit {y : Code} {id : Nat} (h : JX b0 Mk N D L E Q (.exit id)) : JX b0 Mk N D L E (kSeq P rd y Q) (.exit id) := h
theorem JX_seq_ret {y : Code} (h : JX b0 Mk N D L E Q .ret) : JX b0 Mk N D L E (kSeq P rd y Q) .ret := h
theorem JX_block {id : Nat} (h : JX b0 Mk N D L E Q .normal) : JX b0 Mk N D L E (Exit.inBlock id Q) .normal := h
theorem JX_block_ret {id : Nat} (h : JX b0 Mk N D L E Q .ret) : JX b0 Mk N D L E (Exit.inBlock id Q) .ret := h
theorem JX_block_hit {id : Nat} (h : JX b0 Mk N D L E Q .normal) : JX b0 Mk N D L E (Exit.inBlock id Q) (.exit id) :=
  fun a w ha hw => by simp only [Exit.inBlock, if_true]; exact h a w ha hw
theorem JX_block_miss {id id' : Nat} (hne : Nat.beq id' id = false) (h : JX b0 Mk N D L E Q (.exit id')) : JX b0 Mk N D L E (Exit.inBlock id Q) (.exit id') :=
  fun a w ha hw => by
    have : id' ≠ id := fun e => by subst e; simp at hne
    simp only [Exit.inBlock, this, if_false]; exact h a w ha hw
theorem JX_inv_exit {I : Act → World → Prop} {id : Nat} (h : JX b0 Mk N D L E Q (.exit id)) : JX b0 Mk N D L E (kInv I Q) (.exit id) := h
theorem JX_inv_ret {I : Act → World → Prop} (h : JX b0 Mk N D L E Q .ret) : JX b0 Mk N D L E (kInv I Q) .ret := h

/-- What holds at the head of each round: one of a family of symbolic states, lowered by each round. -/
def Round {σ : Type} (b0 : World) (Mk : List Nat) (N : Nat) (D : List Deferred) (Ls : σ → Heap) (Es : σ → Env) (I : σ → Prop) (m : σ → Nat) (n : Nat) (a : Act) (w : World) : Prop :=
  ∃ s, I s ∧ m s < n ∧ Holds N D (Es s) a ∧ SH b0 Mk (Ls s) w

theorem J_loop {σ : Type} {c : Code} (Ls : σ → Heap) (Es : σ → Env) (I : σ → Prop) (m : σ → Nat) (s0 : σ) (hI : I s0) (hE : SubE E (Es s0)) (hL : List.Perm L (Ls s0))
    (h : ∀ s, I s → J P rd b0 Mk N D (Ls s) (Es s) c (kInv (Round b0 Mk N D Ls Es I m (m s)) Q)) : J P rd b0 Mk N D L E (Code.loop c) Q := by
  intro a w ha hw b k cs hro hb hr
  have key : ∀ (fuel : Nat) (a : Act) (w : World) (s : σ), m s < fuel → I s → Holds N D (Es s) a → SH b0 Mk (Ls s) w →
      ∃ e a' w', Q e a' w' ∧ ArrivesIn (Machine.fenced P (FW rd)) P (lone (b.atR a (.code c :: .inLoop c :: k)) cs w) b k cs e a' w' := by
    intro fuel
    induction fuel with
    | zero => intro a w s hm; omega
    | succ fuel ih =>
      intro a w s hm hI ha hw
      obtain ⟨e, a₁, w₁, hq, harr⟩ := h s hI a w ha hw b (.inLoop c :: k) cs hro hb hr
      cases e with
      | normal =>
        obtain ⟨s', hI', hm', ha', hw'⟩ := hq
        obtain ⟨e₂, a₂, w₂, hq₂, harr₂⟩ := ih a₁ w₁ s' (by omega) hI' ha' hw'
        exact ⟨e₂, a₂, w₂, hq₂, .of_steps (StepsIn.trans harr (.one (fenced_calm hb hr rfl) stepR_inLoop)) harr₂⟩
      | exit id => exact ⟨_, a₁, w₁, hq, .pass (x := .inLoop c) rfl (fun _ _ => .inl (by simp)) harr⟩
      | goto l => exact ⟨_, a₁, w₁, hq, .pass (x := .inLoop c) rfl (fun _ _ => .inl (by simp)) harr⟩
      | ret => exact ⟨_, a₁, w₁, hq, .pass (x := .inLoop c) rfl (fun _ _ => .inl (by simp)) harr⟩
      | panic ch => exact ⟨_, a₁, w₁, hq, .pass (x := .inLoop c) rfl (fun _ _ => .inl (by simp)) harr⟩
      | outgrown => exact ⟨_, a₁, w₁, hq, .pass (x := .inLoop c) rfl (fun _ _ => .inl (by simp)) harr⟩
  obtain ⟨e, a', w', hq, harr⟩ := key (m s0 + 1) a w s0 (by omega) hI (ha.sub hE) (hw.perm hL)
  exact ⟨e, a', w', hq, .of_steps (.one (fenced_calm hb hr rfl) stepR_loop) harr⟩

/-- A round's end. -/
theorem JX_inv {σ : Type} {Ls : σ → Heap} {Es : σ → Env} {I : σ → Prop} {m : σ → Nat} {n : Nat} (s : σ) (hI : I s) (hm : m s < n) (hE : SubE E (Es s)) (hL : List.Perm L (Ls s)) :
    JX b0 Mk N D L E (kInv (Round b0 Mk N D Ls Es I m n) Q) .normal :=
  fun _ _ ha hw => ⟨s, hI, hm, ha.sub hE, hw.perm hL⟩
end rules
end Go.Proofs.YtodejmindmiknaaDoor.Jd
