/- Part of the proofs of this seat: walks and plain facts. No condition. -/
import Derived.Test.YtopjaeoklkpcpaaGreatDoorP0
import Derived.CallsIn
import Derived.RangeFuncLeaves
import Derived.RangeFuncRecord
import Derived.Below
import Derived.OrdersHeld
import Derived.KernelRfl
import Derived.OrdersIn
import Derived.StillTail
import Derived.Laws.Cells
import Derived.Laws.World
import Derived.IntWalk
import Derived.Laws.AppendOwn
import Derived.Laws.MakeOwn
import Derived.Laws.CopyRow
import Derived.Scope
import Derived.WalkKit
import Derived.ProofKit
import Derived.OpenShut
import Derived.Carry
import Derived.Laws.StructEq
import Derived.Lib.ItoaNum
import Derived.Lib.IndexMore
import Derived.Lib.Join
import Derived.Deep.DeepHandedRow
import Derived.Lib.LaidTab
import Derived.SevenTiedAt
import Derived.Stop.LaidTwo
import Derived.Lib.ConvBytes
import Derived.Laws.BytesString
namespace Go.Proofs.YtopjaeoklkpcpaaGreatDoor.Jd
open Go.RowKit (Below)
set_option linter.unusedVariables false
set_option linter.unusedSimpArgs false

def FW (rd : Option Nat) : Fence := { fn := fun _ => True, depth := none, alive := false, round := rd }

theorem FW_room (rd : Option Nat) (k : Nat) : (FW rd).room k := fun _ h => by simp [FW] at h

abbrev Env := List (Nat × Value)

def look : Env → Nat → Option Value
  | [], _ => none
  | p :: r, t => match Nat.beq p.1 t with
    | true => some p.2
    | false => look r t

def ev (E : Env) : Operand → Option Value
  | .tmp t => look E t
  | .const v => some v
  | .global g => some (.pointer (some ⟨g, 0, none⟩))
  | .func f => some (.func (.func f) #[] #[])

structure Holds (N : Nat) (D : List Deferred) (E : Env) (a : Act) : Prop where
  size : a.tmps.size = N
  defs : a.defers = D
  val : ∀ t v, look E t = some v → a.tmps.getD t undef = v

theorem Holds.eval {N : Nat} {D : List Deferred} {E : Env} {a : Act} (h : Holds N D E a) {x : Operand} {v : Value} (hx : ev E x = some v) : a.eval x = v := by
  cases x with
  | tmp t => exact h.val t v hx
  | const u => exact Option.some.inj hx
  | global g => exact Option.some.inj hx
  | func f => exact Option.some.inj hx

theorem Holds.put {N : Nat} {D : List Deferred} {E : Env} {a : Act} (h : Holds N D E a) {d : Nat} (hd : Nat.blt d N = true) (v : Value) : Holds N D ((d, v) :: E) (a.put (some d) v) := by
  have hd' : d < N := by simpa [Nat.blt_eq] using hd
  refine ⟨by simp [Act.put, h.size], h.defs, fun t u hu => ?_⟩
  simp only [look] at hu
  by_cases e : d = t
  · subst e
    simp only [Nat.beq_refl] at hu
    have : v = u := Option.some.inj hu
    subst this
    simp [Act.put, h.size, hd']
  · have hb : Nat.beq d t = false := by
      cases hq : Nat.beq d t with
      | false => rfl
      | true => exact absurd (Nat.eq_of_beq_eq_true hq) e
    rw [hb] at hu
    have := h.val t u hu
    simp only [Act.put, Array.getD_eq_getD_getElem?] at *
    rw [Array.getElem?_setIfInBounds_ne e]
    exact this

/-- What is forgotten: fewer slots are known. -/
inductive SubE (E : Env) : Env → Prop
  | nil : SubE E []
  | cons {t : Nat} {v : Value} {r : Env} (h : look E t = some v) (hr : SubE E r) : SubE E ((t, v) :: r)

theorem SubE.look {E E' : Env} (h : SubE E E') : ∀ t v, look E' t = some v → Jd.look E t = some v := by
  induction h with
  | nil => intro t v h; cases h
  | cons h hr ih =>
    intro t v hv
    simp only [Jd.look] at hv
    split at hv
    · rename_i hb
      have := Nat.eq_of_beq_eq_true hb
      subst this
      have := Option.some.inj hv
      subst this
      exact h
    · exact ih t v hv

theorem Holds.sub {N : Nat} {D : List Deferred} {E E' : Env} {a : Act} (h : Holds N D E a) (hs : SubE E E') : Holds N D E' a :=
  ⟨h.size, h.defs, fun t v hv => h.val t v (hs.look t v hv)⟩

abbrev Heap := List (Nat × Obj)

/-- w is the base world b0, but for the blocks Mk (which the call may write) and for new blocks; of the blocks L the content is known. -/
structure SH (b0 : World) (Mk : List Nat) (L : Heap) (w : World) : Prop where
  os : w.os = b0.os
  tape : w.tape = b0.tape
  output : w.output = b0.output
  size : b0.heap.size ≤ w.heap.size
  same : ∀ k, k < b0.heap.size → k ∉ Mk → w.heap[k]? = b0.heap[k]?
  own : ∀ p ∈ L, w.heap[p.1]? = some p.2
  key : ∀ p ∈ L, p.1 ∈ Mk ∨ b0.heap.size ≤ p.1
  nd : (L.map Prod.fst).Nodup

theorem SH.lt {b0 : World} {Mk : List Nat} {L : Heap} {w : World} (h : SH b0 Mk L w) {p : Nat × Obj} (hp : p ∈ L) : p.1 < w.heap.size :=
  (Array.getElem?_eq_some_iff.1 (h.own p hp)).1

theorem SH.begin (w : World) : SH w [] [] w :=
  ⟨rfl, rfl, rfl, Nat.le_refl _, fun _ _ _ => rfl, (fun _ h => by cases h), (fun _ h => by cases h), List.nodup_nil⟩

theorem SH.drawn {b0 : World} {Mk : List Nat} {L : Heap} {w : World} (h : SH b0 Mk L w) (n : Nat) : SH b0 Mk L { w with drawn := n } :=
  ⟨h.os, h.tape, h.output, h.size, h.same, h.own, h.key, h.nd⟩

theorem SH.alloc {b0 : World} {Mk : List Nat} {L : Heap} {w : World} (h : SH b0 Mk L w) (o : Obj) (hM : ∀ k ∈ Mk, k < b0.heap.size) :
    SH b0 Mk ((w.heap.size, o) :: L) (w.alloc o) := by
  refine ⟨h.os, h.tape, h.output, ?_, ?_, ?_, ?_, ?_⟩
  · have := h.size; simp; omega
  · intro k hk hM
    rw [Below.heap_alloc w o k (Nat.lt_of_lt_of_le hk h.size)]; exact h.same k hk hM
  · intro p hp
    rcases List.mem_cons.1 hp with rfl | hp
    · show (w.heap.push o)[w.heap.size]? = some o
      simp
    · rw [Below.heap_alloc w o p.1 (h.lt hp)]; exact h.own p hp
  · intro p hp
    rcases List.mem_cons.1 hp with rfl | hp
    · exact .inr h.size
    · exact h.key p hp
  · simp only [List.map_cons, List.nodup_cons]
    refine ⟨fun hm => ?_, h.nd⟩
    obtain ⟨p, hp, he⟩ := List.mem_map.1 hm
    have := h.lt hp
    omega

theorem SH.sub {b0 : World} {Mk : List Nat} {L L' : Heap} {w : World} (h : SH b0 Mk L w) (hs : List.Sublist L' L) : SH b0 Mk L' w :=
  ⟨h.os, h.tape, h.output, h.size, h.same, fun p hp => h.own p (hs.subset hp), fun p hp => h.key p (hs.subset hp), (hs.map _).nodup h.nd⟩

theorem SH.perm {b0 : World} {Mk : List Nat} {L L' : Heap} {w : World} (h : SH b0 Mk L w) (hs : List.Perm L L') : SH b0 Mk L' w :=
  ⟨h.os, h.tape, h.output, h.size, h.same, fun p hp => h.own p (hs.mem_iff.2 hp), fun p hp => h.key p (hs.mem_iff.2 hp), (hs.map _).nodup_iff.1 h.nd⟩

abbrev Ext (w w' : World) : Prop := Below w.heap.size w w'

theorem SH.ext {b0 : World} {Mk : List Nat} {L : Heap} {w w' : World} (h : SH b0 Mk L w) (he : Ext w w') : SH b0 Mk L w' :=
  ⟨he.os.trans h.os, he.tape.trans h.tape, he.output.trans h.output, Nat.le_trans h.size he.size,
   fun k hk hM => (he.block k (Nat.lt_of_lt_of_le hk h.size)).trans (h.same k hk hM),
   fun p hp => (he.block p.1 (h.lt hp)).trans (h.own p hp), h.key, h.nd⟩

/-- New blocks of a callee, with their content. -/
structure Fresh (w w' : World) (B : Heap) : Prop where
  ext : Ext w w'
  own : ∀ p ∈ B, w'.heap[p.1]? = some p.2
  new : ∀ p ∈ B, w.heap.size ≤ p.1
  nd : (B.map Prod.fst).Nodup

theorem SH.fresh {b0 : World} {Mk : List Nat} {L B : Heap} {w w' : World} (h : SH b0 Mk L w) (hf : Fresh w w' B) : SH b0 Mk (B ++ L) w' := by
  have h' := h.ext hf.ext
  refine ⟨h'.os, h'.tape, h'.output, h'.size, h'.same, ?_, ?_, ?_⟩
  · intro p hp
    rcases List.mem_append.1 hp with hp | hp
    · exact hf.own p hp
    · exact h'.own p hp
  · intro p hp
    rcases List.mem_append.1 hp with hp | hp
    · exact .inr (Nat.le_trans h.size (hf.new p hp))
    · exact h'.key p hp
  · rw [List.map_append, List.nodup_append]
    refine ⟨hf.nd, h.nd, fun a ha b hb => ?_⟩
    obtain ⟨p, hp, rfl⟩ := List.mem_map.1 ha
    obtain ⟨q, hq, rfl⟩ := List.mem_map.1 hb
    have h1 := hf.new p hp
    have h2 := h.lt hq
    omega

theorem Fresh.of_ext {w w' : World} (h : Ext w w') : Fresh w w' [] := ⟨h, (fun _ h => by cases h), (fun _ h => by cases h), List.nodup_nil⟩

theorem SH.ext_out {b0 : World} {L : Heap} {w : World} (h : SH b0 [] L w) : Ext b0 w :=
  ⟨h.os, h.tape, h.output, h.size, fun k hk => h.same k hk (by simp)⟩

theorem SH.fresh_out {b0 : World} {L : Heap} {w : World} (h : SH b0 [] L w) : Fresh b0 w L :=
  ⟨h.ext_out, h.own, fun p hp => (h.key p hp).resolve_left (by simp), h.nd⟩

section
variable (P : Program) (rd : Option Nat) (b0 : World) (Mk : List Nat) (N : Nat) (D : List Deferred) (L : Heap) (E : Env)

def J (c : Code) (Q : Exit → Act → World → Prop) : Prop :=
  ∀ a w, Holds N D E a → SH b0 Mk L w → c.wpIn (FW rd) 0 P Q a w

def JX (Q : Exit → Act → World → Prop) (e : Exit) : Prop :=
  ∀ a w, Holds N D E a → SH b0 Mk L w → Q e a w
end

def kSeq (P : Program) (rd : Option Nat) (c : Code) (Q : Exit → Act → World → Prop) : Exit → Act → World → Prop :=
  Exit.then (c.wpIn (FW rd) 0 P Q) Q

def kInv (I : Act → World → Prop) (Q : Exit → Act → World → Prop) : Exit → Act → World → Prop := Exit.then I Q

section rules
variable {P : Program} {rd : Option Nat} {b0 : World} {Mk : List Nat} {N : Nat} {D : List Deferred} {L : Heap} {E : Env} {Q : Exit → Act → World → Prop}

theorem J_seq {x y : Code} (h : J P rd b0 Mk N D L E x (kSeq P rd y Q)) : J P rd b0 Mk N D L E (Code.seq x y) Q :=
  fun a w ha hw => wpIn_seq (h a w ha hw)
theorem J_skip (h : JX b0 Mk N D L E Q .normal) : J P rd b0 Mk N D L E Code.skip Q := fun a w ha hw => wpIn_skip (h a w ha hw)
theorem J_label {l : Nat} (h : JX b0 Mk N D L E Q .normal) : J P rd b0 Mk N D L E (Code.label l) Q := fun a w ha hw => wpIn_label (h a w ha hw)
theorem J_exit {id : Nat} (h : JX b0 Mk N D L E Q (.exit id)) : J P rd b0 Mk N D L E (Code.exit id) Q := fun a w ha hw => wpIn_exit (h a w ha hw)
theorem J_ret (h : JX b0 Mk N D L E Q .ret) : J P rd b0 Mk N D L E Code.ret Q := fun a w ha hw => wpIn_ret (h a w ha hw)
theorem J_block {id : Nat} {c : Code} (h : J P rd b0 Mk N D L E c (Exit.inBlock id Q)) : J P rd b0 Mk N D L E (Code.block id c) Q :=
  fun a w ha hw => wpIn_block (h a w ha hw)
theorem J_true {c : Operand} {x y : Code} (hc : ev E c = some (.bool true)) (h : J P rd b0 Mk N D L E x Q) : J P rd b0 Mk N D L E (Code.cond c x y) Q :=
  fun a w ha hw => wpIn_cond_true (ha.eval hc) (h a w ha hw)
theorem J_false {c : Operand} {x y : Code} (hc : ev E c = some (.bool false)) (h : J P rd b0 Mk N D L E y Q) : J P rd b0 Mk N D L E (Code.cond c x y) Q :=
  fun a w ha hw => wpIn_cond_false (ha.eval hc) (h a w ha hw)
theorem J_cond {c : Operand} {x y : Code} {t : Bool} (hc : ev E c = some (.bool t)) (h1 : t = true → J P rd b0 Mk N D L E x Q)
    (h0 : t = false → J P rd b0 Mk N D L E y Q) : J P rd b0 Mk N D L E (Code.cond c x y) Q := by
  cases t
  · exact J_false hc (h0 rfl)
  · exact J_true hc (h1 rfl)
theorem J_dec {c : Operand} {x y : Code} {p : Prop} [Decidable p] (hc : ev E c = some (.bool (decide p))) (h1 : p → J P rd b0 Mk N D L E x Q)
    (h0 : ¬ p → J P rd b0 Mk N D L E y Q) : J P rd b0 Mk N D L E (Code.cond c x y) Q := by
  by_cases hp : p
  · exact J_true (by rw [hc]; simp [hp]) (h1 hp)
  · exact J_false (by rw [hc]; simp [hp]) (h0 hp)
theorem J_subL {c : Code} (L' : Heap) (hs : List.Sublist L' L) (h : J P rd b0 Mk N D L' E c Q) : J P rd b0 Mk N D L E c Q :=
  fun a w ha hw => h a w ha (hw.sub hs)
theorem JX_subL {e : Exit} (L' : Heap) (hs : List.Sublist L' L) (h : JX b0 Mk N D L' E Q e) : JX b0 Mk N D L E Q e :=
  fun a w ha hw => h a w ha (hw.sub hs)
theorem JX_permL {e : Exit} (L' : Heap) (hs : List.Perm L L') (h : JX b0 Mk N D L' E Q e) : JX b0 Mk N D L E Q e :=
  fun a w ha hw => h a w ha (hw.perm hs)

theorem JX_seq {y : Code} (h : J P rd b0 Mk N D L E y Q) : JX b0 Mk N D L E (kSeq P rd y Q) .normal := h
theorem JX_seq_exit {y : Code} {id : Nat} (h : JX b0 Mk N D L E Q (.exit id)) : JX b0 Mk N D L E (kSeq P rd y Q) (.exit id) := h
theorem JX_seq_ret {y : Code} (h : JX b0 Mk N D L E Q .ret) : JX b0 Mk N D L E (kSeq P rd y Q) .ret := h
theorem JX_block {id : Nat} (h : JX b0 Mk N D L E Q .normal) : JX b0 Mk N D L E (Exit.inBlock id Q) .normal := h
theorem JX_block_ret {id : Nat} (h : JX b0 Mk N D L E Q .ret) : JX b0 Mk N D L E (Exit.inBlock id Q) .ret := h
theorem JX_block_hit {id : Nat} (h : JX b0 Mk N D L E Q .normal) : JX b0 Mk N D L E (Exit.inBlock id Q) (.exit id) :=
  fun a w ha hw => by simp only [Exit.inBlock, if_true]; exact h a w ha hw
theorem JX_block_miss {id id' : Nat} (hne : Nat.beq id' id = false) (h : JX b0 Mk N D L E Q (.exit id')) : JX b0 Mk N D L E (Exit.inBlock id Q) (.exit id') :=
  fun a w ha hw => by
    have : id' ≠ id := fun e => by subst e; simp at hne
    simp only [Exit.inBlock, this, if_false]; exact h a w ha hw
theorem JX_inv_exit {I : Act → World → Prop} {id : Nat} (h : JX b0 Mk N D L E Q (.exit id)) : JX b0 Mk N D L E (kInv I Q) (.exit id) := h
theorem JX_inv_ret {I : Act → World → Prop} (h : JX b0 Mk N D L E Q .ret) : JX b0 Mk N D L E (kInv I Q) .ret := h

def Round {σ : Type} (b0 : World) (Mk : List Nat) (N : Nat) (D : List Deferred) (Ls : σ → Heap) (Es : σ → Env) (I : σ → Prop) (m : σ → Nat) (n : Nat) (a : Act) (w : World) : Prop :=
  ∃ s, I s ∧ m s < n ∧ Holds N D (Es s) a ∧ SH b0 Mk (Ls s) w

theorem J_loop {σ : Type} {c : Code} (Ls : σ → Heap) (Es : σ → Env) (I : σ → Prop) (m : σ → Nat) (s0 : σ) (hI : I s0) (hE : SubE E (Es s0)) (hL : List.Perm L (Ls s0))
    (h : ∀ s, I s → J P rd b0 Mk N D (Ls s) (Es s) c (kInv (Round b0 Mk N D Ls Es I m (m s)) Q)) : J P rd b0 Mk N D L E (Code.loop c) Q := by
  intro a w ha hw b k cs hro hb hr
  have key : ∀ (fuel : Nat) (a : Act) (w : World) (s : σ), m s < fuel → I s → Holds N D (Es s) a → SH b0 Mk (Ls s) w →
      ∃ e a' w', Q e a' w' ∧ ArrivesIn (Machine.fenced P (FW rd)) P (lone (b.atR a (.code c :: .inLoop c :: k)) cs w) b k cs e a' w' := by
    intro fuel
    induction fuel with
    | zero => intro a w s hm; omega
    | succ fuel ih =>
      intro a w s hm hI ha hw
      obtain ⟨e, a₁, w₁, hq, harr⟩ := h s hI a w ha hw b (.inLoop c :: k) cs hro hb hr
      cases e with
      | normal =>
        obtain ⟨s', hI', hm', ha', hw'⟩ := hq
        obtain ⟨e₂, a₂, w₂, hq₂, harr₂⟩ := ih a₁ w₁ s' (by omega) hI' ha' hw'
        exact ⟨e₂, a₂, w₂, hq₂, .of_steps (StepsIn.trans harr (.one (fenced_calm hb hr rfl) stepR_inLoop)) harr₂⟩
      | exit id => exact ⟨_, a₁, w₁, hq, .pass (x := .inLoop c) rfl (fun _ _ => .inl (by simp)) harr⟩
      | goto l => exact ⟨_, a₁, w₁, hq, .pass (x := .inLoop c) rfl (fun _ _ => .inl (by simp)) harr⟩
      | ret => exact ⟨_, a₁, w₁, hq, .pass (x := .inLoop c) rfl (fun _ _ => .inl (by simp)) harr⟩
      | panic ch => exact ⟨_, a₁, w₁, hq, .pass (x := .inLoop c) rfl (fun _ _ => .inl (by simp)) harr⟩
      | outgrown => exact ⟨_, a₁, w₁, hq, .pass (x := .inLoop c) rfl (fun _ _ => .inl (by simp)) harr⟩
  obtain ⟨e, a', w', hq, harr⟩ := key (m s0 + 1) a w s0 (by omega) hI (ha.sub hE) (hw.perm hL)
  exact ⟨e, a', w', hq, .of_steps (.one (fenced_calm hb hr rfl) stepR_loop) harr⟩

theorem JX_inv {σ : Type} {Ls : σ → Heap} {Es : σ → Env} {I : σ → Prop} {m : σ → Nat} {n : Nat} (s : σ) (hI : I s) (hm : m s < n) (hE : SubE E (Es s)) (hL : List.Perm L (Ls s)) :
    JX b0 Mk N D L E (kInv (Round b0 Mk N D Ls Es I m n) Q) .normal :=
  fun _ _ ha hw => ⟨s, hI, hm, ha.sub hE, hw.perm hL⟩
end rules
end Go.Proofs.YtopjaeoklkpcpaaGreatDoor.Jd

namespace Go.Proofs.YtopjaeoklkpcpaaGreatDoor.Jd
open Go.RowKit (Below)
set_option linter.unusedVariables false
set_option linter.unusedSimpArgs false

def nQ (T : Act → World → Prop) : Exit → Act → World → Prop
  | .normal, a, w => T a w
  | _, _, _ => False

theorem wpIn_nQ {P : Program} {rd : Option Nat} {c : Code} {Q : Exit → Act → World → Prop} {a : Act} {w : World} (h : c.wpIn (FW rd) 0 P (nQ (Q .normal)) a w) : c.wpIn (FW rd) 0 P Q a w :=
  wpIn_mono h fun e a w hq => by cases e <;> first | exact hq | exact hq.elim

section
variable {P : Program} {rd : Option Nat} {ops : Array Oper} {T : Act → World → Prop}

def wpO (P : Program) (rd : Option Nat) (ops : Array Oper) (i : Nat) (K : Act → World → Prop) (a : Act) (w : World) : Prop :=
  match ops[i]? with
  | none => K a w
  | some o => if Region.wanted o (yielded ops a.tmps) then o.wpIn (FW rd) 0 P a w K (nQ fun _ _ => False) else K (a.put o.dst undef) w

theorem wpIn_anyQ {o : Oper} {a : Act} {w : World} {K : Act → World → Prop} {Q : Exit → Act → World → Prop} (h : o.wpIn (FW rd) 0 P a w K (nQ fun _ _ => False)) : o.wpIn (FW rd) 0 P a w K Q := by
  unfold Oper.wpIn at *
  refine ⟨h.1, ?_⟩
  have hh := h.2
  generalize (o.semAt (FW rd).round a.eval).run P w = r at *
  cases r with
  | ok x w' =>
    cases x <;> simp only [Oper.uponIn] at hh ⊢ <;>
      first
        | exact hh
        | exact ⟨hh.1, CallsIn.mono hh.2 (fun e w'' he => by cases e <;> first | exact he | exact he.elim | (obtain ⟨_, _, he⟩ := he; exact he.elim))⟩
        | exact ⟨hh.1, RoundIn.mono hh.2 (fun e w'' he => by cases e <;> first | exact he | exact he.elim | (obtain ⟨_, _, he⟩ := he; exact he.elim))⟩
  | halt x w' => cases x <;> simp only [Oper.uponIn] at hh ⊢ <;> exact hh.elim

theorem wpO_mono {i : Nat} {a : Act} {w : World} {K K' : Act → World → Prop} (h : ∀ a w, K a w → K' a w) (hh : wpO P rd ops i K a w) : wpO P rd ops i K' a w := by
  unfold wpO at *
  split
  · exact h _ _ (by simpa [*] using hh)
  · rename_i o ho
    simp only [ho] at hh
    split
    · rename_i hw; simp only [hw, if_true] at hh; exact Oper.wpIn_mono h hh
    · rename_i hw; simp only [hw] at hh; exact h _ _ hh

theorem wpOpIn_of_wpO {i : Nat} {a : Act} {w : World} {K : Act → World → Prop} {Q : Exit → Act → World → Prop} (hh : wpO P rd ops i K a w) : wpOpIn (FW rd) 0 P ops Q i K a w := by
  unfold wpO at hh
  unfold wpOpIn
  split
  · rename_i ho; simpa [ho] using hh
  · rename_i o ho
    simp only [ho] at hh
    split
    · rename_i hw; simp only [hw, if_true] at hh; exact wpIn_anyQ hh
    · rename_i hw; simp only [hw] at hh; exact ⟨fun _ _ => trivial, hh⟩

def wpL (P : Program) (rd : Option Nat) (ops : Array Oper) (T : Act → World → Prop) : List Oper → Act → World → Prop
  | [], a, w => T a w
  | o :: r, a, w => if Region.wanted o (yielded ops a.tmps) then o.wpIn (FW rd) 0 P a w (wpL P rd ops T r) (nQ fun _ _ => False) else wpL P rd ops T r (a.put o.dst undef) w

theorem wpOpsIn_of_wpL : ∀ (l : List Oper) (k : Nat), (∀ j, l[j]? = ops[k + j]?) → ∀ a w, wpL P rd ops T l a w → wpOpsIn (FW rd) 0 P ops (nQ T) (List.range' k l.length) a w
  | [], _, _, _, _, h => h
  | o :: l, k, hl, a, w, h => by
    have h0 : ops[k]? = some o := by simpa using (hl 0).symm
    have ih := wpOpsIn_of_wpL l (k + 1) (fun j => by have := hl (j + 1); simpa [Nat.add_assoc, Nat.add_comm 1 j] using this)
    simp only [List.length_cons, List.range'_succ, wpOpsIn_cons]
    refine wpOpIn_of_wpO ?_
    unfold wpO
    simp only [h0]
    unfold wpL at h
    split
    · rename_i hw; rw [if_pos hw] at h; exact Oper.wpIn_mono ih h
    · rename_i hw; rw [if_neg hw] at h; exact ih _ _ h

theorem wpIn_region_lex {id : Nat} {l : List Oper} {Q : Exit → Act → World → Prop} {a : Act} {w : World} (h : wpL P rd l.toArray (Q .normal) l a w) : (Code.region id l.toArray false).wpIn (FW rd) 0 P Q a w := by
  refine wpIn_nQ (wpIn_region ?_)
  rw [List.range_eq_range', show l.toArray.size = l.length by simp]
  exact wpOpsIn_of_wpL l 0 (by simp) a w h

def YieldsS (P : Program) (ops : Array Oper) (S : World → Prop) (o : Oper) (v : Value) (a : Act) : Prop :=
  (Region.wanted o (yielded ops a.tmps) = true ∧ ∀ w, S w → (execOp a.eval o).run P w = .ok (.value v) w) ∨
  (Region.wanted o (yielded ops a.tmps) = false ∧ v = undef)

def notDefer (o : Oper) : Bool := match o.op with | .defer _ => false | .select .. => false | _ => true
theorem notDefer_defer {o : Oper} (h : notDefer o = true) : ∀ c, o.op ≠ .defer c := fun c e => by simp [notDefer, e] at h
theorem notDefer_select {o : Oper} (h : notDefer o = true) : ∀ cs b, o.op ≠ .select cs b := fun c b e => by simp [notDefer, e] at h

theorem wpIn_value {o : Oper} {a : Act} {w w' : World} {v : Value} {K : Act → World → Prop} {Q : Exit → Act → World → Prop} (hd : notDefer o = true) (h : (execOp a.eval o).run P w = .ok (.value v) w') (hK : K (a.put o.dst v) w') :
    o.wpIn (FW rd) 0 P a w K Q := by
  refine ⟨fun _ _ => trivial, ?_⟩
  rw [Oper.semAt_eq _ _ _ (notDefer_defer hd), h]
  exact hK

theorem YieldsS.wpO {S : World → Prop} {i : Nat} {o : Oper} {v : Value} {a : Act} (hi : ops[i]? = some o) (hd : notDefer o = true) (hy : YieldsS P ops S o v a)
    {K : Act → World → Prop} {w : World} (hS : S w) (h : K (a.put o.dst v) w) : Jd.wpO P rd ops i K a w := by
  unfold Jd.wpO
  simp only [hi]
  rcases hy with ⟨hw, hv⟩ | ⟨hw, rfl⟩
  · simp only [hw, if_true]; exact wpIn_value hd (hv w hS) h
  · simp only [hw, Bool.false_eq_true, if_false]; exact h

theorem YieldsS.of_same {S : World → Prop} {o : Oper} {v : Value} {a a' : Act} (hy : YieldsS P ops S o v a) (he : execOp a'.eval o = execOp a.eval o)
    (hw : Region.wanted o (yielded ops a'.tmps) = Region.wanted o (yielded ops a.tmps)) : YieldsS P ops S o v a' := by
  unfold YieldsS at *
  rw [he, hw]
  exact hy

theorem YieldsS.mono {S S' : World → Prop} {o : Oper} {v : Value} {a : Act} (hy : YieldsS P ops S o v a) (h : ∀ w, S' w → S w) : YieldsS P ops S' o v a :=
  hy.imp (fun ⟨a, b⟩ => ⟨a, fun w hw => b w (h w hw)⟩) id

theorem wpO_put {S : World → Prop} {j : Nat} {oi oj : Oper} {v : Value} (hj : ops[j]? = some oj) (hap : oi.apart ops oj = true)
    (hdi : notDefer oi = true) (hdj : notDefer oj = true) {K : Act → World → Prop} {a : Act} {w : World}
    (hy : YieldsS P ops S oi v a) (h : wpO P rd ops j K (a.put oi.dst v) w) :
    wpO P rd ops j (fun a' w' => YieldsS P ops S oi v a' ∧ K (a'.put oi.dst v) w') a w := by
  obtain ⟨h1, h2, h3⟩ := Oper.apart_spec hap
  have hsi := notDefer_select hdi
  have hsj := notDefer_select hdj
  have keep : ∀ (a : Act), YieldsS P ops S oi v a → ∀ u, YieldsS P ops S oi v (a.put oj.dst u) := fun a hy u =>
    hy.of_same (execOp_put oi hsi a oj.dst u h3) (wanted_put oi a oj.dst u h3)
  have keepD : ∀ d, YieldsS P ops S oi v { a with defers := d :: a.defers } := fun d => hy.of_same rfl rfl
  unfold wpO at *
  simp only [hj] at *
  rw [wanted_put oj a oi.dst v h1] at h
  split
  · rename_i hw
    simp only [hw, if_true] at h
    unfold Oper.wpIn at *
    refine ⟨fun _ _ => trivial, ?_⟩
    have h := h.2
    rw [Oper.semAt_eq _ _ _ (notDefer_defer hdj)] at *
    rw [execOp_put oj hsj a oi.dst v h1] at h
    generalize (execOp a.eval oj).run P w = r at *
    cases r with
    | ok n w' =>
      cases n <;> simp only [Oper.uponIn] at h ⊢
      case value u => exact ⟨keep a hy u, by rw [← Act.put_comm a v u h2]; exact h⟩
      case skip => exact ⟨keep a hy _, by rw [← Act.put_comm a v undef h2]; exact h⟩
      case defer d =>
        refine ⟨keep _ (keepD d) _, ?_⟩
        rw [← Act.put_comm _ v undef h2, ← Act.put_defers]
        exact h
      case enter f args =>
        refine ⟨h.1, CallsIn.mono h.2 fun e w'' he => ?_⟩
        cases e with
        | returned u => exact ⟨keep a hy u, by rw [← Act.put_comm a v u h2]; exact he⟩
        | panicked c => exact he.elim
        | outgrown => exact he
      case row row args => exact ⟨h.1, RowsIn.mono h.2 fun u w'' he => ⟨keep a hy u, by rw [← Act.put_comm a v u h2]; exact he⟩⟩
      case round l f tmps assign body =>
        refine ⟨h.1, RoundIn.mono h.2 fun e w'' he => ?_⟩
        cases e with
        | returned u => exact ⟨keep a hy u, by rw [← Act.put_comm a v u h2]; exact he⟩
        | panicked c => exact he.elim
        | outgrown => exact he
    | halt x w' => cases x <;> simp only [Oper.uponIn] at h ⊢ <;> exact h.elim
  · rename_i hw
    simp only [hw] at h
    exact ⟨keep a hy _, by rw [← Act.put_comm a v undef h2]; exact h⟩

def wpG (P : Program) (rd : Option Nat) (ops : Array Oper) (n : Nat) (Fin : Array Bool → Act → World → Prop) : Nat → (World → Prop) → Array Bool → Act → World → Prop
  | 0, _, listed, a, w => Fin listed a w
  | f + 1, S, listed, a, w =>
    Region.ready .any ops listed ≠ [] ∧ ∀ i ∈ Region.ready .any ops listed, i < n ∧
      wpO P rd ops i (fun a' w' => ∃ S' : World → Prop, (∀ x, S' x → S x) ∧ S' w' ∧ wpG P rd ops n Fin f S' (listed.setIfInBounds i true) a' w') a w

theorem wpG_first {n i : Nat} {oi : Oper} {v : Value} {Fin : Array Bool → Act → World → Prop} (hi : ops[i]? = some oi) (hnd : ∀ (j : Nat) (o : Oper), ops[j]? = some o → notDefer o = true)
    (htl : ∀ listed, HeadInv .any ops n listed → ∀ i, i < n → listed.getD i true = false → ∀ j ∈ Region.ready .any ops listed, j < n) (hin : i < n)
    (hdone : ∀ listed a w, Fin listed a w → ∀ j ∈ Region.ready .any ops listed, n ≤ j) :
    ∀ (f : Nat) (S : World → Prop) (listed : Array Bool) (a : Act) (w : World), HeadInv .any ops n listed →
      (∀ (j : Nat) (oj : Oper), ops[j]? = some oj → j ≠ i → listed.getD j true = false → (∀ e ∈ oj.after, Region.binds .any e = true → e.on ≠ i) → oi.apart ops oj = true) →
      i ∈ Region.ready .any ops listed → YieldsS P ops S oi v a → S w →
      wpG P rd ops n Fin f S (listed.setIfInBounds i true) (a.put oi.dst v) w → wpG P rd ops n Fin (f + 1) S listed a w := by
  intro f
  induction f with
  | zero =>
    intro S listed a w inv _ hr hy hS H
    have hun := (mem_ready.1 hr).1
    refine ⟨fun h => (by rw [h] at hr; cases hr), fun j hj => ?_⟩
    have hjn := htl listed inv i hin hun j hj
    refine ⟨hjn, ?_⟩
    by_cases hji : j = i
    · subst hji; exact hy.wpO hi (hnd _ _ hi) hS ⟨S, fun _ h => h, hS, H⟩
    · have := hdone _ _ _ H j (ready_mono hj hji)
      omega
  | succ f ih =>
    intro S listed a w inv hfree hr hy hS H
    have hun := (mem_ready.1 hr).1
    refine ⟨fun h => (by rw [h] at hr; cases hr), fun j hj => ?_⟩
    have hjn := htl listed inv i hin hun j hj
    refine ⟨hjn, ?_⟩
    by_cases hji : j = i
    · subst hji; exact hy.wpO hi (hnd _ _ hi) hS ⟨S, fun _ h => h, hS, H⟩
    · have h1 := (H.2 j (ready_mono hj hji)).2
      obtain ⟨hjun, oj, hoj, hall⟩ := mem_ready.1 hj
      have hnot : ∀ e ∈ oj.after, Region.binds .any e = true → e.on ≠ i := fun e he hb heq => by
        have h1 := hall e he hb
        rw [heq, getD_both hun] at h1
        cases h1
      have h2 := wpO_put hoj (hfree j oj hoj hji hjun hnot) (hnd _ _ hi) (hnd _ _ hoj) hy h1
      have hfree' : ∀ k ok, ops[k]? = some ok → k ≠ i → (listed.setIfInBounds j true).getD k true = false →
          (∀ e ∈ ok.after, Region.binds .any e = true → e.on ≠ i) → oi.apart ops ok = true := fun k ok hk hki hun hno => by
        refine hfree k ok hk hki ?_ hno
        by_cases hjk : j = k
        · subst hjk; exact hjun
        · rw [getD_set_ne true hjk] at hun; exact hun
      refine wpO_mono (fun a' w' h3 => ?_) h2
      obtain ⟨hy', S', hSS, hS', h4⟩ := h3
      refine ⟨S', hSS, hS', ih S' (listed.setIfInBounds j true) a' w' (inv.set hj hjn) hfree' (ready_mono hr (Ne.symm hji)) (hy'.mono hSS) hS' ?_⟩
      rw [Array.setIfInBounds_comm _ _ hji]
      exact h4

theorem wpAnyIn_of_wpG {n g : Nat} {Fin : Array Bool → Act → World → Prop} {Q : Exit → Act → World → Prop} (hF : ∀ listed a w, Fin listed a w → wpAnyIn (FW rd) 0 P .any ops Q g listed a w) :
    ∀ (f : Nat) (S : World → Prop) (listed : Array Bool) (a : Act) (w : World), wpG P rd ops n Fin f S listed a w → wpAnyIn (FW rd) 0 P .any ops Q (f + g) listed a w
  | 0, _, listed, a, w, h => by rw [Nat.zero_add]; exact hF _ _ _ h
  | f + 1, S, listed, a, w, h => by
    rw [show f + 1 + g = (f + g) + 1 by omega]
    exact ⟨fun h0 => absurd h0 h.1, fun i hi => wpOpIn_mono (fun a' w' h' => by obtain ⟨S', _, _, h'⟩ := h'; exact wpAnyIn_of_wpG hF f S' _ a' w' h') (wpOpIn_of_wpO (h.2 i hi).2)⟩

def wpS (P : Program) (rd : Option Nat) (ops : Array Oper) (T : Act → World → Prop) : (World → Prop) → List (Bool × Oper) → Act → World → Prop
  | _, [], a, w => T a w
  | S, (true, o) :: r, a, w => ∃ v, YieldsS P ops S o v a ∧ wpS P rd ops T S r (a.put o.dst v) w
  | S, (false, o) :: r, a, w =>
    if Region.wanted o (yielded ops a.tmps) then
      o.wpIn (FW rd) 0 P a w (fun a' w' => ∃ S' : World → Prop, (∀ x, S' x → S x) ∧ S' w' ∧ wpS P rd ops T S' r a' w') (nQ fun _ _ => False)
    else wpS P rd ops T S r (a.put o.dst undef) w

def planB (ops : Array Oper) (g n : Nat) : List (Bool × Nat) → Array Bool → Bool
  | [], listed => Region.seqB .any ops g n listed
  | (true, i) :: r, listed => Nat.blt i n && (Region.ready .any ops listed).contains i && Region.free .any ops listed i && planB ops g n r (listed.setIfInBounds i true)
  | (false, i) :: r, listed => Nat.blt i n && decide (Region.ready .any ops listed = [i]) && planB ops g n r (listed.setIfInBounds i true)

def opsOf (ops : Array Oper) (l : List (Bool × Nat)) : List (Bool × Oper) := l.map fun p => (p.1, ops.getD p.2 default)

theorem wpG_plan {n g : Nat} (hnd : ∀ (j : Nat) (o : Oper), ops[j]? = some o → notDefer o = true)
    (htl : ∀ listed, HeadInv .any ops n listed → ∀ i, i < n → listed.getD i true = false → ∀ j ∈ Region.ready .any ops listed, j < n) (hn : n ≤ ops.size) :
    ∀ (l : List (Bool × Nat)) (S : World → Prop) (listed : Array Bool) (a : Act) (w : World), HeadInv .any ops n listed → planB ops g n l listed = true → S w →
      wpS P rd ops T S (opsOf ops l) a w → wpG P rd ops n (fun listed' a' w' => Region.seqB .any ops g n listed' = true ∧ T a' w') l.length S listed a w
  | [], S, listed, a, w, _, hB, _, h => ⟨hB, h⟩
  | (true, i) :: l, S, listed, a, w, inv, hB, hS, h => by
    simp only [planB, Bool.and_eq_true, Nat.blt_eq] at hB
    obtain ⟨⟨⟨hin, hr⟩, hf⟩, hB'⟩ := hB
    have hlt : i < ops.size := by omega
    have hi : ops[i]? = some ops[i] := Array.getElem?_eq_getElem hlt
    have hg : ops.getD i default = ops[i] := by simp [hlt]
    simp only [opsOf, List.map_cons, hg, wpS] at h
    obtain ⟨v, hy, h'⟩ := h
    have hr' : i ∈ Region.ready .any ops listed := by simpa using hr
    exact wpG_first hi hnd htl hin (fun listed' a' w' hF => seqB_ready hF.1) l.length S listed a w inv (Region.free_spec hi hf) hr' hy hS
      (wpG_plan hnd htl hn l S _ _ w (inv.set hr' hin) hB' hS h')
  | (false, i) :: l, S, listed, a, w, inv, hB, hS, h => by
    simp only [planB, Bool.and_eq_true, Nat.blt_eq, decide_eq_true_eq] at hB
    obtain ⟨⟨hin, hr⟩, hB'⟩ := hB
    have hlt : i < ops.size := by omega
    have hi : ops[i]? = some ops[i] := Array.getElem?_eq_getElem hlt
    have hg : ops.getD i default = ops[i] := by simp [hlt]
    simp only [opsOf, List.map_cons, hg, wpS] at h
    have hr' : i ∈ Region.ready .any ops listed := by rw [hr]; simp
    refine ⟨by rw [hr]; simp, fun j hj => ?_⟩
    rw [hr] at hj
    have hji : j = i := by simpa using hj
    subst hji
    refine ⟨hin, ?_⟩
    unfold wpO
    simp only [hi]
    split
    · rename_i hw
      rw [if_pos hw] at h
      refine Oper.wpIn_mono (fun a' w' h' => ?_) h
      obtain ⟨S', hSS, hS', h'⟩ := h'
      exact ⟨S', hSS, hS', wpG_plan hnd htl hn l S' _ a' w' (inv.set hr' hin) hB' hS' h'⟩
    · rename_i hw
      rw [if_neg hw] at h
      exact ⟨S, fun _ h => h, hS, wpG_plan hnd htl hn l S _ _ w (inv.set hr' hin) hB' hS h⟩

theorem wpAnyIn_of_seq {T : Act → World → Prop} : ∀ (l : List Oper) (k : Nat) (listed : Array Bool) (a : Act) (w : World), (∀ j, l[j]? = ops[k + j]?) →
    Region.seqB .any ops l.length k listed = true → wpL P rd ops T l a w → wpAnyIn (FW rd) 0 P .any ops (nQ T) l.length listed a w
  | [], _, _, _, _, _, hB, h => ⟨by simpa [Region.seqB] using hB, h⟩
  | o :: l, k, listed, a, w, hl, hB, h => by
    have h0 : ops[k]? = some o := by simpa using (hl 0).symm
    simp only [List.length_cons, Region.seqB, Bool.and_eq_true, decide_eq_true_eq] at hB
    refine ⟨fun h1 => (by rw [hB.1] at h1; cases h1), fun i hi => ?_⟩
    rw [hB.1] at hi
    have hik : i = k := by simpa using hi
    subst hik
    have hw : wpO P rd ops i (wpL P rd ops T l) a w := by unfold wpO; simp only [h0]; exact h
    exact wpOpIn_mono (fun a' w' h' => wpAnyIn_of_seq l (i + 1) _ a' w' (fun j => by have := hl (j + 1); simpa [Nat.add_assoc, Nat.add_comm 1 j] using this) hB.2 h') (wpOpIn_of_wpO hw)

def planOk (l : List Oper) (n : Nat) (pl : List (Bool × Nat)) : Bool :=
  Nat.ble n l.length && Nat.beq pl.length n && l.all notDefer && (Nat.beq n l.length || (Region.sinkB .any l.toArray n && Region.chainB .any l.toArray n)) &&
  planB l.toArray (l.length - n) n pl (Array.replicate l.length false)

theorem wpIn_region_plan {id : Nat} {l : List Oper} {Q : Exit → Act → World → Prop} {a : Act} {w : World} (hm : P.follows .mixedOrders = true) (n : Nat) (pl : List (Bool × Nat))
    (hB : planOk l n pl = true) (S : World → Prop) (hS : S { w with drawn := w.drawn + 1 })
    (h : wpS P rd l.toArray (fun a' w' => wpL P rd l.toArray (Q .normal) (l.drop n) a' w') S (opsOf l.toArray pl) a { w with drawn := w.drawn + 1 }) :
    (Code.region id l.toArray true).wpIn (FW rd) 0 P Q a w := by
  simp only [planOk, Bool.and_eq_true, Nat.ble_eq, Nat.beq_eq] at hB
  obtain ⟨⟨⟨⟨hn, hlen⟩, hnd⟩, htl⟩, hpl⟩ := hB
  have hnd' : ∀ j o, l.toArray[j]? = some o → notDefer o = true := fun j o ho => by
    have : o ∈ l := by simpa using Array.mem_of_getElem? ho
    exact List.all_eq_true.1 hnd o this
  have inv0 : HeadInv .any l.toArray n (Array.replicate l.length false) :=
    ⟨by simp, fun j oj _ hl => (by rw [getD_replicate_false] at hl; cases hl), fun t _ ht => getD_in (by simpa using ht) (getD_replicate_false _ _)⟩
  have htail : ∀ listed, HeadInv .any l.toArray n listed → ∀ i, i < n → listed.getD i true = false → ∀ j ∈ Region.ready .any l.toArray listed, j < n := by
    intro listed inv i hin hun j hj
    rw [Bool.or_eq_true] at htl
    rcases htl with htl | htl
    · have : n = l.length := by simpa using htl
      obtain ⟨_, oj, hoj, _⟩ := mem_ready.1 hj
      have := (Array.getElem?_eq_some_iff.1 hoj).1
      simp at this
      omega
    · simp only [Bool.and_eq_true] at htl
      rcases Nat.lt_or_ge j n with h' | h'
      · exact h'
      · rcases Nat.lt_or_ge n l.length with h2 | h2
        · exact absurd hj (tail_waits htl.1 htl.2 (by simpa using h2) inv _ i rfl hin hun j h')
        · obtain ⟨_, oj, hoj, _⟩ := mem_ready.1 hj
          have := (Array.getElem?_eq_some_iff.1 hoj).1
          simp at this
          omega
  have H := wpG_plan (P := P) (rd := rd) (g := l.length - n) hnd' htail (by simpa using hn) pl S (Array.replicate l.length false) a _ inv0 hpl hS h
  rw [hlen] at H
  refine wpIn_nQ (wpIn_region_any hm ?_)
  have := wpAnyIn_of_wpG (Q := nQ (Q .normal)) (g := l.length - n) (fun listed a' w' hF => by
    have h1 := wpAnyIn_of_seq (P := P) (rd := rd) (ops := l.toArray) (l.drop n) n listed a' w' (fun j => by simp [List.getElem?_drop]) (by rw [List.length_drop]; exact hF.1) hF.2
    rwa [List.length_drop] at h1) _ _ _ _ _ H
  rw [show n + (l.length - n) = l.length by omega] at this
  simpa using this
end
end Go.Proofs.YtopjaeoklkpcpaaGreatDoor.Jd

namespace Go.Proofs.YtopjaeoklkpcpaaGreatDoor.Jd
open Go.RowKit (Below)
set_option linter.unusedVariables false
set_option linter.unusedSimpArgs false

def mkO (op : Op) (ty : TypeId) : Oper := { dst := none, op := op, type := ty, pos := "", after := #[], guard := none }

theorem execOp_mkO (ρ : Operand → Value) (dst : Option Tmp) (op : Op) (ty : TypeId) (pos : String) (after : Array Edge) (guard : Option (Nat × Bool)) :
    execOp ρ { dst := dst, op := op, type := ty, pos := pos, after := after, guard := guard } = execOp ρ (mkO op ty) := by
  cases op <;> rfl

def RunQ (P : Program) (N : Nat) (D : List Deferred) (b0 : World) (Mk : List Nat) (L : Heap) (E : Env) (op : Op) (ty : TypeId) (v : Value) : Prop :=
  ∀ a w, Holds N D E a → SH b0 Mk L w → (execOp a.eval (mkO op ty)).run P w = .ok (.value v) w

def RunA (P : Program) (N : Nat) (D : List Deferred) (b0 : World) (Mk : List Nat) (L : Heap) (E : Env) (op : Op) (ty : TypeId) (o : Obj) (v : Nat → Value) : Prop :=
  ∀ a w, Holds N D E a → SH b0 Mk L w → (execOp a.eval (mkO op ty)).run P w = .ok (.value (v w.heap.size)) (w.alloc o)

def notDeferOp : Op → Bool
  | .defer _ => false
  | .select .. => false
  | _ => true

theorem notDefer_mk {dst : Option Tmp} {op : Op} {ty : TypeId} {pos : String} {after : Array Edge} {guard : Option (Nat × Bool)} (h : notDeferOp op = true) :
    notDefer { dst := dst, op := op, type := ty, pos := pos, after := after, guard := guard } = true := by
  cases op <;> first | rfl | (simp [notDeferOp] at h)

section judgements
variable (P : Program) (rd : Option Nat) (b0 : World) (Mk : List Nat) (N : Nat) (D : List Deferred) (ops : Array Oper) (L V : Heap) (E : Env)

def JL (l : List Oper) (T : Act → World → Prop) : Prop := ∀ a w, Holds N D E a → SH b0 Mk L w → wpL P rd ops T l a w

def JD (l : List (Bool × Oper)) (T : Act → World → Prop) : Prop := ∀ a w, Holds N D E a → SH b0 Mk (V ++ L) w → wpS P rd ops T (SH b0 Mk L) l a w
end judgements

def wantB (v : Value) (b : Bool) : Bool := match v with | .bool c => c == b | _ => false

section steps
variable {P : Program} {rd : Option Nat} {b0 : World} {Mk : List Nat} {N : Nat} {D : List Deferred} {ops : Array Oper} {L V : Heap} {E : Env} {Q : Exit → Act → World → Prop} {T : Act → World → Prop}

theorem SH.right {w : World} (h : SH b0 Mk (V ++ L) w) : SH b0 Mk L w := h.sub (List.sublist_append_right V L)

theorem J_reg {id : Nat} {l : List Oper} (h : JL P rd b0 Mk N D l.toArray L E l (Q .normal)) : J P rd b0 Mk N D L E (Code.region id l.toArray false) Q :=
  fun a w ha hw => wpIn_region_lex (h a w ha hw)

theorem JL_nil (h : JX b0 Mk N D L E Q .normal) : JL P rd b0 Mk N D ops L E [] (Q .normal) := fun a w ha hw => h a w ha hw

theorem J_plan {id : Nat} {l : List Oper} (hm : P.follows .mixedOrders = true) (n : Nat) (pl : List (Bool × Nat)) (hB : planOk l n pl = true)
    (h : JD P rd b0 Mk N D l.toArray L [] E (opsOf l.toArray pl) (fun a w => wpL P rd l.toArray (Q .normal) (l.drop n) a w)) : J P rd b0 Mk N D L E (Code.region id l.toArray true) Q :=
  fun a w ha hw => wpIn_region_plan hm n pl hB (SH b0 Mk L) (hw.drawn _) (h a _ ha (hw.drawn _))

theorem J_planV {id : Nat} {l : List Oper} (L' V : Heap) (hL : List.Perm L (V ++ L')) (hm : P.follows .mixedOrders = true) (n : Nat) (pl : List (Bool × Nat)) (hB : planOk l n pl = true)
    (h : JD P rd b0 Mk N D l.toArray L' V E (opsOf l.toArray pl) (fun a w => wpL P rd l.toArray (Q .normal) (l.drop n) a w)) : J P rd b0 Mk N D L E (Code.region id l.toArray true) Q :=
  fun a w ha hw => wpIn_region_plan hm n pl hB (SH b0 Mk L') ((hw.perm hL).right.drawn _) (h a _ ha ((hw.perm hL).drawn _))

theorem JD_nil {l : List Oper} (h : JL P rd b0 Mk N D ops (V ++ L) E l T) : JD P rd b0 Mk N D ops L V E [] (fun a w => wpL P rd ops T l a w) := fun a w ha hw => h a w ha hw

variable {op : Op} {ty : TypeId} {pos : String} {after : Array Edge} {v : Value} {d : Nat}

theorem JL_q {l : List Oper} (h : RunQ P N D b0 Mk L E op ty v) (hn : notDeferOp op = true := by rfl) (hd : Nat.blt d N = true := by rfl) (k : JL P rd b0 Mk N D ops L ((d, v) :: E) l T) :
    JL P rd b0 Mk N D ops L E ({ dst := some d, op := op, type := ty, pos := pos, after := after, guard := none } :: l) T := by
  intro a w ha hw
  unfold wpL
  rw [if_pos (by rfl)]
  refine wpIn_value (notDefer_mk hn) (by rw [execOp_mkO]; exact h a w ha hw) (k _ _ (ha.put hd v) hw)

theorem yielded_of {a : Act} {g t : Nat} {u : Value} (ha : Holds N D E a) (hg : (ops[g]?).bind (·.dst) = some t) (hu : look E t = some u) (ht : Nat.blt t N = true) (b : Bool) : (yielded ops a.tmps g == some b) = wantB u b := by
  have h1 := ha.val t u hu
  have hlt : t < a.tmps.size := by rw [ha.size]; simpa [Nat.blt_eq] using ht
  have h2 : a.tmps[t]? = some u := by
    rw [Array.getElem?_eq_getElem hlt]
    simp [hlt] at h1
    rw [h1]
  unfold yielded
  rw [hg, Option.bind_some, h2]
  cases u <;> simp [wantB]

theorem JL_qg {l : List Oper} {g t : Nat} {b : Bool} {u : Value} (h : RunQ P N D b0 Mk L E op ty v) (hg : (ops[g]?).bind (·.dst) = some t := by rfl) (hu : look E t = some u := by rfl) (hb : wantB u b = true := by rfl)
    (ht : Nat.blt t N = true := by rfl) (hn : notDeferOp op = true := by rfl) (hd : Nat.blt d N = true := by rfl) (k : JL P rd b0 Mk N D ops L ((d, v) :: E) l T) :
    JL P rd b0 Mk N D ops L E ({ dst := some d, op := op, type := ty, pos := pos, after := after, guard := some (g, b) } :: l) T := by
  intro a w ha hw
  unfold wpL
  rw [if_pos (by simp only [Region.wanted]; rw [yielded_of ha hg hu ht]; exact hb)]
  refine wpIn_value (notDefer_mk hn) (by rw [execOp_mkO]; exact h a w ha hw) (k _ _ (ha.put hd v) hw)

theorem JL_skip {l : List Oper} {g t : Nat} {b : Bool} {u : Value} (hg : (ops[g]?).bind (·.dst) = some t := by rfl) (hu : look E t = some u := by rfl) (hb : wantB u b = false := by rfl) (ht : Nat.blt t N = true := by rfl)
    (hd : Nat.blt d N = true := by rfl) (k : JL P rd b0 Mk N D ops L ((d, undef) :: E) l T) :
    JL P rd b0 Mk N D ops L E ({ dst := some d, op := op, type := ty, pos := pos, after := after, guard := some (g, b) } :: l) T := by
  intro a w ha hw
  unfold wpL
  rw [if_neg (by simp only [Region.wanted]; rw [yielded_of ha hg hu ht, hb]; simp)]
  exact k _ _ (ha.put hd _) hw

theorem JD_q {f : Bool} {l : List (Bool × Oper)} (h : RunQ P N D b0 Mk L E op ty v) (hn : notDeferOp op = true := by rfl) (hd : Nat.blt d N = true := by rfl) (k : JD P rd b0 Mk N D ops L V ((d, v) :: E) l T) :
    JD P rd b0 Mk N D ops L V E ((f, { dst := some d, op := op, type := ty, pos := pos, after := after, guard := none }) :: l) T := by
  intro a w ha hw
  cases f
  · unfold wpS
    rw [if_pos (by rfl)]
    exact wpIn_value (notDefer_mk hn) (by rw [execOp_mkO]; exact h a w ha hw.right) ⟨_, fun _ h => h, hw.right, k _ _ (ha.put hd v) hw⟩
  · unfold wpS
    exact ⟨v, .inl ⟨by rfl, fun w' hw' => by rw [execOp_mkO]; exact h a w' ha hw'⟩, k _ _ (ha.put hd v) hw⟩

theorem JD_qg {f : Bool} {l : List (Bool × Oper)} {g t : Nat} {b : Bool} {u : Value} (h : RunQ P N D b0 Mk L E op ty v) (hg : (ops[g]?).bind (·.dst) = some t := by rfl) (hu : look E t = some u := by rfl) (hb : wantB u b = true := by rfl)
    (ht : Nat.blt t N = true := by rfl) (hn : notDeferOp op = true := by rfl) (hd : Nat.blt d N = true := by rfl) (k : JD P rd b0 Mk N D ops L V ((d, v) :: E) l T) :
    JD P rd b0 Mk N D ops L V E ((f, { dst := some d, op := op, type := ty, pos := pos, after := after, guard := some (g, b) }) :: l) T := by
  intro a w ha hw
  have hwant : Region.wanted { dst := some d, op := op, type := ty, pos := pos, after := after, guard := some (g, b) } (yielded ops a.tmps) = true := by
    simp only [Region.wanted]; rw [yielded_of ha hg hu ht]; exact hb
  cases f
  · unfold wpS
    rw [if_pos hwant]
    exact wpIn_value (notDefer_mk hn) (by rw [execOp_mkO]; exact h a w ha hw.right) ⟨_, fun _ h => h, hw.right, k _ _ (ha.put hd v) hw⟩
  · unfold wpS
    exact ⟨v, .inl ⟨hwant, fun w' hw' => by rw [execOp_mkO]; exact h a w' ha hw'⟩, k _ _ (ha.put hd v) hw⟩

theorem Holds.alter {a : Act} {t : Nat} {u u' : Value} (ha : Holds N D E a) (hu : look E t = some u) (h : u = u') : Holds N D ((t, u') :: E) a := by
  subst h
  refine ⟨ha.size, ha.defs, fun s x hx => ?_⟩
  simp only [look] at hx
  split at hx
  · rename_i hb
    have := Nat.eq_of_beq_eq_true hb
    subst this
    have := Option.some.inj hx
    subst this
    exact ha.val _ _ hu
  · exact ha.val _ _ hx

theorem JL_dec {l : List Oper} (t : Nat) {p : Prop} [Decidable p] (hu : look E t = some (.bool (decide p)) := by rfl) (h1 : p → JL P rd b0 Mk N D ops L ((t, .bool true) :: E) l T)
    (h0 : ¬ p → JL P rd b0 Mk N D ops L ((t, .bool false) :: E) l T) : JL P rd b0 Mk N D ops L E l T := by
  intro a w ha hw
  by_cases hp : p
  · exact h1 hp a w (ha.alter hu (by simp [hp])) hw
  · exact h0 hp a w (ha.alter hu (by simp [hp])) hw

theorem JL_bool {l : List Oper} (t : Nat) {p : Bool} (hu : look E t = some (.bool p) := by rfl) (h1 : p = true → JL P rd b0 Mk N D ops L ((t, .bool true) :: E) l T)
    (h0 : p = false → JL P rd b0 Mk N D ops L ((t, .bool false) :: E) l T) : JL P rd b0 Mk N D ops L E l T := by
  intro a w ha hw
  cases p
  · exact h0 rfl a w (ha.alter hu rfl) hw
  · exact h1 rfl a w (ha.alter hu rfl) hw

theorem JD_dec {l : List (Bool × Oper)} (t : Nat) {p : Prop} [Decidable p] (hu : look E t = some (.bool (decide p)) := by rfl) (h1 : p → JD P rd b0 Mk N D ops L V ((t, .bool true) :: E) l T)
    (h0 : ¬ p → JD P rd b0 Mk N D ops L V ((t, .bool false) :: E) l T) : JD P rd b0 Mk N D ops L V E l T := by
  intro a w ha hw
  by_cases hp : p
  · exact h1 hp a w (ha.alter hu (by simp [hp])) hw
  · exact h0 hp a w (ha.alter hu (by simp [hp])) hw

theorem JD_bool {l : List (Bool × Oper)} (t : Nat) {p : Bool} (hu : look E t = some (.bool p) := by rfl) (h1 : p = true → JD P rd b0 Mk N D ops L V ((t, .bool true) :: E) l T)
    (h0 : p = false → JD P rd b0 Mk N D ops L V ((t, .bool false) :: E) l T) : JD P rd b0 Mk N D ops L V E l T := by
  intro a w ha hw
  cases p
  · exact h0 rfl a w (ha.alter hu rfl) hw
  · exact h1 rfl a w (ha.alter hu rfl) hw

theorem JL_a {l : List Oper} {o : Obj} {v : Nat → Value} (hM : ∀ k ∈ Mk, k < b0.heap.size) (h : RunA P N D b0 Mk L E op ty o v) (hn : notDeferOp op = true := by rfl) (hd : Nat.blt d N = true := by rfl)
    (k : ∀ r, b0.heap.size ≤ r → JL P rd b0 Mk N D ops ((r, o) :: L) ((d, v r) :: E) l T) :
    JL P rd b0 Mk N D ops L E ({ dst := some d, op := op, type := ty, pos := pos, after := after, guard := none } :: l) T := by
  intro a w ha hw
  unfold wpL
  rw [if_pos (by rfl)]
  exact wpIn_value (notDefer_mk hn) (by rw [execOp_mkO]; exact h a w ha hw) (k _ hw.size _ _ (ha.put hd _) (hw.alloc o hM))

theorem SH.alloc_mid {w : World} (h : SH b0 Mk (V ++ L) w) (o : Obj) (hM : ∀ k ∈ Mk, k < b0.heap.size) : SH b0 Mk (V ++ (w.heap.size, o) :: L) (w.alloc o) :=
  (h.alloc o hM).perm List.perm_middle.symm

theorem JD_a {l : List (Bool × Oper)} {o : Obj} {v : Nat → Value} (hM : ∀ k ∈ Mk, k < b0.heap.size) (h : RunA P N D b0 Mk L E op ty o v) (hn : notDeferOp op = true := by rfl) (hd : Nat.blt d N = true := by rfl)
    (k : ∀ r, b0.heap.size ≤ r → JD P rd b0 Mk N D ops ((r, o) :: L) V ((d, v r) :: E) l T) :
    JD P rd b0 Mk N D ops L V E ((false, { dst := some d, op := op, type := ty, pos := pos, after := after, guard := none }) :: l) T := by
  intro a w ha hw
  unfold wpS
  rw [if_pos (by rfl)]
  exact wpIn_value (notDefer_mk hn) (by rw [execOp_mkO]; exact h a w ha hw.right)
    ⟨SH b0 Mk ((w.heap.size, o) :: L), fun x hx => hx.sub (List.sublist_cons_self _ _), (hw.alloc_mid o hM).right, k _ hw.size _ _ (ha.put hd _) (hw.alloc_mid o hM)⟩

theorem JL_ag {l : List Oper} {o : Obj} {v : Nat → Value} {g t : Nat} {b : Bool} {u : Value} (hM : ∀ k ∈ Mk, k < b0.heap.size) (h : RunA P N D b0 Mk L E op ty o v) (hg : (ops[g]?).bind (·.dst) = some t := by rfl)
    (hu : look E t = some u := by rfl) (hb : wantB u b = true := by rfl) (ht : Nat.blt t N = true := by rfl) (hn : notDeferOp op = true := by rfl) (hd : Nat.blt d N = true := by rfl)
    (k : ∀ r, b0.heap.size ≤ r → JL P rd b0 Mk N D ops ((r, o) :: L) ((d, v r) :: E) l T) :
    JL P rd b0 Mk N D ops L E ({ dst := some d, op := op, type := ty, pos := pos, after := after, guard := some (g, b) } :: l) T := by
  intro a w ha hw
  unfold wpL
  rw [if_pos (by simp only [Region.wanted]; rw [yielded_of ha hg hu ht]; exact hb)]
  exact wpIn_value (notDefer_mk hn) (by rw [execOp_mkO]; exact h a w ha hw) (k _ hw.size _ _ (ha.put hd _) (hw.alloc o hM))

theorem JD_ag {l : List (Bool × Oper)} {o : Obj} {v : Nat → Value} {g t : Nat} {b : Bool} {u : Value} (hM : ∀ k ∈ Mk, k < b0.heap.size) (h : RunA P N D b0 Mk L E op ty o v) (hg : (ops[g]?).bind (·.dst) = some t := by rfl)
    (hu : look E t = some u := by rfl) (hb : wantB u b = true := by rfl) (ht : Nat.blt t N = true := by rfl) (hn : notDeferOp op = true := by rfl) (hd : Nat.blt d N = true := by rfl)
    (k : ∀ r, b0.heap.size ≤ r → JD P rd b0 Mk N D ops ((r, o) :: L) V ((d, v r) :: E) l T) :
    JD P rd b0 Mk N D ops L V E ((false, { dst := some d, op := op, type := ty, pos := pos, after := after, guard := some (g, b) }) :: l) T := by
  intro a w ha hw
  unfold wpS
  rw [if_pos (by simp only [Region.wanted]; rw [yielded_of ha hg hu ht]; exact hb)]
  exact wpIn_value (notDefer_mk hn) (by rw [execOp_mkO]; exact h a w ha hw.right)
    ⟨SH b0 Mk ((w.heap.size, o) :: L), fun x hx => hx.sub (List.sublist_cons_self _ _), (hw.alloc_mid o hM).right, k _ hw.size _ _ (ha.put hd _) (hw.alloc_mid o hM)⟩

def RunW (P : Program) (N : Nat) (D : List Deferred) (b0 : World) (Mk : List Nat) (L : Heap) (E : Env) (op : Op) (ty : TypeId) (L' : Heap) (r : Next) : Prop :=
  ∀ a w, Holds N D E a → SH b0 Mk L w → ∃ w', (execOp a.eval (mkO op ty)).run P w = .ok r w' ∧ SH b0 Mk L' w'

theorem wpIn_skip' {o : Oper} {a : Act} {w w' : World} {K : Act → World → Prop} {Q : Exit → Act → World → Prop} (hd : notDefer o = true) (h : (execOp a.eval o).run P w = .ok .skip w') (hK : K (a.put o.dst undef) w') :
    o.wpIn (FW rd) 0 P a w K Q := by
  refine ⟨fun _ _ => trivial, ?_⟩
  rw [Oper.semAt_eq _ _ _ (notDefer_defer hd), h]
  exact hK

theorem JL_s {l : List Oper} {L' : Heap} (h : RunW P N D b0 Mk L E op ty L' .skip) (hn : notDeferOp op = true := by rfl) (k : JL P rd b0 Mk N D ops L' E l T) :
    JL P rd b0 Mk N D ops L E ({ dst := none, op := op, type := ty, pos := pos, after := after, guard := none } :: l) T := by
  intro a w ha hw
  unfold wpL
  rw [if_pos (by rfl)]
  obtain ⟨w', h1, h2⟩ := h a w ha hw
  exact wpIn_skip' (notDefer_mk hn) (by rw [execOp_mkO]; exact h1) (k _ _ ha h2)

theorem JD_s {l : List (Bool × Oper)} {V' : Heap} (h : RunW P N D b0 Mk (V ++ L) E op ty (V' ++ L) .skip) (hn : notDeferOp op = true := by rfl) (k : JD P rd b0 Mk N D ops L V' E l T) :
    JD P rd b0 Mk N D ops L V E ((false, { dst := none, op := op, type := ty, pos := pos, after := after, guard := none }) :: l) T := by
  intro a w ha hw
  unfold wpS
  rw [if_pos (by rfl)]
  obtain ⟨w', h1, h2⟩ := h a w ha hw
  exact wpIn_skip' (notDefer_mk hn) (by rw [execOp_mkO]; exact h1) ⟨SH b0 Mk L, fun _ h => h, h2.right, k _ _ ha h2⟩

theorem callsIn_of_calls {F : Fence} {f : FuncId} {args : Array Value} {w : World} {R : Ending → World → Prop} (hF : F = FW rd) (h : Calls P f args w R) : CallsIn F 0 P f args w R := by
  subst hF
  have h' : CallsIn Fence.wide 0 P f args w R := callsIn_wide.2 h
  exact ⟨trivial, fun cs _ => h'.2 cs (room_wide _)⟩

def RunC (P : Program) (N : Nat) (D : List Deferred) (b0 : World) (Mk : List Nat) (L : Heap) (E : Env) (op : Op) (ty : TypeId) (f : FuncId) (args : List Value) : Prop :=
  ∀ a w, Holds N D E a → SH b0 Mk L w → (execOp a.eval (mkO op ty)).run P w = .ok (.enter f args.toArray) w

theorem wpIn_enter {o : Oper} {a : Act} {w : World} {f : FuncId} {args : Array Value} {K : Act → World → Prop} {Q : Exit → Act → World → Prop} (hd : notDefer o = true) (h : (execOp a.eval o).run P w = .ok (.enter f args) w)
    (hK : Calls P f args w fun e w' => ∃ v, e = .returned v ∧ K (a.put o.dst v) w') : o.wpIn (FW rd) 0 P a w K Q := by
  refine ⟨fun _ _ => trivial, ?_⟩
  rw [Oper.semAt_eq _ _ _ (notDefer_defer hd), h]
  refine ⟨fun h => by simp [FW] at h, callsIn_of_calls rfl (hK.mono fun e w' he => ?_)⟩
  obtain ⟨v, rfl, hk⟩ := he
  exact hk

theorem JL_c {l : List Oper} {f : FuncId} {args : List Value} {X : Type} {v : X → Value} {L' : X → Heap} (hc : RunC P N D b0 Mk L E op ty f args)
    (h : ∀ w, SH b0 Mk L w → Calls P f args.toArray w fun e w' => ∃ x, e = .returned (v x) ∧ SH b0 Mk (L' x) w') (hn : notDeferOp op = true := by rfl) (hd : Nat.blt d N = true := by rfl)
    (k : ∀ x, JL P rd b0 Mk N D ops (L' x) ((d, v x) :: E) l T) :
    JL P rd b0 Mk N D ops L E ({ dst := some d, op := op, type := ty, pos := pos, after := after, guard := none } :: l) T := by
  intro a w ha hw
  unfold wpL
  rw [if_pos (by rfl)]
  refine wpIn_enter (notDefer_mk hn) (by rw [execOp_mkO]; exact hc a w ha hw) ((h w hw).mono fun e w' he => ?_)
  obtain ⟨x, rfl, h2⟩ := he
  exact ⟨_, rfl, k x _ _ (ha.put hd _) h2⟩

theorem JL_cg {l : List Oper} {f : FuncId} {args : List Value} {X : Type} {v : X → Value} {L' : X → Heap} {g t : Nat} {b : Bool} {u : Value} (hc : RunC P N D b0 Mk L E op ty f args)
    (h : ∀ w, SH b0 Mk L w → Calls P f args.toArray w fun e w' => ∃ x, e = .returned (v x) ∧ SH b0 Mk (L' x) w')
    (hg : (ops[g]?).bind (·.dst) = some t := by rfl) (hu : look E t = some u := by rfl) (hb : wantB u b = true := by rfl) (ht : Nat.blt t N = true := by rfl) (hn : notDeferOp op = true := by rfl) (hd : Nat.blt d N = true := by rfl)
    (k : ∀ x, JL P rd b0 Mk N D ops (L' x) ((d, v x) :: E) l T) :
    JL P rd b0 Mk N D ops L E ({ dst := some d, op := op, type := ty, pos := pos, after := after, guard := some (g, b) } :: l) T := by
  intro a w ha hw
  unfold wpL
  rw [if_pos (by simp only [Region.wanted]; rw [yielded_of ha hg hu ht]; exact hb)]
  refine wpIn_enter (notDefer_mk hn) (by rw [execOp_mkO]; exact hc a w ha hw) ((h w hw).mono fun e w' he => ?_)
  obtain ⟨x, rfl, h2⟩ := he
  exact ⟨_, rfl, k x _ _ (ha.put hd _) h2⟩

theorem JD_c {l : List (Bool × Oper)} {f : FuncId} {args : List Value} {X : Type} {v : X → Value} {B V' : X → Heap} (hc : RunC P N D b0 Mk L E op ty f args)
    (h : ∀ w, SH b0 Mk (V ++ L) w → Calls P f args.toArray w fun e w' => ∃ x, e = .returned (v x) ∧ SH b0 Mk (V' x ++ (B x ++ L)) w') (hn : notDeferOp op = true := by rfl) (hd : Nat.blt d N = true := by rfl)
    (k : ∀ x, JD P rd b0 Mk N D ops (B x ++ L) (V' x) ((d, v x) :: E) l T) :
    JD P rd b0 Mk N D ops L V E ((false, { dst := some d, op := op, type := ty, pos := pos, after := after, guard := none }) :: l) T := by
  intro a w ha hw
  unfold wpS
  rw [if_pos (by rfl)]
  refine wpIn_enter (notDefer_mk hn) (by rw [execOp_mkO]; exact hc a w ha hw.right) ((h w hw).mono fun e w' he => ?_)
  obtain ⟨x, rfl, h2⟩ := he
  exact ⟨_, rfl, SH b0 Mk (B x ++ L), fun y hy => hy.right, h2.right, k x _ _ (ha.put hd _) h2⟩

theorem JD_cg {l : List (Bool × Oper)} {f : FuncId} {args : List Value} {X : Type} {v : X → Value} {B V' : X → Heap} {g t : Nat} {b : Bool} {u : Value} (hc : RunC P N D b0 Mk L E op ty f args)
    (h : ∀ w, SH b0 Mk (V ++ L) w → Calls P f args.toArray w fun e w' => ∃ x, e = .returned (v x) ∧ SH b0 Mk (V' x ++ (B x ++ L)) w')
    (hg : (ops[g]?).bind (·.dst) = some t := by rfl) (hu : look E t = some u := by rfl) (hb : wantB u b = true := by rfl) (ht : Nat.blt t N = true := by rfl) (hn : notDeferOp op = true := by rfl) (hd : Nat.blt d N = true := by rfl)
    (k : ∀ x, JD P rd b0 Mk N D ops (B x ++ L) (V' x) ((d, v x) :: E) l T) :
    JD P rd b0 Mk N D ops L V E ((false, { dst := some d, op := op, type := ty, pos := pos, after := after, guard := some (g, b) }) :: l) T := by
  intro a w ha hw
  unfold wpS
  rw [if_pos (by simp only [Region.wanted]; rw [yielded_of ha hg hu ht]; exact hb)]
  refine wpIn_enter (notDefer_mk hn) (by rw [execOp_mkO]; exact hc a w ha hw.right) ((h w hw).mono fun e w' he => ?_)
  obtain ⟨x, rfl, h2⟩ := he
  exact ⟨_, rfl, SH b0 Mk (B x ++ L), fun y hy => hy.right, h2.right, k x _ _ (ha.put hd _) h2⟩

def Ret (P : Program) (f : FuncId) (args : List Value) (w : World) (X : Type) (v : X → Value) (B : X → Heap) : Prop :=
  Calls P f args.toArray w fun e w' => ∃ x, e = .returned (v x) ∧ Fresh w w' (B x)

theorem Ret.sh {f : FuncId} {args : List Value} {w : World} {X : Type} {v : X → Value} {B : X → Heap} (h : Ret P f args w X v B) (hw : SH b0 Mk L w) :
    Calls P f args.toArray w fun e w' => ∃ x, e = .returned (v x) ∧ SH b0 Mk (B x ++ L) w' :=
  h.mono fun _ _ ⟨x, he, hf⟩ => ⟨x, he, hw.fresh hf⟩

theorem Ret.shV {f : FuncId} {args : List Value} {w : World} {X : Type} {v : X → Value} {B : X → Heap} (h : Ret P f args w X v B) (hw : SH b0 Mk (V ++ L) w) :
    Calls P f args.toArray w fun e w' => ∃ x, e = .returned (v x) ∧ SH b0 Mk (V ++ (B x ++ L)) w' :=
  h.mono fun _ _ ⟨x, he, hf⟩ => ⟨x, he, (hw.fresh hf).perm (by rw [← List.append_assoc, ← List.append_assoc]; exact List.perm_append_comm.append_right _)⟩

def Val (P : Program) (f : FuncId) (args : List Value) (w : World) (v : Value) : Prop :=
  Calls P f args.toArray w fun e w' => e = .returned v ∧ Ext w w'

theorem Val.sh {f : FuncId} {args : List Value} {w : World} {v : Value} (h : Val P f args w v) (hw : SH b0 Mk L w) :
    Calls P f args.toArray w fun e w' => ∃ _ : Unit, e = .returned v ∧ SH b0 Mk L w' :=
  h.mono fun _ _ ⟨he, hf⟩ => ⟨(), he, hw.ext hf⟩

theorem JL_v {l : List Oper} {f : FuncId} {args : List Value} (hc : RunC P N D b0 Mk L E op ty f args) (h : ∀ w, SH b0 Mk L w → Val P f args w v) (hn : notDeferOp op = true := by rfl) (hd : Nat.blt d N = true := by rfl)
    (k : JL P rd b0 Mk N D ops L ((d, v) :: E) l T) : JL P rd b0 Mk N D ops L E ({ dst := some d, op := op, type := ty, pos := pos, after := after, guard := none } :: l) T :=
  JL_c (X := Unit) (v := fun _ => v) (L' := fun _ => L) hc (fun w hw => (h w hw).sh hw) hn hd fun _ => k
theorem JL_vg {l : List Oper} {f : FuncId} {args : List Value} {g t : Nat} {b : Bool} {u : Value} (hc : RunC P N D b0 Mk L E op ty f args) (h : ∀ w, SH b0 Mk L w → Val P f args w v)
    (hg : (ops[g]?).bind (·.dst) = some t := by rfl) (hu : look E t = some u := by rfl) (hb : wantB u b = true := by rfl) (ht : Nat.blt t N = true := by rfl) (hn : notDeferOp op = true := by rfl) (hd : Nat.blt d N = true := by rfl)
    (k : JL P rd b0 Mk N D ops L ((d, v) :: E) l T) : JL P rd b0 Mk N D ops L E ({ dst := some d, op := op, type := ty, pos := pos, after := after, guard := some (g, b) } :: l) T :=
  JL_cg (X := Unit) (v := fun _ => v) (L' := fun _ => L) hc (fun w hw => (h w hw).sh hw) hg hu hb ht hn hd fun _ => k
theorem JD_v {l : List (Bool × Oper)} {f : FuncId} {args : List Value} (hc : RunC P N D b0 Mk L E op ty f args) (h : ∀ w, SH b0 Mk L w → Val P f args w v) (hn : notDeferOp op = true := by rfl) (hd : Nat.blt d N = true := by rfl)
    (k : JD P rd b0 Mk N D ops L V ((d, v) :: E) l T) : JD P rd b0 Mk N D ops L V E ((false, { dst := some d, op := op, type := ty, pos := pos, after := after, guard := none }) :: l) T :=
  JD_c (X := Unit) (v := fun _ => v) (B := fun _ => []) (V' := fun _ => V) hc (fun w hw => (h w hw.right).mono fun _ _ ⟨he, hf⟩ => ⟨(), he, hw.ext hf⟩) hn hd fun _ => k
theorem JD_vg {l : List (Bool × Oper)} {f : FuncId} {args : List Value} {g t : Nat} {b : Bool} {u : Value} (hc : RunC P N D b0 Mk L E op ty f args) (h : ∀ w, SH b0 Mk L w → Val P f args w v)
    (hg : (ops[g]?).bind (·.dst) = some t := by rfl) (hu : look E t = some u := by rfl) (hb : wantB u b = true := by rfl) (ht : Nat.blt t N = true := by rfl) (hn : notDeferOp op = true := by rfl) (hd : Nat.blt d N = true := by rfl)
    (k : JD P rd b0 Mk N D ops L V ((d, v) :: E) l T) : JD P rd b0 Mk N D ops L V E ((false, { dst := some d, op := op, type := ty, pos := pos, after := after, guard := some (g, b) }) :: l) T :=
  JD_cg (X := Unit) (v := fun _ => v) (B := fun _ => []) (V' := fun _ => V) hc (fun w hw => (h w hw.right).mono fun _ _ ⟨he, hf⟩ => ⟨(), he, hw.ext hf⟩) hg hu hb ht hn hd fun _ => k

end steps
end Go.Proofs.YtopjaeoklkpcpaaGreatDoor.Jd

namespace Go.Proofs.YtopjaeoklkpcpaaGreatDoor.Jd
open Go.RowKit (Below)
set_option linter.unusedVariables false
set_option linter.unusedSimpArgs false

def nth : List Value → Nat → Option Value
  | [], _ => none
  | v :: _, 0 => some v
  | _ :: r, n + 1 => nth r n

theorem nth_eq : ∀ (l : List Value) (k : Nat), nth l k = l[k]?
  | [], _ => rfl
  | _ :: _, 0 => rfl
  | _ :: r, n + 1 => by simp [nth, nth_eq r n]

def seg : List Value → Nat → Nat → Option (List Value)
  | _, _, 0 => some []
  | l, k, n + 1 => match nth l k, seg l (k + 1) n with
    | some v, some r => some (v :: r)
    | _, _ => none

theorem seg_spec : ∀ (l : List Value) (n k : Nat) (cs : List Value), seg l k n = some cs → cs.length = n ∧ ∀ j v, cs[j]? = some v → l[k + j]? = some v
  | l, 0, k, cs, h => by
    have : cs = [] := by simpa [seg] using h.symm
    subst this
    exact ⟨rfl, fun j v hv => by simp at hv⟩
  | l, n + 1, k, cs, h => by
    unfold seg at h
    split at h
    · rename_i v r hv hr
      have := Option.some.inj h
      subst this
      obtain ⟨h1, h2⟩ := seg_spec l n (k + 1) r hr
      refine ⟨by simp [h1], fun j u hu => ?_⟩
      cases j with
      | zero => rw [nth_eq] at hv; simp at hu; subst hu; simpa using hv
      | succ j => have := h2 j u (by simpa using hu); rwa [show k + (j + 1) = k + 1 + j by omega]
    · cases h

def cellsL : Value → List Value
  | .agg c => c.toList
  | v => [v]

theorem cellsL_eq (v : Value) : v.cells = (cellsL v).toArray := by cases v <;> simp [Value.cells, cellsL]

def evs (E : Env) : List Operand → Option (List Value)
  | [] => some []
  | x :: r => match ev E x, evs E r with
    | some v, some vs => some (v :: vs)
    | _, _ => none

theorem Holds.evals {N : Nat} {D : List Deferred} {E : Env} {a : Act} (h : Holds N D E a) : ∀ {l : List Operand} {vs : List Value}, evs E l = some vs → l.map a.eval = vs
  | [], vs, hv => by simpa [evs] using hv
  | x :: r, vs, hv => by
    unfold evs at hv
    split at hv
    · rename_i v us hx hr
      have := Option.some.inj hv
      subst this
      simp [h.eval hx, h.evals hr]
    · cases hv

section ops
variable {P : Program} {b0 : World} {Mk : List Nat} {N : Nat} {D : List Deferred} {L V : Heap} {E : Env} {ty : TypeId}

theorem q_move {x : Operand} {v : Value} (hx : ev E x = some v := by rfl) : RunQ P N D b0 Mk L E (.move x) ty v := fun a w ha _ => by
  simp [mkO, execOp, ha.eval hx]
theorem q_assign {x : Operand} {v : Value} (hx : ev E x = some v := by rfl) : RunQ P N D b0 Mk L E (.assign x) ty v := fun a w ha _ => by
  simp [mkO, execOp, ha.eval hx]
theorem q_pickT {c x y : Operand} {v : Value} (hc : ev E c = some (.bool true) := by rfl) (hx : ev E x = some v := by rfl) : RunQ P N D b0 Mk L E (.pick c x y) ty v := fun a w ha _ => by
  simp [mkO, execOp, asBool, ha.eval hc, ha.eval hx]
theorem q_pickF {c x y : Operand} {v : Value} (hc : ev E c = some (.bool false) := by rfl) (hy : ev E y = some v := by rfl) : RunQ P N D b0 Mk L E (.pick c x y) ty v := fun a w ha _ => by
  simp [mkO, execOp, asBool, ha.eval hc, ha.eval hy]

theorem SH.cell {w : World} (h : SH b0 Mk L w) {r k : Nat} {l : List Value} {T : TypeId} {f : Nat × Nat} (hm : (r, Obj.cells l.toArray T f) ∈ L) {v : Value} (hv : l[k]? = some v) :
    w.cell? ⟨r, k, none⟩ = some v := by
  have := h.own _ hm
  simp only at this
  simp [World.cell?, this, hv]

theorem addr_add (r k n : Nat) : (Addr.mk r k none).add n = ⟨r, k + n, none⟩ := by
  unfold Addr.add
  split
  · rename_i h; subst h; rfl
  · rfl

theorem q_load {t : TypeId} {x : Operand} {r k : Nat} {l : List Value} {T : TypeId} {f : Nat × Nat} {v : Value} (hA : ∀ w, (isAgg t).run P w = .ok false w) (hx : ev E x = some (.pointer (some ⟨r, k, none⟩)) := by rfl)
    (hm : (r, Obj.cells l.toArray T f) ∈ L := by repeat (first | exact List.mem_cons_self | apply List.mem_cons_of_mem | apply List.mem_append_right)) (hv : nth l k = some v := by rfl) :
    RunQ P N D b0 Mk L E (.load t x) ty v := fun a w ha hw => by
  have hc := hw.cell hm (by rw [← nth_eq]; exact hv)
  simp [mkO, execOp, ha.eval hx, Instr.loadAt, Instr.sureAddr, loadVar, hA, hc]

theorem q_loadA {t : TypeId} {x : Operand} {r k n : Nat} {l : List Value} {T : TypeId} {f : Nat × Nat} {cs : List Value} (hA : ∀ w, (isAgg t).run P w = .ok true w) (hS : ∀ w, (sizeOf t).run P w = .ok n w)
    (hx : ev E x = some (.pointer (some ⟨r, k, none⟩)) := by rfl)
    (hm : (r, Obj.cells l.toArray T f) ∈ L := by repeat (first | exact List.mem_cons_self | apply List.mem_cons_of_mem | apply List.mem_append_right)) (hv : seg l k n = some cs := by rfl) :
    RunQ P N D b0 Mk L E (.load t x) ty (.agg cs.toArray) := fun a w ha hw => by
  obtain ⟨h1, h2⟩ := seg_spec l n k cs hv
  have hl : (loadCells ⟨r, k, none⟩ n).run P w = .ok cs.toArray w := by
    rw [← h1]
    exact run_loadCells_list w ⟨r, k, none⟩ cs fun j v hj => by
      rw [addr_add]
      exact hw.cell hm (h2 j v hj)
  simp [mkO, execOp, ha.eval hx, Instr.loadAt, Instr.sureAddr, loadVar, hA, hS, hl]

theorem q_nil {x : Operand} {p : Addr} (hx : ev E x = some (.pointer (some p)) := by rfl) : RunQ P N D b0 Mk L E (.nilCheck x) ty (.pointer (some p)) := fun a w ha _ => by
  simp [mkO, execOp, ha.eval hx]
def FieldOff (P : Program) (s f off : Nat) : Prop := ∀ r k w, (Instr.fieldAt s (.pointer (some ⟨r, k, none⟩)) f).run P w = .ok (.pointer (some ⟨r, k + off, none⟩)) w

theorem q_fld {s f off : Nat} {x : Operand} {r k : Nat} (hf : FieldOff P s f off) (hx : ev E x = some (.pointer (some ⟨r, k, none⟩)) := by rfl) :
    RunQ P N D b0 Mk L E (.fieldAddr s x f) ty (.pointer (some ⟨r, k + off, none⟩)) := fun a w ha _ => by
  simp [mkO, execOp, ha.eval hx, hf r k w]

section ints
variable {t t' : TypeId} {x y : Operand} {k : IntKind} {p q : Int}
theorem q_lss (hx : ev E x = some (.int k p) := by rfl) (hy : ev E y = some (.int k q) := by rfl) : RunQ P N D b0 Mk L E (.binOp .lss t x y t') ty (.bool (decide (p < q))) := fun a w ha _ => by
  simp [mkO, execOp, ha.eval hx, ha.eval hy, eqGuard, binOp, Op.intCmp]
theorem q_leq (hx : ev E x = some (.int k p) := by rfl) (hy : ev E y = some (.int k q) := by rfl) : RunQ P N D b0 Mk L E (.binOp .leq t x y t') ty (.bool (decide (p ≤ q))) := fun a w ha _ => by
  simp [mkO, execOp, ha.eval hx, ha.eval hy, eqGuard, binOp, Op.intCmp]
theorem q_gtr (hx : ev E x = some (.int k p) := by rfl) (hy : ev E y = some (.int k q) := by rfl) : RunQ P N D b0 Mk L E (.binOp .gtr t x y t') ty (.bool (decide (q < p))) := fun a w ha _ => by
  simp [mkO, execOp, ha.eval hx, ha.eval hy, eqGuard, binOp, Op.intCmp]
theorem q_geq (hx : ev E x = some (.int k p) := by rfl) (hy : ev E y = some (.int k q) := by rfl) : RunQ P N D b0 Mk L E (.binOp .geq t x y t') ty (.bool (decide (q ≤ p))) := fun a w ha _ => by
  simp [mkO, execOp, ha.eval hx, ha.eval hy, eqGuard, binOp, Op.intCmp]
theorem q_eql (hx : ev E x = some (.int k p) := by rfl) (hy : ev E y = some (.int k q) := by rfl) : RunQ P N D b0 Mk L E (.binOp .eql t x y t') ty (.bool (decide (p = q))) := fun a w ha _ => by
  simp only [mkO, execOp, ha.eval hx, ha.eval hy, eqGuard, binOp, Op.intCmp]
  by_cases h : p = q <;> simp [h]
theorem q_neq (hx : ev E x = some (.int k p) := by rfl) (hy : ev E y = some (.int k q) := by rfl) : RunQ P N D b0 Mk L E (.binOp .neq t x y t') ty (.bool (decide (p ≠ q))) := fun a w ha _ => by
  simp only [mkO, execOp, ha.eval hx, ha.eval hy, eqGuard, binOp, Op.intCmp]
  by_cases h : p = q <;> simp [h]

theorem wrap_i64 {n : Int} (h : -9223372036854775808 ≤ n ∧ n ≤ 9223372036854775807) : IntKind.i64.wrap n = n := IntWalk.i64_in n h

theorem q_add (hx : ev E x = some (.int .i64 p) := by rfl) (hy : ev E y = some (.int .i64 q) := by rfl) (h : -9223372036854775808 ≤ p + q ∧ p + q ≤ 9223372036854775807 := by omega) :
    RunQ P N D b0 Mk L E (.binOp .add t x y t') ty (.int .i64 (p + q)) := fun a w ha _ => by
  simp [mkO, execOp, ha.eval hx, ha.eval hy, eqGuard, binOp, Op.intArith, wrap_i64 h]
theorem q_sub (hx : ev E x = some (.int .i64 p) := by rfl) (hy : ev E y = some (.int .i64 q) := by rfl) (h : -9223372036854775808 ≤ p - q ∧ p - q ≤ 9223372036854775807 := by omega) :
    RunQ P N D b0 Mk L E (.binOp .sub t x y t') ty (.int .i64 (p - q)) := fun a w ha _ => by
  simp [mkO, execOp, ha.eval hx, ha.eval hy, eqGuard, binOp, Op.intArith, wrap_i64 h]
end ints

theorem q_notD {t : TypeId} {x : Operand} {p : Prop} [Decidable p] (hx : ev E x = some (.bool (decide p)) := by rfl) : RunQ P N D b0 Mk L E (.unOp .not t x) ty (.bool (decide (¬ p))) := fun a w ha _ => by
  simp [mkO, execOp, ha.eval hx, Op.unary]
theorem q_not {t : TypeId} {x : Operand} {p : Bool} (hx : ev E x = some (.bool p) := by rfl) : RunQ P N D b0 Mk L E (.unOp .not t x) ty (.bool (!p)) := fun a w ha _ => by
  simp [mkO, execOp, ha.eval hx, Op.unary]

theorem run_eqB {t : TypeId} {w : World} (d : Nat) (p q : Bool) (hU : ∀ w, (underlying t).run P w = .ok .bool w) : (Op.equalIn (d + 1) t (.bool p) (.bool q)).run P w = .ok (p == q) w := by
  unfold Op.equalIn
  simp only [Sem.run_bind, hU, Result.andThen_ok, Sem.run_pure]
theorem q_eqlB {t t' : TypeId} {x y : Operand} {p q : Bool} (hU : ∀ w, (underlying t).run P w = .ok .bool w) (hx : ev E x = some (.bool p) := by rfl) (hy : ev E y = some (.bool q) := by rfl) :
    RunQ P N D b0 Mk L E (.binOp .eql t x y t') ty (.bool (p == q)) := fun a w ha _ => by
  have h := run_eqB (P := P) (w := w) 9999 p q hU
  have h1 : (binOp .eql t (.bool p) (.bool q)).run P w = .ok (.bool (p == q)) w := by
    show (do pure (.bool (← Op.equal t (.bool p) (.bool q))) : Sem Value).run P w = _
    simp only [Sem.run_bind, Op.equal, Op.maxDepth, h, Result.andThen_ok, Sem.run_pure]
  simp only [mkO, execOp, ha.eval hx, ha.eval hy, eqGuard, Sem.run_bind]
  simp [h1]
theorem q_lenS {t e : TypeId} {x : Operand} {a : Option Addr} {n c : Nat} (hU : ∀ w, (underlying t).run P w = .ok (.slice e) w) (hx : ev E x = some (.slice a n c) := by rfl) :
    RunQ P N D b0 Mk L E (.call { callee := .builtin .len, args := #[x], argTypes := #[t] }) ty (.int .i64 n) := fun a w ha _ => by
  simp [mkO, execOp, resolve, invoke, builtin, Builtin.len_, ha.eval hx, hU, goInt]
theorem q_lenStr {t : TypeId} {x : Operand} {s : ByteArray} (hU : ∀ w, (underlying t).run P w = .ok .string w) (hx : ev E x = some (.string s) := by rfl) :
    RunQ P N D b0 Mk L E (.call { callee := .builtin .len, args := #[x], argTypes := #[t] }) ty (.int .i64 s.size) := fun a w ha _ => by
  simp [mkO, execOp, resolve, invoke, builtin, Builtin.len_, ha.eval hx, hU, goInt]
theorem SH.obj {w : World} (h : SH b0 Mk L w) {r : Nat} {o : Obj} (hm : (r, o) ∈ L) : w.heap[r]? = some o := h.own _ hm
theorem run_getObj_map {P : Program} {w : World} {r : Nat} {es : Array MapEntry} {c : Nat} (h : w.heap[r]? = some (.map es c)) : (getObj r).run P w = .ok (.map es c) w := by
  simp [getObj, Sem.run, h]
theorem q_lenM {t kt et : TypeId} {x : Operand} {r : Nat} {es : Array MapEntry} {c : Nat} (hU : ∀ w, (underlying t).run P w = .ok (.map kt et) w) (hx : ev E x = some (.map (some r)) := by rfl)
    (hm : (r, Obj.map es c) ∈ L := by repeat (first | exact List.mem_cons_self | apply List.mem_cons_of_mem | apply List.mem_append_right)) :
    RunQ P N D b0 Mk L E (.call { callee := .builtin .len, args := #[x], argTypes := #[t] }) ty (.int .i64 es.size) := fun a w ha hw => by
  simp [mkO, execOp, resolve, invoke, builtin, Builtin.len_, ha.eval hx, hU, goInt, run_getObj_map (hw.obj hm)]

def Sl (w : World) {α : Type} (enc : α → List Value) (k : Nat) (a : Option Addr) (xs : List α) : Prop :=
  ∀ (i : Nat) (x : α), xs[i]? = some x → ∃ b off, a = some ⟨b, off, none⟩ ∧ (enc x).length = k ∧ ∀ j v, (enc x)[j]? = some v → w.cell? ⟨b, off + i * k + j, none⟩ = some v

def SlJ (b0 : World) (Mk : List Nat) (L : Heap) {α : Type} (enc : α → List Value) (k : Nat) (a : Option Addr) (xs : List α) : Prop := ∀ w, SH b0 Mk L w → Sl w enc k a xs

theorem cell_of_same {w w' : World} {p : Addr} {v : Value} (h : w.cell? p = some v) (hs : w'.heap[p.block]? = w.heap[p.block]?) : w'.cell? p = some v := by
  unfold World.cell? at *
  rw [hs]; exact h

theorem Sl.ext {w w' : World} {α : Type} {enc : α → List Value} {k : Nat} {a : Option Addr} {xs : List α} (h : Sl w enc k a xs) (he : Ext w w') : Sl w' enc k a xs := fun i x hx => by
  obtain ⟨b, off, h1, h2, h3⟩ := h i x hx
  exact ⟨b, off, h1, h2, fun j v hv => by
    have hc := h3 j v hv
    exact cell_of_same hc (he.block _ (World.block_lt_of_cell? w _ hc))⟩

theorem SlJ.of_base {α : Type} {enc : α → List Value} {k : Nat} {a : Option Addr} {xs : List α} (h : Sl b0 enc k a xs) : SlJ b0 [] L enc k a xs := fun _ hw => h.ext hw.ext_out

theorem Sl.nil {w : World} {α : Type} {enc : α → List Value} {k : Nat} {a : Option Addr} : Sl w enc k a [] := fun i x hx => by simp at hx
theorem SlJ.mono {L' : Heap} {α : Type} {enc : α → List Value} {k : Nat} {a : Option Addr} {xs : List α} (h : SlJ b0 Mk L enc k a xs) (hs : List.Sublist L L') : SlJ b0 Mk L' enc k a xs :=
  fun w hw => h w (hw.sub hs)

def ea (a : Option Addr) (o : Nat) : Addr := ⟨(a.getD default).block, (a.getD default).off + o, none⟩

theorem q_idx {t e : TypeId} {x y : Operand} {a : Option Addr} {n c : Nat} {i : Int} {ki : IntKind} {α : Type} {enc : α → List Value} {k : Nat} {xs : List α} (hU : ∀ w, (underlying t).run P w = .ok (.slice e) w) (hS : ∀ w, (sizeOf e).run P w = .ok k w)
    (m : Nat) {z : α} (hs : SlJ b0 Mk L enc k a xs) (hz : xs[m]? = some z) (hn : xs.length = n) (hx : ev E x = some (.slice a n c) := by rfl) (hy : ev E y = some (.int ki i) := by rfl) (hi : i = (m : Int) := by first | rfl | omega) :
    RunQ P N D b0 Mk L E (.indexAddr t x y) ty (.pointer (some (ea a (m * k)))) := fun a' w ha hw => by
  obtain ⟨b, off, rfl, _, _⟩ := hs w hw m z hz
  subst hi
  have hlt : m < n := by rw [← hn]; exact (List.getElem?_eq_some_iff.1 hz).1
  have hlt' : (m : Int) < (n : Int) := by omega
  simp [mkO, execOp, ha.eval hx, ha.eval hy, Instr.indexAt, asIntOf, hU, hS, hlt, ea, addr_add]

theorem q_loadE {t : TypeId} {x : Operand} {a : Option Addr} {o : Nat} {α : Type} {enc : α → List Value} {k : Nat} {xs : List α} {v : Value} (hA : ∀ w, (isAgg t).run P w = .ok false w) (m : Nat) {z : α} (j : Nat) (hs : SlJ b0 Mk L enc k a xs) (hz : xs[m]? = some z)
    (hv : (enc z)[j]? = some v := by rfl) (hx : ev E x = some (.pointer (some (ea a o))) := by rfl) (ho : o = m * k + j := by first | rfl | omega) :
    RunQ P N D b0 Mk L E (.load t x) ty v := fun a' w ha hw => by
  obtain ⟨b, off, rfl, _, hc⟩ := hs w hw m z hz
  subst ho
  have := hc j v hv
  have he : ea (some ⟨b, off, none⟩) (m * k + j) = ⟨b, off + m * k + j, none⟩ := by simp [ea, Nat.add_assoc]
  simp [mkO, execOp, ha.eval hx, Instr.loadAt, Instr.sureAddr, loadVar, hA, he, this]

theorem q_loadEA {t : TypeId} {x : Operand} {a : Option Addr} {o n : Nat} {α : Type} {enc : α → List Value} {k : Nat} {xs : List α} (hA : ∀ w, (isAgg t).run P w = .ok true w) (hS : ∀ w, (sizeOf t).run P w = .ok n w) (m : Nat) {z : α} (hs : SlJ b0 Mk L enc k a xs) (hz : xs[m]? = some z)
    (hx : ev E x = some (.pointer (some (ea a o))) := by rfl) (ho : o = m * k := by first | rfl | omega) (hk : k = n := by rfl) :
    RunQ P N D b0 Mk L E (.load t x) ty (.agg (enc z).toArray) := fun a' w ha hw => by
  obtain ⟨b, off, rfl, hlen, hc⟩ := hs w hw m z hz
  subst ho hk
  have he : ea (some ⟨b, off, none⟩) (m * k) = ⟨b, off + m * k, none⟩ := by simp [ea]
  have hl : (loadCells ⟨b, off + m * k, none⟩ k).run P w = .ok (enc z).toArray w := by
    rw [← hlen]
    exact run_loadCells_list w _ (enc z) fun j v hj => by
      rw [addr_add, hlen]
      exact hc j v hj
  simp [mkO, execOp, ha.eval hx, Instr.loadAt, Instr.sureAddr, loadVar, hA, hS, he, hl]

theorem q_fldE {s f off : Nat} {x : Operand} {a : Option Addr} {o : Nat} (hf : FieldOff P s f off) (hx : ev E x = some (.pointer (some (ea a o))) := by rfl) :
    RunQ P N D b0 Mk L E (.fieldAddr s x f) ty (.pointer (some (ea a (o + off)))) := fun a' w ha _ => by
  have := hf (a.getD default).block ((a.getD default).off + o) w
  simp only [mkO, execOp, ha.eval hx]
  simp only [ea]
  simp [this, Nat.add_assoc]

theorem a_box {T : TypeId} {x : Operand} {v : Value} {l : List Value} (hx : ev E x = some v := by rfl) (hl : cellsL v = l := by rfl) : RunA P N D b0 Mk L E (.box T x) ty (.cells l.toArray T) (fun r => .pointer (some ⟨r, 0, none⟩)) :=
  fun a w ha _ => by
    simp [mkO, execOp, ha.eval hx, Instr.box, newVar, newRow, cellsL_eq, hl]
theorem a_alloc {T : TypeId} {z : Value} {l : List Value} (hz : ∀ w, (zeroValue T).run P w = .ok z w) (hl : cellsL z = l := by rfl) : RunA P N D b0 Mk L E (.alloc T) ty (.cells l.toArray T) (fun r => .pointer (some ⟨r, 0, none⟩)) :=
  fun a w _ _ => by
    simp [mkO, execOp, Instr.alloc, hz, newVar, newRow, cellsL_eq, hl]

def setL : List Value → Nat → List Value → List Value
  | l, _, [] => l
  | [], _, _ => []
  | _ :: r, 0, u :: us => u :: setL r 0 us
  | c :: r, n + 1, us => c :: setL r n us

def fillL (pl : List (Nat × Nat)) : List Value → List (Nat × List Value) → Option (List Value)
  | z, [] => some z
  | z, (i, vs) :: r => match pl[i]? with
    | none => none
    | some (off, size) => if Nat.beq vs.length size && Nat.ble (off + vs.length) z.length then fillL pl (setL z off vs) r else none

theorem setL_length : ∀ (l : List Value) (n : Nat) (us : List Value), (setL l n us).length = l.length
  | l, n, [] => by cases l <;> simp [setL]
  | [], n, u :: us => by simp [setL]
  | _ :: r, 0, u :: us => by simp [setL, setL_length r 0 us]
  | c :: r, n + 1, u :: us => by simp [setL, setL_length r n (u :: us)]

theorem setL_foldl : ∀ (us : List Value) (l : List Value) (n i : Nat), n + i + us.length ≤ l.length →
    (us.zipIdx i).foldl (fun (cs : Array Value) (x : Value × Nat) => cs.setIfInBounds (n + x.2) x.1) l.toArray = (setL l (n + i) us).toArray
  | [], l, n, i, _ => by cases l <;> simp [setL]
  | u :: us, l, n, i, h => by
    simp only [List.zipIdx_cons, List.foldl_cons, List.setIfInBounds_toArray]
    rw [setL_foldl us (l.set (n + i) u) n (i + 1) (by simp at h ⊢; omega)]
    congr 1
    have : ∀ (l : List Value) (m : Nat), m + 1 + us.length ≤ l.length → setL (l.set m u) (m + 1) us = setL l m (u :: us) := by
      intro l
      induction l with
      | nil => intro m hm; simp at hm
      | cons c r ih =>
        intro m hm
        cases m with
        | zero => simp only [List.set_cons_zero]; cases us <;> simp [setL]
        | succ m => simp only [List.set_cons_succ]; rw [show setL (c :: r) (m + 1) (u :: us) = c :: setL r m (u :: us) by simp [setL], ← ih m (by simp at hm ⊢; omega)]; cases us <;> simp [setL]
    rw [show n + (i + 1) = (n + i) + 1 by omega]
    exact this l (n + i) (by simp at h; omega)

theorem fill_fillL (pl : List (Nat × Nat)) (f : Nat → Option (Nat × Nat)) (hf : ∀ (i : Nat) (q : Nat × Nat), pl[i]? = some q → f i = some q) : ∀ (parts : List (Nat × Value)) (z : List Value) (cs : List Value), fillL pl z (parts.map fun p => (p.1, cellsL p.2)) = some cs →
    Instr.fill f z.toArray parts = some cs.toArray
  | [], z, cs, h => by simp [fillL] at h; simp [Instr.fill, h]
  | (i, v) :: r, z, cs, h => by
    simp only [List.map_cons, fillL] at h
    simp only [Instr.fill]
    cases hp : pl[i]? with
    | none => simp [hp] at h
    | some q =>
      obtain ⟨off, size⟩ := q
      simp only [hp] at h
      simp only [hf _ _ hp]
      split at h
      · rename_i hc
        simp only [Bool.and_eq_true, Nat.beq_eq, Nat.ble_eq] at hc
        obtain ⟨h1, h2⟩ := hc
        have h1' : (cellsL v).length = size := h1
        have e1 : v.cells.size = size := by rw [cellsL_eq]; simpa using h1'
        have e2 : ¬ (off + v.cells.size > z.toArray.size) := by rw [e1, ← h1']; simpa using h2
        simp only [e1, ne_eq, not_true, decide_false, Bool.false_or]
        rw [e1] at e2
        simp only [decide_eq_true_eq, e2, if_false]
        have := setL_foldl (cellsL v) z off 0 (by simpa using h2)
        rw [cellsL_eq, show (cellsL v).toArray.zipIdx = ((cellsL v).zipIdx 0).toArray by simp]
        simp only [List.size_toArray, List.foldl_toArray']
        simp only [Nat.add_zero] at this
        rw [this]
        exact fill_fillL pl f hf r _ cs h
      · cases h

def Places (P : Program) (t : TypeId) (pl : List (Nat × Nat)) : Prop :=
  ∃ fields : Array Field, (∀ w, (underlying t).run P w = .ok (.struct fields) w) ∧ ∀ w, (fields.mapM fun (f : Field) => do pure (f.offset, ← sizeOf f.type)).run P w = .ok pl.toArray w

def evp (E : Env) : List (Nat × Operand) → Option (List (Nat × List Value))
  | [] => some []
  | (i, x) :: r => match ev E x, evp E r with
    | some v, some vs => some ((i, cellsL v) :: vs)
    | _, _ => none

theorem Holds.evalp {a : Act} (h : Holds N D E a) : ∀ {l : List (Nat × Operand)} {vs : List (Nat × List Value)}, evp E l = some vs → (l.map fun p => (p.1, cellsL (a.eval p.2))) = vs
  | [], vs, hv => by simpa [evp] using hv
  | (i, x) :: r, vs, hv => by
    unfold evp at hv
    split at hv
    · rename_i v us hx hr
      have := Option.some.inj hv
      subst this
      simp [h.eval hx, h.evalp hr]
    · cases hv

theorem q_build {t : TypeId} {z : Value} {pl : List (Nat × Nat)} {parts : List (Nat × Operand)} {ps : List (Nat × List Value)} {cs : List Value} (hz : ∀ w, (zeroValue t).run P w = .ok z w) (hp : Places P t pl) (hv : evp E parts = some ps := by rfl)
    (hf : fillL pl (cellsL z) ps = some cs := by rfl) : RunQ P N D b0 Mk L E (.build t parts.toArray) ty (.agg cs.toArray) := fun a w ha _ => by
  obtain ⟨fields, hU, hM⟩ := hp
  have h1 := ha.evalp hv
  subst h1
  have := fill_fillL pl (fun i => pl.toArray[i]?) (fun i q hq => by simpa using hq) (parts.map fun p => (p.1, a.eval p.2)) (cellsL z) cs (by rw [List.map_map]; exact hf)
  have hM' := hM w
  simp only [mkO, execOp, Instr.build, Sem.run_bind, hz, hU, Result.andThen_ok]
  rw [hM']
  have e : (Array.map (fun x => match x with | (i, x) => (i, a.eval x)) parts.toArray).toList = parts.map fun p => (p.1, a.eval p.2) := by simp
  simp only [Result.andThen_ok, cellsL_eq, e, this, Sem.run_pure]

theorem c_call {f : Operand} {l : List Operand} {tys : Array TypeId} {k : FuncId} {fs cs vs : List Value} (hc : ∀ args w, (callFunc k args).run P w = .ok (.enter k args) w)
    (hf : ev E f = some (.func (.func k) fs.toArray cs.toArray) := by rfl) (ha : evs E l = some vs := by rfl) :
    RunC P N D b0 Mk L E (.call { callee := .value f, args := l.toArray, argTypes := tys }) ty k (fs ++ vs ++ cs) := fun a w hh _ => by
  have := hh.evals ha
  simp only [mkO, execOp, resolve, hh.eval hf, Deferred.ofValue]
  simp only [Sem.run_bind, Sem.run_pure, Result.andThen_ok, invoke, hc]
  simp [this]

theorem q_func {fn : Fn} {fs cs : List Operand} {us vs : List Value} (h1 : evs E fs = some us := by rfl) (h2 : evs E cs = some vs := by rfl) :
    RunQ P N D b0 Mk L E (.makeFunc fn fs.toArray cs.toArray) ty (.func fn us.toArray vs.toArray) := fun a w ha _ => by
  have e1 := ha.evals h1
  have e2 := ha.evals h2
  simp [mkO, execOp, Instr.makeFunc, e1, e2]

theorem q_ext {x : Operand} {l : List Value} {i : Nat} {v : Value} (hx : ev E x = some (.tuple l.toArray) := by rfl) (hv : nth l i = some v := by rfl) : RunQ P N D b0 Mk L E (.extract x i) ty v := fun a w ha _ => by
  rw [nth_eq] at hv
  simp [mkO, execOp, ha.eval hx, Instr.extract, hv]

inductive Repl (r : Nat) (o o' : Obj) : Heap → Heap → Prop
  | head {L : Heap} : Repl r o o' ((r, o) :: L) ((r, o') :: L)
  | tail {p : Nat × Obj} {L L' : Heap} (h : Repl r o o' L L') : Repl r o o' (p :: L) (p :: L')
  | app {B L L' : Heap} (h : Repl r o o' L L') : Repl r o o' (B ++ L) (B ++ L')

theorem Repl.keys {r : Nat} {o o' : Obj} {L L' : Heap} (h : Repl r o o' L L') : L'.map Prod.fst = L.map Prod.fst := by
  induction h with
  | head => rfl
  | tail _ ih => simp [ih]
  | app _ ih => simp [ih]

theorem Repl.mem {r : Nat} {o o' : Obj} {L L' : Heap} (h : Repl r o o' L L') : (r, o) ∈ L := by
  induction h with
  | head => exact List.mem_cons_self
  | tail _ ih => exact List.mem_cons_of_mem _ ih
  | app _ ih => exact List.mem_append_right _ ih

theorem Repl.or {r : Nat} {o o' : Obj} {L L' : Heap} (h : Repl r o o' L L') (hn : (L.map Prod.fst).Nodup) : ∀ p ∈ L', p = (r, o') ∨ (p ∈ L ∧ p.1 ≠ r) := by
  induction h with
  | head =>
    intro p hp
    simp only [List.map_cons, List.nodup_cons] at hn
    rcases List.mem_cons.1 hp with hp | hp
    · exact .inl hp
    · exact .inr ⟨List.mem_cons_of_mem _ hp, fun e => hn.1 (e ▸ List.mem_map_of_mem hp)⟩
  | tail h ih =>
    intro p hp
    simp only [List.map_cons, List.nodup_cons] at hn
    rcases List.mem_cons.1 hp with hp | hp
    · subst hp
      refine .inr ⟨List.mem_cons_self, fun e => hn.1 ?_⟩
      rw [e]
      exact List.mem_map_of_mem (f := Prod.fst) h.mem
    · exact (ih hn.2 p hp).imp id fun ⟨a, b⟩ => ⟨List.mem_cons_of_mem _ a, b⟩
  | app h ih =>
    intro p hp
    rw [List.map_append, List.nodup_append] at hn
    rcases List.mem_append.1 hp with hp | hp
    · refine .inr ⟨List.mem_append_left _ hp, fun e => ?_⟩
      exact hn.2.2 p.1 (List.mem_map_of_mem hp) r (List.mem_map_of_mem (f := Prod.fst) h.mem) e
    · exact (ih hn.2.1 p hp).imp id fun ⟨a, b⟩ => ⟨List.mem_append_right _ a, b⟩

theorem SH.repl {w w' : World} {r : Nat} {o o' : Obj} {L' : Heap} (h : SH b0 Mk L w) (hr : Repl r o o' L L') (h1 : w'.heap[r]? = some o') (h2 : ∀ k, k ≠ r → w'.heap[k]? = w.heap[k]?) (h3 : w'.heap.size = w.heap.size)
    (h4 : w'.os = w.os) (h5 : w'.tape = w.tape) (h6 : w'.output = w.output) : SH b0 Mk L' w' := by
  have hkey := h.key _ hr.mem
  refine ⟨h4.trans h.os, h5.trans h.tape, h6.trans h.output, by rw [h3]; exact h.size, fun k hk hM => ?_, fun p hp => ?_, fun p hp => ?_, by rw [hr.keys]; exact h.nd⟩
  · rw [h2 k (fun e => ?_)]
    · exact h.same k hk hM
    · subst e
      rcases hkey with hk' | hk'
      · exact hM hk'
      · simp only at hk'; omega
  · rcases hr.or h.nd p hp with rfl | ⟨hp, hne⟩
    · exact h1
    · rw [h2 _ hne]; exact h.own p hp
  · rcases hr.or h.nd p hp with rfl | ⟨hp, _⟩
    · exact hkey
    · exact h.key p hp

def allOne : List Value → Bool
  | [] => true
  | v :: r => v.oneCell' && allOne r

theorem setL_step : ∀ (l : List Value) (k : Nat) (u : Value) (us : List Value), k + 1 + us.length ≤ l.length → setL (l.set k u) (k + 1) us = setL l k (u :: us)
  | [], _, _, _, h => by simp at h
  | c :: r, 0, u, us, _ => by simp only [List.set_cons_zero]; cases us <;> simp [setL]
  | c :: r, k + 1, u, us, h => by
    simp only [List.set_cons_succ]
    rw [show setL (c :: r) (k + 1) (u :: us) = c :: setL r k (u :: us) by simp [setL], ← setL_step r k u us (by simp at h ⊢; omega)]
    cases us <;> simp [setL]

def FrOk (f : Nat × Nat) (n : Nat) : Prop := f.2 = 0 ∨ n ≤ f.1
theorem FrOk.zero {n : Nat} : FrOk (0, 0) n := .inl rfl
theorem FrOk.not {w : World} {r k n : Nat} {cs : Array Value} {T : TypeId} {f : Nat × Nat} (hf : FrOk f n) (h : w.heap[r]? = some (.cells cs T f)) (hk : k < n) : w.frozen? ⟨r, k, none⟩ = false := by
  obtain ⟨lo, hi⟩ := f
  simp only [World.frozen?, h, Bool.and_eq_false_iff, decide_eq_false_iff_not]
  rcases hf with hf | hf
  · right; simp only at hf; omega
  · left; simp only at hf; omega
theorem run_storeCellsF {r k : Nat} {T : TypeId} {f : Nat × Nat} : ∀ (vs : List Value) (l : List Value) (i : Nat) (w : World), w.heap[r]? = some (.cells l.toArray T f) → FrOk f l.length → allOne vs = true → k + i + vs.length ≤ l.length →
    ∃ w', (storeCells ⟨r, k, none⟩ vs i).run P w = .ok () w' ∧ w'.heap[r]? = some (.cells (setL l (k + i) vs).toArray T f) ∧ (∀ j, j ≠ r → w'.heap[j]? = w.heap[j]?) ∧ w'.heap.size = w.heap.size ∧ w'.os = w.os ∧ w'.tape = w.tape ∧ w'.output = w.output
  | [], l, i, w, h, _, _, _ => ⟨w, by simp [storeCells], by cases l <;> simpa [setL] using h, fun _ _ => rfl, rfl, rfl, rfl, rfl⟩
  | v :: vs, l, i, w, h, hfr, ho, hl => by
    simp only [allOne, Bool.and_eq_true] at ho
    have hlt : k + i < l.length := by simp at hl; omega
    have hc : w.cell? ⟨r, k + i, none⟩ = some l[k + i] := by simp [World.cell?, h, hlt]
    have hf : w.frozen? ⟨r, k + i, none⟩ = false := hfr.not h hlt
    have hs : (store ((Addr.mk r k none).add i) v).run P w = .ok () (w.setCell ⟨r, k + i, none⟩ v) := by
      rw [addr_add, run_store P w _ v .plain ho.1, hc]; simp [hf]
    have hh : (w.setCell ⟨r, k + i, none⟩ v).heap[r]? = some (.cells (l.set (k + i) v).toArray T f) := by
      simp [World.setCell, Array.getElem?_modify, h]
    obtain ⟨w', h1, h2, h3, h4, h5, h6, h7⟩ := run_storeCellsF (r := r) (k := k) (T := T) (f := f) vs (l.set (k + i) v) (i + 1) _ hh (by simpa using hfr) ho.2 (by simp at hl ⊢; omega)
    refine ⟨w', ?_, ?_, fun j hj => ?_, by rw [h4]; simp, h5, h6, h7⟩
    · simp only [storeCells, Sem.run_bind, hs, Result.andThen_ok, h1]
    · rw [h2, show k + (i + 1) = (k + i) + 1 by omega, setL_step l (k + i) v vs (by simp at hl; omega)]
    · rw [h3 j hj]; exact Below.heap_setCell w _ v j hj

theorem run_storeCells {r k : Nat} {T : TypeId} (vs : List Value) (l : List Value) (i : Nat) (w : World) (h : w.heap[r]? = some (.cells l.toArray T (0, 0))) (ho : allOne vs = true) (hk : k + i + vs.length ≤ l.length) :
    ∃ w', (storeCells ⟨r, k, none⟩ vs i).run P w = .ok () w' ∧ w'.heap[r]? = some (.cells (setL l (k + i) vs).toArray T (0, 0)) ∧ (∀ j, j ≠ r → w'.heap[j]? = w.heap[j]?) ∧ w'.heap.size = w.heap.size ∧ w'.os = w.os ∧ w'.tape = w.tape ∧ w'.output = w.output :=
  run_storeCellsF vs l i w h .zero ho hk
theorem w_store {t : TypeId} {x y : Operand} {v : Value} {r k n : Nat} {l l' : List Value} {T : TypeId} {L' : Heap} (hS : ∀ w, (sizeOf t).run P w = .ok n w) (hx : ev E x = some (.pointer (some ⟨r, k, none⟩)) := by rfl) (hy : ev E y = some v := by rfl)
    (hR : Repl r (.cells l.toArray T) (.cells l'.toArray T) L L' := by repeat (first | exact Repl.head | apply Repl.tail | apply Repl.app)) (hl : setL l k (cellsL v) = l' := by rfl) (hn : Nat.beq (cellsL v).length n = true := by rfl) (ho : allOne (cellsL v) = true := by rfl)
    (hk : Nat.ble (k + (cellsL v).length) l.length = true := by rfl) :
    RunW P N D b0 Mk L E (.store t x y) ty L' .skip := fun a w ha hw => by
  have hw0 := hw.own _ hR.mem
  simp only at hw0
  subst hl
  obtain ⟨w', h1, h2, h3, h4, h5, h6, h7⟩ := run_storeCells (P := P) (r := r) (k := k) (T := T) (cellsL v) l 0 w hw0 ho (by simpa using hk)
  refine ⟨w', ?_, hw.repl hR h2 h3 h4 h5 h6 h7⟩
  have hn' : (cellsL v).length = n := by simpa using hn
  simp [mkO, execOp, ha.eval hx, ha.eval hy, Instr.storeAt, Instr.sureAddr, storeVar, cellsL_eq, hS, hn', h1]
end ops

def argsE : Nat → List Value → Env
  | _, [] => []
  | i, v :: r => (i, v) :: argsE (i + 1) r

theorem look_argsE : ∀ (l : List Value) (i t : Nat) (v : Value), look (argsE i l) t = some v → ∃ j, t = i + j ∧ l[j]? = some v
  | [], _, _, _, h => by cases h
  | u :: r, i, t, v, h => by
    simp only [argsE, look] at h
    split at h
    · rename_i hb
      have := Nat.eq_of_beq_eq_true hb
      exact ⟨0, by omega, by simpa using h⟩
    · obtain ⟨j, h1, h2⟩ := look_argsE r (i + 1) t v h
      exact ⟨j + 1, by omega, by simpa using h2⟩

theorem holds_begin {N : Nat} (args : List Value) (h : Nat.ble args.length N = true) : Holds N [] (argsE 0 args) { tmps := args.toArray ++ Array.replicate (N - args.toArray.size) undef, defers := [] } := by
  have h' : args.length ≤ N := by simpa using h
  refine ⟨by simp; omega, rfl, fun t v hv => ?_⟩
  obtain ⟨j, h1, h2⟩ := look_argsE args 0 t v hv
  have hj := (List.getElem?_eq_some_iff.1 h2).1
  have : t = j := by omega
  subst this
  simp only [Array.getD_eq_getD_getElem?]
  rw [Array.getElem?_append_left (by simpa using hj)]
  simp [h2]

section fns
variable {P : Program} {f : FuncId} {fn : Func} {c : Code} {args : List Value} {N : Nat} {w : World} {R : Ending → World → Prop}

theorem enter (hf : P.funcs[f]? = some fn) (hN : fn.ntmps = N) (hb : fn.body = some c := by rfl) (ha : Nat.ble args.length N = true := by rfl)
    (h : J P none w [] N [] [] (argsE 0 args) c (bodyPost P fn R)) : Calls P f args.toArray w R := by
  subst hN
  exact callsIn_wide.1 (callsIn_of_wp (F := FW none) (n := 0) hf hb trivial (h _ w (holds_begin args ha) (SH.begin w)))

theorem enterM (Mk : List Nat) (L : Heap) (hL : ∀ p ∈ L, w.heap[p.1]? = some p.2) (hk : ∀ p ∈ L, p.1 ∈ Mk) (hnd : (L.map Prod.fst).Nodup) (hf : P.funcs[f]? = some fn) (hN : fn.ntmps = N) (hb : fn.body = some c := by rfl) (ha : Nat.ble args.length N = true := by rfl)
    (h : J P none w Mk N [] L (argsE 0 args) c (bodyPost P fn R)) : Calls P f args.toArray w R := by
  subst hN
  exact callsIn_wide.1 (callsIn_of_wp (F := FW none) (n := 0) hf hb trivial (h _ w (holds_begin args ha) ⟨rfl, rfl, rfl, Nat.le_refl _, fun _ _ _ => rfl, hL, fun p hp => .inl (hk p hp), hnd⟩))

/-- The results, off the slots and the blocks. -/
inductive Res (P : Program) (L : Heap) (E : Env) : List ResultVar → List Value → Prop
  | nil : Res P L E [] []
  | tmp {t : Tmp} {v : Value} {r : List ResultVar} {vs : List Value} (hv : look E t = some v) (h : Res P L E r vs) : Res P L E (.tmp t :: r) (v :: vs)
  | word {a : Tmp} {t : TypeId} {b : Nat} {l : List Value} {T : TypeId} {g : Nat × Nat} {v : Value} {r : List ResultVar} {vs : List Value} (hA : ∀ w, (isAgg t).run P w = .ok false w) (ha : look E a = some (.pointer (some ⟨b, 0, none⟩)))
      (hm : (b, Obj.cells l.toArray T g) ∈ L) (hv : nth l 0 = some v) (h : Res P L E r vs) : Res P L E (.cell a t :: r) (v :: vs)
  | agg {a : Tmp} {t : TypeId} {b n : Nat} {l : List Value} {T : TypeId} {g : Nat × Nat} {cs : List Value} {r : List ResultVar} {vs : List Value} (hA : ∀ w, (isAgg t).run P w = .ok true w) (hS : ∀ w, (sizeOf t).run P w = .ok n w)
      (ha : look E a = some (.pointer (some ⟨b, 0, none⟩))) (hm : (b, Obj.cells l.toArray T g) ∈ L) (hv : seg l 0 n = some cs) (h : Res P L E r vs) : Res P L E (.cell a t :: r) (.agg cs.toArray :: vs)

def resOf : List Value → Value
  | [v] => v
  | vs => .tuple vs.toArray

def resSem (a : Act) : ResultVar → Sem Value
  | .tmp t => pure (a.tmps.getD t undef)
  | .cell x t => do loadVar t (← asAddr (a.tmps.getD x undef))

theorem Res.run {b0 : World} {Mk : List Nat} {D : List Deferred} {L : Heap} {E : Env} {rs : List ResultVar} {vs : List Value} (h : Res P L E rs vs) {a : Act} {w : World} (ha : Holds N D E a) (hw : SH b0 Mk L w) :
    (rs.mapM (resSem a)).run P w = .ok vs w := by
  induction h with
  | nil => simp
  | @tmp t v r vs hv _ ih =>
    have h1 : (resSem a (.tmp t)).run P w = .ok v w := by simp only [resSem, ha.val _ _ hv, Sem.run_pure]
    rw [List.mapM_cons]
    simp only [Sem.run_bind, h1, Result.andThen_ok, ih, Sem.run_pure]
  | @word x t b l T g v r vs hA hx hm hv _ ih =>
    have hc := hw.cell hm (by rw [← nth_eq]; exact hv)
    have h1 : (resSem a (.cell x t)).run P w = .ok v w := by
      simp only [resSem, Sem.run_bind, ha.val _ _ hx, asAddr, Sem.run_pure, Result.andThen_ok, loadVar, hA, Bool.false_eq_true, if_false, run_load, hc]
    rw [List.mapM_cons]
    simp only [Sem.run_bind, h1, Result.andThen_ok, ih, Sem.run_pure]
  | @agg x t b n l T g cs r vs hA hS hx hm hv _ ih =>
    obtain ⟨h1, h2⟩ := seg_spec l n 0 cs hv
    have hl : (loadCells ⟨b, 0, none⟩ n).run P w = .ok cs.toArray w := by
      rw [← h1]
      exact run_loadCells_list w ⟨b, 0, none⟩ cs fun j v hj => by
        rw [addr_add]
        exact hw.cell hm (h2 j v hj)
    have h1 : (resSem a (.cell x t)).run P w = .ok (.agg cs.toArray) w := by
      simp only [resSem, Sem.run_bind, ha.val _ _ hx, asAddr, Sem.run_pure, Result.andThen_ok, loadVar, hA, if_true, hS, hl]
    rw [List.mapM_cons]
    simp only [Sem.run_bind, h1, Result.andThen_ok, ih, Sem.run_pure]

theorem run_results {b0 : World} {Mk : List Nat} {D : List Deferred} {L : Heap} {E : Env} {rs : List ResultVar} {vs : List Value} (hr : fn.results = rs.toArray) (h : Res P L E rs vs) {a : Act} {w : World} (ha : Holds N D E a) (hw : SH b0 Mk L w) :
    (results fn a.tmps).run P w = .ok (resOf vs) w := by
  have h1 := h.run ha hw
  have e : results fn a.tmps = (do let vs ← Array.mapM (resSem a) fn.results; pure (if h : vs.size = 1 then vs[0] else .tuple vs)) := by
    unfold results
    congr 1
  rw [e, hr]
  simp only [List.mapM_toArray, Sem.run_bind, Sem.run_map, h1, Result.andThen_ok, Sem.run_pure]
  congr 1
  cases vs with
  | nil => rfl
  | cons v r => cases r <;> rfl

theorem JX_ret {b0 : World} {Mk : List Nat} {L : Heap} {E : Env} {rs : List ResultVar} {vs : List Value} (hr : fn.results = rs.toArray) (h : Res P L E rs vs) (hR : ∀ w, SH b0 Mk L w → R (.returned (resOf vs)) w) :
    JX b0 Mk N [] L E (bodyPost P fn R) .ret := fun _ w ha hw => ⟨ha.defs, _, run_results hr h ha hw, hR w hw⟩
theorem JX_end {b0 : World} {Mk : List Nat} {L : Heap} {E : Env} {rs : List ResultVar} {vs : List Value} (hr : fn.results = rs.toArray) (h : Res P L E rs vs) (hR : ∀ w, SH b0 Mk L w → R (.returned (resOf vs)) w) :
    JX b0 Mk N [] L E (bodyPost P fn R) .normal := fun _ w ha hw => ⟨ha.defs, _, run_results hr h ha hw, hR w hw⟩

theorem Fresh.sub {w w' : World} {B B' : Heap} (h : Fresh w w' B) (hs : List.Sublist B' B) : Fresh w w' B' :=
  ⟨h.ext, fun p hp => h.own p (hs.subset hp), fun p hp => h.new p (hs.subset hp), (hs.map _).nodup h.nd⟩
end fns
end Go.Proofs.YtopjaeoklkpcpaaGreatDoor.Jd

namespace Go.Proofs.YtopjaeoklkpcpaaGreatDoor.Jd
open Go.RowKit (Below)
set_option linter.unusedVariables false
set_option linter.unusedSimpArgs false

def FinG (P : Program) (rd : Option Nat) (ops : Array Oper) (g n : Nat) (T : Act → World → Prop) (listed : Array Bool) (a : Act) (w : World) : Prop := Region.seqB .any ops g n listed = true ∧ T a w

def goodB (l : List Oper) (n : Nat) : Bool :=
  Nat.ble n l.length && l.all notDefer && (Nat.beq n l.length || (Region.sinkB .any l.toArray n && Region.chainB .any l.toArray n))

def JG (P : Program) (rd : Option Nat) (b0 : World) (Mk : List Nat) (N : Nat) (D : List Deferred) (l : List Oper) (n f : Nat) (listed : Array Bool) (L V : Heap) (E : Env) (T : Act → World → Prop) : Prop :=
  goodB l n = true → HeadInv .any l.toArray n listed → ∀ a w, Holds N D E a → SH b0 Mk (V ++ L) w → wpG P rd l.toArray n (FinG P rd l.toArray (l.length - n) n T) f (SH b0 Mk L) listed a w

def JO (P : Program) (rd : Option Nat) (b0 : World) (Mk : List Nat) (N : Nat) (D : List Deferred) (l : List Oper) (n f : Nat) (listed : Array Bool) (L V : Heap) (E : Env) (T : Act → World → Prop) (i : Nat) : Prop :=
  goodB l n = true → HeadInv .any l.toArray n (listed.setIfInBounds i true) → ∀ a w, Holds N D E a → SH b0 Mk (V ++ L) w →
    wpO P rd l.toArray i (fun a' w' => ∃ S' : World → Prop, (∀ x, S' x → SH b0 Mk L x) ∧ S' w' ∧ wpG P rd l.toArray n (FinG P rd l.toArray (l.length - n) n T) f S' (listed.setIfInBounds i true) a' w') a w

def takeB (l : List Oper) (n : Nat) (listed : Array Bool) (i : Nat) : Bool := Nat.blt i n && (Region.ready .any l.toArray listed).contains i && Region.free .any l.toArray listed i

section
variable {P : Program} {rd : Option Nat} {b0 : World} {Mk : List Nat} {N : Nat} {D : List Deferred} {l : List Oper} {n f : Nat} {listed : Array Bool} {L V : Heap} {E : Env} {T : Act → World → Prop}
variable {op : Op} {ty : TypeId} {pos : String} {after : Array Edge} {v : Value} {d : Nat}

theorem goodB_nd (h : goodB l n = true) : ∀ (j : Nat) (o : Oper), l.toArray[j]? = some o → notDefer o = true := fun j o ho => by
  simp only [goodB, Bool.and_eq_true] at h
  have : o ∈ l := by simpa using Array.mem_of_getElem? ho
  exact List.all_eq_true.1 h.1.2 o this

theorem goodB_tail (h : goodB l n = true) : ∀ listed, HeadInv .any l.toArray n listed → ∀ i, i < n → listed.getD i true = false → ∀ j ∈ Region.ready .any l.toArray listed, j < n := by
  simp only [goodB, Bool.and_eq_true, Nat.ble_eq] at h
  obtain ⟨⟨hn, _⟩, htl⟩ := h
  intro listed inv i hin hun j hj
  rw [Bool.or_eq_true] at htl
  rcases htl with htl | htl
  · have : n = l.length := by simpa using htl
    obtain ⟨_, oj, hoj, _⟩ := mem_ready.1 hj
    have := (Array.getElem?_eq_some_iff.1 hoj).1
    simp at this
    omega
  · simp only [Bool.and_eq_true] at htl
    rcases Nat.lt_or_ge j n with h' | h'
    · exact h'
    · rcases Nat.lt_or_ge n l.length with h2 | h2
      · exact absurd hj (tail_waits htl.1 htl.2 (by simpa using h2) inv _ i rfl hin hun j h')
      · obtain ⟨_, oj, hoj, _⟩ := mem_ready.1 hj
        have := (Array.getElem?_eq_some_iff.1 hoj).1
        simp at this
        omega

theorem J_any {id : Nat} {Q : Exit → Act → World → Prop} (hm : P.follows .mixedOrders = true) (n : Nat) (hg : goodB l n = true)
    (h : JG P rd b0 Mk N D l n n (Array.replicate l.length false) L V E (fun a w => wpL P rd l.toArray (Q .normal) (l.drop n) a w)) : J P rd b0 Mk N D (V ++ L) E (Code.region id l.toArray true) Q := by
  intro a w ha hw
  have inv0 : HeadInv .any l.toArray n (Array.replicate l.length false) :=
    ⟨by simp, fun j oj _ hl => (by rw [getD_replicate_false] at hl; cases hl), fun t _ ht => getD_in (by simpa using ht) (getD_replicate_false _ _)⟩
  have H := h hg inv0 a _ ha (hw.drawn (w.drawn + 1))
  have hn : n ≤ l.length := by simp only [goodB, Bool.and_eq_true, Nat.ble_eq] at hg; exact hg.1.1
  refine wpIn_nQ (wpIn_region_any hm ?_)
  have := wpAnyIn_of_wpG (Q := nQ (Q .normal)) (g := l.length - n) (fun listed a' w' hF => by
    have h1 := wpAnyIn_of_seq (P := P) (rd := rd) (ops := l.toArray) (l.drop n) n listed a' w' (fun j => by simp [List.getElem?_drop]) (by rw [List.length_drop]; exact hF.1) hF.2
    rwa [List.length_drop] at h1) _ _ _ _ _ H
  rw [show n + (l.length - n) = l.length by omega] at this
  simpa using this

theorem JG_q (i : Nat) (hi : l[i]? = some { dst := some d, op := op, type := ty, pos := pos, after := after, guard := none }) (ht : takeB l n listed i = true) (h : RunQ P N D b0 Mk L E op ty v) (hd : Nat.blt d N = true := by rfl)
    (k : JG P rd b0 Mk N D l n f (listed.setIfInBounds i true) L V ((d, v) :: E) T) : JG P rd b0 Mk N D l n (f + 1) listed L V E T := by
  intro hg inv a w ha hw
  simp only [takeB, Bool.and_eq_true, Nat.blt_eq] at ht
  obtain ⟨⟨hin, hr⟩, hf⟩ := ht
  have hi' : l.toArray[i]? = some { dst := some d, op := op, type := ty, pos := pos, after := after, guard := none } := by simpa using hi
  have hr' : i ∈ Region.ready .any l.toArray listed := by simpa using hr
  refine wpG_first hi' (goodB_nd hg) (goodB_tail hg) hin (fun listed' a' w' hF => seqB_ready hF.1) f _ listed a w inv (Region.free_spec hi' hf) hr' (v := v) (.inl ⟨by rfl, fun w' hw' => by rw [execOp_mkO]; exact h a w' ha hw'⟩) hw.right ?_
  exact k hg (inv.set hr' hin) _ _ (ha.put hd v) hw

theorem JG_br (rs : List Nat) (hr : Region.ready .any l.toArray listed = rs) (hb : (!rs.isEmpty && rs.all fun i => Nat.blt i n) = true) (h : ∀ i ∈ rs, JO P rd b0 Mk N D l n f listed L V E T i) : JG P rd b0 Mk N D l n (f + 1) listed L V E T := by
  intro hg inv a w ha hw
  simp only [Bool.and_eq_true, List.all_eq_true, Nat.blt_eq, Bool.not_eq_true'] at hb
  refine ⟨by rw [hr]; intro e; simp [e] at hb, fun i hi => ?_⟩
  have hin := hb.2 i (hr ▸ hi)
  exact ⟨hin, h i (hr ▸ hi) hg (inv.set hi hin) a w ha hw⟩

theorem JG_nil (hs : Region.seqB .any l.toArray (l.length - n) n listed = true) (tl : List Oper) (h : JL P rd b0 Mk N D l.toArray (V ++ L) E tl T) :
    JG P rd b0 Mk N D l n 0 listed L V E (fun a w => wpL P rd l.toArray T tl a w) := fun _ _ a w ha hw => ⟨hs, h a w ha hw⟩

theorem JO_a {o : Obj} {v : Nat → Value} {i : Nat} (hi : l[i]? = some { dst := some d, op := op, type := ty, pos := pos, after := after, guard := none }) (hM : ∀ k ∈ Mk, k < b0.heap.size) (h : RunA P N D b0 Mk L E op ty o v) (hn : notDeferOp op = true := by rfl) (hd : Nat.blt d N = true := by rfl)
    (k : ∀ r, b0.heap.size ≤ r → JG P rd b0 Mk N D l n f (listed.setIfInBounds i true) ((r, o) :: L) V ((d, v r) :: E) T) : JO P rd b0 Mk N D l n f listed L V E T i := by
  intro hg inv a w ha hw
  have hi' : l.toArray[i]? = some { dst := some d, op := op, type := ty, pos := pos, after := after, guard := none } := by simpa using hi
  unfold wpO
  simp only [hi']
  rw [if_pos (by rfl)]
  exact wpIn_value (notDefer_mk hn) (by rw [execOp_mkO]; exact h a w ha hw.right)
    ⟨SH b0 Mk ((w.heap.size, o) :: L), fun x hx => hx.sub (List.sublist_cons_self _ _), (hw.alloc_mid o hM).right, k _ hw.size hg inv _ _ (ha.put hd _) (hw.alloc_mid o hM)⟩

theorem JO_r {i : Nat} {fn : FuncId} {args : List Value} {X : Type} {v : X → Value} {B : X → Heap} (hi : l[i]? = some { dst := some d, op := op, type := ty, pos := pos, after := after, guard := none }) (hc : RunC P N D b0 Mk L E op ty fn args)
    (h : ∀ w, SH b0 Mk L w → Ret P fn args w X v B) (hn : notDeferOp op = true := by rfl) (hd : Nat.blt d N = true := by rfl)
    (k : ∀ x, JG P rd b0 Mk N D l n f (listed.setIfInBounds i true) (B x ++ L) V ((d, v x) :: E) T) : JO P rd b0 Mk N D l n f listed L V E T i := by
  intro hg inv a w ha hw
  have hi' : l.toArray[i]? = some { dst := some d, op := op, type := ty, pos := pos, after := after, guard := none } := by simpa using hi
  unfold wpO
  simp only [hi']
  rw [if_pos (by rfl)]
  refine wpIn_enter (notDefer_mk hn) (by rw [execOp_mkO]; exact hc a w ha hw.right) (((h w hw.right).shV hw).mono fun e w' he => ?_)
  obtain ⟨x, rfl, h2⟩ := he
  exact ⟨_, rfl, SH b0 Mk (B x ++ L), fun y hy => hy.right, h2.right, k x hg inv _ _ (ha.put hd _) h2⟩

theorem JO_v {i : Nat} {fn : FuncId} {args : List Value} (hi : l[i]? = some { dst := some d, op := op, type := ty, pos := pos, after := after, guard := none }) (hc : RunC P N D b0 Mk L E op ty fn args)
    (h : ∀ w, SH b0 Mk L w → Val P fn args w v) (hn : notDeferOp op = true := by rfl) (hd : Nat.blt d N = true := by rfl)
    (k : JG P rd b0 Mk N D l n f (listed.setIfInBounds i true) L V ((d, v) :: E) T) : JO P rd b0 Mk N D l n f listed L V E T i :=
  JO_r (X := Unit) (v := fun _ => v) (B := fun _ => []) hi hc (fun w hw => (h w hw).mono fun _ _ ⟨he, hf⟩ => ⟨(), he, Fresh.of_ext hf⟩) hn hd fun _ => k

end

section loops
variable {P : Program} {rd : Option Nat} {b0 : World} {Mk : List Nat} {N : Nat} {D : List Deferred} {L : Heap} {E : Env} {Q : Exit → Act → World → Prop} {c : Code}

def Round2 {σ1 σ2 : Type} (b0 : World) (Mk : List Nat) (N : Nat) (D : List Deferred) (Ls : σ1 → σ2 → Heap) (Es : σ1 → σ2 → Env) (I : σ1 → σ2 → Prop) (m : σ1 → σ2 → Nat) (n : Nat) : Act → World → Prop :=
  Round b0 Mk N D (fun s : σ1 × σ2 => Ls s.1 s.2) (fun s => Es s.1 s.2) (fun s => I s.1 s.2) (fun s => m s.1 s.2) n
theorem J_loop2 {σ1 σ2 : Type} (Ls : σ1 → σ2 → Heap) (Es : σ1 → σ2 → Env) (I : σ1 → σ2 → Prop) (m : σ1 → σ2 → Nat) (x1 : σ1) (x2 : σ2) (hI : I x1 x2) (hE : SubE E (Es x1 x2)) (hL : List.Perm L (Ls x1 x2))
    (h : ∀ s1 s2, I s1 s2 → J P rd b0 Mk N D (Ls s1 s2) (Es s1 s2) c (kInv (Round2 b0 Mk N D Ls Es I m (m s1 s2)) Q)) : J P rd b0 Mk N D L E (Code.loop c) Q :=
  J_loop (σ := σ1 × σ2) (fun s => Ls s.1 s.2) (fun s => Es s.1 s.2) (fun s => I s.1 s.2) (fun s => m s.1 s.2) (x1, x2) hI hE hL (fun s hI => h s.1 s.2 hI)
theorem JX_inv2 {σ1 σ2 : Type} {Ls : σ1 → σ2 → Heap} {Es : σ1 → σ2 → Env} {I : σ1 → σ2 → Prop} {m : σ1 → σ2 → Nat} {n : Nat} (s1 : σ1) (s2 : σ2) (hI : I s1 s2) (hm : m s1 s2 < n) (hE : SubE E (Es s1 s2)) (hL : List.Perm L (Ls s1 s2)) :
    JX b0 Mk N D L E (kInv (Round2 b0 Mk N D Ls Es I m n) Q) .normal := JX_inv (Ls := fun s : σ1 × σ2 => Ls s.1 s.2) (Es := fun s => Es s.1 s.2) (I := fun s => I s.1 s.2) (m := fun s => m s.1 s.2) (s1, s2) hI hm hE hL

def Round3 {σ1 σ2 σ3 : Type} (b0 : World) (Mk : List Nat) (N : Nat) (D : List Deferred) (Ls : σ1 → σ2 → σ3 → Heap) (Es : σ1 → σ2 → σ3 → Env) (I : σ1 → σ2 → σ3 → Prop) (m : σ1 → σ2 → σ3 → Nat) (n : Nat) : Act → World → Prop :=
  Round b0 Mk N D (fun s : σ1 × σ2 × σ3 => Ls s.1 s.2.1 s.2.2) (fun s => Es s.1 s.2.1 s.2.2) (fun s => I s.1 s.2.1 s.2.2) (fun s => m s.1 s.2.1 s.2.2) n
theorem J_loop3 {σ1 σ2 σ3 : Type} (Ls : σ1 → σ2 → σ3 → Heap) (Es : σ1 → σ2 → σ3 → Env) (I : σ1 → σ2 → σ3 → Prop) (m : σ1 → σ2 → σ3 → Nat) (x1 : σ1) (x2 : σ2) (x3 : σ3) (hI : I x1 x2 x3) (hE : SubE E (Es x1 x2 x3)) (hL : List.Perm L (Ls x1 x2 x3))
    (h : ∀ s1 s2 s3, I s1 s2 s3 → J P rd b0 Mk N D (Ls s1 s2 s3) (Es s1 s2 s3) c (kInv (Round3 b0 Mk N D Ls Es I m (m s1 s2 s3)) Q)) : J P rd b0 Mk N D L E (Code.loop c) Q :=
  J_loop (σ := σ1 × σ2 × σ3) (fun s => Ls s.1 s.2.1 s.2.2) (fun s => Es s.1 s.2.1 s.2.2) (fun s => I s.1 s.2.1 s.2.2) (fun s => m s.1 s.2.1 s.2.2) (x1, x2, x3) hI hE hL (fun s hI => h s.1 s.2.1 s.2.2 hI)
theorem JX_inv3 {σ1 σ2 σ3 : Type} {Ls : σ1 → σ2 → σ3 → Heap} {Es : σ1 → σ2 → σ3 → Env} {I : σ1 → σ2 → σ3 → Prop} {m : σ1 → σ2 → σ3 → Nat} {n : Nat} (s1 : σ1) (s2 : σ2) (s3 : σ3) (hI : I s1 s2 s3) (hm : m s1 s2 s3 < n) (hE : SubE E (Es s1 s2 s3)) (hL : List.Perm L (Ls s1 s2 s3)) :
    JX b0 Mk N D L E (kInv (Round3 b0 Mk N D Ls Es I m n) Q) .normal := JX_inv (Ls := fun s : σ1 × σ2 × σ3 => Ls s.1 s.2.1 s.2.2) (Es := fun s => Es s.1 s.2.1 s.2.2) (I := fun s => I s.1 s.2.1 s.2.2) (m := fun s => m s.1 s.2.1 s.2.2) (s1, s2, s3) hI hm hE hL
def Round5 {σ1 σ2 σ3 σ4 σ5 : Type} (b0 : World) (Mk : List Nat) (N : Nat) (D : List Deferred) (Ls : σ1 → σ2 → σ3 → σ4 → σ5 → Heap) (Es : σ1 → σ2 → σ3 → σ4 → σ5 → Env) (I : σ1 → σ2 → σ3 → σ4 → σ5 → Prop) (m : σ1 → σ2 → σ3 → σ4 → σ5 → Nat) (n : Nat) : Act → World → Prop :=
  Round b0 Mk N D (fun s : σ1 × σ2 × σ3 × σ4 × σ5 => Ls s.1 s.2.1 s.2.2.1 s.2.2.2.1 s.2.2.2.2) (fun s => Es s.1 s.2.1 s.2.2.1 s.2.2.2.1 s.2.2.2.2) (fun s => I s.1 s.2.1 s.2.2.1 s.2.2.2.1 s.2.2.2.2) (fun s => m s.1 s.2.1 s.2.2.1 s.2.2.2.1 s.2.2.2.2) n
theorem J_loop5 {σ1 σ2 σ3 σ4 σ5 : Type} (Ls : σ1 → σ2 → σ3 → σ4 → σ5 → Heap) (Es : σ1 → σ2 → σ3 → σ4 → σ5 → Env) (I : σ1 → σ2 → σ3 → σ4 → σ5 → Prop) (m : σ1 → σ2 → σ3 → σ4 → σ5 → Nat) (x1 : σ1) (x2 : σ2) (x3 : σ3) (x4 : σ4) (x5 : σ5) (hI : I x1 x2 x3 x4 x5) (hE : SubE E (Es x1 x2 x3 x4 x5)) (hL : List.Perm L (Ls x1 x2 x3 x4 x5))
    (h : ∀ s1 s2 s3 s4 s5, I s1 s2 s3 s4 s5 → J P rd b0 Mk N D (Ls s1 s2 s3 s4 s5) (Es s1 s2 s3 s4 s5) c (kInv (Round5 b0 Mk N D Ls Es I m (m s1 s2 s3 s4 s5)) Q)) : J P rd b0 Mk N D L E (Code.loop c) Q :=
  J_loop (σ := σ1 × σ2 × σ3 × σ4 × σ5) (fun s : σ1 × σ2 × σ3 × σ4 × σ5 => Ls s.1 s.2.1 s.2.2.1 s.2.2.2.1 s.2.2.2.2) (fun s => Es s.1 s.2.1 s.2.2.1 s.2.2.2.1 s.2.2.2.2) (fun s => I s.1 s.2.1 s.2.2.1 s.2.2.2.1 s.2.2.2.2) (fun s => m s.1 s.2.1 s.2.2.1 s.2.2.2.1 s.2.2.2.2) (x1, x2, x3, x4, x5) hI hE hL (fun s hI => h s.1 s.2.1 s.2.2.1 s.2.2.2.1 s.2.2.2.2 hI)
theorem JX_inv5 {σ1 σ2 σ3 σ4 σ5 : Type} {Ls : σ1 → σ2 → σ3 → σ4 → σ5 → Heap} {Es : σ1 → σ2 → σ3 → σ4 → σ5 → Env} {I : σ1 → σ2 → σ3 → σ4 → σ5 → Prop} {m : σ1 → σ2 → σ3 → σ4 → σ5 → Nat} {n : Nat} (s1 : σ1) (s2 : σ2) (s3 : σ3) (s4 : σ4) (s5 : σ5) (hI : I s1 s2 s3 s4 s5) (hm : m s1 s2 s3 s4 s5 < n) (hE : SubE E (Es s1 s2 s3 s4 s5)) (hL : List.Perm L (Ls s1 s2 s3 s4 s5)) :
    JX b0 Mk N D L E (kInv (Round5 b0 Mk N D Ls Es I m n) Q) .normal := JX_inv (Ls := fun s : σ1 × σ2 × σ3 × σ4 × σ5 => Ls s.1 s.2.1 s.2.2.1 s.2.2.2.1 s.2.2.2.2) (Es := fun s => Es s.1 s.2.1 s.2.2.1 s.2.2.2.1 s.2.2.2.2) (I := fun s => I s.1 s.2.1 s.2.2.1 s.2.2.2.1 s.2.2.2.2) (m := fun s => m s.1 s.2.1 s.2.2.1 s.2.2.2.1 s.2.2.2.2) (s1, s2, s3, s4, s5) hI hm hE hL
def Round6 {σ1 σ2 σ3 σ4 σ5 σ6 : Type} (b0 : World) (Mk : List Nat) (N : Nat) (D : List Deferred) (Ls : σ1 → σ2 → σ3 → σ4 → σ5 → σ6 → Heap) (Es : σ1 → σ2 → σ3 → σ4 → σ5 → σ6 → Env) (I : σ1 → σ2 → σ3 → σ4 → σ5 → σ6 → Prop) (m : σ1 → σ2 → σ3 → σ4 → σ5 → σ6 → Nat) (n : Nat) : Act → World → Prop :=
  Round b0 Mk N D (fun s : σ1 × σ2 × σ3 × σ4 × σ5 × σ6 => Ls s.1 s.2.1 s.2.2.1 s.2.2.2.1 s.2.2.2.2.1 s.2.2.2.2.2) (fun s => Es s.1 s.2.1 s.2.2.1 s.2.2.2.1 s.2.2.2.2.1 s.2.2.2.2.2) (fun s => I s.1 s.2.1 s.2.2.1 s.2.2.2.1 s.2.2.2.2.1 s.2.2.2.2.2) (fun s => m s.1 s.2.1 s.2.2.1 s.2.2.2.1 s.2.2.2.2.1 s.2.2.2.2.2) n
theorem J_loop6 {σ1 σ2 σ3 σ4 σ5 σ6 : Type} (Ls : σ1 → σ2 → σ3 → σ4 → σ5 → σ6 → Heap) (Es : σ1 → σ2 → σ3 → σ4 → σ5 → σ6 → Env) (I : σ1 → σ2 → σ3 → σ4 → σ5 → σ6 → Prop) (m : σ1 → σ2 → σ3 → σ4 → σ5 → σ6 → Nat) (x1 : σ1) (x2 : σ2) (x3 : σ3) (x4 : σ4) (x5 : σ5) (x6 : σ6) (hI : I x1 x2 x3 x4 x5 x6) (hE : SubE E (Es x1 x2 x3 x4 x5 x6)) (hL : List.Perm L (Ls x1 x2 x3 x4 x5 x6))
    (h : ∀ s1 s2 s3 s4 s5 s6, I s1 s2 s3 s4 s5 s6 → J P rd b0 Mk N D (Ls s1 s2 s3 s4 s5 s6) (Es s1 s2 s3 s4 s5 s6) c (kInv (Round6 b0 Mk N D Ls Es I m (m s1 s2 s3 s4 s5 s6)) Q)) : J P rd b0 Mk N D L E (Code.loop c) Q :=
  J_loop (σ := σ1 × σ2 × σ3 × σ4 × σ5 × σ6) (fun s : σ1 × σ2 × σ3 × σ4 × σ5 × σ6 => Ls s.1 s.2.1 s.2.2.1 s.2.2.2.1 s.2.2.2.2.1 s.2.2.2.2.2) (fun s => Es s.1 s.2.1 s.2.2.1 s.2.2.2.1 s.2.2.2.2.1 s.2.2.2.2.2) (fun s => I s.1 s.2.1 s.2.2.1 s.2.2.2.1 s.2.2.2.2.1 s.2.2.2.2.2) (fun s => m s.1 s.2.1 s.2.2.1 s.2.2.2.1 s.2.2.2.2.1 s.2.2.2.2.2) (x1, x2, x3, x4, x5, x6) hI hE hL (fun s hI => h s.1 s.2.1 s.2.2.1 s.2.2.2.1 s.2.2.2.2.1 s.2.2.2.2.2 hI)
theorem JX_inv6 {σ1 σ2 σ3 σ4 σ5 σ6 : Type} {Ls : σ1 → σ2 → σ3 → σ4 → σ5 → σ6 → Heap} {Es : σ1 → σ2 → σ3 → σ4 → σ5 → σ6 → Env} {I : σ1 → σ2 → σ3 → σ4 → σ5 → σ6 → Prop} {m : σ1 → σ2 → σ3 → σ4 → σ5 → σ6 → Nat} {n : Nat} (s1 : σ1) (s2 : σ2) (s3 : σ3) (s4 : σ4) (s5 : σ5) (s6 : σ6) (hI : I s1 s2 s3 s4 s5 s6) (hm : m s1 s2 s3 s4 s5 s6 < n) (hE : SubE E (Es s1 s2 s3 s4 s5 s6)) (hL : List.Perm L (Ls s1 s2 s3 s4 s5 s6)) :
    JX b0 Mk N D L E (kInv (Round6 b0 Mk N D Ls Es I m n) Q) .normal := JX_inv (Ls := fun s : σ1 × σ2 × σ3 × σ4 × σ5 × σ6 => Ls s.1 s.2.1 s.2.2.1 s.2.2.2.1 s.2.2.2.2.1 s.2.2.2.2.2) (Es := fun s => Es s.1 s.2.1 s.2.2.1 s.2.2.2.1 s.2.2.2.2.1 s.2.2.2.2.2) (I := fun s => I s.1 s.2.1 s.2.2.1 s.2.2.2.1 s.2.2.2.2.1 s.2.2.2.2.2) (m := fun s => m s.1 s.2.1 s.2.2.1 s.2.2.2.1 s.2.2.2.2.1 s.2.2.2.2.2) (s1, s2, s3, s4, s5, s6) hI hm hE hL
def Round7 {σ1 σ2 σ3 σ4 σ5 σ6 σ7 : Type} (b0 : World) (Mk : List Nat) (N : Nat) (D : List Deferred) (Ls : σ1 → σ2 → σ3 → σ4 → σ5 → σ6 → σ7 → Heap) (Es : σ1 → σ2 → σ3 → σ4 → σ5 → σ6 → σ7 → Env) (I : σ1 → σ2 → σ3 → σ4 → σ5 → σ6 → σ7 → Prop) (m : σ1 → σ2 → σ3 → σ4 → σ5 → σ6 → σ7 → Nat) (n : Nat) : Act → World → Prop :=
  Round b0 Mk N D (fun s : σ1 × σ2 × σ3 × σ4 × σ5 × σ6 × σ7 => Ls s.1 s.2.1 s.2.2.1 s.2.2.2.1 s.2.2.2.2.1 s.2.2.2.2.2.1 s.2.2.2.2.2.2) (fun s => Es s.1 s.2.1 s.2.2.1 s.2.2.2.1 s.2.2.2.2.1 s.2.2.2.2.2.1 s.2.2.2.2.2.2) (fun s => I s.1 s.2.1 s.2.2.1 s.2.2.2.1 s.2.2.2.2.1 s.2.2.2.2.2.1 s.2.2.2.2.2.2) (fun s => m s.1 s.2.1 s.2.2.1 s.2.2.2.1 s.2.2.2.2.1 s.2.2.2.2.2.1 s.2.2.2.2.2.2) n
theorem J_loop7 {σ1 σ2 σ3 σ4 σ5 σ6 σ7 : Type} (Ls : σ1 → σ2 → σ3 → σ4 → σ5 → σ6 → σ7 → Heap) (Es : σ1 → σ2 → σ3 → σ4 → σ5 → σ6 → σ7 → Env) (I : σ1 → σ2 → σ3 → σ4 → σ5 → σ6 → σ7 → Prop) (m : σ1 → σ2 → σ3 → σ4 → σ5 → σ6 → σ7 → Nat) (x1 : σ1) (x2 : σ2) (x3 : σ3) (x4 : σ4) (x5 : σ5) (x6 : σ6) (x7 : σ7) (hI : I x1 x2 x3 x4 x5 x6 x7) (hE : SubE E (Es x1 x2 x3 x4 x5 x6 x7)) (hL : List.Perm L (Ls x1 x2 x3 x4 x5 x6 x7))
    (h : ∀ s1 s2 s3 s4 s5 s6 s7, I s1 s2 s3 s4 s5 s6 s7 → J P rd b0 Mk N D (Ls s1 s2 s3 s4 s5 s6 s7) (Es s1 s2 s3 s4 s5 s6 s7) c (kInv (Round7 b0 Mk N D Ls Es I m (m s1 s2 s3 s4 s5 s6 s7)) Q)) : J P rd b0 Mk N D L E (Code.loop c) Q :=
  J_loop (σ := σ1 × σ2 × σ3 × σ4 × σ5 × σ6 × σ7) (fun s : σ1 × σ2 × σ3 × σ4 × σ5 × σ6 × σ7 => Ls s.1 s.2.1 s.2.2.1 s.2.2.2.1 s.2.2.2.2.1 s.2.2.2.2.2.1 s.2.2.2.2.2.2) (fun s => Es s.1 s.2.1 s.2.2.1 s.2.2.2.1 s.2.2.2.2.1 s.2.2.2.2.2.1 s.2.2.2.2.2.2) (fun s => I s.1 s.2.1 s.2.2.1 s.2.2.2.1 s.2.2.2.2.1 s.2.2.2.2.2.1 s.2.2.2.2.2.2) (fun s => m s.1 s.2.1 s.2.2.1 s.2.2.2.1 s.2.2.2.2.1 s.2.2.2.2.2.1 s.2.2.2.2.2.2) (x1, x2, x3, x4, x5, x6, x7) hI hE hL (fun s hI => h s.1 s.2.1 s.2.2.1 s.2.2.2.1 s.2.2.2.2.1 s.2.2.2.2.2.1 s.2.2.2.2.2.2 hI)
theorem JX_inv7 {σ1 σ2 σ3 σ4 σ5 σ6 σ7 : Type} {Ls : σ1 → σ2 → σ3 → σ4 → σ5 → σ6 → σ7 → Heap} {Es : σ1 → σ2 → σ3 → σ4 → σ5 → σ6 → σ7 → Env} {I : σ1 → σ2 → σ3 → σ4 → σ5 → σ6 → σ7 → Prop} {m : σ1 → σ2 → σ3 → σ4 → σ5 → σ6 → σ7 → Nat} {n : Nat} (s1 : σ1) (s2 : σ2) (s3 : σ3) (s4 : σ4) (s5 : σ5) (s6 : σ6) (s7 : σ7) (hI : I s1 s2 s3 s4 s5 s6 s7) (hm : m s1 s2 s3 s4 s5 s6 s7 < n) (hE : SubE E (Es s1 s2 s3 s4 s5 s6 s7)) (hL : List.Perm L (Ls s1 s2 s3 s4 s5 s6 s7)) :
    JX b0 Mk N D L E (kInv (Round7 b0 Mk N D Ls Es I m n) Q) .normal := JX_inv (Ls := fun s : σ1 × σ2 × σ3 × σ4 × σ5 × σ6 × σ7 => Ls s.1 s.2.1 s.2.2.1 s.2.2.2.1 s.2.2.2.2.1 s.2.2.2.2.2.1 s.2.2.2.2.2.2) (Es := fun s => Es s.1 s.2.1 s.2.2.1 s.2.2.2.1 s.2.2.2.2.1 s.2.2.2.2.2.1 s.2.2.2.2.2.2) (I := fun s => I s.1 s.2.1 s.2.2.1 s.2.2.2.1 s.2.2.2.2.1 s.2.2.2.2.2.1 s.2.2.2.2.2.2) (m := fun s => m s.1 s.2.1 s.2.2.1 s.2.2.2.1 s.2.2.2.2.1 s.2.2.2.2.2.1 s.2.2.2.2.2.2) (s1, s2, s3, s4, s5, s6, s7) hI hm hE hL
def Round8 {σ1 σ2 σ3 σ4 σ5 σ6 σ7 σ8 : Type} (b0 : World) (Mk : List Nat) (N : Nat) (D : List Deferred) (Ls : σ1 → σ2 → σ3 → σ4 → σ5 → σ6 → σ7 → σ8 → Heap) (Es : σ1 → σ2 → σ3 → σ4 → σ5 → σ6 → σ7 → σ8 → Env) (I : σ1 → σ2 → σ3 → σ4 → σ5 → σ6 → σ7 → σ8 → Prop) (m : σ1 → σ2 → σ3 → σ4 → σ5 → σ6 → σ7 → σ8 → Nat) (n : Nat) : Act → World → Prop :=
  Round b0 Mk N D (fun s : σ1 × σ2 × σ3 × σ4 × σ5 × σ6 × σ7 × σ8 => Ls s.1 s.2.1 s.2.2.1 s.2.2.2.1 s.2.2.2.2.1 s.2.2.2.2.2.1 s.2.2.2.2.2.2.1 s.2.2.2.2.2.2.2) (fun s => Es s.1 s.2.1 s.2.2.1 s.2.2.2.1 s.2.2.2.2.1 s.2.2.2.2.2.1 s.2.2.2.2.2.2.1 s.2.2.2.2.2.2.2) (fun s => I s.1 s.2.1 s.2.2.1 s.2.2.2.1 s.2.2.2.2.1 s.2.2.2.2.2.1 s.2.2.2.2.2.2.1 s.2.2.2.2.2.2.2) (fun s => m s.1 s.2.1 s.2.2.1 s.2.2.2.1 s.2.2.2.2.1 s.2.2.2.2.2.1 s.2.2.2.2.2.2.1 s.2.2.2.2.2.2.2) n
theorem J_loop8 {σ1 σ2 σ3 σ4 σ5 σ6 σ7 σ8 : Type} (Ls : σ1 → σ2 → σ3 → σ4 → σ5 → σ6 → σ7 → σ8 → Heap) (Es : σ1 → σ2 → σ3 → σ4 → σ5 → σ6 → σ7 → σ8 → Env) (I : σ1 → σ2 → σ3 → σ4 → σ5 → σ6 → σ7 → σ8 → Prop) (m : σ1 → σ2 → σ3 → σ4 → σ5 → σ6 → σ7 → σ8 → Nat) (x1 : σ1) (x2 : σ2) (x3 : σ3) (x4 : σ4) (x5 : σ5) (x6 : σ6) (x7 : σ7) (x8 : σ8) (hI : I x1 x2 x3 x4 x5 x6 x7 x8) (hE : SubE E (Es x1 x2 x3 x4 x5 x6 x7 x8)) (hL : List.Perm L (Ls x1 x2 x3 x4 x5 x6 x7 x8))
    (h : ∀ s1 s2 s3 s4 s5 s6 s7 s8, I s1 s2 s3 s4 s5 s6 s7 s8 → J P rd b0 Mk N D (Ls s1 s2 s3 s4 s5 s6 s7 s8) (Es s1 s2 s3 s4 s5 s6 s7 s8) c (kInv (Round8 b0 Mk N D Ls Es I m (m s1 s2 s3 s4 s5 s6 s7 s8)) Q)) : J P rd b0 Mk N D L E (Code.loop c) Q :=
  J_loop (σ := σ1 × σ2 × σ3 × σ4 × σ5 × σ6 × σ7 × σ8) (fun s : σ1 × σ2 × σ3 × σ4 × σ5 × σ6 × σ7 × σ8 => Ls s.1 s.2.1 s.2.2.1 s.2.2.2.1 s.2.2.2.2.1 s.2.2.2.2.2.1 s.2.2.2.2.2.2.1 s.2.2.2.2.2.2.2) (fun s => Es s.1 s.2.1 s.2.2.1 s.2.2.2.1 s.2.2.2.2.1 s.2.2.2.2.2.1 s.2.2.2.2.2.2.1 s.2.2.2.2.2.2.2) (fun s => I s.1 s.2.1 s.2.2.1 s.2.2.2.1 s.2.2.2.2.1 s.2.2.2.2.2.1 s.2.2.2.2.2.2.1 s.2.2.2.2.2.2.2) (fun s => m s.1 s.2.1 s.2.2.1 s.2.2.2.1 s.2.2.2.2.1 s.2.2.2.2.2.1 s.2.2.2.2.2.2.1 s.2.2.2.2.2.2.2) (x1, x2, x3, x4, x5, x6, x7, x8) hI hE hL (fun s hI => h s.1 s.2.1 s.2.2.1 s.2.2.2.1 s.2.2.2.2.1 s.2.2.2.2.2.1 s.2.2.2.2.2.2.1 s.2.2.2.2.2.2.2 hI)
theorem JX_inv8 {σ1 σ2 σ3 σ4 σ5 σ6 σ7 σ8 : Type} {Ls : σ1 → σ2 → σ3 → σ4 → σ5 → σ6 → σ7 → σ8 → Heap} {Es : σ1 → σ2 → σ3 → σ4 → σ5 → σ6 → σ7 → σ8 → Env} {I : σ1 → σ2 → σ3 → σ4 → σ5 → σ6 → σ7 → σ8 → Prop} {m : σ1 → σ2 → σ3 → σ4 → σ5 → σ6 → σ7 → σ8 → Nat} {n : Nat} (s1 : σ1) (s2 : σ2) (s3 : σ3) (s4 : σ4) (s5 : σ5) (s6 : σ6) (s7 : σ7) (s8 : σ8) (hI : I s1 s2 s3 s4 s5 s6 s7 s8) (hm : m s1 s2 s3 s4 s5 s6 s7 s8 < n) (hE : SubE E (Es s1 s2 s3 s4 s5 s6 s7 s8)) (hL : List.Perm L (Ls s1 s2 s3 s4 s5 s6 s7 s8)) :
    JX b0 Mk N D L E (kInv (Round8 b0 Mk N D Ls Es I m n) Q) .normal := JX_inv (Ls := fun s : σ1 × σ2 × σ3 × σ4 × σ5 × σ6 × σ7 × σ8 => Ls s.1 s.2.1 s.2.2.1 s.2.2.2.1 s.2.2.2.2.1 s.2.2.2.2.2.1 s.2.2.2.2.2.2.1 s.2.2.2.2.2.2.2) (Es := fun s => Es s.1 s.2.1 s.2.2.1 s.2.2.2.1 s.2.2.2.2.1 s.2.2.2.2.2.1 s.2.2.2.2.2.2.1 s.2.2.2.2.2.2.2) (I := fun s => I s.1 s.2.1 s.2.2.1 s.2.2.2.1 s.2.2.2.2.1 s.2.2.2.2.2.1 s.2.2.2.2.2.2.1 s.2.2.2.2.2.2.2) (m := fun s => m s.1 s.2.1 s.2.2.1 s.2.2.2.1 s.2.2.2.2.1 s.2.2.2.2.2.1 s.2.2.2.2.2.2.1 s.2.2.2.2.2.2.2) (s1, s2, s3, s4, s5, s6, s7, s8) hI hm hE hL
end loops

theorem noMk {n : Nat} : ∀ k ∈ ([] : List Nat), k < n := fun _ h => by cases h

theorem gD {α : Type} [Inhabited α] {xs : List α} {m : Nat} (h : m < xs.length) : xs[m]? = some (xs.getD m default) := by
  simp [List.getD, List.getElem?_eq_getElem h]

section ops
variable {P : Program} {b0 : World} {Mk : List Nat} {N : Nat} {D : List Deferred} {L V : Heap} {E : Env} {ty : TypeId}

theorem a_bslice {t e k len : Nat} {z : Value} {parts : List (Nat × Operand)} {ps : List (Nat × List Value)} {l zs : List Value} (hU : ∀ w, (underlying t).run P w = .ok (.slice e) w) (hS : ∀ w, (sizeOf e).run P w = .ok k w) (hz : ∀ w, (zeroValue e).run P w = .ok z w)
    (hv : evp E parts = some ps := by rfl) (hb : Nat.ble (len * k) 16777216 = true := by rfl) (hzs : ((List.range (len * k)).map fun i => (cellsL z).getD (i % (cellsL z).length) undef) = zs := by rfl) (hzl : Nat.blt 0 (cellsL z).length = true := by rfl)
    (hf : fillL ((List.range len).map fun i => (i * k, k)) zs ps = some l := by rfl) :
    RunA P N D b0 Mk L E (.buildSlice t len parts.toArray) ty (.cells l.toArray e) (fun r => .slice (some ⟨r, 0, none⟩) len len) := fun a w ha _ => by
  have h1 := ha.evalp hv
  subst h1
  have hb' : ¬ (len * k > 2 ^ 24) := by
    have h2 : len * k ≤ 16777216 := by simpa using hb
    omega
  have hzl' : 0 < (cellsL z).length := by simpa using hzl
  have hz0 : ∃ z0 : Array Value, (if len * k = 0 then (pure #[] : Sem (Array Value)) else do pure (← zeroValue e).cells).run P w = .ok z0 w ∧ (Array.range (len * k)).map (fun i => z0[i % z0.size]!) = zs.toArray := by
    by_cases h0 : len * k = 0
    · refine ⟨#[], by simp [h0], ?_⟩
      subst hzs
      simp [h0]
    · refine ⟨(cellsL z).toArray, by simp [h0, hz, cellsL_eq], ?_⟩
      subst hzs
      apply Array.ext'
      simp only [Array.toList_map, Array.toList_range]
      apply List.map_congr_left
      intro i _
      have hm : i % (cellsL z).length < (cellsL z).length := Nat.mod_lt _ hzl'
      simp [List.getD, hm]
  obtain ⟨z0, hz1, hz2⟩ := hz0
  have hfl := fill_fillL ((List.range len).map fun i => (i * k, k)) (fun i => some (i * k, k)) (fun i q hq => by
    simp only [List.getElem?_map] at hq
    cases hr : (List.range len)[i]? with
    | none => simp [hr] at hq
    | some j =>
      have : j = i := by
        have := List.getElem?_eq_some_iff.1 hr
        obtain ⟨h1, h2⟩ := this
        simpa using h2.symm
      subst this
      simp [hr] at hq
      simp [hq]) (parts.map fun p => (p.1, a.eval p.2)) zs l (by rw [List.map_map]; exact hf)
  by_cases h0 : len * k = 0
  · have hz3 : z0 = #[] := by simp [h0] at hz1; exact hz1
    subst hz3
    simp only [mkO, execOp, Instr.buildSlice, Sem.run_bind, hU, hS, Result.andThen_ok, hb', if_false, Sem.run_pure, if_pos h0]
    have e2 : (Array.map (fun (x : Nat × Operand) => (x.1, a.eval x.2)) parts.toArray).toList = parts.map fun p => (p.1, a.eval p.2) := by simp
    simp only [hz2, e2, hfl]
    simp [newRow]
  · have hz3 : z.cells = z0 := by simp [h0, hz] at hz1; exact hz1
    simp only [mkO, execOp, Instr.buildSlice, Sem.run_bind, hU, hS, Result.andThen_ok, hb', if_false, Sem.run_pure, if_neg h0, hz, hz3]
    have e2 : (Array.map (fun (x : Nat × Operand) => (x.1, a.eval x.2)) parts.toArray).toList = parts.map fun p => (p.1, a.eval p.2) := by simp
    simp only [hz2, e2, hfl]
    simp [newRow]
end ops
end Go.Proofs.YtopjaeoklkpcpaaGreatDoor.Jd

namespace Go.Proofs.YtopjaeoklkpcpaaGreatDoor.Jd
open Go.RowKit (Below)
set_option linter.unusedVariables false
set_option linter.unusedSimpArgs false

def keys (H : Heap) : List Nat := H.map Prod.fst

/-- From w to w': of what was there only the blocks of H have changed (into those of H'); there may be new ones. -/
structure Tr (w w' : World) (H H' : Heap) : Prop where
  os : w'.os = w.os
  tape : w'.tape = w.tape
  output : w'.output = w.output
  size : w.heap.size ≤ w'.heap.size
  same : ∀ k, k < w.heap.size → k ∉ keys H → w'.heap[k]? = w.heap[k]?
  own : ∀ p ∈ H', w'.heap[p.1]? = some p.2
  key : ∀ p ∈ H', p.1 ∈ keys H ∨ w.heap.size ≤ p.1
  nd : (keys H').Nodup

theorem mem_keys {H : Heap} {p : Nat × Obj} (h : p ∈ H) : p.1 ∈ keys H := List.mem_map_of_mem h
theorem keys_mem {H : Heap} {k : Nat} (h : k ∈ keys H) : ∃ o, (k, o) ∈ H := by
  obtain ⟨⟨a, b⟩, h1, rfl⟩ := List.mem_map.1 h
  exact ⟨b, h1⟩
theorem keys_append (A B : Heap) : keys (A ++ B) = keys A ++ keys B := List.map_append

theorem Tr.refl {w : World} {H : Heap} (h : ∀ p ∈ H, w.heap[p.1]? = some p.2) (hn : (keys H).Nodup) : Tr w w H H :=
  ⟨rfl, rfl, rfl, Nat.le_refl _, fun _ _ _ => rfl, h, fun p hp => .inl (mem_keys hp), hn⟩

theorem Tr.trans {w w1 w2 : World} {H H1 H2 : Heap} (h : Tr w w1 H H1) (k : Tr w1 w2 H1 H2) : Tr w w2 H H2 := by
  refine ⟨k.os.trans h.os, k.tape.trans h.tape, k.output.trans h.output, Nat.le_trans h.size k.size, fun j hj hn => ?_, k.own, fun p hp => ?_, k.nd⟩
  · rw [k.same j (Nat.lt_of_lt_of_le hj h.size) (fun hm => ?_), h.same j hj hn]
    obtain ⟨o, ho⟩ := keys_mem hm
    rcases h.key _ ho with h1 | h1
    · exact hn h1
    · simp only at h1; omega
  · rcases k.key p hp with h1 | h1
    · obtain ⟨o, ho⟩ := keys_mem h1
      have := h.key _ ho
      exact this
    · exact .inr (Nat.le_trans h.size h1)

theorem Tr.frame {w w' : World} {H H' R : Heap} (h : Tr w w' H H') (hR : ∀ p ∈ R, w.heap[p.1]? = some p.2) (hn : (keys (H ++ R)).Nodup) : Tr w w' (H ++ R) (H' ++ R) := by
  rw [keys_append, List.nodup_append] at hn
  have hlt : ∀ p ∈ R, p.1 < w.heap.size := fun p hp => (Array.getElem?_eq_some_iff.1 (hR p hp)).1
  have hno : ∀ p ∈ R, p.1 ∉ keys H := fun p hp hm => hn.2.2 _ hm _ (mem_keys hp) rfl
  refine ⟨h.os, h.tape, h.output, h.size, fun k hk hk2 => h.same k hk (fun hm => hk2 (by rw [keys_append]; exact List.mem_append_left _ hm)), fun p hp => ?_, fun p hp => ?_, ?_⟩
  · rcases List.mem_append.1 hp with hp | hp
    · exact h.own p hp
    · rw [h.same _ (hlt p hp) (hno p hp)]; exact hR p hp
  · rcases List.mem_append.1 hp with hp | hp
    · exact (h.key p hp).imp (fun hm => by rw [keys_append]; exact List.mem_append_left _ hm) id
    · exact .inl (by rw [keys_append]; exact List.mem_append_right _ (mem_keys hp))
  · rw [keys_append, List.nodup_append]
    refine ⟨h.nd, hn.2.1, fun a ha b hb e => ?_⟩
    subst e
    obtain ⟨o, ho⟩ := keys_mem ha
    obtain ⟨o2, ho2⟩ := keys_mem hb
    rcases h.key _ ho with h1 | h1
    · exact hno _ ho2 h1
    · have := hlt _ ho2; simp only at h1 this; omega

theorem SH.tr {b0 : World} {Mk : List Nat} {H H' L : Heap} {w w' : World} (h : SH b0 Mk (H ++ L) w) (ht : Tr w w' H H') : SH b0 Mk (H' ++ L) w' := by
  have hf := ht.frame (R := L) (fun p hp => h.own p (List.mem_append_right _ hp)) h.nd
  refine ⟨ht.os.trans h.os, ht.tape.trans h.tape, ht.output.trans h.output, Nat.le_trans h.size ht.size, fun k hk hM => ?_, hf.own, fun p hp => ?_, hf.nd⟩
  · rw [ht.same k (Nat.lt_of_lt_of_le hk h.size) (fun hm => ?_)]
    · exact h.same k hk hM
    · obtain ⟨o, ho⟩ := keys_mem hm
      rcases h.key _ (List.mem_append_left _ ho) with h1 | h1
      · exact hM h1
      · simp only at h1; omega
  · rcases hf.key p hp with h1 | h1
    · obtain ⟨o, ho⟩ := keys_mem h1
      have := h.key _ ho
      exact this
    · exact .inr (Nat.le_trans h.size h1)

theorem SH.tr_out {b0 : World} {H L : Heap} {w : World} (h : SH b0 (keys H) L w) : Tr b0 w H L :=
  ⟨h.os, h.tape, h.output, h.size, h.same, h.own, h.key, h.nd⟩

theorem Tr.sub {w w' : World} {H H' H2 : Heap} (h : Tr w w' H H') (hs : List.Sublist H2 H') : Tr w w' H H2 :=
  ⟨h.os, h.tape, h.output, h.size, h.same, fun p hp => h.own p (hs.subset hp), fun p hp => h.key p (hs.subset hp), (hs.map _).nodup h.nd⟩
theorem Tr.perm {w w' : World} {H H' H2 : Heap} (h : Tr w w' H H') (hs : List.Perm H' H2) : Tr w w' H H2 :=
  ⟨h.os, h.tape, h.output, h.size, h.same, fun p hp => h.own p (hs.mem_iff.2 hp), fun p hp => h.key p (hs.mem_iff.2 hp), (hs.map _).nodup_iff.1 h.nd⟩

theorem Tr.ext {w w' : World} {H : Heap} (hH : ∀ p ∈ H, w.heap[p.1]? = some p.2) (h : Tr w w' H H) : Ext w w' :=
  ⟨h.os, h.tape, h.output, h.size, fun k hk => by
    by_cases hm : k ∈ keys H
    · obtain ⟨o, ho⟩ := keys_mem hm
      have h1 := h.own _ ho
      have h2 := hH _ ho
      simp only at h1 h2
      rw [h1, h2]
    · exact h.same k hk hm⟩

section
variable {P : Program} {rd : Option Nat} {b0 : World} {Mk : List Nat} {N : Nat} {D : List Deferred} {ops : Array Oper} {L L' V : Heap} {E : Env} {Q : Exit → Act → World → Prop} {T : Act → World → Prop}
variable {op : Op} {ty : TypeId} {pos : String} {after : Array Edge} {v : Value} {d : Nat}

def YCall (P : Program) (l : Nat) (vs : List Value) (w : World) (R : Ending → World → Prop) : Prop :=
  ∃ fn tmps assign body, (Instr.yield l vs.toArray).run P w = .ok (.round l fn tmps assign body) w ∧ RoundIn (FW none) 0 P l fn tmps assign body w R

theorem roundIn_rd {l : Nat} {fn : FuncId} {tmps : Array Value} {assign body : Code} {w : World} {R : Ending → World → Prop} (h : RoundIn (FW none) 0 P l fn tmps assign body w R) : RoundIn (FW rd) 0 P l fn tmps assign body w R :=
  ⟨trivial, fun c cs _ => h.2 c cs (FW_room _ _)⟩

/-- The loop's record, as it was laid. -/
structure IsLoop (N : Nat) (E : Env) (ps : Array Tmp) (assign body : Code) (r : Loop) : Prop where
  ps : r.params = ps
  assign : r.assign = assign
  body : r.body = body
  hold : Holds N [] E { tmps := r.tmps, defers := [] }

def loopAt (r : Loop) (st : LoopState) (j : Option Code) : Obj := .loop { r with state := st, pending := j }

def paramsE : List Tmp → List Value → Env → Env
  | t :: ts, v :: vs, E => paramsE ts vs ((t, v) :: E)
  | _, _, E => E

theorem holds_params : ∀ (ts : List Tmp) (vs : List Value) (E : Env) (tmps : Array Value), (ts.all fun t => Nat.blt t N) = true → Holds N [] E { tmps := tmps, defers := [] } →
    Holds N [] (paramsE ts vs E) { tmps := (ts.zip vs).foldl (fun (tmps : Array Value) (x : Tmp × Value) => tmps.setIfInBounds x.1 x.2) tmps, defers := [] }
  | [], _, _, _, _, h => by simpa [paramsE] using h
  | t :: ts, [], _, _, _, h => by simpa [paramsE] using h
  | t :: ts, v :: vs, E, tmps, hl, h => by
    simp only [List.all_cons, Bool.and_eq_true] at hl
    exact holds_params ts vs _ _ hl.2 (h.put hl.1 v)

def kRound (P : Program) (l : Nat) (R : Ending → World → Prop) : Exit → Act → World → Prop := roundPost P l R

theorem run_yield' {w : World} {l : Nat} {r : Loop} {vs : List Value} (h : w.heap[l]? = some (.loop r)) (hs : Nat.beq vs.length r.params.size = true) :
    (Instr.yield l vs.toArray).run P w = .ok (.round l r.fn ((r.params.toList.zip vs).foldl (fun (tmps : Array Value) (x : Tmp × Value) => tmps.setIfInBounds x.1 x.2) r.tmps) r.assign r.body) w := by
  have hs' : vs.length = r.params.size := by simpa using hs
  have e : (r.params.zip vs.toArray) = (r.params.toList.zip vs).toArray := by
    apply Array.ext'; simp
  simp only [Instr.yield, Sem.run_bind, run_getLoop h, Result.andThen_ok]
  rw [if_neg (by simpa using hs')]
  simp [e]

theorem putObj_tr {w : World} {l : Nat} {o o' : Obj} {R : Heap} (h : w.heap[l]? = some o) (hR : ∀ p ∈ R, w.heap[p.1]? = some p.2) (hn : (keys ((l, o) :: R)).Nodup) : Tr w (w.putObj l o') ((l, o) :: R) ((l, o') :: R) := by
  have hlt := (Array.getElem?_eq_some_iff.1 h).1
  have hn' : (keys ((l, o') :: R)).Nodup := hn
  simp only [keys, List.map_cons, List.nodup_cons] at hn
  refine ⟨rfl, rfl, rfl, by simp [World.putObj], fun k _ hk => World.putObj_heap_other (fun e => hk (by subst e; exact List.mem_cons_self)), fun p hp => ?_, fun p hp => .inl ?_, hn'⟩
  · rcases List.mem_cons.1 hp with rfl | hp
    · exact World.putObj_heap_same hlt
    · rw [World.putObj_heap_other (fun e => hn.1 (by rw [← e]; exact List.mem_map_of_mem hp))]; exact hR p hp
  · rcases List.mem_cons.1 hp with rfl | hp
    · exact List.mem_cons_self
    · exact List.mem_cons_of_mem _ (List.mem_map_of_mem hp)

theorem SH.put {w : World} {l : Nat} {o o' : Obj} (h : SH b0 Mk ((l, o) :: L) w) : SH b0 Mk ((l, o') :: L) (w.putObj l o') := by
  have ht := putObj_tr (o' := o') (R := []) (h.own _ List.mem_cons_self) (fun _ h => by cases h) (by simp [keys])
  exact SH.tr (H := [(l, o)]) (H' := [(l, o')]) h ht

theorem JX_round {l : Nat} {r : Loop} {R : Ending → World → Prop} (hL : List.Perm L ((l, loopAt r .busy none) :: L'))
    (h : ∀ w, SH b0 Mk ((l, loopAt r .ready none) :: L') w → R (.returned (.bool true)) w) : JX b0 Mk N D L E (kRound P l R) .normal := by
  intro a w _ hw
  have hw' := hw.perm hL
  have ho := hw'.own _ List.mem_cons_self
  refine ⟨_, _, run_endRound none ho, h _ ?_⟩
  exact SH.put hw'

theorem JX_round_ret {l : Nat} {r : Loop} {R : Ending → World → Prop} (hL : List.Perm L ((l, loopAt r .busy none) :: L'))
    (h : ∀ w, SH b0 Mk ((l, loopAt r .done (some .ret)) :: L') w → R (.returned (.bool false)) w) : JX b0 Mk N D L E (kRound P l R) .ret := by
  intro a w _ hw
  have hw' := hw.perm hL
  have ho := hw'.own _ List.mem_cons_self
  refine ⟨_, _, run_endRound (some .ret) ho, h _ ?_⟩
  exact SH.put hw'

def kBegin (P : Program) (l : Nat) (body : Code) (R : Ending → World → Prop) : Exit → Act → World → Prop :=
  Exit.then (fun a₁ w₁ => ∃ w₂, (Instr.beginRound l).run P w₁ = .ok () w₂ ∧ body.wpIn (FW (some l)) 0 P (roundPost P l R) a₁ w₂) (fun _ _ _ => False)

theorem JX_begin {l : Nat} {r : Loop} {body : Code} {R : Ending → World → Prop} (hL : List.Perm L ((l, loopAt r .ready none) :: L'))
    (h : J P (some l) b0 Mk N D ((l, loopAt r .busy none) :: L') E body (kRound P l R)) : JX b0 Mk N D L E (kBegin P l body R) .normal := by
  intro a w ha hw
  have hw' := hw.perm hL
  have ho := hw'.own _ List.mem_cons_self
  exact ⟨_, run_beginRound ho rfl, h a _ ha (SH.put hw')⟩

theorem yCall_of_J {l : Nat} {r : Loop} {ps : List Tmp} {assign body : Code} {vs : List Value} {w : World} {R : Ending → World → Prop} (hr : IsLoop N E ps.toArray assign body r) (hw : SH b0 Mk ((l, loopAt r .ready none) :: L) w)
    (hs : Nat.beq vs.length ps.length = true) (hps : (ps.all fun t => Nat.blt t N) = true)
    (h : J P (some l) b0 Mk N [] ((l, loopAt r .ready none) :: L) (paramsE ps vs E) assign (kBegin P l body R)) : YCall P l vs w R := by
  have ho := hw.own _ List.mem_cons_self
  refine ⟨_, _, _, _, run_yield' ho (by simpa [hr.ps] using hs), roundIn_of_wpIn trivial ?_⟩
  show Code.wpIn (FW (some l)) 0 P _ _ _ _
  simp only [hr.assign, hr.body, hr.ps]
  exact h _ w (holds_params ps vs E _ hps hr.hold) hw

end
end Go.Proofs.YtopjaeoklkpcpaaGreatDoor.Jd

namespace Go.Proofs.YtopjaeoklkpcpaaGreatDoor.Jd
open Go.RowKit (Below)
set_option linter.unusedVariables false
set_option linter.unusedSimpArgs false
section
variable {P : Program} {rd : Option Nat} {b0 : World} {Mk : List Nat} {N : Nat} {D : List Deferred} {ops : Array Oper} {L V : Heap} {E : Env} {T : Act → World → Prop}
variable {op : Op} {ty : TypeId} {pos : String} {after : Array Edge} {v : Value} {d : Nat}

theorem wpIn_yield {o : Oper} {a : Act} {w : World} {l : Nat} {vs : List Value} {K : Act → World → Prop} {Q : Exit → Act → World → Prop} (hd : notDefer o = true) (h : (execOp a.eval o) = Instr.yield l vs.toArray)
    (hK : YCall P l vs w fun e w' => ∃ v, e = .returned v ∧ K (a.put o.dst v) w') : o.wpIn (FW rd) 0 P a w K Q := by
  obtain ⟨fn, tmps, assign, body, h1, h2⟩ := hK
  refine ⟨fun _ _ => trivial, ?_⟩
  rw [Oper.semAt_eq _ _ _ (notDefer_defer hd), h, h1]
  refine ⟨fun h => by simp [FW] at h, roundIn_rd (h2.mono fun e w' he => ?_)⟩
  obtain ⟨v, rfl, hk⟩ := he
  exact hk

def RunY (N : Nat) (D : List Deferred) (E : Env) (op : Op) (ty : TypeId) (l : Nat) (vs : List Value) : Prop := ∀ a, Holds N D E a → execOp a.eval (mkO op ty) = Instr.yield l vs.toArray

theorem y_call {f : Operand} {args : List Operand} {tys : Array TypeId} {l : Nat} {vs : List Value} (hf : ev E f = some (.func (.yield l) #[] #[]) := by rfl) (ha : evs E args = some vs := by rfl) :
    RunY N D E (.call { callee := .value f, args := args.toArray, argTypes := tys }) ty l vs := fun a hh => by
  have := hh.evals ha
  simp only [mkO, execOp, resolve, hh.eval hf, Deferred.ofValue]
  show (Instr.yield l (#[] ++ (args.toArray.map a.eval))) = _
  simp [this]

theorem enterD {f : FuncId} {fn : Func} {c : Code} {args : List Value} {w : World} {R : Ending → World → Prop} (hf : P.funcs[f]? = some fn) (hN : fn.ntmps = N) (hb : fn.body = some c := by rfl) (ha : Nat.ble args.length N = true := by rfl)
    (h : J P none w [] N [] [] (argsE 0 args) c (bodyPostM (FW none) 0 P fn R)) : Calls P f args.toArray w R := by
  subst hN
  exact callsIn_wide.1 (callsIn_of_wp_marks (F := FW none) (n := 0) hf hb trivial (h _ w (holds_begin args ha) (SH.begin w)))

def markD (r : Nat) : Deferred := { target := .collected r, args := #[] }

theorem leavesM {fn : Func} {R : Ending → World → Prop} {a : Act} {rs : List ResultVar} {vs : List Value} {L2 : Heap} (hr : fn.results = rs.toArray) (h : Res P L2 E rs vs) (ha : Holds N D E a) (hR : ∀ w, SH b0 Mk L2 w → R (.returned (resOf vs)) w) :
    ∀ (ms : List Nat) (w : World), SH b0 Mk (ms.map (fun r => (r, Obj.deferred (some []))) ++ L2) w → LeavesInM (FW none) 0 P fn a.tmps R (ms.map markD) .returning w
  | [], w, hw => by
    have h2 : Holds N a.defers E a := ⟨ha.size, rfl, ha.val⟩
    exact ⟨resOf vs, run_results hr h h2 hw, hR w hw⟩
  | r :: ms, w, hw => by
    have ho := hw.own _ List.mem_cons_self
    simp only at ho
    refine ⟨by simp, .inl ⟨r, _, rfl, run_takeDeferred ho, leavesM hr h ha hR ms _ ?_⟩⟩
    exact (SH.put (o' := .deferred none) hw).sub (List.sublist_cons_self _ _)

theorem JX_retD {fn : Func} {R : Ending → World → Prop} {rs : List ResultVar} {vs : List Value} {L2 : Heap} (ms : List Nat) (hL : List.Perm L (ms.map (fun r => (r, Obj.deferred (some []))) ++ L2)) (hr : fn.results = rs.toArray) (h : Res P L2 E rs vs) (hR : ∀ w, SH b0 Mk L2 w → R (.returned (resOf vs)) w) :
    JX b0 Mk N (ms.map markD) L E (bodyPostM (FW none) 0 P fn R) .ret := fun a w ha hw => by
  show LeavesInM _ _ _ _ _ _ a.defers _ _
  rw [ha.defs]
  exact leavesM hr h ha hR ms w (hw.perm hL)

end
end Go.Proofs.YtopjaeoklkpcpaaGreatDoor.Jd

namespace Go.Proofs.YtopjaeoklkpcpaaGreatDoor.Jd
open Go.RowKit (Below)
set_option linter.unusedVariables false
set_option linter.unusedSimpArgs false

theorem setL_eq : ∀ (us l : List Value) (n : Nat), n + us.length ≤ l.length → setL l n us = l.take n ++ us ++ l.drop (n + us.length)
  | [], l, n, _ => by cases l <;> simp [setL]
  | u :: us, [], n, h => by simp at h
  | u :: us, q :: l, 0, h => by
    have := setL_eq us l 0 (by simp at h ⊢; omega)
    simp only [setL, this, List.take_zero, List.nil_append, Nat.zero_add, List.length_cons, List.drop_succ_cons, List.cons_append]
  | u :: us, q :: l, n + 1, h => by
    have := setL_eq (u :: us) l n (by simp at h ⊢; omega)
    simp only [setL, this, List.take_succ_cons, List.cons_append]
    rw [show n + 1 + (u :: us).length = (n + (u :: us).length) + 1 by omega, List.drop_succ_cons]

theorem take_splice (l : List Value) (p q : Nat) (e : List Value) (h1 : p + e.length ≤ q) (h2 : q ≤ l.length) :
    (l.take p ++ e ++ l.drop (p + e.length)).take q = (l.take q).take p ++ e ++ (l.take q).drop (p + e.length) := by
  have l1 : (l.take p ++ e).length = p + e.length := by simp; omega
  rw [List.take_append, List.take_of_length_le (by rw [l1]; exact h1), l1, List.take_take, Nat.min_eq_left (by omega), List.drop_take]

structure EncOk {α : Type} (enc : α → List Value) (k : Nat) : Prop where
  pos : 0 < k
  len : ∀ x, (enc x).length = k
  one : ∀ x, allOne (enc x) = true

theorem allOne_mem : ∀ {l : List Value}, allOne l = true → ∀ u ∈ l, u.oneCell' = true
  | v :: r, h, u, hu => by
    simp only [allOne, Bool.and_eq_true] at h
    rcases List.mem_cons.1 hu with rfl | hu
    · exact h.1
    · exact allOne_mem h.2 u hu

def flat {α : Type} (enc : α → List Value) (xs : List α) : List Value := (xs.map enc).flatten

section flat
variable {α : Type} {enc : α → List Value} {k : Nat}
theorem flat_length (hE : EncOk enc k) : ∀ xs : List α, (flat enc xs).length = xs.length * k
  | [] => by simp [flat]
  | x :: r => by
    have := flat_length hE r
    simp only [flat, List.map_cons, List.flatten_cons, List.length_append, List.length_cons] at *
    rw [this, hE.len, Nat.add_mul]; omega
theorem flat_append (xs ys : List α) : flat enc (xs ++ ys) = flat enc xs ++ flat enc ys := by simp [flat]
theorem flat_get (hE : EncOk enc k) : ∀ (xs : List α) (i : Nat) (x : α), xs[i]? = some x → ∀ j v, (enc x)[j]? = some v → (flat enc xs)[i * k + j]? = some v
  | [], i, x, h, _, _, _ => by simp at h
  | y :: r, 0, x, h, j, v, hv => by
    have : y = x := by simpa using h
    subst this
    simp only [flat, List.map_cons, List.flatten_cons, Nat.zero_mul, Nat.zero_add]
    rw [List.getElem?_append_left (List.getElem?_eq_some_iff.1 hv).1]; exact hv
  | y :: r, i + 1, x, h, j, v, hv => by
    have ih := flat_get hE r i x (by simpa using h) j v hv
    simp only [flat, List.map_cons, List.flatten_cons] at *
    rw [List.getElem?_append_right (by rw [hE.len, Nat.add_mul]; omega), hE.len, show (i + 1) * k + j - k = i * k + j by rw [Nat.add_mul]; omega]
    exact ih
theorem flat_one (hE : EncOk enc k) (xs : List α) : ∀ u ∈ flat enc xs, u.oneCell' = true := fun u hu => by
  obtain ⟨l, hl, hul⟩ := List.mem_flatten.1 hu
  obtain ⟨x, _, rfl⟩ := List.mem_map.1 hl
  exact allOne_mem (hE.one x) u hul
theorem flat_set (hE : EncOk enc k) : ∀ (xs : List α) (i : Nat) (y : α), i < xs.length → flat enc (xs.set i y) = (flat enc xs).take (i * k) ++ enc y ++ (flat enc xs).drop (i * k + k)
  | [], _, _, h => by simp at h
  | x :: r, 0, y, _ => by
    simp only [flat, List.set_cons_zero, List.map_cons, List.flatten_cons, Nat.zero_mul, List.take_zero, List.nil_append, Nat.zero_add]
    rw [List.drop_left' (hE.len x)]
  | x :: r, i + 1, y, h => by
    have ih := flat_set hE r i y (by simpa using h)
    simp only [flat, List.set_cons_succ, List.map_cons, List.flatten_cons] at *
    rw [ih]
    have h1 : (i + 1) * k = k + i * k := by rw [Nat.add_mul]; omega
    rw [h1, ← hE.len x, List.take_length_add_append, show (enc x).length + i * (enc x).length + (enc x).length = (enc x).length + (i * (enc x).length + (enc x).length) by omega, List.drop_length_add_append]
    simp [List.append_assoc]
end flat

def OwnB {α : Type} (enc : α → List Value) (k : Nat) (e : TypeId) (a : Option Addr) (c : Nat) (B : Heap) (xs : List α) : Prop :=
  (c = 0 ∧ B = [] ∧ xs = []) ∨
  ∃ r cur f, a = some ⟨r, 0, none⟩ ∧ B = [(r, .cells cur e f)] ∧ FrOk f cur.size ∧ xs.length ≤ c ∧ cur.size = c * k ∧ cur.toList.take (xs.length * k) = flat enc xs

theorem OwnB.nil {α : Type} {enc : α → List Value} {k : Nat} {e : TypeId} {a : Option Addr} : OwnB enc k e a 0 [] [] := .inl ⟨rfl, rfl, rfl⟩

theorem OwnB.mk {α : Type} {enc : α → List Value} {k : Nat} {e : TypeId} {r c : Nat} {l : List Value} {xs : List α} (hc : xs.length = c := by rfl) (hl : l = flat enc xs := by rfl) (hE : EncOk enc k) : OwnB enc k e (some ⟨r, 0, none⟩) c [(r, .cells l.toArray e)] xs :=
  .inr ⟨r, l.toArray, (0, 0), rfl, rfl, .zero, by omega, by rw [hl]; simp [flat_length hE, hc], by subst hl; simp only [List.toList_toArray]; rw [List.take_of_length_le (by rw [flat_length hE]; omega)]⟩

theorem OwnB.sl {α : Type} {enc : α → List Value} {k : Nat} {e : TypeId} {a : Option Addr} {c : Nat} {B : Heap} {xs : List α} (hE : EncOk enc k) (h : OwnB enc k e a c B xs) {w : World} (hB : ∀ p ∈ B, w.heap[p.1]? = some p.2) : Sl w enc k a xs := by
  rcases h with ⟨rfl, rfl, rfl⟩ | ⟨r, cur, fz, rfl, rfl, hfz, h1, h2, h3⟩
  · exact Sl.nil
  · intro i x hx
    refine ⟨r, 0, rfl, hE.len x, fun j v hv => ?_⟩
    have hb := hB _ List.mem_cons_self
    simp only at hb
    have hg := flat_get hE xs i x hx j v hv
    rw [← h3] at hg
    have hg' : cur.toList[i * k + j]? = some v := by
      rw [List.getElem?_take] at hg
      split at hg
      · exact hg
      · cases hg
    simp only [World.cell?, hb, Nat.zero_add]
    simpa using hg'

theorem OwnB.slj {α : Type} {enc : α → List Value} {k : Nat} {e : TypeId} {a : Option Addr} {c : Nat} {B L : Heap} {xs : List α} {b0 : World} {Mk : List Nat} (hE : EncOk enc k) (h : OwnB enc k e a c B xs)
    (hB : ∀ p ∈ B, p ∈ L := by intro p hp; repeat (first | exact hp | exact List.mem_append_left _ hp | apply List.mem_append_right | apply List.mem_cons_of_mem)) : SlJ b0 Mk L enc k a xs :=
  fun _ hw => h.sl hE (fun p hp => hw.own p (hB p hp))

theorem SlJ.take {α : Type} {enc : α → List Value} {k : Nat} {a : Option Addr} {xs : List α} {L : Heap} {b0 : World} {Mk : List Nat} (h : SlJ b0 Mk L enc k a xs) (n : Nat) : SlJ b0 Mk L enc k a (xs.take n) :=
  fun w hw i x hx => h w hw i x (by
    rw [List.getElem?_take] at hx
    split at hx
    · exact hx
    · cases hx)

/-- What a type's row of the table says. -/
structure Ty (P : Program) (e k by_ : Nat) (z : Value) : Prop where
  ex : ∃ i, P.info? e = some i ∧ i.size = k ∧ i.bytes = by_ ∧ i.zero = some z
  zs : z.cells.size = k

section
variable {P : Program} {rd : Option Nat} {b0 : World} {Mk : List Nat} {N : Nat} {D : List Deferred} {ops : Array Oper} {L V : Heap} {E : Env} {T : Act → World → Prop}
variable {op : Op} {ty : TypeId} {pos : String} {after : Array Edge} {d : Nat}

def RunM (P : Program) (N : Nat) (D : List Deferred) (b0 : World) (Mk : List Nat) (L : Heap) (E : Env) (op : Op) (ty : TypeId) (H : Heap) (X : Type) (v : X → Next) (H' : X → Heap) (Pr : X → Prop) : Prop :=
  ∀ a w, Holds N D E a → SH b0 Mk L w → ∃ x w', (execOp a.eval (mkO op ty)).run P w = .ok (v x) w' ∧ Tr w w' H (H' x) ∧ Pr x

theorem JL_e {l : List Oper} {H R : Heap} {X : Type} {v : X → Value} {H' : X → Heap} {Pr : X → Prop} (hL : List.Perm L (H ++ R)) (h : RunM P N D b0 Mk L E op ty H X (fun x => .value (v x)) H' Pr) (hn : notDeferOp op = true := by rfl) (hd : Nat.blt d N = true := by rfl)
    (k : ∀ x, Pr x → JL P rd b0 Mk N D ops (H' x ++ R) ((d, v x) :: E) l T) : JL P rd b0 Mk N D ops L E ({ dst := some d, op := op, type := ty, pos := pos, after := after, guard := none } :: l) T := by
  intro a w ha hw
  unfold wpL
  rw [if_pos (by rfl)]
  obtain ⟨x, w', h1, h2, h3⟩ := h a w ha hw
  exact wpIn_value (notDefer_mk hn) (by rw [execOp_mkO]; exact h1) (k x h3 _ _ (ha.put hd _) ((hw.perm hL).tr h2))

theorem JL_es {l : List Oper} {H R : Heap} {X : Type} {H' : X → Heap} {Pr : X → Prop} (hL : List.Perm L (H ++ R)) (h : RunM P N D b0 Mk L E op ty H X (fun _ => .skip) H' Pr) (hn : notDeferOp op = true := by rfl)
    (k : ∀ x, Pr x → JL P rd b0 Mk N D ops (H' x ++ R) E l T) : JL P rd b0 Mk N D ops L E ({ dst := none, op := op, type := ty, pos := pos, after := after, guard := none } :: l) T := by
  intro a w ha hw
  unfold wpL
  rw [if_pos (by rfl)]
  obtain ⟨x, w', h1, h2, h3⟩ := h a w ha hw
  exact wpIn_skip' (notDefer_mk hn) (by rw [execOp_mkO]; exact h1) (k x h3 _ _ ha ((hw.perm hL).tr h2))

theorem JD_e {l : List (Bool × Oper)} {H R : Heap} {X : Type} {v : X → Value} {H' : X → Heap} {Pr : X → Prop} (hV : List.Perm V (H ++ R)) (h : RunM P N D b0 Mk (V ++ L) E op ty H X (fun x => .value (v x)) H' Pr) (hn : notDeferOp op = true := by rfl) (hd : Nat.blt d N = true := by rfl)
    (k : ∀ x, Pr x → JD P rd b0 Mk N D ops L (H' x ++ R) ((d, v x) :: E) l T) : JD P rd b0 Mk N D ops L V E ((false, { dst := some d, op := op, type := ty, pos := pos, after := after, guard := none }) :: l) T := by
  intro a w ha hw
  unfold wpS
  rw [if_pos (by rfl)]
  obtain ⟨x, w', h1, h2, h3⟩ := h a w ha hw
  have hw2 : SH b0 Mk (H ++ (R ++ L)) w := by rw [← List.append_assoc]; exact hw.perm (hV.append_right L)
  have hw3 : SH b0 Mk ((H' x ++ R) ++ L) w' := by rw [List.append_assoc]; exact hw2.tr h2
  exact wpIn_value (notDefer_mk hn) (by rw [execOp_mkO]; exact h1) ⟨SH b0 Mk L, fun _ h => h, hw3.right, k x h3 _ _ (ha.put hd _) hw3⟩

theorem tr_alloc {w : World} (o : Obj) : Tr w (w.alloc o) [] [(w.heap.size, o)] :=
  ⟨rfl, rfl, rfl, by simp, fun k hk _ => Below.heap_alloc w o k hk, fun p hp => by
    have : p = (w.heap.size, o) := by simpa using hp
    subst this
    show (w.heap.push o)[w.heap.size]? = some o
    simp, fun p hp => .inr (by have : p = (w.heap.size, o) := by simpa using hp
                               subst this; exact Nat.le_refl _), by simp [keys]⟩

theorem Tr.weaken {w w' : World} {H' B : Heap} (h : Tr w w' [] H') : Tr w w' B H' :=
  ⟨h.os, h.tape, h.output, h.size, fun k hk _ => h.same k hk (by simp [keys]), h.own, fun p hp => (h.key p hp).imp (fun hm => by simp [keys] at hm) id, h.nd⟩

theorem tr_row {w : World} {r : Nat} {cur cur' : Array Value} {e : TypeId} {f : Nat × Nat} (h : w.heap[r]? = some (.cells cur e f)) : Tr w (w.setRow r cur') [(r, .cells cur e f)] [(r, .cells cur' e f)] := by
  have hlt := (Array.getElem?_eq_some_iff.1 h).1
  have e1 : (w.setRow r cur').heap = w.heap.modify r (fun | .cells _ elem frozen => .cells cur' elem frozen | o => o) := rfl
  refine ⟨rfl, rfl, rfl, ?_, fun k _ hk => ?_, fun p hp => ?_, fun p hp => .inl ?_, by simp [keys]⟩
  · show w.heap.size ≤ (w.setRow r cur').heap.size
    rw [e1]; simp
  · rw [e1, Array.getElem?_modify, if_neg (fun e => hk (by subst e; simp [keys]))]
  · have : p = (r, .cells cur' e f) := by simpa using hp
    subst this
    show (w.setRow r cur').heap[r]? = _
    rw [e1, Array.getElem?_modify]
    simp [h]
  · have : p = (r, .cells cur' e f) := by simpa using hp
    subst this
    simp [keys]

theorem tr_drew {w w' : World} {H H' : Heap} (h : Tr w.drew w' H H') : Tr w w' H H' := ⟨h.os, h.tape, h.output, h.size, h.same, h.own, h.key, h.nd⟩

theorem Sl.cells {w : World} {α : Type} {enc : α → List Value} {k : Nat} {a : Addr} {xs : List α} (hE : EncOk enc k) (h : Sl w enc k (some a) xs) (n : Nat) (hn : n ≤ xs.length) : ∀ j v, (flat enc (xs.take n))[j]? = some v → w.cell? (a.add j) = some v := by
  intro j v hv
  have hj : j < n * k := by
    have h1 := (List.getElem?_eq_some_iff.1 hv).1
    rw [flat_length hE, List.length_take, Nat.min_eq_left hn] at h1
    exact h1
  have hk := hE.pos
  have hi : j / k < n := (Nat.div_lt_iff_lt_mul hk).2 hj
  have hx : xs[j / k]? = some xs[j / k] := List.getElem?_eq_getElem (by omega)
  obtain ⟨b, off, e1, _, h3⟩ := h _ _ hx
  have e1' : a = ⟨b, off, none⟩ := Option.some.inj e1
  subst e1'
  have hm : j % k < k := Nat.mod_lt _ hk
  have hl : j % k < (enc xs[j / k]).length := by rw [hE.len]; exact hm
  have hv2 := flat_get hE (xs.take n) (j / k) xs[j / k] (by rw [List.getElem?_take, if_pos hi]; exact hx) (j % k) _ (List.getElem?_eq_getElem hl)
  have e2 : j / k * k + j % k = j := by rw [Nat.mul_comm]; exact Nat.div_add_mod j k
  rw [e2, hv] at hv2
  have h4 := h3 (j % k) _ (List.getElem?_eq_getElem hl)
  rw [addr_add]
  rw [show off + j / k * k + j % k = off + j by omega] at h4
  rw [h4]; exact hv2.symm

theorem OwnB.full {α : Type} {enc : α → List Value} {k : Nat} {e : TypeId} {r c : Nat} {xs : List α} (hE : EncOk enc k) {cur : Array Value} (h1 : xs.length ≤ c) (h2 : cur.size = c * k) (h3 : cur.toList.take (xs.length * k) = flat enc xs) : OwnB enc k e (some ⟨r, 0, none⟩) c [(r, .cells cur e)] xs := by
  have _ := hE
  exact .inr ⟨r, cur, (0, 0), rfl, rfl, .zero, h1, h2, h3⟩
theorem OwnB.fullF {α : Type} {enc : α → List Value} {k : Nat} {e : TypeId} {r c : Nat} {xs : List α} {f : Nat × Nat} {cur : Array Value} (hf : FrOk f cur.size) (h1 : xs.length ≤ c) (h2 : cur.size = c * k) (h3 : cur.toList.take (xs.length * k) = flat enc xs) : OwnB enc k e (some ⟨r, 0, none⟩) c [(r, .cells cur e f)] xs :=
  .inr ⟨r, cur, f, rfl, rfl, hf, h1, h2, h3⟩
theorem run_storeCells_atG (P : Program) (g o : Nat) (t : TypeId) (fz : Nat × Nat) : ∀ (vs : List Value) (i : Nat) (cur : Array Value) (w : World), w.heap[g]? = some (.cells cur t fz) → FrOk fz cur.size → o + i + vs.length ≤ cur.size → (∀ v ∈ vs, v.oneCell' = true) →
    (storeCells ⟨g, o, none⟩ vs i).run P w = .ok () (w.setRow g (cur.toList.take (o + i) ++ vs ++ cur.toList.drop (o + i + vs.length)).toArray)
  | [], i, cur, w, hg, _, _, _ => by
    simp only [storeCells, List.append_nil, List.length_nil, Nat.add_zero, List.take_append_drop, Array.toArray_toList]
    rw [setRow_self w g cur t fz hg]
    rfl
  | v :: rest, i, cur, w, hg, hfz, hl, h1 => by
    have hi : o + i < cur.size := by simp at hl; omega
    have hadd : (⟨g, o, none⟩ : Addr).add i = ⟨g, o + i, none⟩ := by unfold Addr.add; split <;> simp_all
    have hcell : w.cell? ⟨g, o + i, none⟩ = some cur[o + i] := by simp [World.cell?, hg, hi]
    have hfro : w.frozen? ⟨g, o + i, none⟩ = false := hfz.not hg hi
    have hst : (store ((⟨g, o, none⟩ : Addr).add i) v).run P w = .ok () (w.setRow g (cur.setIfInBounds (o + i) v)) := by
      rw [hadd, run_store P w _ v _ (h1 v (by simp)), hcell]
      simp [hfro, setCell_eq_setRow w g (o + i) cur t fz v hg]
    have ih := run_storeCells_atG P g o t fz rest (i + 1) (cur.setIfInBounds (o + i) v) (w.setRow g (cur.setIfInBounds (o + i) v)) (setRow_heap w g cur _ t _ hg) (by simpa using hfz) (by simp at hl ⊢; omega) (fun x hx => h1 x (by simp [hx]))
    simp only [storeCells, Sem.run_bind, hst, Result.andThen_ok, ih, setRow_setRow]
    congr 3
    have e := list_seg_step cur.toList (o + i) v rest (by simp at hl ⊢; omega)
    simpa [Array.toList_setIfInBounds, Nat.add_assoc] using e
theorem run_append_roomG {P : Program} {w : World} {ty : TypeId} (t e : TypeId) (i : TypeInfo) (ht : P.underlying t = some (.slice e)) (hi : P.info? e = some i)
    (g sLen sCap : Nat) (cur : Array Value) (fz : Nat × Nat) (hg : w.heap[g]? = some (.cells cur e fz)) (hfz : FrOk fz cur.size)
    (a : Addr) (m c : Nat) (news : List Value) (hl : news.length = m * i.size) (hnews : ∀ j u, news[j]? = some u → w.cell? (a.add j) = some u) (h1 : ∀ u ∈ news, u.oneCell' = true)
    (hroom : sLen + m ≤ sCap) (hfit : sLen * i.size + news.length ≤ cur.size) :
    (Builtin.append_ #[t, t] ty #[.slice (some ⟨g, 0, none⟩) sLen sCap, .slice (some a) m c]).run P w =
      .ok (.slice (some ⟨g, 0, none⟩) (sLen + m) sCap) (w.setRow g (cur.toList.take (sLen * i.size) ++ news ++ cur.toList.drop (sLen * i.size + news.length)).toArray) := by
  have hf := run_firstCells_some (P := P) w i.size m a m c news hl hnews
  have hst := run_storeCells_atG P g (sLen * i.size) e fz news 0 cur w hg hfz (by simpa using hfit) h1
  simp only [Nat.add_zero] at hst
  simp [Builtin.append_, run_underlying ht, sizeOf, typeInfo, hi, Builtin.lenOf, hroom, hf, Addr.add_lit, hst]

theorem size_zeroCells' (z : Array Value) (n : Nat) : (Builtin.zeroCells z n).toList.length = n * z.size := by simp [Builtin.zeroCells]

theorem e_append {α : Type} {enc : α → List Value} {k by_ : Nat} {t e : TypeId} {z : Value} {x y : Operand} {a a' : Option Addr} {c c' n m : Nat} {B : Heap} {xs ys : List α} (hT : Ty P e k by_ z) (hU : P.underlying t = some (.slice e)) (hE : EncOk enc k) (ho : OwnB enc k e a c B xs)
    (hs : SlJ b0 Mk L enc k a' ys) (hB : ∀ p ∈ B, p ∈ L) (hn : xs.length = n) (hm : ys.length = m) (hb : 2 * (n + m) * by_ ≤ 281474976710656) (hb2 : n + m ≤ 4611686018427387904) (hx : ev E x = some (.slice a n c) := by rfl) (hy : ev E y = some (.slice a' m c') := by rfl) :
    RunM P N D b0 Mk L E (.call { callee := .builtin .append, args := #[x, y], argTypes := #[t, t] }) ty B (Option Addr × Nat × Heap) (fun q => .value (.slice q.1 (n + m) q.2.1)) (fun q => q.2.2) (fun q => OwnB enc k e q.1 q.2.1 q.2.2 (xs ++ ys)) := by
  intro ac w ha hw
  obtain ⟨i, hi, rfl, rfl, hz⟩ := hT.ex
  have hzs := hT.zs
  have hk := hE.pos
  subst hn hm
  have run1 : ∀ (v' : Value) (w' : World), (Builtin.append_ #[t, t] ty #[.slice a xs.length c, .slice a' ys.length c']).run P w = .ok v' w' →
      (execOp ac.eval (mkO (.call { callee := .builtin .append, args := #[x, y], argTypes := #[t, t] }) ty)).run P w = .ok (.value v') w' := fun v' w' h => by
    simp [mkO, execOp, resolve, invoke, builtin, ha.eval hx, ha.eval hy, h]
  have hsl := hs w hw
  -- what is appended
  by_cases hy0 : ys = []
  · subst hy0
    -- nothing is appended: the slice is as it was
    have hrun : (Builtin.append_ #[t, t] ty #[.slice a xs.length c, .slice a' 0 c']).run P w = .ok (.slice a xs.length c) w := by
      have hle : xs.length + 0 ≤ c := by
        rcases ho with ⟨rfl, rfl, rfl⟩ | ⟨r, cur, fz, rfl, rfl, hfz, h1, _, _⟩
        · simp
        · simpa using h1
      have hf : (Builtin.firstCells i.size 0 (.slice a' 0 c')).run P w = .ok #[] w := by
        cases a' with
        | none => simp [Builtin.firstCells]
        | some q => simp [Builtin.firstCells, loadCells, loadCellsFrom]
      have hle' : xs.length ≤ c := by simpa using hle
      rcases a with _ | ad
      · simp [Builtin.append_, run_underlying hU, sizeOf, typeInfo, hi, Builtin.lenOf, hf, hle']
      · simp [Builtin.append_, run_underlying hU, sizeOf, typeInfo, hi, Builtin.lenOf, hf, hle', storeCells]
    refine ⟨(a, c, B), w, run1 _ _ (by simpa using hrun), ?_, by simpa using ho⟩
    refine Tr.refl (fun p hp => hw.own p (hB p hp)) ?_
    rcases ho with ⟨_, rfl, _⟩ | ⟨r, cur, fz, _, rfl, _⟩ <;> simp [keys]
  · have hpos : 0 < ys.length := List.length_pos_iff.2 hy0
    obtain ⟨y0, hy0'⟩ : ∃ y0, ys[0]? = some y0 := ⟨_, List.getElem?_eq_getElem hpos⟩
    obtain ⟨b1, off1, rfl, _, _⟩ := hsl 0 y0 hy0'
    have hnews := Sl.cells hE hsl ys.length (Nat.le_refl _)
    rw [List.take_length] at hnews
    have hnl : (flat enc ys).length = ys.length * i.size := flat_length hE ys
    rcases ho with ⟨rfl, rfl, rfl⟩ | ⟨r, cur, fz, rfl, rfl, hfz, h1, h2, h3⟩
    · -- nil, or empty and without room
      have hby2 : 2 * ys.length * i.bytes ≤ 281474976710656 := by simpa using hb
      have hby : ys.length * i.bytes ≤ 281474976710656 := by
        rw [Nat.mul_assoc] at hby2
        omega
      rcases a with _ | ad
      · have hr := run_append_nil (P := P) w t ty e i z hU hi hz ⟨b1, off1, none⟩ ys.length c' (flat enc ys) hnl hnews hpos (by simp at hb2; omega) hby
        refine ⟨(some ⟨w.heap.size, 0, none⟩, grownCap w ys.length 0 e, [(w.heap.size, _)]), _, run1 _ _ (by simpa using hr), tr_drew (tr_alloc (w := w.drew) _), ?_⟩
        have hge := grownCap_ge w ys.length 0 e
        refine OwnB.full hE (by simpa using hge) ?_ ?_
        · rw [Array.size_append, List.size_toArray, hnl, size_zeroCells, hzs, ← Nat.add_mul]
          dsimp only
          congr 1
          omega
        · simp only [List.nil_append, Array.toList_append]
          rw [List.take_left' (by simpa using hnl)]
      · have hnx : Builtin.nextslicecap (0 + ys.length) 0 ≤ 2 * (0 + ys.length) := nextslicecap_le (by omega)
        have hr := run_append_grow (P := P) w t ty e i z hU hi hz ad 0 0 [] (by simp) (by simp) ⟨b1, off1, none⟩ ys.length c' (flat enc ys) hnl hnews (by omega) (by simp at hb2; omega) (Nat.le_trans (Nat.mul_le_mul_right _ hnx) (by simpa using hb))
        refine ⟨(some ⟨w.heap.size, 0, none⟩, grownCap w (0 + ys.length) 0 e, [(w.heap.size, _)]), _, run1 _ _ (by simpa using hr), tr_drew (tr_alloc (w := w.drew) _), ?_⟩
        have hge := grownCap_ge w (0 + ys.length) 0 e
        refine OwnB.full hE (by simpa using hge) ?_ ?_
        · simp only [List.nil_append, Nat.zero_add] at hge ⊢
          rw [Array.size_append, List.size_toArray, hnl, size_zeroCells, hzs, ← Nat.add_mul]
          congr 1
          omega
        · simp only [List.nil_append, Array.toList_append]
          rw [List.take_left' (by simpa using hnl)]
    · have hh : w.heap[r]? = some (.cells cur e fz) := hw.own _ (hB _ List.mem_cons_self)
      by_cases hroom : xs.length + ys.length ≤ c
      · -- there is room
        have hr := run_append_roomG (P := P) (w := w) (ty := ty) t e i hU hi r xs.length c cur fz hh hfz ⟨b1, off1, none⟩ ys.length c' (flat enc ys) hnl hnews (flat_one hE ys) hroom (by rw [hnl, h2, ← Nat.add_mul]; exact Nat.mul_le_mul_right _ hroom)
        refine ⟨(some ⟨r, 0, none⟩, c, [(r, _)]), _, run1 _ _ hr, tr_row hh, OwnB.fullF ?_ (by simpa using hroom) ?_ ?_⟩
        · refine hfz.imp id fun h => Nat.le_trans (Nat.le_of_eq ?_) h
          have hle : xs.length * i.size + ys.length * i.size ≤ c * i.size := by rw [← Nat.add_mul]; exact Nat.mul_le_mul_right _ hroom
          simp only [List.size_toArray, List.length_append, List.length_take, List.length_drop, Array.length_toList, hnl, h2]
          omega
        · have hle : xs.length * i.size + ys.length * i.size ≤ c * i.size := by rw [← Nat.add_mul]; exact Nat.mul_le_mul_right _ hroom
          simp only [List.size_toArray, List.length_append, List.length_take, List.length_drop, Array.length_toList, hnl, h2]
          omega
        · have hle : xs.length * i.size ≤ c * i.size := Nat.mul_le_mul_right _ h1
          have e1 : (cur.toList.take (xs.length * i.size)).length = xs.length * i.size := by simp [h2, Nat.min_eq_left hle]
          simp only [List.toList_toArray, List.length_append, Nat.add_mul]
          rw [List.take_left' (by rw [List.length_append, e1, hnl]), h3, flat_append]
      · -- it grows
        have holds : ∀ j v, (flat enc xs)[j]? = some v → w.cell? ((⟨r, 0, none⟩ : Addr).add j) = some v := by
          have hsx : Sl w enc i.size (some ⟨r, 0, none⟩) xs := OwnB.sl hE (.inr ⟨r, cur, fz, rfl, rfl, hfz, h1, h2, h3⟩) (fun p hp => hw.own p (hB p hp))
          have := Sl.cells hE hsx xs.length (Nat.le_refl _)
          rwa [List.take_length] at this
        have hg : c < xs.length + ys.length := by omega
        have hnx : Builtin.nextslicecap (xs.length + ys.length) c ≤ 2 * (xs.length + ys.length) := nextslicecap_le hg
        have hr := run_append_grow (P := P) w t ty e i z hU hi hz ⟨r, 0, none⟩ xs.length c (flat enc xs) (flat_length hE xs) holds ⟨b1, off1, none⟩ ys.length c' (flat enc ys) hnl hnews hg (by omega) (Nat.le_trans (Nat.mul_le_mul_right _ hnx) hb)
        refine ⟨(some ⟨w.heap.size, 0, none⟩, grownCap w (xs.length + ys.length) c e, [(w.heap.size, _)]), _, run1 _ _ hr, (tr_drew (tr_alloc (w := w.drew) _)).weaken, ?_⟩
        have hge := grownCap_ge w (xs.length + ys.length) c e
        refine OwnB.full hE (by simpa using hge) ?_ ?_
        · rw [Array.size_append, Array.size_append, List.size_toArray, List.size_toArray, hnl, flat_length hE, size_zeroCells, hzs, ← Nat.add_mul, ← Nat.add_mul]
          dsimp only
          congr 1
          omega
        · simp only [Array.toList_append]
          rw [List.take_left' (by simp [hnl, flat_length hE, Nat.add_mul]), flat_append]

theorem made_flat {α : Type} {enc : α → List Value} {k : Nat} {z : Value} {x0 : α} (hE : EncOk enc k) (hz : cellsL z = enc x0) (n : Nat) : madeCells z.cells (n * k) = (flat enc (List.replicate n x0)).toArray := by
  have hk := hE.pos
  apply Array.ext'
  rw [cellsL_eq, hz]
  apply List.ext_getElem?
  intro j
  by_cases hj : j < n * k
  · have hi : j / k < n := (Nat.div_lt_iff_lt_mul hk).2 hj
    have hm : j % k < (enc x0).length := by rw [hE.len]; exact Nat.mod_lt _ hk
    have h1 := flat_get hE (List.replicate n x0) (j / k) x0 (by simp [hi]) (j % k) _ (List.getElem?_eq_getElem hm)
    have e2 : j / k * k + j % k = j := by rw [Nat.mul_comm]; exact Nat.div_add_mod j k
    rw [e2] at h1
    rw [List.toList_toArray, h1]
    simp [madeCells, hj, hE.len, Nat.mod_lt _ hk]
  · rw [List.getElem?_eq_none (by simp [madeCells]; omega), List.getElem?_eq_none (by rw [List.toList_toArray, flat_length hE]; simp; omega)]

theorem OwnB.made {α : Type} {enc : α → List Value} {k : Nat} {e : TypeId} {z : Value} {x0 : α} {r n : Nat} (hE : EncOk enc k) (hz : cellsL z = enc x0) : OwnB enc k e (some ⟨r, 0, none⟩) n [(r, .cells (madeCells z.cells (n * k)) e)] (List.replicate n x0) := by
  rw [made_flat hE hz]
  exact OwnB.mk (by simp) rfl hE

theorem e_storeE {α : Type} {enc : α → List Value} {k : Nat} {t e : TypeId} {x y : Operand} {v : Value} {a : Option Addr} {c o : Nat} {B : Heap} {xs : List α} (m : Nat) (u : α) (hS : ∀ w, (sizeOf t).run P w = .ok k w) (hE : EncOk enc k) (ho : OwnB enc k e a c B xs) (hB : ∀ p ∈ B, p ∈ L) (hm : m < xs.length)
    (hx : ev E x = some (.pointer (some (ea a o))) := by rfl) (hy : ev E y = some v := by rfl) (hv : cellsL v = enc u := by rfl) (hoo : o = m * k := by first | rfl | omega) :
    RunM P N D b0 Mk L E (.store t x y) ty B Heap (fun _ => .skip) (fun q => q) (fun q => OwnB enc k e a c q (xs.set m u)) := by
  intro ac w ha hw
  subst hoo
  rcases ho with ⟨rfl, rfl, rfl⟩ | ⟨r, cur, fz, rfl, rfl, hfz, h1, h2, h3⟩
  · simp at hm
  · have hh : w.heap[r]? = some (.cells cur e fz) := hw.own _ (hB _ List.mem_cons_self)
    have hmk : m * k + k ≤ c * k := by
      have : (m + 1) * k ≤ c * k := Nat.mul_le_mul_right _ (by omega)
      rw [Nat.add_mul] at this; omega
    have hst := run_storeCellsF (P := P) (r := r) (k := m * k) (T := e) (f := fz) (enc u) cur.toList 0 w (by simpa using hh) (by simpa using hfz) (hE.one u) (by rw [hE.len, Array.length_toList, h2]; omega)
    obtain ⟨w', g1, g2, g3, g4, g5, g6, g7⟩ := hst
    refine ⟨[(r, .cells (setL cur.toList (m * k) (enc u)).toArray e fz)], w', ?_, ⟨g5, g6, g7, by omega, fun j _ hj => g3 j (fun e => hj (by subst e; simp [keys])), fun p hp => ?_, fun p hp => .inl ?_, by simp [keys]⟩, ?_⟩
    · have he : ea (some ⟨r, 0, none⟩) (m * k) = ⟨r, m * k, none⟩ := by simp [ea]
      have hn : v.cells.size = k := by rw [cellsL_eq, hv]; simp [hE.len]
      simp [mkO, execOp, ha.eval hx, ha.eval hy, Instr.storeAt, Instr.sureAddr, storeVar, he, hS, hn]
      rw [show v.cells.toList = enc u by rw [cellsL_eq, hv], g1]
      rfl
    · have : p = (r, .cells (setL cur.toList (m * k) (enc u)).toArray e fz) := by simpa using hp
      subst this
      simpa using g2
    · have : p = (r, .cells (setL cur.toList (m * k) (enc u)).toArray e fz) := by simpa using hp
      subst this
      simp [keys]
    · have hset := setL_eq
      refine OwnB.fullF (by simpa [setL_length] using hfz) (by simpa using h1) ?_ ?_
      · simp [setL_length, h2]
      · rw [List.toList_toArray, hset _ _ _ (by rw [hE.len, Array.length_toList, h2]; omega), hE.len, List.length_set, flat_set hE xs m u hm, ← h3]
        have hxl : xs.length * k ≤ c * k := Nat.mul_le_mul_right _ h1
        have hml : m * k + k ≤ xs.length * k := by
          have : (m + 1) * k ≤ xs.length * k := Nat.mul_le_mul_right _ (by omega)
          rw [Nat.add_mul] at this; omega
        have := take_splice cur.toList (m * k) (xs.length * k) (enc u) (by rw [hE.len]; exact hml) (by simp only [Array.length_toList] at *; omega)
        rw [hE.len] at this
        exact this

theorem q_sliceHi {t e : TypeId} {x y : Operand} {a : Option Addr} {n c : Nat} {i : Int} {ki : IntKind} (m : Nat) (hU : ∀ w, (underlying t).run P w = .ok (.slice e) w) (hS : ∀ w, ∃ q, (sizeOf e).run P w = .ok q w) (hm : m ≤ c) (hx : ev E x = some (.slice a n c) := by rfl) (hy : ev E y = some (.int ki i) := by rfl) (hi : i = (m : Int) := by first | rfl | omega) :
    RunQ P N D b0 Mk L E (.slice t x none (some y) none) ty (.slice a m c) := fun ac w ha _ => by
  subst hi
  obtain ⟨q, hq⟩ := hS w
  have h1 : (0 : Int) ≤ (m : Int) ∧ (m : Int) ≤ (c : Int) := by omega
  have e0 : (if c = 0 then a else Option.map (fun x => x.add 0) a) = a := by
    cases a with
    | none => simp
    | some ad => simp [Addr.add]
  simp [mkO, execOp, ha.eval hx, ha.eval hy, Instr.sliceAt, hU, Instr.slice, Instr.sliceBounds, Instr.sliceBound, asIntOf, hm, hq, e0]

theorem q_sliceHiMax {t e : TypeId} {x y y2 : Operand} {a : Option Addr} {n c : Nat} {i i2 : Int} {ki ki2 : IntKind} (m m2 : Nat) (hU : ∀ w, (underlying t).run P w = .ok (.slice e) w) (hS : ∀ w, ∃ q, (sizeOf e).run P w = .ok q w) (hm : m ≤ m2) (hm2 : m2 ≤ c) (hx : ev E x = some (.slice a n c) := by rfl) (hy : ev E y = some (.int ki i) := by rfl) (hy2 : ev E y2 = some (.int ki2 i2) := by rfl)
    (hi : i = (m : Int) := by first | rfl | omega) (hi2 : i2 = (m2 : Int) := by first | rfl | omega) :
    RunQ P N D b0 Mk L E (.slice t x none (some y) (some y2)) ty (.slice a m m2) := fun ac w ha _ => by
  subst hi hi2
  obtain ⟨q, hq⟩ := hS w
  have e0 : (if m2 = 0 then a else Option.map (fun x => x.add 0) a) = a := by
    cases a with
    | none => simp
    | some ad => simp [Addr.add]
  simp [mkO, execOp, ha.eval hx, ha.eval hy, ha.eval hy2, Instr.sliceAt, hU, Instr.slice, Instr.sliceBounds, Instr.sliceBound, asIntOf, hm, hm2, hq, e0]

theorem q_eqS {t t' : TypeId} {x y : Operand} {u v : Value} {b : Bool} (h : ∀ w, (do eqGuard .eql t x y u v; binOp .eql t u v : Sem Value).run P w = .ok (.bool b) w) (hx : ev E x = some u := by rfl) (hy : ev E y = some v := by rfl) : RunQ P N D b0 Mk L E (.binOp .eql t x y t') ty (.bool b) := fun ac w ha _ => by
  have := h w
  simp only [mkO, execOp, ha.eval hx, ha.eval hy]
  simp only [Sem.run_bind] at this ⊢
  rw [this]
  rfl

theorem q_min {x y : Operand} {p q : Int} {tys : Array TypeId} (hx : ev E x = some (.int .i64 p) := by rfl) (hy : ev E y = some (.int .i64 q) := by rfl) :
    RunQ P N D b0 Mk L E (.call { callee := .builtin .min, args := #[x, y], argTypes := tys }) ty (.int .i64 (if q < p then q else p)) := fun ac w ha _ => by
  simp [mkO, execOp, resolve, invoke, builtin, Builtin.min_, ha.eval hx, ha.eval hy, Builtin.min2]
end
end Go.Proofs.YtopjaeoklkpcpaaGreatDoor.Jd

namespace Go.Proofs.YtopjaeoklkpcpaaGreatDoor.Jd
open Go.RowKit (Below)
set_option linter.unusedVariables false
set_option linter.unusedSimpArgs false
section
variable {P : Program} {rd : Option Nat} {b0 : World} {Mk : List Nat} {N : Nat} {D : List Deferred} {ops : Array Oper} {L V : Heap} {E : Env} {T : Act → World → Prop}
variable {op : Op} {ty : TypeId} {pos : String} {after : Array Edge} {d : Nat}

theorem JL_p {l : List Oper} {f : FuncId} {args : List Value} {R : World → Ending → World → Prop} (hc : RunC P N D b0 Mk L E op ty f args) (h : ∀ w, SH b0 Mk L w → Calls P f args.toArray w (R w)) (hn : notDeferOp op = true := by rfl) (hd : Nat.blt d N = true := by rfl)
    (k : ∀ w e w', SH b0 Mk L w → R w e w' → ∃ v L', e = .returned v ∧ SH b0 Mk L' w' ∧ JL P rd b0 Mk N D ops L' ((d, v) :: E) l T) :
    JL P rd b0 Mk N D ops L E ({ dst := some d, op := op, type := ty, pos := pos, after := after, guard := none } :: l) T := by
  intro a w ha hw
  unfold wpL
  rw [if_pos (by rfl)]
  refine wpIn_enter (notDefer_mk hn) (by rw [execOp_mkO]; exact hc a w ha hw) ((h w hw).mono fun e w' he => ?_)
  obtain ⟨v, L', rfl, h2, h3⟩ := k w e w' hw he
  exact ⟨_, rfl, h3 _ _ (ha.put hd _) h2⟩

theorem fresh_shV {w w' : World} {B : Heap} (hw : SH b0 Mk (V ++ L) w) (h2 : Fresh w w' B) : SH b0 Mk (V ++ (B ++ L)) w' :=
  (hw.fresh h2).perm (by rw [← List.append_assoc, ← List.append_assoc]; exact List.perm_append_comm.append_right _)

theorem JD_p {l : List (Bool × Oper)} {f : FuncId} {args : List Value} {R : World → Ending → World → Prop} (hc : RunC P N D b0 Mk L E op ty f args) (h : ∀ w, SH b0 Mk L w → Calls P f args.toArray w (R w)) (hn : notDeferOp op = true := by rfl) (hd : Nat.blt d N = true := by rfl)
    (k : ∀ w e w', SH b0 Mk L w → R w e w' → ∃ v B L', e = .returned v ∧ Fresh w w' B ∧ L' = B ++ L ∧ JD P rd b0 Mk N D ops L' V ((d, v) :: E) l T) :
    JD P rd b0 Mk N D ops L V E ((false, { dst := some d, op := op, type := ty, pos := pos, after := after, guard := none }) :: l) T := by
  intro a w ha hw
  unfold wpS
  rw [if_pos (by rfl)]
  refine wpIn_enter (notDefer_mk hn) (by rw [execOp_mkO]; exact hc a w ha hw.right) ((h w hw.right).mono fun e w' he => ?_)
  obtain ⟨v, B, L', rfl, h2, rfl, h3⟩ := k w e w' hw.right he
  have h4 := fresh_shV hw h2
  exact ⟨_, rfl, SH b0 Mk (B ++ L), fun y hy => hy.right, h4.right, h3 _ _ (ha.put hd _) h4⟩

theorem JO_e {l : List Oper} {n f' : Nat} {listed : Array Bool} {i : Nat} {X : Type} {v : X → Value} {H' : X → Heap} {Pr : X → Prop} (hi : l[i]? = some { dst := some d, op := op, type := ty, pos := pos, after := after, guard := none })
    (h : RunM P N D b0 Mk L E op ty [] X (fun x => .value (v x)) H' Pr) (hn : notDeferOp op = true := by rfl) (hd : Nat.blt d N = true := by rfl)
    (k : ∀ x, Pr x → JG P rd b0 Mk N D l n f' (listed.setIfInBounds i true) (H' x ++ L) V ((d, v x) :: E) T) : JO P rd b0 Mk N D l n f' listed L V E T i := by
  intro hg inv a w ha hw
  have hi' : l.toArray[i]? = some { dst := some d, op := op, type := ty, pos := pos, after := after, guard := none } := by simpa using hi
  unfold wpO
  simp only [hi']
  rw [if_pos (by rfl)]
  obtain ⟨x, w', h1, h2, h3⟩ := h a w ha hw.right
  have hf : Fresh w w' (H' x) := ⟨⟨h2.os, h2.tape, h2.output, h2.size, fun k hk => h2.same k hk (by simp [keys])⟩, h2.own, fun p hp => (h2.key p hp).resolve_left (by simp [keys]), h2.nd⟩
  have h4 := fresh_shV hw hf
  exact wpIn_value (notDefer_mk hn) (by rw [execOp_mkO]; exact h1) ⟨SH b0 Mk (H' x ++ L), fun y hy => hy.right, h4.right, k x h3 hg inv _ _ (ha.put hd _) h4⟩

theorem SH.base {w : World} (h : SH b0 Mk L w) {r : Nat} {o : Obj} (hb : b0.heap[r]? = some o) (hM : r ∉ Mk) : w.heap[r]? = some o := by
  rw [h.same r (Array.getElem?_eq_some_iff.1 hb).1 hM]; exact hb

theorem q_loadB {t : TypeId} {x : Operand} {r k : Nat} {l : List Value} {T : TypeId} {f : Nat × Nat} {v : Value} (hA : ∀ w, (isAgg t).run P w = .ok false w) (hb : b0.heap[r]? = some (Obj.cells l.toArray T f)) (hx : ev E x = some (.pointer (some ⟨r, k, none⟩)) := by rfl)
    (hM : r ∉ Mk := by simp) (hv : nth l k = some v := by rfl) : RunQ P N D b0 Mk L E (.load t x) ty v := fun a w ha hw => by
  have ho := hw.base hb hM
  have hc : w.cell? ⟨r, k, none⟩ = some v := by rw [nth_eq] at hv; simp [World.cell?, ho, hv]
  simp [mkO, execOp, ha.eval hx, Instr.loadAt, Instr.sureAddr, loadVar, hA, hc]

theorem q_loadAB {t : TypeId} {x : Operand} {r k n : Nat} {l : List Value} {T : TypeId} {f : Nat × Nat} {cs : List Value} (hA : ∀ w, (isAgg t).run P w = .ok true w) (hS : ∀ w, (sizeOf t).run P w = .ok n w) (hb : b0.heap[r]? = some (Obj.cells l.toArray T f))
    (hx : ev E x = some (.pointer (some ⟨r, k, none⟩)) := by rfl) (hM : r ∉ Mk := by simp) (hv : seg l k n = some cs := by rfl) : RunQ P N D b0 Mk L E (.load t x) ty (.agg cs.toArray) := fun a w ha hw => by
  have ho := hw.base hb hM
  obtain ⟨h1, h2⟩ := seg_spec l n k cs hv
  have hl : (loadCells ⟨r, k, none⟩ n).run P w = .ok cs.toArray w := by
    rw [← h1]
    exact run_loadCells_list w ⟨r, k, none⟩ cs fun j v hj => by
      rw [addr_add]
      simp [World.cell?, ho, h2 j v hj]
  simp [mkO, execOp, ha.eval hx, Instr.loadAt, Instr.sureAddr, loadVar, hA, hS, hl]

theorem q_idxO {t e : TypeId} {x y : Operand} {r o n c k : Nat} {i : Int} {ki : IntKind} (hU : ∀ w, (underlying t).run P w = .ok (.slice e) w) (hS : ∀ w, (sizeOf e).run P w = .ok k w) (m : Nat) (hx : ev E x = some (.slice (some ⟨r, o, none⟩) n c) := by rfl) (hy : ev E y = some (.int ki i) := by rfl)
    (hi : i = (m : Int) := by first | rfl | omega) (hm : m < n := by omega) : RunQ P N D b0 Mk L E (.indexAddr t x y) ty (.pointer (some ⟨r, o + m * k, none⟩)) := fun a' w ha hw => by
  have _ := hw
  subst hi
  have hlt' : (m : Int) < (n : Int) := by omega
  simp [mkO, execOp, ha.eval hx, ha.eval hy, Instr.indexAt, asIntOf, hU, hS, hm, addr_add]

theorem JL_eqL {l : List Oper} {L' : Heap} (h : L = L') (k : JL P rd b0 Mk N D ops L' E l T) : JL P rd b0 Mk N D ops L E l T := h ▸ k

def MapIs {κ : Type} (enc : κ → Value) (es : Array MapEntry) (l : List (κ × Value)) : Prop := es.toList.map (fun e => (e.key, e.val)) = l.map fun p => (enc p.1, p.2)

def lookL {κ : Type} [DecidableEq κ] (l : List (κ × Value)) (x : κ) : Option Value := (l.find? fun p => p.1 = x).map (·.2)

def KeyOk {κ : Type} [DecidableEq κ] (kd : TypeDesc) (enc : κ → Value) : Prop := (∀ x y, Instr.sameNow kd (enc x) (enc y) = some (decide (x = y))) ∧ (∀ n t x (P : Program) w, (∀ w, (underlying t).run P w = .ok kd w) → (Instr.checkKey n 10000 t (enc x)).run P w = .ok () w)

theorem keyInt : KeyOk (κ := Int) (.int .i64) (fun x => .int .i64 x) := by
  refine ⟨fun x y => ?_, fun n t x P w h => ?_⟩
  · simp only [Instr.sameNow]
    by_cases hh : x = y <;> simp [hh]
  · show (do match ← underlying t, Value.int .i64 x with | _, _ => _ : Sem Unit).run P w = _
    simp only [Sem.run_bind, h, Result.andThen_ok, Sem.run_pure]

theorem findNow_is {κ : Type} [DecidableEq κ] {kd : TypeDesc} {enc : κ → Value} (hk : KeyOk kd enc) (x : κ) : ∀ (es : List MapEntry) (l : List (κ × Value)) (i : Nat), es.map (fun e => (e.key, e.val)) = l.map (fun p => (enc p.1, p.2)) →
    ∃ r, Instr.findNow kd (enc x) es i = some r ∧ r.map (·.2) = lookL l x ∧ (r = none ↔ ∀ p ∈ l, p.1 ≠ x)
  | [], [], i, _ => ⟨none, rfl, rfl, by simp⟩
  | [], _ :: _, _, h => by simp at h
  | _ :: _, [], _, h => by simp at h
  | e :: es, p :: l, i, h => by
    simp only [List.map_cons, List.cons.injEq, Prod.mk.injEq] at h
    obtain ⟨⟨h1, h2⟩, h3⟩ := h
    simp only [Instr.findNow, h1, hk.1]
    by_cases hx : x = p.1
    · subst hx
      refine ⟨some (i, e.val), by simp, by simp [lookL, h2], by simp⟩
    · have hx' : ¬ p.1 = x := fun e => hx e.symm
      obtain ⟨r, g1, g2, g3⟩ := findNow_is hk x es l (i + 1) h3
      refine ⟨r, by simp [hx, g1], by simp [g2, lookL, hx'], by simp [g3, hx']⟩

theorem q_lookup {κ : Type} [DecidableEq κ] {kd : TypeDesc} {enc : κ → Value} {t kt et : TypeId} {x y : Operand} {r ck : Nat} {es : Array MapEntry} {l : List (κ × Value)} {z : Value} (q : κ) (hk : KeyOk kd enc) (hU : ∀ w, (underlying t).run P w = .ok (.map kt et) w) (hK : ∀ w, (underlying kt).run P w = .ok kd w)
    (hz : ∀ w, (zeroValue et).run P w = .ok z w) (hes : MapIs enc es l) (hx : ev E x = some (.map (some r)) := by rfl) (hy : ev E y = some (enc q) := by rfl)
    (hm : (r, Obj.map es ck) ∈ L := by repeat (first | exact List.mem_cons_self | apply List.mem_cons_of_mem | apply List.mem_append_right)) :
    RunQ P N D b0 Mk L E (.lookup t x y false) ty ((lookL l q).getD z) := fun a w ha hw => by
  have ho := hw.own _ hm
  simp only at ho
  obtain ⟨rr, g1, g2, _⟩ := findNow_is hk q es.toList l 0 hes
  simp only [mkO, execOp, ha.eval hx, ha.eval hy, Instr.lookup, Sem.run_bind, hU, Result.andThen_ok, run_getObj_map ho, Sem.run_pure]
  rw [hk.2 _ _ _ P w hK]
  simp only [Result.andThen_ok, Instr.findKey, Sem.run_bind, hK, g1, Sem.run_pure]
  cases rr with
  | none => simp [← g2, hz]
  | some p => simp [← g2]

theorem a_map {t : TypeId} : RunA P N D b0 Mk L E (.makeMap t none) ty (.map #[] 0) (fun r => .map (some r)) := fun a w _ _ => by
  simp [mkO, execOp, Instr.makeMap]
theorem MapIs.nil {κ : Type} {enc : κ → Value} : MapIs enc #[] [] := rfl

theorem e_put {κ : Type} [DecidableEq κ] {kd : TypeDesc} {enc : κ → Value} {t kt et : TypeId} {x y u : Operand} {r ck : Nat} {es : Array MapEntry} {l : List (κ × Value)} {v : Value} (q : κ) (hk : KeyOk kd enc) (hU : ∀ w, (underlying t).run P w = .ok (.map kt et) w) (hK : ∀ w, (underlying kt).run P w = .ok kd w)
    (hes : MapIs enc es l) (hnew : ∀ p ∈ l, p.1 ≠ q) (hx : ev E x = some (.map (some r)) := by rfl) (hy : ev E y = some (enc q) := by rfl) (hu : ev E u = some v := by rfl)
    (hm : (r, Obj.map es ck) ∈ L := by repeat (first | exact List.mem_cons_self | apply List.mem_cons_of_mem | apply List.mem_append_right)) :
    RunM P N D b0 Mk L E (.mapUpdate t x y u) ty [(r, .map es ck)] (Array MapEntry × Nat) (fun _ => .skip) (fun x => [(r, .map x.1 x.2)]) (fun x => MapIs enc x.1 (l ++ [(q, v)])) := fun a w ha hw => by
  have ho := hw.own _ hm
  simp only at ho
  obtain ⟨rr, g1, _, g3⟩ := findNow_is hk q es.toList l 0 hes
  have hr : rr = none := g3.2 hnew
  subst hr
  have hset : (setObj r (.map (es.push { key := enc q, val := v, born := ck }) (ck + 1))).run P w = .ok () (w.putObj r (.map (es.push { key := enc q, val := v, born := ck }) (ck + 1))) := by
    simp [setObj, Sem.run, ho, World.putObj]
  refine ⟨(es.push { key := enc q, val := v, born := ck }, ck + 1), w.putObj r (.map (es.push { key := enc q, val := v, born := ck }) (ck + 1)), ?_, ?_, ?_⟩
  · simp only [mkO, execOp, ha.eval hx, ha.eval hy, ha.eval hu, Instr.mapUpdate, Sem.run_bind, hU, Result.andThen_ok, run_getObj_map ho]
    rw [hk.2 _ _ _ P w hK]
    simp only [Result.andThen_ok, Instr.findKey, Sem.run_bind, hK, g1, Sem.run_pure, hset]
  · exact putObj_tr (R := []) ho (fun _ h => by cases h) (by simp [keys])
  · simp only [MapIs, Array.toList_push, List.map_append] at hes ⊢
    rw [hes]; rfl
end
section
variable {P : Program} {rd : Option Nat} {b0 : World} {Mk : List Nat} {N : Nat} {D : List Deferred} {ops : Array Oper} {L V : Heap} {E : Env} {T : Act → World → Prop}
variable {op : Op} {ty : TypeId} {pos : String} {after : Array Edge} {d : Nat}

theorem SlJ.lit {α : Type} {enc : α → List Value} {k : Nat} {r : Nat} {l : List Value} {T : TypeId} {xs : List α} (hE : EncOk enc k) (hl : l = flat enc xs := by rfl)
    (hm : (r, Obj.cells l.toArray T) ∈ L := by repeat (first | exact List.mem_cons_self | apply List.mem_cons_of_mem | apply List.mem_append_right)) : SlJ b0 Mk L enc k (some ⟨r, 0, none⟩) xs := fun w hw =>
  OwnB.sl (e := T) (c := xs.length) (B := [(r, Obj.cells l.toArray T)]) hE (OwnB.mk rfl hl hE) (fun p hp => by
    have : p = (r, Obj.cells l.toArray T) := by simpa using hp
    subst this
    exact hw.own _ hm)

theorem JL_append {α : Type} {enc : α → List Value} {kk by_ : Nat} {t e : TypeId} {z : Value} {x y : Operand} {a a' : Option Addr} {c c' n m : Nat} {B R : Heap} {xs ys : List α} {l : List Oper} (zs : List α) (hz : xs ++ ys = zs) (hT : Ty P e kk by_ z) (hU : P.underlying t = some (.slice e)) (hE : EncOk enc kk) (ho : OwnB enc kk e a c B xs)
    (hL : List.Perm L (B ++ R)) (hs : SlJ b0 Mk L enc kk a' ys) (hb : 2 * (n + m) * by_ ≤ 281474976710656 ∧ n + m ≤ 4611686018427387904) (hx : ev E x = some (.slice a n c) := by rfl) (hy : ev E y = some (.slice a' m c') := by rfl) (hn : xs.length = n := by rfl) (hm : ys.length = m := by rfl)
    (hd : Nat.blt d N = true := by rfl)
    (k : ∀ a2 c2 B2, OwnB enc kk e a2 c2 B2 zs → JL P rd b0 Mk N D ops (B2 ++ R) ((d, .slice a2 zs.length c2) :: E) l T) :
    JL P rd b0 Mk N D ops L E ({ dst := some d, op := .call { callee := .builtin .append, args := #[x, y], argTypes := #[t, t] }, type := ty, pos := pos, after := after, guard := none } :: l) T := by
  subst hz
  refine JL_e hL (e_append hT hU hE ho hs (fun p hp => hL.mem_iff.2 (List.mem_append_left _ hp)) hn hm hb.1 hb.2 hx hy) rfl hd (fun q hq => ?_)
  have := k q.1 q.2.1 q.2.2 hq
  rw [List.length_append, hn, hm] at this
  exact this

theorem JD_append {α : Type} {enc : α → List Value} {kk by_ : Nat} {t e : TypeId} {z : Value} {x y : Operand} {a a' : Option Addr} {c c' n m : Nat} {B R : Heap} {xs ys : List α} {l : List (Bool × Oper)} (zs : List α) (hz : xs ++ ys = zs) (hT : Ty P e kk by_ z) (hU : P.underlying t = some (.slice e)) (hE : EncOk enc kk) (ho : OwnB enc kk e a c B xs)
    (hV : List.Perm V (B ++ R)) (hs : SlJ b0 Mk (V ++ L) enc kk a' ys) (hb : 2 * (n + m) * by_ ≤ 281474976710656 ∧ n + m ≤ 4611686018427387904) (hx : ev E x = some (.slice a n c) := by rfl) (hy : ev E y = some (.slice a' m c') := by rfl) (hn : xs.length = n := by rfl) (hm : ys.length = m := by rfl)
    (hd : Nat.blt d N = true := by rfl)
    (k : ∀ a2 c2 B2, OwnB enc kk e a2 c2 B2 zs → JD P rd b0 Mk N D ops L (B2 ++ R) ((d, .slice a2 zs.length c2) :: E) l T) :
    JD P rd b0 Mk N D ops L V E ((false, { dst := some d, op := .call { callee := .builtin .append, args := #[x, y], argTypes := #[t, t] }, type := ty, pos := pos, after := after, guard := none }) :: l) T := by
  subst hz
  refine JD_e hV (e_append hT hU hE ho hs (fun p hp => List.mem_append_left _ (hV.mem_iff.2 (List.mem_append_left _ hp))) hn hm hb.1 hb.2 hx hy) rfl hd (fun q hq => ?_)
  have := k q.1 q.2.1 q.2.2 hq
  rw [List.length_append, hn, hm] at this
  exact this

theorem JL_storeE {α : Type} {enc : α → List Value} {kk : Nat} {t e : TypeId} {x y : Operand} {v : Value} {a : Option Addr} {c o : Nat} {B R : Heap} {xs : List α} {l : List Oper} (m : Nat) (u : α) (hS : ∀ w, (sizeOf t).run P w = .ok kk w) (hE : EncOk enc kk) (ho : OwnB enc kk e a c B xs) (hL : List.Perm L (B ++ R)) (hm : m < xs.length)
    (hx : ev E x = some (.pointer (some (ea a o))) := by rfl) (hy : ev E y = some v := by rfl) (hv : cellsL v = enc u := by rfl) (hoo : o = m * kk := by first | rfl | omega)
    (k : ∀ B2, OwnB enc kk e a c B2 (xs.set m u) → JL P rd b0 Mk N D ops (B2 ++ R) E l T) :
    JL P rd b0 Mk N D ops L E ({ dst := none, op := .store t x y, type := ty, pos := pos, after := after, guard := none } :: l) T :=
  JL_es hL (e_storeE m u hS hE ho (fun p hp => hL.mem_iff.2 (List.mem_append_left _ hp)) hm hx hy hv hoo) rfl k

theorem JL_put {κ : Type} [DecidableEq κ] {kd : TypeDesc} {enc : κ → Value} {t kt et : TypeId} {x y u : Operand} {r ck : Nat} {es : Array MapEntry} {ml : List (κ × Value)} {v : Value} {R : Heap} {l : List Oper} (q : κ) (hk : KeyOk kd enc) (hU : ∀ w, (underlying t).run P w = .ok (.map kt et) w) (hK : ∀ w, (underlying kt).run P w = .ok kd w)
    (hes : MapIs enc es ml) (hnew : ∀ p ∈ ml, p.1 ≠ q) (hL : List.Perm L ((r, Obj.map es ck) :: R)) (hx : ev E x = some (.map (some r)) := by rfl) (hy : ev E y = some (enc q) := by rfl) (hu : ev E u = some v := by rfl)
    (k : ∀ es2 ck2, MapIs enc es2 (ml ++ [(q, v)]) → JL P rd b0 Mk N D ops ((r, Obj.map es2 ck2) :: R) E l T) :
    JL P rd b0 Mk N D ops L E ({ dst := none, op := .mapUpdate t x y u, type := ty, pos := pos, after := after, guard := none } :: l) T :=
  JL_es (H := [(r, Obj.map es ck)]) hL (e_put q hk hU hK hes hnew hx hy hu (hL.mem_iff.2 List.mem_cons_self)) rfl (fun x hq => k x.1 x.2 hq)
end
end Go.Proofs.YtopjaeoklkpcpaaGreatDoor.Jd

namespace Go.Proofs.YtopjaeoklkpcpaaGreatDoor.Jd
open Go.RowKit (Below)
set_option linter.unusedVariables false
set_option linter.unusedSimpArgs false

theorem stepR_scope {P : Program} {b : Frame} {a : Act} {k : List Item} {cs : List Frame} {w : World} {c : Code} : step P (lone (b.atR a (.code (.scope c) :: k)) cs w) = .next (lone (b.atR a (.code c :: .inScope c :: k)) cs w) :=
  step_lone_go (by simp [stepG, stepG.exec, Frame.atR])
theorem stepR_inScope {P : Program} {b : Frame} {a : Act} {k : List Item} {cs : List Frame} {w : World} {c : Code} : step P (lone (b.atR a (.inScope c :: k)) cs w) = .next (lone (b.atR a k) cs w) :=
  step_lone_go (by simp [stepG, stepG.exec, Frame.atR])

section
variable {P : Program} {rd : Option Nat} {b0 : World} {Mk : List Nat} {N : Nat} {D : List Deferred} {ops : Array Oper} {L V : Heap} {E : Env} {T : Act → World → Prop} {Q : Exit → Act → World → Prop}
variable {op : Op} {ty : TypeId} {pos : String} {after : Array Edge} {d : Nat}

theorem J_scope {c : Code} (h : J P rd b0 Mk N D L E c (Exit.noGoto Q)) : J P rd b0 Mk N D L E (Code.scope c) Q := by
  intro a w ha hw b k cs hro hb hr
  have h0 : (lone (b.atR a (.code (.scope c) :: k)) cs w).fenced P (FW rd) := fenced_calm hb hr rfl
  obtain ⟨e, a₁, w₁, hq, harr⟩ := h a w ha hw b (.inScope c :: k) cs hro hb hr
  cases e with
  | normal => exact ⟨.normal, a₁, w₁, hq, .head h0 stepR_scope (StepsIn.trans harr (.one (fenced_calm hb hr rfl) stepR_inScope))⟩
  | goto l => exact hq.elim
  | exit id => exact ⟨_, a₁, w₁, hq, .of_steps (.one h0 stepR_scope) (e := .exit id) ⟨fun k' hk => harr.1 k' (by simpa [exitTo] using hk), fun hr hk => harr.2 hr (by simpa [exitTo] using hk)⟩⟩
  | ret => exact ⟨_, a₁, w₁, hq, .of_steps (.one h0 stepR_scope) harr⟩
  | panic ch => exact ⟨_, a₁, w₁, hq, .of_steps (.one h0 stepR_scope) harr⟩
  | outgrown => exact ⟨_, a₁, w₁, hq, .of_steps (.one h0 stepR_scope) harr⟩
theorem JX_scope (h : JX b0 Mk N D L E Q .normal) : JX b0 Mk N D L E (Exit.noGoto Q) .normal := h
theorem c_callA {f : Operand} {l : List Operand} {tys : Array TypeId} {k : FuncId} {fs cs vs args : List Value} (hc : ∀ args w, (callFunc k args).run P w = .ok (.enter k args) w)
    (hf : ev E f = some (.func (.func k) fs.toArray cs.toArray) := by rfl) (ha : evs E l = some vs := by rfl) (he : fs ++ vs ++ cs = args := by rfl) :
    RunC P N D b0 Mk L E (.call { callee := .value f, args := l.toArray, argTypes := tys }) ty k args := he ▸ c_call hc hf ha

theorem q_eqNil {t e t' : TypeId} {x y : Operand} {a : Option Addr} {n c : Nat} (hU : ∀ w, (underlying t).run P w = .ok (.slice e) w) (hx : ev E x = some (.slice a n c) := by rfl) (hy : ev E y = some (.slice none 0 0) := by rfl) : RunQ P N D b0 Mk L E (.binOp .eql t x y t') ty (.bool a.isNone) := fun ac w ha _ => by
  have h : ∀ d, (Op.equalIn (d + 1) t (.slice a n c) (.slice none 0 0)).run P w = .ok a.isNone w := fun d => by
    unfold Op.equalIn
    cases a <;> simp [hU]
  have h1 : (binOp .eql t (.slice a n c) (.slice none 0 0)).run P w = .ok (.bool a.isNone) w := by
    show (do pure (.bool (← Op.equal t (.slice a n c) (.slice none 0 0))) : Sem Value).run P w = _
    simp only [Sem.run_bind, Op.equal, Op.maxDepth, h 9999, Result.andThen_ok, Sem.run_pure]
  simp only [mkO, execOp, ha.eval hx, ha.eval hy, eqGuard, Sem.run_bind]
  simp [h1]

def SlB (B : Heap) {α : Type} (enc : α → List Value) (k : Nat) (a : Option Addr) (xs : List α) : Prop := ∀ w : World, (∀ p ∈ B, w.heap[p.1]? = some p.2) → Sl w enc k a xs

theorem SlB.slj {B : Heap} {α : Type} {enc : α → List Value} {k : Nat} {a : Option Addr} {xs : List α} (h : SlB B enc k a xs) (hB : ∀ p ∈ B, p ∈ L := by intro p hp; repeat (first | exact hp | exact List.mem_append_left _ hp | apply List.mem_append_right | apply List.mem_cons_of_mem)) : SlJ b0 Mk L enc k a xs :=
  fun w hw => h w fun p hp => hw.own p (hB p hp)
theorem SlB.mono {B B' : Heap} {α : Type} {enc : α → List Value} {k : Nat} {a : Option Addr} {xs : List α} (h : SlB B enc k a xs) (hB : ∀ p ∈ B, p ∈ B') : SlB B' enc k a xs :=
  fun w hw => h w fun p hp => hw p (hB p hp)
theorem SlB.nil {B : Heap} {α : Type} {enc : α → List Value} {k : Nat} {a : Option Addr} : SlB B enc k a [] := fun _ _ => Sl.nil
theorem OwnB.slb {α : Type} {enc : α → List Value} {k : Nat} {e : TypeId} {a : Option Addr} {c : Nat} {B B' : Heap} {xs : List α} (h : OwnB enc k e a c B xs) (hE : EncOk enc k) (hB : ∀ p ∈ B, p ∈ B' := by intro p hp; repeat (first | exact hp | exact List.mem_append_left _ hp | apply List.mem_append_right | apply List.mem_cons_of_mem)) : SlB B' enc k a xs :=
  fun _ hw => h.sl hE fun p hp => hw p (hB p hp)

theorem Sl.none {α : Type} {enc : α → List Value} {k : Nat} {xs : List α} {w : World} (h : Sl w enc k none xs) : xs = [] := by
  cases xs with
  | nil => rfl
  | cons x r => obtain ⟨b, off, h1, _⟩ := h 0 x rfl; cases h1

theorem Sl.lt {w : World} {α : Type} {enc : α → List Value} {k : Nat} {p : Addr} {xs : List α} (h : Sl w enc k (some p) xs) (hE : EncOk enc k) (hx : xs ≠ []) : p.block < w.heap.size := by
  cases xs with
  | nil => exact absurd rfl hx
  | cons x r =>
    obtain ⟨b, off, h1, _, h3⟩ := h 0 x rfl
    have e1 := Option.some.inj h1
    have hp : 0 < (enc x).length := by rw [hE.len]; exact hE.pos
    have hc := h3 0 _ (List.getElem?_eq_getElem hp)
    have := World.block_lt_of_cell? w _ hc
    rw [e1]; exact this
def NotIn {α : Type} (a : Option Addr) (xs : List α) (k : Nat) : Prop := ∀ p, a = some p → xs ≠ [] → k ≠ p.block
theorem Sl.notIn {w : World} {α : Type} {enc : α → List Value} {k n : Nat} {a : Option Addr} {xs : List α} (h : Sl w enc k a xs) (hE : EncOk enc k) (hn : w.heap.size ≤ n) : NotIn a xs n := fun p hp hx e => by
  subst hp
  have := h.lt hE hx
  omega
theorem SlJ.of_world {α : Type} {enc : α → List Value} {k : Nat} {a : Option Addr} {xs : List α} (h : Sl b0 enc k a xs) (hM : ∀ m ∈ Mk, NotIn a xs m) : SlJ b0 Mk L enc k a xs := fun w hw i x hx => by
  obtain ⟨b, off, h1, h2, h3⟩ := h i x hx
  refine ⟨b, off, h1, h2, fun j v hv => ?_⟩
  have hc := h3 j v hv
  have hlt := World.block_lt_of_cell? b0 _ hc
  exact cell_of_same hc (hw.same b hlt (fun hm => hM b hm _ h1 (fun e => by subst e; simp at hx) rfl))

theorem e_copy {α : Type} {enc : α → List Value} {k by_ : Nat} {t e : TypeId} {z : Value} {x y : Operand} {a a' : Option Addr} {c c' n : Nat} {B : Heap} {xs ys : List α} (hT : Ty P e k by_ z) (hU : P.underlying t = some (.slice e)) (hE : EncOk enc k) (ho : OwnB enc k e a c B xs)
    (hs : SlJ b0 Mk L enc k a' ys) (hB : ∀ p ∈ B, p ∈ L) (hn : xs.length = n) (hm : ys.length = n) (hx : ev E x = some (.slice a n c) := by rfl) (hy : ev E y = some (.slice a' n c') := by rfl) :
    RunM P N D b0 Mk L E (.call { callee := .builtin .copy, args := #[x, y], argTypes := #[t, t] }) ty B Heap (fun _ => .value (.int .i64 n)) (fun q => q) (fun q => OwnB enc k e a c q ys) := by
  intro ac w ha hw
  obtain ⟨i, hi, rfl, rfl, hz⟩ := hT.ex
  have run1 : ∀ (v' : Value) (w' : World), (Builtin.copy_ #[t, t] ty #[.slice a n c, .slice a' n c']).run P w = .ok v' w' →
      (execOp ac.eval (mkO (.call { callee := .builtin .copy, args := #[x, y], argTypes := #[t, t] }) ty)).run P w = .ok (.value v') w' := fun v' w' h => by
    simp [mkO, execOp, resolve, invoke, builtin, ha.eval hx, ha.eval hy, h]
  have hsl := hs w hw
  have hmin : Nat.min n n = n := Nat.min_self n
  rcases ho with ⟨rfl, rfl, rfl⟩ | ⟨r, cur, fz, rfl, rfl, hfz, h1, h2, h3⟩
  · simp at hn; subst hn
    have : ys = [] := List.length_eq_zero_iff.1 hm
    subst this
    refine ⟨[], w, run1 _ _ ?_, Tr.refl (fun _ h => by cases h) (by simp [keys]), OwnB.nil⟩
    rcases a with _ | ad <;> rcases a' with _ | ad' <;> simp [Builtin.copy_, run_underlying hU, Builtin.lenOf, Builtin.firstCells, sizeOf, typeInfo, hi, loadCells, loadCellsFrom, storeCells, goInt]
  · have hh : w.heap[r]? = some (.cells cur e fz) := hw.own _ (hB _ List.mem_cons_self)
    have hfl := flat_length hE ys
    have hle : n * i.size ≤ c * i.size := Nat.mul_le_mul_right _ (by omega)
    have hst := run_storeCells_atG P r 0 e fz (flat enc ys) 0 cur w hh hfz (by rw [hfl, hm]; omega) (flat_one hE ys)
    refine ⟨[(r, .cells (cur.toList.take (0 + 0) ++ flat enc ys ++ cur.toList.drop (0 + 0 + (flat enc ys).length)).toArray e fz)], _, run1 _ _ ?_, tr_row hh, OwnB.fullF ?_ (by omega) ?_ ?_⟩
    · rcases a' with _ | ad
      · have : ys = [] := Sl.none hsl
        subst this
        have hn0 : n = 0 := by simpa using hm.symm
        subst hn0
        simp only [flat, List.map_nil, List.flatten_nil] at hst ⊢
        simp [Builtin.copy_, run_underlying hU, Builtin.lenOf, Builtin.firstCells, sizeOf, typeInfo, hi, hst, goInt]
      · have hl : (loadCells ad (n * i.size)).run P w = .ok (flat enc ys).toArray w := by
          rw [← hm, ← hfl]
          have := Sl.cells hE hsl ys.length (Nat.le_refl _)
          rw [List.take_length] at this
          exact run_loadCells_list w ad _ this
        simp [Builtin.copy_, run_underlying hU, Builtin.lenOf, Builtin.firstCells, sizeOf, typeInfo, hi, hmin, hl, hst, goInt]
    · refine hfz.imp id fun h => Nat.le_trans (Nat.le_of_eq ?_) h
      simp [hfl, hm, h2]; omega
    · simp [hfl, hm, h2]; omega
    · simp only [Nat.add_zero, List.take_zero, List.nil_append, Nat.zero_add]
      rw [List.take_left' (by rw [hfl])]
end
section
variable {P : Program} {rd : Option Nat} {b0 : World} {Mk : List Nat} {N : Nat} {D : List Deferred} {ops : Array Oper} {L V : Heap} {E : Env} {T : Act → World → Prop}
variable {ty : TypeId} {pos : String} {after : Array Edge} {d : Nat}
theorem JD_copy {α : Type} {enc : α → List Value} {k by_ : Nat} {t e : TypeId} {z : Value} {x y : Operand} {a a' : Option Addr} {c c' n : Nat} {B R : Heap} {xs ys : List α} {l : List (Bool × Oper)} (hT : Ty P e k by_ z) (hU : P.underlying t = some (.slice e)) (hE : EncOk enc k) (ho : OwnB enc k e a c B xs)
    (hV : List.Perm V (B ++ R)) (hs : SlJ b0 Mk (V ++ L) enc k a' ys) (hn : xs.length = n) (hm : ys.length = n) (hx : ev E x = some (.slice a n c) := by rfl) (hy : ev E y = some (.slice a' n c') := by rfl)
    (hd : Nat.blt d N = true := by rfl)
    (kk : ∀ B2, OwnB enc k e a c B2 ys → JD P rd b0 Mk N D ops L (B2 ++ R) ((d, .int .i64 n) :: E) l T) :
    JD P rd b0 Mk N D ops L V E ((false, { dst := some d, op := .call { callee := .builtin .copy, args := #[x, y], argTypes := #[t, t] }, type := ty, pos := pos, after := after, guard := none }) :: l) T :=
  JD_e hV (e_copy hT hU hE ho hs (fun p hp => List.mem_append_left _ (hV.mem_iff.2 (List.mem_append_left _ hp))) hn hm hx hy) rfl hd (fun q hq => kk q hq)
end
theorem run_eqI {P : Program} {t : TypeId} {w : World} (d : Nat) (k : IntKind) (p q : Int) (hU : ∀ w, (underlying t).run P w = .ok (.int k) w) : (Op.equalIn (d + 1) t (.int k p) (.int k q)).run P w = .ok (decide (p = q)) w := by
  unfold Op.equalIn
  simp only [Sem.run_bind, hU, Result.andThen_ok]
  by_cases h : p = q <;> simp [h]
theorem SlB.take {B : Heap} {α : Type} {enc : α → List Value} {k : Nat} {a : Option Addr} {xs : List α} (h : SlB B enc k a xs) (n : Nat) : SlB B enc k a (xs.take n) := fun w hw i x hx => h w hw i x (by
  rw [List.getElem?_take] at hx
  split at hx
  · exact hx
  · cases hx)
theorem perm_seg (A B C : Heap) : List.Perm (A ++ (B ++ C)) (B ++ (A ++ C)) := by
  rw [← List.append_assoc, ← List.append_assoc]; exact List.perm_append_comm.append_right _
end Go.Proofs.YtopjaeoklkpcpaaGreatDoor.Jd

namespace Go.Proofs.YtopjaeoklkpcpaaGreatDoor.Jd
open Go.ChangeShapes Go.WideShapes Go.ChangeAt Go.RowKit
set_option linter.unusedVariables false
set_option linter.unusedSimpArgs false
section
variable {H : Type} {encH : TypeId × Value → H} {P : Program} {W W' : World}

theorem choose_list {α : Type} (p : Nat → α → Prop) : ∀ n, (∀ i, i < n → ∃ x, p i x) → ∃ xs : List α, xs.length = n ∧ ∀ (i : Nat) (x : α), xs[i]? = some x → p i x
  | 0, _ => ⟨[], rfl, fun i x h => by simp at h⟩
  | n + 1, h => by
    obtain ⟨xs, h1, h2⟩ := choose_list p n (fun i hi => h i (by omega))
    obtain ⟨x, hx⟩ := h n (by omega)
    refine ⟨xs ++ [x], by simp [h1], fun i y hy => ?_⟩
    rcases Nat.lt_or_ge i n with hi | hi
    · rw [List.getElem?_append_left (by omega)] at hy; exact h2 i y hy
    · rw [List.getElem?_append_right (by omega)] at hy
      have : i - xs.length = 0 := by
        have := (List.getElem?_eq_some_iff.1 hy).1
        simp at this; omega
      rw [this] at hy
      have : i = n := by omega
      subst this
      have : y = x := by simpa using hy.symm
      subst this; exact hx

def Opens {α : Type} (encH : TypeId × Value → H) (P : Program) (W : World) (e : TypeId) (enc : α → List Value) : Prop :=
  ∀ (n : Nat) (cs : List Value) (y : DataW H × List MemPlace), DataW.trod encH P W 0 (fun _ => true) true n e cs = some y → ∃ x, cs = enc x

theorem opens_int {e : TypeId} {k : IntKind} (he : P.underlying e = some (.int k)) : Opens encH P W e (fun x : Int => [Value.int k x]) := fun n cs y h => by
  obtain ⟨m, rfl, _, _⟩ := DataW.trod_int he h
  exact ⟨m, rfl⟩
theorem opens_bool {e : TypeId} (he : P.underlying e = some .bool) : Opens encH P W e (fun x : Bool => [Value.bool x]) := fun n cs y h => by
  obtain ⟨m, rfl, _⟩ := DataW.trod_bool he h
  exact ⟨m, rfl⟩

theorem open_sl {α : Type} {enc : α → List Value} {k : Nat} {t e : TypeId} {n : Nat} {cs : List Value} {y : DataW H × List MemPlace} (ht : P.underlying t = some (.slice e)) (hk : P.cellsOf e = k) (hE : EncOk enc k) (ho : Opens encH P W e enc)
    (h : DataW.trod encH P W 0 (fun _ => true) true n t cs = some y) : ∃ a c, ∃ xs : List α, cs = [.slice a xs.length c] ∧ xs.length ≤ c ∧ Sl W enc k a xs := by
  subst hk
  rcases DataW.trod_slice ht h with ⟨rfl, _⟩ | ⟨a, len, cap, elems, rest, m, _, rfl, _, _, hl, _, hlen, hel, _, _⟩
  · exact ⟨none, 0, [], rfl, Nat.le_refl _, Sl.nil⟩
  · obtain ⟨xs, hxl, hxs⟩ := choose_list (fun i (x : α) => W.cells? 0 (a.add (i * P.cellsOf e)) (P.cellsOf e) = some (enc x)) len (fun i hi => by
      have h1 := hel i hi
      rw [List.getElem?_eq_getElem (by omega), Option.bind_eq_some_iff] at h1
      obtain ⟨cs', h2, h3⟩ := h1
      obtain ⟨x, rfl⟩ := ho _ _ _ h3
      exact ⟨x, h2⟩)
    have hspot : xs ≠ [] → a.spot = none := fun hne => by
      obtain ⟨x, r, rfl⟩ := List.exists_cons_of_ne_nil hne
      have h1 := (World.cells?_some (hxs 0 x rfl)).2.2 0 hE.pos
      have hp : 0 < (enc x).length := by rw [hE.len]; exact hE.pos
      rw [List.getElem?_eq_getElem hp] at h1
      have e0 : (a.add (0 * P.cellsOf e)).add 0 = a := by simp [Addr.add]
      rw [e0] at h1
      unfold World.cell? at h1
      split at h1
      · split at h1
        · cases h1
        · rename_i hs; simpa using hs
      · cases h1
    refine ⟨some a, cap, xs, by rw [hxl], by omega, fun i x hx => ?_⟩
    have hsp := hspot (fun e => by subst e; simp at hx)
    obtain ⟨b, off, sp⟩ := a
    simp only at hsp
    subst hsp
    refine ⟨b, off, rfl, hE.len x, fun j v hv => ?_⟩
    have hj := (List.getElem?_eq_some_iff.1 hv).1
    have h1 := (World.cells?_some (hxs i x hx)).2.2 j (by rw [hE.len] at hj; exact hj)
    rw [addr_add, addr_add, hv] at h1
    exact h1

theorem trodAll_stays (hl : laidOutB P = true) {sp : Nat → Bool} (hb : Below W.heap.size W W') : ∀ {ts : List TypeId} {vs : List Value} {ds : List (DataW H)} {ps : List MemPlace}, (ts.all fun t => P.readableRec t && decide (t < P.types.size)) = true →
    DataW.TrodAll encH P W 0 (fun _ => true) true ts vs ds ps → (∀ x ∈ ps, x.block < W.heap.size) → (∀ x ∈ ps, sp x.block = true) → DataW.TrodAll encH P W' 0 sp true ts vs ds ps
  | [], [], [], _, _, h, _, _ => h
  | t :: ts, v :: vs, d :: ds, ps, hr, h, hlt, hsp => by
    obtain ⟨p, q, h1, h2, rfl⟩ := h
    simp only [List.all_cons, Bool.and_eq_true, decide_eq_true_eq] at hr
    exact ⟨p, q, WideElems.Trod_stays hl hr.1.1 hr.1.2 h1 (fun x hx => hb.same (hlt x (List.mem_append_left _ hx))) (fun x hx => hsp x (List.mem_append_left _ hx)),
      trodAll_stays hl hb hr.2 h2 (fun x hx => hlt x (List.mem_append_right _ hx)) (fun x hx => hsp x (List.mem_append_right _ hx)), rfl⟩
  | [], _ :: _, _, _, _, h, _, _ => by cases h
  | [], [], _ :: _, _, _, h, _, _ => by cases h
  | _ :: _, [], _, _, _, h, _, _ => by cases h
  | _ :: _, _ :: _, [], _, _, h, _, _ => by cases h

theorem trodAllLen {sp : Nat → Bool} {b : Nat} {hd : Bool} : ∀ {ts : List TypeId} {vs : List Value} {ds : List (DataW H)} {ps : List MemPlace}, DataW.TrodAll encH P W b sp hd ts vs ds ps → ds.length = ts.length
  | [], [], [], _, _ => rfl
  | t :: ts, v :: vs, d :: ds, ps, h => by
    obtain ⟨p, q, _, h2, _⟩ := h
    simp [trodAllLen h2]
  | [], _ :: _, _, _, h => by cases h
  | [], [], _ :: _, _, h => by cases h
  | _ :: _, [], _, _, h => by cases h
  | _ :: _, _ :: _, [], _, h => by cases h
theorem law_post {f : Func} {s : ChangeSpec} {args : Array Value} {ds gs : List (DataW H)} {before : List MemPlace} {tb : TypeId} (hl : laidOutB P = true) (hr : (f.params.toList.all fun t => P.readableRec t && decide (t < P.types.size)) = true)
    (hrt : f.resultTypes = #[tb]) (hb : P.underlying tb = some .bool) (hvars : s.vars = []) (hfn : ∀ ds : List (DataW H), ds.length = f.params.toList.length → (s.fn H ds).results = [.lit (.bool true)] ∧ (s.fn H ds).args = ds ∧ (s.fn H ds).vars = [])
    (hW : DataW.Whole encH P f.params.toList s.vars false W args.toList ds gs before) (hE : Ext W W') : s.post encH P f false true false false W args (.bool true) W' := by
  have hW' := hW
  obtain ⟨p, q, hA, hV, hps, hz, hn⟩ := hW
  rw [hvars] at hV
  obtain ⟨rfl, rfl⟩ := trodVars_none hV
  rw [List.append_nil] at hps
  subst hps
  have hlen := trodAllLen hA
  obtain ⟨e1, e2, e3⟩ := hfn ds hlen
  have hlt : ∀ x ∈ before, x.block < W.heap.size := fun x hx => by simpa using hW'.lt x hx
  refine ⟨ds, [], before, [], before, [], hW', ?_, ?_, ?_, hE.frame _, fun h => by cases h⟩
  · rw [List.append_nil, e1, hrt]
    exact trodAll_cons_mk (shut_bool hb _) trodAll_mk0
  · rw [List.append_nil, e2]
    exact trodAll_stays hl hE hr hA hlt (fun x hx => by simpa using hlt x hx)
  · rw [List.append_nil, e3, hvars]
    exact rfl
end
end Go.Proofs.YtopjaeoklkpcpaaGreatDoor.Jd

namespace Go.Proofs.YtopjaeoklkpcpaaGreatDoor.Jd
open Go.RowKit (Below)
set_option linter.unusedVariables false
set_option linter.unusedSimpArgs false

def Is {α : Type} (a b : α) : Prop := a = b
theorem Is.refl {α : Type} (a : α) : Is a a := rfl
theorem Is.eq {α : Type} {a b : α} (h : Is a b) : a = b := h
theorem Is.pos {α : Type} {a x y : α} {c : Prop} {i : Decidable c} (h : Is a (@ite α c i x y)) (hc : c) : Is a x := Eq.trans h (if_pos hc)
theorem Is.neg {α : Type} {a x y : α} {c : Prop} {i : Decidable c} (h : Is a (@ite α c i x y)) (hc : ¬ c) : Is a y := Eq.trans h (if_neg hc)
theorem Is.t {α : Type} {a x y : α} {b : Bool} {i : Decidable (b = true)} (h : Is a (@ite α (b = true) i x y)) (hc : b = true) : Is a x := Eq.trans h (if_pos hc)
theorem Is.f {α : Type} {a x y : α} {b : Bool} {i : Decidable (b = true)} (h : Is a (@ite α (b = true) i x y)) (hc : b = false) : Is a y := Eq.trans h (if_neg (by rw [hc]; exact Bool.noConfusion))
theorem Is.to {α : Type} {a b c : α} (h : Is a b) (k : b = c) : Is a c := Eq.trans h k
def outc0 {γ ε : Type} (x : Except ε Unit) (f : ε → γ) (g : γ) : γ := match x with | .error e => f e | .ok _ => g 
def run0 {γ : Type} (_ : Unit) (g : γ) : γ := g 
theorem Is.ok0 {γ ε : Type} {A : γ} {x : Except ε Unit} {f : ε → γ} {g : γ} (h : Is A (outc0 x f g)) (hx : Is x (.ok ())) : Is A (g ) := by cases hx; exact h
theorem Is.rn0 {γ : Type} {A : γ} {x : Unit} {g : γ} (h : Is A (run0 x g)) (hx : Is x ()) : Is A (g ) := by cases hx; exact h
def outc1 {α1 γ ε : Type} (x : Except ε α1) (f : ε → γ) (g : α1 → γ) : γ := match x with | .error e => f e | .ok v => g v
def run1 {α1 γ : Type} (v : α1) (g : α1 → γ) : γ := g v
theorem Is.ok1 {α1 γ ε : Type} {A : γ} {x : Except ε α1} {f : ε → γ} {g : α1 → γ} {u1 : α1} (h : Is A (outc1 x f g)) (hx : Is x (.ok u1)) : Is A (g u1) := by cases hx; exact h
theorem Is.er1 {α1 γ ε : Type} {A : γ} {x : Except ε α1} {f : ε → γ} {g : α1 → γ} {e : ε} (h : Is A (outc1 x f g)) (hx : Is x (.error e)) : Is A (f e) := by cases hx; exact h
def Is.xr1 {α1 γ : Type} {A : γ} {x : α1} {g : α1 → γ} (_ : Is A (run1 x g)) : α1 := x
theorem Is.rn1 {α1 γ : Type} {A : γ} {x : α1} {g : α1 → γ} {u1 : α1} (h : Is A (run1 x g)) (hx : Is x u1) : Is A (g u1) := by cases hx; exact h
def outc2 {α1 α2 γ ε : Type} (x : Except ε (α1 × α2)) (f : ε → γ) (g : α1 → α2 → γ) : γ := match x with | .error e => f e | .ok v => g v.1 v.2
def run2 {α1 α2 γ : Type} (v : (α1 × α2)) (g : α1 → α2 → γ) : γ := g v.1 v.2
theorem Is.ok2 {α1 α2 γ ε : Type} {A : γ} {x : Except ε (α1 × α2)} {f : ε → γ} {g : α1 → α2 → γ} {u1 : α1} {u2 : α2} (h : Is A (outc2 x f g)) (hx : Is x (.ok (u1, u2))) : Is A (g u1 u2) := by cases hx; exact h
theorem Is.er2 {α1 α2 γ ε : Type} {A : γ} {x : Except ε (α1 × α2)} {f : ε → γ} {g : α1 → α2 → γ} {e : ε} (h : Is A (outc2 x f g)) (hx : Is x (.error e)) : Is A (f e) := by cases hx; exact h
def Is.xr2 {α1 α2 γ : Type} {A : γ} {x : (α1 × α2)} {g : α1 → α2 → γ} (_ : Is A (run2 x g)) : (α1 × α2) := x
theorem Is.rn2 {α1 α2 γ : Type} {A : γ} {x : (α1 × α2)} {g : α1 → α2 → γ} {u1 : α1} {u2 : α2} (h : Is A (run2 x g)) (hx : Is x (u1, u2)) : Is A (g u1 u2) := by cases hx; exact h
def outc3 {α1 α2 α3 γ ε : Type} (x : Except ε (α1 × α2 × α3)) (f : ε → γ) (g : α1 → α2 → α3 → γ) : γ := match x with | .error e => f e | .ok v => g v.1 v.2.1 v.2.2
def run3 {α1 α2 α3 γ : Type} (v : (α1 × α2 × α3)) (g : α1 → α2 → α3 → γ) : γ := g v.1 v.2.1 v.2.2
theorem Is.ok3 {α1 α2 α3 γ ε : Type} {A : γ} {x : Except ε (α1 × α2 × α3)} {f : ε → γ} {g : α1 → α2 → α3 → γ} {u1 : α1} {u2 : α2} {u3 : α3} (h : Is A (outc3 x f g)) (hx : Is x (.ok (u1, u2, u3))) : Is A (g u1 u2 u3) := by cases hx; exact h
theorem Is.er3 {α1 α2 α3 γ ε : Type} {A : γ} {x : Except ε (α1 × α2 × α3)} {f : ε → γ} {g : α1 → α2 → α3 → γ} {e : ε} (h : Is A (outc3 x f g)) (hx : Is x (.error e)) : Is A (f e) := by cases hx; exact h
theorem Is.rn3 {α1 α2 α3 γ : Type} {A : γ} {x : (α1 × α2 × α3)} {g : α1 → α2 → α3 → γ} {u1 : α1} {u2 : α2} {u3 : α3} (h : Is A (run3 x g)) (hx : Is x (u1, u2, u3)) : Is A (g u1 u2 u3) := by cases hx; exact h
def run6 {α1 α2 α3 α4 α5 α6 γ : Type} (v : (α1 × α2 × α3 × α4 × α5 × α6)) (g : α1 → α2 → α3 → α4 → α5 → α6 → γ) : γ := g v.1 v.2.1 v.2.2.1 v.2.2.2.1 v.2.2.2.2.1 v.2.2.2.2.2
def Is.xr6 {α1 α2 α3 α4 α5 α6 γ : Type} {A : γ} {x : (α1 × α2 × α3 × α4 × α5 × α6)} {g : α1 → α2 → α3 → α4 → α5 → α6 → γ} (_ : Is A (run6 x g)) : (α1 × α2 × α3 × α4 × α5 × α6) := x
theorem Is.rn6 {α1 α2 α3 α4 α5 α6 γ : Type} {A : γ} {x : (α1 × α2 × α3 × α4 × α5 × α6)} {g : α1 → α2 → α3 → α4 → α5 → α6 → γ} {u1 : α1} {u2 : α2} {u3 : α3} {u4 : α4} {u5 : α5} {u6 : α6} (h : Is A (run6 x g)) (hx : Is x (u1, u2, u3, u4, u5, u6)) : Is A (g u1 u2 u3 u4 u5 u6) := by cases hx; exact h
set_option linter.unusedVariables false
section
variable {P : Program} {rd : Option Nat} {b0 : World} {Mk : List Nat} {N : Nat} {D : List Deferred} {ops : Array Oper} {L V : Heap} {E : Env} {T : Act → World → Prop} {Q : Exit → Act → World → Prop}
theorem J_thenI {c : Code} {I : Act → World → Prop} (h : J P rd b0 Mk N D L E c (kInv I Q)) (k : ∀ a w, I a w → Q .normal a w) : J P rd b0 Mk N D L E c Q :=
  fun a w ha hw => wpIn_mono (h a w ha hw) fun e a w hq => by cases e <;> first | exact k _ _ hq | exact hq
def Joined1 {σ1 : Type} (b0 : World) (Mk : List Nat) (N : Nat) (D : List Deferred) (Ls : σ1 → Heap) (Es : σ1 → Env) (I : σ1 → Prop) : Act → World → Prop := fun a w => ∃ s1 : σ1, I s1 ∧ Holds N D (Es s1) a ∧ SH b0 Mk (Ls s1) w
theorem J_join1 {σ1 : Type} {c : Code} (Ls : σ1 → Heap) (Es : σ1 → Env) (I : σ1 → Prop) (h : J P rd b0 Mk N D L E c (kInv (Joined1 b0 Mk N D Ls Es I) Q)) (k : ∀ (s1 : σ1), I s1 → JX b0 Mk N D (Ls s1) (Es s1) Q .normal) : J P rd b0 Mk N D L E c Q :=
  J_thenI h fun a w ⟨s1, hI, ha, hw⟩ => k s1 hI a w ha hw
theorem JX_join1 {σ1 : Type} {Ls : σ1 → Heap} {Es : σ1 → Env} {I : σ1 → Prop} (s1 : σ1) (hI : I s1) (hE : SubE E (Es s1)) (hL : List.Perm L (Ls s1)) : JX b0 Mk N D L E (kInv (Joined1 b0 Mk N D Ls Es I) Q) .normal :=
  fun _ _ ha hw => ⟨s1, hI, ha.sub hE, hw.perm hL⟩
def Joined9 {σ1 σ2 σ3 σ4 σ5 σ6 σ7 σ8 σ9 : Type} (b0 : World) (Mk : List Nat) (N : Nat) (D : List Deferred) (Ls : σ1 → σ2 → σ3 → σ4 → σ5 → σ6 → σ7 → σ8 → σ9 → Heap) (Es : σ1 → σ2 → σ3 → σ4 → σ5 → σ6 → σ7 → σ8 → σ9 → Env) (I : σ1 → σ2 → σ3 → σ4 → σ5 → σ6 → σ7 → σ8 → σ9 → Prop) : Act → World → Prop := fun a w => ∃ s1 : σ1, ∃ s2 : σ2, ∃ s3 : σ3, ∃ s4 : σ4, ∃ s5 : σ5, ∃ s6 : σ6, ∃ s7 : σ7, ∃ s8 : σ8, ∃ s9 : σ9, I s1 s2 s3 s4 s5 s6 s7 s8 s9 ∧ Holds N D (Es s1 s2 s3 s4 s5 s6 s7 s8 s9) a ∧ SH b0 Mk (Ls s1 s2 s3 s4 s5 s6 s7 s8 s9) w
theorem J_join9 {σ1 σ2 σ3 σ4 σ5 σ6 σ7 σ8 σ9 : Type} {c : Code} (Ls : σ1 → σ2 → σ3 → σ4 → σ5 → σ6 → σ7 → σ8 → σ9 → Heap) (Es : σ1 → σ2 → σ3 → σ4 → σ5 → σ6 → σ7 → σ8 → σ9 → Env) (I : σ1 → σ2 → σ3 → σ4 → σ5 → σ6 → σ7 → σ8 → σ9 → Prop) (h : J P rd b0 Mk N D L E c (kInv (Joined9 b0 Mk N D Ls Es I) Q)) (k : ∀ (s1 : σ1) (s2 : σ2) (s3 : σ3) (s4 : σ4) (s5 : σ5) (s6 : σ6) (s7 : σ7) (s8 : σ8) (s9 : σ9), I s1 s2 s3 s4 s5 s6 s7 s8 s9 → JX b0 Mk N D (Ls s1 s2 s3 s4 s5 s6 s7 s8 s9) (Es s1 s2 s3 s4 s5 s6 s7 s8 s9) Q .normal) : J P rd b0 Mk N D L E c Q :=
  J_thenI h fun a w ⟨s1, s2, s3, s4, s5, s6, s7, s8, s9, hI, ha, hw⟩ => k s1 s2 s3 s4 s5 s6 s7 s8 s9 hI a w ha hw
theorem JX_join9 {σ1 σ2 σ3 σ4 σ5 σ6 σ7 σ8 σ9 : Type} {Ls : σ1 → σ2 → σ3 → σ4 → σ5 → σ6 → σ7 → σ8 → σ9 → Heap} {Es : σ1 → σ2 → σ3 → σ4 → σ5 → σ6 → σ7 → σ8 → σ9 → Env} {I : σ1 → σ2 → σ3 → σ4 → σ5 → σ6 → σ7 → σ8 → σ9 → Prop} (s1 : σ1) (s2 : σ2) (s3 : σ3) (s4 : σ4) (s5 : σ5) (s6 : σ6) (s7 : σ7) (s8 : σ8) (s9 : σ9) (hI : I s1 s2 s3 s4 s5 s6 s7 s8 s9) (hE : SubE E (Es s1 s2 s3 s4 s5 s6 s7 s8 s9)) (hL : List.Perm L (Ls s1 s2 s3 s4 s5 s6 s7 s8 s9)) : JX b0 Mk N D L E (kInv (Joined9 b0 Mk N D Ls Es I) Q) .normal :=
  fun _ _ ha hw => ⟨s1, s2, s3, s4, s5, s6, s7, s8, s9, hI, ha.sub hE, hw.perm hL⟩
def Joined11 {σ1 σ2 σ3 σ4 σ5 σ6 σ7 σ8 σ9 σ10 σ11 : Type} (b0 : World) (Mk : List Nat) (N : Nat) (D : List Deferred) (Ls : σ1 → σ2 → σ3 → σ4 → σ5 → σ6 → σ7 → σ8 → σ9 → σ10 → σ11 → Heap) (Es : σ1 → σ2 → σ3 → σ4 → σ5 → σ6 → σ7 → σ8 → σ9 → σ10 → σ11 → Env) (I : σ1 → σ2 → σ3 → σ4 → σ5 → σ6 → σ7 → σ8 → σ9 → σ10 → σ11 → Prop) : Act → World → Prop := fun a w => ∃ s1 : σ1, ∃ s2 : σ2, ∃ s3 : σ3, ∃ s4 : σ4, ∃ s5 : σ5, ∃ s6 : σ6, ∃ s7 : σ7, ∃ s8 : σ8, ∃ s9 : σ9, ∃ s10 : σ10, ∃ s11 : σ11, I s1 s2 s3 s4 s5 s6 s7 s8 s9 s10 s11 ∧ Holds N D (Es s1 s2 s3 s4 s5 s6 s7 s8 s9 s10 s11) a ∧ SH b0 Mk (Ls s1 s2 s3 s4 s5 s6 s7 s8 s9 s10 s11) w
theorem J_join11 {σ1 σ2 σ3 σ4 σ5 σ6 σ7 σ8 σ9 σ10 σ11 : Type} {c : Code} (Ls : σ1 → σ2 → σ3 → σ4 → σ5 → σ6 → σ7 → σ8 → σ9 → σ10 → σ11 → Heap) (Es : σ1 → σ2 → σ3 → σ4 → σ5 → σ6 → σ7 → σ8 → σ9 → σ10 → σ11 → Env) (I : σ1 → σ2 → σ3 → σ4 → σ5 → σ6 → σ7 → σ8 → σ9 → σ10 → σ11 → Prop) (h : J P rd b0 Mk N D L E c (kInv (Joined11 b0 Mk N D Ls Es I) Q)) (k : ∀ (s1 : σ1) (s2 : σ2) (s3 : σ3) (s4 : σ4) (s5 : σ5) (s6 : σ6) (s7 : σ7) (s8 : σ8) (s9 : σ9) (s10 : σ10) (s11 : σ11), I s1 s2 s3 s4 s5 s6 s7 s8 s9 s10 s11 → JX b0 Mk N D (Ls s1 s2 s3 s4 s5 s6 s7 s8 s9 s10 s11) (Es s1 s2 s3 s4 s5 s6 s7 s8 s9 s10 s11) Q .normal) : J P rd b0 Mk N D L E c Q :=
  J_thenI h fun a w ⟨s1, s2, s3, s4, s5, s6, s7, s8, s9, s10, s11, hI, ha, hw⟩ => k s1 s2 s3 s4 s5 s6 s7 s8 s9 s10 s11 hI a w ha hw
theorem JX_join11 {σ1 σ2 σ3 σ4 σ5 σ6 σ7 σ8 σ9 σ10 σ11 : Type} {Ls : σ1 → σ2 → σ3 → σ4 → σ5 → σ6 → σ7 → σ8 → σ9 → σ10 → σ11 → Heap} {Es : σ1 → σ2 → σ3 → σ4 → σ5 → σ6 → σ7 → σ8 → σ9 → σ10 → σ11 → Env} {I : σ1 → σ2 → σ3 → σ4 → σ5 → σ6 → σ7 → σ8 → σ9 → σ10 → σ11 → Prop} (s1 : σ1) (s2 : σ2) (s3 : σ3) (s4 : σ4) (s5 : σ5) (s6 : σ6) (s7 : σ7) (s8 : σ8) (s9 : σ9) (s10 : σ10) (s11 : σ11) (hI : I s1 s2 s3 s4 s5 s6 s7 s8 s9 s10 s11) (hE : SubE E (Es s1 s2 s3 s4 s5 s6 s7 s8 s9 s10 s11)) (hL : List.Perm L (Ls s1 s2 s3 s4 s5 s6 s7 s8 s9 s10 s11)) : JX b0 Mk N D L E (kInv (Joined11 b0 Mk N D Ls Es I) Q) .normal :=
  fun _ _ ha hw => ⟨s1, s2, s3, s4, s5, s6, s7, s8, s9, s10, s11, hI, ha.sub hE, hw.perm hL⟩
def wpLoop (P : Program) (rd : Option Nat) (c : Code) (Q : Exit → Act → World → Prop) (a : Act) (w : World) : Prop :=
  ∀ (b : Frame) (k : List Item) (cs : List Frame), b.roundOf = (FW rd).round → (FW rd).fn b.fn → (FW rd).room (cs.length + 1 + 0) →
    ∃ e a' w', Q e a' w' ∧ ArrivesIn (Machine.fenced P (FW rd)) P (lone (b.atR a (.code c :: .inLoop c :: k)) cs w) b k cs e a' w'
def kLoop (P : Program) (rd : Option Nat) (c : Code) (Q : Exit → Act → World → Prop) : Exit → Act → World → Prop := Exit.then (wpLoop P rd c Q) Q
theorem JX_again {c : Code} (h : J P rd b0 Mk N D L E c (kLoop P rd c Q)) : JX b0 Mk N D L E (kLoop P rd c Q) .normal := by
  intro a w ha hw b k cs hro hb hr
  obtain ⟨e, a₁, w₁, hq, harr⟩ := h a w ha hw b (.inLoop c :: k) cs hro hb hr
  cases e with
  | normal =>
    obtain ⟨e₂, a₂, w₂, hq₂, harr₂⟩ := hq b k cs hro hb hr
    exact ⟨e₂, a₂, w₂, hq₂, .of_steps (StepsIn.trans harr (.one (fenced_calm hb hr rfl) stepR_inLoop)) harr₂⟩
  | exit id => exact ⟨_, a₁, w₁, hq, .pass (x := .inLoop c) rfl (fun _ _ => .inl (by simp)) harr⟩
  | goto l => exact ⟨_, a₁, w₁, hq, .pass (x := .inLoop c) rfl (fun _ _ => .inl (by simp)) harr⟩
  | ret => exact ⟨_, a₁, w₁, hq, .pass (x := .inLoop c) rfl (fun _ _ => .inl (by simp)) harr⟩
  | panic ch => exact ⟨_, a₁, w₁, hq, .pass (x := .inLoop c) rfl (fun _ _ => .inl (by simp)) harr⟩
  | outgrown => exact ⟨_, a₁, w₁, hq, .pass (x := .inLoop c) rfl (fun _ _ => .inl (by simp)) harr⟩
theorem J_unroll {c : Code} (h : J P rd b0 Mk N D L E c (kLoop P rd c Q)) : J P rd b0 Mk N D L E (Code.loop c) Q := by
  intro a w ha hw b k cs hro hb hr
  obtain ⟨e, a', w', hq, harr⟩ := JX_again h a w ha hw b k cs hro hb hr
  exact ⟨e, a', w', hq, .of_steps (.one (fenced_calm hb hr rfl) stepR_loop) harr⟩

variable {op : Op} {ty : TypeId} {pos : String} {after : Array Edge} {d : Nat}
def inK (N : Nat) (D : List Deferred) (E : Env) (K : Act → World → Prop) (d : Nat) : Ending → World → Prop := fun e w' => ∃ v, e = .returned v ∧ ∀ a, Holds N D E a → K (a.put (some d) v) w'

theorem calls_in {f : FuncId} {fn : Func} {c : Code} {args : List Value} {N' : Nat} {R : Ending → World → Prop} {w : World} (hw : SH b0 Mk L w) (hf : P.funcs[f]? = some fn) (hN : fn.ntmps = N') (hb : fn.body = some c) (ha : Nat.ble args.length N' = true)
    (h : J P none b0 Mk N' [] L (argsE 0 args) c (bodyPost P fn R)) : Calls P f args.toArray w R := by
  subst hN
  exact callsIn_wide.1 (callsIn_of_wp (F := FW none) (n := 0) hf hb trivial (h _ w (holds_begin args ha) hw))
theorem calls_inM {f : FuncId} {fn : Func} {c : Code} {args : List Value} {N' : Nat} {R : Ending → World → Prop} {w : World} (hw : SH b0 Mk L w) (hf : P.funcs[f]? = some fn) (hN : fn.ntmps = N') (hb : fn.body = some c) (ha : Nat.ble args.length N' = true)
    (h : J P none b0 Mk N' [] L (argsE 0 args) c (bodyPostM (FW none) 0 P fn R)) : Calls P f args.toArray w R := by
  subst hN
  exact callsIn_wide.1 (callsIn_of_wp_marks (F := FW none) (n := 0) hf hb trivial (h _ w (holds_begin args ha) hw))

theorem JL_inl {l : List Oper} {f : FuncId} {fn : Func} {c : Code} {args : List Value} {N' : Nat} (hc : RunC P N D b0 Mk L E op ty f args) (hf : P.funcs[f]? = some fn) (hN : fn.ntmps = N')
    (h : J P none b0 Mk N' [] L (argsE 0 args) c (bodyPost P fn (inK N D E (wpL P rd ops T l) d))) (hb : fn.body = some c := by rfl) (ha : Nat.ble args.length N' = true := by rfl) (hn : notDeferOp op = true := by rfl) :
    JL P rd b0 Mk N D ops L E ({ dst := some d, op := op, type := ty, pos := pos, after := after, guard := none } :: l) T := by
  intro a w ha0 hw
  unfold wpL
  rw [if_pos (by rfl)]
  refine wpIn_enter (notDefer_mk hn) (by rw [execOp_mkO]; exact hc a w ha0 hw) ((calls_in hw hf hN hb ha h).mono fun e w' he => ?_)
  obtain ⟨v, rfl, hk⟩ := he
  exact ⟨v, rfl, hk a ha0⟩
theorem JD_inl {l : List (Bool × Oper)} {f : FuncId} {fn : Func} {c : Code} {args : List Value} {N' : Nat} (hc : RunC P N D b0 Mk (V ++ L) E op ty f args) (hf : P.funcs[f]? = some fn) (hN : fn.ntmps = N')
    (h : J P none b0 Mk N' [] (V ++ L) (argsE 0 args) c (bodyPost P fn (inK N D E (fun a' w' => ∃ S' : World → Prop, (∀ x, S' x → SH b0 Mk L x) ∧ S' w' ∧ wpS P rd ops T S' l a' w') d))) (hb : fn.body = some c := by rfl) (ha : Nat.ble args.length N' = true := by rfl) (hn : notDeferOp op = true := by rfl) :
    JD P rd b0 Mk N D ops L V E ((false, { dst := some d, op := op, type := ty, pos := pos, after := after, guard := none }) :: l) T := by
  intro a w ha0 hw
  unfold wpS
  rw [if_pos (by rfl)]
  refine wpIn_enter (notDefer_mk hn) (by rw [execOp_mkO]; exact hc a w ha0 hw) ((calls_in hw hf hN hb ha h).mono fun e w' he => ?_)
  obtain ⟨v, rfl, hk⟩ := he
  exact ⟨v, rfl, hk a ha0⟩
theorem JL_inlM {l : List Oper} {f : FuncId} {fn : Func} {c : Code} {args : List Value} {N' : Nat} (hc : RunC P N D b0 Mk L E op ty f args) (hf : P.funcs[f]? = some fn) (hN : fn.ntmps = N')
    (h : J P none b0 Mk N' [] L (argsE 0 args) c (bodyPostM (FW none) 0 P fn (inK N D E (wpL P rd ops T l) d))) (hb : fn.body = some c := by rfl) (ha : Nat.ble args.length N' = true := by rfl) (hn : notDeferOp op = true := by rfl) :
    JL P rd b0 Mk N D ops L E ({ dst := some d, op := op, type := ty, pos := pos, after := after, guard := none } :: l) T := by
  intro a w ha0 hw
  unfold wpL
  rw [if_pos (by rfl)]
  refine wpIn_enter (notDefer_mk hn) (by rw [execOp_mkO]; exact hc a w ha0 hw) ((calls_inM hw hf hN hb ha h).mono fun e w' he => ?_)
  obtain ⟨v, rfl, hk⟩ := he
  exact ⟨v, rfl, hk a ha0⟩
theorem JL_inlg {l : List Oper} {f : FuncId} {fn : Func} {c : Code} {args : List Value} {N' : Nat} {g t : Nat} {b : Bool} {u : Value} (hc : RunC P N D b0 Mk L E op ty f args) (hf : P.funcs[f]? = some fn) (hN : fn.ntmps = N')
    (h : J P none b0 Mk N' [] L (argsE 0 args) c (bodyPost P fn (inK N D E (wpL P rd ops T l) d))) (hg : (ops[g]?).bind (·.dst) = some t := by rfl) (hu : look E t = some u := by rfl) (hb2 : wantB u b = true := by rfl) (ht : Nat.blt t N = true := by rfl) (hb : fn.body = some c := by rfl) (ha : Nat.ble args.length N' = true := by rfl) (hn : notDeferOp op = true := by rfl) :
    JL P rd b0 Mk N D ops L E ({ dst := some d, op := op, type := ty, pos := pos, after := after, guard := some (g, b) } :: l) T := by
  intro a w ha0 hw
  unfold wpL
  rw [if_pos (by simp only [Region.wanted]; rw [yielded_of ha0 hg hu ht]; exact hb2)]
  refine wpIn_enter (notDefer_mk hn) (by rw [execOp_mkO]; exact hc a w ha0 hw) ((calls_in hw hf hN hb ha h).mono fun e w' he => ?_)
  obtain ⟨v, rfl, hk⟩ := he
  exact ⟨v, rfl, hk a ha0⟩
theorem JD_inlg {l : List (Bool × Oper)} {f : FuncId} {fn : Func} {c : Code} {args : List Value} {N' : Nat} {g t : Nat} {b : Bool} {u : Value} (hc : RunC P N D b0 Mk (V ++ L) E op ty f args) (hf : P.funcs[f]? = some fn) (hN : fn.ntmps = N')
    (h : J P none b0 Mk N' [] (V ++ L) (argsE 0 args) c (bodyPost P fn (inK N D E (fun a' w' => ∃ S' : World → Prop, (∀ x, S' x → SH b0 Mk L x) ∧ S' w' ∧ wpS P rd ops T S' l a' w') d))) (hg : (ops[g]?).bind (·.dst) = some t := by rfl) (hu : look E t = some u := by rfl) (hb2 : wantB u b = true := by rfl) (ht : Nat.blt t N = true := by rfl) (hb : fn.body = some c := by rfl) (ha : Nat.ble args.length N' = true := by rfl) (hn : notDeferOp op = true := by rfl) :
    JD P rd b0 Mk N D ops L V E ((false, { dst := some d, op := op, type := ty, pos := pos, after := after, guard := some (g, b) }) :: l) T := by
  intro a w ha0 hw
  unfold wpS
  rw [if_pos (by simp only [Region.wanted]; rw [yielded_of ha0 hg hu ht]; exact hb2)]
  refine wpIn_enter (notDefer_mk hn) (by rw [execOp_mkO]; exact hc a w ha0 hw) ((calls_in hw hf hN hb ha h).mono fun e w' he => ?_)
  obtain ⟨v, rfl, hk⟩ := he
  exact ⟨v, rfl, hk a ha0⟩
theorem JX_retI {l : List Oper} {fn : Func} {N' : Nat} {E' : Env} {ops' : Array Oper} {rd' : Option Nat} {D' : List Deferred} {T' : Act → World → Prop} {rs : List ResultVar} {vs : List Value} (hr : fn.results = rs.toArray) (h : Res P L E' rs vs) (k : JL P rd' b0 Mk N D' ops' L ((d, resOf vs) :: E) l T') (hd : Nat.blt d N = true := by rfl) :
    JX b0 Mk N' [] L E' (bodyPost P fn (inK N D' E (wpL P rd' ops' T' l) d)) .ret :=
  fun _ w ha hw => ⟨ha.defs, _, run_results hr h ha hw, _, rfl, fun a' ha' => k _ _ (ha'.put hd _) hw⟩
theorem JX_retID {l : List (Bool × Oper)} {fn : Func} {N' : Nat} {E' : Env} {ops' : Array Oper} {rd' : Option Nat} {D' : List Deferred} {T' : Act → World → Prop} {L0 : Heap} {rs : List ResultVar} {vs : List Value} (L' V' : Heap) (hr : fn.results = rs.toArray) (h : Res P L E' rs vs) (hp : List.Perm L (V' ++ L')) (hs : List.Sublist L0 L')
    (k : JD P rd' b0 Mk N D' ops' L' V' ((d, resOf vs) :: E) l T') (hd : Nat.blt d N = true := by rfl) :
    JX b0 Mk N' [] L E' (bodyPost P fn (inK N D' E (fun a' w' => ∃ S' : World → Prop, (∀ x, S' x → SH b0 Mk L0 x) ∧ S' w' ∧ wpS P rd' ops' T' S' l a' w') d)) .ret :=
  fun _ w ha hw => ⟨ha.defs, _, run_results hr h ha hw, _, rfl, fun a' ha' => ⟨SH b0 Mk L', fun _ hx => hx.sub hs, (hw.perm hp).right, k _ _ (ha'.put hd _) (hw.perm hp)⟩⟩
theorem JX_retIM {l : List Oper} {fn : Func} {N' : Nat} {E' : Env} {ops' : Array Oper} {rd' : Option Nat} {D' : List Deferred} {T' : Act → World → Prop} {rs : List ResultVar} {vs : List Value} {L2 : Heap} (ms : List Nat) (hL : List.Perm L (ms.map (fun r => (r, Obj.deferred (some []))) ++ L2)) (hr : fn.results = rs.toArray) (h : Res P L2 E' rs vs) (k : JL P rd' b0 Mk N D' ops' L2 ((d, resOf vs) :: E) l T') (hd : Nat.blt d N = true := by rfl) :
    JX b0 Mk N' (ms.map markD) L E' (bodyPostM (FW none) 0 P fn (inK N D' E (wpL P rd' ops' T' l) d)) .ret := fun a w ha hw => by
  show LeavesInM _ _ _ _ _ _ a.defers _ _
  rw [ha.defs]
  exact leavesM hr h ha (fun w hw => ⟨_, rfl, fun a' ha' => k _ _ (ha'.put hd _) hw⟩) ms w (hw.perm hL)
def skipE (N : Nat) (ops : Array Oper) : List Oper → Nat → Env → Option Env
  | _, 0, E => some E
  | [], _ + 1, _ => none
  | o :: l, n + 1, E => match o.guard, o.dst with
    | some (g, b), some d => match (ops[g]?).bind (·.dst) with
      | some t => match Nat.blt t N && Nat.blt d N, look E t with
        | true, some u => match wantB u b with
          | false => skipE N ops l n ((d, undef) :: E)
          | true => none
        | _, _ => none
      | none => none
    | _, _ => none

theorem JL_skips : ∀ (n : Nat) {l : List Oper} {E E' : Env} (_ : skipE N ops l n E = some E') (_ : JL P rd b0 Mk N D ops L E' (l.drop n) T), JL P rd b0 Mk N D ops L E l T
  | 0, l, E, E', h, k => by
    have h : E = E' := Option.some.inj (by simpa [skipE] using h)
    subst h; exact k
  | n + 1, [], E, E', h, k => by simp [skipE] at h
  | n + 1, o :: l, E, E', h, k => by
    intro a w ha hw
    unfold skipE at h
    split at h
    · rename_i g b d hg hdst
      split at h
      · rename_i t ht
        split at h
        · rename_i u hbl hu
          split at h
          · rename_i hwb
            simp only [Bool.and_eq_true] at hbl
            unfold wpL
            rw [if_neg (by rw [Region.wanted, hg]; simp only; rw [yielded_of ha ht hu hbl.1, hwb]; exact Bool.noConfusion), hdst]
            exact JL_skips n h k _ _ (ha.put hbl.2 _) hw
          · cases h
        · cases h
      · cases h
    · cases h

theorem JD_skips : ∀ (n : Nat) {l : List (Bool × Oper)} {E E' : Env} (_ : skipE N ops (l.map Prod.snd) n E = some E') (_ : JD P rd b0 Mk N D ops L V E' (l.drop n) T), JD P rd b0 Mk N D ops L V E l T
  | 0, l, E, E', h, k => by
    have h : E = E' := Option.some.inj (by simpa [skipE] using h)
    subst h; exact k
  | n + 1, [], E, E', h, k => by simp [skipE] at h
  | n + 1, (f, o) :: l, E, E', h, k => by
    intro a w ha hw
    simp only [List.map_cons] at h
    unfold skipE at h
    split at h
    · rename_i g b d hg hdst
      split at h
      · rename_i t ht
        split at h
        · rename_i u hbl hu
          split at h
          · rename_i hwb
            simp only [Bool.and_eq_true] at hbl
            have hno : Region.wanted o (yielded ops a.tmps) = false := by
              rw [Region.wanted, hg]; simp only; rw [yielded_of ha ht hu hbl.1, hwb]
            have hk := JD_skips n h k _ _ (ha.put hbl.2 undef) hw
            cases f
            · unfold wpS
              rw [if_neg (by rw [hno]; exact Bool.noConfusion), hdst]
              exact hk
            · unfold wpS
              exact ⟨undef, .inr ⟨hno, rfl⟩, by rw [hdst]; exact hk⟩
          · cases h
        · cases h
      · cases h
    · cases h

abbrev Str := List UInt8
def bs (l : Str) : ByteArray := ⟨l.toArray⟩
theorem bs_size (l : Str) : (bs l).size = l.length := by simp [bs, ByteArray.size]
theorem ba_data (b : ByteArray) : b.toList = b.data.toList := by
  have key : ∀ (n i : Nat) (r : List UInt8), b.size - i = n → ByteArray.toList.loop b i r = r.reverse ++ b.data.toList.drop i := by
    intro n
    induction n with
    | zero =>
      intro i r h
      unfold ByteArray.toList.loop
      rw [if_neg (by omega), List.drop_of_length_le (by have : b.data.size = b.size := rfl; simp; omega)]
      simp
    | succ n ih =>
      intro i r h
      unfold ByteArray.toList.loop
      rw [if_pos (by omega), ih _ _ (by omega)]
      have hlt : i < b.data.toList.length := by have : b.data.size = b.size := rfl; simp; omega
      rw [List.drop_eq_getElem_cons hlt]
      have : b.get! i = b.data.toList[i] := by
        have h2 : i < b.data.size := by simpa using hlt
        rw [ByteArray.get!]
        simp only [Array.getElem_toList]
        exact getElem!_pos b.data i h2
      rw [this]; simp
  have := key b.size 0 [] (by omega)
  simpa [ByteArray.toList] using this
theorem bs_toList (l : Str) : (bs l).toList = l := by rw [ba_data]; simp [bs]
theorem bs_extract (l : Str) (i j : Nat) : (bs l).extract i j = bs ((l.take j).drop i) := by
  apply ByteArray.ext
  simp [bs, ByteArray.data_extract, List.drop_take]

section ops
variable {t t' : TypeId} {x y z : Operand} {s s' : Str} {p q : Int} {k k' : IntKind}
theorem q_lenT (hU : ∀ w, (underlying t).run P w = .ok .string w) (hx : ev E x = some (.string (bs s)) := by rfl) :
    RunQ P N D b0 Mk L E (.call { callee := .builtin .len, args := #[x], argTypes := #[t] }) ty (.int .i64 s.length) := by
  have := q_lenStr (N := N) (D := D) (b0 := b0) (Mk := Mk) (L := L) (ty := ty) hU hx
  rwa [bs_size] at this
theorem q_subThi (n : Nat) (hU : ∀ w, (underlying t).run P w = .ok .string w) (hn : n ≤ s.length) (hx : ev E x = some (.string (bs s)) := by rfl) (hz : ev E z = some (.int k' q) := by rfl) (hj : q = (n : Int) := by first | rfl | omega) :
    RunQ P N D b0 Mk L E (.slice t x none (some z) none) ty (.string (bs (s.take n))) := fun a w ha _ => by
  subst hj
  simp [mkO, execOp, ha.eval hx, ha.eval hz, Instr.sliceAt, Instr.slice, Instr.sliceBounds, Instr.sliceBound, asIntOf, hU, bs_size, hn, bs_extract]
theorem q_eqT (hx : ev E x = some (.string (bs s)) := by rfl) (hy : ev E y = some (.string (bs s')) := by rfl) :
    RunQ P N D b0 Mk L E (.binOp .eql t x y t') ty (.bool (decide (s = s'))) := fun a w ha _ => by
  simp only [mkO, execOp, ha.eval hx, ha.eval hy, eqGuard, binOp, Op.stringOp, bs_toList]
  by_cases h : s = s' <;> simp [h]
theorem q_neT (hx : ev E x = some (.string (bs s)) := by rfl) (hy : ev E y = some (.string (bs s')) := by rfl) :
    RunQ P N D b0 Mk L E (.binOp .neq t x y t') ty (.bool (decide (s ≠ s'))) := fun a w ha _ => by
  simp only [mkO, execOp, ha.eval hx, ha.eval hy, eqGuard, binOp, Op.stringOp, bs_toList]
  by_cases h : s = s' <;> simp [h]

def andI (k : IntKind) (a b : Int) : Int := k.wrap ((BitVec.ofInt k.bits a &&& BitVec.ofInt k.bits b).toNat : Int)
def orI (k : IntKind) (a b : Int) : Int := k.wrap ((BitVec.ofInt k.bits a ||| BitVec.ofInt k.bits b).toNat : Int)
def shlI (k : IntKind) (a : Int) (n : Int) : Int := k.wrap (a * 2 ^ (min n.toNat k.bits))
def shrI (k : IntKind) (a : Int) (n : Int) : Int := a.fdiv (2 ^ (min n.toNat k.bits))
theorem q_andW (hx : ev E x = some (.int k p) := by rfl) (hy : ev E y = some (.int k q) := by rfl) : RunQ P N D b0 Mk L E (.binOp .and t x y t') ty (.int k (andI k p q)) := fun a w ha _ => by
  simp [mkO, execOp, ha.eval hx, ha.eval hy, eqGuard, binOp, Op.intBits, andI]
theorem q_orW (hx : ev E x = some (.int k p) := by rfl) (hy : ev E y = some (.int k q) := by rfl) : RunQ P N D b0 Mk L E (.binOp .or t x y t') ty (.int k (orI k p q)) := fun a w ha _ => by
  simp [mkO, execOp, ha.eval hx, ha.eval hy, eqGuard, binOp, Op.intBits, orI]
theorem q_shlW (hx : ev E x = some (.int k p) := by rfl) (hy : ev E y = some (.int k' q) := by rfl) (h : 0 ≤ q := by omega) : RunQ P N D b0 Mk L E (.binOp .shl t x y t') ty (.int k (shlI k p q)) := fun a w ha _ => by
  have h' : ¬ q < 0 := by omega
  simp [mkO, execOp, ha.eval hx, ha.eval hy, eqGuard, binOp, Op.shift, h', shlI]
def dec (s : Str) (i : Nat) : Nat × Nat := Utf8.decode (bs s) i
theorem dec_pos (s : Str) (i : Nat) : 1 ≤ (dec s i).2 := by
  unfold dec Utf8.decode
  simp only
  repeat' split
  all_goals simp
theorem a_rangeT (hU : ∀ w, (underlying t).run P w = .ok .string w) (hx : ev E x = some (.string (bs s)) := by rfl) : RunA P N D b0 Mk L E (.range t x) ty (.stringIter (bs s) 0) (fun r => .pointer (some ⟨r, 0, none⟩)) := fun a w ha _ => by
  simp [mkO, execOp, ha.eval hx, Instr.range, hU, newObj, Sem.run]
theorem run_getObj_it {w : World} {r i : Nat} {b : ByteArray} (h : w.heap[r]? = some (.stringIter b i)) : (getObj r).run P w = .ok (.stringIter b i) w := by simp [getObj, Sem.run, h]
theorem run_setObj_it {w : World} {r i : Nat} {b : ByteArray} {o' : Obj} (h : w.heap[r]? = some (.stringIter b i)) : (setObj r o').run P w = .ok () (w.putObj r o') := by simp [setObj, Sem.run, h, World.putObj]
theorem JL_next {l : List Oper} {R : Heap} {r i : Nat} (hL : List.Perm L ((r, Obj.stringIter (bs s) i) :: R)) (h1 : i < s.length → JL P rd b0 Mk N D ops ((r, Obj.stringIter (bs s) (i + (dec s i).2)) :: R) ((d, .tuple [.bool true, .int .i64 (i : Int), .int .i32 ((dec s i).1 : Int)].toArray) :: E) l T)
    (h0 : ¬ i < s.length → JL P rd b0 Mk N D ops ((r, Obj.stringIter (bs s) i) :: R) ((d, .tuple [.bool false].toArray) :: E) l T) (hx : ev E x = some (.pointer (some ⟨r, 0, none⟩)) := by rfl) (hd : Nat.blt d N = true := by rfl) :
    JL P rd b0 Mk N D ops L E ({ dst := some d, op := .next x true, type := ty, pos := pos, after := after, guard := none } :: l) T := by
  intro a w ha hw
  have hw2 := hw.perm hL
  have ho := hw2.own _ List.mem_cons_self
  simp only at ho
  unfold wpL
  rw [if_pos (by rfl)]
  by_cases hi : i < s.length
  · refine wpIn_value (notDefer_mk rfl) (v := .tuple [.bool true, .int .i64 (i : Int), .int .i32 ((dec s i).1 : Int)].toArray) (w' := w.putObj r (Obj.stringIter (bs s) (i + (dec s i).2))) ?_ (h1 hi _ _ (ha.put hd _) (SH.put hw2))
    rw [execOp_mkO]
    simp [mkO, execOp, ha.eval hx, Instr.next, run_getObj_it ho, bs_size, hi, run_setObj_it ho, dec, goInt]
  · refine wpIn_value (notDefer_mk rfl) (v := .tuple [.bool false].toArray) (w' := w) ?_ (h0 hi _ _ (ha.put hd _) hw2)
    rw [execOp_mkO]
    simp [mkO, execOp, ha.eval hx, Instr.next, run_getObj_it ho, bs_size, hi]
end ops
end
end Go.Proofs.YtopjaeoklkpcpaaGreatDoor.Jd

namespace Go.Proofs.YtopjaeoklkpcpaaGreatDoor.Jd
open Go.RowKit (Below)
set_option linter.unusedVariables false
set_option linter.unusedSimpArgs false
section
variable {P : Program} {rd : Option Nat} {b0 : World} {Mk : List Nat} {N : Nat} {D : List Deferred} {ops : Array Oper} {L V L' : Heap} {E : Env} {T : Act → World → Prop} {Q : Exit → Act → World → Prop}
variable {op : Op} {ty : TypeId} {pos : String} {after : Array Edge} {d : Nat}

def itK (P : Program) (N : Nat) (D : List Deferred) (E : Env) (l : Nat) (Q : Exit → Act → World → Prop) : Ending → World → Prop := fun e w' => ∀ a, Holds N D E a → rangePost (FW none) 0 P l Q a e w'

theorem J_rangeIn {g : Operand} {ps : List Tmp} {assign body : Code} {f : FuncId} {fs cs : List Value} {R : Nat → Nat → Loop → Ending → World → Prop}
    (hM : ∀ k ∈ Mk, k < b0.heap.size) (hg : ev E g = some (.func (.func f) fs.toArray cs.toArray)) (hc : ∀ args w, (callFunc f args).run P w = .ok (.enter f args) w)
    (hin : ∀ l rD r w, IsLoop N E ps.toArray assign body r → SH b0 Mk ((l, loopAt r .ready none) :: (rD, .deferred (some [])) :: L) w → Calls P f (fs ++ [Value.func (.yield l) #[] #[]] ++ cs).toArray w (itK P N (markD rD :: D) E l Q)) :
    J P none b0 Mk N D L E (Code.rangeFunc g ps.toArray assign body) Q := by
  intro a w ha hw
  refine wpIn_rangeFunc fun fn _ => ?_
  let w1 := w.alloc (.deferred (some []))
  let rD := w.heap.size
  let rec0 : Loop := { state := .ready, pending := none, fn := fn, tmps := a.tmps, params := ps.toArray, assign := assign, body := body, defers := rD }
  let w2 := w1.alloc (.loop rec0)
  let l := w1.heap.size
  have hw1 : SH b0 Mk ((rD, .deferred (some [])) :: L) w1 := hw.alloc _ hM
  have hw2 : SH b0 Mk ((l, .loop rec0) :: (rD, .deferred (some [])) :: L) w2 := hw1.alloc _ hM
  have hl : IsLoop N E ps.toArray assign body rec0 := ⟨rfl, rfl, rfl, ⟨ha.size, rfl, ha.val⟩⟩
  have hres : (resolve a.eval (rangeCall g l) 0).run P w2 = .ok { target := .fn (.func f) cs.toArray, args := fs.toArray ++ #[Value.func (.yield l) #[] #[]] } w2 := by
    simp only [resolve, rangeCall, ha.eval hg, Deferred.ofValue, List.map_toArray, List.map_cons, List.map_nil, Sem.run_pure]
    rfl
  refine ⟨l, [{ target := .collected rD, args := #[] }], w2, _, w2, f, (fs ++ [Value.func (.yield l) #[] #[]] ++ cs).toArray, w2, ?_, hres, fun _ _ => trivial, ?_, fun h => by simp [FW] at h, ?_⟩
  · rfl
  · simp only [invoke]
    rw [hc]
    simp
  · refine callsIn_of_calls rfl ((hin l rD rec0 w2 hl hw2).mono fun e w' he => ?_)
    exact he _ ⟨ha.size, by simp [ha.defs, markD], ha.val⟩

theorem J_rangeI {g : Operand} {ps : List Tmp} {assign body : Code} {f : FuncId} {fs cs : List Value} {fn : Func} {c : Code} {N' : Nat}
    (hM : ∀ k ∈ Mk, k < b0.heap.size) (hg : ev E g = some (.func (.func f) fs.toArray cs.toArray)) (hc : ∀ args w, (callFunc f args).run P w = .ok (.enter f args) w) (hf : P.funcs[f]? = some fn) (hN : fn.ntmps = N')
    (h : ∀ l rD r, IsLoop N E ps.toArray assign body r → J P none b0 Mk N' [] ((l, loopAt r .ready none) :: (rD, .deferred (some [])) :: L) (argsE 0 (fs ++ [Value.func (.yield l) #[] #[]] ++ cs)) c (bodyPost P fn (itK P N (markD rD :: D) E l Q)))
    (hb : fn.body = some c := by rfl) (ha : Nat.ble (fs ++ [Value.func (.yield 0) #[] #[]] ++ cs).length N' = true := by rfl) : J P none b0 Mk N D L E (Code.rangeFunc g ps.toArray assign body) Q :=
  J_rangeIn (R := fun _ _ _ _ _ => True) hM hg hc fun l rD r w hl hw => calls_in hw hf hN hb (by simpa using ha) (h l rD r hl)
theorem itK0 {l : Nat} {r : Loop} {w : World} (hL : List.Perm L ((l, loopAt r .ready none) :: L')) (k : JX b0 Mk N D ((l, loopAt r .exhausted none) :: L') E Q .normal) (hw : SH b0 Mk L w) {v : Value} : itK P N D E l Q (.returned v) w := fun a ha => by
  have hw' := hw.perm hL
  have ho := hw'.own _ List.mem_cons_self
  exact ⟨none, _, run_endLoop ho (by simp), k _ _ ha (SH.put hw')⟩
theorem itK1 {l : Nat} {r : Loop} {w : World} {jx : Code} (hL : List.Perm L ((l, loopAt r .done (some jx)) :: L')) (k : J P none b0 Mk N D ((l, loopAt r .exhausted (some jx)) :: L') E jx Q) (hw : SH b0 Mk L w) {v : Value} : itK P N D E l Q (.returned v) w := fun a ha => by
  have hw' := hw.perm hL
  have ho := hw'.own _ List.mem_cons_self
  exact ⟨some jx, _, run_endLoop ho (by simp), k _ _ ha (SH.put hw')⟩

theorem JX_it0 {l : Nat} {r : Loop} {fn : Func} {N' : Nat} {E' : Env} {e : Exit} (he : e = .ret ∨ e = .normal) (hr : fn.results = #[]) (hL : List.Perm L ((l, loopAt r .ready none) :: L')) (k : JX b0 Mk N D ((l, loopAt r .exhausted none) :: L') E Q .normal) :
    JX b0 Mk N' [] L E' (bodyPost P fn (itK P N D E l Q)) e := by
  rcases he with rfl | rfl
  · exact JX_ret (rs := []) (by rw [hr]) Res.nil fun w hw => itK0 hL k hw
  · exact JX_end (rs := []) (by rw [hr]) Res.nil fun w hw => itK0 hL k hw
theorem JX_it1 {l : Nat} {r : Loop} {fn : Func} {N' : Nat} {E' : Env} {e : Exit} {jx : Code} (he : e = .ret ∨ e = .normal) (hr : fn.results = #[]) (hL : List.Perm L ((l, loopAt r .done (some jx)) :: L')) (k : J P none b0 Mk N D ((l, loopAt r .exhausted (some jx)) :: L') E jx Q) :
    JX b0 Mk N' [] L E' (bodyPost P fn (itK P N D E l Q)) e := by
  rcases he with rfl | rfl
  · exact JX_ret (rs := []) (by rw [hr]) Res.nil fun w hw => itK1 hL k hw
  · exact JX_end (rs := []) (by rw [hr]) Res.nil fun w hw => itK1 hL k hw
theorem yIn {lp : Nat} {vs : List Value} {ps : List Tmp} {assign body : Code} {r : Loop} {Nc : Nat} {Ec : Env} {K : Act → World → Prop} {o : Oper} {a : Act} {w : World} {Q' : Exit → Act → World → Prop} (hr : IsLoop Nc Ec ps.toArray assign body r) (hL : List.Perm L ((lp, loopAt r .ready none) :: L'))
    (hd : notDefer o = true) (hy : execOp a.eval o = Instr.yield lp vs.toArray) (hs : Nat.beq vs.length ps.length = true) (hps : (ps.all fun t => Nat.blt t Nc) = true)
    (h : J P (some lp) b0 Mk Nc [] ((lp, loopAt r .ready none) :: L') (paramsE ps vs Ec) assign (kBegin P lp body (inK N D E K d))) (hdst : o.dst = some d) (ha : Holds N D E a) (hw : SH b0 Mk L w) : o.wpIn (FW rd) 0 P a w K Q' := by
  obtain ⟨fn, tmps, as, bo, h1, h2⟩ := yCall_of_J hr (hw.perm hL) hs hps h
  refine wpIn_yield hd hy ⟨fn, tmps, as, bo, h1, h2.mono fun e w' he => ?_⟩
  obtain ⟨v, rfl, hk⟩ := he
  exact ⟨v, rfl, by rw [hdst]; exact hk a ha⟩
theorem JL_yIn {l : List Oper} {lp : Nat} {vs : List Value} {ps : List Tmp} {assign body : Code} {r : Loop} {Nc : Nat} {Ec : Env} (hr : IsLoop Nc Ec ps.toArray assign body r) (hL : List.Perm L ((lp, loopAt r .ready none) :: L')) (hy : RunY N D E op ty lp vs)
    (h : J P (some lp) b0 Mk Nc [] ((lp, loopAt r .ready none) :: L') (paramsE ps vs Ec) assign (kBegin P lp body (inK N D E (wpL P rd ops T l) d)))
    (hs : Nat.beq vs.length ps.length = true := by rfl) (hps : (ps.all fun t => Nat.blt t Nc) = true := by rfl) (hn : notDeferOp op = true := by rfl) :
    JL P rd b0 Mk N D ops L E ({ dst := some d, op := op, type := ty, pos := pos, after := after, guard := none } :: l) T := by
  intro a w ha hw
  unfold wpL
  rw [if_pos (by rfl)]
  exact yIn hr hL (notDefer_mk hn) (by rw [execOp_mkO]; exact hy a ha) hs hps h rfl ha hw
theorem JL_yIng {l : List Oper} {lp : Nat} {vs : List Value} {ps : List Tmp} {assign body : Code} {r : Loop} {Nc : Nat} {Ec : Env} {g t : Nat} {b : Bool} {u : Value} (hr : IsLoop Nc Ec ps.toArray assign body r) (hL : List.Perm L ((lp, loopAt r .ready none) :: L')) (hy : RunY N D E op ty lp vs)
    (h : J P (some lp) b0 Mk Nc [] ((lp, loopAt r .ready none) :: L') (paramsE ps vs Ec) assign (kBegin P lp body (inK N D E (wpL P rd ops T l) d)))
    (hg : (ops[g]?).bind (·.dst) = some t := by rfl) (hu : look E t = some u := by rfl) (hb : wantB u b = true := by rfl) (ht : Nat.blt t N = true := by rfl)
    (hs : Nat.beq vs.length ps.length = true := by rfl) (hps : (ps.all fun t => Nat.blt t Nc) = true := by rfl) (hn : notDeferOp op = true := by rfl) :
    JL P rd b0 Mk N D ops L E ({ dst := some d, op := op, type := ty, pos := pos, after := after, guard := some (g, b) } :: l) T := by
  intro a w ha hw
  unfold wpL
  rw [if_pos (by simp only [Region.wanted]; rw [yielded_of ha hg hu ht]; exact hb)]
  exact yIn hr hL (notDefer_mk hn) (by rw [execOp_mkO]; exact hy a ha) hs hps h rfl ha hw

theorem JX_roundI {l : Nat} {r : Loop} {N' : Nat} {D' : List Deferred} {E' : Env} {ops' : Array Oper} {rd' : Option Nat} {rest : List Oper} {T' : Act → World → Prop} (hL : List.Perm L ((l, loopAt r .busy none) :: L'))
    (k : JL P rd' b0 Mk N' D' ops' ((l, loopAt r .ready none) :: L') ((d, .bool true) :: E') rest T') (hd : Nat.blt d N' = true := by rfl) : JX b0 Mk N D L E (kRound P l (inK N' D' E' (wpL P rd' ops' T' rest) d)) .normal :=
  JX_round hL fun w hw => ⟨_, rfl, fun a ha => k _ _ (ha.put hd _) hw⟩
theorem JX_roundI_ret {l : Nat} {r : Loop} {N' : Nat} {D' : List Deferred} {E' : Env} {ops' : Array Oper} {rd' : Option Nat} {rest : List Oper} {T' : Act → World → Prop} (hL : List.Perm L ((l, loopAt r .busy none) :: L'))
    (k : JL P rd' b0 Mk N' D' ops' ((l, loopAt r .done (some .ret)) :: L') ((d, .bool false) :: E') rest T') (hd : Nat.blt d N' = true := by rfl) : JX b0 Mk N D L E (kRound P l (inK N' D' E' (wpL P rd' ops' T' rest) d)) .ret :=
  JX_round_ret hL fun w hw => ⟨_, rfl, fun a ha => k _ _ (ha.put hd _) hw⟩
end
end Go.Proofs.YtopjaeoklkpcpaaGreatDoor.Jd

namespace Go.Proofs.YtopjaeoklkpcpaaGreatDoor.Jd
open Go.RowKit (Below)
set_option linter.unusedVariables false
set_option linter.unusedSimpArgs false
def eI (x : Int) : List Value := [.int .i64 x]
def eB (x : Bool) : List Value := [.bool x]
theorem eI_ok : EncOk eI 1 := ⟨by omega, fun _ => rfl, fun _ => rfl⟩
theorem eB_ok : EncOk eB 1 := ⟨by omega, fun _ => rfl, fun _ => rfl⟩
theorem fresh_segs {w w' : World} {L R Ls : Heap} (h : SH w [] Ls w') (he : Ls = L ++ R) : Fresh w w' L := by
  subst he
  exact h.fresh_out.sub (List.sublist_append_left _ _)

section
variable {P : Program} {b0 : World} {Mk : List Nat} {N : Nat} {D : List Deferred} {L : Heap} {E : Env} {ty : TypeId}
theorem q_neS {t t' : TypeId} {x y : Operand} {u v : Value} {b : Bool} (h : ∀ w, (do eqGuard .neq t x y u v; binOp .neq t u v : Sem Value).run P w = .ok (.bool b) w) (hx : ev E x = some u := by rfl) (hy : ev E y = some v := by rfl) : RunQ P N D b0 Mk L E (.binOp .neq t x y t') ty (.bool b) := fun ac w ha _ => by
  have := h w
  simp only [mkO, execOp, ha.eval hx, ha.eval hy]
  simp only [Sem.run_bind] at this ⊢
  rw [this]
  rfl
variable {t t' : TypeId} {x y : Operand} {p q : Int} {k : IntKind}
end
theorem dec_bd (s : Str) (i : Nat) : (dec s i).1 < 2097152 := by
  have hb : ∀ k, ((bs s).get! k).toNat < 256 := fun k => UInt8.toNat_lt _
  unfold dec Utf8.decode
  simp only
  have h0 := hb (i + 0)
  have h1 := hb (i + 1)
  have h2 := hb (i + 2)
  have h3 := hb (i + 3)
  repeat' split
  all_goals (simp only [Utf8.runeError] at *; omega)
end Go.Proofs.YtopjaeoklkpcpaaGreatDoor.Jd

namespace Go.Proofs.YtopjaeoklkpcpaaGreatDoor.Jd
set_option linter.unusedVariables false
set_option linter.unusedSimpArgs false
theorem pow_mono {m n : Nat} (h : m ≤ n) : (2 : Int) ^ m ≤ 2 ^ n := by
  have : (2 : Nat) ^ m ≤ 2 ^ n := Nat.pow_le_pow_right (by omega) h
  exact_mod_cast this
end Go.Proofs.YtopjaeoklkpcpaaGreatDoor.Jd

namespace Go.Proofs.YtopjaeoklkpcpaaGreatDoor.Jd
open Go.RowKit (Below)
set_option linter.unusedVariables false
set_option linter.unusedSimpArgs false
section
variable {P : Program} {rd : Option Nat} {b0 : World} {Mk : List Nat} {N : Nat} {D : List Deferred} {ops : Array Oper} {L V : Heap} {C : List (Addr × Value)} {E : Env} {T : Act → World → Prop} {Q : Exit → Act → World → Prop}
variable {op : Op} {ty : TypeId} {pos : String} {after : Array Edge} {v : Value} {d : Nat}

def KHolds (C : List (Addr × Value)) (w : World) : Prop := ∀ p ∈ C, w.cell? p.1 = some p.2
/-- Cells of known blocks. -/
inductive KC (L : Heap) : List (Addr × Value) → Prop
  | nil : KC L []
  | cons {r k : Nat} {l : List Value} {T : TypeId} {f : Nat × Nat} {v : Value} {C : List (Addr × Value)} (hm : (r, Obj.cells l.toArray T f) ∈ L) (hv : nth l k = some v) (h : KC L C) : KC L ((⟨r, k, none⟩, v) :: C)
theorem KC.holds {w : World} (h : KC L C) (hw : SH b0 Mk L w) : KHolds C w := by
  induction h with
  | nil => intro p hp; cases hp
  | cons hm hv _ ih =>
    intro p hp
    rcases List.mem_cons.1 hp with rfl | hp
    · exact hw.cell hm (by rw [← nth_eq]; exact hv)
    · exact ih p hp
theorem KHolds.ext {w w' : World} (h : KHolds C w) (he : Ext w w') : KHolds C w' := fun p hp => by
  have := h p hp
  have hlt := World.block_lt_of_cell? w _ this
  simp only [World.cell?] at this ⊢
  rw [he.block _ hlt]; exact this

def SK (b0 : World) (Mk : List Nat) (L : Heap) (C : List (Addr × Value)) (w : World) : Prop := SH b0 Mk L w ∧ KHolds C w
def JK (P : Program) (rd : Option Nat) (b0 : World) (Mk : List Nat) (N : Nat) (D : List Deferred) (ops : Array Oper) (L V : Heap) (C : List (Addr × Value)) (E : Env) (l : List (Bool × Oper)) (T : Act → World → Prop) : Prop :=
  ∀ a w, Holds N D E a → SH b0 Mk (V ++ L) w → KHolds C w → wpS P rd ops T (SK b0 Mk L C) l a w
def RunK (P : Program) (N : Nat) (D : List Deferred) (b0 : World) (Mk : List Nat) (L : Heap) (C : List (Addr × Value)) (E : Env) (op : Op) (ty : TypeId) (v : Value) : Prop :=
  ∀ a w, Holds N D E a → SK b0 Mk L C w → (execOp a.eval (mkO op ty)).run P w = .ok (.value v) w
theorem RunQ.k (h : RunQ P N D b0 Mk L E op ty v) : RunK P N D b0 Mk L C E op ty v := fun a w ha hw => h a w ha hw.1

theorem J_planK {id : Nat} {l : List Oper} (L' V : Heap) (C : List (Addr × Value)) (hL : List.Perm L (V ++ L')) (hC : KC (V ++ L') C) (hm : P.follows .mixedOrders = true) (n : Nat) (pl : List (Bool × Nat)) (hB : planOk l n pl = true)
    (h : JK P rd b0 Mk N D l.toArray L' V C E (opsOf l.toArray pl) (fun a w => wpL P rd l.toArray (Q .normal) (l.drop n) a w)) : J P rd b0 Mk N D L E (Code.region id l.toArray true) Q :=
  fun a w ha hw => wpIn_region_plan hm n pl hB (SK b0 Mk L' C) ⟨((hw.perm hL).right.drawn _), hC.holds ((hw.perm hL).drawn _)⟩ (h a _ ha ((hw.perm hL).drawn _) (hC.holds ((hw.perm hL).drawn _)))

theorem JK_nil {l : List Oper} (h : JL P rd b0 Mk N D ops (V ++ L) E l T) : JK P rd b0 Mk N D ops L V C E [] (fun a w => wpL P rd ops T l a w) := fun a w ha hw _ => h a w ha hw
theorem JK_q {f : Bool} {l : List (Bool × Oper)} (h : RunK P N D b0 Mk L C E op ty v) (hn : notDeferOp op = true := by rfl) (hd : Nat.blt d N = true := by rfl) (k : JK P rd b0 Mk N D ops L V C ((d, v) :: E) l T) :
    JK P rd b0 Mk N D ops L V C E ((f, { dst := some d, op := op, type := ty, pos := pos, after := after, guard := none }) :: l) T := by
  intro a w ha hw hc
  cases f
  · unfold wpS
    rw [if_pos (by rfl)]
    exact wpIn_value (notDefer_mk hn) (by rw [execOp_mkO]; exact h a w ha ⟨hw.right, hc⟩) ⟨_, fun _ h => h, ⟨hw.right, hc⟩, k _ _ (ha.put hd v) hw hc⟩
  · unfold wpS
    exact ⟨v, .inl ⟨by rfl, fun w' hw' => by rw [execOp_mkO]; exact h a w' ha hw'⟩, k _ _ (ha.put hd v) hw hc⟩
theorem JK_s {l : List (Bool × Oper)} {V' : Heap} (hk : KC (V' ++ L) C) (h : RunW P N D b0 Mk (V ++ L) E op ty (V' ++ L) .skip) (hn : notDeferOp op = true := by rfl) (k : JK P rd b0 Mk N D ops L V' C E l T) :
    JK P rd b0 Mk N D ops L V C E ((false, { dst := none, op := op, type := ty, pos := pos, after := after, guard := none }) :: l) T := by
  intro a w ha hw hc
  unfold wpS
  rw [if_pos (by rfl)]
  obtain ⟨w', h1, h2⟩ := h a w ha hw
  exact wpIn_skip' (notDefer_mk hn) (by rw [execOp_mkO]; exact h1) ⟨SK b0 Mk L C, fun _ h => h, ⟨h2.right, hk.holds h2⟩, k _ _ ha h2 (hk.holds h2)⟩
/-- The cells from ⟨r, k⟩ on, as C has them. -/
inductive KRun (C : List (Addr × Value)) (r : Nat) : Nat → List Value → Prop
  | nil {k : Nat} : KRun C r k []
  | cons {k : Nat} {v : Value} {cs : List Value} (hm : ((⟨r, k, none⟩ : Addr), v) ∈ C) (h : KRun C r (k + 1) cs) : KRun C r k (v :: cs)
theorem KRun.at {r : Nat} : ∀ {cs : List Value} {k : Nat}, KRun C r k cs → ∀ j v, cs[j]? = some v → ((⟨r, k + j, none⟩ : Addr), v) ∈ C
  | _, _, .nil, j, v, h => by cases h
  | _, _, .cons hm h, j, v, hj => by
    cases j with
    | zero => cases hj; exact hm
    | succ j => have := KRun.at h j v (by simpa using hj); rwa [Nat.add_assoc, Nat.add_comm 1 j] at this
theorem k_loadA {t : TypeId} {x : Operand} {r k n : Nat} {cs : List Value} (hA : ∀ w, (isAgg t).run P w = .ok true w) (hS : ∀ w, (sizeOf t).run P w = .ok n w) (hr : KRun C r k cs) (hn : cs.length = n := by rfl) (hx : ev E x = some (.pointer (some ⟨r, k, none⟩)) := by rfl) :
    RunK P N D b0 Mk L C E (.load t x) ty (.agg cs.toArray) := fun a w ha hw => by
  have hl : (loadCells ⟨r, k, none⟩ n).run P w = .ok cs.toArray w := by
    rw [← hn]
    exact run_loadCells_list w ⟨r, k, none⟩ cs fun j v hj => by
      rw [addr_add]
      exact hw.2 _ (hr.at j v hj)
  simp [mkO, execOp, ha.eval hx, Instr.loadAt, Instr.sureAddr, loadVar, hA, hS, hl]
end
end Go.Proofs.YtopjaeoklkpcpaaGreatDoor.Jd

namespace Go.Proofs.YtopjaeoklkpcpaaGreatDoor.Jd
open Go.ChangeShapes Go.WideShapes Go.ChangeAt Go.RowKit
set_option linter.unusedVariables false
set_option linter.unusedSimpArgs false
theorem laidMet_tail {P : Program} {x : String × DataW Unit} {l : List (String × DataW Unit)} {w : World} (h : laidMet P (x :: l) w) : laidMet P l w := by
  obtain ⟨ps, hv, hn, ha⟩ := h
  obtain ⟨n, d⟩ := x
  obtain ⟨g, t, cs, fuel, p, q, h1, h2, h3, h4, h5, rfl⟩ := hv
  refine ⟨q, h5, (List.nodup_append.1 hn).2.1, fun b off hm => ha b off (List.mem_append_right _ hm)⟩
theorem seg_split (cs : List Value) (a k b : Nat) (h : b = a + k) : cs.drop a = (cs.drop a).take k ++ cs.drop b := by
  subst h
  rw [← List.drop_drop]
  exact (List.take_append_drop k (cs.drop a)).symm
theorem lit_i64 {n : Int} (h : (Lit.int .i64 n).wf = true) : -9223372036854775808 ≤ n ∧ n ≤ 9223372036854775807 := by
  simp [Lit.wf, IntKind.min, IntKind.max, IntKind.signed, IntKind.bits] at h
  omega
theorem bs_of (s : ByteArray) : s = bs s.data.toList := by
  apply ByteArray.ext
  simp [bs]
end Go.Proofs.YtopjaeoklkpcpaaGreatDoor.Jd

namespace Go.Proofs.YtopjaeoklkpcpaaGreatDoor.Jd
open Go.RowKit (Below)
set_option linter.unusedVariables false
set_option linter.unusedSimpArgs false
def SlG (b0 : World) (B : Heap) {α : Type} (enc : α → List Value) (k : Nat) (a : Option Addr) (xs : List α) : Prop := ∀ w : World, Ext b0 w → (∀ p ∈ B, w.heap[p.1]? = some p.2) → Sl w enc k a xs
section
variable {b0 : World} {B L : Heap} {α : Type} {enc : α → List Value} {k : Nat} {a : Option Addr} {xs : List α}
theorem SlG.base (h : Sl b0 enc k a xs) : SlG b0 B enc k a xs := fun _ he _ => h.ext he
theorem SlG.mono {B' : Heap} (h : SlG b0 B' enc k a xs) (hB : ∀ p ∈ B', p ∈ B := by intro p hp; repeat (first | exact hp | exact List.mem_append_left _ hp | apply List.mem_append_right | apply List.mem_cons_of_mem)) : SlG b0 B enc k a xs := fun w he hw => h w he fun p hp => hw p (hB p hp)
theorem SlG.nil : SlG b0 B enc k a ([] : List α) := fun _ _ _ => Sl.nil
theorem SlG.take (h : SlG b0 B enc k a xs) (n : Nat) : SlG b0 B enc k a (xs.take n) := fun w he hw i x hx => h w he hw i x (by
    rw [List.getElem?_take] at hx
    split at hx
    · exact hx
    · cases hx)
theorem SlG.slj (h : SlG b0 B enc k a xs) (hB : ∀ p ∈ B, p ∈ L := by intro p hp; repeat (first | exact hp | exact List.mem_append_left _ hp | apply List.mem_append_right | apply List.mem_cons_of_mem)) : SlJ b0 [] L enc k a xs := fun w hw => h w hw.ext_out fun p hp => hw.own p (hB p hp)
theorem OwnB.le' {e : TypeId} {c : Nat} (h : OwnB enc k e a c B xs) : xs.length ≤ c := by
  rcases h with ⟨rfl, _, rfl⟩ | ⟨_, _, _, _, _, _, h1, _⟩
  · simp
  · exact h1
theorem OwnB.take {e : TypeId} {c : Nat} (hE : EncOk enc k) (h : OwnB enc k e a c B xs) (n : Nat) : OwnB enc k e a c B (xs.take n) := by
  rcases h with ⟨rfl, rfl, rfl⟩ | ⟨r, cur, fz, rfl, rfl, hfz, h1, h2, h3⟩
  · simpa using OwnB.nil
  · refine .inr ⟨r, cur, fz, rfl, rfl, hfz, by simp; omega, h2, ?_⟩
    have hm : (xs.take n).length * k ≤ xs.length * k := Nat.mul_le_mul_right _ (by simp; omega)
    rw [show (xs.take n).length * k = min ((xs.take n).length * k) (xs.length * k) by omega, ← List.take_take, h3]
    have hl : flat enc xs = flat enc (xs.take n) ++ flat enc (xs.drop n) := by rw [← flat_append, List.take_append_drop]
    rw [hl, List.take_left' (flat_length hE _)]
end
section
variable {P : Program} {rd : Option Nat} {b0 : World} {Mk : List Nat} {N : Nat} {D : List Deferred} {ops : Array Oper} {L V : Heap} {E : Env} {T : Act → World → Prop}
variable {op : Op} {ty : TypeId} {pos : String} {after : Array Edge} {d : Nat}
theorem e_make {α : Type} {enc : α → List Value} {k by_ n : Nat} {i : Int} {t e : TypeId} {z : Value} {x0 : α} {x y : Operand} (hT : Ty P e k by_ z) (hU : P.underlying t = some (.slice e)) (hE : EncOk enc k) (hz : cellsL z = enc x0) (hb : by_ * n ≤ 281474976710656 ∧ n ≤ 4611686018427387904) (hi : i = (n : Int)) (hx : ev E x = some (.int .i64 i) := by rfl) (hy : ev E y = some (.int .i64 i) := by rfl) :
    RunM P N D b0 Mk L E (.makeSlice t x y) ty [] (Option Addr × Heap) (fun q => .value (.slice q.1 (List.replicate n x0).length n)) (fun q => q.2) (fun q => OwnB enc k e q.1 n q.2 (List.replicate n x0)) := fun a w ha _ => by
  subst hi
  obtain ⟨i, hi, rfl, rfl, hzz⟩ := hT.ex
  have hb3 : (i.bytes : Int) * (n : Int) ≤ 281474976710656 := by
    rw [← Int.natCast_mul]; omega
  have := run_make (P := P) w t e i z hU hi hzz .i64 .i64 (n : Int) (n : Int) (by omega) (by omega) hb3 (by omega)
  refine ⟨(some ⟨w.heap.size, 0, none⟩, [(w.heap.size, .cells (madeCells z.cells (n * i.size)) e)]), w.alloc (.cells (madeCells z.cells (n * i.size)) e), ?_, tr_alloc _, OwnB.made hE hz⟩
  simp [mkO, execOp, ha.eval hx, ha.eval hy, this]
theorem JO_make {α : Type} {enc : α → List Value} {kk by_ n : Nat} {i : Int} {t e : TypeId} {z : Value} {x0 : α} {x y : Operand} {l : List Oper} {n' f' : Nat} {listed : Array Bool} {j : Nat} (hj : l[j]? = some { dst := some d, op := .makeSlice t x y, type := ty, pos := pos, after := after, guard := none }) (hT : Ty P e kk by_ z) (hU : P.underlying t = some (.slice e)) (hE : EncOk enc kk) (hz : cellsL z = enc x0) (hb : by_ * n ≤ 281474976710656 ∧ n ≤ 4611686018427387904) (hx : ev E x = some (.int .i64 i) := by rfl) (hy : ev E y = some (.int .i64 i) := by rfl) (hi : i = (n : Int) := by omega) (hd : Nat.blt d N = true := by rfl)
    (k : ∀ a2 B2, OwnB enc kk e a2 n B2 (List.replicate n x0) → JG P rd b0 Mk N D l n' f' (listed.setIfInBounds j true) (B2 ++ L) V ((d, .slice a2 (List.replicate n x0).length n) :: E) T) :
    JO P rd b0 Mk N D l n' f' listed L V E T j :=
  JO_e hj (e_make hT hU hE hz hb hi hx hy) rfl hd (fun q hq => k q.1 q.2 hq)
theorem q_sliceHi' {t e : TypeId} {x y : Operand} {a : Option Addr} {n c : Nat} {i : Int} {ki : IntKind} (m : Nat) (hU : ∀ w, (underlying t).run P w = .ok (.slice e) w) (hS : ∀ w, ∃ q, (sizeOf e).run P w = .ok q w) (hx : ev E x = some (.slice a n c) := by rfl) (hy : ev E y = some (.int ki i) := by rfl) (hm : m ≤ c := by omega) (hi : i = (m : Int) := by first | rfl | omega) :
    RunQ P N D b0 Mk L E (.slice t x none (some y) none) ty (.slice a m c) := q_sliceHi m hU hS hm hx hy hi
theorem q_sliceHiMax' {t e : TypeId} {x y y2 : Operand} {a : Option Addr} {n c : Nat} {i i2 : Int} {ki ki2 : IntKind} (m m2 : Nat) (hU : ∀ w, (underlying t).run P w = .ok (.slice e) w) (hS : ∀ w, ∃ q, (sizeOf e).run P w = .ok q w) (hx : ev E x = some (.slice a n c) := by rfl) (hy : ev E y = some (.int ki i) := by rfl) (hy2 : ev E y2 = some (.int ki2 i2) := by rfl)
    (hm : m ≤ m2 := by omega) (hm2 : m2 ≤ c := by omega) (hi : i = (m : Int) := by first | rfl | omega) (hi2 : i2 = (m2 : Int) := by first | rfl | omega) :
    RunQ P N D b0 Mk L E (.slice t x none (some y) (some y2)) ty (.slice a m m2) := q_sliceHiMax m m2 hU hS hm hm2 hx hy hy2 hi hi2
end
end Go.Proofs.YtopjaeoklkpcpaaGreatDoor.Jd

namespace Go.Proofs.YtopjaeoklkpcpaaGreatDoor.Jd
open Go.ChangeShapes
set_option linter.unusedVariables false
set_option linter.unusedSimpArgs false
theorem laidMet_skip {P : Program} {x y : String × DataW Unit} {l : List (String × DataW Unit)} {w : World} (h : laidMet P (x :: y :: l) w) : laidMet P (x :: l) w := by
  obtain ⟨ps, hv, hn, ha⟩ := h
  obtain ⟨n, d⟩ := x
  obtain ⟨n2, d2⟩ := y
  obtain ⟨g, t, cs, fuel, p, q, h1, h2, h3, h4, h5, rfl⟩ := hv
  obtain ⟨g2, t2, cs2, fuel2, p2, q2, k1, k2, k3, k4, k5, rfl⟩ := h5
  have hs := List.Sublist.append (List.Sublist.refl (MemPlace.row ⟨g, 0, none⟩ cs.size ++ p)) (List.sublist_append_right (MemPlace.row ⟨g2, 0, none⟩ cs2.size ++ p2) q2)
  exact ⟨_, ⟨g, t, cs, fuel, p, q2, h1, h2, h3, h4, k5, rfl⟩, hn.sublist hs, fun b off hm => ha b off (hs.subset hm)⟩
theorem heap_of_var {P : Program} {W : World} {n : String} {g : Nat} {cs : Array Value} (hg : P.globalNamed n = some g) (h : W.var? P n = some cs) : ∃ T f, W.heap[g]? = some (.cells cs T f) := by
  unfold World.var? at h
  rw [hg] at h
  simp only [Option.bind_some] at h
  split at h
  · cases h; exact ⟨_, _, ‹_›⟩
  · cases h
theorem sent_one {P : Program} {n nm : String} {text : List UInt8} {r : List (String × DataW Unit)} {W : World} {g : Nat} {ti tp te ts : TypeId} {ms : Array (String × TypeId)} {f : Field}
    (h : laidMet P ((n, .iface nm (.ptr (.agg [.lit (.string text)]))) :: r) W)
    (hg : P.globalNamed n = some g) (ht : (P.globals[g]?).map (·.type) = some ti) (hi : P.underlying ti = some (.interface ms)) (hrow : ∀ u, P.typeName? 3 u = some nm → u = tp)
    (hp : P.underlying tp = some (.pointer te)) (he : P.underlying te = some (.struct #[f])) (hft : f.type = ts) (hfo : f.offset = 0) (hs : P.underlying ts = some .string) (hc : P.cellsOf te = 1) (hcs : P.cellsOf ts = 1) :
    ∃ a : Addr, (∃ T f, W.heap[g]? = some (.cells [Value.iface tp (.pointer (some a))].toArray T f)) ∧ ∃ c t, W.heap[a.block]? = some (.cells c t (0, 0)) := by
  obtain ⟨ps, ⟨g0, t0, cs0, f0, p0, q0, hg0, ht0, hv0, hd0, _, e0⟩, _, hrows⟩ := h
  obtain rfl := Option.some.inj (hg.symm.trans hg0)
  obtain rfl := Option.some.inj (ht.symm.trans ht0)
  subst e0
  obtain ⟨l0⟩ := cs0
  have ok0 : ∀ u v, l0 = [.iface u v] → Value.okWide P W .any 0 u v := fun u v e => by
    subst e
    exact (hrows g 0 (by simp [MemPlace.row])).2 u v (by simpa using World.var?_cell hg0 hv0 0)
  obtain ⟨a0, s0, rfl, hc0, hs0, hz0, rfl⟩ := errorString_of_trod hi hrow hp he hft hfo hs hc hcs hd0 ok0
  exact ⟨a0, heap_of_var hg hv0, (hrows a0.block a0.off (by simp [MemPlace.row])).1⟩
theorem sent_ne {P : Program} {n0 n1 nm : String} {text0 text1 : List UInt8} {r : List (String × DataW Unit)} {W : World} {g0 g1 : Nat} {ti tp te ts : TypeId} {ms : Array (String × TypeId)} {f : Field} {a0 a1 : Addr}
    (h : laidMet P ((n0, .iface nm (.ptr (.agg [.lit (.string text0)]))) :: (n1, .iface nm (.ptr (.agg [.lit (.string text1)]))) :: r) W)
    (hg0 : P.globalNamed n0 = some g0) (ht0 : (P.globals[g0]?).map (·.type) = some ti) (hg1 : P.globalNamed n1 = some g1) (ht1 : (P.globals[g1]?).map (·.type) = some ti)
    (hi : P.underlying ti = some (.interface ms)) (hrow : ∀ u, P.typeName? 3 u = some nm → u = tp)
    (hp : P.underlying tp = some (.pointer te)) (he : P.underlying te = some (.struct #[f])) (hft : f.type = ts) (hfo : f.offset = 0) (hs : P.underlying ts = some .string) (hc : P.cellsOf te = 1) (hcs : P.cellsOf ts = 1)
    (v0 : ∃ T f, W.heap[g0]? = some (.cells [Value.iface tp (.pointer (some a0))].toArray T f)) (v1 : ∃ T f, W.heap[g1]? = some (.cells [Value.iface tp (.pointer (some a1))].toArray T f)) : a0 ≠ a1 := by
  obtain ⟨b0, b1, _, _, _, _, _, _, hv0, hv1, _, _, _, _, _, _, hne, _, _⟩ := laid_sentinels2 h hg0 ht0 hg1 ht1 hi hrow hp he hft hfo hs hc hcs
  obtain ⟨T0, f0, v0⟩ := v0
  obtain ⟨T1, f1, v1⟩ := v1
  obtain ⟨T0', f0', u0⟩ := heap_of_var hg0 hv0
  obtain ⟨T1', f1', u1⟩ := heap_of_var hg1 hv1
  rw [v0] at u0
  rw [v1] at u1
  simp at u0 u1
  rw [u0.1, u1.1]
  exact hne
end Go.Proofs.YtopjaeoklkpcpaaGreatDoor.Jd

namespace Go.Proofs.YtopjaeoklkpcpaaGreatDoor.Jd
open Go.RowKit (Below)
set_option linter.unusedVariables false
set_option linter.unusedSimpArgs false
section
variable {P : Program} {rd : Option Nat} {b0 : World} {Mk : List Nat} {N : Nat} {D : List Deferred} {ops : Array Oper} {L V : Heap} {E : Env} {T : Act → World → Prop}
variable {op : Op} {ty : TypeId} {pos : String} {after : Array Edge} {d : Nat}
theorem q_negI {t : TypeId} {x : Operand} {k : IntKind} {p : Int} (hx : ev E x = some (.int k p) := by rfl) : RunQ P N D b0 Mk L E (.unOp .neg t x) ty (.int k (k.wrap (0 - p))) := fun a w ha _ => by
  simp [mkO, execOp, ha.eval hx, Op.unary, Op.intArith]
def toI (s : Str) : List Int := s.map fun b => (b.toNat : Int)
theorem toI_length {s : Str} : (toI s).length = s.length := by simp [toI]
def toS (xs : List Int) : Str := xs.map fun x => UInt8.ofNat x.toNat
theorem toS_length {xs : List Int} : (toS xs).length = xs.length := by simp [toS]
end
end Go.Proofs.YtopjaeoklkpcpaaGreatDoor.Jd

namespace Go.Proofs.YtopjaeoklkpcpaaGreatDoor.Jd
open Go.RowKit (Below)
set_option linter.unusedVariables false
set_option linter.unusedSimpArgs false
def MSet {κ : Type} (enc : κ → Value) (es : Array MapEntry) (xs : List κ) : Prop := MapIs enc es (xs.map fun q => (q, Value.bool true))
theorem MSet.nil {κ : Type} {enc : κ → Value} : MSet enc #[] [] := rfl
theorem lookL_set {κ : Type} [DecidableEq κ] (q : κ) : ∀ (xs : List κ), (lookL (xs.map fun q => (q, Value.bool true)) q).getD (.bool false) = .bool (decide (q ∈ xs))
  | [] => by simp [lookL]
  | x :: r => by
    have ih := lookL_set q r
    by_cases h : x = q
    · subst h; simp [lookL]
    · have h' : ¬ q = x := fun e => h e.symm
      simp only [lookL, List.map_cons, List.find?_cons, h, decide_false] at ih ⊢
      rw [ih]
      simp [h']
theorem keyStr : KeyOk (κ := Str) .string (fun s => .string (bs s)) := by
  refine ⟨fun x y => ?_, fun n t x P w h => ?_⟩
  · simp only [Instr.sameNow]
    rw [beq_toListBytes, bs_toList, bs_toList]
    by_cases hh : x = y <;> simp [hh]
  · show (do match ← underlying t, Value.string (bs x) with | _, _ => _ : Sem Unit).run P w = _
    simp only [Sem.run_bind, h, Result.andThen_ok, Sem.run_pure]
section
variable {P : Program} {rd : Option Nat} {b0 : World} {Mk : List Nat} {N : Nat} {D : List Deferred} {ops : Array Oper} {L V : Heap} {E : Env} {T : Act → World → Prop}
variable {op : Op} {ty : TypeId} {pos : String} {after : Array Edge} {d : Nat}
theorem q_inSet {κ : Type} [DecidableEq κ] {kd : TypeDesc} {enc : κ → Value} {t kt et : TypeId} {x y : Operand} {r ck : Nat} {es : Array MapEntry} {xs : List κ} (q : κ) (hk : KeyOk kd enc) (hU : ∀ w, (underlying t).run P w = .ok (.map kt et) w) (hK : ∀ w, (underlying kt).run P w = .ok kd w)
    (hz : ∀ w, (zeroValue et).run P w = .ok (.bool false) w) (hes : MSet enc es xs) (hx : ev E x = some (.map (some r)) := by rfl) (hy : ev E y = some (enc q) := by rfl)
    (hm : (r, Obj.map es ck) ∈ L := by repeat (first | exact List.mem_cons_self | apply List.mem_cons_of_mem | apply List.mem_append_right)) :
    RunQ P N D b0 Mk L E (.lookup t x y false) ty (.bool (decide (q ∈ xs))) := by
  have := q_lookup (P := P) (N := N) (D := D) (b0 := b0) (Mk := Mk) (L := L) (E := E) (ty := ty) (t := t) q hk hU hK hz hes hx hy hm
  rw [lookL_set] at this
  exact this
theorem JD_nil0 {l : List Oper} (h : JL P rd b0 Mk N D ops L E l T) : JD P rd b0 Mk N D ops L [] E [] (fun a w => wpL P rd ops T l a w) := JD_nil h
theorem JD_es {l : List (Bool × Oper)} {H R : Heap} {X : Type} {H' : X → Heap} {Pr : X → Prop} (hV : List.Perm V (H ++ R)) (h : RunM P N D b0 Mk (V ++ L) E op ty H X (fun _ => .skip) H' Pr) (hn : notDeferOp op = true := by rfl)
    (k : ∀ x, Pr x → JD P rd b0 Mk N D ops L (H' x ++ R) E l T) : JD P rd b0 Mk N D ops L V E ((false, { dst := none, op := op, type := ty, pos := pos, after := after, guard := none }) :: l) T := by
  intro a w ha hw
  unfold wpS
  rw [if_pos (by rfl)]
  obtain ⟨x, w', h1, h2, h3⟩ := h a w ha hw
  have hw2 : SH b0 Mk (H ++ (R ++ L)) w := by rw [← List.append_assoc]; exact hw.perm (hV.append_right L)
  have hw3 : SH b0 Mk ((H' x ++ R) ++ L) w' := by rw [List.append_assoc]; exact hw2.tr h2
  exact wpIn_skip' (notDefer_mk hn) (by rw [execOp_mkO]; exact h1) ⟨SH b0 Mk L, fun _ h => h, hw3.right, k x h3 _ _ ha hw3⟩
theorem JL_sput {κ : Type} [DecidableEq κ] {kd : TypeDesc} {enc : κ → Value} {t kt et : TypeId} {x y u : Operand} {r ck : Nat} {es : Array MapEntry} {xs : List κ} {R : Heap} {l : List Oper} (q : κ) (hk : KeyOk kd enc) (hU : ∀ w, (underlying t).run P w = .ok (.map kt et) w) (hK : ∀ w, (underlying kt).run P w = .ok kd w)
    (hes : MSet enc es xs) (hnew : ¬ q ∈ xs) (hL : List.Perm L ((r, Obj.map es ck) :: R)) (hx : ev E x = some (.map (some r)) := by rfl) (hy : ev E y = some (enc q) := by rfl) (hu : ev E u = some (.bool true) := by rfl)
    (k : ∀ es2 ck2, MSet enc es2 (xs ++ [q]) → JL P rd b0 Mk N D ops ((r, Obj.map es2 ck2) :: R) E l T) :
    JL P rd b0 Mk N D ops L E ({ dst := none, op := .mapUpdate t x y u, type := ty, pos := pos, after := after, guard := none } :: l) T :=
  JL_put q hk hU hK hes (by simp only [List.mem_map]; rintro p ⟨z, hz, rfl⟩ e; exact hnew (e ▸ hz)) hL hx hy hu (fun es2 ck2 h => k es2 ck2 (by simpa [MSet] using h))
theorem JD_sput {κ : Type} [DecidableEq κ] {kd : TypeDesc} {enc : κ → Value} {t kt et : TypeId} {x y u : Operand} {r ck : Nat} {es : Array MapEntry} {xs : List κ} {R : Heap} {l : List (Bool × Oper)} (q : κ) (hk : KeyOk kd enc) (hU : ∀ w, (underlying t).run P w = .ok (.map kt et) w) (hK : ∀ w, (underlying kt).run P w = .ok kd w)
    (hes : MSet enc es xs) (hnew : ¬ q ∈ xs) (hV : List.Perm V ((r, Obj.map es ck) :: R)) (hx : ev E x = some (.map (some r)) := by rfl) (hy : ev E y = some (enc q) := by rfl) (hu : ev E u = some (.bool true) := by rfl)
    (k : ∀ es2 ck2, MSet enc es2 (xs ++ [q]) → JD P rd b0 Mk N D ops L ((r, Obj.map es2 ck2) :: R) E l T) :
    JD P rd b0 Mk N D ops L V E ((false, { dst := none, op := .mapUpdate t x y u, type := ty, pos := pos, after := after, guard := none }) :: l) T :=
  JD_es (H := [(r, Obj.map es ck)]) hV (e_put q hk hU hK hes (by simp only [List.mem_map]; rintro p ⟨z, hz, rfl⟩ e; exact hnew (e ▸ hz)) hx hy hu (List.mem_append_left _ (hV.mem_iff.2 List.mem_cons_self))) rfl (fun x hq => k x.1 x.2 (by simpa [MSet] using hq))
theorem q_mkI {t : TypeId} {x : Operand} {v : Value} {u : TypeDesc} (hU : P.underlying t = some u) (hx : ev E x = some v := by rfl) (hu : ∀ ms, u ≠ .interface ms := by intro ms h; cases h) : RunQ P N D b0 Mk L E (.makeInterface t x) ty (.iface t v) := fun a w ha _ => by
  cases u with
  | interface ms => exact absurd rfl (hu ms)
  | _ => simp [mkO, execOp, ha.eval hx, Instr.makeInterface, run_underlying hU]
end
end Go.Proofs.YtopjaeoklkpcpaaGreatDoor.Jd

