/- Part of the proofs of this seat: walks and plain facts. No condition. -/
import Derived.Test.YtdnjanhdnibkfaaGreatDoorF0
import Derived.CallsIn
import Derived.RangeFuncLeaves
import Derived.RangeFuncRecord
import Derived.Below
import Derived.OrdersHeld
import Derived.KernelRfl
import Derived.OrdersIn
import Derived.StillTail
import Derived.Laws.Cells
import Derived.Laws.World
import Derived.IntWalk
import Derived.Laws.AppendOwn
import Derived.Laws.MakeOwn
import Derived.Laws.CopyRow
import Derived.Scope
import Derived.WalkKit
import Derived.ProofKit
import Derived.OpenShut
import Derived.Carry
import Derived.Laws.StructEq
import Derived.Lib.ItoaNum
import Derived.Lib.IndexMore
import Derived.Lib.Join
import Derived.Deep.DeepHandedRow
import Derived.Lib.LaidTab
import Derived.SevenTiedAt
namespace Go.Proofs.YtdnjanhdnibkfaaGreatDoor.Jd
open Go.RowKit (Below)
set_option linter.unusedVariables false
set_option linter.unusedSimpArgs false

def FW (rd : Option Nat) : Fence := { fn := fun _ => True, depth := none, alive := false, round := rd }

theorem K4 (rd : Option Nat) (k : Nat) : (FW rd).room k := fun _ h => by simp [FW] at h

abbrev Eg := List (Nat × Value)

def look : Eg → Nat → Option Value
  | [], _ => none
  | p :: r, t => match Nat.beq p.1 t with
    | true => some p.2
    | false => look r t

def ev (E : Eg) : Operand → Option Value
  | .tmp t => look E t
  | .const v => some v
  | .global g => some (.pointer (some ⟨g, 0, none⟩))
  | .func f => some (.func (.func f) #[] #[])

structure Dk (N : Nat) (D : List Deferred) (E : Eg) (a : Act) : Prop where
  size : a.tmps.size = N
  defs : a.defers = D
  val : ∀ t v, look E t = some v → a.tmps.getD t undef = v

theorem Dk.eval {N : Nat} {D : List Deferred} {E : Eg} {a : Act} (h : Dk N D E a) {x : Operand} {v : Value} (hx : ev E x = some v) : a.eval x = v := by
  cases x with
  | tmp t => exact h.val t v hx
  | const u => exact Option.some.inj hx
  | global g => exact Option.some.inj hx
  | func f => exact Option.some.inj hx

theorem Dk.put {N : Nat} {D : List Deferred} {E : Eg} {a : Act} (h : Dk N D E a) {d : Nat} (hd : Nat.blt d N = true) (v : Value) : Dk N D ((d, v) :: E) (a.put (some d) v) := by
  have hd' : d < N := by simpa [Nat.blt_eq] using hd
  refine ⟨by simp [Act.put, h.size], h.defs, fun t u hu => ?_⟩
  simp only [look] at hu
  by_cases e : d = t
  · subst e
    simp only [Nat.beq_refl] at hu
    have : v = u := Option.some.inj hu
    subst this
    simp [Act.put, h.size, hd']
  · have hb : Nat.beq d t = false := by
      cases hq : Nat.beq d t with
      | false => rfl
      | true => exact absurd (Nat.eq_of_beq_eq_true hq) e
    rw [hb] at hu
    have := h.val t u hu
    simp only [Act.put, Array.getD_eq_getD_getElem?] at *
    rw [Array.getElem?_setIfInBounds_ne e]
    exact this

/-- What is forgotten: fewer slots are known. -/
inductive Iq (E : Eg) : Eg → Prop
  | nil : Iq E []
  | cons {t : Nat} {v : Value} {r : Eg} (h : look E t = some v) (hr : Iq E r) : Iq E ((t, v) :: r)

theorem Iq.look {E E' : Eg} (h : Iq E E') : ∀ t v, look E' t = some v → Jd.look E t = some v := by
  induction h with
  | nil => intro t v h; cases h
  | cons h hr ih =>
    intro t v hv
    simp only [Jd.look] at hv
    split at hv
    · rename_i hb
      have := Nat.eq_of_beq_eq_true hb
      subst this
      have := Option.some.inj hv
      subst this
      exact h
    · exact ih t v hv

theorem Dk.sub {N : Nat} {D : List Deferred} {E E' : Eg} {a : Act} (h : Dk N D E a) (hs : Iq E E') : Dk N D E' a :=
  ⟨h.size, h.defs, fun t v hv => h.val t v (hs.look t v hv)⟩

abbrev Am := List (Nat × Obj)

/-- w is the base world b0, but for the blocks Mk (which the call may write) and for new blocks; of the blocks L the content is known. -/
structure SH (b0 : World) (Mk : List Nat) (L : Am) (w : World) : Prop where
  os : w.os = b0.os
  tape : w.tape = b0.tape
  output : w.output = b0.output
  size : b0.heap.size ≤ w.heap.size
  same : ∀ k, k < b0.heap.size → k ∉ Mk → w.heap[k]? = b0.heap[k]?
  own : ∀ p ∈ L, w.heap[p.1]? = some p.2
  key : ∀ p ∈ L, p.1 ∈ Mk ∨ b0.heap.size ≤ p.1
  nd : (L.map Prod.fst).Nodup

theorem SH.lt {b0 : World} {Mk : List Nat} {L : Am} {w : World} (h : SH b0 Mk L w) {p : Nat × Obj} (hp : p ∈ L) : p.1 < w.heap.size :=
  (Array.getElem?_eq_some_iff.1 (h.own p hp)).1

theorem SH.begin (w : World) : SH w [] [] w :=
  ⟨rfl, rfl, rfl, Nat.le_refl _, fun _ _ _ => rfl, (fun _ h => by cases h), (fun _ h => by cases h), List.nodup_nil⟩

theorem SH.drawn {b0 : World} {Mk : List Nat} {L : Am} {w : World} (h : SH b0 Mk L w) (n : Nat) : SH b0 Mk L { w with drawn := n } :=
  ⟨h.os, h.tape, h.output, h.size, h.same, h.own, h.key, h.nd⟩

theorem SH.alloc {b0 : World} {Mk : List Nat} {L : Am} {w : World} (h : SH b0 Mk L w) (o : Obj) (hM : ∀ k ∈ Mk, k < b0.heap.size) :
    SH b0 Mk ((w.heap.size, o) :: L) (w.alloc o) := by
  refine ⟨h.os, h.tape, h.output, ?_, ?_, ?_, ?_, ?_⟩
  · have := h.size; simp; omega
  · intro k hk hM
    rw [Below.heap_alloc w o k (Nat.lt_of_lt_of_le hk h.size)]; exact h.same k hk hM
  · intro p hp
    rcases List.mem_cons.1 hp with rfl | hp
    · show (w.heap.push o)[w.heap.size]? = some o
      simp
    · rw [Below.heap_alloc w o p.1 (h.lt hp)]; exact h.own p hp
  · intro p hp
    rcases List.mem_cons.1 hp with rfl | hp
    · exact .inr h.size
    · exact h.key p hp
  · simp only [List.map_cons, List.nodup_cons]
    refine ⟨fun hm => ?_, h.nd⟩
    obtain ⟨p, hp, he⟩ := List.mem_map.1 hm
    have := h.lt hp
    omega

theorem SH.sub {b0 : World} {Mk : List Nat} {L L' : Am} {w : World} (h : SH b0 Mk L w) (hs : List.Sublist L' L) : SH b0 Mk L' w :=
  ⟨h.os, h.tape, h.output, h.size, h.same, fun p hp => h.own p (hs.subset hp), fun p hp => h.key p (hs.subset hp), (hs.map _).nodup h.nd⟩

theorem SH.perm {b0 : World} {Mk : List Nat} {L L' : Am} {w : World} (h : SH b0 Mk L w) (hs : List.Perm L L') : SH b0 Mk L' w :=
  ⟨h.os, h.tape, h.output, h.size, h.same, fun p hp => h.own p (hs.mem_iff.2 hp), fun p hp => h.key p (hs.mem_iff.2 hp), (hs.map _).nodup_iff.1 h.nd⟩

abbrev aD (w w' : World) : Prop := Below w.heap.size w w'

theorem SH.ext {b0 : World} {Mk : List Nat} {L : Am} {w w' : World} (h : SH b0 Mk L w) (he : aD w w') : SH b0 Mk L w' :=
  ⟨he.os.trans h.os, he.tape.trans h.tape, he.output.trans h.output, Nat.le_trans h.size he.size,
   fun k hk hM => (he.block k (Nat.lt_of_lt_of_le hk h.size)).trans (h.same k hk hM),
   fun p hp => (he.block p.1 (h.lt hp)).trans (h.own p hp), h.key, h.nd⟩

/-- New blocks of a callee, with their content. -/
structure Dz (w w' : World) (B : Am) : Prop where
  ext : aD w w'
  own : ∀ p ∈ B, w'.heap[p.1]? = some p.2
  new : ∀ p ∈ B, w.heap.size ≤ p.1
  nd : (B.map Prod.fst).Nodup

theorem SH.fresh {b0 : World} {Mk : List Nat} {L B : Am} {w w' : World} (h : SH b0 Mk L w) (hf : Dz w w' B) : SH b0 Mk (B ++ L) w' := by
  have h' := h.ext hf.ext
  refine ⟨h'.os, h'.tape, h'.output, h'.size, h'.same, ?_, ?_, ?_⟩
  · intro p hp
    rcases List.mem_append.1 hp with hp | hp
    · exact hf.own p hp
    · exact h'.own p hp
  · intro p hp
    rcases List.mem_append.1 hp with hp | hp
    · exact .inr (Nat.le_trans h.size (hf.new p hp))
    · exact h'.key p hp
  · rw [List.map_append, List.nodup_append]
    refine ⟨hf.nd, h.nd, fun a ha b hb => ?_⟩
    obtain ⟨p, hp, rfl⟩ := List.mem_map.1 ha
    obtain ⟨q, hq, rfl⟩ := List.mem_map.1 hb
    have h1 := hf.new p hp
    have h2 := h.lt hq
    omega

theorem Dz.of_ext {w w' : World} (h : aD w w') : Dz w w' [] := ⟨h, (fun _ h => by cases h), (fun _ h => by cases h), List.nodup_nil⟩

theorem SH.ext_out {b0 : World} {L : Am} {w : World} (h : SH b0 [] L w) : aD b0 w :=
  ⟨h.os, h.tape, h.output, h.size, fun k hk => h.same k hk Hs⟩

theorem SH.fresh_out {b0 : World} {L : Am} {w : World} (h : SH b0 [] L w) : Dz b0 w L :=
  ⟨h.ext_out, h.own, fun p hp => (h.key p hp).resolve_left Hs, h.nd⟩

section
variable (P : Program) (rd : Option Nat) (b0 : World) (Mk : List Nat) (N : Nat) (D : List Deferred) (L : Am) (E : Eg)

def J (c : Code) (Q : Exit → Act → World → Prop) : Prop :=
  ∀ a w, Dk N D E a → SH b0 Mk L w → c.wpIn (FW rd) 0 P Q a w

def JX (Q : Exit → Act → World → Prop) (e : Exit) : Prop :=
  ∀ a w, Dk N D E a → SH b0 Mk L w → Q e a w
end

def K5 (P : Program) (rd : Option Nat) (c : Code) (Q : Exit → Act → World → Prop) : Exit → Act → World → Prop :=
  Exit.then (c.wpIn (FW rd) 0 P Q) Q

def Jo (I : Act → World → Prop) (Q : Exit → Act → World → Prop) : Exit → Act → World → Prop := Exit.then I Q

section rules
variable {P : Program} {rd : Option Nat} {b0 : World} {Mk : List Nat} {N : Nat} {D : List Deferred} {L : Am} {E : Eg} {Q : Exit → Act → World → Prop}

theorem Bw {x y : Code} (h : J P rd b0 Mk N D L E x (K5 P rd y Q)) : J P rd b0 Mk N D L E (Code.seq x y) Q :=
  fun a w ha hw => wpIn_seq (h a w ha hw)
theorem Br (h : JX b0 Mk N D L E Q .normal) : J P rd b0 Mk N D L E Code.skip Q := fun a w ha hw => wpIn_skip (h a w ha hw)
theorem K6 {l : Nat} (h : JX b0 Mk N D L E Q .normal) : J P rd b0 Mk N D L E (Code.label l) Q := fun a w ha hw => wpIn_label (h a w ha hw)
theorem Cu {id : Nat} (h : JX b0 Mk N D L E Q (.exit id)) : J P rd b0 Mk N D L E (Code.exit id) Q := fun a w ha hw => wpIn_exit (h a w ha hw)
theorem aE (h : JX b0 Mk N D L E Q .ret) : J P rd b0 Mk N D L E Code.ret Q := fun a w ha hw => wpIn_ret (h a w ha hw)
theorem Fm {id : Nat} {c : Code} (h : J P rd b0 Mk N D L E c (Exit.inBlock id Q)) : J P rd b0 Mk N D L E (Code.block id c) Q :=
  fun a w ha hw => wpIn_block (h a w ha hw)
theorem Np {c : Operand} {x y : Code} (hc : ev E c = some (.bool true)) (h : J P rd b0 Mk N D L E x Q) : J P rd b0 Mk N D L E (Code.cond c x y) Q :=
  fun a w ha hw => wpIn_cond_true (ha.eval hc) (h a w ha hw)
theorem Rz {c : Operand} {x y : Code} (hc : ev E c = some (.bool false)) (h : J P rd b0 Mk N D L E y Q) : J P rd b0 Mk N D L E (Code.cond c x y) Q :=
  fun a w ha hw => wpIn_cond_false (ha.eval hc) (h a w ha hw)
theorem Dc {c : Operand} {x y : Code} {t : Bool} (hc : ev E c = some (.bool t)) (h1 : t = true → J P rd b0 Mk N D L E x Q)
    (h0 : t = false → J P rd b0 Mk N D L E y Q) : J P rd b0 Mk N D L E (Code.cond c x y) Q := by
  cases t
  · exact Rz hc (h0 rfl)
  · exact Np hc (h1 rfl)
theorem Bd {c : Operand} {x y : Code} {p : Prop} [Decidable p] (hc : ev E c = some (.bool (decide p))) (h1 : p → J P rd b0 Mk N D L E x Q)
    (h0 : ¬ p → J P rd b0 Mk N D L E y Q) : J P rd b0 Mk N D L E (Code.cond c x y) Q := by
  by_cases hp : p
  · exact Np (by rw [hc]; simp [hp]) (h1 hp)
  · exact Rz (by rw [hc]; simp [hp]) (h0 hp)
theorem El {c : Code} (L' : Am) (hs : List.Sublist L' L) (h : J P rd b0 Mk N D L' E c Q) : J P rd b0 Mk N D L E c Q :=
  fun a w ha hw => h a w ha (hw.sub hs)
theorem Pe {c : Code} (L' : Am) (hs : List.Perm L L') (h : J P rd b0 Mk N D L' E c Q) : J P rd b0 Mk N D L E c Q :=
  fun a w ha hw => h a w ha (hw.perm hs)
theorem Cc {e : Exit} (L' : Am) (hs : List.Sublist L' L) (h : JX b0 Mk N D L' E Q e) : JX b0 Mk N D L E Q e :=
  fun a w ha hw => h a w ha (hw.sub hs)
theorem Dj {e : Exit} (L' : Am) (hs : List.Perm L L') (h : JX b0 Mk N D L' E Q e) : JX b0 Mk N D L E Q e :=
  fun a w ha hw => h a w ha (hw.perm hs)

theorem AB8 {y : Code} (h : J P rd b0 Mk N D L E y Q) : JX b0 Mk N D L E (K5 P rd y Q) .normal := h
theorem Fw {y : Code} {id : Nat} (h : JX b0 Mk N D L E Q (.exit id)) : JX b0 Mk N D L E (K5 P rd y Q) (.exit id) := h
theorem Fa {y : Code} (h : JX b0 Mk N D L E Q .ret) : JX b0 Mk N D L E (K5 P rd y Q) .ret := h
theorem Eu {id : Nat} (h : JX b0 Mk N D L E Q .normal) : JX b0 Mk N D L E (Exit.inBlock id Q) .normal := h
theorem Et {id : Nat} (h : JX b0 Mk N D L E Q .ret) : JX b0 Mk N D L E (Exit.inBlock id Q) .ret := h
theorem Ue {id : Nat} (h : JX b0 Mk N D L E Q .normal) : JX b0 Mk N D L E (Exit.inBlock id Q) (.exit id) :=
  fun a w ha hw => by simp only [Exit.inBlock, if_true]; exact h a w ha hw
theorem Sw {id id' : Nat} (hne : Nat.beq id' id = false) (h : JX b0 Mk N D L E Q (.exit id')) : JX b0 Mk N D L E (Exit.inBlock id Q) (.exit id') :=
  fun a w ha hw => by
    have : id' ≠ id := fun e => by subst e; simp at hne
    simp only [Exit.inBlock, this, if_false]; exact h a w ha hw
theorem jN {I : Act → World → Prop} {id : Nat} (h : JX b0 Mk N D L E Q (.exit id)) : JX b0 Mk N D L E (Jo I Q) (.exit id) := h
theorem Lw {I : Act → World → Prop} (h : JX b0 Mk N D L E Q .ret) : JX b0 Mk N D L E (Jo I Q) .ret := h

def Uf {σ : Type} (b0 : World) (Mk : List Nat) (N : Nat) (D : List Deferred) (Ls : σ → Am) (Es : σ → Eg) (I : σ → Prop) (m : σ → Nat) (n : Nat) (a : Act) (w : World) : Prop :=
  ∃ s, I s ∧ m s < n ∧ Dk N D (Es s) a ∧ SH b0 Mk (Ls s) w

theorem Tk {σ : Type} {c : Code} (Ls : σ → Am) (Es : σ → Eg) (I : σ → Prop) (m : σ → Nat) (s0 : σ) (hI : I s0) (hE : Iq E (Es s0)) (hL : List.Perm L (Ls s0))
    (h : ∀ s, I s → J P rd b0 Mk N D (Ls s) (Es s) c (Jo (Uf b0 Mk N D Ls Es I m (m s)) Q)) : J P rd b0 Mk N D L E (Code.loop c) Q := by
  intro a w ha hw b k cs hro hb hr
  have key : ∀ (fuel : Nat) (a : Act) (w : World) (s : σ), m s < fuel → I s → Dk N D (Es s) a → SH b0 Mk (Ls s) w →
      ∃ e a' w', Q e a' w' ∧ ArrivesIn (Machine.fenced P (FW rd)) P (lone (b.atR a (.code c :: .inLoop c :: k)) cs w) b k cs e a' w' := by
    intro fuel
    induction fuel with
    | zero => intro a w s hm; omega
    | succ fuel ih =>
      intro a w s hm hI ha hw
      obtain ⟨e, a₁, w₁, hq, harr⟩ := h s hI a w ha hw b (.inLoop c :: k) cs hro hb hr
      cases e with
      | normal =>
        obtain ⟨s', hI', hm', ha', hw'⟩ := hq
        obtain ⟨e₂, a₂, w₂, hq₂, harr₂⟩ := ih a₁ w₁ s' z8 hI' ha' hw'
        exact ⟨e₂, a₂, w₂, hq₂, .of_steps (StepsIn.trans harr (.one (fenced_calm hb hr rfl) stepR_inLoop)) harr₂⟩
      | exit id => exact ⟨_, a₁, w₁, hq, .pass (x := .inLoop c) rfl (fun _ _ => .inl Hs) harr⟩
      | goto l => exact ⟨_, a₁, w₁, hq, .pass (x := .inLoop c) rfl (fun _ _ => .inl Hs) harr⟩
      | ret => exact ⟨_, a₁, w₁, hq, .pass (x := .inLoop c) rfl (fun _ _ => .inl Hs) harr⟩
      | panic ch => exact ⟨_, a₁, w₁, hq, .pass (x := .inLoop c) rfl (fun _ _ => .inl Hs) harr⟩
      | outgrown => exact ⟨_, a₁, w₁, hq, .pass (x := .inLoop c) rfl (fun _ _ => .inl Hs) harr⟩
  obtain ⟨e, a', w', hq, harr⟩ := key (m s0 + 1) a w s0 z8 hI (ha.sub hE) (hw.perm hL)
  exact ⟨e, a', w', hq, .of_steps (.one (fenced_calm hb hr rfl) stepR_loop) harr⟩

theorem Tl {σ : Type} {Ls : σ → Am} {Es : σ → Eg} {I : σ → Prop} {m : σ → Nat} {n : Nat} (s : σ) (hI : I s) (hm : m s < n) (hE : Iq E (Es s)) (hL : List.Perm L (Ls s)) :
    JX b0 Mk N D L E (Jo (Uf b0 Mk N D Ls Es I m n) Q) .normal :=
  fun _ _ ha hw => ⟨s, hI, hm, ha.sub hE, hw.perm hL⟩
end rules
end Go.Proofs.YtdnjanhdnibkfaaGreatDoor.Jd

namespace Go.Proofs.YtdnjanhdnibkfaaGreatDoor.Jd
open Go.RowKit (Below)
set_option linter.unusedVariables false
set_option linter.unusedSimpArgs false

def nQ (T : Act → World → Prop) : Exit → Act → World → Prop
  | .normal, a, w => T a w
  | _, _, _ => False

theorem fN {P : Program} {rd : Option Nat} {c : Code} {Q : Exit → Act → World → Prop} {a : Act} {w : World} (h : c.wpIn (FW rd) 0 P (nQ (Q .normal)) a w) : c.wpIn (FW rd) 0 P Q a w :=
  wpIn_mono h fun e a w hq => by cases e <;> first | exact hq | exact hq.elim

section
variable {P : Program} {rd : Option Nat} {ops : Array Oper} {T : Act → World → Prop}

def wpO (P : Program) (rd : Option Nat) (ops : Array Oper) (i : Nat) (K : Act → World → Prop) (a : Act) (w : World) : Prop :=
  match ops[i]? with
  | none => K a w
  | some o => if Region.wanted o (yielded ops a.tmps) then o.wpIn (FW rd) 0 P a w K (nQ fun _ _ => False) else K (a.put o.dst undef) w

theorem sB {o : Oper} {a : Act} {w : World} {K : Act → World → Prop} {Q : Exit → Act → World → Prop} (h : o.wpIn (FW rd) 0 P a w K (nQ fun _ _ => False)) : o.wpIn (FW rd) 0 P a w K Q := by
  unfold Oper.wpIn at *
  refine ⟨h.1, ?_⟩
  have hh := h.2
  generalize (o.semAt (FW rd).round a.eval).run P w = r at *
  cases r with
  | ok x w' =>
    cases x <;> simp only [Oper.uponIn] at hh ⊢ <;>
      first
        | exact hh
        | exact ⟨hh.1, CallsIn.mono hh.2 (fun e w'' he => by cases e <;> first | exact he | exact he.elim | (obtain ⟨_, _, he⟩ := he; exact he.elim))⟩
        | exact ⟨hh.1, RoundIn.mono hh.2 (fun e w'' he => by cases e <;> first | exact he | exact he.elim | (obtain ⟨_, _, he⟩ := he; exact he.elim))⟩
  | halt x w' => cases x <;> simp only [Oper.uponIn] at hh ⊢ <;> exact hh.elim

theorem wB {i : Nat} {a : Act} {w : World} {K K' : Act → World → Prop} (h : ∀ a w, K a w → K' a w) (hh : wpO P rd ops i K a w) : wpO P rd ops i K' a w := by
  unfold wpO at *
  split
  · exact h _ _ (by simpa [*] using hh)
  · rename_i o ho
    simp only [ho] at hh
    split
    · rename_i hw; simp only [hw, if_true] at hh; exact Oper.wpIn_mono h hh
    · rename_i hw; simp only [hw] at hh; exact h _ _ hh

theorem Nq {i : Nat} {a : Act} {w : World} {K : Act → World → Prop} {Q : Exit → Act → World → Prop} (hh : wpO P rd ops i K a w) : wpOpIn (FW rd) 0 P ops Q i K a w := by
  unfold wpO at hh
  unfold wpOpIn
  split
  · rename_i ho; simpa [ho] using hh
  · rename_i o ho
    simp only [ho] at hh
    split
    · rename_i hw; simp only [hw, if_true] at hh; exact sB hh
    · rename_i hw; simp only [hw] at hh; exact ⟨fun _ _ => trivial, hh⟩

def Mn (P : Program) (rd : Option Nat) (ops : Array Oper) (T : Act → World → Prop) : List Oper → Act → World → Prop
  | [], a, w => T a w
  | o :: r, a, w => if Region.wanted o (yielded ops a.tmps) then o.wpIn (FW rd) 0 P a w (Mn P rd ops T r) (nQ fun _ _ => False) else Mn P rd ops T r (a.put o.dst undef) w

theorem Qw : ∀ (l : List Oper) (k : Nat), (∀ j, l[j]? = ops[k + j]?) → ∀ a w, Mn P rd ops T l a w → wpOpsIn (FW rd) 0 P ops (nQ T) (List.range' k l.length) a w
  | [], _, _, _, _, h => h
  | o :: l, k, hl, a, w, h => by
    have h0 : ops[k]? = some o := by simpa using (hl 0).symm
    have ih := Qw l (k + 1) (fun j => by have := hl (j + 1); simpa [Nat.add_assoc, Nat.add_comm 1 j] using this)
    simp only [List.length_cons, List.range'_succ, wpOpsIn_cons]
    refine Nq ?_
    unfold wpO
    simp only [h0]
    unfold Mn at h
    split
    · rename_i hw; rw [if_pos hw] at h; exact Oper.wpIn_mono ih h
    · rename_i hw; rw [if_neg hw] at h; exact ih _ _ h

theorem Yj {id : Nat} {l : List Oper} {Q : Exit → Act → World → Prop} {a : Act} {w : World} (h : Mn P rd l.toArray (Q .normal) l a w) : (Code.region id l.toArray false).wpIn (FW rd) 0 P Q a w := by
  refine fN (wpIn_region ?_)
  rw [List.range_eq_range', show l.toArray.size = l.length by simp]
  exact Qw l 0 Hs a w h

def Gb (P : Program) (ops : Array Oper) (S : World → Prop) (o : Oper) (v : Value) (a : Act) : Prop :=
  (Region.wanted o (yielded ops a.tmps) = true ∧ ∀ w, S w → (execOp a.eval o).run P w = .ok (.value v) w) ∨
  (Region.wanted o (yielded ops a.tmps) = false ∧ v = undef)

def Ei (o : Oper) : Bool := match o.op with | .defer _ => false | .select .. => false | _ => true
theorem Hd {o : Oper} (h : Ei o = true) : ∀ c, o.op ≠ .defer c := fun c e => by simp [Ei, e] at h
theorem Qe {o : Oper} (h : Ei o = true) : ∀ cs b, o.op ≠ .select cs b := fun c b e => by simp [Ei, e] at h

theorem Df {o : Oper} {a : Act} {w w' : World} {v : Value} {K : Act → World → Prop} {Q : Exit → Act → World → Prop} (hd : Ei o = true) (h : (execOp a.eval o).run P w = .ok (.value v) w') (hK : K (a.put o.dst v) w') :
    o.wpIn (FW rd) 0 P a w K Q := by
  refine ⟨fun _ _ => trivial, ?_⟩
  rw [Oper.semAt_eq _ _ _ (Hd hd), h]
  exact hK

theorem Gb.wpO {S : World → Prop} {i : Nat} {o : Oper} {v : Value} {a : Act} (hi : ops[i]? = some o) (hd : Ei o = true) (hy : Gb P ops S o v a)
    {K : Act → World → Prop} {w : World} (hS : S w) (h : K (a.put o.dst v) w) : Jd.wpO P rd ops i K a w := by
  unfold Jd.wpO
  simp only [hi]
  rcases hy with ⟨hw, hv⟩ | ⟨hw, rfl⟩
  · simp only [hw, if_true]; exact Df hd (hv w hS) h
  · simp only [hw, Bool.false_eq_true, if_false]; exact h

theorem Gb.of_same {S : World → Prop} {o : Oper} {v : Value} {a a' : Act} (hy : Gb P ops S o v a) (he : execOp a'.eval o = execOp a.eval o)
    (hw : Region.wanted o (yielded ops a'.tmps) = Region.wanted o (yielded ops a.tmps)) : Gb P ops S o v a' := by
  unfold Gb at *
  rw [he, hw]
  exact hy

theorem Gb.mono {S S' : World → Prop} {o : Oper} {v : Value} {a : Act} (hy : Gb P ops S o v a) (h : ∀ w, S' w → S w) : Gb P ops S' o v a :=
  hy.imp (fun ⟨a, b⟩ => ⟨a, fun w hw => b w (h w hw)⟩) id

theorem K7 {S : World → Prop} {j : Nat} {oi oj : Oper} {v : Value} (hj : ops[j]? = some oj) (hap : oi.apart ops oj = true)
    (hdi : Ei oi = true) (hdj : Ei oj = true) {K : Act → World → Prop} {a : Act} {w : World}
    (hy : Gb P ops S oi v a) (h : wpO P rd ops j K (a.put oi.dst v) w) :
    wpO P rd ops j (fun a' w' => Gb P ops S oi v a' ∧ K (a'.put oi.dst v) w') a w := by
  obtain ⟨h1, h2, h3⟩ := Oper.apart_spec hap
  have hsi := Qe hdi
  have hsj := Qe hdj
  have keep : ∀ (a : Act), Gb P ops S oi v a → ∀ u, Gb P ops S oi v (a.put oj.dst u) := fun a hy u =>
    hy.of_same (execOp_put oi hsi a oj.dst u h3) (wanted_put oi a oj.dst u h3)
  have keepD : ∀ d, Gb P ops S oi v { a with defers := d :: a.defers } := fun d => hy.of_same rfl rfl
  unfold wpO at *
  simp only [hj] at *
  rw [wanted_put oj a oi.dst v h1] at h
  split
  · rename_i hw
    simp only [hw, if_true] at h
    unfold Oper.wpIn at *
    refine ⟨fun _ _ => trivial, ?_⟩
    have h := h.2
    rw [Oper.semAt_eq _ _ _ (Hd hdj)] at *
    rw [execOp_put oj hsj a oi.dst v h1] at h
    generalize (execOp a.eval oj).run P w = r at *
    cases r with
    | ok n w' =>
      cases n <;> simp only [Oper.uponIn] at h ⊢
      case value u => exact ⟨keep a hy u, by rw [← Act.put_comm a v u h2]; exact h⟩
      case skip => exact ⟨keep a hy _, by rw [← Act.put_comm a v undef h2]; exact h⟩
      case defer d =>
        refine ⟨keep _ (keepD d) _, ?_⟩
        rw [← Act.put_comm _ v undef h2, ← Act.put_defers]
        exact h
      case enter f args =>
        refine ⟨h.1, CallsIn.mono h.2 fun e w'' he => ?_⟩
        cases e with
        | returned u => exact ⟨keep a hy u, by rw [← Act.put_comm a v u h2]; exact he⟩
        | panicked c => exact he.elim
        | outgrown => exact he
      case row row args => exact ⟨h.1, RowsIn.mono h.2 fun u w'' he => ⟨keep a hy u, by rw [← Act.put_comm a v u h2]; exact he⟩⟩
      case round l f tmps assign body =>
        refine ⟨h.1, RoundIn.mono h.2 fun e w'' he => ?_⟩
        cases e with
        | returned u => exact ⟨keep a hy u, by rw [← Act.put_comm a v u h2]; exact he⟩
        | panicked c => exact he.elim
        | outgrown => exact he
    | halt x w' => cases x <;> simp only [Oper.uponIn] at h ⊢ <;> exact h.elim
  · rename_i hw
    simp only [hw] at h
    exact ⟨keep a hy _, by rw [← Act.put_comm a v undef h2]; exact h⟩

def wpG (P : Program) (rd : Option Nat) (ops : Array Oper) (n : Nat) (Fin : Array Bool → Act → World → Prop) : Nat → (World → Prop) → Array Bool → Act → World → Prop
  | 0, _, listed, a, w => Fin listed a w
  | f + 1, S, listed, a, w =>
    Region.ready .any ops listed ≠ [] ∧ ∀ i ∈ Region.ready .any ops listed, i < n ∧
      wpO P rd ops i (fun a' w' => ∃ S' : World → Prop, (∀ x, S' x → S x) ∧ S' w' ∧ wpG P rd ops n Fin f S' (listed.setIfInBounds i true) a' w') a w

theorem dJ {n i : Nat} {oi : Oper} {v : Value} {Fin : Array Bool → Act → World → Prop} (hi : ops[i]? = some oi) (oS : ∀ (j : Nat) (o : Oper), ops[j]? = some o → Ei o = true)
    (htl : ∀ listed, HeadInv .any ops n listed → ∀ i, i < n → listed.getD i true = false → ∀ j ∈ Region.ready .any ops listed, j < n) (hin : i < n)
    (hdone : ∀ listed a w, Fin listed a w → ∀ j ∈ Region.ready .any ops listed, n ≤ j) :
    ∀ (f : Nat) (S : World → Prop) (listed : Array Bool) (a : Act) (w : World), HeadInv .any ops n listed →
      (∀ (j : Nat) (oj : Oper), ops[j]? = some oj → j ≠ i → listed.getD j true = false → (∀ e ∈ oj.after, Region.binds .any e = true → e.on ≠ i) → oi.apart ops oj = true) →
      i ∈ Region.ready .any ops listed → Gb P ops S oi v a → S w →
      wpG P rd ops n Fin f S (listed.setIfInBounds i true) (a.put oi.dst v) w → wpG P rd ops n Fin (f + 1) S listed a w := by
  intro f
  induction f with
  | zero =>
    intro S listed a w inv _ hr hy hS H
    have hun := (mem_ready.1 hr).1
    refine ⟨fun h => (by rw [h] at hr; cases hr), fun j hj => ?_⟩
    have hjn := htl listed inv i hin hun j hj
    refine ⟨hjn, ?_⟩
    by_cases hji : j = i
    · subst hji; exact hy.wpO hi (oS _ _ hi) hS ⟨S, fun _ h => h, hS, H⟩
    · have := hdone _ _ _ H j (ready_mono hj hji)
      omega
  | succ f ih =>
    intro S listed a w inv hfree hr hy hS H
    have hun := (mem_ready.1 hr).1
    refine ⟨fun h => (by rw [h] at hr; cases hr), fun j hj => ?_⟩
    have hjn := htl listed inv i hin hun j hj
    refine ⟨hjn, ?_⟩
    by_cases hji : j = i
    · subst hji; exact hy.wpO hi (oS _ _ hi) hS ⟨S, fun _ h => h, hS, H⟩
    · have h1 := (H.2 j (ready_mono hj hji)).2
      obtain ⟨hjun, oj, hoj, hall⟩ := mem_ready.1 hj
      have hnot : ∀ e ∈ oj.after, Region.binds .any e = true → e.on ≠ i := fun e he hb heq => by
        have h1 := hall e he hb
        rw [heq, getD_both hun] at h1
        cases h1
      have h2 := K7 hoj (hfree j oj hoj hji hjun hnot) (oS _ _ hi) (oS _ _ hoj) hy h1
      have hfree' : ∀ k ok, ops[k]? = some ok → k ≠ i → (listed.setIfInBounds j true).getD k true = false →
          (∀ e ∈ ok.after, Region.binds .any e = true → e.on ≠ i) → oi.apart ops ok = true := fun k ok hk hki hun hno => by
        refine hfree k ok hk hki ?_ hno
        by_cases hjk : j = k
        · subst hjk; exact hjun
        · rw [getD_set_ne true hjk] at hun; exact hun
      refine wB (fun a' w' h3 => ?_) h2
      obtain ⟨hy', S', hSS, hS', h4⟩ := h3
      refine ⟨S', hSS, hS', ih S' (listed.setIfInBounds j true) a' w' (inv.set hj hjn) hfree' (ready_mono hr (Ne.symm hji)) (hy'.mono hSS) hS' ?_⟩
      rw [Array.setIfInBounds_comm _ _ hji]
      exact h4

theorem Lx {n g : Nat} {Fin : Array Bool → Act → World → Prop} {Q : Exit → Act → World → Prop} (hF : ∀ listed a w, Fin listed a w → wpAnyIn (FW rd) 0 P .any ops Q g listed a w) :
    ∀ (f : Nat) (S : World → Prop) (listed : Array Bool) (a : Act) (w : World), wpG P rd ops n Fin f S listed a w → wpAnyIn (FW rd) 0 P .any ops Q (f + g) listed a w
  | 0, _, listed, a, w, h => by rw [Nat.zero_add]; exact hF _ _ _ h
  | f + 1, S, listed, a, w, h => by
    rw [show f + 1 + g = (f + g) + 1 by omega]
    exact ⟨fun h0 => absurd h0 h.1, fun i hi => wpOpIn_mono (fun a' w' h' => by obtain ⟨S', _, _, h'⟩ := h'; exact Lx hF f S' _ a' w' h') (Nq (h.2 i hi).2)⟩

def Qx (P : Program) (rd : Option Nat) (ops : Array Oper) (T : Act → World → Prop) : (World → Prop) → List (Bool × Oper) → Act → World → Prop
  | _, [], a, w => T a w
  | S, (true, o) :: r, a, w => ∃ v, Gb P ops S o v a ∧ Qx P rd ops T S r (a.put o.dst v) w
  | S, (false, o) :: r, a, w =>
    if Region.wanted o (yielded ops a.tmps) then
      o.wpIn (FW rd) 0 P a w (fun a' w' => ∃ S' : World → Prop, (∀ x, S' x → S x) ∧ S' w' ∧ Qx P rd ops T S' r a' w') (nQ fun _ _ => False)
    else Qx P rd ops T S r (a.put o.dst undef) w

def dK (ops : Array Oper) (g n : Nat) : List (Bool × Nat) → Array Bool → Bool
  | [], listed => Region.seqB .any ops g n listed
  | (true, i) :: r, listed => Nat.blt i n && (Region.ready .any ops listed).contains i && Region.free .any ops listed i && dK ops g n r (listed.setIfInBounds i true)
  | (false, i) :: r, listed => Nat.blt i n && decide (Region.ready .any ops listed = [i]) && dK ops g n r (listed.setIfInBounds i true)

def aF (ops : Array Oper) (l : List (Bool × Nat)) : List (Bool × Oper) := l.map fun p => (p.1, ops.getD p.2 default)

theorem Ug {n g : Nat} (oS : ∀ (j : Nat) (o : Oper), ops[j]? = some o → Ei o = true)
    (htl : ∀ listed, HeadInv .any ops n listed → ∀ i, i < n → listed.getD i true = false → ∀ j ∈ Region.ready .any ops listed, j < n) (hn : n ≤ ops.size) :
    ∀ (l : List (Bool × Nat)) (S : World → Prop) (listed : Array Bool) (a : Act) (w : World), HeadInv .any ops n listed → dK ops g n l listed = true → S w →
      Qx P rd ops T S (aF ops l) a w → wpG P rd ops n (fun listed' a' w' => Region.seqB .any ops g n listed' = true ∧ T a' w') l.length S listed a w
  | [], S, listed, a, w, _, hB, _, h => ⟨hB, h⟩
  | (true, i) :: l, S, listed, a, w, inv, hB, hS, h => by
    simp only [dK, Bool.and_eq_true, Nat.blt_eq] at hB
    obtain ⟨⟨⟨hin, hr⟩, hf⟩, hB'⟩ := hB
    have hlt : i < ops.size := by omega
    have hi : ops[i]? = some ops[i] := Array.getElem?_eq_getElem hlt
    have hg : ops.getD i default = ops[i] := by simp [hlt]
    simp only [aF, List.map_cons, hg, Qx] at h
    obtain ⟨v, hy, h'⟩ := h
    have hr' : i ∈ Region.ready .any ops listed := by simpa using hr
    exact dJ hi oS htl hin (fun listed' a' w' hF => seqB_ready hF.1) l.length S listed a w inv (Region.free_spec hi hf) hr' hy hS
      (Ug oS htl hn l S _ _ w (inv.set hr' hin) hB' hS h')
  | (false, i) :: l, S, listed, a, w, inv, hB, hS, h => by
    simp only [dK, Bool.and_eq_true, Nat.blt_eq, decide_eq_true_eq] at hB
    obtain ⟨⟨hin, hr⟩, hB'⟩ := hB
    have hlt : i < ops.size := by omega
    have hi : ops[i]? = some ops[i] := Array.getElem?_eq_getElem hlt
    have hg : ops.getD i default = ops[i] := by simp [hlt]
    simp only [aF, List.map_cons, hg, Qx] at h
    have hr' : i ∈ Region.ready .any ops listed := by rw [hr]; simp
    refine ⟨by rw [hr]; simp, fun j hj => ?_⟩
    rw [hr] at hj
    have hji : j = i := by simpa using hj
    subst hji
    refine ⟨hin, ?_⟩
    unfold wpO
    simp only [hi]
    split
    · rename_i hw
      rw [if_pos hw] at h
      refine Oper.wpIn_mono (fun a' w' h' => ?_) h
      obtain ⟨S', hSS, hS', h'⟩ := h'
      exact ⟨S', hSS, hS', Ug oS htl hn l S' _ a' w' (inv.set hr' hin) hB' hS' h'⟩
    · rename_i hw
      rw [if_neg hw] at h
      exact ⟨S, fun _ h => h, hS, Ug oS htl hn l S _ _ w (inv.set hr' hin) hB' hS h⟩

theorem Ly {T : Act → World → Prop} : ∀ (l : List Oper) (k : Nat) (listed : Array Bool) (a : Act) (w : World), (∀ j, l[j]? = ops[k + j]?) →
    Region.seqB .any ops l.length k listed = true → Mn P rd ops T l a w → wpAnyIn (FW rd) 0 P .any ops (nQ T) l.length listed a w
  | [], _, _, _, _, _, hB, h => ⟨by simpa [Region.seqB] using hB, h⟩
  | o :: l, k, listed, a, w, hl, hB, h => by
    have h0 : ops[k]? = some o := by simpa using (hl 0).symm
    simp only [List.length_cons, Region.seqB, Bool.and_eq_true, decide_eq_true_eq] at hB
    refine ⟨fun h1 => (by rw [hB.1] at h1; cases h1), fun i hi => ?_⟩
    rw [hB.1] at hi
    have hik : i = k := by simpa using hi
    subst hik
    have hw : wpO P rd ops i (Mn P rd ops T l) a w := by unfold wpO; simp only [h0]; exact h
    exact wpOpIn_mono (fun a' w' h' => Ly l (i + 1) _ a' w' (fun j => by have := hl (j + 1); simpa [Nat.add_assoc, Nat.add_comm 1 j] using this) hB.2 h') (Nq hw)

def aG (l : List Oper) (n : Nat) (pl : List (Bool × Nat)) : Bool :=
  Nat.ble n l.length && Nat.beq pl.length n && l.all Ei && (Nat.beq n l.length || (Region.sinkB .any l.toArray n && Region.chainB .any l.toArray n)) &&
  dK l.toArray (l.length - n) n pl (Array.replicate l.length false)

theorem Jp {id : Nat} {l : List Oper} {Q : Exit → Act → World → Prop} {a : Act} {w : World} (hm : P.follows .mixedOrders = true) (n : Nat) (pl : List (Bool × Nat))
    (hB : aG l n pl = true) (S : World → Prop) (hS : S { w with drawn := w.drawn + 1 })
    (h : Qx P rd l.toArray (fun a' w' => Mn P rd l.toArray (Q .normal) (l.drop n) a' w') S (aF l.toArray pl) a { w with drawn := w.drawn + 1 }) :
    (Code.region id l.toArray true).wpIn (FW rd) 0 P Q a w := by
  simp only [aG, Bool.and_eq_true, Nat.ble_eq, Nat.beq_eq] at hB
  obtain ⟨⟨⟨⟨hn, hlen⟩, oS⟩, htl⟩, hpl⟩ := hB
  have hnd' : ∀ j o, l.toArray[j]? = some o → Ei o = true := fun j o ho => by
    have : o ∈ l := by simpa using Array.mem_of_getElem? ho
    exact List.all_eq_true.1 oS o this
  have inv0 : HeadInv .any l.toArray n (Array.replicate l.length false) :=
    ⟨by simp, fun j oj _ hl => (by rw [getD_replicate_false] at hl; cases hl), fun t _ ht => getD_in (by simpa using ht) (getD_replicate_false _ _)⟩
  have htail : ∀ listed, HeadInv .any l.toArray n listed → ∀ i, i < n → listed.getD i true = false → ∀ j ∈ Region.ready .any l.toArray listed, j < n := by
    intro listed inv i hin hun j hj
    rw [Bool.or_eq_true] at htl
    rcases htl with htl | htl
    · have : n = l.length := by simpa using htl
      obtain ⟨_, oj, hoj, _⟩ := mem_ready.1 hj
      have := (Array.getElem?_eq_some_iff.1 hoj).1
      simp at this
      omega
    · simp only [Bool.and_eq_true] at htl
      rcases Nat.lt_or_ge j n with h' | h'
      · exact h'
      · rcases Nat.lt_or_ge n l.length with h2 | h2
        · exact absurd hj (tail_waits htl.1 htl.2 (by simpa using h2) inv _ i rfl hin hun j h')
        · obtain ⟨_, oj, hoj, _⟩ := mem_ready.1 hj
          have := (Array.getElem?_eq_some_iff.1 hoj).1
          simp at this
          omega
  have H := Ug (P := P) (rd := rd) (g := l.length - n) hnd' htail (by simpa using hn) pl S (Array.replicate l.length false) a _ inv0 hpl hS h
  rw [hlen] at H
  refine fN (wpIn_region_any hm ?_)
  have := Lx (Q := nQ (Q .normal)) (g := l.length - n) (fun listed a' w' hF => by
    have h1 := Ly (P := P) (rd := rd) (ops := l.toArray) (l.drop n) n listed a' w' (fun j => by simp [List.getElem?_drop]) (by rw [List.length_drop]; exact hF.1) hF.2
    rwa [List.length_drop] at h1) _ _ _ _ _ H
  rw [show n + (l.length - n) = l.length by omega] at this
  simpa using this
end
end Go.Proofs.YtdnjanhdnibkfaaGreatDoor.Jd

namespace Go.Proofs.YtdnjanhdnibkfaaGreatDoor.Jd
open Go.RowKit (Below)
set_option linter.unusedVariables false
set_option linter.unusedSimpArgs false

def Em (op : Op) (ty : TypeId) : Oper := { dst := none, op := op, type := ty, pos := "", after := #[], guard := none }

theorem Cj (ρ : Operand → Value) (dst : Option Tmp) (op : Op) (ty : TypeId) (pos : String) (after : Array Edge) (guard : Option (Nat × Bool)) :
    execOp ρ { dst := dst, op := op, type := ty, pos := pos, after := after, guard := guard } = execOp ρ (Em op ty) := by
  cases op <;> rfl

def Cm (P : Program) (N : Nat) (D : List Deferred) (b0 : World) (Mk : List Nat) (L : Am) (E : Eg) (op : Op) (ty : TypeId) (v : Value) : Prop :=
  ∀ a w, Dk N D E a → SH b0 Mk L w → (execOp a.eval (Em op ty)).run P w = .ok (.value v) w

def aH (P : Program) (N : Nat) (D : List Deferred) (b0 : World) (Mk : List Nat) (L : Am) (E : Eg) (op : Op) (ty : TypeId) (o : Obj) (v : Nat → Value) : Prop :=
  ∀ a w, Dk N D E a → SH b0 Mk L w → (execOp a.eval (Em op ty)).run P w = .ok (.value (v w.heap.size)) (w.alloc o)

def Be : Op → Bool
  | .defer _ => false
  | .select .. => false
  | _ => true

theorem Bf {dst : Option Tmp} {op : Op} {ty : TypeId} {pos : String} {after : Array Edge} {guard : Option (Nat × Bool)} (h : Be op = true) :
    Ei { dst := dst, op := op, type := ty, pos := pos, after := after, guard := guard } = true := by
  cases op <;> first | rfl | (simp [Be] at h)

section judgements
variable (P : Program) (rd : Option Nat) (b0 : World) (Mk : List Nat) (N : Nat) (D : List Deferred) (ops : Array Oper) (L V : Am) (E : Eg)

def JL (l : List Oper) (T : Act → World → Prop) : Prop := ∀ a w, Dk N D E a → SH b0 Mk L w → Mn P rd ops T l a w

def JD (l : List (Bool × Oper)) (T : Act → World → Prop) : Prop := ∀ a w, Dk N D E a → SH b0 Mk (V ++ L) w → Qx P rd ops T (SH b0 Mk L) l a w
end judgements

def Lc (v : Value) (b : Bool) : Bool := match v with | .bool c => c == b | _ => false

section steps
variable {P : Program} {rd : Option Nat} {b0 : World} {Mk : List Nat} {N : Nat} {D : List Deferred} {ops : Array Oper} {L V : Am} {E : Eg} {Q : Exit → Act → World → Prop} {T : Act → World → Prop}

theorem SH.right {w : World} (h : SH b0 Mk (V ++ L) w) : SH b0 Mk L w := h.sub (List.sublist_append_right V L)

theorem T3 {id : Nat} {l : List Oper} (h : JL P rd b0 Mk N D l.toArray L E l (Q .normal)) : J P rd b0 Mk N D L E (Code.region id l.toArray false) Q :=
  fun a w ha hw => Yj (h a w ha hw)

theorem AC0 (h : JX b0 Mk N D L E Q .normal) : JL P rd b0 Mk N D ops L E [] (Q .normal) := fun a w ha hw => h a w ha hw

theorem Dw {id : Nat} {l : List Oper} (hm : P.follows .mixedOrders = true) (n : Nat) (pl : List (Bool × Nat)) (hB : aG l n pl = true)
    (h : JD P rd b0 Mk N D l.toArray L [] E (aF l.toArray pl) (fun a w => Mn P rd l.toArray (Q .normal) (l.drop n) a w)) : J P rd b0 Mk N D L E (Code.region id l.toArray true) Q :=
  fun a w ha hw => Jp hm n pl hB (SH b0 Mk L) (hw.drawn _) (h a _ ha (hw.drawn _))

theorem Ff {id : Nat} {l : List Oper} (L' V : Am) (hL : List.Perm L (V ++ L')) (hm : P.follows .mixedOrders = true) (n : Nat) (pl : List (Bool × Nat)) (hB : aG l n pl = true)
    (h : JD P rd b0 Mk N D l.toArray L' V E (aF l.toArray pl) (fun a w => Mn P rd l.toArray (Q .normal) (l.drop n) a w)) : J P rd b0 Mk N D L E (Code.region id l.toArray true) Q :=
  fun a w ha hw => Jp hm n pl hB (SH b0 Mk L') ((hw.perm hL).right.drawn _) (h a _ ha ((hw.perm hL).drawn _))

theorem Pf {l : List Oper} (h : JL P rd b0 Mk N D ops (V ++ L) E l T) : JD P rd b0 Mk N D ops L V E [] (fun a w => Mn P rd ops T l a w) := fun a w ha hw => h a w ha hw

variable {op : Op} {ty : TypeId} {pos : String} {after : Array Edge} {v : Value} {d : Nat}

theorem Ad {l : List Oper} (h : Cm P N D b0 Mk L E op ty v) (hn : Be op = true := by rfl) (hd : Nat.blt d N = true := by rfl) (k : JL P rd b0 Mk N D ops L ((d, v) :: E) l T) :
    JL P rd b0 Mk N D ops L E ({ dst := some d, op := op, type := ty, pos := pos, after := after, guard := none } :: l) T := by
  intro a w ha hw
  unfold Mn
  rw [if_pos (by rfl)]
  refine Df (Bf hn) (by rw [Cj]; exact h a w ha hw) (k _ _ (ha.put hd v) hw)

theorem He {a : Act} {g t : Nat} {u : Value} (ha : Dk N D E a) (hg : (ops[g]?).bind (·.dst) = some t) (hu : look E t = some u) (ht : Nat.blt t N = true) (b : Bool) : (yielded ops a.tmps g == some b) = Lc u b := by
  have h1 := ha.val t u hu
  have hlt : t < a.tmps.size := by rw [ha.size]; simpa [Nat.blt_eq] using ht
  have h2 : a.tmps[t]? = some u := by
    rw [Array.getElem?_eq_getElem hlt]
    simp [hlt] at h1
    rw [h1]
  unfold yielded
  rw [hg, Option.bind_some, h2]
  cases u <;> simp [Lc]

theorem An {l : List Oper} {g t : Nat} {b : Bool} {u : Value} (h : Cm P N D b0 Mk L E op ty v) (hg : (ops[g]?).bind (·.dst) = some t := by rfl) (hu : look E t = some u := by rfl) (hb : Lc u b = true := by rfl)
    (ht : Nat.blt t N = true := by rfl) (hn : Be op = true := by rfl) (hd : Nat.blt d N = true := by rfl) (k : JL P rd b0 Mk N D ops L ((d, v) :: E) l T) :
    JL P rd b0 Mk N D ops L E ({ dst := some d, op := op, type := ty, pos := pos, after := after, guard := some (g, b) } :: l) T := by
  intro a w ha hw
  unfold Mn
  rw [if_pos z52]
  refine Df (Bf hn) (by rw [Cj]; exact h a w ha hw) (k _ _ (ha.put hd v) hw)

theorem fO {l : List Oper} {g t : Nat} {b : Bool} {u : Value} (hg : (ops[g]?).bind (·.dst) = some t := by rfl) (hu : look E t = some u := by rfl) (hb : Lc u b = false := by rfl) (ht : Nat.blt t N = true := by rfl)
    (hd : Nat.blt d N = true := by rfl) (k : JL P rd b0 Mk N D ops L ((d, undef) :: E) l T) :
    JL P rd b0 Mk N D ops L E ({ dst := some d, op := op, type := ty, pos := pos, after := after, guard := some (g, b) } :: l) T := by
  intro a w ha hw
  unfold Mn
  rw [if_neg (by simp only [Region.wanted]; rw [He ha hg hu ht, hb]; simp)]
  exact k _ _ (ha.put hd _) hw

theorem Ay {f : Bool} {l : List (Bool × Oper)} (h : Cm P N D b0 Mk L E op ty v) (hn : Be op = true := by rfl) (hd : Nat.blt d N = true := by rfl) (k : JD P rd b0 Mk N D ops L V ((d, v) :: E) l T) :
    JD P rd b0 Mk N D ops L V E ((f, { dst := some d, op := op, type := ty, pos := pos, after := after, guard := none }) :: l) T := by
  intro a w ha hw
  cases f
  · unfold Qx
    rw [if_pos (by rfl)]
    exact Df (Bf hn) z79 ⟨_, fun _ h => h, hw.right, k _ _ (ha.put hd v) hw⟩
  · unfold Qx
    exact ⟨v, .inl ⟨by rfl, fun w' hw' => by rw [Cj]; exact h a w' ha hw'⟩, k _ _ (ha.put hd v) hw⟩

theorem Bj {f : Bool} {l : List (Bool × Oper)} {g t : Nat} {b : Bool} {u : Value} (h : Cm P N D b0 Mk L E op ty v) (hg : (ops[g]?).bind (·.dst) = some t := by rfl) (hu : look E t = some u := by rfl) (hb : Lc u b = true := by rfl)
    (ht : Nat.blt t N = true := by rfl) (hn : Be op = true := by rfl) (hd : Nat.blt d N = true := by rfl) (k : JD P rd b0 Mk N D ops L V ((d, v) :: E) l T) :
    JD P rd b0 Mk N D ops L V E ((f, { dst := some d, op := op, type := ty, pos := pos, after := after, guard := some (g, b) }) :: l) T := by
  intro a w ha hw
  have hwant : Region.wanted { dst := some d, op := op, type := ty, pos := pos, after := after, guard := some (g, b) } (yielded ops a.tmps) = true := by
    simp only [Region.wanted]; rw [He ha hg hu ht]; exact hb
  cases f
  · unfold Qx
    rw [if_pos hwant]
    exact Df (Bf hn) z79 ⟨_, fun _ h => h, hw.right, k _ _ (ha.put hd v) hw⟩
  · unfold Qx
    exact ⟨v, .inl ⟨hwant, fun w' hw' => by rw [Cj]; exact h a w' ha hw'⟩, k _ _ (ha.put hd v) hw⟩

theorem K8 {f : Bool} {l : List (Bool × Oper)} {g t : Nat} {b : Bool} {u : Value} (hg : (ops[g]?).bind (·.dst) = some t := by rfl) (hu : look E t = some u := by rfl) (hb : Lc u b = false := by rfl) (ht : Nat.blt t N = true := by rfl)
    (hd : Nat.blt d N = true := by rfl) (k : JD P rd b0 Mk N D ops L V ((d, undef) :: E) l T) :
    JD P rd b0 Mk N D ops L V E ((f, { dst := some d, op := op, type := ty, pos := pos, after := after, guard := some (g, b) }) :: l) T := by
  intro a w ha hw
  have hwant : Region.wanted { dst := some d, op := op, type := ty, pos := pos, after := after, guard := some (g, b) } (yielded ops a.tmps) = false := by
    simp only [Region.wanted]; rw [He ha hg hu ht]; exact hb
  cases f
  · unfold Qx
    rw [if_neg (by rw [hwant]; simp)]
    exact k _ _ (ha.put hd _) hw
  · unfold Qx
    exact ⟨undef, .inr ⟨hwant, rfl⟩, k _ _ (ha.put hd _) hw⟩

theorem Dk.alter {a : Act} {t : Nat} {u u' : Value} (ha : Dk N D E a) (hu : look E t = some u) (h : u = u') : Dk N D ((t, u') :: E) a := by
  subst h
  refine ⟨ha.size, ha.defs, fun s x hx => ?_⟩
  simp only [look] at hx
  split at hx
  · rename_i hb
    have := Nat.eq_of_beq_eq_true hb
    subst this
    have := Option.some.inj hx
    subst this
    exact ha.val _ _ hu
  · exact ha.val _ _ hx

theorem Aw {l : List Oper} (t : Nat) {p : Prop} [Decidable p] (hu : look E t = some (.bool (decide p)) := by rfl) (h1 : p → JL P rd b0 Mk N D ops L ((t, .bool true) :: E) l T)
    (h0 : ¬ p → JL P rd b0 Mk N D ops L ((t, .bool false) :: E) l T) : JL P rd b0 Mk N D ops L E l T := by
  intro a w ha hw
  by_cases hp : p
  · exact h1 hp a w (ha.alter hu (by simp [hp])) hw
  · exact h0 hp a w (ha.alter hu (by simp [hp])) hw

theorem Cs {l : List Oper} (t : Nat) {p : Bool} (hu : look E t = some (.bool p) := by rfl) (h1 : p = true → JL P rd b0 Mk N D ops L ((t, .bool true) :: E) l T)
    (h0 : p = false → JL P rd b0 Mk N D ops L ((t, .bool false) :: E) l T) : JL P rd b0 Mk N D ops L E l T := by
  intro a w ha hw
  cases p
  · exact h0 rfl a w (ha.alter hu rfl) hw
  · exact h1 rfl a w (ha.alter hu rfl) hw

theorem Ge {l : List (Bool × Oper)} (t : Nat) {p : Prop} [Decidable p] (hu : look E t = some (.bool (decide p)) := by rfl) (h1 : p → JD P rd b0 Mk N D ops L V ((t, .bool true) :: E) l T)
    (h0 : ¬ p → JD P rd b0 Mk N D ops L V ((t, .bool false) :: E) l T) : JD P rd b0 Mk N D ops L V E l T := by
  intro a w ha hw
  by_cases hp : p
  · exact h1 hp a w (ha.alter hu (by simp [hp])) hw
  · exact h0 hp a w (ha.alter hu (by simp [hp])) hw

theorem Jz {l : List (Bool × Oper)} (t : Nat) {p : Bool} (hu : look E t = some (.bool p) := by rfl) (h1 : p = true → JD P rd b0 Mk N D ops L V ((t, .bool true) :: E) l T)
    (h0 : p = false → JD P rd b0 Mk N D ops L V ((t, .bool false) :: E) l T) : JD P rd b0 Mk N D ops L V E l T := by
  intro a w ha hw
  cases p
  · exact h0 rfl a w (ha.alter hu rfl) hw
  · exact h1 rfl a w (ha.alter hu rfl) hw

theorem wC {l : List Oper} (t : Nat) (u' : Value) {u : Value} (hu : look E t = some u) (he : u = u') (h : JL P rd b0 Mk N D ops L ((t, u') :: E) l T) : JL P rd b0 Mk N D ops L E l T :=
  fun a w ha hw => h a w (ha.alter hu he) hw
theorem Aj {l : List Oper} {o : Obj} {v : Nat → Value} (hM : ∀ k ∈ Mk, k < b0.heap.size) (h : aH P N D b0 Mk L E op ty o v) (hn : Be op = true := by rfl) (hd : Nat.blt d N = true := by rfl)
    (k : ∀ r, b0.heap.size ≤ r → JL P rd b0 Mk N D ops ((r, o) :: L) ((d, v r) :: E) l T) :
    JL P rd b0 Mk N D ops L E ({ dst := some d, op := op, type := ty, pos := pos, after := after, guard := none } :: l) T := by
  intro a w ha hw
  unfold Mn
  rw [if_pos (by rfl)]
  exact Df (Bf hn) (by rw [Cj]; exact h a w ha hw) (k _ hw.size _ _ (ha.put hd _) (hw.alloc o hM))

theorem SH.alloc_mid {w : World} (h : SH b0 Mk (V ++ L) w) (o : Obj) (hM : ∀ k ∈ Mk, k < b0.heap.size) : SH b0 Mk (V ++ (w.heap.size, o) :: L) (w.alloc o) :=
  (h.alloc o hM).perm List.perm_middle.symm

theorem Gf {l : List (Bool × Oper)} {o : Obj} {v : Nat → Value} (hM : ∀ k ∈ Mk, k < b0.heap.size) (h : aH P N D b0 Mk L E op ty o v) (hn : Be op = true := by rfl) (hd : Nat.blt d N = true := by rfl)
    (k : ∀ r, b0.heap.size ≤ r → JD P rd b0 Mk N D ops ((r, o) :: L) V ((d, v r) :: E) l T) :
    JD P rd b0 Mk N D ops L V E ((false, { dst := some d, op := op, type := ty, pos := pos, after := after, guard := none }) :: l) T := by
  intro a w ha hw
  unfold Qx
  rw [if_pos (by rfl)]
  exact Df (Bf hn) z79
    ⟨SH b0 Mk ((w.heap.size, o) :: L), fun x hx => hx.sub (List.sublist_cons_self _ _), (hw.alloc_mid o hM).right, k _ hw.size _ _ (ha.put hd _) (hw.alloc_mid o hM)⟩

theorem dL {l : List Oper} {o : Obj} {v : Nat → Value} {g t : Nat} {b : Bool} {u : Value} (hM : ∀ k ∈ Mk, k < b0.heap.size) (h : aH P N D b0 Mk L E op ty o v) (hg : (ops[g]?).bind (·.dst) = some t := by rfl)
    (hu : look E t = some u := by rfl) (hb : Lc u b = true := by rfl) (ht : Nat.blt t N = true := by rfl) (hn : Be op = true := by rfl) (hd : Nat.blt d N = true := by rfl)
    (k : ∀ r, b0.heap.size ≤ r → JL P rd b0 Mk N D ops ((r, o) :: L) ((d, v r) :: E) l T) :
    JL P rd b0 Mk N D ops L E ({ dst := some d, op := op, type := ty, pos := pos, after := after, guard := some (g, b) } :: l) T := by
  intro a w ha hw
  unfold Mn
  rw [if_pos z52]
  exact Df (Bf hn) (by rw [Cj]; exact h a w ha hw) (k _ hw.size _ _ (ha.put hd _) (hw.alloc o hM))

theorem AN7 {l : List (Bool × Oper)} {o : Obj} {v : Nat → Value} {g t : Nat} {b : Bool} {u : Value} (hM : ∀ k ∈ Mk, k < b0.heap.size) (h : aH P N D b0 Mk L E op ty o v) (hg : (ops[g]?).bind (·.dst) = some t := by rfl)
    (hu : look E t = some u := by rfl) (hb : Lc u b = true := by rfl) (ht : Nat.blt t N = true := by rfl) (hn : Be op = true := by rfl) (hd : Nat.blt d N = true := by rfl)
    (k : ∀ r, b0.heap.size ≤ r → JD P rd b0 Mk N D ops ((r, o) :: L) V ((d, v r) :: E) l T) :
    JD P rd b0 Mk N D ops L V E ((false, { dst := some d, op := op, type := ty, pos := pos, after := after, guard := some (g, b) }) :: l) T := by
  intro a w ha hw
  unfold Qx
  rw [if_pos z52]
  exact Df (Bf hn) z79
    ⟨SH b0 Mk ((w.heap.size, o) :: L), fun x hx => hx.sub (List.sublist_cons_self _ _), (hw.alloc_mid o hM).right, k _ hw.size _ _ (ha.put hd _) (hw.alloc_mid o hM)⟩

def mW (P : Program) (N : Nat) (D : List Deferred) (b0 : World) (Mk : List Nat) (L : Am) (E : Eg) (op : Op) (ty : TypeId) (L' : Am) (r : Next) : Prop :=
  ∀ a w, Dk N D E a → SH b0 Mk L w → ∃ w', (execOp a.eval (Em op ty)).run P w = .ok r w' ∧ SH b0 Mk L' w'

theorem Jq {o : Oper} {a : Act} {w w' : World} {K : Act → World → Prop} {Q : Exit → Act → World → Prop} (hd : Ei o = true) (h : (execOp a.eval o).run P w = .ok .skip w') (hK : K (a.put o.dst undef) w') :
    o.wpIn (FW rd) 0 P a w K Q := by
  refine ⟨fun _ _ => trivial, ?_⟩
  rw [Oper.semAt_eq _ _ _ (Hd hd), h]
  exact hK

theorem Eh {l : List Oper} {L' : Am} (h : mW P N D b0 Mk L E op ty L' .skip) (hn : Be op = true := by rfl) (k : JL P rd b0 Mk N D ops L' E l T) :
    JL P rd b0 Mk N D ops L E ({ dst := none, op := op, type := ty, pos := pos, after := after, guard := none } :: l) T := by
  intro a w ha hw
  unfold Mn
  rw [if_pos (by rfl)]
  obtain ⟨w', h1, h2⟩ := h a w ha hw
  exact Jq (Bf hn) uD (k _ _ ha h2)

theorem Yk {l : List (Bool × Oper)} {V' : Am} (h : mW P N D b0 Mk (V ++ L) E op ty (V' ++ L) .skip) (hn : Be op = true := by rfl) (k : JD P rd b0 Mk N D ops L V' E l T) :
    JD P rd b0 Mk N D ops L V E ((false, { dst := none, op := op, type := ty, pos := pos, after := after, guard := none }) :: l) T := by
  intro a w ha hw
  unfold Qx
  rw [if_pos (by rfl)]
  obtain ⟨w', h1, h2⟩ := h a w ha hw
  exact Jq (Bf hn) uD ⟨SH b0 Mk L, fun _ h => h, h2.right, k _ _ ha h2⟩

theorem Od {F : Fence} {f : FuncId} {args : Array Value} {w : World} {R : Ending → World → Prop} (hF : F = FW rd) (h : Calls P f args w R) : CallsIn F 0 P f args w R := by
  subst hF
  have h' : CallsIn Fence.wide 0 P f args w R := callsIn_wide.2 h
  exact ⟨trivial, fun cs _ => h'.2 cs (room_wide _)⟩

def Lz (P : Program) (N : Nat) (D : List Deferred) (b0 : World) (Mk : List Nat) (L : Am) (E : Eg) (op : Op) (ty : TypeId) (f : FuncId) (args : List Value) : Prop :=
  ∀ a w, Dk N D E a → SH b0 Mk L w → (execOp a.eval (Em op ty)).run P w = .ok (.enter f args.toArray) w

theorem Ea {o : Oper} {a : Act} {w : World} {f : FuncId} {args : Array Value} {K : Act → World → Prop} {Q : Exit → Act → World → Prop} (hd : Ei o = true) (h : (execOp a.eval o).run P w = .ok (.enter f args) w)
    (hK : Calls P f args w fun e w' => ∃ v, e = .returned v ∧ K (a.put o.dst v) w') : o.wpIn (FW rd) 0 P a w K Q := by
  refine ⟨fun _ _ => trivial, ?_⟩
  rw [Oper.semAt_eq _ _ _ (Hd hd), h]
  refine ⟨fun h => by simp [FW] at h, Od rfl (hK.mono fun e w' he => ?_)⟩
  obtain ⟨v, rfl, hk⟩ := he
  exact hk

theorem AU2 {l : List Oper} {f : FuncId} {args : List Value} {X : Type} {v : X → Value} {L' : X → Am} (hc : Lz P N D b0 Mk L E op ty f args)
    (h : ∀ w, SH b0 Mk L w → Calls P f args.toArray w fun e w' => ∃ x, e = .returned (v x) ∧ SH b0 Mk (L' x) w') (hn : Be op = true := by rfl) (hd : Nat.blt d N = true := by rfl)
    (k : ∀ x, JL P rd b0 Mk N D ops (L' x) ((d, v x) :: E) l T) :
    JL P rd b0 Mk N D ops L E ({ dst := some d, op := op, type := ty, pos := pos, after := after, guard := none } :: l) T := by
  intro a w ha hw
  unfold Mn
  rw [if_pos (by rfl)]
  refine Ea (Bf hn) (by rw [Cj]; exact hc a w ha hw) ((h w hw).mono fun e w' he => ?_)
  obtain ⟨x, rfl, h2⟩ := he
  exact ⟨_, rfl, k x _ _ (ha.put hd _) h2⟩

theorem AN8 {l : List Oper} {f : FuncId} {args : List Value} {X : Type} {v : X → Value} {L' : X → Am} {g t : Nat} {b : Bool} {u : Value} (hc : Lz P N D b0 Mk L E op ty f args)
    (h : ∀ w, SH b0 Mk L w → Calls P f args.toArray w fun e w' => ∃ x, e = .returned (v x) ∧ SH b0 Mk (L' x) w')
    (hg : (ops[g]?).bind (·.dst) = some t := by rfl) (hu : look E t = some u := by rfl) (hb : Lc u b = true := by rfl) (ht : Nat.blt t N = true := by rfl) (hn : Be op = true := by rfl) (hd : Nat.blt d N = true := by rfl)
    (k : ∀ x, JL P rd b0 Mk N D ops (L' x) ((d, v x) :: E) l T) :
    JL P rd b0 Mk N D ops L E ({ dst := some d, op := op, type := ty, pos := pos, after := after, guard := some (g, b) } :: l) T := by
  intro a w ha hw
  unfold Mn
  rw [if_pos z52]
  refine Ea (Bf hn) (by rw [Cj]; exact hc a w ha hw) ((h w hw).mono fun e w' he => ?_)
  obtain ⟨x, rfl, h2⟩ := he
  exact ⟨_, rfl, k x _ _ (ha.put hd _) h2⟩

theorem AU3 {l : List (Bool × Oper)} {f : FuncId} {args : List Value} {X : Type} {v : X → Value} {B V' : X → Am} (hc : Lz P N D b0 Mk L E op ty f args)
    (h : ∀ w, SH b0 Mk (V ++ L) w → Calls P f args.toArray w fun e w' => ∃ x, e = .returned (v x) ∧ SH b0 Mk (V' x ++ (B x ++ L)) w') (hn : Be op = true := by rfl) (hd : Nat.blt d N = true := by rfl)
    (k : ∀ x, JD P rd b0 Mk N D ops (B x ++ L) (V' x) ((d, v x) :: E) l T) :
    JD P rd b0 Mk N D ops L V E ((false, { dst := some d, op := op, type := ty, pos := pos, after := after, guard := none }) :: l) T := by
  intro a w ha hw
  unfold Qx
  rw [if_pos (by rfl)]
  refine Ea (Bf hn) U9 ((h w hw).mono fun e w' he => ?_)
  obtain ⟨x, rfl, h2⟩ := he
  exact ⟨_, rfl, SH b0 Mk (B x ++ L), fun y hy => hy.right, h2.right, k x _ _ (ha.put hd _) h2⟩

theorem AN9 {l : List (Bool × Oper)} {f : FuncId} {args : List Value} {X : Type} {v : X → Value} {B V' : X → Am} {g t : Nat} {b : Bool} {u : Value} (hc : Lz P N D b0 Mk L E op ty f args)
    (h : ∀ w, SH b0 Mk (V ++ L) w → Calls P f args.toArray w fun e w' => ∃ x, e = .returned (v x) ∧ SH b0 Mk (V' x ++ (B x ++ L)) w')
    (hg : (ops[g]?).bind (·.dst) = some t := by rfl) (hu : look E t = some u := by rfl) (hb : Lc u b = true := by rfl) (ht : Nat.blt t N = true := by rfl) (hn : Be op = true := by rfl) (hd : Nat.blt d N = true := by rfl)
    (k : ∀ x, JD P rd b0 Mk N D ops (B x ++ L) (V' x) ((d, v x) :: E) l T) :
    JD P rd b0 Mk N D ops L V E ((false, { dst := some d, op := op, type := ty, pos := pos, after := after, guard := some (g, b) }) :: l) T := by
  intro a w ha hw
  unfold Qx
  rw [if_pos z52]
  refine Ea (Bf hn) U9 ((h w hw).mono fun e w' he => ?_)
  obtain ⟨x, rfl, h2⟩ := he
  exact ⟨_, rfl, SH b0 Mk (B x ++ L), fun y hy => hy.right, h2.right, k x _ _ (ha.put hd _) h2⟩

def Ret (P : Program) (f : FuncId) (args : List Value) (w : World) (X : Type) (v : X → Value) (B : X → Am) : Prop :=
  Calls P f args.toArray w fun e w' => ∃ x, e = .returned (v x) ∧ Dz w w' (B x)

theorem Ret.sh {f : FuncId} {args : List Value} {w : World} {X : Type} {v : X → Value} {B : X → Am} (h : Ret P f args w X v B) (hw : SH b0 Mk L w) :
    Calls P f args.toArray w fun e w' => ∃ x, e = .returned (v x) ∧ SH b0 Mk (B x ++ L) w' :=
  h.mono fun _ _ ⟨x, he, hf⟩ => ⟨x, he, hw.fresh hf⟩

theorem Ret.shV {f : FuncId} {args : List Value} {w : World} {X : Type} {v : X → Value} {B : X → Am} (h : Ret P f args w X v B) (hw : SH b0 Mk (V ++ L) w) :
    Calls P f args.toArray w fun e w' => ∃ x, e = .returned (v x) ∧ SH b0 Mk (V ++ (B x ++ L)) w' :=
  h.mono fun _ _ ⟨x, he, hf⟩ => ⟨x, he, (hw.fresh hf).perm z83⟩

def Gz (P : Program) (f : FuncId) (args : List Value) (w : World) (v : Value) : Prop :=
  Calls P f args.toArray w fun e w' => e = .returned v ∧ aD w w'

theorem Gz.sh {f : FuncId} {args : List Value} {w : World} {v : Value} (h : Gz P f args w v) (hw : SH b0 Mk L w) :
    Calls P f args.toArray w fun e w' => ∃ _ : Unit, e = .returned v ∧ SH b0 Mk L w' :=
  h.mono fun _ _ ⟨he, hf⟩ => ⟨(), he, hw.ext hf⟩

theorem Co {l : List Oper} {f : FuncId} {args : List Value} (hc : Lz P N D b0 Mk L E op ty f args) (h : ∀ w, SH b0 Mk L w → Gz P f args w v) (hn : Be op = true := by rfl) (hd : Nat.blt d N = true := by rfl)
    (k : JL P rd b0 Mk N D ops L ((d, v) :: E) l T) : JL P rd b0 Mk N D ops L E ({ dst := some d, op := op, type := ty, pos := pos, after := after, guard := none } :: l) T :=
  AU2 (X := Unit) (v := fun _ => v) (L' := fun _ => L) hc (fun w hw => (h w hw).sh hw) hn hd fun _ => k
theorem Mv {l : List Oper} {f : FuncId} {args : List Value} {g t : Nat} {b : Bool} {u : Value} (hc : Lz P N D b0 Mk L E op ty f args) (h : ∀ w, SH b0 Mk L w → Gz P f args w v)
    (hg : (ops[g]?).bind (·.dst) = some t := by rfl) (hu : look E t = some u := by rfl) (hb : Lc u b = true := by rfl) (ht : Nat.blt t N = true := by rfl) (hn : Be op = true := by rfl) (hd : Nat.blt d N = true := by rfl)
    (k : JL P rd b0 Mk N D ops L ((d, v) :: E) l T) : JL P rd b0 Mk N D ops L E ({ dst := some d, op := op, type := ty, pos := pos, after := after, guard := some (g, b) } :: l) T :=
  AN8 (X := Unit) (v := fun _ => v) (L' := fun _ => L) hc (fun w hw => (h w hw).sh hw) hg hu hb ht hn hd fun _ => k
theorem Tm {l : List (Bool × Oper)} {f : FuncId} {args : List Value} (hc : Lz P N D b0 Mk L E op ty f args) (h : ∀ w, SH b0 Mk L w → Gz P f args w v) (hn : Be op = true := by rfl) (hd : Nat.blt d N = true := by rfl)
    (k : JD P rd b0 Mk N D ops L V ((d, v) :: E) l T) : JD P rd b0 Mk N D ops L V E ((false, { dst := some d, op := op, type := ty, pos := pos, after := after, guard := none }) :: l) T :=
  AU3 (X := Unit) (v := fun _ => v) (B := fun _ => []) (V' := fun _ => V) hc (fun w hw => (h w hw.right).mono fun _ _ ⟨he, hf⟩ => ⟨(), he, hw.ext hf⟩) hn hd fun _ => k
theorem aJ {l : List (Bool × Oper)} {f : FuncId} {args : List Value} {g t : Nat} {b : Bool} {u : Value} (hc : Lz P N D b0 Mk L E op ty f args) (h : ∀ w, SH b0 Mk L w → Gz P f args w v)
    (hg : (ops[g]?).bind (·.dst) = some t := by rfl) (hu : look E t = some u := by rfl) (hb : Lc u b = true := by rfl) (ht : Nat.blt t N = true := by rfl) (hn : Be op = true := by rfl) (hd : Nat.blt d N = true := by rfl)
    (k : JD P rd b0 Mk N D ops L V ((d, v) :: E) l T) : JD P rd b0 Mk N D ops L V E ((false, { dst := some d, op := op, type := ty, pos := pos, after := after, guard := some (g, b) }) :: l) T :=
  AN9 (X := Unit) (v := fun _ => v) (B := fun _ => []) (V' := fun _ => V) hc (fun w hw => (h w hw.right).mono fun _ _ ⟨he, hf⟩ => ⟨(), he, hw.ext hf⟩) hg hu hb ht hn hd fun _ => k

end steps
end Go.Proofs.YtdnjanhdnibkfaaGreatDoor.Jd

namespace Go.Proofs.YtdnjanhdnibkfaaGreatDoor.Jd
open Go.RowKit (Below)
set_option linter.unusedVariables false
set_option linter.unusedSimpArgs false

def uB : List Value → Nat → Option Value
  | [], _ => none
  | v :: _, 0 => some v
  | _ :: r, n + 1 => uB r n

theorem Nr : ∀ (l : List Value) (k : Nat), uB l k = l[k]?
  | [], _ => rfl
  | _ :: _, 0 => rfl
  | _ :: r, n + 1 => by simp [uB, Nr r n]

def oV : List Value → Nat → Nat → Option (List Value)
  | _, _, 0 => some []
  | l, k, n + 1 => match uB l k, oV l (k + 1) n with
    | some v, some r => some (v :: r)
    | _, _ => none

theorem Qy : ∀ (l : List Value) (n k : Nat) (cs : List Value), oV l k n = some cs → cs.length = n ∧ ∀ j v, cs[j]? = some v → l[k + j]? = some v
  | l, 0, k, cs, h => by
    have : cs = [] := by simpa [oV] using h.symm
    subst this
    exact ⟨rfl, fun j v hv => by simp at hv⟩
  | l, n + 1, k, cs, h => by
    unfold oV at h
    split at h
    · rename_i v r hv hr
      have := Option.some.inj h
      subst this
      obtain ⟨h1, h2⟩ := Qy l n (k + 1) r hr
      refine ⟨by simp [h1], fun j u hu => ?_⟩
      cases j with
      | zero => rw [Nr] at hv; simp at hu; subst hu; simpa using hv
      | succ j => have := h2 j u (by simpa using hu); rwa [show k + (j + 1) = k + 1 + j by omega]
    · cases h

def Cp : Value → List Value
  | .agg c => c.toList
  | v => [v]

theorem Ft (v : Value) : v.cells = (Cp v).toArray := by cases v <;> simp [Value.cells, Cp]

def B4 (E : Eg) : List Operand → Option (List Value)
  | [] => some []
  | x :: r => match ev E x, B4 E r with
    | some v, some vs => some (v :: vs)
    | _, _ => none

theorem Dk.evals {N : Nat} {D : List Deferred} {E : Eg} {a : Act} (h : Dk N D E a) : ∀ {l : List Operand} {vs : List Value}, B4 E l = some vs → l.map a.eval = vs
  | [], vs, hv => by simpa [B4] using hv
  | x :: r, vs, hv => by
    unfold B4 at hv
    split at hv
    · rename_i v us hx hr
      have := Option.some.inj hv
      subst this
      simp [h.eval hx, h.evals hr]
    · cases hv

section ops
variable {P : Program} {b0 : World} {Mk : List Nat} {N : Nat} {D : List Deferred} {L V : Am} {E : Eg} {ty : TypeId}

theorem Fp {x : Operand} {v : Value} (hx : ev E x = some v := by rfl) : Cm P N D b0 Mk L E (.move x) ty v := fun a w ha _ => by
  simp [Em, execOp, ha.eval hx]
theorem Ir {x : Operand} {v : Value} (hx : ev E x = some v := by rfl) : Cm P N D b0 Mk L E (.assign x) ty v := fun a w ha _ => by
  simp [Em, execOp, ha.eval hx]
theorem Fx {c x y : Operand} {v : Value} (hc : ev E c = some (.bool true) := by rfl) (hx : ev E x = some v := by rfl) : Cm P N D b0 Mk L E (.pick c x y) ty v := fun a w ha _ => by
  simp [Em, execOp, asBool, ha.eval hc, ha.eval hx]
theorem Du {c x y : Operand} {v : Value} (hc : ev E c = some (.bool false) := by rfl) (hy : ev E y = some v := by rfl) : Cm P N D b0 Mk L E (.pick c x y) ty v := fun a w ha _ => by
  simp [Em, execOp, asBool, ha.eval hc, ha.eval hy]

theorem SH.cell {w : World} (h : SH b0 Mk L w) {r k : Nat} {l : List Value} {T : TypeId} {f : Nat × Nat} (hm : (r, Obj.cells l.toArray T f) ∈ L) {v : Value} (hv : l[k]? = some v) :
    w.cell? ⟨r, k, none⟩ = some v := by
  have := h.own _ hm
  simp only at this
  simp [World.cell?, this, hv]

theorem Ao (r k n : Nat) : (Addr.mk r k none).add n = ⟨r, k + n, none⟩ := by
  unfold Addr.add
  split
  · rename_i h; subst h; rfl
  · rfl

theorem Bb {t : TypeId} {x : Operand} {r k : Nat} {l : List Value} {T : TypeId} {f : Nat × Nat} {v : Value} (hA : ∀ w, (isAgg t).run P w = .ok false w) (hx : ev E x = some (.pointer (some ⟨r, k, none⟩)) := by rfl)
    (hm : (r, Obj.cells l.toArray T f) ∈ L := by repeat (first | exact List.mem_cons_self | apply List.mem_cons_of_mem | apply List.mem_append_right)) (hv : uB l k = some v := by rfl) :
    Cm P N D b0 Mk L E (.load t x) ty v := fun a w ha hw => by
  have hc := hw.cell hm (by rw [← Nr]; exact hv)
  simp [Em, execOp, ha.eval hx, Instr.loadAt, Instr.sureAddr, loadVar, hA, hc]

theorem Bq {t : TypeId} {x : Operand} {r k n : Nat} {l : List Value} {T : TypeId} {f : Nat × Nat} {cs : List Value} (hA : ∀ w, (isAgg t).run P w = .ok true w) (hS : ∀ w, (sizeOf t).run P w = .ok n w)
    (hx : ev E x = some (.pointer (some ⟨r, k, none⟩)) := by rfl)
    (hm : (r, Obj.cells l.toArray T f) ∈ L := by repeat (first | exact List.mem_cons_self | apply List.mem_cons_of_mem | apply List.mem_append_right)) (hv : oV l k n = some cs := by rfl) :
    Cm P N D b0 Mk L E (.load t x) ty (.agg cs.toArray) := fun a w ha hw => by
  obtain ⟨h1, h2⟩ := Qy l n k cs hv
  have hl : (loadCells ⟨r, k, none⟩ n).run P w = .ok cs.toArray w := by
    rw [← h1]
    exact run_loadCells_list w ⟨r, k, none⟩ cs fun j v hj => by
      rw [Ao]
      exact hw.cell hm (h2 j v hj)
  simp [Em, execOp, ha.eval hx, Instr.loadAt, Instr.sureAddr, loadVar, hA, hS, hl]

theorem Mw {x : Operand} {p : Addr} (hx : ev E x = some (.pointer (some p)) := by rfl) : Cm P N D b0 Mk L E (.nilCheck x) ty (.pointer (some p)) := fun a w ha _ => by
  simp [Em, execOp, ha.eval hx]
def Ba (P : Program) (s f off : Nat) : Prop := ∀ r k w, (Instr.fieldAt s (.pointer (some ⟨r, k, none⟩)) f).run P w = .ok (.pointer (some ⟨r, k + off, none⟩)) w

theorem Al {s f off : Nat} {x : Operand} {r k : Nat} (hf : Ba P s f off) (hx : ev E x = some (.pointer (some ⟨r, k, none⟩)) := by rfl) :
    Cm P N D b0 Mk L E (.fieldAddr s x f) ty (.pointer (some ⟨r, k + off, none⟩)) := fun a w ha _ => by
  simp [Em, execOp, ha.eval hx, hf r k w]

section ints
variable {t t' : TypeId} {x y : Operand} {k : IntKind} {p q : Int}
theorem Mx (hx : ev E x = some (.int k p) := by rfl) (hy : ev E y = some (.int k q) := by rfl) : Cm P N D b0 Mk L E (.binOp .lss t x y t') ty (.bool (decide (p < q))) := fun a w ha _ => by
  simp [Em, execOp, ha.eval hx, ha.eval hy, eqGuard, binOp, Op.intCmp]
theorem Oe (hx : ev E x = some (.int k p) := by rfl) (hy : ev E y = some (.int k q) := by rfl) : Cm P N D b0 Mk L E (.binOp .leq t x y t') ty (.bool (decide (p ≤ q))) := fun a w ha _ => by
  simp [Em, execOp, ha.eval hx, ha.eval hy, eqGuard, binOp, Op.intCmp]
theorem Uh (hx : ev E x = some (.int k p) := by rfl) (hy : ev E y = some (.int k q) := by rfl) : Cm P N D b0 Mk L E (.binOp .gtr t x y t') ty (.bool (decide (q < p))) := fun a w ha _ => by
  simp [Em, execOp, ha.eval hx, ha.eval hy, eqGuard, binOp, Op.intCmp]
theorem My (hx : ev E x = some (.int k p) := by rfl) (hy : ev E y = some (.int k q) := by rfl) : Cm P N D b0 Mk L E (.binOp .geq t x y t') ty (.bool (decide (q ≤ p))) := fun a w ha _ => by
  simp [Em, execOp, ha.eval hx, ha.eval hy, eqGuard, binOp, Op.intCmp]
theorem Gw (hx : ev E x = some (.int k p) := by rfl) (hy : ev E y = some (.int k q) := by rfl) : Cm P N D b0 Mk L E (.binOp .eql t x y t') ty (.bool (decide (p = q))) := fun a w ha _ => by
  simp only [Em, execOp, ha.eval hx, ha.eval hy, eqGuard, binOp, Op.intCmp]
  by_cases h : p = q <;> simp [h]
theorem Og (hx : ev E x = some (.int k p) := by rfl) (hy : ev E y = some (.int k q) := by rfl) : Cm P N D b0 Mk L E (.binOp .neq t x y t') ty (.bool (decide (p ≠ q))) := fun a w ha _ => by
  simp only [Em, execOp, ha.eval hx, ha.eval hy, eqGuard, binOp, Op.intCmp]
  by_cases h : p = q <;> simp [h]

theorem Gx {n : Int} (h : -9223372036854775808 ≤ n ∧ n ≤ 9223372036854775807) : IntKind.i64.wrap n = n := IntWalk.i64_in n h

theorem dM (hx : ev E x = some (.int .i64 p) := by rfl) (hy : ev E y = some (.int .i64 q) := by rfl) (h : -9223372036854775808 ≤ p + q ∧ p + q ≤ 9223372036854775807 := by omega) :
    Cm P N D b0 Mk L E (.binOp .add t x y t') ty (.int .i64 (p + q)) := fun a w ha _ => by
  simp [Em, execOp, ha.eval hx, ha.eval hy, eqGuard, binOp, Op.intArith, Gx h]
theorem Xf (hx : ev E x = some (.int .i64 p) := by rfl) (hy : ev E y = some (.int .i64 q) := by rfl) (h : -9223372036854775808 ≤ p - q ∧ p - q ≤ 9223372036854775807 := by omega) :
    Cm P N D b0 Mk L E (.binOp .sub t x y t') ty (.int .i64 (p - q)) := fun a w ha _ => by
  simp [Em, execOp, ha.eval hx, ha.eval hy, eqGuard, binOp, Op.intArith, Gx h]
theorem dN (hx : ev E x = some (.int .i64 p) := by rfl) (hy : ev E y = some (.int .i64 q) := by rfl) (h : -9223372036854775808 ≤ p * q ∧ p * q ≤ 9223372036854775807 := by omega) :
    Cm P N D b0 Mk L E (.binOp .mul t x y t') ty (.int .i64 (p * q)) := fun a w ha _ => by
  simp [Em, execOp, ha.eval hx, ha.eval hy, eqGuard, binOp, Op.intArith, Gx h]
end ints

theorem aK {t : TypeId} {x : Operand} {p : Prop} [Decidable p] (hx : ev E x = some (.bool (decide p)) := by rfl) : Cm P N D b0 Mk L E (.unOp .not t x) ty (.bool (decide (¬ p))) := fun a w ha _ => by
  simp [Em, execOp, ha.eval hx, Op.unary]
theorem It {t : TypeId} {x : Operand} {p : Bool} (hx : ev E x = some (.bool p) := by rfl) : Cm P N D b0 Mk L E (.unOp .not t x) ty (.bool (!p)) := fun a w ha _ => by
  simp [Em, execOp, ha.eval hx, Op.unary]

theorem K9 {t : TypeId} {w : World} (d : Nat) (p q : Bool) (hU : ∀ w, (underlying t).run P w = .ok .bool w) : (Op.equalIn (d + 1) t (.bool p) (.bool q)).run P w = .ok (p == q) w := by
  unfold Op.equalIn
  simp only [Sem.run_bind, hU, Result.andThen_ok, Sem.run_pure]
theorem aL {t t' : TypeId} {x y : Operand} {p q : Bool} (hU : ∀ w, (underlying t).run P w = .ok .bool w) (hx : ev E x = some (.bool p) := by rfl) (hy : ev E y = some (.bool q) := by rfl) :
    Cm P N D b0 Mk L E (.binOp .eql t x y t') ty (.bool (p == q)) := fun a w ha _ => by
  have h := K9 (P := P) (w := w) 9999 p q hU
  have h1 : (binOp .eql t (.bool p) (.bool q)).run P w = .ok (.bool (p == q)) w := by
    show (do pure (.bool (← Op.equal t (.bool p) (.bool q))) : Sem Value).run P w = _
    simp only [Sem.run_bind, Op.equal, Op.maxDepth, h, Result.andThen_ok, Sem.run_pure]
  simp only [Em, execOp, ha.eval hx, ha.eval hy, eqGuard, Sem.run_bind]
  simp [h1]
theorem Dg {t e : TypeId} {x : Operand} {a : Option Addr} {n c : Nat} (hU : ∀ w, (underlying t).run P w = .ok (.slice e) w) (hx : ev E x = some (.slice a n c) := by rfl) :
    Cm P N D b0 Mk L E (.call { callee := .builtin .len, args := #[x], argTypes := #[t] }) ty (.int .i64 n) := fun a w ha _ => by
  simp [Em, execOp, resolve, invoke, builtin, Builtin.len_, ha.eval hx, hU, goInt]
theorem wD {t : TypeId} {x : Operand} {s : ByteArray} (hU : ∀ w, (underlying t).run P w = .ok .string w) (hx : ev E x = some (.string s) := by rfl) :
    Cm P N D b0 Mk L E (.call { callee := .builtin .len, args := #[x], argTypes := #[t] }) ty (.int .i64 s.size) := fun a w ha _ => by
  simp [Em, execOp, resolve, invoke, builtin, Builtin.len_, ha.eval hx, hU, goInt]
theorem SH.obj {w : World} (h : SH b0 Mk L w) {r : Nat} {o : Obj} (hm : (r, o) ∈ L) : w.heap[r]? = some o := h.own _ hm
theorem Iu {P : Program} {w : World} {r : Nat} {es : Array MapEntry} {c : Nat} (h : w.heap[r]? = some (.map es c)) : (getObj r).run P w = .ok (.map es c) w := by
  simp [getObj, Sem.run, h]
theorem AC1 {t kt et : TypeId} {x : Operand} {r : Nat} {es : Array MapEntry} {c : Nat} (hU : ∀ w, (underlying t).run P w = .ok (.map kt et) w) (hx : ev E x = some (.map (some r)) := by rfl)
    (hm : (r, Obj.map es c) ∈ L := by repeat (first | exact List.mem_cons_self | apply List.mem_cons_of_mem | apply List.mem_append_right)) :
    Cm P N D b0 Mk L E (.call { callee := .builtin .len, args := #[x], argTypes := #[t] }) ty (.int .i64 es.size) := fun a w ha hw => by
  simp [Em, execOp, resolve, invoke, builtin, Builtin.len_, ha.eval hx, hU, goInt, Iu (hw.obj hm)]

def Sl (w : World) {α : Type} (enc : α → List Value) (k : Nat) (a : Option Addr) (xs : List α) : Prop :=
  ∀ (i : Nat) (x : α), xs[i]? = some x → ∃ b off, a = some ⟨b, off, none⟩ ∧ (enc x).length = k ∧ ∀ j v, (enc x)[j]? = some v → w.cell? ⟨b, off + i * k + j, none⟩ = some v

def Ch (b0 : World) (Mk : List Nat) (L : Am) {α : Type} (enc : α → List Value) (k : Nat) (a : Option Addr) (xs : List α) : Prop := ∀ w, SH b0 Mk L w → Sl w enc k a xs

theorem Pg {w w' : World} {p : Addr} {v : Value} (h : w.cell? p = some v) (hs : w'.heap[p.block]? = w.heap[p.block]?) : w'.cell? p = some v := by
  unfold World.cell? at *
  rw [hs]; exact h

theorem Sl.ext {w w' : World} {α : Type} {enc : α → List Value} {k : Nat} {a : Option Addr} {xs : List α} (h : Sl w enc k a xs) (he : aD w w') : Sl w' enc k a xs := fun i x hx => by
  obtain ⟨b, off, h1, h2, h3⟩ := h i x hx
  exact ⟨b, off, h1, h2, fun j v hv => by
    have hc := h3 j v hv
    exact Pg hc (he.block _ (World.block_lt_of_cell? w _ hc))⟩

theorem Ch.of_base {α : Type} {enc : α → List Value} {k : Nat} {a : Option Addr} {xs : List α} (h : Sl b0 enc k a xs) : Ch b0 [] L enc k a xs := fun _ hw => h.ext hw.ext_out

theorem Sl.nil {w : World} {α : Type} {enc : α → List Value} {k : Nat} {a : Option Addr} : Sl w enc k a [] := fun i x hx => by simp at hx
theorem Ch.mono {L' : Am} {α : Type} {enc : α → List Value} {k : Nat} {a : Option Addr} {xs : List α} (h : Ch b0 Mk L enc k a xs) (hs : List.Sublist L L') : Ch b0 Mk L' enc k a xs :=
  fun w hw => h w (hw.sub hs)

def ea (a : Option Addr) (o : Nat) : Addr := ⟨(a.getD default).block, (a.getD default).off + o, none⟩

theorem Dl {t e : TypeId} {x y : Operand} {a : Option Addr} {n c : Nat} {i : Int} {ki : IntKind} {α : Type} {enc : α → List Value} {k : Nat} {xs : List α} (hU : ∀ w, (underlying t).run P w = .ok (.slice e) w) (hS : ∀ w, (sizeOf e).run P w = .ok k w)
    (m : Nat) {z : α} (hs : Ch b0 Mk L enc k a xs) (hz : xs[m]? = some z) (hn : xs.length = n) (hx : ev E x = some (.slice a n c) := by rfl) (hy : ev E y = some (.int ki i) := by rfl) (hi : i = (m : Int) := by first | rfl | omega) :
    Cm P N D b0 Mk L E (.indexAddr t x y) ty (.pointer (some (ea a (m * k)))) := fun a' w ha hw => by
  obtain ⟨b, off, rfl, _, _⟩ := hs w hw m z hz
  subst hi
  have hlt : m < n := by rw [← hn]; exact (List.getElem?_eq_some_iff.1 hz).1
  have hlt' : (m : Int) < (n : Int) := by omega
  simp [Em, execOp, ha.eval hx, ha.eval hy, Instr.indexAt, asIntOf, hU, hS, hlt, ea, Ao]

theorem Cr {t : TypeId} {x : Operand} {a : Option Addr} {o : Nat} {α : Type} {enc : α → List Value} {k : Nat} {xs : List α} {v : Value} (hA : ∀ w, (isAgg t).run P w = .ok false w) (m : Nat) {z : α} (j : Nat) (hs : Ch b0 Mk L enc k a xs) (hz : xs[m]? = some z)
    (hv : (enc z)[j]? = some v := by rfl) (hx : ev E x = some (.pointer (some (ea a o))) := by rfl) (ho : o = m * k + j := by first | rfl | omega) :
    Cm P N D b0 Mk L E (.load t x) ty v := fun a' w ha hw => by
  obtain ⟨b, off, rfl, _, hc⟩ := hs w hw m z hz
  subst ho
  have := hc j v hv
  have he : ea (some ⟨b, off, none⟩) (m * k + j) = ⟨b, off + m * k + j, none⟩ := by simp [ea, Nat.add_assoc]
  simp [Em, execOp, ha.eval hx, Instr.loadAt, Instr.sureAddr, loadVar, hA, he, this]

theorem Ht {t : TypeId} {x : Operand} {a : Option Addr} {o n : Nat} {α : Type} {enc : α → List Value} {k : Nat} {xs : List α} (hA : ∀ w, (isAgg t).run P w = .ok true w) (hS : ∀ w, (sizeOf t).run P w = .ok n w) (m : Nat) {z : α} (hs : Ch b0 Mk L enc k a xs) (hz : xs[m]? = some z)
    (hx : ev E x = some (.pointer (some (ea a o))) := by rfl) (ho : o = m * k := by first | rfl | omega) (hk : k = n := by rfl) :
    Cm P N D b0 Mk L E (.load t x) ty (.agg (enc z).toArray) := fun a' w ha hw => by
  obtain ⟨b, off, rfl, hlen, hc⟩ := hs w hw m z hz
  subst ho hk
  have he : ea (some ⟨b, off, none⟩) (m * k) = ⟨b, off + m * k, none⟩ := by simp [ea]
  have hl : (loadCells ⟨b, off + m * k, none⟩ k).run P w = .ok (enc z).toArray w := by
    rw [← hlen]
    exact run_loadCells_list w _ (enc z) fun j v hj => by
      rw [Ao, hlen]
      exact hc j v hj
  simp [Em, execOp, ha.eval hx, Instr.loadAt, Instr.sureAddr, loadVar, hA, hS, he, hl]

theorem Wi {s f off : Nat} {x : Operand} {a : Option Addr} {o : Nat} (hf : Ba P s f off) (hx : ev E x = some (.pointer (some (ea a o))) := by rfl) :
    Cm P N D b0 Mk L E (.fieldAddr s x f) ty (.pointer (some (ea a (o + off)))) := fun a' w ha _ => by
  have := hf (a.getD default).block ((a.getD default).off + o) w
  simp only [Em, execOp, ha.eval hx]
  simp only [ea]
  simp [this, Nat.add_assoc]

theorem Jf {T : TypeId} {x : Operand} {v : Value} {l : List Value} (hx : ev E x = some v := by rfl) (hl : Cp v = l := by rfl) : aH P N D b0 Mk L E (.box T x) ty (.cells l.toArray T) (fun r => .pointer (some ⟨r, 0, none⟩)) :=
  fun a w ha _ => by
    simp [Em, execOp, ha.eval hx, Instr.box, newVar, newRow, Ft, hl]
theorem Bz {T : TypeId} {z : Value} {l : List Value} (hz : ∀ w, (zeroValue T).run P w = .ok z w) (hl : Cp z = l := by rfl) : aH P N D b0 Mk L E (.alloc T) ty (.cells l.toArray T) (fun r => .pointer (some ⟨r, 0, none⟩)) :=
  fun a w _ _ => by
    simp [Em, execOp, Instr.alloc, hz, newVar, newRow, Ft, hl]

def Fb : List Value → Nat → List Value → List Value
  | l, _, [] => l
  | [], _, _ => []
  | _ :: r, 0, u :: us => u :: Fb r 0 us
  | c :: r, n + 1, us => c :: Fb r n us

def aM (pl : List (Nat × Nat)) : List Value → List (Nat × List Value) → Option (List Value)
  | z, [] => some z
  | z, (i, vs) :: r => match pl[i]? with
    | none => none
    | some (off, size) => if Nat.beq vs.length size && Nat.ble (off + vs.length) z.length then aM pl (Fb z off vs) r else none

theorem Mz : ∀ (l : List Value) (n : Nat) (us : List Value), (Fb l n us).length = l.length
  | l, n, [] => by cases l <;> simp [Fb]
  | [], n, u :: us => by simp [Fb]
  | _ :: r, 0, u :: us => by simp [Fb, Mz r 0 us]
  | c :: r, n + 1, u :: us => by simp [Fb, Mz r n (u :: us)]

theorem aN : ∀ (us : List Value) (l : List Value) (n i : Nat), n + i + us.length ≤ l.length →
    (us.zipIdx i).foldl (fun (cs : Array Value) (x : Value × Nat) => cs.setIfInBounds (n + x.2) x.1) l.toArray = (Fb l (n + i) us).toArray
  | [], l, n, i, _ => by cases l <;> simp [Fb]
  | u :: us, l, n, i, h => by
    simp only [List.zipIdx_cons, List.foldl_cons, List.setIfInBounds_toArray]
    rw [aN us (l.set (n + i) u) n (i + 1) (by simp at h ⊢; omega)]
    congr 1
    have : ∀ (l : List Value) (m : Nat), m + 1 + us.length ≤ l.length → Fb (l.set m u) (m + 1) us = Fb l m (u :: us) := by
      intro l
      induction l with
      | nil => intro m hm; simp at hm
      | cons c r ih =>
        intro m hm
        cases m with
        | zero => simp only [List.set_cons_zero]; cases us <;> simp [Fb]
        | succ m => simp only [List.set_cons_succ]; rw [show Fb (c :: r) (m + 1) (u :: us) = c :: Fb r m (u :: us) by simp [Fb], ← ih m (by simp at hm ⊢; omega)]; cases us <;> simp [Fb]
    rw [show n + (i + 1) = (n + i) + 1 by omega]
    exact this l (n + i) (by simp at h; omega)

theorem Ph (pl : List (Nat × Nat)) (f : Nat → Option (Nat × Nat)) (hf : ∀ (i : Nat) (q : Nat × Nat), pl[i]? = some q → f i = some q) : ∀ (parts : List (Nat × Value)) (z : List Value) (cs : List Value), aM pl z (parts.map fun p => (p.1, Cp p.2)) = some cs →
    Instr.fill f z.toArray parts = some cs.toArray
  | [], z, cs, h => by simp [aM] at h; simp [Instr.fill, h]
  | (i, v) :: r, z, cs, h => by
    simp only [List.map_cons, aM] at h
    simp only [Instr.fill]
    cases hp : pl[i]? with
    | none => simp [hp] at h
    | some q =>
      obtain ⟨off, size⟩ := q
      simp only [hp] at h
      simp only [hf _ _ hp]
      split at h
      · rename_i hc
        simp only [Bool.and_eq_true, Nat.beq_eq, Nat.ble_eq] at hc
        obtain ⟨h1, h2⟩ := hc
        have h1' : (Cp v).length = size := h1
        have e1 : v.cells.size = size := by rw [Ft]; simpa using h1'
        have e2 : ¬ (off + v.cells.size > z.toArray.size) := by rw [e1, ← h1']; simpa using h2
        simp only [e1, ne_eq, not_true, decide_false, Bool.false_or]
        rw [e1] at e2
        simp only [decide_eq_true_eq, e2, if_false]
        have := aN (Cp v) z off 0 (by simpa using h2)
        rw [Ft, show (Cp v).toArray.zipIdx = ((Cp v).zipIdx 0).toArray by simp]
        simp only [List.size_toArray, List.foldl_toArray']
        simp only [Nat.add_zero] at this
        rw [this]
        exact Ph pl f hf r _ cs h
      · cases h

def Ej (P : Program) (t : TypeId) (pl : List (Nat × Nat)) : Prop :=
  ∃ fields : Array Field, (∀ w, (underlying t).run P w = .ok (.struct fields) w) ∧ ∀ w, (fields.mapM fun (f : Field) => do pure (f.offset, ← sizeOf f.type)).run P w = .ok pl.toArray w

def evp (E : Eg) : List (Nat × Operand) → Option (List (Nat × List Value))
  | [] => some []
  | (i, x) :: r => match ev E x, evp E r with
    | some v, some vs => some ((i, Cp v) :: vs)
    | _, _ => none

theorem Dk.evalp {a : Act} (h : Dk N D E a) : ∀ {l : List (Nat × Operand)} {vs : List (Nat × List Value)}, evp E l = some vs → (l.map fun p => (p.1, Cp (a.eval p.2))) = vs
  | [], vs, hv => by simpa [evp] using hv
  | (i, x) :: r, vs, hv => by
    unfold evp at hv
    split at hv
    · rename_i v us hx hr
      have := Option.some.inj hv
      subst this
      simp [h.eval hx, h.evalp hr]
    · cases hv

theorem Cf {t : TypeId} {z : Value} {pl : List (Nat × Nat)} {parts : List (Nat × Operand)} {ps : List (Nat × List Value)} {cs : List Value} (hz : ∀ w, (zeroValue t).run P w = .ok z w) (hp : Ej P t pl) (hv : evp E parts = some ps := by rfl)
    (hf : aM pl (Cp z) ps = some cs := by rfl) : Cm P N D b0 Mk L E (.build t parts.toArray) ty (.agg cs.toArray) := fun a w ha _ => by
  obtain ⟨fields, hU, hM⟩ := hp
  have h1 := ha.evalp hv
  subst h1
  have := Ph pl (fun i => pl.toArray[i]?) (fun i q hq => by simpa using hq) (parts.map fun p => (p.1, a.eval p.2)) (Cp z) cs (by rw [List.map_map]; exact hf)
  have hM' := hM w
  simp only [Em, execOp, Instr.build, Sem.run_bind, hz, hU, Result.andThen_ok]
  rw [hM']
  have e : (Array.map (fun x => match x with | (i, x) => (i, a.eval x)) parts.toArray).toList = parts.map fun p => (p.1, a.eval p.2) := by simp
  simp only [Result.andThen_ok, Ft, e, this, Sem.run_pure]

theorem AC3 {f : Operand} {l : List Operand} {tys : Array TypeId} {k : FuncId} {fs cs vs : List Value} (hc : ∀ args w, (callFunc k args).run P w = .ok (.enter k args) w)
    (hf : ev E f = some (.func (.func k) fs.toArray cs.toArray) := by rfl) (ha : B4 E l = some vs := by rfl) :
    Lz P N D b0 Mk L E (.call { callee := .value f, args := l.toArray, argTypes := tys }) ty k (fs ++ vs ++ cs) := fun a w hh _ => by
  have := hh.evals ha
  simp only [Em, execOp, resolve, hh.eval hf, Deferred.ofValue]
  simp only [Sem.run_bind, Sem.run_pure, Result.andThen_ok, invoke, hc]
  simp [this]

theorem AC4 {fn : Fn} {fs cs : List Operand} {us vs : List Value} (h1 : B4 E fs = some us := by rfl) (h2 : B4 E cs = some vs := by rfl) :
    Cm P N D b0 Mk L E (.makeFunc fn fs.toArray cs.toArray) ty (.func fn us.toArray vs.toArray) := fun a w ha _ => by
  have e1 := ha.evals h1
  have e2 := ha.evals h2
  simp [Em, execOp, Instr.makeFunc, e1, e2]

theorem Iv {x : Operand} {l : List Value} {i : Nat} {v : Value} (hx : ev E x = some (.tuple l.toArray) := by rfl) (hv : uB l i = some v := by rfl) : Cm P N D b0 Mk L E (.extract x i) ty v := fun a w ha _ => by
  rw [Nr] at hv
  simp [Em, execOp, ha.eval hx, Instr.extract, hv]

inductive Lg (r : Nat) (o o' : Obj) : Am → Am → Prop
  | head {L : Am} : Lg r o o' ((r, o) :: L) ((r, o') :: L)
  | tail {p : Nat × Obj} {L L' : Am} (h : Lg r o o' L L') : Lg r o o' (p :: L) (p :: L')
  | app {B L L' : Am} (h : Lg r o o' L L') : Lg r o o' (B ++ L) (B ++ L')

theorem Lg.keys {r : Nat} {o o' : Obj} {L L' : Am} (h : Lg r o o' L L') : L'.map Prod.fst = L.map Prod.fst := by
  induction h with
  | head => rfl
  | tail _ ih => simp [ih]
  | app _ ih => simp [ih]

theorem Lg.mem {r : Nat} {o o' : Obj} {L L' : Am} (h : Lg r o o' L L') : (r, o) ∈ L := by
  induction h with
  | head => exact List.mem_cons_self
  | tail _ ih => exact List.mem_cons_of_mem _ ih
  | app _ ih => exact List.mem_append_right _ ih

theorem Lg.or {r : Nat} {o o' : Obj} {L L' : Am} (h : Lg r o o' L L') (hn : (L.map Prod.fst).Nodup) : ∀ p ∈ L', p = (r, o') ∨ (p ∈ L ∧ p.1 ≠ r) := by
  induction h with
  | head =>
    intro p hp
    simp only [List.map_cons, List.nodup_cons] at hn
    rcases List.mem_cons.1 hp with hp | hp
    · exact .inl hp
    · exact .inr ⟨List.mem_cons_of_mem _ hp, fun e => hn.1 (e ▸ List.mem_map_of_mem hp)⟩
  | tail h ih =>
    intro p hp
    simp only [List.map_cons, List.nodup_cons] at hn
    rcases List.mem_cons.1 hp with hp | hp
    · subst hp
      refine .inr ⟨List.mem_cons_self, fun e => hn.1 ?_⟩
      rw [e]
      exact List.mem_map_of_mem (f := Prod.fst) h.mem
    · exact (ih hn.2 p hp).imp id fun ⟨a, b⟩ => ⟨List.mem_cons_of_mem _ a, b⟩
  | app h ih =>
    intro p hp
    rw [List.map_append, List.nodup_append] at hn
    rcases List.mem_append.1 hp with hp | hp
    · refine .inr ⟨List.mem_append_left _ hp, fun e => ?_⟩
      exact hn.2.2 p.1 (List.mem_map_of_mem hp) r (List.mem_map_of_mem (f := Prod.fst) h.mem) e
    · exact (ih hn.2.1 p hp).imp id fun ⟨a, b⟩ => ⟨List.mem_append_right _ a, b⟩

theorem SH.repl {w w' : World} {r : Nat} {o o' : Obj} {L' : Am} (h : SH b0 Mk L w) (hr : Lg r o o' L L') (h1 : w'.heap[r]? = some o') (h2 : ∀ k, k ≠ r → w'.heap[k]? = w.heap[k]?) (h3 : w'.heap.size = w.heap.size)
    (h4 : w'.os = w.os) (h5 : w'.tape = w.tape) (h6 : w'.output = w.output) : SH b0 Mk L' w' := by
  have hkey := h.key _ hr.mem
  refine ⟨h4.trans h.os, h5.trans h.tape, h6.trans h.output, by rw [h3]; exact h.size, fun k hk hM => ?_, fun p hp => ?_, fun p hp => ?_, by rw [hr.keys]; exact h.nd⟩
  · rw [h2 k (fun e => ?_)]
    · exact h.same k hk hM
    · subst e
      rcases hkey with hk' | hk'
      · exact hM hk'
      · simp only at hk'; omega
  · rcases hr.or h.nd p hp with rfl | ⟨hp, hne⟩
    · exact h1
    · rw [h2 _ hne]; exact h.own p hp
  · rcases hr.or h.nd p hp with rfl | ⟨hp, _⟩
    · exact hkey
    · exact h.key p hp

def Ku : List Value → Bool
  | [] => true
  | v :: r => v.oneCell' && Ku r

theorem dO : ∀ (l : List Value) (k : Nat) (u : Value) (us : List Value), k + 1 + us.length ≤ l.length → Fb (l.set k u) (k + 1) us = Fb l k (u :: us)
  | [], _, _, _, h => by simp at h
  | c :: r, 0, u, us, _ => by simp only [List.set_cons_zero]; cases us <;> simp [Fb]
  | c :: r, k + 1, u, us, h => by
    simp only [List.set_cons_succ]
    rw [show Fb (c :: r) (k + 1) (u :: us) = c :: Fb r k (u :: us) by simp [Fb], ← dO r k u us (by simp at h ⊢; omega)]
    cases us <;> simp [Fb]

def fP (f : Nat × Nat) (n : Nat) : Prop := f.2 = 0 ∨ n ≤ f.1
theorem fP.zero {n : Nat} : fP (0, 0) n := .inl rfl
theorem fP.not {w : World} {r k n : Nat} {cs : Array Value} {T : TypeId} {f : Nat × Nat} (hf : fP f n) (h : w.heap[r]? = some (.cells cs T f)) (hk : k < n) : w.frozen? ⟨r, k, none⟩ = false := by
  obtain ⟨lo, hi⟩ := f
  simp only [World.frozen?, h, Bool.and_eq_false_iff, decide_eq_false_iff_not]
  rcases hf with hf | hf
  · right; simp only at hf; omega
  · left; simp only at hf; omega
theorem Kv {r k : Nat} {T : TypeId} {f : Nat × Nat} : ∀ (vs : List Value) (l : List Value) (i : Nat) (w : World), w.heap[r]? = some (.cells l.toArray T f) → fP f l.length → Ku vs = true → k + i + vs.length ≤ l.length →
    ∃ w', (storeCells ⟨r, k, none⟩ vs i).run P w = .ok () w' ∧ w'.heap[r]? = some (.cells (Fb l (k + i) vs).toArray T f) ∧ (∀ j, j ≠ r → w'.heap[j]? = w.heap[j]?) ∧ w'.heap.size = w.heap.size ∧ w'.os = w.os ∧ w'.tape = w.tape ∧ w'.output = w.output
  | [], l, i, w, h, _, _, _ => ⟨w, by simp [storeCells], by cases l <;> simpa [Fb] using h, fun _ _ => rfl, rfl, rfl, rfl, rfl⟩
  | v :: vs, l, i, w, h, hfr, ho, hl => by
    simp only [Ku, Bool.and_eq_true] at ho
    have hlt : k + i < l.length := by simp at hl; omega
    have hc : w.cell? ⟨r, k + i, none⟩ = some l[k + i] := by simp [World.cell?, h, hlt]
    have hf : w.frozen? ⟨r, k + i, none⟩ = false := hfr.not h hlt
    have hs : (store ((Addr.mk r k none).add i) v).run P w = .ok () (w.setCell ⟨r, k + i, none⟩ v) := by
      rw [Ao, run_store P w _ v .plain ho.1, hc]; simp [hf]
    have hh : (w.setCell ⟨r, k + i, none⟩ v).heap[r]? = some (.cells (l.set (k + i) v).toArray T f) := by
      simp [World.setCell, Array.getElem?_modify, h]
    obtain ⟨w', h1, h2, h3, h4, h5, h6, h7⟩ := Kv (r := r) (k := k) (T := T) (f := f) vs (l.set (k + i) v) (i + 1) _ hh (by simpa using hfr) ho.2 (by simp at hl ⊢; omega)
    refine ⟨w', ?_, ?_, fun j hj => ?_, by rw [h4]; simp, h5, h6, h7⟩
    · simp only [storeCells, Sem.run_bind, hs, Result.andThen_ok, h1]
    · rw [h2, show k + (i + 1) = (k + i) + 1 by omega, dO l (k + i) v vs (by simp at hl; omega)]
    · rw [h3 j hj]; exact Below.heap_setCell w _ v j hj

theorem Ma {r k : Nat} {T : TypeId} (vs : List Value) (l : List Value) (i : Nat) (w : World) (h : w.heap[r]? = some (.cells l.toArray T (0, 0))) (ho : Ku vs = true) (hk : k + i + vs.length ≤ l.length) :
    ∃ w', (storeCells ⟨r, k, none⟩ vs i).run P w = .ok () w' ∧ w'.heap[r]? = some (.cells (Fb l (k + i) vs).toArray T (0, 0)) ∧ (∀ j, j ≠ r → w'.heap[j]? = w.heap[j]?) ∧ w'.heap.size = w.heap.size ∧ w'.os = w.os ∧ w'.tape = w.tape ∧ w'.output = w.output :=
  Kv vs l i w h .zero ho hk
theorem Bc {t : TypeId} {x y : Operand} {v : Value} {r k n : Nat} {l l' : List Value} {T : TypeId} {L' : Am} (hS : ∀ w, (sizeOf t).run P w = .ok n w) (hx : ev E x = some (.pointer (some ⟨r, k, none⟩)) := by rfl) (hy : ev E y = some v := by rfl)
    (hR : Lg r (.cells l.toArray T) (.cells l'.toArray T) L L' := by repeat (first | exact Lg.head | apply Lg.tail | apply Lg.app)) (hl : Fb l k (Cp v) = l' := by rfl) (hn : Nat.beq (Cp v).length n = true := by rfl) (ho : Ku (Cp v) = true := by rfl)
    (hk : Nat.ble (k + (Cp v).length) l.length = true := by rfl) :
    mW P N D b0 Mk L E (.store t x y) ty L' .skip := fun a w ha hw => by
  have hw0 := hw.own _ hR.mem
  simp only at hw0
  subst hl
  obtain ⟨w', h1, h2, h3, h4, h5, h6, h7⟩ := Ma (P := P) (r := r) (k := k) (T := T) (Cp v) l 0 w hw0 ho (by simpa using hk)
  refine ⟨w', ?_, hw.repl hR h2 h3 h4 h5 h6 h7⟩
  have hn' : (Cp v).length = n := by simpa using hn
  simp [Em, execOp, ha.eval hx, ha.eval hy, Instr.storeAt, Instr.sureAddr, storeVar, Ft, hS, hn', h1]
end ops

def Ld : Nat → List Value → Eg
  | _, [] => []
  | i, v :: r => (i, v) :: Ld (i + 1) r

theorem aO : ∀ (l : List Value) (i t : Nat) (v : Value), look (Ld i l) t = some v → ∃ j, t = i + j ∧ l[j]? = some v
  | [], _, _, _, h => by cases h
  | u :: r, i, t, v, h => by
    simp only [Ld, look] at h
    split at h
    · rename_i hb
      have := Nat.eq_of_beq_eq_true hb
      exact ⟨0, by omega, by simpa using h⟩
    · obtain ⟨j, h1, h2⟩ := aO r (i + 1) t v h
      exact ⟨j + 1, by omega, by simpa using h2⟩

theorem Kh {N : Nat} (args : List Value) (h : Nat.ble args.length N = true) : Dk N [] (Ld 0 args) { tmps := args.toArray ++ Array.replicate (N - args.toArray.size) undef, defers := [] } := by
  have h' : args.length ≤ N := by simpa using h
  refine ⟨by simp; omega, rfl, fun t v hv => ?_⟩
  obtain ⟨j, h1, h2⟩ := aO args 0 t v hv
  have hj := (List.getElem?_eq_some_iff.1 h2).1
  have : t = j := by omega
  subst this
  simp only [Array.getD_eq_getD_getElem?]
  rw [Array.getElem?_append_left (by simpa using hj)]
  simp [h2]

section fns
variable {P : Program} {f : FuncId} {fn : Func} {c : Code} {args : List Value} {N : Nat} {w : World} {R : Ending → World → Prop}

theorem enter (hf : P.funcs[f]? = some fn) (hN : fn.ntmps = N) (hb : fn.body = some c := by rfl) (ha : Nat.ble args.length N = true := by rfl)
    (h : J P none w [] N [] [] (Ld 0 args) c (bodyPost P fn R)) : Calls P f args.toArray w R := by
  subst hN
  exact callsIn_wide.1 (callsIn_of_wp (F := FW none) (n := 0) hf hb trivial (h _ w (Kh args ha) (SH.begin w)))

theorem AC5 (Mk : List Nat) (L : Am) (hL : ∀ p ∈ L, w.heap[p.1]? = some p.2) (hk : ∀ p ∈ L, p.1 ∈ Mk) (oS : (L.map Prod.fst).Nodup) (hf : P.funcs[f]? = some fn) (hN : fn.ntmps = N) (hb : fn.body = some c := by rfl) (ha : Nat.ble args.length N = true := by rfl)
    (h : J P none w Mk N [] L (Ld 0 args) c (bodyPost P fn R)) : Calls P f args.toArray w R := by
  subst hN
  exact callsIn_wide.1 (callsIn_of_wp (F := FW none) (n := 0) hf hb trivial (h _ w (Kh args ha) ⟨rfl, rfl, rfl, Nat.le_refl _, fun _ _ _ => rfl, hL, fun p hp => .inl (hk p hp), oS⟩))

/-- The results, off the slots and the blocks. -/
inductive Bk (P : Program) (L : Am) (E : Eg) : List ResultVar → List Value → Prop
  | nil : Bk P L E [] []
  | tmp {t : Tmp} {v : Value} {r : List ResultVar} {vs : List Value} (hv : look E t = some v) (h : Bk P L E r vs) : Bk P L E (.tmp t :: r) (v :: vs)
  | word {a : Tmp} {t : TypeId} {b : Nat} {l : List Value} {T : TypeId} {g : Nat × Nat} {v : Value} {r : List ResultVar} {vs : List Value} (hA : ∀ w, (isAgg t).run P w = .ok false w) (ha : look E a = some (.pointer (some ⟨b, 0, none⟩)))
      (hm : (b, Obj.cells l.toArray T g) ∈ L) (hv : uB l 0 = some v) (h : Bk P L E r vs) : Bk P L E (.cell a t :: r) (v :: vs)
  | agg {a : Tmp} {t : TypeId} {b n : Nat} {l : List Value} {T : TypeId} {g : Nat × Nat} {cs : List Value} {r : List ResultVar} {vs : List Value} (hA : ∀ w, (isAgg t).run P w = .ok true w) (hS : ∀ w, (sizeOf t).run P w = .ok n w)
      (ha : look E a = some (.pointer (some ⟨b, 0, none⟩))) (hm : (b, Obj.cells l.toArray T g) ∈ L) (hv : oV l 0 n = some cs) (h : Bk P L E r vs) : Bk P L E (.cell a t :: r) (.agg cs.toArray :: vs)

def Qf : List Value → Value
  | [v] => v
  | vs => .tuple vs.toArray

def Qz (a : Act) : ResultVar → Sem Value
  | .tmp t => pure (a.tmps.getD t undef)
  | .cell x t => do loadVar t (← asAddr (a.tmps.getD x undef))

theorem Bk.run {b0 : World} {Mk : List Nat} {D : List Deferred} {L : Am} {E : Eg} {rs : List ResultVar} {vs : List Value} (h : Bk P L E rs vs) {a : Act} {w : World} (ha : Dk N D E a) (hw : SH b0 Mk L w) :
    (rs.mapM (Qz a)).run P w = .ok vs w := by
  induction h with
  | nil => simp
  | @tmp t v r vs hv _ ih =>
    have h1 : (Qz a (.tmp t)).run P w = .ok v w := by simp only [Qz, ha.val _ _ hv, Sem.run_pure]
    rw [List.mapM_cons]
    simp only [Sem.run_bind, h1, Result.andThen_ok, ih, Sem.run_pure]
  | @word x t b l T g v r vs hA hx hm hv _ ih =>
    have hc := hw.cell hm (by rw [← Nr]; exact hv)
    have h1 : (Qz a (.cell x t)).run P w = .ok v w := by
      simp only [Qz, Sem.run_bind, ha.val _ _ hx, asAddr, Sem.run_pure, Result.andThen_ok, loadVar, hA, Bool.false_eq_true, if_false, run_load, hc]
    rw [List.mapM_cons]
    simp only [Sem.run_bind, h1, Result.andThen_ok, ih, Sem.run_pure]
  | @agg x t b n l T g cs r vs hA hS hx hm hv _ ih =>
    obtain ⟨h1, h2⟩ := Qy l n 0 cs hv
    have hl : (loadCells ⟨b, 0, none⟩ n).run P w = .ok cs.toArray w := by
      rw [← h1]
      exact run_loadCells_list w ⟨b, 0, none⟩ cs fun j v hj => by
        rw [Ao]
        exact hw.cell hm (h2 j v hj)
    have h1 : (Qz a (.cell x t)).run P w = .ok (.agg cs.toArray) w := by
      simp only [Qz, Sem.run_bind, ha.val _ _ hx, asAddr, Sem.run_pure, Result.andThen_ok, loadVar, hA, if_true, hS, hl]
    rw [List.mapM_cons]
    simp only [Sem.run_bind, h1, Result.andThen_ok, ih, Sem.run_pure]

theorem Hf {b0 : World} {Mk : List Nat} {D : List Deferred} {L : Am} {E : Eg} {rs : List ResultVar} {vs : List Value} (hr : fn.results = rs.toArray) (h : Bk P L E rs vs) {a : Act} {w : World} (ha : Dk N D E a) (hw : SH b0 Mk L w) :
    (results fn a.tmps).run P w = .ok (Qf vs) w := by
  have h1 := h.run ha hw
  have e : results fn a.tmps = (do let vs ← Array.mapM (Qz a) fn.results; pure (if h : vs.size = 1 then vs[0] else .tuple vs)) := by
    unfold results
    congr 1
  rw [e, hr]
  simp only [List.mapM_toArray, Sem.run_bind, Sem.run_map, h1, Result.andThen_ok, Sem.run_pure]
  congr 1
  cases vs with
  | nil => rfl
  | cons v r => cases r <;> rfl

theorem Ac {b0 : World} {Mk : List Nat} {L : Am} {E : Eg} {rs : List ResultVar} {vs : List Value} (hr : fn.results = rs.toArray) (h : Bk P L E rs vs) (hR : ∀ w, SH b0 Mk L w → R (.returned (Qf vs)) w) :
    JX b0 Mk N [] L E (bodyPost P fn R) .ret := fun _ w ha hw => ⟨ha.defs, _, Hf hr h ha hw, hR w hw⟩
theorem wE {b0 : World} {Mk : List Nat} {L : Am} {E : Eg} {rs : List ResultVar} {vs : List Value} (hr : fn.results = rs.toArray) (h : Bk P L E rs vs) (hR : ∀ w, SH b0 Mk L w → R (.returned (Qf vs)) w) :
    JX b0 Mk N [] L E (bodyPost P fn R) .normal := fun _ w ha hw => ⟨ha.defs, _, Hf hr h ha hw, hR w hw⟩

theorem Dz.sub {w w' : World} {B B' : Am} (h : Dz w w' B) (hs : List.Sublist B' B) : Dz w w' B' :=
  ⟨h.ext, fun p hp => h.own p (hs.subset hp), fun p hp => h.new p (hs.subset hp), (hs.map _).nodup h.nd⟩
end fns
end Go.Proofs.YtdnjanhdnibkfaaGreatDoor.Jd

namespace Go.Proofs.YtdnjanhdnibkfaaGreatDoor.Jd
open Go.RowKit (Below)
set_option linter.unusedVariables false
set_option linter.unusedSimpArgs false

def AO1 (P : Program) (rd : Option Nat) (ops : Array Oper) (g n : Nat) (T : Act → World → Prop) (listed : Array Bool) (a : Act) (w : World) : Prop := Region.seqB .any ops g n listed = true ∧ T a w

def Xg (l : List Oper) (n : Nat) : Bool :=
  Nat.ble n l.length && l.all Ei && (Nat.beq n l.length || (Region.sinkB .any l.toArray n && Region.chainB .any l.toArray n))

def JG (P : Program) (rd : Option Nat) (b0 : World) (Mk : List Nat) (N : Nat) (D : List Deferred) (l : List Oper) (n f : Nat) (listed : Array Bool) (L V : Am) (E : Eg) (T : Act → World → Prop) : Prop :=
  Xg l n = true → HeadInv .any l.toArray n listed → ∀ a w, Dk N D E a → SH b0 Mk (V ++ L) w → wpG P rd l.toArray n (AO1 P rd l.toArray (l.length - n) n T) f (SH b0 Mk L) listed a w

def JO (P : Program) (rd : Option Nat) (b0 : World) (Mk : List Nat) (N : Nat) (D : List Deferred) (l : List Oper) (n f : Nat) (listed : Array Bool) (L V : Am) (E : Eg) (T : Act → World → Prop) (i : Nat) : Prop :=
  Xg l n = true → HeadInv .any l.toArray n (listed.setIfInBounds i true) → ∀ a w, Dk N D E a → SH b0 Mk (V ++ L) w →
    wpO P rd l.toArray i (fun a' w' => ∃ S' : World → Prop, (∀ x, S' x → SH b0 Mk L x) ∧ S' w' ∧ wpG P rd l.toArray n (AO1 P rd l.toArray (l.length - n) n T) f S' (listed.setIfInBounds i true) a' w') a w

def T4 (l : List Oper) (n : Nat) (listed : Array Bool) (i : Nat) : Bool := Nat.blt i n && (Region.ready .any l.toArray listed).contains i && Region.free .any l.toArray listed i

section
variable {P : Program} {rd : Option Nat} {b0 : World} {Mk : List Nat} {N : Nat} {D : List Deferred} {l : List Oper} {n f : Nat} {listed : Array Bool} {L V : Am} {E : Eg} {T : Act → World → Prop}
variable {op : Op} {ty : TypeId} {pos : String} {after : Array Edge} {v : Value} {d : Nat}

theorem wF (h : Xg l n = true) : ∀ (j : Nat) (o : Oper), l.toArray[j]? = some o → Ei o = true := fun j o ho => by
  simp only [Xg, Bool.and_eq_true] at h
  have : o ∈ l := by simpa using Array.mem_of_getElem? ho
  exact List.all_eq_true.1 h.1.2 o this

theorem mX (h : Xg l n = true) : ∀ listed, HeadInv .any l.toArray n listed → ∀ i, i < n → listed.getD i true = false → ∀ j ∈ Region.ready .any l.toArray listed, j < n := by
  simp only [Xg, Bool.and_eq_true, Nat.ble_eq] at h
  obtain ⟨⟨hn, _⟩, htl⟩ := h
  intro listed inv i hin hun j hj
  rw [Bool.or_eq_true] at htl
  rcases htl with htl | htl
  · have : n = l.length := by simpa using htl
    obtain ⟨_, oj, hoj, _⟩ := mem_ready.1 hj
    have := (Array.getElem?_eq_some_iff.1 hoj).1
    simp at this
    omega
  · simp only [Bool.and_eq_true] at htl
    rcases Nat.lt_or_ge j n with h' | h'
    · exact h'
    · rcases Nat.lt_or_ge n l.length with h2 | h2
      · exact absurd hj (tail_waits htl.1 htl.2 (by simpa using h2) inv _ i rfl hin hun j h')
      · obtain ⟨_, oj, hoj, _⟩ := mem_ready.1 hj
        have := (Array.getElem?_eq_some_iff.1 hoj).1
        simp at this
        omega

theorem Ui {id : Nat} {Q : Exit → Act → World → Prop} (hm : P.follows .mixedOrders = true) (n : Nat) (hg : Xg l n = true)
    (h : JG P rd b0 Mk N D l n n (Array.replicate l.length false) L V E (fun a w => Mn P rd l.toArray (Q .normal) (l.drop n) a w)) : J P rd b0 Mk N D (V ++ L) E (Code.region id l.toArray true) Q := by
  intro a w ha hw
  have inv0 : HeadInv .any l.toArray n (Array.replicate l.length false) :=
    ⟨by simp, fun j oj _ hl => (by rw [getD_replicate_false] at hl; cases hl), fun t _ ht => getD_in (by simpa using ht) (getD_replicate_false _ _)⟩
  have H := h hg inv0 a _ ha (hw.drawn (w.drawn + 1))
  have hn : n ≤ l.length := by simp only [Xg, Bool.and_eq_true, Nat.ble_eq] at hg; exact hg.1.1
  refine fN (wpIn_region_any hm ?_)
  have := Lx (Q := nQ (Q .normal)) (g := l.length - n) (fun listed a' w' hF => by
    have h1 := Ly (P := P) (rd := rd) (ops := l.toArray) (l.drop n) n listed a' w' (fun j => by simp [List.getElem?_drop]) (by rw [List.length_drop]; exact hF.1) hF.2
    rwa [List.length_drop] at h1) _ _ _ _ _ H
  rw [show n + (l.length - n) = l.length by omega] at this
  simpa using this

theorem Ci (i : Nat) (hi : l[i]? = some { dst := some d, op := op, type := ty, pos := pos, after := after, guard := none }) (ht : T4 l n listed i = true) (h : Cm P N D b0 Mk L E op ty v) (hd : Nat.blt d N = true := by rfl)
    (k : JG P rd b0 Mk N D l n f (listed.setIfInBounds i true) L V ((d, v) :: E) T) : JG P rd b0 Mk N D l n (f + 1) listed L V E T := by
  intro hg inv a w ha hw
  simp only [T4, Bool.and_eq_true, Nat.blt_eq] at ht
  obtain ⟨⟨hin, hr⟩, hf⟩ := ht
  have hi' : l.toArray[i]? = some { dst := some d, op := op, type := ty, pos := pos, after := after, guard := none } := by simpa using hi
  have hr' : i ∈ Region.ready .any l.toArray listed := by simpa using hr
  refine dJ hi' (wF hg) (mX hg) hin (fun listed' a' w' hF => seqB_ready hF.1) f _ listed a w inv (Region.free_spec hi' hf) hr' (v := v) (.inl ⟨by rfl, fun w' hw' => by rw [Cj]; exact h a w' ha hw'⟩) hw.right ?_
  exact k hg (inv.set hr' hin) _ _ (ha.put hd v) hw

theorem Bn (rs : List Nat) (hr : Region.ready .any l.toArray listed = rs) (hb : (!rs.isEmpty && rs.all fun i => Nat.blt i n) = true) (h : ∀ i ∈ rs, JO P rd b0 Mk N D l n f listed L V E T i) : JG P rd b0 Mk N D l n (f + 1) listed L V E T := by
  intro hg inv a w ha hw
  simp only [Bool.and_eq_true, List.all_eq_true, Nat.blt_eq, Bool.not_eq_true'] at hb
  refine ⟨by rw [hr]; intro e; simp [e] at hb, fun i hi => ?_⟩
  have hin := hb.2 i (hr ▸ hi)
  exact ⟨hin, h i (hr ▸ hi) hg (inv.set hi hin) a w ha hw⟩

theorem AC6 (hs : Region.seqB .any l.toArray (l.length - n) n listed = true) (tl : List Oper) (h : JL P rd b0 Mk N D l.toArray (V ++ L) E tl T) :
    JG P rd b0 Mk N D l n 0 listed L V E (fun a w => Mn P rd l.toArray T tl a w) := fun _ _ a w ha hw => ⟨hs, h a w ha hw⟩

theorem cY {o : Obj} {v : Nat → Value} {i : Nat} (hi : l[i]? = some { dst := some d, op := op, type := ty, pos := pos, after := after, guard := none }) (hM : ∀ k ∈ Mk, k < b0.heap.size) (h : aH P N D b0 Mk L E op ty o v) (hn : Be op = true := by rfl) (hd : Nat.blt d N = true := by rfl)
    (k : ∀ r, b0.heap.size ≤ r → JG P rd b0 Mk N D l n f (listed.setIfInBounds i true) ((r, o) :: L) V ((d, v r) :: E) T) : JO P rd b0 Mk N D l n f listed L V E T i := by
  intro hg inv a w ha hw
  have hi' : l.toArray[i]? = some { dst := some d, op := op, type := ty, pos := pos, after := after, guard := none } := by simpa using hi
  unfold wpO
  simp only [hi']
  rw [if_pos (by rfl)]
  exact Df (Bf hn) z79
    ⟨SH b0 Mk ((w.heap.size, o) :: L), fun x hx => hx.sub (List.sublist_cons_self _ _), (hw.alloc_mid o hM).right, k _ hw.size hg inv _ _ (ha.put hd _) (hw.alloc_mid o hM)⟩

theorem AU4 {i : Nat} {fn : FuncId} {args : List Value} {X : Type} {v : X → Value} {B : X → Am} (hi : l[i]? = some { dst := some d, op := op, type := ty, pos := pos, after := after, guard := none }) (hc : Lz P N D b0 Mk L E op ty fn args)
    (h : ∀ w, SH b0 Mk L w → Ret P fn args w X v B) (hn : Be op = true := by rfl) (hd : Nat.blt d N = true := by rfl)
    (k : ∀ x, JG P rd b0 Mk N D l n f (listed.setIfInBounds i true) (B x ++ L) V ((d, v x) :: E) T) : JO P rd b0 Mk N D l n f listed L V E T i := by
  intro hg inv a w ha hw
  have hi' : l.toArray[i]? = some { dst := some d, op := op, type := ty, pos := pos, after := after, guard := none } := by simpa using hi
  unfold wpO
  simp only [hi']
  rw [if_pos (by rfl)]
  refine Ea (Bf hn) U9 (((h w hw.right).shV hw).mono fun e w' he => ?_)
  obtain ⟨x, rfl, h2⟩ := he
  exact ⟨_, rfl, SH b0 Mk (B x ++ L), fun y hy => hy.right, h2.right, k x hg inv _ _ (ha.put hd _) h2⟩

theorem wG {i : Nat} {fn : FuncId} {args : List Value} (hi : l[i]? = some { dst := some d, op := op, type := ty, pos := pos, after := after, guard := none }) (hc : Lz P N D b0 Mk L E op ty fn args)
    (h : ∀ w, SH b0 Mk L w → Gz P fn args w v) (hn : Be op = true := by rfl) (hd : Nat.blt d N = true := by rfl)
    (k : JG P rd b0 Mk N D l n f (listed.setIfInBounds i true) L V ((d, v) :: E) T) : JO P rd b0 Mk N D l n f listed L V E T i :=
  AU4 (X := Unit) (v := fun _ => v) (B := fun _ => []) hi hc (fun w hw => (h w hw).mono fun _ _ ⟨he, hf⟩ => ⟨(), he, Dz.of_ext hf⟩) hn hd fun _ => k

def AU5 (P : Program) (N : Nat) (D : List Deferred) (b0 : World) (Mk : List Nat) (L : Am) (E : Eg) (op : Op) (ty : TypeId) (X : Type) (v : X → Value) (B : X → Am) : Prop :=
  ∀ a w, Dk N D E a → SH b0 Mk L w → ∃ x w', (execOp a.eval (Em op ty)).run P w = .ok (.value (v x)) w' ∧ Dz w w' (B x)

theorem AU6 {i : Nat} {X : Type} {v : X → Value} {B : X → Am} (hi : l[i]? = some { dst := some d, op := op, type := ty, pos := pos, after := after, guard := none }) (h : AU5 P N D b0 Mk L E op ty X v B) (hn : Be op = true := by rfl) (hd : Nat.blt d N = true := by rfl)
    (k : ∀ x, JG P rd b0 Mk N D l n f (listed.setIfInBounds i true) (B x ++ L) V ((d, v x) :: E) T) : JO P rd b0 Mk N D l n f listed L V E T i := by
  intro hg inv a w ha hw
  have hi' : l.toArray[i]? = some { dst := some d, op := op, type := ty, pos := pos, after := after, guard := none } := by simpa using hi
  unfold wpO
  simp only [hi']
  rw [if_pos (by rfl)]
  obtain ⟨x, w', h1, h2⟩ := h a w ha hw.right
  have h3 : SH b0 Mk (V ++ (B x ++ L)) w' := (hw.fresh h2).perm z83
  exact Df (Bf hn) uD ⟨SH b0 Mk (B x ++ L), fun y hy => hy.right, h3.right, k x hg inv _ _ (ha.put hd _) h3⟩

end

section loops
variable {P : Program} {rd : Option Nat} {b0 : World} {Mk : List Nat} {N : Nat} {D : List Deferred} {L : Am} {E : Eg} {Q : Exit → Act → World → Prop} {c : Code}

def wH {σ1 σ2 : Type} (b0 : World) (Mk : List Nat) (N : Nat) (D : List Deferred) (Ls : σ1 → σ2 → Am) (Es : σ1 → σ2 → Eg) (I : σ1 → σ2 → Prop) (m : σ1 → σ2 → Nat) (n : Nat) : Act → World → Prop :=
  Uf b0 Mk N D (fun s : σ1 × σ2 => Ls s.1 s.2) (fun s => Es s.1 s.2) (fun s => I s.1 s.2) (fun s => m s.1 s.2) n
theorem Ka {σ1 σ2 : Type} (Ls : σ1 → σ2 → Am) (Es : σ1 → σ2 → Eg) (I : σ1 → σ2 → Prop) (m : σ1 → σ2 → Nat) (x1 : σ1) (x2 : σ2) (hI : I x1 x2) (hE : Iq E (Es x1 x2)) (hL : List.Perm L (Ls x1 x2))
    (h : ∀ s1 s2, I s1 s2 → J P rd b0 Mk N D (Ls s1 s2) (Es s1 s2) c (Jo (wH b0 Mk N D Ls Es I m (m s1 s2)) Q)) : J P rd b0 Mk N D L E (Code.loop c) Q :=
  Tk (σ := σ1 × σ2) (fun s => Ls s.1 s.2) (fun s => Es s.1 s.2) (fun s => I s.1 s.2) (fun s => m s.1 s.2) (x1, x2) hI hE hL (fun s hI => h s.1 s.2 hI)
theorem Hw {σ1 σ2 : Type} {Ls : σ1 → σ2 → Am} {Es : σ1 → σ2 → Eg} {I : σ1 → σ2 → Prop} {m : σ1 → σ2 → Nat} {n : Nat} (s1 : σ1) (s2 : σ2) (hI : I s1 s2) (hm : m s1 s2 < n) (hE : Iq E (Es s1 s2)) (hL : List.Perm L (Ls s1 s2)) :
    JX b0 Mk N D L E (Jo (wH b0 Mk N D Ls Es I m n) Q) .normal := Tl (Ls := fun s : σ1 × σ2 => Ls s.1 s.2) (Es := fun s => Es s.1 s.2) (I := fun s => I s.1 s.2) (m := fun s => m s.1 s.2) (s1, s2) hI hm hE hL

def wI {σ1 σ2 σ3 : Type} (b0 : World) (Mk : List Nat) (N : Nat) (D : List Deferred) (Ls : σ1 → σ2 → σ3 → Am) (Es : σ1 → σ2 → σ3 → Eg) (I : σ1 → σ2 → σ3 → Prop) (m : σ1 → σ2 → σ3 → Nat) (n : Nat) : Act → World → Prop :=
  Uf b0 Mk N D (fun s : σ1 × σ2 × σ3 => Ls s.1 s.2.1 s.2.2) (fun s => Es s.1 s.2.1 s.2.2) (fun s => I s.1 s.2.1 s.2.2) (fun s => m s.1 s.2.1 s.2.2) n
theorem Kb {σ1 σ2 σ3 : Type} (Ls : σ1 → σ2 → σ3 → Am) (Es : σ1 → σ2 → σ3 → Eg) (I : σ1 → σ2 → σ3 → Prop) (m : σ1 → σ2 → σ3 → Nat) (x1 : σ1) (x2 : σ2) (x3 : σ3) (hI : I x1 x2 x3) (hE : Iq E (Es x1 x2 x3)) (hL : List.Perm L (Ls x1 x2 x3))
    (h : ∀ s1 s2 s3, I s1 s2 s3 → J P rd b0 Mk N D (Ls s1 s2 s3) (Es s1 s2 s3) c (Jo (wI b0 Mk N D Ls Es I m (m s1 s2 s3)) Q)) : J P rd b0 Mk N D L E (Code.loop c) Q :=
  Tk (σ := σ1 × σ2 × σ3) (fun s => Ls s.1 s.2.1 s.2.2) (fun s => Es s.1 s.2.1 s.2.2) (fun s => I s.1 s.2.1 s.2.2) (fun s => m s.1 s.2.1 s.2.2) (x1, x2, x3) hI hE hL (fun s hI => h s.1 s.2.1 s.2.2 hI)
theorem Gt {σ1 σ2 σ3 : Type} {Ls : σ1 → σ2 → σ3 → Am} {Es : σ1 → σ2 → σ3 → Eg} {I : σ1 → σ2 → σ3 → Prop} {m : σ1 → σ2 → σ3 → Nat} {n : Nat} (s1 : σ1) (s2 : σ2) (s3 : σ3) (hI : I s1 s2 s3) (hm : m s1 s2 s3 < n) (hE : Iq E (Es s1 s2 s3)) (hL : List.Perm L (Ls s1 s2 s3)) :
    JX b0 Mk N D L E (Jo (wI b0 Mk N D Ls Es I m n) Q) .normal := Tl (Ls := fun s : σ1 × σ2 × σ3 => Ls s.1 s.2.1 s.2.2) (Es := fun s => Es s.1 s.2.1 s.2.2) (I := fun s => I s.1 s.2.1 s.2.2) (m := fun s => m s.1 s.2.1 s.2.2) (s1, s2, s3) hI hm hE hL
def wJ {σ1 σ2 σ3 σ4 σ5 : Type} (b0 : World) (Mk : List Nat) (N : Nat) (D : List Deferred) (Ls : σ1 → σ2 → σ3 → σ4 → σ5 → Am) (Es : σ1 → σ2 → σ3 → σ4 → σ5 → Eg) (I : σ1 → σ2 → σ3 → σ4 → σ5 → Prop) (m : σ1 → σ2 → σ3 → σ4 → σ5 → Nat) (n : Nat) : Act → World → Prop :=
  Uf b0 Mk N D (fun s : σ1 × σ2 × σ3 × σ4 × σ5 => Ls s.1 s.2.1 s.2.2.1 s.2.2.2.1 s.2.2.2.2) (fun s => Es s.1 s.2.1 s.2.2.1 s.2.2.2.1 s.2.2.2.2) (fun s => I s.1 s.2.1 s.2.2.1 s.2.2.2.1 s.2.2.2.2) (fun s => m s.1 s.2.1 s.2.2.1 s.2.2.2.1 s.2.2.2.2) n
theorem Uj {σ1 σ2 σ3 σ4 σ5 : Type} (Ls : σ1 → σ2 → σ3 → σ4 → σ5 → Am) (Es : σ1 → σ2 → σ3 → σ4 → σ5 → Eg) (I : σ1 → σ2 → σ3 → σ4 → σ5 → Prop) (m : σ1 → σ2 → σ3 → σ4 → σ5 → Nat) (x1 : σ1) (x2 : σ2) (x3 : σ3) (x4 : σ4) (x5 : σ5) (hI : I x1 x2 x3 x4 x5) (hE : Iq E (Es x1 x2 x3 x4 x5)) (hL : List.Perm L (Ls x1 x2 x3 x4 x5))
    (h : ∀ s1 s2 s3 s4 s5, I s1 s2 s3 s4 s5 → J P rd b0 Mk N D (Ls s1 s2 s3 s4 s5) (Es s1 s2 s3 s4 s5) c (Jo (wJ b0 Mk N D Ls Es I m (m s1 s2 s3 s4 s5)) Q)) : J P rd b0 Mk N D L E (Code.loop c) Q :=
  Tk (σ := σ1 × σ2 × σ3 × σ4 × σ5) (fun s : σ1 × σ2 × σ3 × σ4 × σ5 => Ls s.1 s.2.1 s.2.2.1 s.2.2.2.1 s.2.2.2.2) (fun s => Es s.1 s.2.1 s.2.2.1 s.2.2.2.1 s.2.2.2.2) (fun s => I s.1 s.2.1 s.2.2.1 s.2.2.2.1 s.2.2.2.2) (fun s => m s.1 s.2.1 s.2.2.1 s.2.2.2.1 s.2.2.2.2) (x1, x2, x3, x4, x5) hI hE hL (fun s hI => h s.1 s.2.1 s.2.2.1 s.2.2.2.1 s.2.2.2.2 hI)
theorem Uk {σ1 σ2 σ3 σ4 σ5 : Type} {Ls : σ1 → σ2 → σ3 → σ4 → σ5 → Am} {Es : σ1 → σ2 → σ3 → σ4 → σ5 → Eg} {I : σ1 → σ2 → σ3 → σ4 → σ5 → Prop} {m : σ1 → σ2 → σ3 → σ4 → σ5 → Nat} {n : Nat} (s1 : σ1) (s2 : σ2) (s3 : σ3) (s4 : σ4) (s5 : σ5) (hI : I s1 s2 s3 s4 s5) (hm : m s1 s2 s3 s4 s5 < n) (hE : Iq E (Es s1 s2 s3 s4 s5)) (hL : List.Perm L (Ls s1 s2 s3 s4 s5)) :
    JX b0 Mk N D L E (Jo (wJ b0 Mk N D Ls Es I m n) Q) .normal := Tl (Ls := fun s : σ1 × σ2 × σ3 × σ4 × σ5 => Ls s.1 s.2.1 s.2.2.1 s.2.2.2.1 s.2.2.2.2) (Es := fun s => Es s.1 s.2.1 s.2.2.1 s.2.2.2.1 s.2.2.2.2) (I := fun s => I s.1 s.2.1 s.2.2.1 s.2.2.2.1 s.2.2.2.2) (m := fun s => m s.1 s.2.1 s.2.2.1 s.2.2.2.1 s.2.2.2.2) (s1, s2, s3, s4, s5) hI hm hE hL
def wK {σ1 σ2 σ3 σ4 σ5 σ6 : Type} (b0 : World) (Mk : List Nat) (N : Nat) (D : List Deferred) (Ls : σ1 → σ2 → σ3 → σ4 → σ5 → σ6 → Am) (Es : σ1 → σ2 → σ3 → σ4 → σ5 → σ6 → Eg) (I : σ1 → σ2 → σ3 → σ4 → σ5 → σ6 → Prop) (m : σ1 → σ2 → σ3 → σ4 → σ5 → σ6 → Nat) (n : Nat) : Act → World → Prop :=
  Uf b0 Mk N D (fun s : σ1 × σ2 × σ3 × σ4 × σ5 × σ6 => Ls s.1 s.2.1 s.2.2.1 s.2.2.2.1 s.2.2.2.2.1 s.2.2.2.2.2) (fun s => Es s.1 s.2.1 s.2.2.1 s.2.2.2.1 s.2.2.2.2.1 s.2.2.2.2.2) (fun s => I s.1 s.2.1 s.2.2.1 s.2.2.2.1 s.2.2.2.2.1 s.2.2.2.2.2) (fun s => m s.1 s.2.1 s.2.2.1 s.2.2.2.1 s.2.2.2.2.1 s.2.2.2.2.2) n
theorem Na {σ1 σ2 σ3 σ4 σ5 σ6 : Type} (Ls : σ1 → σ2 → σ3 → σ4 → σ5 → σ6 → Am) (Es : σ1 → σ2 → σ3 → σ4 → σ5 → σ6 → Eg) (I : σ1 → σ2 → σ3 → σ4 → σ5 → σ6 → Prop) (m : σ1 → σ2 → σ3 → σ4 → σ5 → σ6 → Nat) (x1 : σ1) (x2 : σ2) (x3 : σ3) (x4 : σ4) (x5 : σ5) (x6 : σ6) (hI : I x1 x2 x3 x4 x5 x6) (hE : Iq E (Es x1 x2 x3 x4 x5 x6)) (hL : List.Perm L (Ls x1 x2 x3 x4 x5 x6))
    (h : ∀ s1 s2 s3 s4 s5 s6, I s1 s2 s3 s4 s5 s6 → J P rd b0 Mk N D (Ls s1 s2 s3 s4 s5 s6) (Es s1 s2 s3 s4 s5 s6) c (Jo (wK b0 Mk N D Ls Es I m (m s1 s2 s3 s4 s5 s6)) Q)) : J P rd b0 Mk N D L E (Code.loop c) Q :=
  Tk (σ := σ1 × σ2 × σ3 × σ4 × σ5 × σ6) (fun s : σ1 × σ2 × σ3 × σ4 × σ5 × σ6 => Ls s.1 s.2.1 s.2.2.1 s.2.2.2.1 s.2.2.2.2.1 s.2.2.2.2.2) (fun s => Es s.1 s.2.1 s.2.2.1 s.2.2.2.1 s.2.2.2.2.1 s.2.2.2.2.2) (fun s => I s.1 s.2.1 s.2.2.1 s.2.2.2.1 s.2.2.2.2.1 s.2.2.2.2.2) (fun s => m s.1 s.2.1 s.2.2.1 s.2.2.2.1 s.2.2.2.2.1 s.2.2.2.2.2) (x1, x2, x3, x4, x5, x6) hI hE hL (fun s hI => h s.1 s.2.1 s.2.2.1 s.2.2.2.1 s.2.2.2.2.1 s.2.2.2.2.2 hI)
theorem Hx {σ1 σ2 σ3 σ4 σ5 σ6 : Type} {Ls : σ1 → σ2 → σ3 → σ4 → σ5 → σ6 → Am} {Es : σ1 → σ2 → σ3 → σ4 → σ5 → σ6 → Eg} {I : σ1 → σ2 → σ3 → σ4 → σ5 → σ6 → Prop} {m : σ1 → σ2 → σ3 → σ4 → σ5 → σ6 → Nat} {n : Nat} (s1 : σ1) (s2 : σ2) (s3 : σ3) (s4 : σ4) (s5 : σ5) (s6 : σ6) (hI : I s1 s2 s3 s4 s5 s6) (hm : m s1 s2 s3 s4 s5 s6 < n) (hE : Iq E (Es s1 s2 s3 s4 s5 s6)) (hL : List.Perm L (Ls s1 s2 s3 s4 s5 s6)) :
    JX b0 Mk N D L E (Jo (wK b0 Mk N D Ls Es I m n) Q) .normal := Tl (Ls := fun s : σ1 × σ2 × σ3 × σ4 × σ5 × σ6 => Ls s.1 s.2.1 s.2.2.1 s.2.2.2.1 s.2.2.2.2.1 s.2.2.2.2.2) (Es := fun s => Es s.1 s.2.1 s.2.2.1 s.2.2.2.1 s.2.2.2.2.1 s.2.2.2.2.2) (I := fun s => I s.1 s.2.1 s.2.2.1 s.2.2.2.1 s.2.2.2.2.1 s.2.2.2.2.2) (m := fun s => m s.1 s.2.1 s.2.2.1 s.2.2.2.1 s.2.2.2.2.1 s.2.2.2.2.2) (s1, s2, s3, s4, s5, s6) hI hm hE hL
def wL {σ1 σ2 σ3 σ4 σ5 σ6 σ7 : Type} (b0 : World) (Mk : List Nat) (N : Nat) (D : List Deferred) (Ls : σ1 → σ2 → σ3 → σ4 → σ5 → σ6 → σ7 → Am) (Es : σ1 → σ2 → σ3 → σ4 → σ5 → σ6 → σ7 → Eg) (I : σ1 → σ2 → σ3 → σ4 → σ5 → σ6 → σ7 → Prop) (m : σ1 → σ2 → σ3 → σ4 → σ5 → σ6 → σ7 → Nat) (n : Nat) : Act → World → Prop :=
  Uf b0 Mk N D (fun s : σ1 × σ2 × σ3 × σ4 × σ5 × σ6 × σ7 => Ls s.1 s.2.1 s.2.2.1 s.2.2.2.1 s.2.2.2.2.1 s.2.2.2.2.2.1 s.2.2.2.2.2.2) (fun s => Es s.1 s.2.1 s.2.2.1 s.2.2.2.1 s.2.2.2.2.1 s.2.2.2.2.2.1 s.2.2.2.2.2.2) (fun s => I s.1 s.2.1 s.2.2.1 s.2.2.2.1 s.2.2.2.2.1 s.2.2.2.2.2.1 s.2.2.2.2.2.2) (fun s => m s.1 s.2.1 s.2.2.1 s.2.2.2.1 s.2.2.2.2.1 s.2.2.2.2.2.1 s.2.2.2.2.2.2) n
theorem L1 {σ1 σ2 σ3 σ4 σ5 σ6 σ7 : Type} (Ls : σ1 → σ2 → σ3 → σ4 → σ5 → σ6 → σ7 → Am) (Es : σ1 → σ2 → σ3 → σ4 → σ5 → σ6 → σ7 → Eg) (I : σ1 → σ2 → σ3 → σ4 → σ5 → σ6 → σ7 → Prop) (m : σ1 → σ2 → σ3 → σ4 → σ5 → σ6 → σ7 → Nat) (x1 : σ1) (x2 : σ2) (x3 : σ3) (x4 : σ4) (x5 : σ5) (x6 : σ6) (x7 : σ7) (hI : I x1 x2 x3 x4 x5 x6 x7) (hE : Iq E (Es x1 x2 x3 x4 x5 x6 x7)) (hL : List.Perm L (Ls x1 x2 x3 x4 x5 x6 x7))
    (h : ∀ s1 s2 s3 s4 s5 s6 s7, I s1 s2 s3 s4 s5 s6 s7 → J P rd b0 Mk N D (Ls s1 s2 s3 s4 s5 s6 s7) (Es s1 s2 s3 s4 s5 s6 s7) c (Jo (wL b0 Mk N D Ls Es I m (m s1 s2 s3 s4 s5 s6 s7)) Q)) : J P rd b0 Mk N D L E (Code.loop c) Q :=
  Tk (σ := σ1 × σ2 × σ3 × σ4 × σ5 × σ6 × σ7) (fun s : σ1 × σ2 × σ3 × σ4 × σ5 × σ6 × σ7 => Ls s.1 s.2.1 s.2.2.1 s.2.2.2.1 s.2.2.2.2.1 s.2.2.2.2.2.1 s.2.2.2.2.2.2) (fun s => Es s.1 s.2.1 s.2.2.1 s.2.2.2.1 s.2.2.2.2.1 s.2.2.2.2.2.1 s.2.2.2.2.2.2) (fun s => I s.1 s.2.1 s.2.2.1 s.2.2.2.1 s.2.2.2.2.1 s.2.2.2.2.2.1 s.2.2.2.2.2.2) (fun s => m s.1 s.2.1 s.2.2.1 s.2.2.2.1 s.2.2.2.2.1 s.2.2.2.2.2.1 s.2.2.2.2.2.2) (x1, x2, x3, x4, x5, x6, x7) hI hE hL (fun s hI => h s.1 s.2.1 s.2.2.1 s.2.2.2.1 s.2.2.2.2.1 s.2.2.2.2.2.1 s.2.2.2.2.2.2 hI)
theorem oW {σ1 σ2 σ3 σ4 σ5 σ6 σ7 : Type} {Ls : σ1 → σ2 → σ3 → σ4 → σ5 → σ6 → σ7 → Am} {Es : σ1 → σ2 → σ3 → σ4 → σ5 → σ6 → σ7 → Eg} {I : σ1 → σ2 → σ3 → σ4 → σ5 → σ6 → σ7 → Prop} {m : σ1 → σ2 → σ3 → σ4 → σ5 → σ6 → σ7 → Nat} {n : Nat} (s1 : σ1) (s2 : σ2) (s3 : σ3) (s4 : σ4) (s5 : σ5) (s6 : σ6) (s7 : σ7) (hI : I s1 s2 s3 s4 s5 s6 s7) (hm : m s1 s2 s3 s4 s5 s6 s7 < n) (hE : Iq E (Es s1 s2 s3 s4 s5 s6 s7)) (hL : List.Perm L (Ls s1 s2 s3 s4 s5 s6 s7)) :
    JX b0 Mk N D L E (Jo (wL b0 Mk N D Ls Es I m n) Q) .normal := Tl (Ls := fun s : σ1 × σ2 × σ3 × σ4 × σ5 × σ6 × σ7 => Ls s.1 s.2.1 s.2.2.1 s.2.2.2.1 s.2.2.2.2.1 s.2.2.2.2.2.1 s.2.2.2.2.2.2) (Es := fun s => Es s.1 s.2.1 s.2.2.1 s.2.2.2.1 s.2.2.2.2.1 s.2.2.2.2.2.1 s.2.2.2.2.2.2) (I := fun s => I s.1 s.2.1 s.2.2.1 s.2.2.2.1 s.2.2.2.2.1 s.2.2.2.2.2.1 s.2.2.2.2.2.2) (m := fun s => m s.1 s.2.1 s.2.2.1 s.2.2.2.1 s.2.2.2.2.1 s.2.2.2.2.2.1 s.2.2.2.2.2.2) (s1, s2, s3, s4, s5, s6, s7) hI hm hE hL
def wM {σ1 σ2 σ3 σ4 σ5 σ6 σ7 σ8 : Type} (b0 : World) (Mk : List Nat) (N : Nat) (D : List Deferred) (Ls : σ1 → σ2 → σ3 → σ4 → σ5 → σ6 → σ7 → σ8 → Am) (Es : σ1 → σ2 → σ3 → σ4 → σ5 → σ6 → σ7 → σ8 → Eg) (I : σ1 → σ2 → σ3 → σ4 → σ5 → σ6 → σ7 → σ8 → Prop) (m : σ1 → σ2 → σ3 → σ4 → σ5 → σ6 → σ7 → σ8 → Nat) (n : Nat) : Act → World → Prop :=
  Uf b0 Mk N D (fun s : σ1 × σ2 × σ3 × σ4 × σ5 × σ6 × σ7 × σ8 => Ls s.1 s.2.1 s.2.2.1 s.2.2.2.1 s.2.2.2.2.1 s.2.2.2.2.2.1 s.2.2.2.2.2.2.1 s.2.2.2.2.2.2.2) (fun s => Es s.1 s.2.1 s.2.2.1 s.2.2.2.1 s.2.2.2.2.1 s.2.2.2.2.2.1 s.2.2.2.2.2.2.1 s.2.2.2.2.2.2.2) (fun s => I s.1 s.2.1 s.2.2.1 s.2.2.2.1 s.2.2.2.2.1 s.2.2.2.2.2.1 s.2.2.2.2.2.2.1 s.2.2.2.2.2.2.2) (fun s => m s.1 s.2.1 s.2.2.1 s.2.2.2.1 s.2.2.2.2.1 s.2.2.2.2.2.1 s.2.2.2.2.2.2.1 s.2.2.2.2.2.2.2) n
theorem L3 {σ1 σ2 σ3 σ4 σ5 σ6 σ7 σ8 : Type} (Ls : σ1 → σ2 → σ3 → σ4 → σ5 → σ6 → σ7 → σ8 → Am) (Es : σ1 → σ2 → σ3 → σ4 → σ5 → σ6 → σ7 → σ8 → Eg) (I : σ1 → σ2 → σ3 → σ4 → σ5 → σ6 → σ7 → σ8 → Prop) (m : σ1 → σ2 → σ3 → σ4 → σ5 → σ6 → σ7 → σ8 → Nat) (x1 : σ1) (x2 : σ2) (x3 : σ3) (x4 : σ4) (x5 : σ5) (x6 : σ6) (x7 : σ7) (x8 : σ8) (hI : I x1 x2 x3 x4 x5 x6 x7 x8) (hE : Iq E (Es x1 x2 x3 x4 x5 x6 x7 x8)) (hL : List.Perm L (Ls x1 x2 x3 x4 x5 x6 x7 x8))
    (h : ∀ s1 s2 s3 s4 s5 s6 s7 s8, I s1 s2 s3 s4 s5 s6 s7 s8 → J P rd b0 Mk N D (Ls s1 s2 s3 s4 s5 s6 s7 s8) (Es s1 s2 s3 s4 s5 s6 s7 s8) c (Jo (wM b0 Mk N D Ls Es I m (m s1 s2 s3 s4 s5 s6 s7 s8)) Q)) : J P rd b0 Mk N D L E (Code.loop c) Q :=
  Tk (σ := σ1 × σ2 × σ3 × σ4 × σ5 × σ6 × σ7 × σ8) (fun s : σ1 × σ2 × σ3 × σ4 × σ5 × σ6 × σ7 × σ8 => Ls s.1 s.2.1 s.2.2.1 s.2.2.2.1 s.2.2.2.2.1 s.2.2.2.2.2.1 s.2.2.2.2.2.2.1 s.2.2.2.2.2.2.2) (fun s => Es s.1 s.2.1 s.2.2.1 s.2.2.2.1 s.2.2.2.2.1 s.2.2.2.2.2.1 s.2.2.2.2.2.2.1 s.2.2.2.2.2.2.2) (fun s => I s.1 s.2.1 s.2.2.1 s.2.2.2.1 s.2.2.2.2.1 s.2.2.2.2.2.1 s.2.2.2.2.2.2.1 s.2.2.2.2.2.2.2) (fun s => m s.1 s.2.1 s.2.2.1 s.2.2.2.1 s.2.2.2.2.1 s.2.2.2.2.2.1 s.2.2.2.2.2.2.1 s.2.2.2.2.2.2.2) (x1, x2, x3, x4, x5, x6, x7, x8) hI hE hL (fun s hI => h s.1 s.2.1 s.2.2.1 s.2.2.2.1 s.2.2.2.2.1 s.2.2.2.2.2.1 s.2.2.2.2.2.2.1 s.2.2.2.2.2.2.2 hI)
theorem L4 {σ1 σ2 σ3 σ4 σ5 σ6 σ7 σ8 : Type} {Ls : σ1 → σ2 → σ3 → σ4 → σ5 → σ6 → σ7 → σ8 → Am} {Es : σ1 → σ2 → σ3 → σ4 → σ5 → σ6 → σ7 → σ8 → Eg} {I : σ1 → σ2 → σ3 → σ4 → σ5 → σ6 → σ7 → σ8 → Prop} {m : σ1 → σ2 → σ3 → σ4 → σ5 → σ6 → σ7 → σ8 → Nat} {n : Nat} (s1 : σ1) (s2 : σ2) (s3 : σ3) (s4 : σ4) (s5 : σ5) (s6 : σ6) (s7 : σ7) (s8 : σ8) (hI : I s1 s2 s3 s4 s5 s6 s7 s8) (hm : m s1 s2 s3 s4 s5 s6 s7 s8 < n) (hE : Iq E (Es s1 s2 s3 s4 s5 s6 s7 s8)) (hL : List.Perm L (Ls s1 s2 s3 s4 s5 s6 s7 s8)) :
    JX b0 Mk N D L E (Jo (wM b0 Mk N D Ls Es I m n) Q) .normal := Tl (Ls := fun s : σ1 × σ2 × σ3 × σ4 × σ5 × σ6 × σ7 × σ8 => Ls s.1 s.2.1 s.2.2.1 s.2.2.2.1 s.2.2.2.2.1 s.2.2.2.2.2.1 s.2.2.2.2.2.2.1 s.2.2.2.2.2.2.2) (Es := fun s => Es s.1 s.2.1 s.2.2.1 s.2.2.2.1 s.2.2.2.2.1 s.2.2.2.2.2.1 s.2.2.2.2.2.2.1 s.2.2.2.2.2.2.2) (I := fun s => I s.1 s.2.1 s.2.2.1 s.2.2.2.1 s.2.2.2.2.1 s.2.2.2.2.2.1 s.2.2.2.2.2.2.1 s.2.2.2.2.2.2.2) (m := fun s => m s.1 s.2.1 s.2.2.1 s.2.2.2.1 s.2.2.2.2.1 s.2.2.2.2.2.1 s.2.2.2.2.2.2.1 s.2.2.2.2.2.2.2) (s1, s2, s3, s4, s5, s6, s7, s8) hI hm hE hL
def oX {σ1 σ2 σ3 σ4 σ5 σ6 σ7 σ8 σ9 σ10 : Type} (b0 : World) (Mk : List Nat) (N : Nat) (D : List Deferred) (Ls : σ1 → σ2 → σ3 → σ4 → σ5 → σ6 → σ7 → σ8 → σ9 → σ10 → Am) (Es : σ1 → σ2 → σ3 → σ4 → σ5 → σ6 → σ7 → σ8 → σ9 → σ10 → Eg) (I : σ1 → σ2 → σ3 → σ4 → σ5 → σ6 → σ7 → σ8 → σ9 → σ10 → Prop) (m : σ1 → σ2 → σ3 → σ4 → σ5 → σ6 → σ7 → σ8 → σ9 → σ10 → Nat) (n : Nat) : Act → World → Prop :=
  Uf b0 Mk N D (fun s : σ1 × σ2 × σ3 × σ4 × σ5 × σ6 × σ7 × σ8 × σ9 × σ10 => Ls s.1 s.2.1 s.2.2.1 s.2.2.2.1 s.2.2.2.2.1 s.2.2.2.2.2.1 s.2.2.2.2.2.2.1 s.2.2.2.2.2.2.2.1 s.2.2.2.2.2.2.2.2.1 s.2.2.2.2.2.2.2.2.2) (fun s => Es s.1 s.2.1 s.2.2.1 s.2.2.2.1 s.2.2.2.2.1 s.2.2.2.2.2.1 s.2.2.2.2.2.2.1 s.2.2.2.2.2.2.2.1 s.2.2.2.2.2.2.2.2.1 s.2.2.2.2.2.2.2.2.2) (fun s => I s.1 s.2.1 s.2.2.1 s.2.2.2.1 s.2.2.2.2.1 s.2.2.2.2.2.1 s.2.2.2.2.2.2.1 s.2.2.2.2.2.2.2.1 s.2.2.2.2.2.2.2.2.1 s.2.2.2.2.2.2.2.2.2) (fun s => m s.1 s.2.1 s.2.2.1 s.2.2.2.1 s.2.2.2.2.1 s.2.2.2.2.2.1 s.2.2.2.2.2.2.1 s.2.2.2.2.2.2.2.1 s.2.2.2.2.2.2.2.2.1 s.2.2.2.2.2.2.2.2.2) n
theorem jO {σ1 σ2 σ3 σ4 σ5 σ6 σ7 σ8 σ9 σ10 : Type} (Ls : σ1 → σ2 → σ3 → σ4 → σ5 → σ6 → σ7 → σ8 → σ9 → σ10 → Am) (Es : σ1 → σ2 → σ3 → σ4 → σ5 → σ6 → σ7 → σ8 → σ9 → σ10 → Eg) (I : σ1 → σ2 → σ3 → σ4 → σ5 → σ6 → σ7 → σ8 → σ9 → σ10 → Prop) (m : σ1 → σ2 → σ3 → σ4 → σ5 → σ6 → σ7 → σ8 → σ9 → σ10 → Nat) (x1 : σ1) (x2 : σ2) (x3 : σ3) (x4 : σ4) (x5 : σ5) (x6 : σ6) (x7 : σ7) (x8 : σ8) (x9 : σ9) (x10 : σ10) (hI : I x1 x2 x3 x4 x5 x6 x7 x8 x9 x10) (hE : Iq E (Es x1 x2 x3 x4 x5 x6 x7 x8 x9 x10)) (hL : List.Perm L (Ls x1 x2 x3 x4 x5 x6 x7 x8 x9 x10))
    (h : ∀ s1 s2 s3 s4 s5 s6 s7 s8 s9 s10, I s1 s2 s3 s4 s5 s6 s7 s8 s9 s10 → J P rd b0 Mk N D (Ls s1 s2 s3 s4 s5 s6 s7 s8 s9 s10) (Es s1 s2 s3 s4 s5 s6 s7 s8 s9 s10) c (Jo (oX b0 Mk N D Ls Es I m (m s1 s2 s3 s4 s5 s6 s7 s8 s9 s10)) Q)) : J P rd b0 Mk N D L E (Code.loop c) Q :=
  Tk (σ := σ1 × σ2 × σ3 × σ4 × σ5 × σ6 × σ7 × σ8 × σ9 × σ10) (fun s : σ1 × σ2 × σ3 × σ4 × σ5 × σ6 × σ7 × σ8 × σ9 × σ10 => Ls s.1 s.2.1 s.2.2.1 s.2.2.2.1 s.2.2.2.2.1 s.2.2.2.2.2.1 s.2.2.2.2.2.2.1 s.2.2.2.2.2.2.2.1 s.2.2.2.2.2.2.2.2.1 s.2.2.2.2.2.2.2.2.2) (fun s => Es s.1 s.2.1 s.2.2.1 s.2.2.2.1 s.2.2.2.2.1 s.2.2.2.2.2.1 s.2.2.2.2.2.2.1 s.2.2.2.2.2.2.2.1 s.2.2.2.2.2.2.2.2.1 s.2.2.2.2.2.2.2.2.2) (fun s => I s.1 s.2.1 s.2.2.1 s.2.2.2.1 s.2.2.2.2.1 s.2.2.2.2.2.1 s.2.2.2.2.2.2.1 s.2.2.2.2.2.2.2.1 s.2.2.2.2.2.2.2.2.1 s.2.2.2.2.2.2.2.2.2) (fun s => m s.1 s.2.1 s.2.2.1 s.2.2.2.1 s.2.2.2.2.1 s.2.2.2.2.2.1 s.2.2.2.2.2.2.1 s.2.2.2.2.2.2.2.1 s.2.2.2.2.2.2.2.2.1 s.2.2.2.2.2.2.2.2.2) (x1, x2, x3, x4, x5, x6, x7, x8, x9, x10) hI hE hL (fun s hI => h s.1 s.2.1 s.2.2.1 s.2.2.2.1 s.2.2.2.2.1 s.2.2.2.2.2.1 s.2.2.2.2.2.2.1 s.2.2.2.2.2.2.2.1 s.2.2.2.2.2.2.2.2.1 s.2.2.2.2.2.2.2.2.2 hI)
theorem jP {σ1 σ2 σ3 σ4 σ5 σ6 σ7 σ8 σ9 σ10 : Type} {Ls : σ1 → σ2 → σ3 → σ4 → σ5 → σ6 → σ7 → σ8 → σ9 → σ10 → Am} {Es : σ1 → σ2 → σ3 → σ4 → σ5 → σ6 → σ7 → σ8 → σ9 → σ10 → Eg} {I : σ1 → σ2 → σ3 → σ4 → σ5 → σ6 → σ7 → σ8 → σ9 → σ10 → Prop} {m : σ1 → σ2 → σ3 → σ4 → σ5 → σ6 → σ7 → σ8 → σ9 → σ10 → Nat} {n : Nat} (s1 : σ1) (s2 : σ2) (s3 : σ3) (s4 : σ4) (s5 : σ5) (s6 : σ6) (s7 : σ7) (s8 : σ8) (s9 : σ9) (s10 : σ10) (hI : I s1 s2 s3 s4 s5 s6 s7 s8 s9 s10) (hm : m s1 s2 s3 s4 s5 s6 s7 s8 s9 s10 < n) (hE : Iq E (Es s1 s2 s3 s4 s5 s6 s7 s8 s9 s10)) (hL : List.Perm L (Ls s1 s2 s3 s4 s5 s6 s7 s8 s9 s10)) :
    JX b0 Mk N D L E (Jo (oX b0 Mk N D Ls Es I m n) Q) .normal := Tl (Ls := fun s : σ1 × σ2 × σ3 × σ4 × σ5 × σ6 × σ7 × σ8 × σ9 × σ10 => Ls s.1 s.2.1 s.2.2.1 s.2.2.2.1 s.2.2.2.2.1 s.2.2.2.2.2.1 s.2.2.2.2.2.2.1 s.2.2.2.2.2.2.2.1 s.2.2.2.2.2.2.2.2.1 s.2.2.2.2.2.2.2.2.2) (Es := fun s => Es s.1 s.2.1 s.2.2.1 s.2.2.2.1 s.2.2.2.2.1 s.2.2.2.2.2.1 s.2.2.2.2.2.2.1 s.2.2.2.2.2.2.2.1 s.2.2.2.2.2.2.2.2.1 s.2.2.2.2.2.2.2.2.2) (I := fun s => I s.1 s.2.1 s.2.2.1 s.2.2.2.1 s.2.2.2.2.1 s.2.2.2.2.2.1 s.2.2.2.2.2.2.1 s.2.2.2.2.2.2.2.1 s.2.2.2.2.2.2.2.2.1 s.2.2.2.2.2.2.2.2.2) (m := fun s => m s.1 s.2.1 s.2.2.1 s.2.2.2.1 s.2.2.2.2.1 s.2.2.2.2.2.1 s.2.2.2.2.2.2.1 s.2.2.2.2.2.2.2.1 s.2.2.2.2.2.2.2.2.1 s.2.2.2.2.2.2.2.2.2) (s1, s2, s3, s4, s5, s6, s7, s8, s9, s10) hI hm hE hL
end loops

theorem Ae {n : Nat} : ∀ k ∈ ([] : List Nat), k < n := fun _ h => by cases h

theorem gD {α : Type} [Inhabited α] {xs : List α} {m : Nat} (h : m < xs.length) : xs[m]? = some (xs.getD m default) := by
  simp [List.getD, List.getElem?_eq_getElem h]

section ops
variable {P : Program} {b0 : World} {Mk : List Nat} {N : Nat} {D : List Deferred} {L V : Am} {E : Eg} {ty : TypeId}

theorem Dd {t e k len : Nat} {z : Value} {parts : List (Nat × Operand)} {ps : List (Nat × List Value)} {l zs : List Value} (hU : ∀ w, (underlying t).run P w = .ok (.slice e) w) (hS : ∀ w, (sizeOf e).run P w = .ok k w) (hz : ∀ w, (zeroValue e).run P w = .ok z w)
    (hv : evp E parts = some ps := by rfl) (hb : Nat.ble (len * k) 16777216 = true := by rfl) (hzs : ((List.range (len * k)).map fun i => (Cp z).getD (i % (Cp z).length) undef) = zs := by rfl) (hzl : Nat.blt 0 (Cp z).length = true := by rfl)
    (hf : aM ((List.range len).map fun i => (i * k, k)) zs ps = some l := by rfl) :
    aH P N D b0 Mk L E (.buildSlice t len parts.toArray) ty (.cells l.toArray e) (fun r => .slice (some ⟨r, 0, none⟩) len len) := fun a w ha _ => by
  have h1 := ha.evalp hv
  subst h1
  have hb' : ¬ (len * k > 2 ^ 24) := by
    have h2 : len * k ≤ 16777216 := by simpa using hb
    omega
  have hzl' : 0 < (Cp z).length := by simpa using hzl
  have hz0 : ∃ z0 : Array Value, (if len * k = 0 then (pure #[] : Sem (Array Value)) else do pure (← zeroValue e).cells).run P w = .ok z0 w ∧ (Array.range (len * k)).map (fun i => z0[i % z0.size]!) = zs.toArray := by
    by_cases h0 : len * k = 0
    · refine ⟨#[], by simp [h0], ?_⟩
      subst hzs
      simp [h0]
    · refine ⟨(Cp z).toArray, by simp [h0, hz, Ft], ?_⟩
      subst hzs
      apply Array.ext'
      simp only [Array.toList_map, Array.toList_range]
      apply List.map_congr_left
      intro i _
      have hm : i % (Cp z).length < (Cp z).length := Nat.mod_lt _ hzl'
      simp [List.getD, hm]
  obtain ⟨z0, hz1, hz2⟩ := hz0
  have hfl := Ph ((List.range len).map fun i => (i * k, k)) (fun i => some (i * k, k)) (fun i q hq => by
    simp only [List.getElem?_map] at hq
    cases hr : (List.range len)[i]? with
    | none => simp [hr] at hq
    | some j =>
      have : j = i := by
        have := List.getElem?_eq_some_iff.1 hr
        obtain ⟨h1, h2⟩ := this
        simpa using h2.symm
      subst this
      simp [hr] at hq
      simp [hq]) (parts.map fun p => (p.1, a.eval p.2)) zs l (by rw [List.map_map]; exact hf)
  by_cases h0 : len * k = 0
  · have hz3 : z0 = #[] := by simp [h0] at hz1; exact hz1
    subst hz3
    simp only [Em, execOp, Instr.buildSlice, Sem.run_bind, hU, hS, Result.andThen_ok, hb', if_false, Sem.run_pure, if_pos h0]
    have e2 : (Array.map (fun (x : Nat × Operand) => (x.1, a.eval x.2)) parts.toArray).toList = parts.map fun p => (p.1, a.eval p.2) := by simp
    simp only [hz2, e2, hfl]
    simp [newRow]
  · have hz3 : z.cells = z0 := by simp [h0, hz] at hz1; exact hz1
    simp only [Em, execOp, Instr.buildSlice, Sem.run_bind, hU, hS, Result.andThen_ok, hb', if_false, Sem.run_pure, if_neg h0, hz, hz3]
    have e2 : (Array.map (fun (x : Nat × Operand) => (x.1, a.eval x.2)) parts.toArray).toList = parts.map fun p => (p.1, a.eval p.2) := by simp
    simp only [hz2, e2, hfl]
    simp [newRow]
end ops
end Go.Proofs.YtdnjanhdnibkfaaGreatDoor.Jd

namespace Go.Proofs.YtdnjanhdnibkfaaGreatDoor.Jd
open Go.RowKit (Below)
set_option linter.unusedVariables false
set_option linter.unusedSimpArgs false

def keys (H : Am) : List Nat := H.map Prod.fst

/-- From w to w': of what was there only the blocks of H have changed (into those of H'); there may be new ones. -/
structure Tr (w w' : World) (H H' : Am) : Prop where
  os : w'.os = w.os
  tape : w'.tape = w.tape
  output : w'.output = w.output
  size : w.heap.size ≤ w'.heap.size
  same : ∀ k, k < w.heap.size → k ∉ keys H → w'.heap[k]? = w.heap[k]?
  own : ∀ p ∈ H', w'.heap[p.1]? = some p.2
  key : ∀ p ∈ H', p.1 ∈ keys H ∨ w.heap.size ≤ p.1
  nd : (keys H').Nodup

theorem Ul {H : Am} {p : Nat × Obj} (h : p ∈ H) : p.1 ∈ keys H := List.mem_map_of_mem h
theorem Ki {H : Am} {k : Nat} (h : k ∈ keys H) : ∃ o, (k, o) ∈ H := by
  obtain ⟨⟨a, b⟩, h1, rfl⟩ := List.mem_map.1 h
  exact ⟨b, h1⟩
theorem Kj (A B : Am) : keys (A ++ B) = keys A ++ keys B := List.map_append

theorem Tr.refl {w : World} {H : Am} (h : ∀ p ∈ H, w.heap[p.1]? = some p.2) (hn : (keys H).Nodup) : Tr w w H H :=
  ⟨rfl, rfl, rfl, Nat.le_refl _, fun _ _ _ => rfl, h, fun p hp => .inl (Ul hp), hn⟩

theorem Tr.trans {w w1 w2 : World} {H H1 H2 : Am} (h : Tr w w1 H H1) (k : Tr w1 w2 H1 H2) : Tr w w2 H H2 := by
  refine ⟨k.os.trans h.os, k.tape.trans h.tape, k.output.trans h.output, Nat.le_trans h.size k.size, fun j hj hn => ?_, k.own, fun p hp => ?_, k.nd⟩
  · rw [k.same j (Nat.lt_of_lt_of_le hj h.size) (fun hm => ?_), h.same j hj hn]
    obtain ⟨o, ho⟩ := Ki hm
    rcases h.key _ ho with h1 | h1
    · exact hn h1
    · simp only at h1; omega
  · rcases k.key p hp with h1 | h1
    · obtain ⟨o, ho⟩ := Ki h1
      have := h.key _ ho
      exact this
    · exact .inr (Nat.le_trans h.size h1)

theorem Tr.frame {w w' : World} {H H' R : Am} (h : Tr w w' H H') (hR : ∀ p ∈ R, w.heap[p.1]? = some p.2) (hn : (keys (H ++ R)).Nodup) : Tr w w' (H ++ R) (H' ++ R) := by
  rw [Kj, List.nodup_append] at hn
  have hlt : ∀ p ∈ R, p.1 < w.heap.size := fun p hp => (Array.getElem?_eq_some_iff.1 (hR p hp)).1
  have hno : ∀ p ∈ R, p.1 ∉ keys H := fun p hp hm => hn.2.2 _ hm _ (Ul hp) rfl
  refine ⟨h.os, h.tape, h.output, h.size, fun k hk hk2 => h.same k hk (fun hm => hk2 (by rw [Kj]; exact List.mem_append_left _ hm)), fun p hp => ?_, fun p hp => ?_, ?_⟩
  · rcases List.mem_append.1 hp with hp | hp
    · exact h.own p hp
    · rw [h.same _ (hlt p hp) (hno p hp)]; exact hR p hp
  · rcases List.mem_append.1 hp with hp | hp
    · exact (h.key p hp).imp (fun hm => by rw [Kj]; exact List.mem_append_left _ hm) id
    · exact .inl (by rw [Kj]; exact List.mem_append_right _ (Ul hp))
  · rw [Kj, List.nodup_append]
    refine ⟨h.nd, hn.2.1, fun a ha b hb e => ?_⟩
    subst e
    obtain ⟨o, ho⟩ := Ki ha
    obtain ⟨o2, ho2⟩ := Ki hb
    rcases h.key _ ho with h1 | h1
    · exact hno _ ho2 h1
    · have := hlt _ ho2; simp only at h1 this; omega

theorem SH.tr {b0 : World} {Mk : List Nat} {H H' L : Am} {w w' : World} (h : SH b0 Mk (H ++ L) w) (ht : Tr w w' H H') : SH b0 Mk (H' ++ L) w' := by
  have hf := ht.frame (R := L) (fun p hp => h.own p (List.mem_append_right _ hp)) h.nd
  refine ⟨ht.os.trans h.os, ht.tape.trans h.tape, ht.output.trans h.output, Nat.le_trans h.size ht.size, fun k hk hM => ?_, hf.own, fun p hp => ?_, hf.nd⟩
  · rw [ht.same k (Nat.lt_of_lt_of_le hk h.size) (fun hm => ?_)]
    · exact h.same k hk hM
    · obtain ⟨o, ho⟩ := Ki hm
      rcases h.key _ (List.mem_append_left _ ho) with h1 | h1
      · exact hM h1
      · simp only at h1; omega
  · rcases hf.key p hp with h1 | h1
    · obtain ⟨o, ho⟩ := Ki h1
      have := h.key _ ho
      exact this
    · exact .inr (Nat.le_trans h.size h1)

theorem SH.tr_out {b0 : World} {H L : Am} {w : World} (h : SH b0 (keys H) L w) : Tr b0 w H L :=
  ⟨h.os, h.tape, h.output, h.size, h.same, h.own, h.key, h.nd⟩

theorem Tr.sub {w w' : World} {H H' H2 : Am} (h : Tr w w' H H') (hs : List.Sublist H2 H') : Tr w w' H H2 :=
  ⟨h.os, h.tape, h.output, h.size, h.same, fun p hp => h.own p (hs.subset hp), fun p hp => h.key p (hs.subset hp), (hs.map _).nodup h.nd⟩
theorem Tr.perm {w w' : World} {H H' H2 : Am} (h : Tr w w' H H') (hs : List.Perm H' H2) : Tr w w' H H2 :=
  ⟨h.os, h.tape, h.output, h.size, h.same, fun p hp => h.own p (hs.mem_iff.2 hp), fun p hp => h.key p (hs.mem_iff.2 hp), (hs.map _).nodup_iff.1 h.nd⟩

theorem Tr.ext {w w' : World} {H : Am} (hH : ∀ p ∈ H, w.heap[p.1]? = some p.2) (h : Tr w w' H H) : aD w w' :=
  ⟨h.os, h.tape, h.output, h.size, fun k hk => by
    by_cases hm : k ∈ keys H
    · obtain ⟨o, ho⟩ := Ki hm
      have h1 := h.own _ ho
      have h2 := hH _ ho
      simp only at h1 h2
      rw [h1, h2]
    · exact h.same k hk hm⟩

section
variable {P : Program} {rd : Option Nat} {b0 : World} {Mk : List Nat} {N : Nat} {D : List Deferred} {ops : Array Oper} {L L' V : Am} {E : Eg} {Q : Exit → Act → World → Prop} {T : Act → World → Prop}
variable {op : Op} {ty : TypeId} {pos : String} {after : Array Edge} {v : Value} {d : Nat}

def T5 (P : Program) (l : Nat) (vs : List Value) (w : World) (R : Ending → World → Prop) : Prop :=
  ∃ fn tmps assign body, (Instr.yield l vs.toArray).run P w = .ok (.round l fn tmps assign body) w ∧ RoundIn (FW none) 0 P l fn tmps assign body w R

theorem mY {l : Nat} {fn : FuncId} {tmps : Array Value} {assign body : Code} {w : World} {R : Ending → World → Prop} (h : RoundIn (FW none) 0 P l fn tmps assign body w R) : RoundIn (FW rd) 0 P l fn tmps assign body w R :=
  ⟨trivial, fun c cs _ => h.2 c cs (K4 _ _)⟩

/-- The loop's record, as it was laid. -/
structure Ra (N : Nat) (E : Eg) (ps : Array Tmp) (assign body : Code) (r : Loop) : Prop where
  ps : r.params = ps
  assign : r.assign = assign
  body : r.body = body
  hold : Dk N [] E { tmps := r.tmps, defers := [] }

def Cb (r : Loop) (st : LoopState) (j : Option Code) : Obj := .loop { r with state := st, pending := j }

def Nb : List Tmp → List Value → Eg → Eg
  | t :: ts, v :: vs, E => Nb ts vs ((t, v) :: E)
  | _, _, E => E

theorem Um : ∀ (ts : List Tmp) (vs : List Value) (E : Eg) (tmps : Array Value), (ts.all fun t => Nat.blt t N) = true → Dk N [] E { tmps := tmps, defers := [] } →
    Dk N [] (Nb ts vs E) { tmps := (ts.zip vs).foldl (fun (tmps : Array Value) (x : Tmp × Value) => tmps.setIfInBounds x.1 x.2) tmps, defers := [] }
  | [], _, _, _, _, h => by simpa [Nb] using h
  | t :: ts, [], _, _, _, h => by simpa [Nb] using h
  | t :: ts, v :: vs, E, tmps, hl, h => by
    simp only [List.all_cons, Bool.and_eq_true] at hl
    exact Um ts vs _ _ hl.2 (h.put hl.1 v)

def aP (P : Program) (l : Nat) (R : Ending → World → Prop) : Exit → Act → World → Prop := roundPost P l R

theorem mZ {w : World} {l : Nat} {r : Loop} {vs : List Value} (h : w.heap[l]? = some (.loop r)) (hs : Nat.beq vs.length r.params.size = true) :
    (Instr.yield l vs.toArray).run P w = .ok (.round l r.fn ((r.params.toList.zip vs).foldl (fun (tmps : Array Value) (x : Tmp × Value) => tmps.setIfInBounds x.1 x.2) r.tmps) r.assign r.body) w := by
  have hs' : vs.length = r.params.size := by simpa using hs
  have e : (r.params.zip vs.toArray) = (r.params.toList.zip vs).toArray := by
    apply Array.ext'; simp
  simp only [Instr.yield, Sem.run_bind, run_getLoop h, Result.andThen_ok]
  rw [if_neg (by simpa using hs')]
  simp [e]

theorem dP {w : World} {l : Nat} {o o' : Obj} {R : Am} (h : w.heap[l]? = some o) (hR : ∀ p ∈ R, w.heap[p.1]? = some p.2) (hn : (keys ((l, o) :: R)).Nodup) : Tr w (w.putObj l o') ((l, o) :: R) ((l, o') :: R) := by
  have hlt := (Array.getElem?_eq_some_iff.1 h).1
  have hn' : (keys ((l, o') :: R)).Nodup := hn
  simp only [keys, List.map_cons, List.nodup_cons] at hn
  refine ⟨rfl, rfl, rfl, by simp [World.putObj], fun k _ hk => World.putObj_heap_other (fun e => hk (by subst e; exact List.mem_cons_self)), fun p hp => ?_, fun p hp => .inl ?_, hn'⟩
  · rcases List.mem_cons.1 hp with rfl | hp
    · exact World.putObj_heap_same hlt
    · rw [World.putObj_heap_other (fun e => hn.1 (by rw [← e]; exact List.mem_map_of_mem hp))]; exact hR p hp
  · rcases List.mem_cons.1 hp with rfl | hp
    · exact List.mem_cons_self
    · exact List.mem_cons_of_mem _ (List.mem_map_of_mem hp)

theorem SH.put {w : World} {l : Nat} {o o' : Obj} (h : SH b0 Mk ((l, o) :: L) w) : SH b0 Mk ((l, o') :: L) (w.putObj l o') := by
  have ht := dP (o' := o') (R := []) (h.own _ List.mem_cons_self) (fun _ h => by cases h) (by simp [keys])
  exact SH.tr (H := [(l, o)]) (H' := [(l, o')]) h ht

theorem wN {l : Nat} {r : Loop} {R : Ending → World → Prop} (hL : List.Perm L ((l, Cb r .busy none) :: L'))
    (h : ∀ w, SH b0 Mk ((l, Cb r .ready none) :: L') w → R (.returned (.bool true)) w) : JX b0 Mk N D L E (aP P l R) .normal := by
  intro a w _ hw
  have hw' := hw.perm hL
  have ho := hw'.own _ List.mem_cons_self
  refine ⟨_, _, run_endRound none ho, h _ ?_⟩
  exact SH.put hw'

theorem fQ {l : Nat} {r : Loop} {R : Ending → World → Prop} (hL : List.Perm L ((l, Cb r .busy none) :: L'))
    (h : ∀ w, SH b0 Mk ((l, Cb r .done (some .ret)) :: L') w → R (.returned (.bool false)) w) : JX b0 Mk N D L E (aP P l R) .ret := by
  intro a w _ hw
  have hw' := hw.perm hL
  have ho := hw'.own _ List.mem_cons_self
  refine ⟨_, _, run_endRound (some .ret) ho, h _ ?_⟩
  exact SH.put hw'

def aQ (P : Program) (l : Nat) (body : Code) (R : Ending → World → Prop) : Exit → Act → World → Prop :=
  Exit.then (fun a₁ w₁ => ∃ w₂, (Instr.beginRound l).run P w₁ = .ok () w₂ ∧ body.wpIn (FW (some l)) 0 P (roundPost P l R) a₁ w₂) (fun _ _ _ => False)

theorem jQ {l : Nat} {r : Loop} {body : Code} {R : Ending → World → Prop} (hL : List.Perm L ((l, Cb r .ready none) :: L'))
    (h : J P (some l) b0 Mk N D ((l, Cb r .busy none) :: L') E body (aP P l R)) : JX b0 Mk N D L E (aQ P l body R) .normal := by
  intro a w ha hw
  have hw' := hw.perm hL
  have ho := hw'.own _ List.mem_cons_self
  exact ⟨_, run_beginRound ho rfl, h a _ ha (SH.put hw')⟩

theorem nB {l : Nat} {r : Loop} {ps : List Tmp} {assign body : Code} {vs : List Value} {w : World} {R : Ending → World → Prop} (hr : Ra N E ps.toArray assign body r) (hw : SH b0 Mk ((l, Cb r .ready none) :: L) w)
    (hs : Nat.beq vs.length ps.length = true) (hps : (ps.all fun t => Nat.blt t N) = true)
    (h : J P (some l) b0 Mk N [] ((l, Cb r .ready none) :: L) (Nb ps vs E) assign (aQ P l body R)) : T5 P l vs w R := by
  have ho := hw.own _ List.mem_cons_self
  refine ⟨_, _, _, _, mZ ho (by simpa [hr.ps] using hs), roundIn_of_wpIn trivial ?_⟩
  show Code.wpIn (FW (some l)) 0 P _ _ _ _
  simp only [hr.assign, hr.body, hr.ps]
  exact h _ w (Um ps vs E _ hps hr.hold) hw

end
end Go.Proofs.YtdnjanhdnibkfaaGreatDoor.Jd

namespace Go.Proofs.YtdnjanhdnibkfaaGreatDoor.Jd
open Go.RowKit (Below)
set_option linter.unusedVariables false
set_option linter.unusedSimpArgs false
section
variable {P : Program} {rd : Option Nat} {b0 : World} {Mk : List Nat} {N : Nat} {D : List Deferred} {ops : Array Oper} {L V : Am} {E : Eg} {T : Act → World → Prop}
variable {op : Op} {ty : TypeId} {pos : String} {after : Array Edge} {v : Value} {d : Nat}

theorem nD {o : Oper} {a : Act} {w : World} {l : Nat} {vs : List Value} {K : Act → World → Prop} {Q : Exit → Act → World → Prop} (hd : Ei o = true) (h : (execOp a.eval o) = Instr.yield l vs.toArray)
    (hK : T5 P l vs w fun e w' => ∃ v, e = .returned v ∧ K (a.put o.dst v) w') : o.wpIn (FW rd) 0 P a w K Q := by
  obtain ⟨fn, tmps, assign, body, h1, h2⟩ := hK
  refine ⟨fun _ _ => trivial, ?_⟩
  rw [Oper.semAt_eq _ _ _ (Hd hd), h, h1]
  refine ⟨fun h => by simp [FW] at h, mY (h2.mono fun e w' he => ?_)⟩
  obtain ⟨v, rfl, hk⟩ := he
  exact hk

def AC7 (N : Nat) (D : List Deferred) (E : Eg) (op : Op) (ty : TypeId) (l : Nat) (vs : List Value) : Prop := ∀ a, Dk N D E a → execOp a.eval (Em op ty) = Instr.yield l vs.toArray

theorem Dh {f : Operand} {args : List Operand} {tys : Array TypeId} {l : Nat} {vs : List Value} (hf : ev E f = some (.func (.yield l) #[] #[]) := by rfl) (ha : B4 E args = some vs := by rfl) :
    AC7 N D E (.call { callee := .value f, args := args.toArray, argTypes := tys }) ty l vs := fun a hh => by
  have := hh.evals ha
  simp only [Em, execOp, resolve, hh.eval hf, Deferred.ofValue]
  show (Instr.yield l (#[] ++ (args.toArray.map a.eval))) = _
  simp [this]

theorem Pi {f : FuncId} {fn : Func} {c : Code} {args : List Value} {w : World} {R : Ending → World → Prop} (hf : P.funcs[f]? = some fn) (hN : fn.ntmps = N) (hb : fn.body = some c := by rfl) (ha : Nat.ble args.length N = true := by rfl)
    (h : J P none w [] N [] [] (Ld 0 args) c (bodyPostM (FW none) 0 P fn R)) : Calls P f args.toArray w R := by
  subst hN
  exact callsIn_wide.1 (callsIn_of_wp_marks (F := FW none) (n := 0) hf hb trivial (h _ w (Kh args ha) (SH.begin w)))

def Un (r : Nat) : Deferred := { target := .collected r, args := #[] }

theorem Yp {fn : Func} {R : Ending → World → Prop} {a : Act} {rs : List ResultVar} {vs : List Value} {L2 : Am} (hr : fn.results = rs.toArray) (h : Bk P L2 E rs vs) (ha : Dk N D E a) (hR : ∀ w, SH b0 Mk L2 w → R (.returned (Qf vs)) w) :
    ∀ (ms : List Nat) (w : World), SH b0 Mk (ms.map (fun r => (r, Obj.deferred (some []))) ++ L2) w → LeavesInM (FW none) 0 P fn a.tmps R (ms.map Un) .returning w
  | [], w, hw => by
    have h2 : Dk N a.defers E a := ⟨ha.size, rfl, ha.val⟩
    exact ⟨Qf vs, Hf hr h h2 hw, hR w hw⟩
  | r :: ms, w, hw => by
    have ho := hw.own _ List.mem_cons_self
    simp only at ho
    refine ⟨by simp, .inl ⟨r, _, rfl, run_takeDeferred ho, Yp hr h ha hR ms _ ?_⟩⟩
    exact (SH.put (o' := .deferred none) hw).sub (List.sublist_cons_self _ _)

theorem Db {fn : Func} {R : Ending → World → Prop} {rs : List ResultVar} {vs : List Value} {L2 : Am} (ms : List Nat) (hL : List.Perm L (ms.map (fun r => (r, Obj.deferred (some []))) ++ L2)) (hr : fn.results = rs.toArray) (h : Bk P L2 E rs vs) (hR : ∀ w, SH b0 Mk L2 w → R (.returned (Qf vs)) w) :
    JX b0 Mk N (ms.map Un) L E (bodyPostM (FW none) 0 P fn R) .ret := fun a w ha hw => by
  show LeavesInM _ _ _ _ _ _ a.defers _ _
  rw [ha.defs]
  exact Yp hr h ha hR ms w (hw.perm hL)

theorem L5 {fn : Func} {R : Ending → World → Prop} {rs : List ResultVar} {vs : List Value} {L2 : Am} (ms : List Nat) (hL : List.Perm L (ms.map (fun r => (r, Obj.deferred (some []))) ++ L2)) (hr : fn.results = rs.toArray) (h : Bk P L2 E rs vs) (hR : ∀ w, SH b0 Mk L2 w → R (.returned (Qf vs)) w) :
    JX b0 Mk N (ms.map Un) L E (bodyPostM (FW none) 0 P fn R) .normal := fun a w ha hw => by
  show LeavesInM _ _ _ _ _ _ a.defers _ _
  rw [ha.defs]
  exact Yp hr h ha hR ms w (hw.perm hL)
end
end Go.Proofs.YtdnjanhdnibkfaaGreatDoor.Jd

namespace Go.Proofs.YtdnjanhdnibkfaaGreatDoor.Jd
open Go.RowKit (Below)
set_option linter.unusedVariables false
set_option linter.unusedSimpArgs false

theorem fR : ∀ (us l : List Value) (n : Nat), n + us.length ≤ l.length → Fb l n us = l.take n ++ us ++ l.drop (n + us.length)
  | [], l, n, _ => by cases l <;> simp [Fb]
  | u :: us, [], n, h => by simp at h
  | u :: us, q :: l, 0, h => by
    have := fR us l 0 (by simp at h ⊢; omega)
    simp only [Fb, this, List.take_zero, List.nil_append, Nat.zero_add, List.length_cons, List.drop_succ_cons, List.cons_append]
  | u :: us, q :: l, n + 1, h => by
    have := fR (u :: us) l n (by simp at h ⊢; omega)
    simp only [Fb, this, List.take_succ_cons, List.cons_append]
    rw [show n + 1 + (u :: us).length = (n + (u :: us).length) + 1 by omega, List.drop_succ_cons]

theorem jR (l : List Value) (p q : Nat) (e : List Value) (h1 : p + e.length ≤ q) (h2 : q ≤ l.length) :
    (l.take p ++ e ++ l.drop (p + e.length)).take q = (l.take q).take p ++ e ++ (l.take q).drop (p + e.length) := by
  have l1 : (l.take p ++ e).length = p + e.length := by simp; omega
  rw [List.take_append, List.take_of_length_le (by rw [l1]; exact h1), l1, List.take_take, Nat.min_eq_left z8, List.drop_take]

structure Dm {α : Type} (enc : α → List Value) (k : Nat) : Prop where
  pos : 0 < k
  len : ∀ x, (enc x).length = k
  one : ∀ x, Ku (enc x) = true

theorem aR : ∀ {l : List Value}, Ku l = true → ∀ u ∈ l, u.oneCell' = true
  | v :: r, h, u, hu => by
    simp only [Ku, Bool.and_eq_true] at h
    rcases List.mem_cons.1 hu with rfl | hu
    · exact h.1
    · exact aR h.2 u hu

def Dx {α : Type} (enc : α → List Value) (xs : List α) : List Value := (xs.map enc).flatten

section flat
variable {α : Type} {enc : α → List Value} {k : Nat}
theorem Ck (hE : Dm enc k) : ∀ xs : List α, (Dx enc xs).length = xs.length * k
  | [] => by simp [Dx]
  | x :: r => by
    have := Ck hE r
    simp only [Dx, List.map_cons, List.flatten_cons, List.length_append, List.length_cons] at *
    rw [this, hE.len, Nat.add_mul]; omega
theorem Gp (xs ys : List α) : Dx enc (xs ++ ys) = Dx enc xs ++ Dx enc ys := by simp [Dx]
theorem Uo (hE : Dm enc k) : ∀ (xs : List α) (i : Nat) (x : α), xs[i]? = some x → ∀ j v, (enc x)[j]? = some v → (Dx enc xs)[i * k + j]? = some v
  | [], i, x, h, _, _, _ => by simp at h
  | y :: r, 0, x, h, j, v, hv => by
    have : y = x := by simpa using h
    subst this
    simp only [Dx, List.map_cons, List.flatten_cons, Nat.zero_mul, Nat.zero_add]
    rw [List.getElem?_append_left (List.getElem?_eq_some_iff.1 hv).1]; exact hv
  | y :: r, i + 1, x, h, j, v, hv => by
    have ih := Uo hE r i x (by simpa using h) j v hv
    simp only [Dx, List.map_cons, List.flatten_cons] at *
    rw [List.getElem?_append_right (by rw [hE.len, Nat.add_mul]; omega), hE.len, show (i + 1) * k + j - k = i * k + j by rw [Nat.add_mul]; omega]
    exact ih
theorem Uq (hE : Dm enc k) (xs : List α) : ∀ u ∈ Dx enc xs, u.oneCell' = true := fun u hu => by
  obtain ⟨l, hl, hul⟩ := List.mem_flatten.1 hu
  obtain ⟨x, _, rfl⟩ := List.mem_map.1 hl
  exact aR (hE.one x) u hul
theorem jS (hE : Dm enc k) : ∀ (xs : List α) (i : Nat) (y : α), i < xs.length → Dx enc (xs.set i y) = (Dx enc xs).take (i * k) ++ enc y ++ (Dx enc xs).drop (i * k + k)
  | [], _, _, h => by simp at h
  | x :: r, 0, y, _ => by
    simp only [Dx, List.set_cons_zero, List.map_cons, List.flatten_cons, Nat.zero_mul, List.take_zero, List.nil_append, Nat.zero_add]
    rw [List.drop_left' (hE.len x)]
  | x :: r, i + 1, y, h => by
    have ih := jS hE r i y (by simpa using h)
    simp only [Dx, List.set_cons_succ, List.map_cons, List.flatten_cons] at *
    rw [ih]
    have h1 : (i + 1) * k = k + i * k := by rw [Nat.add_mul]; omega
    rw [h1, ← hE.len x, List.take_length_add_append, show (enc x).length + i * (enc x).length + (enc x).length = (enc x).length + (i * (enc x).length + (enc x).length) by omega, List.drop_length_add_append]
    simp [List.append_assoc]
end flat

def Bi {α : Type} (enc : α → List Value) (k : Nat) (e : TypeId) (a : Option Addr) (c : Nat) (B : Am) (xs : List α) : Prop :=
  (c = 0 ∧ B = [] ∧ xs = []) ∨
  ∃ r cur f, a = some ⟨r, 0, none⟩ ∧ B = [(r, .cells cur e f)] ∧ fP f cur.size ∧ xs.length ≤ c ∧ cur.size = c * k ∧ cur.toList.take (xs.length * k) = Dx enc xs

theorem Bi.nil {α : Type} {enc : α → List Value} {k : Nat} {e : TypeId} {a : Option Addr} : Bi enc k e a 0 [] [] := .inl ⟨rfl, rfl, rfl⟩

theorem Bi.mk {α : Type} {enc : α → List Value} {k : Nat} {e : TypeId} {r c : Nat} {l : List Value} {xs : List α} (hc : xs.length = c := by rfl) (hl : l = Dx enc xs := by rfl) (hE : Dm enc k) : Bi enc k e (some ⟨r, 0, none⟩) c [(r, .cells l.toArray e)] xs :=
  .inr ⟨r, l.toArray, (0, 0), rfl, rfl, .zero, by omega, by rw [hl]; simp [Ck hE, hc], by subst hl; simp only [List.toList_toArray]; rw [List.take_of_length_le (by rw [Ck hE]; omega)]⟩

theorem Bi.sl {α : Type} {enc : α → List Value} {k : Nat} {e : TypeId} {a : Option Addr} {c : Nat} {B : Am} {xs : List α} (hE : Dm enc k) (h : Bi enc k e a c B xs) {w : World} (hB : ∀ p ∈ B, w.heap[p.1]? = some p.2) : Sl w enc k a xs := by
  rcases h with ⟨rfl, rfl, rfl⟩ | ⟨r, cur, fz, rfl, rfl, hfz, h1, h2, h3⟩
  · exact Sl.nil
  · intro i x hx
    refine ⟨r, 0, rfl, hE.len x, fun j v hv => ?_⟩
    have hb := hB _ List.mem_cons_self
    simp only at hb
    have hg := Uo hE xs i x hx j v hv
    rw [← h3] at hg
    have hg' : cur.toList[i * k + j]? = some v := by
      rw [List.getElem?_take] at hg
      split at hg
      · exact hg
      · cases hg
    simp only [World.cell?, hb, Nat.zero_add]
    simpa using hg'

theorem Bi.slj {α : Type} {enc : α → List Value} {k : Nat} {e : TypeId} {a : Option Addr} {c : Nat} {B L : Am} {xs : List α} {b0 : World} {Mk : List Nat} (hE : Dm enc k) (h : Bi enc k e a c B xs)
    (hB : ∀ p ∈ B, p ∈ L := by intro p hp; repeat (first | exact hp | exact List.mem_append_left _ hp | apply List.mem_append_right | apply List.mem_cons_of_mem)) : Ch b0 Mk L enc k a xs :=
  fun _ hw => h.sl hE (fun p hp => hw.own p (hB p hp))

theorem Ch.take {α : Type} {enc : α → List Value} {k : Nat} {a : Option Addr} {xs : List α} {L : Am} {b0 : World} {Mk : List Nat} (h : Ch b0 Mk L enc k a xs) (n : Nat) : Ch b0 Mk L enc k a (xs.take n) :=
  fun w hw i x hx => h w hw i x (by
    rw [List.getElem?_take] at hx
    split at hx
    · exact hx
    · cases hx)

/-- What a type's row of the table says. -/
structure Ty (P : Program) (e k by_ : Nat) (z : Value) : Prop where
  ex : ∃ i, P.info? e = some i ∧ i.size = k ∧ i.bytes = by_ ∧ i.zero = some z
  zs : z.cells.size = k

section
variable {P : Program} {rd : Option Nat} {b0 : World} {Mk : List Nat} {N : Nat} {D : List Deferred} {ops : Array Oper} {L V : Am} {E : Eg} {T : Act → World → Prop}
variable {op : Op} {ty : TypeId} {pos : String} {after : Array Edge} {d : Nat}

def Rb (P : Program) (N : Nat) (D : List Deferred) (b0 : World) (Mk : List Nat) (L : Am) (E : Eg) (op : Op) (ty : TypeId) (H : Am) (X : Type) (v : X → Next) (H' : X → Am) (Pr : X → Prop) : Prop :=
  ∀ a w, Dk N D E a → SH b0 Mk L w → ∃ x w', (execOp a.eval (Em op ty)).run P w = .ok (v x) w' ∧ Tr w w' H (H' x) ∧ Pr x

theorem nF {l : List Oper} {H R : Am} {X : Type} {v : X → Value} {H' : X → Am} {Pr : X → Prop} (hL : List.Perm L (H ++ R)) (h : Rb P N D b0 Mk L E op ty H X (fun x => .value (v x)) H' Pr) (hn : Be op = true := by rfl) (hd : Nat.blt d N = true := by rfl)
    (k : ∀ x, Pr x → JL P rd b0 Mk N D ops (H' x ++ R) ((d, v x) :: E) l T) : JL P rd b0 Mk N D ops L E ({ dst := some d, op := op, type := ty, pos := pos, after := after, guard := none } :: l) T := by
  intro a w ha hw
  unfold Mn
  rw [if_pos (by rfl)]
  obtain ⟨x, w', h1, h2, h3⟩ := h a w ha hw
  exact Df (Bf hn) uD (k x h3 _ _ (ha.put hd _) ((hw.perm hL).tr h2))

theorem wO {l : List Oper} {H R : Am} {X : Type} {H' : X → Am} {Pr : X → Prop} (hL : List.Perm L (H ++ R)) (h : Rb P N D b0 Mk L E op ty H X (fun _ => .skip) H' Pr) (hn : Be op = true := by rfl)
    (k : ∀ x, Pr x → JL P rd b0 Mk N D ops (H' x ++ R) E l T) : JL P rd b0 Mk N D ops L E ({ dst := none, op := op, type := ty, pos := pos, after := after, guard := none } :: l) T := by
  intro a w ha hw
  unfold Mn
  rw [if_pos (by rfl)]
  obtain ⟨x, w', h1, h2, h3⟩ := h a w ha hw
  exact Jq (Bf hn) uD (k x h3 _ _ ha ((hw.perm hL).tr h2))

theorem L6 {l : List (Bool × Oper)} {H R : Am} {X : Type} {v : X → Value} {H' : X → Am} {Pr : X → Prop} (hV : List.Perm V (H ++ R)) (h : Rb P N D b0 Mk (V ++ L) E op ty H X (fun x => .value (v x)) H' Pr) (hn : Be op = true := by rfl) (hd : Nat.blt d N = true := by rfl)
    (k : ∀ x, Pr x → JD P rd b0 Mk N D ops L (H' x ++ R) ((d, v x) :: E) l T) : JD P rd b0 Mk N D ops L V E ((false, { dst := some d, op := op, type := ty, pos := pos, after := after, guard := none }) :: l) T := by
  intro a w ha hw
  unfold Qx
  rw [if_pos (by rfl)]
  obtain ⟨x, w', h1, h2, h3⟩ := h a w ha hw
  have hw2 : SH b0 Mk (H ++ (R ++ L)) w := by rw [← List.append_assoc]; exact hw.perm (hV.append_right L)
  have hw3 : SH b0 Mk ((H' x ++ R) ++ L) w' := by rw [List.append_assoc]; exact hw2.tr h2
  exact Df (Bf hn) uD ⟨SH b0 Mk L, fun _ h => h, hw3.right, k x h3 _ _ (ha.put hd _) hw3⟩

theorem Rc {w : World} (o : Obj) : Tr w (w.alloc o) [] [(w.heap.size, o)] :=
  ⟨rfl, rfl, rfl, by simp, fun k hk _ => Below.heap_alloc w o k hk, fun p hp => by
    have : p = (w.heap.size, o) := by simpa using hp
    subst this
    show (w.heap.push o)[w.heap.size]? = some o
    simp, fun p hp => .inr (by have : p = (w.heap.size, o) := by simpa using hp
                               subst this; exact Nat.le_refl _), by simp [keys]⟩

theorem Tr.weaken {w w' : World} {H' B : Am} (h : Tr w w' [] H') : Tr w w' B H' :=
  ⟨h.os, h.tape, h.output, h.size, fun k hk _ => h.same k hk (by simp [keys]), h.own, fun p hp => (h.key p hp).imp (fun hm => by simp [keys] at hm) id, h.nd⟩

theorem Wj {w : World} {r : Nat} {cur cur' : Array Value} {e : TypeId} {f : Nat × Nat} (h : w.heap[r]? = some (.cells cur e f)) : Tr w (w.setRow r cur') [(r, .cells cur e f)] [(r, .cells cur' e f)] := by
  have hlt := (Array.getElem?_eq_some_iff.1 h).1
  have e1 : (w.setRow r cur').heap = w.heap.modify r (fun | .cells _ elem frozen => .cells cur' elem frozen | o => o) := rfl
  refine ⟨rfl, rfl, rfl, ?_, fun k _ hk => ?_, fun p hp => ?_, fun p hp => .inl ?_, by simp [keys]⟩
  · show w.heap.size ≤ (w.setRow r cur').heap.size
    rw [e1]; simp
  · rw [e1, Array.getElem?_modify, if_neg (fun e => hk (by subst e; simp [keys]))]
  · have : p = (r, .cells cur' e f) := by simpa using hp
    subst this
    show (w.setRow r cur').heap[r]? = _
    rw [e1, Array.getElem?_modify]
    simp [h]
  · have : p = (r, .cells cur' e f) := by simpa using hp
    subst this
    simp [keys]

theorem Yq {w w' : World} {H H' : Am} (h : Tr w.drew w' H H') : Tr w w' H H' := ⟨h.os, h.tape, h.output, h.size, h.same, h.own, h.key, h.nd⟩

theorem Sl.cells {w : World} {α : Type} {enc : α → List Value} {k : Nat} {a : Addr} {xs : List α} (hE : Dm enc k) (h : Sl w enc k (some a) xs) (n : Nat) (hn : n ≤ xs.length) : ∀ j v, (Dx enc (xs.take n))[j]? = some v → w.cell? (a.add j) = some v := by
  intro j v hv
  have hj : j < n * k := by
    have h1 := (List.getElem?_eq_some_iff.1 hv).1
    rw [Ck hE, List.length_take, Nat.min_eq_left hn] at h1
    exact h1
  have hk := hE.pos
  have hi : j / k < n := (Nat.div_lt_iff_lt_mul hk).2 hj
  have hx : xs[j / k]? = some xs[j / k] := List.getElem?_eq_getElem z8
  obtain ⟨b, off, e1, _, h3⟩ := h _ _ hx
  have e1' : a = ⟨b, off, none⟩ := Option.some.inj e1
  subst e1'
  have hm : j % k < k := Nat.mod_lt _ hk
  have hl : j % k < (enc xs[j / k]).length := by rw [hE.len]; exact hm
  have hv2 := Uo hE (xs.take n) (j / k) xs[j / k] (by rw [List.getElem?_take, if_pos hi]; exact hx) (j % k) _ (List.getElem?_eq_getElem hl)
  have e2 : j / k * k + j % k = j := by rw [Nat.mul_comm]; exact Nat.div_add_mod j k
  rw [e2, hv] at hv2
  have h4 := h3 (j % k) _ (List.getElem?_eq_getElem hl)
  rw [Ao]
  rw [show off + j / k * k + j % k = off + j by omega] at h4
  rw [h4]; exact hv2.symm

theorem Bi.full {α : Type} {enc : α → List Value} {k : Nat} {e : TypeId} {r c : Nat} {xs : List α} (hE : Dm enc k) {cur : Array Value} (h1 : xs.length ≤ c) (h2 : cur.size = c * k) (h3 : cur.toList.take (xs.length * k) = Dx enc xs) : Bi enc k e (some ⟨r, 0, none⟩) c [(r, .cells cur e)] xs := by
  have _ := hE
  exact .inr ⟨r, cur, (0, 0), rfl, rfl, .zero, h1, h2, h3⟩
theorem Bi.fullF {α : Type} {enc : α → List Value} {k : Nat} {e : TypeId} {r c : Nat} {xs : List α} {f : Nat × Nat} {cur : Array Value} (hf : fP f cur.size) (h1 : xs.length ≤ c) (h2 : cur.size = c * k) (h3 : cur.toList.take (xs.length * k) = Dx enc xs) : Bi enc k e (some ⟨r, 0, none⟩) c [(r, .cells cur e f)] xs :=
  .inr ⟨r, cur, f, rfl, rfl, hf, h1, h2, h3⟩
theorem Fj (P : Program) (g o : Nat) (t : TypeId) (fz : Nat × Nat) : ∀ (vs : List Value) (i : Nat) (cur : Array Value) (w : World), w.heap[g]? = some (.cells cur t fz) → fP fz cur.size → o + i + vs.length ≤ cur.size → (∀ v ∈ vs, v.oneCell' = true) →
    (storeCells ⟨g, o, none⟩ vs i).run P w = .ok () (w.setRow g (cur.toList.take (o + i) ++ vs ++ cur.toList.drop (o + i + vs.length)).toArray)
  | [], i, cur, w, hg, _, _, _ => by
    simp only [storeCells, List.append_nil, List.length_nil, Nat.add_zero, List.take_append_drop, Array.toArray_toList]
    rw [setRow_self w g cur t fz hg]
    rfl
  | v :: rest, i, cur, w, hg, hfz, hl, h1 => by
    have hi : o + i < cur.size := by simp at hl; omega
    have hadd : (⟨g, o, none⟩ : Addr).add i = ⟨g, o + i, none⟩ := by unfold Addr.add; split <;> simp_all
    have hcell : w.cell? ⟨g, o + i, none⟩ = some cur[o + i] := by simp [World.cell?, hg, hi]
    have hfro : w.frozen? ⟨g, o + i, none⟩ = false := hfz.not hg hi
    have hst : (store ((⟨g, o, none⟩ : Addr).add i) v).run P w = .ok () (w.setRow g (cur.setIfInBounds (o + i) v)) := by
      rw [hadd, run_store P w _ v _ (h1 v Hs), hcell]
      simp [hfro, setCell_eq_setRow w g (o + i) cur t fz v hg]
    have ih := Fj P g o t fz rest (i + 1) (cur.setIfInBounds (o + i) v) (w.setRow g (cur.setIfInBounds (o + i) v)) (setRow_heap w g cur _ t _ hg) (by simpa using hfz) (by simp at hl ⊢; omega) (fun x hx => h1 x (by simp [hx]))
    simp only [storeCells, Sem.run_bind, hst, Result.andThen_ok, ih, setRow_setRow]
    congr 3
    have e := list_seg_step cur.toList (o + i) v rest (by simp at hl ⊢; omega)
    simpa [Array.toList_setIfInBounds, Nat.add_assoc] using e
theorem Wk {P : Program} {w : World} {ty : TypeId} (t e : TypeId) (i : TypeInfo) (ht : P.underlying t = some (.slice e)) (hi : P.info? e = some i)
    (g sLen sCap : Nat) (cur : Array Value) (fz : Nat × Nat) (hg : w.heap[g]? = some (.cells cur e fz)) (hfz : fP fz cur.size)
    (a : Addr) (m c : Nat) (news : List Value) (hl : news.length = m * i.size) (hnews : ∀ j u, news[j]? = some u → w.cell? (a.add j) = some u) (h1 : ∀ u ∈ news, u.oneCell' = true)
    (hroom : sLen + m ≤ sCap) (hfit : sLen * i.size + news.length ≤ cur.size) :
    (Builtin.append_ #[t, t] ty #[.slice (some ⟨g, 0, none⟩) sLen sCap, .slice (some a) m c]).run P w =
      .ok (.slice (some ⟨g, 0, none⟩) (sLen + m) sCap) (w.setRow g (cur.toList.take (sLen * i.size) ++ news ++ cur.toList.drop (sLen * i.size + news.length)).toArray) := by
  have hf := run_firstCells_some (P := P) w i.size m a m c news hl hnews
  have hst := Fj P g (sLen * i.size) e fz news 0 cur w hg hfz (by simpa using hfit) h1
  simp only [Nat.add_zero] at hst
  simp [Builtin.append_, run_underlying ht, sizeOf, typeInfo, hi, Builtin.lenOf, hroom, hf, Addr.add_lit, hst]

theorem Yl (z : Array Value) (n : Nat) : (Builtin.zeroCells z n).toList.length = n * z.size := by simp [Builtin.zeroCells]

theorem jT {α : Type} {enc : α → List Value} {k by_ : Nat} {t e : TypeId} {z : Value} {x y : Operand} {a a' : Option Addr} {c c' n m : Nat} {B : Am} {xs ys : List α} (hT : Ty P e k by_ z) (hU : P.underlying t = some (.slice e)) (hE : Dm enc k) (ho : Bi enc k e a c B xs)
    (hs : Ch b0 Mk L enc k a' ys) (hB : ∀ p ∈ B, p ∈ L) (hn : xs.length = n) (hm : ys.length = m) (hb : 2 * (n + m) * by_ ≤ 281474976710656) (hb2 : n + m ≤ 4611686018427387904) (hx : ev E x = some (.slice a n c) := by rfl) (hy : ev E y = some (.slice a' m c') := by rfl) :
    Rb P N D b0 Mk L E (.call { callee := .builtin .append, args := #[x, y], argTypes := #[t, t] }) ty B (Option Addr × Nat × Am) (fun q => .value (.slice q.1 (n + m) q.2.1)) (fun q => q.2.2) (fun q => Bi enc k e q.1 q.2.1 q.2.2 (xs ++ ys)) := by
  intro ac w ha hw
  obtain ⟨i, hi, rfl, rfl, hz⟩ := hT.ex
  have hzs := hT.zs
  have hk := hE.pos
  subst hn hm
  have Ns : ∀ (v' : Value) (w' : World), (Builtin.append_ #[t, t] ty #[.slice a xs.length c, .slice a' ys.length c']).run P w = .ok v' w' →
      (execOp ac.eval (Em (.call { callee := .builtin .append, args := #[x, y], argTypes := #[t, t] }) ty)).run P w = .ok (.value v') w' := fun v' w' h => by
    simp [Em, execOp, resolve, invoke, builtin, ha.eval hx, ha.eval hy, h]
  have hsl := hs w hw
  -- what is appended
  by_cases hy0 : ys = []
  · subst hy0
    -- nothing is appended: the slice is as it was
    have hrun : (Builtin.append_ #[t, t] ty #[.slice a xs.length c, .slice a' 0 c']).run P w = .ok (.slice a xs.length c) w := by
      have hle : xs.length + 0 ≤ c := by
        rcases ho with ⟨rfl, rfl, rfl⟩ | ⟨r, cur, fz, rfl, rfl, hfz, h1, _, _⟩
        · simp
        · simpa using h1
      have hf : (Builtin.firstCells i.size 0 (.slice a' 0 c')).run P w = .ok #[] w := by
        cases a' with
        | none => simp [Builtin.firstCells]
        | some q => simp [Builtin.firstCells, loadCells, loadCellsFrom]
      have hle' : xs.length ≤ c := by simpa using hle
      rcases a with _ | ad
      · simp [Builtin.append_, run_underlying hU, sizeOf, typeInfo, hi, Builtin.lenOf, hf, hle']
      · simp [Builtin.append_, run_underlying hU, sizeOf, typeInfo, hi, Builtin.lenOf, hf, hle', storeCells]
    refine ⟨(a, c, B), w, Ns _ _ (by simpa using hrun), ?_, by simpa using ho⟩
    refine Tr.refl (fun p hp => hw.own p (hB p hp)) ?_
    rcases ho with ⟨_, rfl, _⟩ | ⟨r, cur, fz, _, rfl, _⟩ <;> simp [keys]
  · have hpos : 0 < ys.length := List.length_pos_iff.2 hy0
    obtain ⟨y0, hy0'⟩ : ∃ y0, ys[0]? = some y0 := ⟨_, List.getElem?_eq_getElem hpos⟩
    obtain ⟨b1, off1, rfl, _, _⟩ := hsl 0 y0 hy0'
    have hnews := Sl.cells hE hsl ys.length (Nat.le_refl _)
    rw [List.take_length] at hnews
    have hnl : (Dx enc ys).length = ys.length * i.size := Ck hE ys
    rcases ho with ⟨rfl, rfl, rfl⟩ | ⟨r, cur, fz, rfl, rfl, hfz, h1, h2, h3⟩
    · -- nil, or empty and without room
      have hby2 : 2 * ys.length * i.bytes ≤ 281474976710656 := by simpa using hb
      have hby : ys.length * i.bytes ≤ 281474976710656 := by
        rw [Nat.mul_assoc] at hby2
        omega
      rcases a with _ | ad
      · have hr := run_append_nil (P := P) w t ty e i z hU hi hz ⟨b1, off1, none⟩ ys.length c' (Dx enc ys) hnl hnews hpos (by simp at hb2; omega) hby
        refine ⟨(some ⟨w.heap.size, 0, none⟩, grownCap w ys.length 0 e, [(w.heap.size, _)]), _, Ns _ _ (by simpa using hr), Yq (Rc (w := w.drew) _), ?_⟩
        have hge := grownCap_ge w ys.length 0 e
        refine Bi.full hE (by simpa using hge) ?_ ?_
        · rw [Array.size_append, List.size_toArray, hnl, size_zeroCells, hzs, ← Nat.add_mul]
          dsimp only
          congr 1
          omega
        · simp only [List.nil_append, Array.toList_append]
          rw [List.take_left' (by simpa using hnl)]
      · have hnx : Builtin.nextslicecap (0 + ys.length) 0 ≤ 2 * (0 + ys.length) := nextslicecap_le z8
        have hr := run_append_grow (P := P) w t ty e i z hU hi hz ad 0 0 [] Hs Hs ⟨b1, off1, none⟩ ys.length c' (Dx enc ys) hnl hnews z8 (by simp at hb2; omega) (Nat.le_trans (Nat.mul_le_mul_right _ hnx) (by simpa using hb))
        refine ⟨(some ⟨w.heap.size, 0, none⟩, grownCap w (0 + ys.length) 0 e, [(w.heap.size, _)]), _, Ns _ _ (by simpa using hr), Yq (Rc (w := w.drew) _), ?_⟩
        have hge := grownCap_ge w (0 + ys.length) 0 e
        refine Bi.full hE (by simpa using hge) ?_ ?_
        · simp only [List.nil_append, Nat.zero_add] at hge ⊢
          rw [Array.size_append, List.size_toArray, hnl, size_zeroCells, hzs, ← Nat.add_mul]
          congr 1
          omega
        · simp only [List.nil_append, Array.toList_append]
          rw [List.take_left' (by simpa using hnl)]
    · have hh : w.heap[r]? = some (.cells cur e fz) := hw.own _ (hB _ List.mem_cons_self)
      by_cases hroom : xs.length + ys.length ≤ c
      · -- there is room
        have hr := Wk (P := P) (w := w) (ty := ty) t e i hU hi r xs.length c cur fz hh hfz ⟨b1, off1, none⟩ ys.length c' (Dx enc ys) hnl hnews (Uq hE ys) hroom (by rw [hnl, h2, ← Nat.add_mul]; exact Nat.mul_le_mul_right _ hroom)
        refine ⟨(some ⟨r, 0, none⟩, c, [(r, _)]), _, Ns _ _ hr, Wj hh, Bi.fullF ?_ (by simpa using hroom) ?_ ?_⟩
        · refine hfz.imp id fun h => Nat.le_trans (Nat.le_of_eq ?_) h
          have hle : xs.length * i.size + ys.length * i.size ≤ c * i.size := by rw [← Nat.add_mul]; exact Nat.mul_le_mul_right _ hroom
          simp only [List.size_toArray, List.length_append, List.length_take, List.length_drop, Array.length_toList, hnl, h2]
          omega
        · have hle : xs.length * i.size + ys.length * i.size ≤ c * i.size := by rw [← Nat.add_mul]; exact Nat.mul_le_mul_right _ hroom
          simp only [List.size_toArray, List.length_append, List.length_take, List.length_drop, Array.length_toList, hnl, h2]
          omega
        · have hle : xs.length * i.size ≤ c * i.size := Nat.mul_le_mul_right _ h1
          have e1 : (cur.toList.take (xs.length * i.size)).length = xs.length * i.size := by simp [h2, Nat.min_eq_left hle]
          simp only [List.toList_toArray, List.length_append, Nat.add_mul]
          rw [List.take_left' (by rw [List.length_append, e1, hnl]), h3, Gp]
      · -- it grows
        have holds : ∀ j v, (Dx enc xs)[j]? = some v → w.cell? ((⟨r, 0, none⟩ : Addr).add j) = some v := by
          have hsx : Sl w enc i.size (some ⟨r, 0, none⟩) xs := Bi.sl hE (.inr ⟨r, cur, fz, rfl, rfl, hfz, h1, h2, h3⟩) (fun p hp => hw.own p (hB p hp))
          have := Sl.cells hE hsx xs.length (Nat.le_refl _)
          rwa [List.take_length] at this
        have hg : c < xs.length + ys.length := by omega
        have hnx : Builtin.nextslicecap (xs.length + ys.length) c ≤ 2 * (xs.length + ys.length) := nextslicecap_le hg
        have hr := run_append_grow (P := P) w t ty e i z hU hi hz ⟨r, 0, none⟩ xs.length c (Dx enc xs) (Ck hE xs) holds ⟨b1, off1, none⟩ ys.length c' (Dx enc ys) hnl hnews hg z8 (Nat.le_trans (Nat.mul_le_mul_right _ hnx) hb)
        refine ⟨(some ⟨w.heap.size, 0, none⟩, grownCap w (xs.length + ys.length) c e, [(w.heap.size, _)]), _, Ns _ _ hr, (Yq (Rc (w := w.drew) _)).weaken, ?_⟩
        have hge := grownCap_ge w (xs.length + ys.length) c e
        refine Bi.full hE (by simpa using hge) ?_ ?_
        · rw [Array.size_append, Array.size_append, List.size_toArray, List.size_toArray, hnl, Ck hE, size_zeroCells, hzs, ← Nat.add_mul, ← Nat.add_mul]
          dsimp only
          congr 1
          omega
        · simp only [Array.toList_append]
          rw [List.take_left' (by simp [hnl, Ck hE, Nat.add_mul]), Gp]

theorem dQ {α : Type} {enc : α → List Value} {k : Nat} {z : Value} {x0 : α} (hE : Dm enc k) (hz : Cp z = enc x0) (n : Nat) : madeCells z.cells (n * k) = (Dx enc (List.replicate n x0)).toArray := by
  have hk := hE.pos
  apply Array.ext'
  rw [Ft, hz]
  apply List.ext_getElem?
  intro j
  by_cases hj : j < n * k
  · have hi : j / k < n := (Nat.div_lt_iff_lt_mul hk).2 hj
    have hm : j % k < (enc x0).length := by rw [hE.len]; exact Nat.mod_lt _ hk
    have h1 := Uo hE (List.replicate n x0) (j / k) x0 (by simp [hi]) (j % k) _ (List.getElem?_eq_getElem hm)
    have e2 : j / k * k + j % k = j := by rw [Nat.mul_comm]; exact Nat.div_add_mod j k
    rw [e2] at h1
    rw [List.toList_toArray, h1]
    simp [madeCells, hj, hE.len, Nat.mod_lt _ hk]
  · rw [List.getElem?_eq_none (by simp [madeCells]; omega), List.getElem?_eq_none (by rw [List.toList_toArray, Ck hE]; simp; omega)]

theorem Bi.made {α : Type} {enc : α → List Value} {k : Nat} {e : TypeId} {z : Value} {x0 : α} {r n : Nat} (hE : Dm enc k) (hz : Cp z = enc x0) : Bi enc k e (some ⟨r, 0, none⟩) n [(r, .cells (madeCells z.cells (n * k)) e)] (List.replicate n x0) := by
  rw [dQ hE hz]
  exact Bi.mk Hs rfl hE

theorem wP {α : Type} {enc : α → List Value} {k : Nat} {t e : TypeId} {x y : Operand} {v : Value} {a : Option Addr} {c o : Nat} {B : Am} {xs : List α} (m : Nat) (u : α) (hS : ∀ w, (sizeOf t).run P w = .ok k w) (hE : Dm enc k) (ho : Bi enc k e a c B xs) (hB : ∀ p ∈ B, p ∈ L) (hm : m < xs.length)
    (hx : ev E x = some (.pointer (some (ea a o))) := by rfl) (hy : ev E y = some v := by rfl) (hv : Cp v = enc u := by rfl) (hoo : o = m * k := by first | rfl | omega) :
    Rb P N D b0 Mk L E (.store t x y) ty B Am (fun _ => .skip) (fun q => q) (fun q => Bi enc k e a c q (xs.set m u)) := by
  intro ac w ha hw
  subst hoo
  rcases ho with ⟨rfl, rfl, rfl⟩ | ⟨r, cur, fz, rfl, rfl, hfz, h1, h2, h3⟩
  · simp at hm
  · have hh : w.heap[r]? = some (.cells cur e fz) := hw.own _ (hB _ List.mem_cons_self)
    have hmk : m * k + k ≤ c * k := by
      have : (m + 1) * k ≤ c * k := Nat.mul_le_mul_right _ z8
      rw [Nat.add_mul] at this; omega
    have hst := Kv (P := P) (r := r) (k := m * k) (T := e) (f := fz) (enc u) cur.toList 0 w (by simpa using hh) (by simpa using hfz) (hE.one u) (by rw [hE.len, Array.length_toList, h2]; omega)
    obtain ⟨w', g1, g2, g3, g4, g5, g6, g7⟩ := hst
    refine ⟨[(r, .cells (Fb cur.toList (m * k) (enc u)).toArray e fz)], w', ?_, ⟨g5, g6, g7, by omega, fun j _ hj => g3 j (fun e => hj (by subst e; simp [keys])), fun p hp => ?_, fun p hp => .inl ?_, by simp [keys]⟩, ?_⟩
    · have he : ea (some ⟨r, 0, none⟩) (m * k) = ⟨r, m * k, none⟩ := by simp [ea]
      have hn : v.cells.size = k := by rw [Ft, hv]; simp [hE.len]
      simp [Em, execOp, ha.eval hx, ha.eval hy, Instr.storeAt, Instr.sureAddr, storeVar, he, hS, hn]
      rw [show v.cells.toList = enc u by rw [Ft, hv], g1]
      rfl
    · have : p = (r, .cells (Fb cur.toList (m * k) (enc u)).toArray e fz) := by simpa using hp
      subst this
      simpa using g2
    · have : p = (r, .cells (Fb cur.toList (m * k) (enc u)).toArray e fz) := by simpa using hp
      subst this
      simp [keys]
    · have hset := fR
      refine Bi.fullF (by simpa [Mz] using hfz) (by simpa using h1) ?_ ?_
      · simp [Mz, h2]
      · rw [List.toList_toArray, hset _ _ _ (by rw [hE.len, Array.length_toList, h2]; omega), hE.len, List.length_set, jS hE xs m u hm, ← h3]
        have hxl : xs.length * k ≤ c * k := Nat.mul_le_mul_right _ h1
        have hml : m * k + k ≤ xs.length * k := by
          have : (m + 1) * k ≤ xs.length * k := Nat.mul_le_mul_right _ z8
          rw [Nat.add_mul] at this; omega
        have := jR cur.toList (m * k) (xs.length * k) (enc u) (by rw [hE.len]; exact hml) (by simp only [Array.length_toList] at *; omega)
        rw [hE.len] at this
        exact this

theorem sC {t e : TypeId} {x y : Operand} {a : Option Addr} {n c : Nat} {i : Int} {ki : IntKind} (m : Nat) (hU : ∀ w, (underlying t).run P w = .ok (.slice e) w) (hS : ∀ w, ∃ q, (sizeOf e).run P w = .ok q w) (hm : m ≤ c) (hx : ev E x = some (.slice a n c) := by rfl) (hy : ev E y = some (.int ki i) := by rfl) (hi : i = (m : Int) := by first | rfl | omega) :
    Cm P N D b0 Mk L E (.slice t x none (some y) none) ty (.slice a m c) := fun ac w ha _ => by
  subst hi
  obtain ⟨q, hq⟩ := hS w
  have h1 : (0 : Int) ≤ (m : Int) ∧ (m : Int) ≤ (c : Int) := by omega
  have e0 : (if c = 0 then a else Option.map (fun x => x.add 0) a) = a := by
    cases a with
    | none => simp
    | some ad => simp [Addr.add]
  simp [Em, execOp, ha.eval hx, ha.eval hy, Instr.sliceAt, hU, Instr.slice, Instr.sliceBounds, Instr.sliceBound, asIntOf, hm, hq, e0]

theorem fS {t e : TypeId} {x y y2 : Operand} {a : Option Addr} {n c : Nat} {i i2 : Int} {ki ki2 : IntKind} (m m2 : Nat) (hU : ∀ w, (underlying t).run P w = .ok (.slice e) w) (hS : ∀ w, ∃ q, (sizeOf e).run P w = .ok q w) (hm : m ≤ m2) (hm2 : m2 ≤ c) (hx : ev E x = some (.slice a n c) := by rfl) (hy : ev E y = some (.int ki i) := by rfl) (hy2 : ev E y2 = some (.int ki2 i2) := by rfl)
    (hi : i = (m : Int) := by first | rfl | omega) (hi2 : i2 = (m2 : Int) := by first | rfl | omega) :
    Cm P N D b0 Mk L E (.slice t x none (some y) (some y2)) ty (.slice a m m2) := fun ac w ha _ => by
  subst hi hi2
  obtain ⟨q, hq⟩ := hS w
  have e0 : (if m2 = 0 then a else Option.map (fun x => x.add 0) a) = a := by
    cases a with
    | none => simp
    | some ad => simp [Addr.add]
  simp [Em, execOp, ha.eval hx, ha.eval hy, ha.eval hy2, Instr.sliceAt, hU, Instr.slice, Instr.sliceBounds, Instr.sliceBound, asIntOf, hm, hm2, hq, e0]

theorem Xh {t t' : TypeId} {x y : Operand} {u v : Value} {b : Bool} (h : ∀ w, (do eqGuard .eql t x y u v; binOp .eql t u v : Sem Value).run P w = .ok (.bool b) w) (hx : ev E x = some u := by rfl) (hy : ev E y = some v := by rfl) : Cm P N D b0 Mk L E (.binOp .eql t x y t') ty (.bool b) := fun ac w ha _ => by
  have := h w
  simp only [Em, execOp, ha.eval hx, ha.eval hy]
  simp only [Sem.run_bind] at this ⊢
  rw [this]
  rfl

theorem wQ {x y : Operand} {p q : Int} {tys : Array TypeId} (hx : ev E x = some (.int .i64 p) := by rfl) (hy : ev E y = some (.int .i64 q) := by rfl) :
    Cm P N D b0 Mk L E (.call { callee := .builtin .min, args := #[x, y], argTypes := tys }) ty (.int .i64 (if q < p then q else p)) := fun ac w ha _ => by
  simp [Em, execOp, resolve, invoke, builtin, Builtin.min_, ha.eval hx, ha.eval hy, Builtin.min2]
end
end Go.Proofs.YtdnjanhdnibkfaaGreatDoor.Jd

namespace Go.Proofs.YtdnjanhdnibkfaaGreatDoor.Jd
open Go.RowKit (Below)
set_option linter.unusedVariables false
set_option linter.unusedSimpArgs false
section
variable {P : Program} {rd : Option Nat} {b0 : World} {Mk : List Nat} {N : Nat} {D : List Deferred} {ops : Array Oper} {L V : Am} {E : Eg} {T : Act → World → Prop}
variable {op : Op} {ty : TypeId} {pos : String} {after : Array Edge} {d : Nat}

theorem Pj {l : List Oper} {f : FuncId} {args : List Value} {R : World → Ending → World → Prop} (hc : Lz P N D b0 Mk L E op ty f args) (h : ∀ w, SH b0 Mk L w → Calls P f args.toArray w (R w)) (hn : Be op = true := by rfl) (hd : Nat.blt d N = true := by rfl)
    (k : ∀ w e w', SH b0 Mk L w → R w e w' → ∃ v L', e = .returned v ∧ SH b0 Mk L' w' ∧ JL P rd b0 Mk N D ops L' ((d, v) :: E) l T) :
    JL P rd b0 Mk N D ops L E ({ dst := some d, op := op, type := ty, pos := pos, after := after, guard := none } :: l) T := by
  intro a w ha hw
  unfold Mn
  rw [if_pos (by rfl)]
  refine Ea (Bf hn) (by rw [Cj]; exact hc a w ha hw) ((h w hw).mono fun e w' he => ?_)
  obtain ⟨v, L', rfl, h2, h3⟩ := k w e w' hw he
  exact ⟨_, rfl, h3 _ _ (ha.put hd _) h2⟩

theorem Wl {w w' : World} {B : Am} (hw : SH b0 Mk (V ++ L) w) (h2 : Dz w w' B) : SH b0 Mk (V ++ (B ++ L)) w' :=
  (hw.fresh h2).perm z83

theorem jU {l : List (Bool × Oper)} {f : FuncId} {args : List Value} {R : World → Ending → World → Prop} (hc : Lz P N D b0 Mk L E op ty f args) (h : ∀ w, SH b0 Mk L w → Calls P f args.toArray w (R w)) (hn : Be op = true := by rfl) (hd : Nat.blt d N = true := by rfl)
    (k : ∀ w e w', SH b0 Mk L w → R w e w' → ∃ v B L', e = .returned v ∧ Dz w w' B ∧ L' = B ++ L ∧ JD P rd b0 Mk N D ops L' V ((d, v) :: E) l T) :
    JD P rd b0 Mk N D ops L V E ((false, { dst := some d, op := op, type := ty, pos := pos, after := after, guard := none }) :: l) T := by
  intro a w ha hw
  unfold Qx
  rw [if_pos (by rfl)]
  refine Ea (Bf hn) U9 ((h w hw.right).mono fun e w' he => ?_)
  obtain ⟨v, B, L', rfl, h2, rfl, h3⟩ := k w e w' hw.right he
  have h4 := Wl hw h2
  exact ⟨_, rfl, SH b0 Mk (B ++ L), fun y hy => hy.right, h4.right, h3 _ _ (ha.put hd _) h4⟩

theorem sD {l : List Oper} {n f' : Nat} {listed : Array Bool} {i : Nat} {f : FuncId} {args : List Value} {R : World → Ending → World → Prop} (hi : l[i]? = some { dst := some d, op := op, type := ty, pos := pos, after := after, guard := none }) (hc : Lz P N D b0 Mk L E op ty f args)
    (h : ∀ w, SH b0 Mk L w → Calls P f args.toArray w (R w)) (hn : Be op = true := by rfl) (hd : Nat.blt d N = true := by rfl)
    (k : ∀ w e w', SH b0 Mk L w → R w e w' → ∃ v B L', e = .returned v ∧ Dz w w' B ∧ L' = B ++ L ∧ JG P rd b0 Mk N D l n f' (listed.setIfInBounds i true) L' V ((d, v) :: E) T) : JO P rd b0 Mk N D l n f' listed L V E T i := by
  intro hg inv a w ha hw
  have hi' : l.toArray[i]? = some { dst := some d, op := op, type := ty, pos := pos, after := after, guard := none } := by simpa using hi
  unfold wpO
  simp only [hi']
  rw [if_pos (by rfl)]
  refine Ea (Bf hn) U9 ((h w hw.right).mono fun e w' he => ?_)
  obtain ⟨v, B, L', rfl, h2, rfl, h3⟩ := k w e w' hw.right he
  have h4 := Wl hw h2
  exact ⟨_, rfl, SH b0 Mk (B ++ L), fun y hy => hy.right, h4.right, h3 hg inv _ _ (ha.put hd _) h4⟩

theorem AU7 {l : List Oper} {n f' : Nat} {listed : Array Bool} {i : Nat} {X : Type} {v : X → Value} {H' : X → Am} {Pr : X → Prop} (hi : l[i]? = some { dst := some d, op := op, type := ty, pos := pos, after := after, guard := none })
    (h : Rb P N D b0 Mk L E op ty [] X (fun x => .value (v x)) H' Pr) (hn : Be op = true := by rfl) (hd : Nat.blt d N = true := by rfl)
    (k : ∀ x, Pr x → JG P rd b0 Mk N D l n f' (listed.setIfInBounds i true) (H' x ++ L) V ((d, v x) :: E) T) : JO P rd b0 Mk N D l n f' listed L V E T i := by
  intro hg inv a w ha hw
  have hi' : l.toArray[i]? = some { dst := some d, op := op, type := ty, pos := pos, after := after, guard := none } := by simpa using hi
  unfold wpO
  simp only [hi']
  rw [if_pos (by rfl)]
  obtain ⟨x, w', h1, h2, h3⟩ := h a w ha hw.right
  have hf : Dz w w' (H' x) := ⟨⟨h2.os, h2.tape, h2.output, h2.size, fun k hk => h2.same k hk (by simp [keys])⟩, h2.own, fun p hp => (h2.key p hp).resolve_left (by simp [keys]), h2.nd⟩
  have h4 := Wl hw hf
  exact Df (Bf hn) uD ⟨SH b0 Mk (H' x ++ L), fun y hy => hy.right, h4.right, k x h3 hg inv _ _ (ha.put hd _) h4⟩

theorem SH.base {w : World} (h : SH b0 Mk L w) {r : Nat} {o : Obj} (hb : b0.heap[r]? = some o) (hM : r ∉ Mk) : w.heap[r]? = some o := by
  rw [h.same r (Array.getElem?_eq_some_iff.1 hb).1 hM]; exact hb

theorem Dp {t : TypeId} {x : Operand} {r k : Nat} {l : List Value} {T : TypeId} {f : Nat × Nat} {v : Value} (hA : ∀ w, (isAgg t).run P w = .ok false w) (hb : b0.heap[r]? = some (Obj.cells l.toArray T f)) (hx : ev E x = some (.pointer (some ⟨r, k, none⟩)) := by rfl)
    (hM : r ∉ Mk := by simp) (hv : uB l k = some v := by rfl) : Cm P N D b0 Mk L E (.load t x) ty v := fun a w ha hw => by
  have ho := hw.base hb hM
  have hc : w.cell? ⟨r, k, none⟩ = some v := by rw [Nr] at hv; simp [World.cell?, ho, hv]
  simp [Em, execOp, ha.eval hx, Instr.loadAt, Instr.sureAddr, loadVar, hA, hc]

theorem wR {t : TypeId} {x : Operand} {r k n : Nat} {l : List Value} {T : TypeId} {f : Nat × Nat} {cs : List Value} (hA : ∀ w, (isAgg t).run P w = .ok true w) (hS : ∀ w, (sizeOf t).run P w = .ok n w) (hb : b0.heap[r]? = some (Obj.cells l.toArray T f))
    (hx : ev E x = some (.pointer (some ⟨r, k, none⟩)) := by rfl) (hM : r ∉ Mk := by simp) (hv : oV l k n = some cs := by rfl) : Cm P N D b0 Mk L E (.load t x) ty (.agg cs.toArray) := fun a w ha hw => by
  have ho := hw.base hb hM
  obtain ⟨h1, h2⟩ := Qy l n k cs hv
  have hl : (loadCells ⟨r, k, none⟩ n).run P w = .ok cs.toArray w := by
    rw [← h1]
    exact run_loadCells_list w ⟨r, k, none⟩ cs fun j v hj => by
      rw [Ao]
      simp [World.cell?, ho, h2 j v hj]
  simp [Em, execOp, ha.eval hx, Instr.loadAt, Instr.sureAddr, loadVar, hA, hS, hl]

theorem Dy {t e : TypeId} {x y : Operand} {r o n c k : Nat} {i : Int} {ki : IntKind} (hU : ∀ w, (underlying t).run P w = .ok (.slice e) w) (hS : ∀ w, (sizeOf e).run P w = .ok k w) (m : Nat) (hx : ev E x = some (.slice (some ⟨r, o, none⟩) n c) := by rfl) (hy : ev E y = some (.int ki i) := by rfl)
    (hi : i = (m : Int) := by first | rfl | omega) (hm : m < n := by omega) : Cm P N D b0 Mk L E (.indexAddr t x y) ty (.pointer (some ⟨r, o + m * k, none⟩)) := fun a' w ha hw => by
  have _ := hw
  subst hi
  have hlt' : (m : Int) < (n : Int) := by omega
  simp [Em, execOp, ha.eval hx, ha.eval hy, Instr.indexAt, asIntOf, hU, hS, hm, Ao]

theorem Fq {l : List Oper} {L' : Am} (h : L = L') (k : JL P rd b0 Mk N D ops L' E l T) : JL P rd b0 Mk N D ops L E l T := h ▸ k

def Hg {κ : Type} (enc : κ → Value) (es : Array MapEntry) (l : List (κ × Value)) : Prop := es.toList.map (fun e => (e.key, e.val)) = l.map fun p => (enc p.1, p.2)

def Jg {κ : Type} [DecidableEq κ] (l : List (κ × Value)) (x : κ) : Option Value := (l.find? fun p => p.1 = x).map (·.2)

def Mb {κ : Type} [DecidableEq κ] (kd : TypeDesc) (enc : κ → Value) : Prop := (∀ x y, Instr.sameNow kd (enc x) (enc y) = some (decide (x = y))) ∧ (∀ n t x (P : Program) w, (∀ w, (underlying t).run P w = .ok kd w) → (Instr.checkKey n 10000 t (enc x)).run P w = .ok () w)

theorem Bo : Mb (κ := Int) (.int .i64) (fun x => .int .i64 x) := by
  refine ⟨fun x y => ?_, fun n t x P w h => ?_⟩
  · simp only [Instr.sameNow]
    by_cases hh : x = y <;> simp [hh]
  · show (do match ← underlying t, Value.int .i64 x with | _, _ => _ : Sem Unit).run P w = _
    simp only [Sem.run_bind, h, Result.andThen_ok, Sem.run_pure]

theorem Pk {κ : Type} [DecidableEq κ] {kd : TypeDesc} {enc : κ → Value} (hk : Mb kd enc) (x : κ) : ∀ (es : List MapEntry) (l : List (κ × Value)) (i : Nat), es.map (fun e => (e.key, e.val)) = l.map (fun p => (enc p.1, p.2)) →
    ∃ r, Instr.findNow kd (enc x) es i = some r ∧ r.map (·.2) = Jg l x ∧ (r = none ↔ ∀ p ∈ l, p.1 ≠ x)
  | [], [], i, _ => ⟨none, rfl, rfl, by simp⟩
  | [], _ :: _, _, h => by simp at h
  | _ :: _, [], _, h => by simp at h
  | e :: es, p :: l, i, h => by
    simp only [List.map_cons, List.cons.injEq, Prod.mk.injEq] at h
    obtain ⟨⟨h1, h2⟩, h3⟩ := h
    simp only [Instr.findNow, h1, hk.1]
    by_cases hx : x = p.1
    · subst hx
      refine ⟨some (i, e.val), by simp, by simp [Jg, h2], by simp⟩
    · have hx' : ¬ p.1 = x := fun e => hx e.symm
      obtain ⟨r, g1, g2, g3⟩ := Pk hk x es l (i + 1) h3
      refine ⟨r, by simp [hx, g1], by simp [g2, Jg, hx'], by simp [g3, hx']⟩

theorem wS {κ : Type} [DecidableEq κ] {kd : TypeDesc} {enc : κ → Value} {t kt et : TypeId} {x y : Operand} {r ck : Nat} {es : Array MapEntry} {l : List (κ × Value)} {z : Value} (q : κ) (hk : Mb kd enc) (hU : ∀ w, (underlying t).run P w = .ok (.map kt et) w) (hK : ∀ w, (underlying kt).run P w = .ok kd w)
    (hz : ∀ w, (zeroValue et).run P w = .ok z w) (hes : Hg enc es l) (hx : ev E x = some (.map (some r)) := by rfl) (hy : ev E y = some (enc q) := by rfl)
    (hm : (r, Obj.map es ck) ∈ L := by repeat (first | exact List.mem_cons_self | apply List.mem_cons_of_mem | apply List.mem_append_right)) :
    Cm P N D b0 Mk L E (.lookup t x y false) ty ((Jg l q).getD z) := fun a w ha hw => by
  have ho := hw.own _ hm
  simp only at ho
  obtain ⟨rr, g1, g2, _⟩ := Pk hk q es.toList l 0 hes
  simp only [Em, execOp, ha.eval hx, ha.eval hy, Instr.lookup, Sem.run_bind, hU, Result.andThen_ok, Iu ho, Sem.run_pure]
  rw [hk.2 _ _ _ P w hK]
  simp only [Result.andThen_ok, Instr.findKey, Sem.run_bind, hK, g1, Sem.run_pure]
  cases rr with
  | none => simp [← g2, hz]
  | some p => simp [← g2]

theorem aS {κ : Type} [DecidableEq κ] {kd : TypeDesc} {enc : κ → Value} {t kt et : TypeId} {x y : Operand} {r ck : Nat} {es : Array MapEntry} {l : List (κ × Value)} {z : Value} (q : κ) (hk : Mb kd enc) (hU : ∀ w, (underlying t).run P w = .ok (.map kt et) w) (hK : ∀ w, (underlying kt).run P w = .ok kd w)
    (hz : ∀ w, (zeroValue et).run P w = .ok z w) (hes : Hg enc es l) (hx : ev E x = some (.map (some r)) := by rfl) (hy : ev E y = some (enc q) := by rfl)
    (hm : (r, Obj.map es ck) ∈ L := by repeat (first | exact List.mem_cons_self | apply List.mem_cons_of_mem | apply List.mem_append_right)) :
    Cm P N D b0 Mk L E (.lookup t x y true) ty (.tuple [(Jg l q).getD z, .bool (Jg l q).isSome].toArray) := fun a w ha hw => by
  have ho := hw.own _ hm
  simp only at ho
  obtain ⟨rr, g1, g2, _⟩ := Pk hk q es.toList l 0 hes
  simp only [Em, execOp, ha.eval hx, ha.eval hy, Instr.lookup, Sem.run_bind, hU, Result.andThen_ok, Iu ho, Sem.run_pure]
  rw [hk.2 _ _ _ P w hK]
  simp only [Result.andThen_ok, Instr.findKey, Sem.run_bind, hK, g1, Sem.run_pure]
  cases rr with
  | none => simp [← g2, hz]
  | some p => simp [← g2]

theorem Sx {t : TypeId} : aH P N D b0 Mk L E (.makeMap t none) ty (.map #[] 0) (fun r => .map (some r)) := fun a w _ _ => by
  simp [Em, execOp, Instr.makeMap]
theorem Hg.nil {κ : Type} {enc : κ → Value} : Hg enc #[] [] := rfl

theorem wT {κ : Type} [DecidableEq κ] {kd : TypeDesc} {enc : κ → Value} {t kt et : TypeId} {x y u : Operand} {r ck : Nat} {es : Array MapEntry} {l : List (κ × Value)} {v : Value} (q : κ) (hk : Mb kd enc) (hU : ∀ w, (underlying t).run P w = .ok (.map kt et) w) (hK : ∀ w, (underlying kt).run P w = .ok kd w)
    (hes : Hg enc es l) (hnew : ∀ p ∈ l, p.1 ≠ q) (hx : ev E x = some (.map (some r)) := by rfl) (hy : ev E y = some (enc q) := by rfl) (hu : ev E u = some v := by rfl)
    (hm : (r, Obj.map es ck) ∈ L := by repeat (first | exact List.mem_cons_self | apply List.mem_cons_of_mem | apply List.mem_append_right)) :
    Rb P N D b0 Mk L E (.mapUpdate t x y u) ty [(r, .map es ck)] (Array MapEntry × Nat) (fun _ => .skip) (fun x => [(r, .map x.1 x.2)]) (fun x => Hg enc x.1 (l ++ [(q, v)])) := fun a w ha hw => by
  have ho := hw.own _ hm
  simp only at ho
  obtain ⟨rr, g1, _, g3⟩ := Pk hk q es.toList l 0 hes
  have hr : rr = none := g3.2 hnew
  subst hr
  have hset : (setObj r (.map (es.push { key := enc q, val := v, born := ck }) (ck + 1))).run P w = .ok () (w.putObj r (.map (es.push { key := enc q, val := v, born := ck }) (ck + 1))) := by
    simp [setObj, Sem.run, ho, World.putObj]
  refine ⟨(es.push { key := enc q, val := v, born := ck }, ck + 1), w.putObj r (.map (es.push { key := enc q, val := v, born := ck }) (ck + 1)), ?_, ?_, ?_⟩
  · simp only [Em, execOp, ha.eval hx, ha.eval hy, ha.eval hu, Instr.mapUpdate, Sem.run_bind, hU, Result.andThen_ok, Iu ho]
    rw [hk.2 _ _ _ P w hK]
    simp only [Result.andThen_ok, Instr.findKey, Sem.run_bind, hK, g1, Sem.run_pure, hset]
  · exact dP (R := []) ho (fun _ h => by cases h) (by simp [keys])
  · simp only [Hg, Array.toList_push, List.map_append] at hes ⊢
    rw [hes]; rfl
end
section
variable {P : Program} {rd : Option Nat} {b0 : World} {Mk : List Nat} {N : Nat} {D : List Deferred} {ops : Array Oper} {L V : Am} {E : Eg} {T : Act → World → Prop}
variable {op : Op} {ty : TypeId} {pos : String} {after : Array Edge} {d : Nat}

theorem Ch.lit {α : Type} {enc : α → List Value} {k : Nat} {r : Nat} {l : List Value} {T : TypeId} {xs : List α} (hE : Dm enc k) (hl : l = Dx enc xs := by rfl)
    (hm : (r, Obj.cells l.toArray T) ∈ L := by repeat (first | exact List.mem_cons_self | apply List.mem_cons_of_mem | apply List.mem_append_right)) : Ch b0 Mk L enc k (some ⟨r, 0, none⟩) xs := fun w hw =>
  Bi.sl (e := T) (c := xs.length) (B := [(r, Obj.cells l.toArray T)]) hE (Bi.mk rfl hl hE) (fun p hp => by
    have : p = (r, Obj.cells l.toArray T) := by simpa using hp
    subst this
    exact hw.own _ hm)

theorem Ar {α : Type} {enc : α → List Value} {kk by_ : Nat} {t e : TypeId} {z : Value} {x y : Operand} {a a' : Option Addr} {c c' n m : Nat} {B R : Am} {xs ys : List α} {l : List Oper} (zs : List α) (hz : xs ++ ys = zs) (hT : Ty P e kk by_ z) (hU : P.underlying t = some (.slice e)) (hE : Dm enc kk) (ho : Bi enc kk e a c B xs)
    (hL : List.Perm L (B ++ R)) (hs : Ch b0 Mk L enc kk a' ys) (hb : 2 * (n + m) * by_ ≤ 281474976710656 ∧ n + m ≤ 4611686018427387904) (hx : ev E x = some (.slice a n c) := by rfl) (hy : ev E y = some (.slice a' m c') := by rfl) (hn : xs.length = n := by rfl) (hm : ys.length = m := by rfl)
    (hd : Nat.blt d N = true := by rfl)
    (k : ∀ a2 c2 B2, Bi enc kk e a2 c2 B2 zs → JL P rd b0 Mk N D ops (B2 ++ R) ((d, .slice a2 zs.length c2) :: E) l T) :
    JL P rd b0 Mk N D ops L E ({ dst := some d, op := .call { callee := .builtin .append, args := #[x, y], argTypes := #[t, t] }, type := ty, pos := pos, after := after, guard := none } :: l) T := by
  subst hz
  refine nF hL (jT hT hU hE ho hs (fun p hp => hL.mem_iff.2 (List.mem_append_left _ hp)) hn hm hb.1 hb.2 hx hy) rfl hd (fun q hq => ?_)
  have := k q.1 q.2.1 q.2.2 hq
  rw [List.length_append, hn, hm] at this
  exact this

theorem Cn {α : Type} {enc : α → List Value} {kk by_ : Nat} {t e : TypeId} {z : Value} {x y : Operand} {a a' : Option Addr} {c c' n m : Nat} {B R : Am} {xs ys : List α} {l : List (Bool × Oper)} (zs : List α) (hz : xs ++ ys = zs) (hT : Ty P e kk by_ z) (hU : P.underlying t = some (.slice e)) (hE : Dm enc kk) (ho : Bi enc kk e a c B xs)
    (hV : List.Perm V (B ++ R)) (hs : Ch b0 Mk (V ++ L) enc kk a' ys) (hb : 2 * (n + m) * by_ ≤ 281474976710656 ∧ n + m ≤ 4611686018427387904) (hx : ev E x = some (.slice a n c) := by rfl) (hy : ev E y = some (.slice a' m c') := by rfl) (hn : xs.length = n := by rfl) (hm : ys.length = m := by rfl)
    (hd : Nat.blt d N = true := by rfl)
    (k : ∀ a2 c2 B2, Bi enc kk e a2 c2 B2 zs → JD P rd b0 Mk N D ops L (B2 ++ R) ((d, .slice a2 zs.length c2) :: E) l T) :
    JD P rd b0 Mk N D ops L V E ((false, { dst := some d, op := .call { callee := .builtin .append, args := #[x, y], argTypes := #[t, t] }, type := ty, pos := pos, after := after, guard := none }) :: l) T := by
  subst hz
  refine L6 hV (jT hT hU hE ho hs (fun p hp => List.mem_append_left _ (hV.mem_iff.2 (List.mem_append_left _ hp))) hn hm hb.1 hb.2 hx hy) rfl hd (fun q hq => ?_)
  have := k q.1 q.2.1 q.2.2 hq
  rw [List.length_append, hn, hm] at this
  exact this

theorem Jr {α : Type} {enc : α → List Value} {kk : Nat} {t e : TypeId} {x y : Operand} {v : Value} {a : Option Addr} {c o : Nat} {B R : Am} {xs : List α} {l : List Oper} (m : Nat) (u : α) (hS : ∀ w, (sizeOf t).run P w = .ok kk w) (hE : Dm enc kk) (ho : Bi enc kk e a c B xs) (hL : List.Perm L (B ++ R)) (hm : m < xs.length)
    (hx : ev E x = some (.pointer (some (ea a o))) := by rfl) (hy : ev E y = some v := by rfl) (hv : Cp v = enc u := by rfl) (hoo : o = m * kk := by first | rfl | omega)
    (k : ∀ B2, Bi enc kk e a c B2 (xs.set m u) → JL P rd b0 Mk N D ops (B2 ++ R) E l T) :
    JL P rd b0 Mk N D ops L E ({ dst := none, op := .store t x y, type := ty, pos := pos, after := after, guard := none } :: l) T :=
  wO hL (wP m u hS hE ho (fun p hp => hL.mem_iff.2 (List.mem_append_left _ hp)) hm hx hy hv hoo) rfl k

theorem AC8 {κ : Type} [DecidableEq κ] {kd : TypeDesc} {enc : κ → Value} {t kt et : TypeId} {x y u : Operand} {r ck : Nat} {es : Array MapEntry} {ml : List (κ × Value)} {v : Value} {R : Am} {l : List Oper} (q : κ) (hk : Mb kd enc) (hU : ∀ w, (underlying t).run P w = .ok (.map kt et) w) (hK : ∀ w, (underlying kt).run P w = .ok kd w)
    (hes : Hg enc es ml) (hnew : ∀ p ∈ ml, p.1 ≠ q) (hL : List.Perm L ((r, Obj.map es ck) :: R)) (hx : ev E x = some (.map (some r)) := by rfl) (hy : ev E y = some (enc q) := by rfl) (hu : ev E u = some v := by rfl)
    (k : ∀ es2 ck2, Hg enc es2 (ml ++ [(q, v)]) → JL P rd b0 Mk N D ops ((r, Obj.map es2 ck2) :: R) E l T) :
    JL P rd b0 Mk N D ops L E ({ dst := none, op := .mapUpdate t x y u, type := ty, pos := pos, after := after, guard := none } :: l) T :=
  wO (H := [(r, Obj.map es ck)]) hL (wT q hk hU hK hes hnew hx hy hu (hL.mem_iff.2 List.mem_cons_self)) rfl (fun x hq => k x.1 x.2 hq)
end
end Go.Proofs.YtdnjanhdnibkfaaGreatDoor.Jd

namespace Go.Proofs.YtdnjanhdnibkfaaGreatDoor.Jd
open Go.RowKit (Below)
set_option linter.unusedVariables false
set_option linter.unusedSimpArgs false

theorem Kk {P : Program} {b : Frame} {a : Act} {k : List Item} {cs : List Frame} {w : World} {c : Code} : step P (lone (b.atR a (.code (.scope c) :: k)) cs w) = .next (lone (b.atR a (.code c :: .inScope c :: k)) cs w) :=
  step_lone_go (by simp [stepG, stepG.exec, Frame.atR])
theorem cZ {P : Program} {b : Frame} {a : Act} {k : List Item} {cs : List Frame} {w : World} {c : Code} : step P (lone (b.atR a (.inScope c :: k)) cs w) = .next (lone (b.atR a k) cs w) :=
  step_lone_go (by simp [stepG, stepG.exec, Frame.atR])

section
variable {P : Program} {rd : Option Nat} {b0 : World} {Mk : List Nat} {N : Nat} {D : List Deferred} {ops : Array Oper} {L V : Am} {E : Eg} {T : Act → World → Prop} {Q : Exit → Act → World → Prop}
variable {op : Op} {ty : TypeId} {pos : String} {after : Array Edge} {d : Nat}

theorem L7 {c : Code} (h : J P rd b0 Mk N D L E c (Exit.noGoto Q)) : J P rd b0 Mk N D L E (Code.scope c) Q := by
  intro a w ha hw b k cs hro hb hr
  have h0 : (lone (b.atR a (.code (.scope c) :: k)) cs w).fenced P (FW rd) := fenced_calm hb hr rfl
  obtain ⟨e, a₁, w₁, hq, harr⟩ := h a w ha hw b (.inScope c :: k) cs hro hb hr
  cases e with
  | normal => exact ⟨.normal, a₁, w₁, hq, .head h0 Kk (StepsIn.trans harr (.one (fenced_calm hb hr rfl) cZ))⟩
  | goto l => exact hq.elim
  | exit id => exact ⟨_, a₁, w₁, hq, .of_steps (.one h0 Kk) (e := .exit id) ⟨fun k' hk => harr.1 k' (by simpa [exitTo] using hk), fun hr hk => harr.2 hr (by simpa [exitTo] using hk)⟩⟩
  | ret => exact ⟨_, a₁, w₁, hq, .of_steps (.one h0 Kk) harr⟩
  | panic ch => exact ⟨_, a₁, w₁, hq, .of_steps (.one h0 Kk) harr⟩
  | outgrown => exact ⟨_, a₁, w₁, hq, .of_steps (.one h0 Kk) harr⟩
theorem jV (h : JX b0 Mk N D L E Q .normal) : JX b0 Mk N D L E (Exit.noGoto Q) .normal := h
theorem Aa {f : Operand} {l : List Operand} {tys : Array TypeId} {k : FuncId} {fs cs vs args : List Value} (hc : ∀ args w, (callFunc k args).run P w = .ok (.enter k args) w)
    (hf : ev E f = some (.func (.func k) fs.toArray cs.toArray) := by rfl) (ha : B4 E l = some vs := by rfl) (he : fs ++ vs ++ cs = args := by rfl) :
    Lz P N D b0 Mk L E (.call { callee := .value f, args := l.toArray, argTypes := tys }) ty k args := he ▸ AC3 hc hf ha

theorem Yr {t e t' : TypeId} {x y : Operand} {a : Option Addr} {n c : Nat} (hU : ∀ w, (underlying t).run P w = .ok (.slice e) w) (hx : ev E x = some (.slice a n c) := by rfl) (hy : ev E y = some (.slice none 0 0) := by rfl) : Cm P N D b0 Mk L E (.binOp .eql t x y t') ty (.bool a.isNone) := fun ac w ha _ => by
  have h : ∀ d, (Op.equalIn (d + 1) t (.slice a n c) (.slice none 0 0)).run P w = .ok a.isNone w := fun d => by
    unfold Op.equalIn
    cases a <;> simp [hU]
  have h1 : (binOp .eql t (.slice a n c) (.slice none 0 0)).run P w = .ok (.bool a.isNone) w := by
    show (do pure (.bool (← Op.equal t (.slice a n c) (.slice none 0 0))) : Sem Value).run P w = _
    simp only [Sem.run_bind, Op.equal, Op.maxDepth, h 9999, Result.andThen_ok, Sem.run_pure]
  simp only [Em, execOp, ha.eval hx, ha.eval hy, eqGuard, Sem.run_bind]
  simp [h1]

def Hb (B : Am) {α : Type} (enc : α → List Value) (k : Nat) (a : Option Addr) (xs : List α) : Prop := ∀ w : World, (∀ p ∈ B, w.heap[p.1]? = some p.2) → Sl w enc k a xs

theorem Hb.slj {B : Am} {α : Type} {enc : α → List Value} {k : Nat} {a : Option Addr} {xs : List α} (h : Hb B enc k a xs) (hB : ∀ p ∈ B, p ∈ L := by intro p hp; repeat (first | exact hp | exact List.mem_append_left _ hp | apply List.mem_append_right | apply List.mem_cons_of_mem)) : Ch b0 Mk L enc k a xs :=
  fun w hw => h w fun p hp => hw.own p (hB p hp)
theorem Hb.mono {B B' : Am} {α : Type} {enc : α → List Value} {k : Nat} {a : Option Addr} {xs : List α} (h : Hb B enc k a xs) (hB : ∀ p ∈ B, p ∈ B') : Hb B' enc k a xs :=
  fun w hw => h w fun p hp => hw p (hB p hp)
theorem Hb.nil {B : Am} {α : Type} {enc : α → List Value} {k : Nat} {a : Option Addr} : Hb B enc k a [] := fun _ _ => Sl.nil
theorem Bi.slb {α : Type} {enc : α → List Value} {k : Nat} {e : TypeId} {a : Option Addr} {c : Nat} {B B' : Am} {xs : List α} (h : Bi enc k e a c B xs) (hE : Dm enc k) (hB : ∀ p ∈ B, p ∈ B' := by intro p hp; repeat (first | exact hp | exact List.mem_append_left _ hp | apply List.mem_append_right | apply List.mem_cons_of_mem)) : Hb B' enc k a xs :=
  fun _ hw => h.sl hE fun p hp => hw p (hB p hp)

theorem Sl.none {α : Type} {enc : α → List Value} {k : Nat} {xs : List α} {w : World} (h : Sl w enc k none xs) : xs = [] := by
  cases xs with
  | nil => rfl
  | cons x r => obtain ⟨b, off, h1, _⟩ := h 0 x rfl; cases h1

theorem Sl.lt {w : World} {α : Type} {enc : α → List Value} {k : Nat} {p : Addr} {xs : List α} (h : Sl w enc k (some p) xs) (hE : Dm enc k) (hx : xs ≠ []) : p.block < w.heap.size := by
  cases xs with
  | nil => exact absurd rfl hx
  | cons x r =>
    obtain ⟨b, off, h1, _, h3⟩ := h 0 x rfl
    have e1 := Option.some.inj h1
    have hp : 0 < (enc x).length := by rw [hE.len]; exact hE.pos
    have hc := h3 0 _ (List.getElem?_eq_getElem hp)
    have := World.block_lt_of_cell? w _ hc
    rw [e1]; exact this
def oY {α : Type} (a : Option Addr) (xs : List α) (k : Nat) : Prop := ∀ p, a = some p → xs ≠ [] → k ≠ p.block
theorem Sl.notIn {w : World} {α : Type} {enc : α → List Value} {k n : Nat} {a : Option Addr} {xs : List α} (h : Sl w enc k a xs) (hE : Dm enc k) (hn : w.heap.size ≤ n) : oY a xs n := fun p hp hx e => by
  subst hp
  have := h.lt hE hx
  omega
theorem Ch.of_world {α : Type} {enc : α → List Value} {k : Nat} {a : Option Addr} {xs : List α} (h : Sl b0 enc k a xs) (hM : ∀ m ∈ Mk, oY a xs m) : Ch b0 Mk L enc k a xs := fun w hw i x hx => by
  obtain ⟨b, off, h1, h2, h3⟩ := h i x hx
  refine ⟨b, off, h1, h2, fun j v hv => ?_⟩
  have hc := h3 j v hv
  have hlt := World.block_lt_of_cell? b0 _ hc
  exact Pg hc (hw.same b hlt (fun hm => hM b hm _ h1 (fun e => by subst e; simp at hx) rfl))

theorem wU {α : Type} {enc : α → List Value} {k by_ : Nat} {t e : TypeId} {z : Value} {x y : Operand} {a a' : Option Addr} {c c' n : Nat} {B : Am} {xs ys : List α} (hT : Ty P e k by_ z) (hU : P.underlying t = some (.slice e)) (hE : Dm enc k) (ho : Bi enc k e a c B xs)
    (hs : Ch b0 Mk L enc k a' ys) (hB : ∀ p ∈ B, p ∈ L) (hn : xs.length = n) (hm : ys.length = n) (hx : ev E x = some (.slice a n c) := by rfl) (hy : ev E y = some (.slice a' n c') := by rfl) :
    Rb P N D b0 Mk L E (.call { callee := .builtin .copy, args := #[x, y], argTypes := #[t, t] }) ty B Am (fun _ => .value (.int .i64 n)) (fun q => q) (fun q => Bi enc k e a c q ys) := by
  intro ac w ha hw
  obtain ⟨i, hi, rfl, rfl, hz⟩ := hT.ex
  have Ns : ∀ (v' : Value) (w' : World), (Builtin.copy_ #[t, t] ty #[.slice a n c, .slice a' n c']).run P w = .ok v' w' →
      (execOp ac.eval (Em (.call { callee := .builtin .copy, args := #[x, y], argTypes := #[t, t] }) ty)).run P w = .ok (.value v') w' := fun v' w' h => by
    simp [Em, execOp, resolve, invoke, builtin, ha.eval hx, ha.eval hy, h]
  have hsl := hs w hw
  have hmin : Nat.min n n = n := Nat.min_self n
  rcases ho with ⟨rfl, rfl, rfl⟩ | ⟨r, cur, fz, rfl, rfl, hfz, h1, h2, h3⟩
  · simp at hn; subst hn
    have : ys = [] := List.length_eq_zero_iff.1 hm
    subst this
    refine ⟨[], w, Ns _ _ ?_, Tr.refl (fun _ h => by cases h) (by simp [keys]), Bi.nil⟩
    rcases a with _ | ad <;> rcases a' with _ | ad' <;> simp [Builtin.copy_, run_underlying hU, Builtin.lenOf, Builtin.firstCells, sizeOf, typeInfo, hi, loadCells, loadCellsFrom, storeCells, goInt]
  · have hh : w.heap[r]? = some (.cells cur e fz) := hw.own _ (hB _ List.mem_cons_self)
    have hfl := Ck hE ys
    have hle : n * i.size ≤ c * i.size := Nat.mul_le_mul_right _ z8
    have hst := Fj P r 0 e fz (Dx enc ys) 0 cur w hh hfz (by rw [hfl, hm]; omega) (Uq hE ys)
    refine ⟨[(r, .cells (cur.toList.take (0 + 0) ++ Dx enc ys ++ cur.toList.drop (0 + 0 + (Dx enc ys).length)).toArray e fz)], _, Ns _ _ ?_, Wj hh, Bi.fullF ?_ z8 ?_ ?_⟩
    · rcases a' with _ | ad
      · have : ys = [] := Sl.none hsl
        subst this
        have hn0 : n = 0 := by simpa using hm.symm
        subst hn0
        simp only [Dx, List.map_nil, List.flatten_nil] at hst ⊢
        simp [Builtin.copy_, run_underlying hU, Builtin.lenOf, Builtin.firstCells, sizeOf, typeInfo, hi, hst, goInt]
      · have hl : (loadCells ad (n * i.size)).run P w = .ok (Dx enc ys).toArray w := by
          rw [← hm, ← hfl]
          have := Sl.cells hE hsl ys.length (Nat.le_refl _)
          rw [List.take_length] at this
          exact run_loadCells_list w ad _ this
        simp [Builtin.copy_, run_underlying hU, Builtin.lenOf, Builtin.firstCells, sizeOf, typeInfo, hi, hmin, hl, hst, goInt]
    · refine hfz.imp id fun h => Nat.le_trans (Nat.le_of_eq ?_) h
      simp [hfl, hm, h2]; omega
    · simp [hfl, hm, h2]; omega
    · simp only [Nat.add_zero, List.take_zero, List.nil_append, Nat.zero_add]
      rw [List.take_left' (by rw [hfl])]
theorem Ys {α : Type} {enc : α → List Value} {k by_ : Nat} {t e : TypeId} {z : Value} {x y : Operand} {a a' : Option Addr} {c c' n : Nat} {B R : Am} {xs ys : List α} {l : List Oper} (hT : Ty P e k by_ z) (hU : P.underlying t = some (.slice e)) (hE : Dm enc k) (ho : Bi enc k e a c B xs)
    (hL : List.Perm L (B ++ R)) (hs : Ch b0 Mk L enc k a' ys) (hn : xs.length = n) (hm : ys.length = n) (hx : ev E x = some (.slice a n c) := by rfl) (hy : ev E y = some (.slice a' n c') := by rfl)
    (hd : Nat.blt d N = true := by rfl)
    (kk : ∀ B2, Bi enc k e a c B2 ys → JL P rd b0 Mk N D ops (B2 ++ R) ((d, .int .i64 n) :: E) l T) :
    JL P rd b0 Mk N D ops L E ({ dst := some d, op := .call { callee := .builtin .copy, args := #[x, y], argTypes := #[t, t] }, type := ty, pos := pos, after := after, guard := none } :: l) T :=
  nF hL (wU hT hU hE ho hs (fun p hp => hL.mem_iff.2 (List.mem_append_left _ hp)) hn hm hx hy) rfl hd (fun q hq => kk q hq)
end
section
variable {P : Program} {rd : Option Nat} {b0 : World} {Mk : List Nat} {N : Nat} {D : List Deferred} {ops : Array Oper} {L V : Am} {E : Eg} {T : Act → World → Prop}
variable {ty : TypeId} {pos : String} {after : Array Edge} {d : Nat}
theorem fT {α : Type} {enc : α → List Value} {k by_ : Nat} {t e : TypeId} {z : Value} {x y : Operand} {a a' : Option Addr} {c c' n : Nat} {B R : Am} {xs ys : List α} {l : List (Bool × Oper)} (hT : Ty P e k by_ z) (hU : P.underlying t = some (.slice e)) (hE : Dm enc k) (ho : Bi enc k e a c B xs)
    (hV : List.Perm V (B ++ R)) (hs : Ch b0 Mk (V ++ L) enc k a' ys) (hn : xs.length = n) (hm : ys.length = n) (hx : ev E x = some (.slice a n c) := by rfl) (hy : ev E y = some (.slice a' n c') := by rfl)
    (hd : Nat.blt d N = true := by rfl)
    (kk : ∀ B2, Bi enc k e a c B2 ys → JD P rd b0 Mk N D ops L (B2 ++ R) ((d, .int .i64 n) :: E) l T) :
    JD P rd b0 Mk N D ops L V E ((false, { dst := some d, op := .call { callee := .builtin .copy, args := #[x, y], argTypes := #[t, t] }, type := ty, pos := pos, after := after, guard := none }) :: l) T :=
  L6 hV (wU hT hU hE ho hs (fun p hp => List.mem_append_left _ (hV.mem_iff.2 (List.mem_append_left _ hp))) hn hm hx hy) rfl hd (fun q hq => kk q hq)
end
theorem fU {P : Program} {t : TypeId} {w : World} (d : Nat) (k : IntKind) (p q : Int) (hU : ∀ w, (underlying t).run P w = .ok (.int k) w) : (Op.equalIn (d + 1) t (.int k p) (.int k q)).run P w = .ok (decide (p = q)) w := by
  unfold Op.equalIn
  simp only [Sem.run_bind, hU, Result.andThen_ok]
  by_cases h : p = q <;> simp [h]
theorem Bi.le {α : Type} {enc : α → List Value} {k : Nat} {e : TypeId} {a : Option Addr} {c : Nat} {B : Am} {xs : List α} (h : Bi enc k e a c B xs) : xs.length ≤ c := by
  rcases h with ⟨_, _, rfl⟩ | ⟨_, _, _, _, _, _, h, _, _⟩
  · simp
  · exact h
theorem Hb.take {B : Am} {α : Type} {enc : α → List Value} {k : Nat} {a : Option Addr} {xs : List α} (h : Hb B enc k a xs) (n : Nat) : Hb B enc k a (xs.take n) := fun w hw i x hx => h w hw i x (by
  rw [List.getElem?_take] at hx
  split at hx
  · exact hx
  · cases hx)
theorem wV (A B C : Am) : List.Perm (A ++ (B ++ C)) (B ++ (A ++ C)) := by
  rw [← List.append_assoc, ← List.append_assoc]; exact List.perm_append_comm.append_right _
end Go.Proofs.YtdnjanhdnibkfaaGreatDoor.Jd

namespace Go.Proofs.YtdnjanhdnibkfaaGreatDoor.Jd
open Go.ChangeShapes Go.WideShapes Go.ChangeAt Go.RowKit
set_option linter.unusedVariables false
set_option linter.unusedSimpArgs false
section
variable {H : Type} {encH : TypeId × Value → H} {P : Program} {W W' : World}

theorem Xi {α : Type} (p : Nat → α → Prop) : ∀ n, (∀ i, i < n → ∃ x, p i x) → ∃ xs : List α, xs.length = n ∧ ∀ (i : Nat) (x : α), xs[i]? = some x → p i x
  | 0, _ => ⟨[], rfl, fun i x h => by simp at h⟩
  | n + 1, h => by
    obtain ⟨xs, h1, h2⟩ := Xi p n (fun i hi => h i z8)
    obtain ⟨x, hx⟩ := h n z8
    refine ⟨xs ++ [x], by simp [h1], fun i y hy => ?_⟩
    rcases Nat.lt_or_ge i n with hi | hi
    · rw [List.getElem?_append_left z8] at hy; exact h2 i y hy
    · rw [List.getElem?_append_right z8] at hy
      have : i - xs.length = 0 := by
        have := (List.getElem?_eq_some_iff.1 hy).1
        simp at this; omega
      rw [this] at hy
      have : i = n := by omega
      subst this
      have : y = x := by simpa using hy.symm
      subst this; exact hx

def T6 {α : Type} (encH : TypeId × Value → H) (P : Program) (W : World) (e : TypeId) (enc : α → List Value) : Prop :=
  ∀ (n : Nat) (cs : List Value) (y : DataW H × List MemPlace), DataW.trod encH P W 0 (fun _ => true) true n e cs = some y → ∃ x, cs = enc x

theorem sE {e : TypeId} {k : IntKind} (he : P.underlying e = some (.int k)) : T6 encH P W e (fun x : Int => [Value.int k x]) := fun n cs y h => by
  obtain ⟨m, rfl, _, _⟩ := DataW.trod_int he h
  exact ⟨m, rfl⟩
theorem L8 {α : Type} {enc : α → List Value} {k : Nat} {t e : TypeId} {n : Nat} {cs : List Value} {y : DataW H × List MemPlace} (ht : P.underlying t = some (.slice e)) (hk : P.cellsOf e = k) (hE : Dm enc k) (ho : T6 encH P W e enc)
    (h : DataW.trod encH P W 0 (fun _ => true) true n t cs = some y) : ∃ a c, ∃ xs : List α, cs = [.slice a xs.length c] ∧ xs.length ≤ c ∧ Sl W enc k a xs := by
  subst hk
  rcases DataW.trod_slice ht h with ⟨rfl, _⟩ | ⟨a, len, cap, elems, rest, m, _, rfl, _, _, hl, _, hlen, hel, _, _⟩
  · exact ⟨none, 0, [], rfl, Nat.le_refl _, Sl.nil⟩
  · obtain ⟨xs, hxl, hxs⟩ := Xi (fun i (x : α) => W.cells? 0 (a.add (i * P.cellsOf e)) (P.cellsOf e) = some (enc x)) len (fun i hi => by
      have h1 := hel i hi
      rw [List.getElem?_eq_getElem z8, Option.bind_eq_some_iff] at h1
      obtain ⟨cs', h2, h3⟩ := h1
      obtain ⟨x, rfl⟩ := ho _ _ _ h3
      exact ⟨x, h2⟩)
    have hspot : xs ≠ [] → a.spot = none := fun hne => by
      obtain ⟨x, r, rfl⟩ := List.exists_cons_of_ne_nil hne
      have h1 := (World.cells?_some (hxs 0 x rfl)).2.2 0 hE.pos
      have hp : 0 < (enc x).length := by rw [hE.len]; exact hE.pos
      rw [List.getElem?_eq_getElem hp] at h1
      have e0 : (a.add (0 * P.cellsOf e)).add 0 = a := by simp [Addr.add]
      rw [e0] at h1
      unfold World.cell? at h1
      split at h1
      · split at h1
        · cases h1
        · rename_i hs; simpa using hs
      · cases h1
    refine ⟨some a, cap, xs, by rw [hxl], by omega, fun i x hx => ?_⟩
    have hsp := hspot (fun e => by subst e; simp at hx)
    obtain ⟨b, off, sp⟩ := a
    simp only at hsp
    subst hsp
    refine ⟨b, off, rfl, hE.len x, fun j v hv => ?_⟩
    have hj := (List.getElem?_eq_some_iff.1 hv).1
    have h1 := (World.cells?_some (hxs i x hx)).2.2 j (by rw [hE.len] at hj; exact hj)
    rw [Ao, Ao, hv] at h1
    exact h1

theorem Sy (hl : laidOutB P = true) {sp : Nat → Bool} (hb : Below W.heap.size W W') : ∀ {ts : List TypeId} {vs : List Value} {ds : List (DataW H)} {ps : List MemPlace}, (ts.all fun t => P.readableRec t && decide (t < P.types.size)) = true →
    DataW.TrodAll encH P W 0 (fun _ => true) true ts vs ds ps → (∀ x ∈ ps, x.block < W.heap.size) → (∀ x ∈ ps, sp x.block = true) → DataW.TrodAll encH P W' 0 sp true ts vs ds ps
  | [], [], [], _, _, h, _, _ => h
  | t :: ts, v :: vs, d :: ds, ps, hr, h, hlt, hsp => by
    obtain ⟨p, q, h1, h2, rfl⟩ := h
    simp only [List.all_cons, Bool.and_eq_true, decide_eq_true_eq] at hr
    exact ⟨p, q, WideElems.Trod_stays hl hr.1.1 hr.1.2 h1 (fun x hx => hb.same (hlt x (List.mem_append_left _ hx))) (fun x hx => hsp x (List.mem_append_left _ hx)),
      Sy hl hb hr.2 h2 (fun x hx => hlt x (List.mem_append_right _ hx)) (fun x hx => hsp x (List.mem_append_right _ hx)), rfl⟩
  | [], _ :: _, _, _, _, h, _, _ => by cases h
  | [], [], _ :: _, _, _, h, _, _ => by cases h
  | _ :: _, [], _, _, _, h, _, _ => by cases h
  | _ :: _, _ :: _, [], _, _, h, _, _ => by cases h

theorem aT {sp : Nat → Bool} {b : Nat} {hd : Bool} : ∀ {ts : List TypeId} {vs : List Value} {ds : List (DataW H)} {ps : List MemPlace}, DataW.TrodAll encH P W b sp hd ts vs ds ps → ds.length = ts.length
  | [], [], [], _, _ => rfl
  | t :: ts, v :: vs, d :: ds, ps, h => by
    obtain ⟨p, q, _, h2, _⟩ := h
    simp [aT h2]
  | [], _ :: _, _, _, h => by cases h
  | [], [], _ :: _, _, h => by cases h
  | _ :: _, [], _, _, h => by cases h
  | _ :: _, _ :: _, [], _, h => by cases h
theorem wW {f : Func} {s : ChangeSpec} {args : Array Value} {ds gs : List (DataW H)} {before : List MemPlace} {tb : TypeId} (hl : laidOutB P = true) (hr : (f.params.toList.all fun t => P.readableRec t && decide (t < P.types.size)) = true)
    (hrt : f.resultTypes = #[tb]) (hb : P.underlying tb = some .bool) (hvars : s.vars = []) (hfn : ∀ ds : List (DataW H), ds.length = f.params.toList.length → (s.fn H ds).results = [.lit (.bool true)] ∧ (s.fn H ds).args = ds ∧ (s.fn H ds).vars = [])
    (hW : DataW.Whole encH P f.params.toList s.vars false W args.toList ds gs before) (hE : aD W W') : s.post encH P f false true false false W args (.bool true) W' := by
  have hW' := hW
  obtain ⟨p, q, hA, hV, hps, hz, hn⟩ := hW
  rw [hvars] at hV
  obtain ⟨rfl, rfl⟩ := trodVars_none hV
  rw [List.append_nil] at hps
  subst hps
  have hlen := aT hA
  obtain ⟨e1, e2, e3⟩ := hfn ds hlen
  have hlt : ∀ x ∈ before, x.block < W.heap.size := fun x hx => by simpa using hW'.lt x hx
  refine ⟨ds, [], before, [], before, [], hW', ?_, ?_, ?_, hE.frame _, fun h => by cases h⟩
  · rw [List.append_nil, e1, hrt]
    exact trodAll_cons_mk (shut_bool hb _) trodAll_mk0
  · rw [List.append_nil, e2]
    exact Sy hl hE hr hA hlt (fun x hx => by simpa using hlt x hx)
  · rw [List.append_nil, e3, hvars]
    exact rfl
end
end Go.Proofs.YtdnjanhdnibkfaaGreatDoor.Jd

namespace Go.Proofs.YtdnjanhdnibkfaaGreatDoor.Jd
open Go.RowKit (Below)
set_option linter.unusedVariables false
set_option linter.unusedSimpArgs false

def Is {α : Type} (a b : α) : Prop := a = b
theorem Is.refl {α : Type} (a : α) : Is a a := rfl
theorem Is.eq {α : Type} {a b : α} (h : Is a b) : a = b := h
theorem Is.pos {α : Type} {a x y : α} {c : Prop} {i : Decidable c} (h : Is a (@ite α c i x y)) (hc : c) : Is a x := Eq.trans h (if_pos hc)
theorem Is.neg {α : Type} {a x y : α} {c : Prop} {i : Decidable c} (h : Is a (@ite α c i x y)) (hc : ¬ c) : Is a y := Eq.trans h (if_neg hc)
theorem Is.t {α : Type} {a x y : α} {b : Bool} {i : Decidable (b = true)} (h : Is a (@ite α (b = true) i x y)) (hc : b = true) : Is a x := Eq.trans h (if_pos hc)
theorem Is.f {α : Type} {a x y : α} {b : Bool} {i : Decidable (b = true)} (h : Is a (@ite α (b = true) i x y)) (hc : b = false) : Is a y := Eq.trans h (if_neg (by rw [hc]; exact Bool.noConfusion))
theorem Is.to {α : Type} {a b c : α} (h : Is a b) (k : b = c) : Is a c := Eq.trans h k
def AO2 {γ ε : Type} (x : Except ε Unit) (f : ε → γ) (g : γ) : γ := match x with | .error e => f e | .ok _ => g 
def wX {γ : Type} (_ : Unit) (g : γ) : γ := g 
theorem Is.ok0 {γ ε : Type} {A : γ} {x : Except ε Unit} {f : ε → γ} {g : γ} (h : Is A (AO2 x f g)) (hx : Is x (.ok ())) : Is A (g ) := by cases hx; exact h
theorem Is.rn0 {γ : Type} {A : γ} {x : Unit} {g : γ} (h : Is A (wX x g)) (hx : Is x ()) : Is A (g ) := by cases hx; exact h
def Fg {α1 γ ε : Type} (x : Except ε α1) (f : ε → γ) (g : α1 → γ) : γ := match x with | .error e => f e | .ok v => g v
def Ns {α1 γ : Type} (v : α1) (g : α1 → γ) : γ := g v
theorem Is.ok1 {α1 γ ε : Type} {A : γ} {x : Except ε α1} {f : ε → γ} {g : α1 → γ} {u1 : α1} (h : Is A (Fg x f g)) (hx : Is x (.ok u1)) : Is A (g u1) := by cases hx; exact h
theorem Is.er1 {α1 γ ε : Type} {A : γ} {x : Except ε α1} {f : ε → γ} {g : α1 → γ} {e : ε} (h : Is A (Fg x f g)) (hx : Is x (.error e)) : Is A (f e) := by cases hx; exact h
theorem Is.rn1 {α1 γ : Type} {A : γ} {x : α1} {g : α1 → γ} {u1 : α1} (h : Is A (Ns x g)) (hx : Is x u1) : Is A (g u1) := by cases hx; exact h
def Ho {α1 α2 γ ε : Type} (x : Except ε (α1 × α2)) (f : ε → γ) (g : α1 → α2 → γ) : γ := match x with | .error e => f e | .ok v => g v.1 v.2
def Iw {α1 α2 γ : Type} (v : (α1 × α2)) (g : α1 → α2 → γ) : γ := g v.1 v.2
theorem Is.ok2 {α1 α2 γ ε : Type} {A : γ} {x : Except ε (α1 × α2)} {f : ε → γ} {g : α1 → α2 → γ} {u1 : α1} {u2 : α2} (h : Is A (Ho x f g)) (hx : Is x (.ok (u1, u2))) : Is A (g u1 u2) := by cases hx; exact h
theorem Is.er2 {α1 α2 γ ε : Type} {A : γ} {x : Except ε (α1 × α2)} {f : ε → γ} {g : α1 → α2 → γ} {e : ε} (h : Is A (Ho x f g)) (hx : Is x (.error e)) : Is A (f e) := by cases hx; exact h
def Is.xr2 {α1 α2 γ : Type} {A : γ} {x : (α1 × α2)} {g : α1 → α2 → γ} (_ : Is A (Iw x g)) : (α1 × α2) := x
theorem Is.rn2 {α1 α2 γ : Type} {A : γ} {x : (α1 × α2)} {g : α1 → α2 → γ} {u1 : α1} {u2 : α2} (h : Is A (Iw x g)) (hx : Is x (u1, u2)) : Is A (g u1 u2) := by cases hx; exact h
def Xj {α1 α2 α3 γ ε : Type} (x : Except ε (α1 × α2 × α3)) (f : ε → γ) (g : α1 → α2 → α3 → γ) : γ := match x with | .error e => f e | .ok v => g v.1 v.2.1 v.2.2
def dA {α1 α2 α3 γ : Type} (v : (α1 × α2 × α3)) (g : α1 → α2 → α3 → γ) : γ := g v.1 v.2.1 v.2.2
theorem Is.ok3 {α1 α2 α3 γ ε : Type} {A : γ} {x : Except ε (α1 × α2 × α3)} {f : ε → γ} {g : α1 → α2 → α3 → γ} {u1 : α1} {u2 : α2} {u3 : α3} (h : Is A (Xj x f g)) (hx : Is x (.ok (u1, u2, u3))) : Is A (g u1 u2 u3) := by cases hx; exact h
theorem Is.er3 {α1 α2 α3 γ ε : Type} {A : γ} {x : Except ε (α1 × α2 × α3)} {f : ε → γ} {g : α1 → α2 → α3 → γ} {e : ε} (h : Is A (Xj x f g)) (hx : Is x (.error e)) : Is A (f e) := by cases hx; exact h
def Is.xr3 {α1 α2 α3 γ : Type} {A : γ} {x : (α1 × α2 × α3)} {g : α1 → α2 → α3 → γ} (_ : Is A (dA x g)) : (α1 × α2 × α3) := x
theorem Is.rn3 {α1 α2 α3 γ : Type} {A : γ} {x : (α1 × α2 × α3)} {g : α1 → α2 → α3 → γ} {u1 : α1} {u2 : α2} {u3 : α3} (h : Is A (dA x g)) (hx : Is x (u1, u2, u3)) : Is A (g u1 u2 u3) := by cases hx; exact h
def L9 {α1 α2 α3 α4 α5 α6 α7 α8 α9 γ : Type} (v : (α1 × α2 × α3 × α4 × α5 × α6 × α7 × α8 × α9)) (g : α1 → α2 → α3 → α4 → α5 → α6 → α7 → α8 → α9 → γ) : γ := g v.1 v.2.1 v.2.2.1 v.2.2.2.1 v.2.2.2.2.1 v.2.2.2.2.2.1 v.2.2.2.2.2.2.1 v.2.2.2.2.2.2.2.1 v.2.2.2.2.2.2.2.2
theorem Is.rn9 {α1 α2 α3 α4 α5 α6 α7 α8 α9 γ : Type} {A : γ} {x : (α1 × α2 × α3 × α4 × α5 × α6 × α7 × α8 × α9)} {g : α1 → α2 → α3 → α4 → α5 → α6 → α7 → α8 → α9 → γ} {u1 : α1} {u2 : α2} {u3 : α3} {u4 : α4} {u5 : α5} {u6 : α6} {u7 : α7} {u8 : α8} {u9 : α9} (h : Is A (L9 x g)) (hx : Is x (u1, u2, u3, u4, u5, u6, u7, u8, u9)) : Is A (g u1 u2 u3 u4 u5 u6 u7 u8 u9) := by cases hx; exact h
set_option linter.unusedVariables false
section
variable {P : Program} {rd : Option Nat} {b0 : World} {Mk : List Nat} {N : Nat} {D : List Deferred} {ops : Array Oper} {L V : Am} {E : Eg} {T : Act → World → Prop} {Q : Exit → Act → World → Prop}
theorem Yt {c : Code} {I : Act → World → Prop} (h : J P rd b0 Mk N D L E c (Jo I Q)) (k : ∀ a w, I a w → Q .normal a w) : J P rd b0 Mk N D L E c Q :=
  fun a w ha hw => wpIn_mono (h a w ha hw) fun e a w hq => by cases e <;> first | exact k _ _ hq | exact hq
def oZ (b0 : World) (Mk : List Nat) (N : Nat) (D : List Deferred) (Ls : Am) (Es : Eg) (I : Prop) : Act → World → Prop := fun a w => I ∧ Dk N D (Es) a ∧ SH b0 Mk (Ls) w
theorem pA {c : Code} (Ls : Am) (Es : Eg) (I : Prop) (h : J P rd b0 Mk N D L E c (Jo (oZ b0 Mk N D Ls Es I) Q)) (k : I → JX b0 Mk N D (Ls) (Es) Q .normal) : J P rd b0 Mk N D L E c Q :=
  Yt h fun a w ⟨hI, ha, hw⟩ => k hI a w ha hw
theorem Ur {Ls : Am} {Es : Eg} {I : Prop} (hI : I) (hE : Iq E (Es)) (hL : List.Perm L (Ls)) : JX b0 Mk N D L E (Jo (oZ b0 Mk N D Ls Es I) Q) .normal :=
  fun _ _ ha hw => ⟨hI, ha.sub hE, hw.perm hL⟩
def pB {σ1 : Type} (b0 : World) (Mk : List Nat) (N : Nat) (D : List Deferred) (Ls : σ1 → Am) (Es : σ1 → Eg) (I : σ1 → Prop) : Act → World → Prop := fun a w => ∃ s1 : σ1, I s1 ∧ Dk N D (Es s1) a ∧ SH b0 Mk (Ls s1) w
theorem M0 {σ1 : Type} {c : Code} (Ls : σ1 → Am) (Es : σ1 → Eg) (I : σ1 → Prop) (h : J P rd b0 Mk N D L E c (Jo (pB b0 Mk N D Ls Es I) Q)) (k : ∀ (s1 : σ1), I s1 → JX b0 Mk N D (Ls s1) (Es s1) Q .normal) : J P rd b0 Mk N D L E c Q :=
  Yt h fun a w ⟨s1, hI, ha, hw⟩ => k s1 hI a w ha hw
theorem jW {σ1 : Type} {Ls : σ1 → Am} {Es : σ1 → Eg} {I : σ1 → Prop} (s1 : σ1) (hI : I s1) (hE : Iq E (Es s1)) (hL : List.Perm L (Ls s1)) : JX b0 Mk N D L E (Jo (pB b0 Mk N D Ls Es I) Q) .normal :=
  fun _ _ ha hw => ⟨s1, hI, ha.sub hE, hw.perm hL⟩
def pC {σ1 σ2 σ3 σ4 : Type} (b0 : World) (Mk : List Nat) (N : Nat) (D : List Deferred) (Ls : σ1 → σ2 → σ3 → σ4 → Am) (Es : σ1 → σ2 → σ3 → σ4 → Eg) (I : σ1 → σ2 → σ3 → σ4 → Prop) : Act → World → Prop := fun a w => ∃ s1 : σ1, ∃ s2 : σ2, ∃ s3 : σ3, ∃ s4 : σ4, I s1 s2 s3 s4 ∧ Dk N D (Es s1 s2 s3 s4) a ∧ SH b0 Mk (Ls s1 s2 s3 s4) w
theorem pD {σ1 σ2 σ3 σ4 : Type} {c : Code} (Ls : σ1 → σ2 → σ3 → σ4 → Am) (Es : σ1 → σ2 → σ3 → σ4 → Eg) (I : σ1 → σ2 → σ3 → σ4 → Prop) (h : J P rd b0 Mk N D L E c (Jo (pC b0 Mk N D Ls Es I) Q)) (k : ∀ (s1 : σ1) (s2 : σ2) (s3 : σ3) (s4 : σ4), I s1 s2 s3 s4 → JX b0 Mk N D (Ls s1 s2 s3 s4) (Es s1 s2 s3 s4) Q .normal) : J P rd b0 Mk N D L E c Q :=
  Yt h fun a w ⟨s1, s2, s3, s4, hI, ha, hw⟩ => k s1 s2 s3 s4 hI a w ha hw
theorem Cz {σ1 σ2 σ3 σ4 : Type} {Ls : σ1 → σ2 → σ3 → σ4 → Am} {Es : σ1 → σ2 → σ3 → σ4 → Eg} {I : σ1 → σ2 → σ3 → σ4 → Prop} (s1 : σ1) (s2 : σ2) (s3 : σ3) (s4 : σ4) (hI : I s1 s2 s3 s4) (hE : Iq E (Es s1 s2 s3 s4)) (hL : List.Perm L (Ls s1 s2 s3 s4)) : JX b0 Mk N D L E (Jo (pC b0 Mk N D Ls Es I) Q) .normal :=
  fun _ _ ha hw => ⟨s1, s2, s3, s4, hI, ha.sub hE, hw.perm hL⟩
def pE {σ1 σ2 σ3 σ4 σ5 σ6 σ7 σ8 σ9 : Type} (b0 : World) (Mk : List Nat) (N : Nat) (D : List Deferred) (Ls : σ1 → σ2 → σ3 → σ4 → σ5 → σ6 → σ7 → σ8 → σ9 → Am) (Es : σ1 → σ2 → σ3 → σ4 → σ5 → σ6 → σ7 → σ8 → σ9 → Eg) (I : σ1 → σ2 → σ3 → σ4 → σ5 → σ6 → σ7 → σ8 → σ9 → Prop) : Act → World → Prop := fun a w => ∃ s1 : σ1, ∃ s2 : σ2, ∃ s3 : σ3, ∃ s4 : σ4, ∃ s5 : σ5, ∃ s6 : σ6, ∃ s7 : σ7, ∃ s8 : σ8, ∃ s9 : σ9, I s1 s2 s3 s4 s5 s6 s7 s8 s9 ∧ Dk N D (Es s1 s2 s3 s4 s5 s6 s7 s8 s9) a ∧ SH b0 Mk (Ls s1 s2 s3 s4 s5 s6 s7 s8 s9) w
theorem fV {σ1 σ2 σ3 σ4 σ5 σ6 σ7 σ8 σ9 : Type} {c : Code} (Ls : σ1 → σ2 → σ3 → σ4 → σ5 → σ6 → σ7 → σ8 → σ9 → Am) (Es : σ1 → σ2 → σ3 → σ4 → σ5 → σ6 → σ7 → σ8 → σ9 → Eg) (I : σ1 → σ2 → σ3 → σ4 → σ5 → σ6 → σ7 → σ8 → σ9 → Prop) (h : J P rd b0 Mk N D L E c (Jo (pE b0 Mk N D Ls Es I) Q)) (k : ∀ (s1 : σ1) (s2 : σ2) (s3 : σ3) (s4 : σ4) (s5 : σ5) (s6 : σ6) (s7 : σ7) (s8 : σ8) (s9 : σ9), I s1 s2 s3 s4 s5 s6 s7 s8 s9 → JX b0 Mk N D (Ls s1 s2 s3 s4 s5 s6 s7 s8 s9) (Es s1 s2 s3 s4 s5 s6 s7 s8 s9) Q .normal) : J P rd b0 Mk N D L E c Q :=
  Yt h fun a w ⟨s1, s2, s3, s4, s5, s6, s7, s8, s9, hI, ha, hw⟩ => k s1 s2 s3 s4 s5 s6 s7 s8 s9 hI a w ha hw
theorem Hu {σ1 σ2 σ3 σ4 σ5 σ6 σ7 σ8 σ9 : Type} {Ls : σ1 → σ2 → σ3 → σ4 → σ5 → σ6 → σ7 → σ8 → σ9 → Am} {Es : σ1 → σ2 → σ3 → σ4 → σ5 → σ6 → σ7 → σ8 → σ9 → Eg} {I : σ1 → σ2 → σ3 → σ4 → σ5 → σ6 → σ7 → σ8 → σ9 → Prop} (s1 : σ1) (s2 : σ2) (s3 : σ3) (s4 : σ4) (s5 : σ5) (s6 : σ6) (s7 : σ7) (s8 : σ8) (s9 : σ9) (hI : I s1 s2 s3 s4 s5 s6 s7 s8 s9) (hE : Iq E (Es s1 s2 s3 s4 s5 s6 s7 s8 s9)) (hL : List.Perm L (Ls s1 s2 s3 s4 s5 s6 s7 s8 s9)) : JX b0 Mk N D L E (Jo (pE b0 Mk N D Ls Es I) Q) .normal :=
  fun _ _ ha hw => ⟨s1, s2, s3, s4, s5, s6, s7, s8, s9, hI, ha.sub hE, hw.perm hL⟩
def AC9 (P : Program) (rd : Option Nat) (c : Code) (Q : Exit → Act → World → Prop) (a : Act) (w : World) : Prop :=
  ∀ (b : Frame) (k : List Item) (cs : List Frame), b.roundOf = (FW rd).round → (FW rd).fn b.fn → (FW rd).room (cs.length + 1 + 0) →
    ∃ e a' w', Q e a' w' ∧ ArrivesIn (Machine.fenced P (FW rd)) P (lone (b.atR a (.code c :: .inLoop c :: k)) cs w) b k cs e a' w'
def wY (P : Program) (rd : Option Nat) (c : Code) (Q : Exit → Act → World → Prop) : Exit → Act → World → Prop := Exit.then (AC9 P rd c Q) Q
theorem jX {c : Code} (h : J P rd b0 Mk N D L E c (wY P rd c Q)) : JX b0 Mk N D L E (wY P rd c Q) .normal := by
  intro a w ha hw b k cs hro hb hr
  obtain ⟨e, a₁, w₁, hq, harr⟩ := h a w ha hw b (.inLoop c :: k) cs hro hb hr
  cases e with
  | normal =>
    obtain ⟨e₂, a₂, w₂, hq₂, harr₂⟩ := hq b k cs hro hb hr
    exact ⟨e₂, a₂, w₂, hq₂, .of_steps (StepsIn.trans harr (.one (fenced_calm hb hr rfl) stepR_inLoop)) harr₂⟩
  | exit id => exact ⟨_, a₁, w₁, hq, .pass (x := .inLoop c) rfl (fun _ _ => .inl Hs) harr⟩
  | goto l => exact ⟨_, a₁, w₁, hq, .pass (x := .inLoop c) rfl (fun _ _ => .inl Hs) harr⟩
  | ret => exact ⟨_, a₁, w₁, hq, .pass (x := .inLoop c) rfl (fun _ _ => .inl Hs) harr⟩
  | panic ch => exact ⟨_, a₁, w₁, hq, .pass (x := .inLoop c) rfl (fun _ _ => .inl Hs) harr⟩
  | outgrown => exact ⟨_, a₁, w₁, hq, .pass (x := .inLoop c) rfl (fun _ _ => .inl Hs) harr⟩
theorem aU {c : Code} (h : J P rd b0 Mk N D L E c (wY P rd c Q)) : J P rd b0 Mk N D L E (Code.loop c) Q := by
  intro a w ha hw b k cs hro hb hr
  obtain ⟨e, a', w', hq, harr⟩ := jX h a w ha hw b k cs hro hb hr
  exact ⟨e, a', w', hq, .of_steps (.one (fenced_calm hb hr rfl) stepR_loop) harr⟩

variable {op : Op} {ty : TypeId} {pos : String} {after : Array Edge} {d : Nat}
def nG (N : Nat) (D : List Deferred) (E : Eg) (K : Act → World → Prop) (d : Nat) : Ending → World → Prop := fun e w' => ∃ v, e = .returned v ∧ ∀ a, Dk N D E a → K (a.put (some d) v) w'

theorem Rd {f : FuncId} {fn : Func} {c : Code} {args : List Value} {N' : Nat} {R : Ending → World → Prop} {w : World} (hw : SH b0 Mk L w) (hf : P.funcs[f]? = some fn) (hN : fn.ntmps = N') (hb : fn.body = some c) (ha : Nat.ble args.length N' = true)
    (h : J P none b0 Mk N' [] L (Ld 0 args) c (bodyPost P fn R)) : Calls P f args.toArray w R := by
  subst hN
  exact callsIn_wide.1 (callsIn_of_wp (F := FW none) (n := 0) hf hb trivial (h _ w (Kh args ha) hw))
theorem dR {f : FuncId} {fn : Func} {c : Code} {args : List Value} {N' : Nat} {R : Ending → World → Prop} {w : World} (hw : SH b0 Mk L w) (hf : P.funcs[f]? = some fn) (hN : fn.ntmps = N') (hb : fn.body = some c) (ha : Nat.ble args.length N' = true)
    (h : J P none b0 Mk N' [] L (Ld 0 args) c (bodyPostM (FW none) 0 P fn R)) : Calls P f args.toArray w R := by
  subst hN
  exact callsIn_wide.1 (callsIn_of_wp_marks (F := FW none) (n := 0) hf hb trivial (h _ w (Kh args ha) hw))

theorem Bh {l : List Oper} {f : FuncId} {fn : Func} {c : Code} {args : List Value} {N' : Nat} (hc : Lz P N D b0 Mk L E op ty f args) (hf : P.funcs[f]? = some fn) (hN : fn.ntmps = N')
    (h : J P none b0 Mk N' [] L (Ld 0 args) c (bodyPost P fn (nG N D E (Mn P rd ops T l) d))) (hb : fn.body = some c := by rfl) (ha : Nat.ble args.length N' = true := by rfl) (hn : Be op = true := by rfl) :
    JL P rd b0 Mk N D ops L E ({ dst := some d, op := op, type := ty, pos := pos, after := after, guard := none } :: l) T := by
  intro a w ha0 hw
  unfold Mn
  rw [if_pos (by rfl)]
  refine Ea (Bf hn) (by rw [Cj]; exact hc a w ha0 hw) ((Rd hw hf hN hb ha h).mono fun e w' he => ?_)
  obtain ⟨v, rfl, hk⟩ := he
  exact ⟨v, rfl, hk a ha0⟩
theorem fW {l : List (Bool × Oper)} {f : FuncId} {fn : Func} {c : Code} {args : List Value} {N' : Nat} (hc : Lz P N D b0 Mk (V ++ L) E op ty f args) (hf : P.funcs[f]? = some fn) (hN : fn.ntmps = N')
    (h : J P none b0 Mk N' [] (V ++ L) (Ld 0 args) c (bodyPost P fn (nG N D E (fun a' w' => ∃ S' : World → Prop, (∀ x, S' x → SH b0 Mk L x) ∧ S' w' ∧ Qx P rd ops T S' l a' w') d))) (hb : fn.body = some c := by rfl) (ha : Nat.ble args.length N' = true := by rfl) (hn : Be op = true := by rfl) :
    JD P rd b0 Mk N D ops L V E ((false, { dst := some d, op := op, type := ty, pos := pos, after := after, guard := none }) :: l) T := by
  intro a w ha0 hw
  unfold Qx
  rw [if_pos (by rfl)]
  refine Ea (Bf hn) (by rw [Cj]; exact hc a w ha0 hw) ((Rd hw hf hN hb ha h).mono fun e w' he => ?_)
  obtain ⟨v, rfl, hk⟩ := he
  exact ⟨v, rfl, hk a ha0⟩
theorem Ut {l : List Oper} {f : FuncId} {fn : Func} {c : Code} {args : List Value} {N' : Nat} (hc : Lz P N D b0 Mk L E op ty f args) (hf : P.funcs[f]? = some fn) (hN : fn.ntmps = N')
    (h : J P none b0 Mk N' [] L (Ld 0 args) c (bodyPostM (FW none) 0 P fn (nG N D E (Mn P rd ops T l) d))) (hb : fn.body = some c := by rfl) (ha : Nat.ble args.length N' = true := by rfl) (hn : Be op = true := by rfl) :
    JL P rd b0 Mk N D ops L E ({ dst := some d, op := op, type := ty, pos := pos, after := after, guard := none } :: l) T := by
  intro a w ha0 hw
  unfold Mn
  rw [if_pos (by rfl)]
  refine Ea (Bf hn) (by rw [Cj]; exact hc a w ha0 hw) ((dR hw hf hN hb ha h).mono fun e w' he => ?_)
  obtain ⟨v, rfl, hk⟩ := he
  exact ⟨v, rfl, hk a ha0⟩
theorem Uu {l : List Oper} {f : FuncId} {fn : Func} {c : Code} {args : List Value} {N' : Nat} {g t : Nat} {b : Bool} {u : Value} (hc : Lz P N D b0 Mk L E op ty f args) (hf : P.funcs[f]? = some fn) (hN : fn.ntmps = N')
    (h : J P none b0 Mk N' [] L (Ld 0 args) c (bodyPost P fn (nG N D E (Mn P rd ops T l) d))) (hg : (ops[g]?).bind (·.dst) = some t := by rfl) (hu : look E t = some u := by rfl) (hb2 : Lc u b = true := by rfl) (ht : Nat.blt t N = true := by rfl) (hb : fn.body = some c := by rfl) (ha : Nat.ble args.length N' = true := by rfl) (hn : Be op = true := by rfl) :
    JL P rd b0 Mk N D ops L E ({ dst := some d, op := op, type := ty, pos := pos, after := after, guard := some (g, b) } :: l) T := by
  intro a w ha0 hw
  unfold Mn
  rw [if_pos (by simp only [Region.wanted]; rw [He ha0 hg hu ht]; exact hb2)]
  refine Ea (Bf hn) (by rw [Cj]; exact hc a w ha0 hw) ((Rd hw hf hN hb ha h).mono fun e w' he => ?_)
  obtain ⟨v, rfl, hk⟩ := he
  exact ⟨v, rfl, hk a ha0⟩
theorem Yu {l : List (Bool × Oper)} {f : FuncId} {fn : Func} {c : Code} {args : List Value} {N' : Nat} {g t : Nat} {b : Bool} {u : Value} (hc : Lz P N D b0 Mk (V ++ L) E op ty f args) (hf : P.funcs[f]? = some fn) (hN : fn.ntmps = N')
    (h : J P none b0 Mk N' [] (V ++ L) (Ld 0 args) c (bodyPost P fn (nG N D E (fun a' w' => ∃ S' : World → Prop, (∀ x, S' x → SH b0 Mk L x) ∧ S' w' ∧ Qx P rd ops T S' l a' w') d))) (hg : (ops[g]?).bind (·.dst) = some t := by rfl) (hu : look E t = some u := by rfl) (hb2 : Lc u b = true := by rfl) (ht : Nat.blt t N = true := by rfl) (hb : fn.body = some c := by rfl) (ha : Nat.ble args.length N' = true := by rfl) (hn : Be op = true := by rfl) :
    JD P rd b0 Mk N D ops L V E ((false, { dst := some d, op := op, type := ty, pos := pos, after := after, guard := some (g, b) }) :: l) T := by
  intro a w ha0 hw
  unfold Qx
  rw [if_pos (by simp only [Region.wanted]; rw [He ha0 hg hu ht]; exact hb2)]
  refine Ea (Bf hn) (by rw [Cj]; exact hc a w ha0 hw) ((Rd hw hf hN hb ha h).mono fun e w' he => ?_)
  obtain ⟨v, rfl, hk⟩ := he
  exact ⟨v, rfl, hk a ha0⟩
theorem Av {l : List Oper} {fn : Func} {N' : Nat} {E' : Eg} {ops' : Array Oper} {rd' : Option Nat} {D' : List Deferred} {T' : Act → World → Prop} {rs : List ResultVar} {vs : List Value} (hr : fn.results = rs.toArray) (h : Bk P L E' rs vs) (k : JL P rd' b0 Mk N D' ops' L ((d, Qf vs) :: E) l T') (hd : Nat.blt d N = true := by rfl) :
    JX b0 Mk N' [] L E' (bodyPost P fn (nG N D' E (Mn P rd' ops' T' l) d)) .ret :=
  fun _ w ha hw => ⟨ha.defs, _, Hf hr h ha hw, _, rfl, fun a' ha' => k _ _ (ha'.put hd _) hw⟩
theorem Kl {l : List (Bool × Oper)} {fn : Func} {N' : Nat} {E' : Eg} {ops' : Array Oper} {rd' : Option Nat} {D' : List Deferred} {T' : Act → World → Prop} {L0 : Am} {rs : List ResultVar} {vs : List Value} (L' V' : Am) (hr : fn.results = rs.toArray) (h : Bk P L E' rs vs) (hp : List.Perm L (V' ++ L')) (hs : List.Sublist L0 L')
    (k : JD P rd' b0 Mk N D' ops' L' V' ((d, Qf vs) :: E) l T') (hd : Nat.blt d N = true := by rfl) :
    JX b0 Mk N' [] L E' (bodyPost P fn (nG N D' E (fun a' w' => ∃ S' : World → Prop, (∀ x, S' x → SH b0 Mk L0 x) ∧ S' w' ∧ Qx P rd' ops' T' S' l a' w') d)) .ret :=
  fun _ w ha hw => ⟨ha.defs, _, Hf hr h ha hw, _, rfl, fun a' ha' => ⟨SH b0 Mk L', fun _ hx => hx.sub hs, (hw.perm hp).right, k _ _ (ha'.put hd _) (hw.perm hp)⟩⟩
theorem Cx {l : List Oper} {fn : Func} {N' : Nat} {E' : Eg} {ops' : Array Oper} {rd' : Option Nat} {D' : List Deferred} {T' : Act → World → Prop} {rs : List ResultVar} {vs : List Value} (hr : fn.results = rs.toArray) (h : Bk P L E' rs vs) (k : JL P rd' b0 Mk N D' ops' L ((d, Qf vs) :: E) l T') (hd : Nat.blt d N = true := by rfl) :
    JX b0 Mk N' [] L E' (bodyPost P fn (nG N D' E (Mn P rd' ops' T' l) d)) .normal :=
  fun _ w ha hw => ⟨ha.defs, _, Hf hr h ha hw, _, rfl, fun a' ha' => k _ _ (ha'.put hd _) hw⟩
theorem wZ {l : List (Bool × Oper)} {fn : Func} {N' : Nat} {E' : Eg} {ops' : Array Oper} {rd' : Option Nat} {D' : List Deferred} {T' : Act → World → Prop} {L0 : Am} {rs : List ResultVar} {vs : List Value} (L' V' : Am) (hr : fn.results = rs.toArray) (h : Bk P L E' rs vs) (hp : List.Perm L (V' ++ L')) (hs : List.Sublist L0 L')
    (k : JD P rd' b0 Mk N D' ops' L' V' ((d, Qf vs) :: E) l T') (hd : Nat.blt d N = true := by rfl) :
    JX b0 Mk N' [] L E' (bodyPost P fn (nG N D' E (fun a' w' => ∃ S' : World → Prop, (∀ x, S' x → SH b0 Mk L0 x) ∧ S' w' ∧ Qx P rd' ops' T' S' l a' w') d)) .normal :=
  fun _ w ha hw => ⟨ha.defs, _, Hf hr h ha hw, _, rfl, fun a' ha' => ⟨SH b0 Mk L', fun _ hx => hx.sub hs, (hw.perm hp).right, k _ _ (ha'.put hd _) (hw.perm hp)⟩⟩
theorem Ix {l : List Oper} {fn : Func} {N' : Nat} {E' : Eg} {ops' : Array Oper} {rd' : Option Nat} {D' : List Deferred} {T' : Act → World → Prop} {rs : List ResultVar} {vs : List Value} {L2 : Am} (ms : List Nat) (hL : List.Perm L (ms.map (fun r => (r, Obj.deferred (some []))) ++ L2)) (hr : fn.results = rs.toArray) (h : Bk P L2 E' rs vs) (k : JL P rd' b0 Mk N D' ops' L2 ((d, Qf vs) :: E) l T') (hd : Nat.blt d N = true := by rfl) :
    JX b0 Mk N' (ms.map Un) L E' (bodyPostM (FW none) 0 P fn (nG N D' E (Mn P rd' ops' T' l) d)) .ret := fun a w ha hw => by
  show LeavesInM _ _ _ _ _ _ a.defers _ _
  rw [ha.defs]
  exact Yp hr h ha (fun w hw => ⟨_, rfl, fun a' ha' => k _ _ (ha'.put hd _) hw⟩) ms w (hw.perm hL)
def Uv (N : Nat) (ops : Array Oper) : List Oper → Nat → Eg → Option Eg
  | _, 0, E => some E
  | [], _ + 1, _ => none
  | o :: l, n + 1, E => match o.guard, o.dst with
    | some (g, b), some d => match (ops[g]?).bind (·.dst) with
      | some t => match Nat.blt t N && Nat.blt d N, look E t with
        | true, some u => match Lc u b with
          | false => Uv N ops l n ((d, undef) :: E)
          | true => none
        | _, _ => none
      | none => none
    | _, _ => none

theorem Ag : ∀ (n : Nat) {l : List Oper} {E E' : Eg} (_ : Uv N ops l n E = some E') (_ : JL P rd b0 Mk N D ops L E' (l.drop n) T), JL P rd b0 Mk N D ops L E l T
  | 0, l, E, E', h, k => by
    have h : E = E' := Option.some.inj (by simpa [Uv] using h)
    subst h; exact k
  | n + 1, [], E, E', h, k => by simp [Uv] at h
  | n + 1, o :: l, E, E', h, k => by
    intro a w ha hw
    unfold Uv at h
    split at h
    · rename_i g b d hg hdst
      split at h
      · rename_i t ht
        split at h
        · rename_i u hbl hu
          split at h
          · rename_i hwb
            simp only [Bool.and_eq_true] at hbl
            unfold Mn
            rw [if_neg (by rw [Region.wanted, hg]; simp only; rw [He ha ht hu hbl.1, hwb]; exact Bool.noConfusion), hdst]
            exact Ag n h k _ _ (ha.put hbl.2 _) hw
          · cases h
        · cases h
      · cases h
    · cases h

theorem Bl : ∀ (n : Nat) {l : List (Bool × Oper)} {E E' : Eg} (_ : Uv N ops (l.map Prod.snd) n E = some E') (_ : JD P rd b0 Mk N D ops L V E' (l.drop n) T), JD P rd b0 Mk N D ops L V E l T
  | 0, l, E, E', h, k => by
    have h : E = E' := Option.some.inj (by simpa [Uv] using h)
    subst h; exact k
  | n + 1, [], E, E', h, k => by simp [Uv] at h
  | n + 1, (f, o) :: l, E, E', h, k => by
    intro a w ha hw
    simp only [List.map_cons] at h
    unfold Uv at h
    split at h
    · rename_i g b d hg hdst
      split at h
      · rename_i t ht
        split at h
        · rename_i u hbl hu
          split at h
          · rename_i hwb
            simp only [Bool.and_eq_true] at hbl
            have hno : Region.wanted o (yielded ops a.tmps) = false := by
              rw [Region.wanted, hg]; simp only; rw [He ha ht hu hbl.1, hwb]
            have hk := Bl n h k _ _ (ha.put hbl.2 undef) hw
            cases f
            · unfold Qx
              rw [if_neg (by rw [hno]; exact Bool.noConfusion), hdst]
              exact hk
            · unfold Qx
              exact ⟨undef, .inr ⟨hno, rfl⟩, by rw [hdst]; exact hk⟩
          · cases h
        · cases h
      · cases h
    · cases h

abbrev Ai := List UInt8
def bs (l : Ai) : ByteArray := ⟨l.toArray⟩
theorem Ha (l : Ai) : (bs l).size = l.length := by simp [bs, ByteArray.size]
theorem M1 (b : ByteArray) : b.toList = b.data.toList := by
  have key : ∀ (n i : Nat) (r : List UInt8), b.size - i = n → ByteArray.toList.loop b i r = r.reverse ++ b.data.toList.drop i := by
    intro n
    induction n with
    | zero =>
      intro i r h
      unfold ByteArray.toList.loop
      rw [if_neg z8, List.drop_of_length_le (by have : b.data.size = b.size := rfl; simp; omega)]
      simp
    | succ n ih =>
      intro i r h
      unfold ByteArray.toList.loop
      rw [if_pos z8, ih _ _ z8]
      have hlt : i < b.data.toList.length := by have : b.data.size = b.size := rfl; simp; omega
      rw [List.drop_eq_getElem_cons hlt]
      have : b.get! i = b.data.toList[i] := by
        have h2 : i < b.data.size := by simpa using hlt
        rw [ByteArray.get!]
        simp only [Array.getElem_toList]
        exact getElem!_pos b.data i h2
      rw [this]; simp
  have := key b.size 0 [] z8
  simpa [ByteArray.toList] using this
theorem Lk (l : Ai) : (bs l).toList = l := by rw [M1]; simp [bs]
theorem sF (l m : Ai) : bs l ++ bs m = bs (l ++ m) := by
  apply ByteArray.ext
  simp [bs]
theorem AD0 (l : Ai) (i : Nat) : (bs l)[i]? = l[i]? := by
  by_cases h : i < l.length
  · rw [getElem?_pos (bs l) i (by rw [Ha]; exact h), List.getElem?_eq_getElem h]
    rfl
  · rw [getElem?_neg (bs l) i (by rw [Ha]; exact h), List.getElem?_eq_none z8]
theorem Tn (l : Ai) (i j : Nat) : (bs l).extract i j = bs ((l.take j).drop i) := by
  apply ByteArray.ext
  simp [bs, ByteArray.data_extract, List.drop_take]

section ops
variable {t t' : TypeId} {x y z : Operand} {s s' : Ai} {p q : Int} {k k' : IntKind}
theorem fX (hU : ∀ w, (underlying t).run P w = .ok .string w) (hx : ev E x = some (.string (bs s)) := by rfl) :
    Cm P N D b0 Mk L E (.call { callee := .builtin .len, args := #[x], argTypes := #[t] }) ty (.int .i64 s.length) := by
  have := wD (N := N) (D := D) (b0 := b0) (Mk := Mk) (L := L) (ty := ty) hU hx
  rwa [Ha] at this
theorem fY (m : Nat) (hU : ∀ w, (underlying t).run P w = .ok .string w) (hm : m < s.length) (hx : ev E x = some (.string (bs s)) := by rfl) (hy : ev E y = some (.int k p) := by rfl) (hi : p = (m : Int) := by first | rfl | omega) :
    Cm P N D b0 Mk L E (.index t x y) ty (.int .u8 ((s.getD m default).toNat : Int)) := fun a w ha _ => by
  subst hi
  have h1 : (bs s)[m]? = some (s.getD m default) := by rw [AD0, List.getElem?_eq_getElem hm]; simp [List.getD, hm]
  simp [Em, execOp, ha.eval hx, ha.eval hy, Instr.index, asIntOf, hU, h1]
theorem AD1 (m n : Nat) (hU : ∀ w, (underlying t).run P w = .ok .string w) (hmn : m ≤ n) (hn : n ≤ s.length) (hx : ev E x = some (.string (bs s)) := by rfl) (hy : ev E y = some (.int k p) := by rfl) (hz : ev E z = some (.int k' q) := by rfl) (hi : p = (m : Int) := by first | rfl | omega) (hj : q = (n : Int) := by first | rfl | omega) :
    Cm P N D b0 Mk L E (.slice t x (some y) (some z) none) ty (.string (bs ((s.take n).drop m))) := fun a w ha _ => by
  subst hi hj
  have h1 : (n : Int) ≤ ((bs s).size : Int) := by rw [Ha]; omega
  have h2 : (m : Int) ≤ (n : Int) := by omega
  simp [Em, execOp, ha.eval hx, ha.eval hy, ha.eval hz, Instr.sliceAt, Instr.slice, Instr.sliceBounds, Instr.sliceBound, asIntOf, hU, Ha, hn, hmn, Tn]
theorem xA (m : Nat) (hU : ∀ w, (underlying t).run P w = .ok .string w) (hm : m ≤ s.length) (hx : ev E x = some (.string (bs s)) := by rfl) (hy : ev E y = some (.int k p) := by rfl) (hi : p = (m : Int) := by first | rfl | omega) :
    Cm P N D b0 Mk L E (.slice t x (some y) none none) ty (.string (bs (s.drop m))) := fun a w ha _ => by
  subst hi
  simp [Em, execOp, ha.eval hx, ha.eval hy, Instr.sliceAt, Instr.slice, Instr.sliceBounds, Instr.sliceBound, asIntOf, hU, Ha, hm, Tn]
theorem jY (n : Nat) (hU : ∀ w, (underlying t).run P w = .ok .string w) (hn : n ≤ s.length) (hx : ev E x = some (.string (bs s)) := by rfl) (hz : ev E z = some (.int k' q) := by rfl) (hj : q = (n : Int) := by first | rfl | omega) :
    Cm P N D b0 Mk L E (.slice t x none (some z) none) ty (.string (bs (s.take n))) := fun a w ha _ => by
  subst hj
  simp [Em, execOp, ha.eval hx, ha.eval hz, Instr.sliceAt, Instr.slice, Instr.sliceBounds, Instr.sliceBound, asIntOf, hU, Ha, hn, Tn]
theorem aV (hx : ev E x = some (.string (bs s)) := by rfl) (hy : ev E y = some (.string (bs s')) := by rfl) (h : s.length + s'.length ≤ 9223372036854775807 := by omega) :
    Cm P N D b0 Mk L E (.binOp .add t x y t') ty (.string (bs (s ++ s'))) := fun a w ha _ => by
  have h1 : ¬ (((bs s).size + (bs s').size : Nat) : Int) > IntKind.i64.max := by
    rw [Ha, Ha]; show ¬ _ > (9223372036854775807 : Int); omega
  simp only [Em, execOp, ha.eval hx, ha.eval hy, eqGuard, binOp, Op.stringOp, h1, sF]
  simp
theorem T7 (hx : ev E x = some (.string (bs s)) := by rfl) (hy : ev E y = some (.string (bs s')) := by rfl) :
    Cm P N D b0 Mk L E (.binOp .eql t x y t') ty (.bool (decide (s = s'))) := fun a w ha _ => by
  simp only [Em, execOp, ha.eval hx, ha.eval hy, eqGuard, binOp, Op.stringOp, Lk]
  by_cases h : s = s' <;> simp [h]
theorem xB (hx : ev E x = some (.string (bs s)) := by rfl) (hy : ev E y = some (.string (bs s')) := by rfl) :
    Cm P N D b0 Mk L E (.binOp .neq t x y t') ty (.bool (decide (s ≠ s'))) := fun a w ha _ => by
  simp only [Em, execOp, ha.eval hx, ha.eval hy, eqGuard, binOp, Op.stringOp, Lk]
  by_cases h : s = s' <;> simp [h]

theorem xC {n : Int} (h : 0 ≤ n ∧ n ≤ 18446744073709551615) : IntKind.u64.wrap n = n := IntWalk.u64_in n h
theorem xD {n : Int} (h : -2147483648 ≤ n ∧ n ≤ 2147483647) : IntKind.i32.wrap n = n := IntWalk.i32_in n h
theorem pF (b : UInt8) : b.toNat < 256 := UInt8.toNat_lt b

def Ca (k : IntKind) (a b : Int) : Int := k.wrap ((BitVec.ofInt k.bits a &&& BitVec.ofInt k.bits b).toNat : Int)
def jZ (k : IntKind) (a b : Int) : Int := k.wrap ((BitVec.ofInt k.bits a ||| BitVec.ofInt k.bits b).toNat : Int)
def Fr (k : IntKind) (a b : Int) : Int := k.wrap ((BitVec.ofInt k.bits a ^^^ BitVec.ofInt k.bits b).toNat : Int)
def fZ (k : IntKind) (a b : Int) : Int := k.wrap ((BitVec.ofInt k.bits a &&& ~~~ BitVec.ofInt k.bits b).toNat : Int)
def Ym (k : IntKind) (a : Int) (n : Int) : Int := k.wrap (a * 2 ^ (min n.toNat k.bits))
def Ab (k : IntKind) (a : Int) (n : Int) : Int := a.fdiv (2 ^ (min n.toNat k.bits))
theorem Nt (hx : ev E x = some (.int k p) := by rfl) (hy : ev E y = some (.int k q) := by rfl) : Cm P N D b0 Mk L E (.binOp .add t x y t') ty (.int k (k.wrap (p + q))) := fun a w ha _ => by
  simp [Em, execOp, ha.eval hx, ha.eval hy, eqGuard, binOp, Op.intArith]
theorem xE (hx : ev E x = some (.int k p) := by rfl) (hy : ev E y = some (.int k q) := by rfl) : Cm P N D b0 Mk L E (.binOp .sub t x y t') ty (.int k (k.wrap (p - q))) := fun a w ha _ => by
  simp [Em, execOp, ha.eval hx, ha.eval hy, eqGuard, binOp, Op.intArith]
theorem Kw (hx : ev E x = some (.int k p) := by rfl) (hy : ev E y = some (.int k q) := by rfl) : Cm P N D b0 Mk L E (.binOp .and t x y t') ty (.int k (Ca k p q)) := fun a w ha _ => by
  simp [Em, execOp, ha.eval hx, ha.eval hy, eqGuard, binOp, Op.intBits, Ca]
theorem aW (hx : ev E x = some (.int k p) := by rfl) (hy : ev E y = some (.int k q) := by rfl) : Cm P N D b0 Mk L E (.binOp .or t x y t') ty (.int k (jZ k p q)) := fun a w ha _ => by
  simp [Em, execOp, ha.eval hx, ha.eval hy, eqGuard, binOp, Op.intBits, jZ]
theorem nH (hx : ev E x = some (.int k p) := by rfl) (hy : ev E y = some (.int k q) := by rfl) : Cm P N D b0 Mk L E (.binOp .xor t x y t') ty (.int k (Fr k p q)) := fun a w ha _ => by
  simp [Em, execOp, ha.eval hx, ha.eval hy, eqGuard, binOp, Op.intBits, Fr]
theorem sG (hx : ev E x = some (.int k p) := by rfl) (hy : ev E y = some (.int k q) := by rfl) : Cm P N D b0 Mk L E (.binOp .andNot t x y t') ty (.int k (fZ k p q)) := fun a w ha _ => by
  simp [Em, execOp, ha.eval hx, ha.eval hy, eqGuard, binOp, Op.intBits, fZ]
theorem nI (hx : ev E x = some (.int k p) := by rfl) (hy : ev E y = some (.int k' q) := by rfl) (h : 0 ≤ q := by omega) : Cm P N D b0 Mk L E (.binOp .shl t x y t') ty (.int k (Ym k p q)) := fun a w ha _ => by
  have h' : ¬ q < 0 := by omega
  simp [Em, execOp, ha.eval hx, ha.eval hy, eqGuard, binOp, Op.shift, h', Ym]
theorem Nu (hx : ev E x = some (.int k p) := by rfl) (hy : ev E y = some (.int k' q) := by rfl) (h : 0 ≤ q := by omega) : Cm P N D b0 Mk L E (.binOp .shr t x y t') ty (.int k (Ab k p q)) := fun a w ha _ => by
  have h' : ¬ q < 0 := by omega
  simp [Em, execOp, ha.eval hx, ha.eval hy, eqGuard, binOp, Op.shift, h', Ab]
theorem AO3 (hx : ev E x = some (.int .i64 p) := by rfl) (hy : ev E y = some (.int .i64 q) := by rfl) (h : 0 ≤ p ∧ p ≤ 9223372036854775807 ∧ 1 ≤ q := by omega) : Cm P N D b0 Mk L E (.binOp .quo t x y t') ty (.int .i64 (p / q)) := fun a w ha _ => by
  have h1 : ¬ q = 0 := by omega
  have h2 : p.tdiv q = p / q := Int.tdiv_eq_ediv_of_nonneg h.1
  have h3 : IntKind.i64.wrap (p / q) = p / q := Gx ⟨by have := Int.ediv_nonneg h.1 (show 0 ≤ q by omega); omega, by have := Int.ediv_le_self q h.1; omega⟩
  simp [Em, execOp, ha.eval hx, ha.eval hy, eqGuard, binOp, Op.intDiv, h1, h2, h3]
theorem T8 (hx : ev E x = some (.int .i64 p) := by rfl) (hy : ev E y = some (.int .i64 q) := by rfl) (h : 0 ≤ p ∧ 1 ≤ q := by omega) : Cm P N D b0 Mk L E (.binOp .rem t x y t') ty (.int .i64 (p % q)) := fun a w ha _ => by
  have h1 : ¬ q = 0 := by omega
  have h2 : p.tmod q = p % q := Int.tmod_eq_emod_of_nonneg h.1
  simp [Em, execOp, ha.eval hx, ha.eval hy, eqGuard, binOp, Op.intDiv, h1, h2]
theorem Js {dst : TypeId} {desc : TypeDesc} {r : Int} (h : k'.wrap p = r) (hU : ∀ w, (underlying t).run P w = .ok desc w) (hV : ∀ w, (underlying dst).run P w = .ok (.int k') w) (hx : ev E x = some (.int k p) := by rfl) :
    Cm P N D b0 Mk L E (.convert t dst x) ty (.int k' r) := fun a w ha _ => by
  subst h
  simp [Em, execOp, ha.eval hx, convert, hU, hV, Conv.intToInt]
theorem Kx {e len : TypeId} {l : List Value} {m : Nat} {v : Value} (hU : ∀ w, (underlying t).run P w = .ok (.array len e) w) (hS : ∀ w, (sizeOf e).run P w = .ok 1 w) (hA : ∀ w, (isAgg e).run P w = .ok false w) (hx : ev E x = some (.agg l.toArray) := by rfl) (hy : ev E y = some (.int k p) := by rfl) (hi : p = (m : Int) := by rfl) (hm : Nat.blt m len = true := by rfl) (hv : uB l m = some v := by rfl) :
    Cm P N D b0 Mk L E (.index t x y) ty v := fun a w ha _ => by
  subst hi
  have hm' : m < len := by simpa [Nat.blt_eq] using hm
  rw [Nr] at hv
  simp [Em, execOp, ha.eval hx, ha.eval hy, Instr.index, asIntOf, hU, hS, hm', part, hA, hv]
theorem Ek {e len n : TypeId} {r o m : Nat} (hU : ∀ w, (underlying t).run P w = .ok (.array len e) w) (hS : ∀ w, (sizeOf e).run P w = .ok n w) (hx : ev E x = some (.pointer (some ⟨r, o, none⟩)) := by rfl) (hy : ev E y = some (.int k p) := by rfl) (hi : p = (m : Int) := by first | rfl | omega) (hm : m < len := by first | decide | omega) :
    Cm P N D b0 Mk L E (.indexAddr t x y) ty (.pointer (some ⟨r, o + m * n, none⟩)) := fun a w ha _ => by
  subst hi
  have hm2 : (m : Int) < (len : Int) := by omega
  simp [Em, execOp, ha.eval hx, ha.eval hy, Instr.indexAt, asIntOf, hU, hS, Instr.sureAddr, hm, Ao]

def Wm (s : Ai) (i : Nat) : Nat × Nat := Utf8.decode (bs s) i
theorem gA (s : Ai) (i : Nat) : 1 ≤ (Wm s i).2 := by
  unfold Wm Utf8.decode
  simp only
  repeat' split
  all_goals simp
theorem aX (hU : ∀ w, (underlying t).run P w = .ok .string w) (hx : ev E x = some (.string (bs s)) := by rfl) : aH P N D b0 Mk L E (.range t x) ty (.stringIter (bs s) 0) (fun r => .pointer (some ⟨r, 0, none⟩)) := fun a w ha _ => by
  simp [Em, execOp, ha.eval hx, Instr.range, hU, newObj, Sem.run]
theorem Sz {w : World} {r i : Nat} {b : ByteArray} (h : w.heap[r]? = some (.stringIter b i)) : (getObj r).run P w = .ok (.stringIter b i) w := by simp [getObj, Sem.run, h]
theorem dB {w : World} {r i : Nat} {b : ByteArray} {o' : Obj} (h : w.heap[r]? = some (.stringIter b i)) : (setObj r o').run P w = .ok () (w.putObj r o') := by simp [setObj, Sem.run, h, World.putObj]
theorem gB {l : List Oper} {R : Am} {r i : Nat} (hL : List.Perm L ((r, Obj.stringIter (bs s) i) :: R)) (h1 : i < s.length → JL P rd b0 Mk N D ops ((r, Obj.stringIter (bs s) (i + (Wm s i).2)) :: R) ((d, .tuple [.bool true, .int .i64 (i : Int), .int .i32 ((Wm s i).1 : Int)].toArray) :: E) l T)
    (h0 : ¬ i < s.length → JL P rd b0 Mk N D ops ((r, Obj.stringIter (bs s) i) :: R) ((d, .tuple [.bool false].toArray) :: E) l T) (hx : ev E x = some (.pointer (some ⟨r, 0, none⟩)) := by rfl) (hd : Nat.blt d N = true := by rfl) :
    JL P rd b0 Mk N D ops L E ({ dst := some d, op := .next x true, type := ty, pos := pos, after := after, guard := none } :: l) T := by
  intro a w ha hw
  have hw2 := hw.perm hL
  have ho := hw2.own _ List.mem_cons_self
  simp only at ho
  unfold Mn
  rw [if_pos (by rfl)]
  by_cases hi : i < s.length
  · refine Df (Bf rfl) (v := .tuple [.bool true, .int .i64 (i : Int), .int .i32 ((Wm s i).1 : Int)].toArray) (w' := w.putObj r (Obj.stringIter (bs s) (i + (Wm s i).2))) ?_ (h1 hi _ _ (ha.put hd _) (SH.put hw2))
    rw [Cj]
    simp [Em, execOp, ha.eval hx, Instr.next, Sz ho, Ha, hi, dB ho, Wm, goInt]
  · refine Df (Bf rfl) (v := .tuple [.bool false].toArray) (w' := w) ?_ (h0 hi _ _ (ha.put hd _) hw2)
    rw [Cj]
    simp [Em, execOp, ha.eval hx, Instr.next, Sz ho, Ha, hi]
end ops
end
theorem rl {p : Prop} {α : Type} {a b : α} (e : Is a b) (h : Ap (Is a b) → p := by intro z; rw [z.1.eq]; first | exact lb) : p := h ⟨e⟩
theorem rn {p : Prop} {α : Type} {a b : α} (e : Is a b) (h : Ap (Is a b) → p := by intro z; rw [z.1.eq]; exact Hb.nil) : p := h ⟨e⟩
theorem ro {p : Prop} {α : Type} {a b : α} (e : Is a b) (h : Ap (Is a b) → p := by intro z; rw [z.1.eq]; exact Bi.nil) : p := h ⟨e⟩
theorem rq {p : Prop} {α : Type} {a b : α} (e : Is a b) (h : Ap (Is a b) → p := by intro z; rw [z.1.eq] <;> first | rfl | (simp only [List.length_set] <;> rfl)) : p := h ⟨e⟩
end Go.Proofs.YtdnjanhdnibkfaaGreatDoor.Jd

namespace Go.Proofs.YtdnjanhdnibkfaaGreatDoor.Jd
open Go.RowKit (Below)
set_option linter.unusedVariables false
set_option linter.unusedSimpArgs false
section
variable {P : Program} {rd : Option Nat} {b0 : World} {Mk : List Nat} {N : Nat} {D : List Deferred} {ops : Array Oper} {L V L' : Am} {E : Eg} {T : Act → World → Prop} {Q : Exit → Act → World → Prop}
variable {op : Op} {ty : TypeId} {pos : String} {after : Array Edge} {d : Nat}

def T9 (P : Program) (N : Nat) (D : List Deferred) (E : Eg) (l : Nat) (Q : Exit → Act → World → Prop) : Ending → World → Prop := fun e w' => ∀ a, Dk N D E a → rangePost (FW none) 0 P l Q a e w'

theorem dS {g : Operand} {ps : List Tmp} {assign body : Code} {f : FuncId} {fs cs : List Value} {R : Nat → Nat → Loop → Ending → World → Prop}
    (hM : ∀ k ∈ Mk, k < b0.heap.size) (hg : ev E g = some (.func (.func f) fs.toArray cs.toArray)) (hc : ∀ args w, (callFunc f args).run P w = .ok (.enter f args) w)
    (hin : ∀ l rD r w, Ra N E ps.toArray assign body r → SH b0 Mk ((l, Cb r .ready none) :: (rD, .deferred (some [])) :: L) w → Calls P f (fs ++ [Value.func (.yield l) #[] #[]] ++ cs).toArray w (T9 P N (Un rD :: D) E l Q)) :
    J P none b0 Mk N D L E (Code.rangeFunc g ps.toArray assign body) Q := by
  intro a w ha hw
  refine wpIn_rangeFunc fun fn _ => ?_
  let w1 := w.alloc (.deferred (some []))
  let rD := w.heap.size
  let rec0 : Loop := { state := .ready, pending := none, fn := fn, tmps := a.tmps, params := ps.toArray, assign := assign, body := body, defers := rD }
  let w2 := w1.alloc (.loop rec0)
  let l := w1.heap.size
  have hw1 : SH b0 Mk ((rD, .deferred (some [])) :: L) w1 := hw.alloc _ hM
  have hw2 : SH b0 Mk ((l, .loop rec0) :: (rD, .deferred (some [])) :: L) w2 := hw1.alloc _ hM
  have hl : Ra N E ps.toArray assign body rec0 := ⟨rfl, rfl, rfl, ⟨ha.size, rfl, ha.val⟩⟩
  have hres : (resolve a.eval (rangeCall g l) 0).run P w2 = .ok { target := .fn (.func f) cs.toArray, args := fs.toArray ++ #[Value.func (.yield l) #[] #[]] } w2 := by
    simp only [resolve, rangeCall, ha.eval hg, Deferred.ofValue, List.map_toArray, List.map_cons, List.map_nil, Sem.run_pure]
    rfl
  refine ⟨l, [{ target := .collected rD, args := #[] }], w2, _, w2, f, (fs ++ [Value.func (.yield l) #[] #[]] ++ cs).toArray, w2, ?_, hres, fun _ _ => trivial, ?_, fun h => by simp [FW] at h, ?_⟩
  · rfl
  · simp only [invoke]
    rw [hc]
    simp
  · refine Od rfl ((hin l rD rec0 w2 hl hw2).mono fun e w' he => ?_)
    exact he _ ⟨ha.size, by simp [ha.defs, Un], ha.val⟩

theorem Fc {g : Operand} {ps : List Tmp} {assign body : Code} {f : FuncId} {fs cs : List Value} {fn : Func} {c : Code} {N' : Nat}
    (hM : ∀ k ∈ Mk, k < b0.heap.size) (hg : ev E g = some (.func (.func f) fs.toArray cs.toArray)) (hc : ∀ args w, (callFunc f args).run P w = .ok (.enter f args) w) (hf : P.funcs[f]? = some fn) (hN : fn.ntmps = N')
    (h : ∀ l rD r, Ra N E ps.toArray assign body r → J P none b0 Mk N' [] ((l, Cb r .ready none) :: (rD, .deferred (some [])) :: L) (Ld 0 (fs ++ [Value.func (.yield l) #[] #[]] ++ cs)) c (bodyPost P fn (T9 P N (Un rD :: D) E l Q)))
    (hb : fn.body = some c := by rfl) (ha : Nat.ble (fs ++ [Value.func (.yield 0) #[] #[]] ++ cs).length N' = true := by rfl) : J P none b0 Mk N D L E (Code.rangeFunc g ps.toArray assign body) Q :=
  dS (R := fun _ _ _ _ _ => True) hM hg hc fun l rD r w hl hw => Rd hw hf hN hb (by simpa using ha) (h l rD r hl)
theorem sH {g : Operand} {ps : List Tmp} {assign body : Code} {f : FuncId} {fs cs : List Value} {fn : Func} {c : Code} {N' : Nat}
    (hM : ∀ k ∈ Mk, k < b0.heap.size) (hg : ev E g = some (.func (.func f) fs.toArray cs.toArray)) (hc : ∀ args w, (callFunc f args).run P w = .ok (.enter f args) w) (hf : P.funcs[f]? = some fn) (hN : fn.ntmps = N')
    (h : ∀ l rD r, Ra N E ps.toArray assign body r → J P none b0 Mk N' [] ((l, Cb r .ready none) :: (rD, .deferred (some [])) :: L) (Ld 0 (fs ++ [Value.func (.yield l) #[] #[]] ++ cs)) c (bodyPostM (FW none) 0 P fn (T9 P N (Un rD :: D) E l Q)))
    (hb : fn.body = some c := by rfl) (ha : Nat.ble (fs ++ [Value.func (.yield 0) #[] #[]] ++ cs).length N' = true := by rfl) : J P none b0 Mk N D L E (Code.rangeFunc g ps.toArray assign body) Q :=
  dS (R := fun _ _ _ _ _ => True) hM hg hc fun l rD r w hl hw => dR hw hf hN hb (by simpa using ha) (h l rD r hl)

theorem M2 {l : Nat} {r : Loop} {w : World} (hL : List.Perm L ((l, Cb r .ready none) :: L')) (k : JX b0 Mk N D ((l, Cb r .exhausted none) :: L') E Q .normal) (hw : SH b0 Mk L w) {v : Value} : T9 P N D E l Q (.returned v) w := fun a ha => by
  have hw' := hw.perm hL
  have ho := hw'.own _ List.mem_cons_self
  exact ⟨none, _, run_endLoop ho Hs, k _ _ ha (SH.put hw')⟩
theorem AO4 {l : Nat} {r : Loop} {w : World} {jx : Code} (hL : List.Perm L ((l, Cb r .done (some jx)) :: L')) (k : J P none b0 Mk N D ((l, Cb r .exhausted (some jx)) :: L') E jx Q) (hw : SH b0 Mk L w) {v : Value} : T9 P N D E l Q (.returned v) w := fun a ha => by
  have hw' := hw.perm hL
  have ho := hw'.own _ List.mem_cons_self
  exact ⟨some jx, _, run_endLoop ho Hs, k _ _ ha (SH.put hw')⟩

theorem Gg {l : Nat} {r : Loop} {fn : Func} {N' : Nat} {E' : Eg} {e : Exit} (he : e = .ret ∨ e = .normal) (hr : fn.results = #[]) (hL : List.Perm L ((l, Cb r .ready none) :: L')) (k : JX b0 Mk N D ((l, Cb r .exhausted none) :: L') E Q .normal) :
    JX b0 Mk N' [] L E' (bodyPost P fn (T9 P N D E l Q)) e := by
  rcases he with rfl | rfl
  · exact Ac (rs := []) (by rw [hr]) Bk.nil fun w hw => M2 hL k hw
  · exact wE (rs := []) (by rw [hr]) Bk.nil fun w hw => M2 hL k hw
theorem nJ {l : Nat} {r : Loop} {fn : Func} {N' : Nat} {E' : Eg} {e : Exit} {jx : Code} (he : e = .ret ∨ e = .normal) (hr : fn.results = #[]) (hL : List.Perm L ((l, Cb r .done (some jx)) :: L')) (k : J P none b0 Mk N D ((l, Cb r .exhausted (some jx)) :: L') E jx Q) :
    JX b0 Mk N' [] L E' (bodyPost P fn (T9 P N D E l Q)) e := by
  rcases he with rfl | rfl
  · exact Ac (rs := []) (by rw [hr]) Bk.nil fun w hw => AO4 hL k hw
  · exact wE (rs := []) (by rw [hr]) Bk.nil fun w hw => AO4 hL k hw
theorem M3 {l : Nat} {r : Loop} {fn : Func} {N' : Nat} {E' : Eg} {e : Exit} {L2 : Am} (ms : List Nat) (hm : List.Perm L (ms.map (fun r => (r, Obj.deferred (some []))) ++ L2)) (he : e = .ret ∨ e = .normal) (hr : fn.results = #[]) (hL : List.Perm L2 ((l, Cb r .ready none) :: L')) (k : JX b0 Mk N D ((l, Cb r .exhausted none) :: L') E Q .normal) :
    JX b0 Mk N' (ms.map Un) L E' (bodyPostM (FW none) 0 P fn (T9 P N D E l Q)) e := by
  rcases he with rfl | rfl
  · exact Db (rs := []) ms hm (by rw [hr]) Bk.nil fun w hw => M2 hL k hw
  · exact L5 (rs := []) ms hm (by rw [hr]) Bk.nil fun w hw => M2 hL k hw
theorem yIn {lp : Nat} {vs : List Value} {ps : List Tmp} {assign body : Code} {r : Loop} {Nc : Nat} {Ec : Eg} {K : Act → World → Prop} {o : Oper} {a : Act} {w : World} {Q' : Exit → Act → World → Prop} (hr : Ra Nc Ec ps.toArray assign body r) (hL : List.Perm L ((lp, Cb r .ready none) :: L'))
    (hd : Ei o = true) (hy : execOp a.eval o = Instr.yield lp vs.toArray) (hs : Nat.beq vs.length ps.length = true) (hps : (ps.all fun t => Nat.blt t Nc) = true)
    (h : J P (some lp) b0 Mk Nc [] ((lp, Cb r .ready none) :: L') (Nb ps vs Ec) assign (aQ P lp body (nG N D E K d))) (hdst : o.dst = some d) (ha : Dk N D E a) (hw : SH b0 Mk L w) : o.wpIn (FW rd) 0 P a w K Q' := by
  obtain ⟨fn, tmps, as, bo, h1, h2⟩ := nB hr (hw.perm hL) hs hps h
  refine nD hd hy ⟨fn, tmps, as, bo, h1, h2.mono fun e w' he => ?_⟩
  obtain ⟨v, rfl, hk⟩ := he
  exact ⟨v, rfl, by rw [hdst]; exact hk a ha⟩
theorem Jt {l : List Oper} {lp : Nat} {vs : List Value} {ps : List Tmp} {assign body : Code} {r : Loop} {Nc : Nat} {Ec : Eg} (hr : Ra Nc Ec ps.toArray assign body r) (hL : List.Perm L ((lp, Cb r .ready none) :: L')) (hy : AC7 N D E op ty lp vs)
    (h : J P (some lp) b0 Mk Nc [] ((lp, Cb r .ready none) :: L') (Nb ps vs Ec) assign (aQ P lp body (nG N D E (Mn P rd ops T l) d)))
    (hs : Nat.beq vs.length ps.length = true := by rfl) (hps : (ps.all fun t => Nat.blt t Nc) = true := by rfl) (hn : Be op = true := by rfl) :
    JL P rd b0 Mk N D ops L E ({ dst := some d, op := op, type := ty, pos := pos, after := after, guard := none } :: l) T := by
  intro a w ha hw
  unfold Mn
  rw [if_pos (by rfl)]
  exact yIn hr hL (Bf hn) (by rw [Cj]; exact hy a ha) hs hps h rfl ha hw
theorem Dv {l : List Oper} {lp : Nat} {vs : List Value} {ps : List Tmp} {assign body : Code} {r : Loop} {Nc : Nat} {Ec : Eg} {g t : Nat} {b : Bool} {u : Value} (hr : Ra Nc Ec ps.toArray assign body r) (hL : List.Perm L ((lp, Cb r .ready none) :: L')) (hy : AC7 N D E op ty lp vs)
    (h : J P (some lp) b0 Mk Nc [] ((lp, Cb r .ready none) :: L') (Nb ps vs Ec) assign (aQ P lp body (nG N D E (Mn P rd ops T l) d)))
    (hg : (ops[g]?).bind (·.dst) = some t := by rfl) (hu : look E t = some u := by rfl) (hb : Lc u b = true := by rfl) (ht : Nat.blt t N = true := by rfl)
    (hs : Nat.beq vs.length ps.length = true := by rfl) (hps : (ps.all fun t => Nat.blt t Nc) = true := by rfl) (hn : Be op = true := by rfl) :
    JL P rd b0 Mk N D ops L E ({ dst := some d, op := op, type := ty, pos := pos, after := after, guard := some (g, b) } :: l) T := by
  intro a w ha hw
  unfold Mn
  rw [if_pos z52]
  exact yIn hr hL (Bf hn) (by rw [Cj]; exact hy a ha) hs hps h rfl ha hw

theorem Ex {l : Nat} {r : Loop} {N' : Nat} {D' : List Deferred} {E' : Eg} {ops' : Array Oper} {rd' : Option Nat} {rest : List Oper} {T' : Act → World → Prop} (hL : List.Perm L ((l, Cb r .busy none) :: L'))
    (k : JL P rd' b0 Mk N' D' ops' ((l, Cb r .ready none) :: L') ((d, .bool true) :: E') rest T') (hd : Nat.blt d N' = true := by rfl) : JX b0 Mk N D L E (aP P l (nG N' D' E' (Mn P rd' ops' T' rest) d)) .normal :=
  wN hL fun w hw => ⟨_, rfl, fun a ha => k _ _ (ha.put hd _) hw⟩
theorem Kc {l : Nat} {r : Loop} {N' : Nat} {D' : List Deferred} {E' : Eg} {ops' : Array Oper} {rd' : Option Nat} {rest : List Oper} {T' : Act → World → Prop} (hL : List.Perm L ((l, Cb r .busy none) :: L'))
    (k : JL P rd' b0 Mk N' D' ops' ((l, Cb r .done (some .ret)) :: L') ((d, .bool false) :: E') rest T') (hd : Nat.blt d N' = true := by rfl) : JX b0 Mk N D L E (aP P l (nG N' D' E' (Mn P rd' ops' T' rest) d)) .ret :=
  fQ hL fun w hw => ⟨_, rfl, fun a ha => k _ _ (ha.put hd _) hw⟩
end
end Go.Proofs.YtdnjanhdnibkfaaGreatDoor.Jd

namespace Go.Proofs.YtdnjanhdnibkfaaGreatDoor.Jd
open Go.RowKit (Below)
set_option linter.unusedVariables false
set_option linter.unusedSimpArgs false
def eI (x : Int) : List Value := [.int .i64 x]
def Xk (x : Int) : List Value := [.int .u8 x]
def eB (x : Bool) : List Value := [.bool x]
def eS (x : Ai) : List Value := [.string (bs x)]
theorem Au : Dm eI 1 := ⟨by omega, fun _ => rfl, fun _ => rfl⟩
theorem Bm : Dm Xk 1 := ⟨by omega, fun _ => rfl, fun _ => rfl⟩
theorem Mc : Dm eB 1 := ⟨by omega, fun _ => rfl, fun _ => rfl⟩
theorem Km : Dm eS 1 := ⟨by omega, fun _ => rfl, fun _ => rfl⟩

theorem Aq {w w' : World} {L R Ls : Am} (h : SH w [] Ls w') (he : Ls = L ++ R) : Dz w w' L := by
  subst he
  exact h.fresh_out.sub (List.sublist_append_left _ _)

theorem dT {P : Program} {t : TypeId} {w : World} (d : Nat) (p q : Ai) (hU : ∀ w, (underlying t).run P w = .ok .string w) : (Op.equalIn (d + 1) t (.string (bs p)) (.string (bs q))).run P w = .ok (decide (p = q)) w := by
  unfold Op.equalIn
  simp only [Sem.run_bind, hU, Result.andThen_ok]
  simp only [Sem.run_pure]
  rw [beq_toListBytes, Lk, Lk]
  by_cases h : p = q <;> simp [h]

section
variable {P : Program} {b0 : World} {Mk : List Nat} {N : Nat} {D : List Deferred} {L : Am} {E : Eg} {ty : TypeId}
theorem aY {t t' : TypeId} {x y : Operand} {u v : Value} {b : Bool} (h : ∀ w, (do eqGuard .neq t x y u v; binOp .neq t u v : Sem Value).run P w = .ok (.bool b) w) (hx : ev E x = some u := by rfl) (hy : ev E y = some v := by rfl) : Cm P N D b0 Mk L E (.binOp .neq t x y t') ty (.bool b) := fun ac w ha _ => by
  have := h w
  simp only [Em, execOp, ha.eval hx, ha.eval hy]
  simp only [Sem.run_bind] at this ⊢
  rw [this]
  rfl
variable {t t' : TypeId} {x y : Operand} {p q : Int} {k : IntKind}
theorem AD2 (h : k.wrap (p - q) = p - q) (hx : ev E x = some (.int k p) := by rfl) (hy : ev E y = some (.int k q) := by rfl) : Cm P N D b0 Mk L E (.binOp .sub t x y t') ty (.int k (p - q)) := h ▸ xE hx hy
end
theorem nK (s : Ai) (i : Nat) : (Wm s i).1 < 2097152 := by
  have hb : ∀ k, ((bs s).get! k).toNat < 256 := fun k => UInt8.toNat_lt _
  unfold Wm Utf8.decode
  simp only
  have h0 := hb (i + 0)
  have h1 := hb (i + 1)
  have h2 := hb (i + 2)
  have h3 := hb (i + 3)
  repeat' split
  all_goals (simp only [Utf8.runeError] at *; omega)
end Go.Proofs.YtdnjanhdnibkfaaGreatDoor.Jd

namespace Go.Proofs.YtdnjanhdnibkfaaGreatDoor.Jd
set_option linter.unusedVariables false
set_option linter.unusedSimpArgs false
theorem dU (m : Nat) : BitVec.ofInt 64 (m : Int) = BitVec.ofNat 64 m := by simp
theorem xF {m n : Nat} (hm : m < 2 ^ 63) (hn : n < 2 ^ 63) : Ca .i64 (m : Int) (n : Int) = ((m &&& n : Nat) : Int) := by
  show IntKind.i64.wrap ((BitVec.ofInt 64 (m : Int) &&& BitVec.ofInt 64 (n : Int)).toNat : Int) = _
  rw [dU, dU, BitVec.toNat_and, BitVec.toNat_ofNat, BitVec.toNat_ofNat, Nat.mod_eq_of_lt (show m < 2 ^ 64 by omega), Nat.mod_eq_of_lt (show n < 2 ^ 64 by omega)]
  have : m &&& n ≤ m := Nat.and_le_left
  apply Gx; omega
theorem kA {m n : Nat} (h : m ≤ n) : (2 : Int) ^ m ≤ 2 ^ n := by
  have : (2 : Nat) ^ m ≤ 2 ^ n := Nat.pow_le_pow_right z8 h
  exact_mod_cast this
theorem M4 {a : Int} (h : 0 ≤ a) {k : Nat} (hk : k ≤ 64) : Ab .i64 a (k : Int) = a / 2 ^ k := by
  unfold Ab
  rw [show min ((k : Int)).toNat IntKind.i64.bits = k from by show min _ 64 = k; simp; omega, Int.fdiv_eq_ediv_of_nonneg _ (by have := Int.pow_pos (n := 2) (m := k) z8; omega)]
theorem AD3 {a : Int} (h : 0 ≤ a ∧ a ≤ 9223372036854775807) : Ca .i64 a 255 = a % 256 := by
  obtain ⟨n, rfl⟩ : ∃ n : Nat, a = (n : Int) := ⟨a.toNat, by omega⟩
  have := xF (m := n) (n := 255) z8 z8
  rw [show ((255 : Nat) : Int) = 255 from rfl] at this
  rw [this, Nat.and_two_pow_sub_one_eq_mod n 8]
  rfl
theorem Yv {a : Int} (h : 0 ≤ a ∧ a ≤ 4294967295) (k : Nat) (hk : k ≤ 24) : Ca .i64 (Ab .i64 a (k : Int)) 255 = a / 2 ^ k % 256 ∧ 0 ≤ Ca .i64 (Ab .i64 a (k : Int)) 255 ∧ Ca .i64 (Ab .i64 a (k : Int)) 255 ≤ 255 := by
  have hp : (0 : Int) < 2 ^ k := Int.pow_pos z8
  have h0 := Int.ediv_nonneg h.1 (show 0 ≤ (2 : Int) ^ k by omega)
  have hle : a / 2 ^ k ≤ a := Int.ediv_le_self _ h.1
  rw [M4 h.1 z8, AD3 z8]
  omega
theorem Uw (s sep : Ai) : (Lib.cut s sep).1.length ≤ s.length ∧ (Lib.cut s sep).2.1.length ≤ s.length := by
  unfold Lib.cut
  split
  · simp only [List.length_take, List.length_drop]; omega
  · simp
theorem Nv : ∀ (k n : Nat), n < 10 ^ (k + 1) → (Lib.decDigits n).length ≤ k + 1
  | 0, n, h => by
    rw [Lib.decDigits, dif_pos z8]; simp
  | k + 1, n, h => by
    rw [Lib.decDigits]
    split
    · simp
    · have := Nv k (n / 10) (by rw [Nat.pow_succ] at h; omega)
      simp only [List.length_append, List.length_singleton]; omega
theorem Eb {n : Int} (h : -9223372036854775808 ≤ n ∧ n ≤ 9223372036854775807) : (Lib.itoa n).length ≤ 21 := by
  unfold Lib.itoa
  split
  · have := Nv 19 n.natAbs z8
    simp only [List.length_cons]; omega
  · have := Nv 19 n.toNat z8
    omega
end Go.Proofs.YtdnjanhdnibkfaaGreatDoor.Jd

namespace Go.Proofs.YtdnjanhdnibkfaaGreatDoor.Jd
open Go.RowKit (Below)
set_option linter.unusedVariables false
set_option linter.unusedSimpArgs false
section
variable {P : Program} {rd : Option Nat} {b0 : World} {Mk : List Nat} {N : Nat} {D : List Deferred} {ops : Array Oper} {L V : Am} {C : List (Addr × Value)} {E : Eg} {T : Act → World → Prop} {Q : Exit → Act → World → Prop}
variable {op : Op} {ty : TypeId} {pos : String} {after : Array Edge} {v : Value} {d : Nat}

def Wn (C : List (Addr × Value)) (w : World) : Prop := ∀ p ∈ C, w.cell? p.1 = some p.2
/-- Cells of known blocks. -/
inductive KC (L : Am) : List (Addr × Value) → Prop
  | nil : KC L []
  | cons {r k : Nat} {l : List Value} {T : TypeId} {f : Nat × Nat} {v : Value} {C : List (Addr × Value)} (hm : (r, Obj.cells l.toArray T f) ∈ L) (hv : uB l k = some v) (h : KC L C) : KC L ((⟨r, k, none⟩, v) :: C)
theorem KC.holds {w : World} (h : KC L C) (hw : SH b0 Mk L w) : Wn C w := by
  induction h with
  | nil => intro p hp; cases hp
  | cons hm hv _ ih =>
    intro p hp
    rcases List.mem_cons.1 hp with rfl | hp
    · exact hw.cell hm (by rw [← Nr]; exact hv)
    · exact ih p hp
theorem Wn.ext {w w' : World} (h : Wn C w) (he : aD w w') : Wn C w' := fun p hp => by
  have := h p hp
  have hlt := World.block_lt_of_cell? w _ this
  simp only [World.cell?] at this ⊢
  rw [he.block _ hlt]; exact this

def SK (b0 : World) (Mk : List Nat) (L : Am) (C : List (Addr × Value)) (w : World) : Prop := SH b0 Mk L w ∧ Wn C w
def JK (P : Program) (rd : Option Nat) (b0 : World) (Mk : List Nat) (N : Nat) (D : List Deferred) (ops : Array Oper) (L V : Am) (C : List (Addr × Value)) (E : Eg) (l : List (Bool × Oper)) (T : Act → World → Prop) : Prop :=
  ∀ a w, Dk N D E a → SH b0 Mk (V ++ L) w → Wn C w → Qx P rd ops T (SK b0 Mk L C) l a w
def AD4 (P : Program) (N : Nat) (D : List Deferred) (b0 : World) (Mk : List Nat) (L : Am) (C : List (Addr × Value)) (E : Eg) (op : Op) (ty : TypeId) (v : Value) : Prop :=
  ∀ a w, Dk N D E a → SK b0 Mk L C w → (execOp a.eval (Em op ty)).run P w = .ok (.value v) w
theorem Cm.k (h : Cm P N D b0 Mk L E op ty v) : AD4 P N D b0 Mk L C E op ty v := fun a w ha hw => h a w ha hw.1

theorem Yw {id : Nat} {l : List Oper} (L' V : Am) (C : List (Addr × Value)) (hL : List.Perm L (V ++ L')) (hC : KC (V ++ L') C) (hm : P.follows .mixedOrders = true) (n : Nat) (pl : List (Bool × Nat)) (hB : aG l n pl = true)
    (h : JK P rd b0 Mk N D l.toArray L' V C E (aF l.toArray pl) (fun a w => Mn P rd l.toArray (Q .normal) (l.drop n) a w)) : J P rd b0 Mk N D L E (Code.region id l.toArray true) Q :=
  fun a w ha hw => Jp hm n pl hB (SK b0 Mk L' C) ⟨((hw.perm hL).right.drawn _), hC.holds ((hw.perm hL).drawn _)⟩ (h a _ ha ((hw.perm hL).drawn _) (hC.holds ((hw.perm hL).drawn _)))

theorem gC {l : List Oper} (h : JL P rd b0 Mk N D ops (V ++ L) E l T) : JK P rd b0 Mk N D ops L V C E [] (fun a w => Mn P rd ops T l a w) := fun a w ha hw _ => h a w ha hw
theorem Sr {f : Bool} {l : List (Bool × Oper)} (h : AD4 P N D b0 Mk L C E op ty v) (hn : Be op = true := by rfl) (hd : Nat.blt d N = true := by rfl) (k : JK P rd b0 Mk N D ops L V C ((d, v) :: E) l T) :
    JK P rd b0 Mk N D ops L V C E ((f, { dst := some d, op := op, type := ty, pos := pos, after := after, guard := none }) :: l) T := by
  intro a w ha hw hc
  cases f
  · unfold Qx
    rw [if_pos (by rfl)]
    exact Df (Bf hn) (by rw [Cj]; exact h a w ha ⟨hw.right, hc⟩) ⟨_, fun _ h => h, ⟨hw.right, hc⟩, k _ _ (ha.put hd v) hw hc⟩
  · unfold Qx
    exact ⟨v, .inl ⟨by rfl, fun w' hw' => by rw [Cj]; exact h a w' ha hw'⟩, k _ _ (ha.put hd v) hw hc⟩
theorem kB {l : List (Bool × Oper)} {V' : Am} (hk : KC (V' ++ L) C) (h : mW P N D b0 Mk (V ++ L) E op ty (V' ++ L) .skip) (hn : Be op = true := by rfl) (k : JK P rd b0 Mk N D ops L V' C E l T) :
    JK P rd b0 Mk N D ops L V C E ((false, { dst := none, op := op, type := ty, pos := pos, after := after, guard := none }) :: l) T := by
  intro a w ha hw hc
  unfold Qx
  rw [if_pos (by rfl)]
  obtain ⟨w', h1, h2⟩ := h a w ha hw
  exact Jq (Bf hn) uD ⟨SK b0 Mk L C, fun _ h => h, ⟨h2.right, hk.holds h2⟩, k _ _ ha h2 (hk.holds h2)⟩
theorem AD5 {t : TypeId} {x : Operand} {r k : Nat} (hA : ∀ w, (isAgg t).run P w = .ok false w) (hx : ev E x = some (.pointer (some ⟨r, k, none⟩)) := by rfl)
    (hm : ((⟨r, k, none⟩ : Addr), v) ∈ C := by repeat (first | exact List.mem_cons_self | apply List.mem_cons_of_mem)) : AD4 P N D b0 Mk L C E (.load t x) ty v := fun a w ha hw => by
  have hc := hw.2 _ hm
  simp only at hc
  simp [Em, execOp, ha.eval hx, Instr.loadAt, Instr.sureAddr, loadVar, hA, hc]
/-- The cells from ⟨r, k⟩ on, as C has them. -/
inductive sI (C : List (Addr × Value)) (r : Nat) : Nat → List Value → Prop
  | nil {k : Nat} : sI C r k []
  | cons {k : Nat} {v : Value} {cs : List Value} (hm : ((⟨r, k, none⟩ : Addr), v) ∈ C) (h : sI C r (k + 1) cs) : sI C r k (v :: cs)
theorem sI.at {r : Nat} : ∀ {cs : List Value} {k : Nat}, sI C r k cs → ∀ j v, cs[j]? = some v → ((⟨r, k + j, none⟩ : Addr), v) ∈ C
  | _, _, .nil, j, v, h => by cases h
  | _, _, .cons hm h, j, v, hj => by
    cases j with
    | zero => cases hj; exact hm
    | succ j => have := sI.at h j v (by simpa using hj); rwa [Nat.add_assoc, Nat.add_comm 1 j] at this
end
end Go.Proofs.YtdnjanhdnibkfaaGreatDoor.Jd

namespace Go.Proofs.YtdnjanhdnibkfaaGreatDoor.Jd
open Go.ChangeShapes Go.WideShapes Go.ChangeAt Go.RowKit
set_option linter.unusedVariables false
set_option linter.unusedSimpArgs false
theorem Bu {P : Program} {x : String × DataW Unit} {l : List (String × DataW Unit)} {w : World} (h : laidMet P (x :: l) w) : laidMet P l w := by
  obtain ⟨ps, hv, hn, ha⟩ := h
  obtain ⟨n, d⟩ := x
  obtain ⟨g, t, cs, fuel, p, q, h1, h2, h3, h4, h5, rfl⟩ := hv
  refine ⟨q, h5, (List.nodup_append.1 hn).2.1, fun b off hm => ha b off (List.mem_append_right _ hm)⟩
theorem Ij (cs : List Value) (a k b : Nat) (h : b = a + k) : cs.drop a = (cs.drop a).take k ++ cs.drop b := by
  subst h
  rw [← List.drop_drop]
  exact (List.take_append_drop k (cs.drop a)).symm
theorem M5 {n : Int} (h : (Lit.int .i64 n).wf = true) : -9223372036854775808 ≤ n ∧ n ≤ 9223372036854775807 := by
  simp [Lit.wf, IntKind.min, IntKind.max, IntKind.signed, IntKind.bits] at h
  omega
theorem U0 (s : ByteArray) : s = bs s.data.toList := by
  apply ByteArray.ext
  simp [bs]
end Go.Proofs.YtdnjanhdnibkfaaGreatDoor.Jd

namespace Go.Proofs.YtdnjanhdnibkfaaGreatDoor.Jd
open Go.RowKit (Below)
set_option linter.unusedVariables false
set_option linter.unusedSimpArgs false
def nL (b0 : World) (B : Am) {α : Type} (enc : α → List Value) (k : Nat) (a : Option Addr) (xs : List α) : Prop := ∀ w : World, aD b0 w → (∀ p ∈ B, w.heap[p.1]? = some p.2) → Sl w enc k a xs
section
variable {b0 : World} {B L : Am} {α : Type} {enc : α → List Value} {k : Nat} {a : Option Addr} {xs : List α}
theorem nL.base (h : Sl b0 enc k a xs) : nL b0 B enc k a xs := fun _ he _ => h.ext he
theorem nL.mono {B' : Am} (h : nL b0 B' enc k a xs) (hB : ∀ p ∈ B', p ∈ B := by intro p hp; repeat (first | exact hp | exact List.mem_append_left _ hp | apply List.mem_append_right | apply List.mem_cons_of_mem)) : nL b0 B enc k a xs := fun w he hw => h w he fun p hp => hw p (hB p hp)
theorem nL.nil : nL b0 B enc k a ([] : List α) := fun _ _ _ => Sl.nil
theorem nL.take (h : nL b0 B enc k a xs) (n : Nat) : nL b0 B enc k a (xs.take n) := fun w he hw i x hx => h w he hw i x (by
    rw [List.getElem?_take] at hx
    split at hx
    · exact hx
    · cases hx)
theorem nL.slj (h : nL b0 B enc k a xs) (hB : ∀ p ∈ B, p ∈ L := by intro p hp; repeat (first | exact hp | exact List.mem_append_left _ hp | apply List.mem_append_right | apply List.mem_cons_of_mem)) : Ch b0 [] L enc k a xs := fun w hw => h w hw.ext_out fun p hp => hw.own p (hB p hp)
theorem Bi.le' {e : TypeId} {c : Nat} (h : Bi enc k e a c B xs) : xs.length ≤ c := by
  rcases h with ⟨rfl, _, rfl⟩ | ⟨_, _, _, _, _, _, h1, _⟩
  · simp
  · exact h1
theorem Bi.take {e : TypeId} {c : Nat} (hE : Dm enc k) (h : Bi enc k e a c B xs) (n : Nat) : Bi enc k e a c B (xs.take n) := by
  rcases h with ⟨rfl, rfl, rfl⟩ | ⟨r, cur, fz, rfl, rfl, hfz, h1, h2, h3⟩
  · simpa using Bi.nil
  · refine .inr ⟨r, cur, fz, rfl, rfl, hfz, by simp; omega, h2, ?_⟩
    have hm : (xs.take n).length * k ≤ xs.length * k := Nat.mul_le_mul_right _ (by simp; omega)
    rw [show (xs.take n).length * k = min ((xs.take n).length * k) (xs.length * k) by omega, ← List.take_take, h3]
    have hl : Dx enc xs = Dx enc (xs.take n) ++ Dx enc (xs.drop n) := by rw [← Gp, List.take_append_drop]
    rw [hl, List.take_left' (Ck hE _)]
end
section
variable {P : Program} {rd : Option Nat} {b0 : World} {Mk : List Nat} {N : Nat} {D : List Deferred} {ops : Array Oper} {L V : Am} {E : Eg} {T : Act → World → Prop}
variable {op : Op} {ty : TypeId} {pos : String} {after : Array Edge} {d : Nat}
theorem xG {α : Type} {enc : α → List Value} {k by_ n : Nat} {i : Int} {t e : TypeId} {z : Value} {x0 : α} {x y : Operand} (hT : Ty P e k by_ z) (hU : P.underlying t = some (.slice e)) (hE : Dm enc k) (hz : Cp z = enc x0) (hb : by_ * n ≤ 281474976710656 ∧ n ≤ 4611686018427387904) (hi : i = (n : Int)) (hx : ev E x = some (.int .i64 i) := by rfl) (hy : ev E y = some (.int .i64 i) := by rfl) :
    Rb P N D b0 Mk L E (.makeSlice t x y) ty [] (Option Addr × Am) (fun q => .value (.slice q.1 (List.replicate n x0).length n)) (fun q => q.2) (fun q => Bi enc k e q.1 n q.2 (List.replicate n x0)) := fun a w ha _ => by
  subst hi
  obtain ⟨i, hi, rfl, rfl, hzz⟩ := hT.ex
  have hb3 : (i.bytes : Int) * (n : Int) ≤ 281474976710656 := by
    rw [← Int.natCast_mul]; omega
  have := run_make (P := P) w t e i z hU hi hzz .i64 .i64 (n : Int) (n : Int) z8 z8 hb3 z8
  refine ⟨(some ⟨w.heap.size, 0, none⟩, [(w.heap.size, .cells (madeCells z.cells (n * i.size)) e)]), w.alloc (.cells (madeCells z.cells (n * i.size)) e), ?_, Rc _, Bi.made hE hz⟩
  simp [Em, execOp, ha.eval hx, ha.eval hy, this]
theorem M6 {α : Type} {enc : α → List Value} {kk by_ n : Nat} {i : Int} {t e : TypeId} {z : Value} {x0 : α} {x y : Operand} {l : List Oper} (hT : Ty P e kk by_ z) (hU : P.underlying t = some (.slice e)) (hE : Dm enc kk) (hz : Cp z = enc x0) (hb : by_ * n ≤ 281474976710656 ∧ n ≤ 4611686018427387904) (hx : ev E x = some (.int .i64 i) := by rfl) (hy : ev E y = some (.int .i64 i) := by rfl) (hi : i = (n : Int) := by omega) (hd : Nat.blt d N = true := by rfl)
    (k : ∀ a2 B2, Bi enc kk e a2 n B2 (List.replicate n x0) → JL P rd b0 Mk N D ops (B2 ++ L) ((d, .slice a2 (List.replicate n x0).length n) :: E) l T) :
    JL P rd b0 Mk N D ops L E ({ dst := some d, op := .makeSlice t x y, type := ty, pos := pos, after := after, guard := none } :: l) T :=
  nF (List.Perm.refl _) (xG hT hU hE hz hb hi hx hy) rfl hd (fun q hq => k q.1 q.2 hq)
theorem Iy {α : Type} {enc : α → List Value} {kk by_ n : Nat} {i : Int} {t e : TypeId} {z : Value} {x0 : α} {x y : Operand} {l : List Oper} {n' f' : Nat} {listed : Array Bool} {j : Nat} (hj : l[j]? = some { dst := some d, op := .makeSlice t x y, type := ty, pos := pos, after := after, guard := none }) (hT : Ty P e kk by_ z) (hU : P.underlying t = some (.slice e)) (hE : Dm enc kk) (hz : Cp z = enc x0) (hb : by_ * n ≤ 281474976710656 ∧ n ≤ 4611686018427387904) (hx : ev E x = some (.int .i64 i) := by rfl) (hy : ev E y = some (.int .i64 i) := by rfl) (hi : i = (n : Int) := by omega) (hd : Nat.blt d N = true := by rfl)
    (k : ∀ a2 B2, Bi enc kk e a2 n B2 (List.replicate n x0) → JG P rd b0 Mk N D l n' f' (listed.setIfInBounds j true) (B2 ++ L) V ((d, .slice a2 (List.replicate n x0).length n) :: E) T) :
    JO P rd b0 Mk N D l n' f' listed L V E T j :=
  AU7 hj (xG hT hU hE hz hb hi hx hy) rfl hd (fun q hq => k q.1 q.2 hq)
theorem Ju {t e : TypeId} {x y : Operand} {a : Option Addr} {n c : Nat} {i : Int} {ki : IntKind} (m : Nat) (hU : ∀ w, (underlying t).run P w = .ok (.slice e) w) (hS : ∀ w, ∃ q, (sizeOf e).run P w = .ok q w) (hx : ev E x = some (.slice a n c) := by rfl) (hy : ev E y = some (.int ki i) := by rfl) (hm : m ≤ c := by omega) (hi : i = (m : Int) := by first | rfl | omega) :
    Cm P N D b0 Mk L E (.slice t x none (some y) none) ty (.slice a m c) := sC m hU hS hm hx hy hi
theorem Ta {t e : TypeId} {x y y2 : Operand} {a : Option Addr} {n c : Nat} {i i2 : Int} {ki ki2 : IntKind} (m m2 : Nat) (hU : ∀ w, (underlying t).run P w = .ok (.slice e) w) (hS : ∀ w, ∃ q, (sizeOf e).run P w = .ok q w) (hx : ev E x = some (.slice a n c) := by rfl) (hy : ev E y = some (.int ki i) := by rfl) (hy2 : ev E y2 = some (.int ki2 i2) := by rfl)
    (hm : m ≤ m2 := by omega) (hm2 : m2 ≤ c := by omega) (hi : i = (m : Int) := by first | rfl | omega) (hi2 : i2 = (m2 : Int) := by first | rfl | omega) :
    Cm P N D b0 Mk L E (.slice t x none (some y) (some y2)) ty (.slice a m m2) := fS m m2 hU hS hm hm2 hx hy hy2 hi hi2
end
end Go.Proofs.YtdnjanhdnibkfaaGreatDoor.Jd

