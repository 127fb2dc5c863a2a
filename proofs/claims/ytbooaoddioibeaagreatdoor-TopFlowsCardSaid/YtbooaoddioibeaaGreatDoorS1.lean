/- Part of the proofs of this seat: walks and plain facts. No condition. -/
import Derived.Test.YtbooaoddioibeaaGreatDoorS0
import Derived.CallsIn
import Derived.RangeFuncLeaves
import Derived.RangeFuncRecord
import Derived.Below
import Derived.OrdersHeld
import Derived.KernelRfl
import Derived.OrdersIn
import Derived.StillTail
import Derived.Laws.Cells
import Derived.Laws.World
import Derived.IntWalk
import Derived.Laws.AppendOwn
import Derived.Laws.MakeOwn
import Derived.Laws.CopyRow
import Derived.Scope
import Derived.WalkKit
import Derived.ProofKit
import Derived.OpenShut
import Derived.Carry
import Derived.Laws.StructEq
import Derived.Lib.ItoaNum
import Derived.Lib.IndexMore
import Derived.Lib.Join
import Derived.Deep.DeepHandedRow
import Derived.Lib.LaidTab
import Derived.SevenTiedAt
import Derived.Stop.LaidTwo
import Derived.Lib.ConvBytes
import Derived.Laws.BytesString
import Derived.Lay
import Derived.LaidHandle
import Derived.Lib.AppendZeros
import Derived.Lib.AppendZerosOnto
import Derived.Lib.Overlaps
import Derived.Lib.Builder
import Derived.Lib.UnsafeStr
import Derived.Shelf.Strings.Builder1
import Derived.Shelf.Strings.Builder2
import Derived.Shelf.Strings.OnBuilder
import Derived.Shelf.Small.Utf8
import Derived.Shelf.Small.Bits
import Derived.Shelf.Small.Strs
import Derived.Shelf.Small.Wraps
import Derived.Shelf.Strings.BuilderF
import Derived.Shelf.Strings.BuilderK
import Derived.Shelf.Utf8.RuneCount
import Derived.Shelf.Strings.Builder2Cap
import Derived.Shelf.Strconv.Atoi
import Derived.Shelf.Strconv.Itoa0
import Derived.Shelf.Strconv.Itoa1
import Derived.Shelf.LaysM
import Derived.Shelf.Strconv.Itoa2
import Derived.Shelf.Strconv.Itoa3
import Derived.Shelf.Strconv.AtoiErrFast
import Derived.Shelf.Strconv.ParseIntEmpty
import Derived.Shelf.Strconv.AtoiFail
import Derived.Shelf.Strconv.Clone
import Derived.Shelf.Strconv.SyntaxError
import Derived.Shelf.LaysC
import Derived.Shelf.Strconv.ToError
import Derived.Shelf.Strconv.AtoiErr
import Derived.Shelf.Strconv.ErrVar
import Derived.Shelf.Strconv.Lower
import Derived.Shelf.Strconv.ParseUint10
import Derived.Shelf.Strconv.ParseUint10Empty
import Derived.Shelf.Strconv.ParseUint10Any
import Derived.Shelf.Strconv.ParseInt10
import Derived.Shelf.Strconv.AtoiLong
import Derived.Shelf.Strconv.AtoiInnerAll
import Derived.Shelf.Strconv.RangeError
import Derived.Shelf.Strconv.ToErrorRange
import Derived.Shelf.Strconv.AtoiAll
import Derived.Shelf.Strconv.ErrVarAll
import Derived.Shelf.Strconv.ParseUintEmpty
import Derived.Shelf.Strconv.ParseUint10b64
import Derived.Shelf.Strconv.ParseUint10b32
import Derived.Shelf.Strconv.ParseUint10b16
import Derived.Shelf.Strconv.ParseUint10b8
import Derived.Shelf.Strconv.ParseUint10At
import Derived.Shelf.Strconv.ParseInt10At64
import Derived.Shelf.Strconv.ParseInt10At32
import Derived.Shelf.Strconv.ParseInt10At16
import Derived.Shelf.Strconv.ParseInt10At8
import Derived.Shelf.Strconv.ParseInt10All
import Derived.Shelf.Strings.Search1
import Derived.Shelf.Strings.Search2
import Derived.Shelf.Strings.Search3
import Derived.Shelf.Strings.Cut
import Derived.Shelf.Strings.Count
import Derived.Shelf.Strings.Shaped
import Derived.Shelf.Sort.Plain
import Derived.Shelf.Strings.Prefix
import Derived.Shelf.Strings.Runes
import Derived.Shelf.Strings.IndexAny
import Derived.Shelf.Strings.AsciiSet
import Derived.Shelf.Strings.IndexAnyAll
import Derived.Test.YtbooaoddioibeaaGreatDoorProg
namespace Go.Proofs.YtbooaoddioibeaaGreatDoor.Jd
open Go.Proofs.Tryz
open Go.RowKit (Below)
set_option linter.unusedVariables false
set_option linter.unusedSimpArgs false

def FW (rd : Option Nat) : Fence := { fn := fun _ => True, depth := none, alive := false, round := rd }

theorem zH (rd : Option Nat) (k : Nat) : (FW rd).room k := fun _ h => by simp [FW] at h

abbrev Dq := List (Nat × Value)

def look : Dq → Nat → Option Value
  | [], _ => none
  | p :: r, t => match Nat.beq p.1 t with
    | true => some p.2
    | false => look r t

def ev (E : Dq) : Operand → Option Value
  | .tmp t => look E t
  | .const v => some v
  | .global g => some (.pointer (some ⟨g, 0, none⟩))
  | .func f => some (.func (.func f) #[] #[])

structure Bl (N : Nat) (D : List Deferred) (E : Dq) (a : Act) : Prop where
  size : a.tmps.size = N
  defs : a.defers = D
  val : ∀ t v, look E t = some v → a.tmps.getD t undef = v

theorem Bl.eval {N : Nat} {D : List Deferred} {E : Dq} {a : Act} (h : Bl N D E a) {x : Operand} {v : Value} (hx : ev E x = some v) : a.eval x = v := by
  cases x with
  | tmp t => exact h.val t v hx
  | const u => exact Option.some.inj hx
  | global g => exact Option.some.inj hx
  | func f => exact Option.some.inj hx

theorem Bl.put {N : Nat} {D : List Deferred} {E : Dq} {a : Act} (h : Bl N D E a) {d : Nat} (hd : Nat.blt d N = true) (v : Value) : Bl N D ((d, v) :: E) (a.put (some d) v) := by
  have hd' : d < N := by simpa [Nat.blt_eq] using hd
  refine ⟨by simp [Act.put, h.size], h.defs, fun t u hu => ?_⟩;simp only [look] at hu;by_cases e : d = t
  · subst e;simp only [Nat.beq_refl] at hu;have : v = u := Option.some.inj hu;subst this;simp [Act.put, h.size, hd']
  · have hb : Nat.beq d t = false := by
      cases hq : Nat.beq d t with
      | false => rfl
      | true => exact absurd (Nat.eq_of_beq_eq_true hq) e
    rw [hb] at hu;have := h.val t u hu;simp only [Act.put, Array.getD_eq_getD_getElem?] at *;rw [Array.getElem?_setIfInBounds_ne e];exact this

/-- What is forgotten: fewer slots are known. -/
inductive Kj (E : Dq) : Dq → Prop
  | nil : Kj E []
  | cons {t : Nat} {v : Value} {r : Dq} (h : look E t = some v) (hr : Kj E r) : Kj E ((t, v) :: r)

theorem Kj.look {E E' : Dq} (h : Kj E E') : ∀ t v, look E' t = some v → Jd.look E t = some v := by
  induction h with
  | nil => intro t v h; cases h
  | cons h hr ih =>
    intro t v hv;simp only [Jd.look] at hv;split at hv
    · rename_i hb
      have := Nat.eq_of_beq_eq_true hb;subst this;have := Option.some.inj hv;subst this;exact h
    · exact ih t v hv

theorem Bl.sub {N : Nat} {D : List Deferred} {E E' : Dq} {a : Act} (h : Bl N D E a) (hs : Kj E E') : Bl N D E' a :=
  ⟨h.size, h.defs, fun t v hv => h.val t v (hs.look t v hv)⟩

abbrev Ad := List (Nat × Obj)

/-- w is the base world b0, but for the blocks Mk (which the call may write) and for new blocks; of the blocks L the content is known. -/
structure SH (b0 : World) (Mk : List Nat) (L : Ad) (w : World) : Prop where
  os : w.os = b0.os
  tape : w.tape = b0.tape
  output : w.output = b0.output
  size : b0.heap.size ≤ w.heap.size
  same : ∀ k, k < b0.heap.size → k ∉ Mk → w.heap[k]? = b0.heap[k]?
  own : ∀ p ∈ L, w.heap[p.1]? = some p.2
  key : ∀ p ∈ L, p.1 ∈ Mk ∨ b0.heap.size ≤ p.1
  nd : (L.map Prod.fst).Nodup

theorem SH.lt {b0 : World} {Mk : List Nat} {L : Ad} {w : World} (h : SH b0 Mk L w) {p : Nat × Obj} (hp : p ∈ L) : p.1 < w.heap.size :=
  (Array.getElem?_eq_some_iff.1 (h.own p hp)).1

theorem SH.begin (w : World) : SH w [] [] w :=
  ⟨rfl, rfl, rfl, Nat.le_refl _, fun _ _ _ => rfl, (fun _ h => by cases h), (fun _ h => by cases h), List.nodup_nil⟩

theorem SH.drawn {b0 : World} {Mk : List Nat} {L : Ad} {w : World} (h : SH b0 Mk L w) (n : Nat) : SH b0 Mk L { w with drawn := n } :=
  ⟨h.os, h.tape, h.output, h.size, h.same, h.own, h.key, h.nd⟩

theorem SH.alloc {b0 : World} {Mk : List Nat} {L : Ad} {w : World} (h : SH b0 Mk L w) (o : Obj) (hM : ∀ k ∈ Mk, k < b0.heap.size) :
    SH b0 Mk ((w.heap.size, o) :: L) (w.alloc o) := by
  refine ⟨h.os, h.tape, h.output, ?_, ?_, ?_, ?_, ?_⟩
  · have := h.size; simp; omega
  · intro k hk hM;rw [Below.heap_alloc w o k (Nat.lt_of_lt_of_le hk h.size)]; exact h.same k hk hM
  · intro p hp;rcases List.mem_cons.1 hp with rfl | hp
    · show (w.heap.push o)[w.heap.size]? = some o
      simp
    · rw [Below.heap_alloc w o p.1 (h.lt hp)]; exact h.own p hp
  · intro p hp;rcases List.mem_cons.1 hp with rfl | hp
    · exact .inr h.size
    · exact h.key p hp
  · simp only [List.map_cons, List.nodup_cons];refine ⟨fun hm => ?_, h.nd⟩;obtain ⟨p, hp, he⟩ := List.mem_map.1 hm;have := h.lt hp;omega

theorem SH.sub {b0 : World} {Mk : List Nat} {L L' : Ad} {w : World} (h : SH b0 Mk L w) (hs : List.Sublist L' L) : SH b0 Mk L' w :=
  ⟨h.os, h.tape, h.output, h.size, h.same, fun p hp => h.own p (hs.subset hp), fun p hp => h.key p (hs.subset hp), (hs.map _).nodup h.nd⟩

theorem SH.perm {b0 : World} {Mk : List Nat} {L L' : Ad} {w : World} (h : SH b0 Mk L w) (hs : List.Perm L L') : SH b0 Mk L' w :=
  ⟨h.os, h.tape, h.output, h.size, h.same, fun p hp => h.own p (hs.mem_iff.2 hp), fun p hp => h.key p (hs.mem_iff.2 hp), (hs.map _).nodup_iff.1 h.nd⟩

abbrev jW (w w' : World) : Prop := Below w.heap.size w w'

theorem SH.ext {b0 : World} {Mk : List Nat} {L : Ad} {w w' : World} (h : SH b0 Mk L w) (he : jW w w') : SH b0 Mk L w' :=
  ⟨he.os.trans h.os, he.tape.trans h.tape, he.output.trans h.output, Nat.le_trans h.size he.size,
   fun k hk hM => (he.block k (Nat.lt_of_lt_of_le hk h.size)).trans (h.same k hk hM),
   fun p hp => (he.block p.1 (h.lt hp)).trans (h.own p hp), h.key, h.nd⟩

/-- New blocks of a callee, with their content. -/
structure Va (w w' : World) (B : Ad) : Prop where
  ext : jW w w'
  own : ∀ p ∈ B, w'.heap[p.1]? = some p.2
  new : ∀ p ∈ B, w.heap.size ≤ p.1
  nd : (B.map Prod.fst).Nodup

theorem SH.fresh {b0 : World} {Mk : List Nat} {L B : Ad} {w w' : World} (h : SH b0 Mk L w) (hf : Va w w' B) : SH b0 Mk (B ++ L) w' := by
  have h' := h.ext hf.ext;refine ⟨h'.os, h'.tape, h'.output, h'.size, h'.same, ?_, ?_, ?_⟩
  · intro p hp;rcases List.mem_append.1 hp with hp | hp
    · exact hf.own p hp
    · exact h'.own p hp
  · intro p hp;rcases List.mem_append.1 hp with hp | hp
    · exact .inr (Nat.le_trans h.size (hf.new p hp))
    · exact h'.key p hp
  · rw [List.map_append, List.nodup_append];refine ⟨hf.nd, h.nd, fun a ha b hb => ?_⟩;obtain ⟨p, hp, rfl⟩ := List.mem_map.1 ha;obtain ⟨q, hq, rfl⟩ := List.mem_map.1 hb;have h1 := hf.new p hp;have h2 := h.lt hq;omega

theorem SH.ext_out {b0 : World} {L : Ad} {w : World} (h : SH b0 [] L w) : jW b0 w :=
  ⟨h.os, h.tape, h.output, h.size, fun k hk => h.same k hk Jy⟩

theorem SH.fresh_out {b0 : World} {L : Ad} {w : World} (h : SH b0 [] L w) : Va b0 w L :=
  ⟨h.ext_out, h.own, fun p hp => (h.key p hp).resolve_left Jy, h.nd⟩

section
variable (P : Program) (rd : Option Nat) (b0 : World) (Mk : List Nat) (N : Nat) (D : List Deferred) (L : Ad) (E : Dq)

def J (c : Code) (Q : Exit → Act → World → Prop) : Prop :=
  ∀ a w, Bl N D E a → SH b0 Mk L w → c.wpIn (FW rd) 0 P Q a w

def JX (Q : Exit → Act → World → Prop) (e : Exit) : Prop :=
  ∀ a w, Bl N D E a → SH b0 Mk L w → Q e a w
end

def zJ (P : Program) (rd : Option Nat) (c : Code) (Q : Exit → Act → World → Prop) : Exit → Act → World → Prop :=
  Exit.then (c.wpIn (FW rd) 0 P Q) Q

def Wq (I : Act → World → Prop) (Q : Exit → Act → World → Prop) : Exit → Act → World → Prop := Exit.then I Q

section rules
variable {P : Program} {rd : Option Nat} {b0 : World} {Mk : List Nat} {N : Nat} {D : List Deferred} {L : Ad} {E : Dq} {Q : Exit → Act → World → Prop}

theorem Kk {x y : Code} (h : J P rd b0 Mk N D L E x (zJ P rd y Q)) : J P rd b0 Mk N D L E (Code.seq x y) Q :=
  fun a w ha hw => wpIn_seq (h a w ha hw)
theorem Nf (h : JX b0 Mk N D L E Q .normal) : J P rd b0 Mk N D L E Code.skip Q := fun a w ha hw => wpIn_skip (h a w ha hw)
theorem mM {l : Nat} (h : JX b0 Mk N D L E Q .normal) : J P rd b0 Mk N D L E (Code.label l) Q := fun a w ha hw => wpIn_label (h a w ha hw)
theorem Hw {id : Nat} (h : JX b0 Mk N D L E Q (.exit id)) : J P rd b0 Mk N D L E (Code.exit id) Q := fun a w ha hw => wpIn_exit (h a w ha hw)
theorem Vb (h : JX b0 Mk N D L E Q .ret) : J P rd b0 Mk N D L E Code.ret Q := fun a w ha hw => wpIn_ret (h a w ha hw)
theorem Ie {id : Nat} {c : Code} (h : J P rd b0 Mk N D L E c (Exit.inBlock id Q)) : J P rd b0 Mk N D L E (Code.block id c) Q :=
  fun a w ha hw => wpIn_block (h a w ha hw)
theorem bO {c : Operand} {x y : Code} (hc : ev E c = some (.bool true)) (h : J P rd b0 Mk N D L E x Q) : J P rd b0 Mk N D L E (Code.cond c x y) Q :=
  fun a w ha hw => wpIn_cond_true (ha.eval hc) (h a w ha hw)
theorem Jo {c : Operand} {x y : Code} (hc : ev E c = some (.bool false)) (h : J P rd b0 Mk N D L E y Q) : J P rd b0 Mk N D L E (Code.cond c x y) Q :=
  fun a w ha hw => wpIn_cond_false (ha.eval hc) (h a w ha hw)
theorem Kl {c : Operand} {x y : Code} {p : Prop} [Decidable p] (hc : ev E c = some (.bool (decide p))) (h1 : p → J P rd b0 Mk N D L E x Q)
    (h0 : ¬ p → J P rd b0 Mk N D L E y Q) : J P rd b0 Mk N D L E (Code.cond c x y) Q := by
  by_cases hp : p
  · exact bO (by rw [hc]; simp [hp]) (h1 hp)
  · exact Jo (by rw [hc]; simp [hp]) (h0 hp)
theorem mN {c : Code} (L' : Ad) (hs : List.Perm L L') (h : J P rd b0 Mk N D L' E c Q) : J P rd b0 Mk N D L E c Q :=
  fun a w ha hw => h a w ha (hw.perm hs)
theorem Rn {e : Exit} (L' : Ad) (hs : List.Sublist L' L) (h : JX b0 Mk N D L' E Q e) : JX b0 Mk N D L E Q e :=
  fun a w ha hw => h a w ha (hw.sub hs)
theorem Km {e : Exit} (L' : Ad) (hs : List.Perm L L') (h : JX b0 Mk N D L' E Q e) : JX b0 Mk N D L E Q e :=
  fun a w ha hw => h a w ha (hw.perm hs)

theorem Jz {y : Code} (h : J P rd b0 Mk N D L E y Q) : JX b0 Mk N D L E (zJ P rd y Q) .normal := h
theorem Vc {y : Code} {id : Nat} (h : JX b0 Mk N D L E Q (.exit id)) : JX b0 Mk N D L E (zJ P rd y Q) (.exit id) := h
theorem Qs {y : Code} (h : JX b0 Mk N D L E Q .ret) : JX b0 Mk N D L E (zJ P rd y Q) .ret := h
theorem Kn {id : Nat} (h : JX b0 Mk N D L E Q .normal) : JX b0 Mk N D L E (Exit.inBlock id Q) .normal := h
theorem Rp {id : Nat} (h : JX b0 Mk N D L E Q .normal) : JX b0 Mk N D L E (Exit.inBlock id Q) (.exit id) :=
  fun a w ha hw => by simp only [Exit.inBlock, if_true]; exact h a w ha hw
theorem fK {I : Act → World → Prop} {id : Nat} (h : JX b0 Mk N D L E Q (.exit id)) : JX b0 Mk N D L E (Wq I Q) (.exit id) := h
def Zv {σ : Type} (b0 : World) (Mk : List Nat) (N : Nat) (D : List Deferred) (Ls : σ → Ad) (Es : σ → Dq) (I : σ → Prop) (m : σ → Nat) (n : Nat) (a : Act) (w : World) : Prop :=
  ∃ s, I s ∧ m s < n ∧ Bl N D (Es s) a ∧ SH b0 Mk (Ls s) w

theorem bP {σ : Type} {c : Code} (Ls : σ → Ad) (Es : σ → Dq) (I : σ → Prop) (m : σ → Nat) (s0 : σ) (hI : I s0) (hE : Kj E (Es s0)) (hL : List.Perm L (Ls s0))
    (h : ∀ s, I s → J P rd b0 Mk N D (Ls s) (Es s) c (Wq (Zv b0 Mk N D Ls Es I m (m s)) Q)) : J P rd b0 Mk N D L E (Code.loop c) Q := by
  intro a w ha hw b k cs hro hb hr;have key : ∀ (fuel : Nat) (a : Act) (w : World) (s : σ), m s < fuel → I s → Bl N D (Es s) a → SH b0 Mk (Ls s) w →
      ∃ e a' w', Q e a' w' ∧ ArrivesIn (Machine.fenced P (FW rd)) P (lone (b.atR a (.code c :: .inLoop c :: k)) cs w) b k cs e a' w' := by
    intro fuel
    induction fuel with
    | zero => intro a w s hm; omega
    | succ fuel ih =>
      intro a w s hm hI ha hw;obtain ⟨e, a₁, w₁, hq, harr⟩ := h s hI a w ha hw b (.inLoop c :: k) cs hro hb hr;cases e with
      | normal =>
        obtain ⟨s', hI', hm', ha', hw'⟩ := hq;obtain ⟨e₂, a₂, w₂, hq₂, harr₂⟩ := ih a₁ w₁ s' z6 hI' ha' hw';exact ⟨e₂, a₂, w₂, hq₂, .of_steps (StepsIn.trans harr (.one (fenced_calm hb hr rfl) stepR_inLoop)) harr₂⟩
      | exit id => exact ⟨_, a₁, w₁, hq, .pass (x := .inLoop c) rfl (fun _ _ => .inl Jy) harr⟩
      | goto l => exact ⟨_, a₁, w₁, hq, .pass (x := .inLoop c) rfl (fun _ _ => .inl Jy) harr⟩
      | ret => exact ⟨_, a₁, w₁, hq, .pass (x := .inLoop c) rfl (fun _ _ => .inl Jy) harr⟩
      | panic ch => exact ⟨_, a₁, w₁, hq, .pass (x := .inLoop c) rfl (fun _ _ => .inl Jy) harr⟩
      | outgrown => exact ⟨_, a₁, w₁, hq, .pass (x := .inLoop c) rfl (fun _ _ => .inl Jy) harr⟩
  obtain ⟨e, a', w', hq, harr⟩ := key (m s0 + 1) a w s0 z6 hI (ha.sub hE) (hw.perm hL);exact ⟨e, a', w', hq, .of_steps (.one (fenced_calm hb hr rfl) stepR_loop) harr⟩

theorem bQ {σ : Type} {Ls : σ → Ad} {Es : σ → Dq} {I : σ → Prop} {m : σ → Nat} {n : Nat} (s : σ) (hI : I s) (hm : m s < n) (hE : Kj E (Es s)) (hL : List.Perm L (Ls s)) :
    JX b0 Mk N D L E (Wq (Zv b0 Mk N D Ls Es I m n) Q) .normal :=
  fun _ _ ha hw => ⟨s, hI, hm, ha.sub hE, hw.perm hL⟩
end rules
end Go.Proofs.YtbooaoddioibeaaGreatDoor.Jd

namespace Go.Proofs.YtbooaoddioibeaaGreatDoor.Jd
open Go.Proofs.Tryz
open Go.RowKit (Below)
set_option linter.unusedVariables false
set_option linter.unusedSimpArgs false

def nQ (T : Act → World → Prop) : Exit → Act → World → Prop
  | .normal, a, w => T a w
  | _, _, _ => False

theorem bR {P : Program} {rd : Option Nat} {c : Code} {Q : Exit → Act → World → Prop} {a : Act} {w : World} (h : c.wpIn (FW rd) 0 P (nQ (Q .normal)) a w) : c.wpIn (FW rd) 0 P Q a w :=
  wpIn_mono h fun e a w hq => by cases e <;> first | exact hq | exact hq.elim

section
variable {P : Program} {rd : Option Nat} {ops : Array Oper} {T : Act → World → Prop}

def wpO (P : Program) (rd : Option Nat) (ops : Array Oper) (i : Nat) (K : Act → World → Prop) (a : Act) (w : World) : Prop :=
  match ops[i]? with
  | none => K a w
  | some o => if Region.wanted o (yielded ops a.tmps) then o.wpIn (FW rd) 0 P a w K (nQ fun _ _ => False) else K (a.put o.dst undef) w

theorem pP {o : Oper} {a : Act} {w : World} {K : Act → World → Prop} {Q : Exit → Act → World → Prop} (h : o.wpIn (FW rd) 0 P a w K (nQ fun _ _ => False)) : o.wpIn (FW rd) 0 P a w K Q := by
  unfold Oper.wpIn at *;refine ⟨h.1, ?_⟩;have hh := h.2;generalize (o.semAt (FW rd).round a.eval).run P w = r at *;cases r with
  | ok x w' =>
    cases x <;> simp only [Oper.uponIn] at hh ⊢ <;>
      first
        | exact hh
        | exact ⟨hh.1, CallsIn.mono hh.2 (fun e w'' he => by cases e <;> first | exact he | exact he.elim | (obtain ⟨_, _, he⟩ := he; exact he.elim))⟩
        | exact ⟨hh.1, RoundIn.mono hh.2 (fun e w'' he => by cases e <;> first | exact he | exact he.elim | (obtain ⟨_, _, he⟩ := he; exact he.elim))⟩
  | halt x w' => cases x <;> simp only [Oper.uponIn] at hh ⊢ <;> exact hh.elim

theorem Wr {i : Nat} {a : Act} {w : World} {K K' : Act → World → Prop} (h : ∀ a w, K a w → K' a w) (hh : wpO P rd ops i K a w) : wpO P rd ops i K' a w := by
  unfold wpO at *;split
  · exact h _ _ (by simpa [*] using hh)
  · rename_i o ho
    simp only [ho] at hh;split
    · rename_i hw; simp only [hw, if_true] at hh; exact Oper.wpIn_mono h hh
    · rename_i hw; simp only [hw] at hh; exact h _ _ hh

theorem Hb {i : Nat} {a : Act} {w : World} {K : Act → World → Prop} {Q : Exit → Act → World → Prop} (hh : wpO P rd ops i K a w) : wpOpIn (FW rd) 0 P ops Q i K a w := by
  unfold wpO at hh;unfold wpOpIn;split
  · rename_i ho; simpa [ho] using hh
  · rename_i o ho
    simp only [ho] at hh;split
    · rename_i hw; simp only [hw, if_true] at hh; exact pP hh
    · rename_i hw; simp only [hw] at hh; exact ⟨fun _ _ => trivial, hh⟩

def Pk (P : Program) (rd : Option Nat) (ops : Array Oper) (T : Act → World → Prop) : List Oper → Act → World → Prop
  | [], a, w => T a w
  | o :: r, a, w => if Region.wanted o (yielded ops a.tmps) then o.wpIn (FW rd) 0 P a w (Pk P rd ops T r) (nQ fun _ _ => False) else Pk P rd ops T r (a.put o.dst undef) w

theorem Ng : ∀ (l : List Oper) (k : Nat), (∀ j, l[j]? = ops[k + j]?) → ∀ a w, Pk P rd ops T l a w → wpOpsIn (FW rd) 0 P ops (nQ T) (List.range' k l.length) a w
  | [], _, _, _, _, h => h
  | o :: l, k, hl, a, w, h => by
    have h0 : ops[k]? = some o := by simpa using (hl 0).symm
    have ih := Ng l (k + 1) (fun j => by have := hl (j + 1); simpa [Nat.add_assoc, Nat.add_comm 1 j] using this);simp only [List.length_cons, List.range'_succ, wpOpsIn_cons];refine Hb ?_;unfold wpO;simp only [h0];unfold Pk at h;split
    · rename_i hw; rw [if_pos hw] at h; exact Oper.wpIn_mono ih h
    · rename_i hw; rw [if_neg hw] at h; exact ih _ _ h

theorem Mq {id : Nat} {l : List Oper} {Q : Exit → Act → World → Prop} {a : Act} {w : World} (h : Pk P rd l.toArray (Q .normal) l a w) : (Code.region id l.toArray false).wpIn (FW rd) 0 P Q a w := by
  refine bR (wpIn_region ?_);rw [List.range_eq_range', show l.toArray.size = l.length by simp];exact Ng l 0 Jy a w h

def Dc (P : Program) (ops : Array Oper) (S : World → Prop) (o : Oper) (v : Value) (a : Act) : Prop :=
  (Region.wanted o (yielded ops a.tmps) = true ∧ ∀ w, S w → (execOp a.eval o).run P w = .ok (.value v) w) ∨
  (Region.wanted o (yielded ops a.tmps) = false ∧ v = undef)

def Ax (o : Oper) : Bool := match o.op with | .defer _ => false | .select .. => false | _ => true
theorem Ds {o : Oper} (h : Ax o = true) : ∀ c, o.op ≠ .defer c := fun c e => by simp [Ax, e] at h
theorem Dz {o : Oper} (h : Ax o = true) : ∀ cs b, o.op ≠ .select cs b := fun c b e => by simp [Ax, e] at h

theorem Cs {o : Oper} {a : Act} {w w' : World} {v : Value} {K : Act → World → Prop} {Q : Exit → Act → World → Prop} (hd : Ax o = true) (h : (execOp a.eval o).run P w = .ok (.value v) w') (hK : K (a.put o.dst v) w') :
    o.wpIn (FW rd) 0 P a w K Q := by
  refine ⟨fun _ _ => trivial, ?_⟩;rw [Oper.semAt_eq _ _ _ (Ds hd), h];exact hK

theorem Dc.wpO {S : World → Prop} {i : Nat} {o : Oper} {v : Value} {a : Act} (hi : ops[i]? = some o) (hd : Ax o = true) (hy : Dc P ops S o v a)
    {K : Act → World → Prop} {w : World} (hS : S w) (h : K (a.put o.dst v) w) : Jd.wpO P rd ops i K a w := by
  unfold Jd.wpO;simp only [hi];rcases hy with ⟨hw, hv⟩ | ⟨hw, rfl⟩
  · simp only [hw, if_true]; exact Cs hd (hv w hS) h
  · simp only [hw, Bool.false_eq_true, if_false]; exact h

theorem Dc.of_same {S : World → Prop} {o : Oper} {v : Value} {a a' : Act} (hy : Dc P ops S o v a) (he : execOp a'.eval o = execOp a.eval o)
    (hw : Region.wanted o (yielded ops a'.tmps) = Region.wanted o (yielded ops a.tmps)) : Dc P ops S o v a' := by
  unfold Dc at *;rw [he, hw];exact hy

theorem Dc.mono {S S' : World → Prop} {o : Oper} {v : Value} {a : Act} (hy : Dc P ops S o v a) (h : ∀ w, S' w → S w) : Dc P ops S' o v a :=
  hy.imp (fun ⟨a, b⟩ => ⟨a, fun w hw => b w (h w hw)⟩) id

theorem mO {S : World → Prop} {j : Nat} {oi oj : Oper} {v : Value} (hj : ops[j]? = some oj) (hap : oi.apart ops oj = true)
    (hdi : Ax oi = true) (hdj : Ax oj = true) {K : Act → World → Prop} {a : Act} {w : World}
    (hy : Dc P ops S oi v a) (h : wpO P rd ops j K (a.put oi.dst v) w) :
    wpO P rd ops j (fun a' w' => Dc P ops S oi v a' ∧ K (a'.put oi.dst v) w') a w := by
  obtain ⟨h1, h2, h3⟩ := Oper.apart_spec hap;have hsi := Dz hdi;have hsj := Dz hdj;have keep : ∀ (a : Act), Dc P ops S oi v a → ∀ u, Dc P ops S oi v (a.put oj.dst u) := fun a hy u =>
    hy.of_same (execOp_put oi hsi a oj.dst u h3) (wanted_put oi a oj.dst u h3)
  have keepD : ∀ d, Dc P ops S oi v { a with defers := d :: a.defers } := fun d => hy.of_same rfl rfl
  unfold wpO at *;simp only [hj] at *;rw [wanted_put oj a oi.dst v h1] at h;split
  · rename_i hw
    simp only [hw, if_true] at h;unfold Oper.wpIn at *;refine ⟨fun _ _ => trivial, ?_⟩;have h := h.2;rw [Oper.semAt_eq _ _ _ (Ds hdj)] at *;rw [execOp_put oj hsj a oi.dst v h1] at h;generalize (execOp a.eval oj).run P w = r at *;cases r with
    | ok n w' =>
      cases n <;> simp only [Oper.uponIn] at h ⊢
      case value u => exact ⟨keep a hy u, by rw [← Act.put_comm a v u h2]; exact h⟩
      case skip => exact ⟨keep a hy _, by rw [← Act.put_comm a v undef h2]; exact h⟩
      case defer d =>
        refine ⟨keep _ (keepD d) _, ?_⟩;rw [← Act.put_comm _ v undef h2, ← Act.put_defers];exact h
      case enter f args =>
        refine ⟨h.1, CallsIn.mono h.2 fun e w'' he => ?_⟩;cases e with
        | returned u => exact ⟨keep a hy u, by rw [← Act.put_comm a v u h2]; exact he⟩
        | panicked c => exact he.elim
        | outgrown => exact he
      case row row args => exact ⟨h.1, RowsIn.mono h.2 fun u w'' he => ⟨keep a hy u, by rw [← Act.put_comm a v u h2]; exact he⟩⟩
      case round l f tmps assign body =>
        refine ⟨h.1, RoundIn.mono h.2 fun e w'' he => ?_⟩;cases e with
        | returned u => exact ⟨keep a hy u, by rw [← Act.put_comm a v u h2]; exact he⟩
        | panicked c => exact he.elim
        | outgrown => exact he
    | halt x w' => cases x <;> simp only [Oper.uponIn] at h ⊢ <;> exact h.elim
  · rename_i hw
    simp only [hw] at h;exact ⟨keep a hy _, by rw [← Act.put_comm a v undef h2]; exact h⟩

def wpG (P : Program) (rd : Option Nat) (ops : Array Oper) (n : Nat) (Fin : Array Bool → Act → World → Prop) : Nat → (World → Prop) → Array Bool → Act → World → Prop
  | 0, _, listed, a, w => Fin listed a w
  | f + 1, S, listed, a, w =>
    Region.ready .any ops listed ≠ [] ∧ ∀ i ∈ Region.ready .any ops listed, i < n ∧
      wpO P rd ops i (fun a' w' => ∃ S' : World → Prop, (∀ x, S' x → S x) ∧ S' w' ∧ wpG P rd ops n Fin f S' (listed.setIfInBounds i true) a' w') a w

theorem pQ {n i : Nat} {oi : Oper} {v : Value} {Fin : Array Bool → Act → World → Prop} (hi : ops[i]? = some oi) (hnd : ∀ (j : Nat) (o : Oper), ops[j]? = some o → Ax o = true)
    (htl : ∀ listed, HeadInv .any ops n listed → ∀ i, i < n → listed.getD i true = false → ∀ j ∈ Region.ready .any ops listed, j < n) (hin : i < n)
    (hdone : ∀ listed a w, Fin listed a w → ∀ j ∈ Region.ready .any ops listed, n ≤ j) :
    ∀ (f : Nat) (S : World → Prop) (listed : Array Bool) (a : Act) (w : World), HeadInv .any ops n listed →
      (∀ (j : Nat) (oj : Oper), ops[j]? = some oj → j ≠ i → listed.getD j true = false → (∀ e ∈ oj.after, Region.binds .any e = true → e.on ≠ i) → oi.apart ops oj = true) →
      i ∈ Region.ready .any ops listed → Dc P ops S oi v a → S w →
      wpG P rd ops n Fin f S (listed.setIfInBounds i true) (a.put oi.dst v) w → wpG P rd ops n Fin (f + 1) S listed a w := by
  intro f
  induction f with
  | zero =>
    intro S listed a w inv _ hr hy hS H;have hun := (mem_ready.1 hr).1;refine ⟨fun h => (by rw [h] at hr; cases hr), fun j hj => ?_⟩;have hjn := htl listed inv i hin hun j hj;refine ⟨hjn, ?_⟩;by_cases hji : j = i
    · subst hji; exact hy.wpO hi (hnd _ _ hi) hS ⟨S, fun _ h => h, hS, H⟩
    · have := hdone _ _ _ H j (ready_mono hj hji);omega
  | succ f ih =>
    intro S listed a w inv hfree hr hy hS H;have hun := (mem_ready.1 hr).1;refine ⟨fun h => (by rw [h] at hr; cases hr), fun j hj => ?_⟩;have hjn := htl listed inv i hin hun j hj;refine ⟨hjn, ?_⟩;by_cases hji : j = i
    · subst hji; exact hy.wpO hi (hnd _ _ hi) hS ⟨S, fun _ h => h, hS, H⟩
    · have h1 := (H.2 j (ready_mono hj hji)).2;obtain ⟨hjun, oj, hoj, hall⟩ := mem_ready.1 hj;have hnot : ∀ e ∈ oj.after, Region.binds .any e = true → e.on ≠ i := fun e he hb heq => by
        have h1 := hall e he hb;rw [heq, getD_both hun] at h1;cases h1
      have h2 := mO hoj (hfree j oj hoj hji hjun hnot) (hnd _ _ hi) (hnd _ _ hoj) hy h1;have hfree' : ∀ k ok, ops[k]? = some ok → k ≠ i → (listed.setIfInBounds j true).getD k true = false →
          (∀ e ∈ ok.after, Region.binds .any e = true → e.on ≠ i) → oi.apart ops ok = true := fun k ok hk hki hun hno => by
        refine hfree k ok hk hki ?_ hno;by_cases hjk : j = k
        · subst hjk; exact hjun
        · rw [getD_set_ne true hjk] at hun; exact hun
      refine Wr (fun a' w' h3 => ?_) h2;obtain ⟨hy', S', hSS, hS', h4⟩ := h3;refine ⟨S', hSS, hS', ih S' (listed.setIfInBounds j true) a' w' (inv.set hj hjn) hfree' (ready_mono hr (Ne.symm hji)) (hy'.mono hSS) hS' ?_⟩;rw [Array.setIfInBounds_comm _ _ hji];exact h4

theorem Nh {n g : Nat} {Fin : Array Bool → Act → World → Prop} {Q : Exit → Act → World → Prop} (hF : ∀ listed a w, Fin listed a w → wpAnyIn (FW rd) 0 P .any ops Q g listed a w) :
    ∀ (f : Nat) (S : World → Prop) (listed : Array Bool) (a : Act) (w : World), wpG P rd ops n Fin f S listed a w → wpAnyIn (FW rd) 0 P .any ops Q (f + g) listed a w
  | 0, _, listed, a, w, h => by rw [Nat.zero_add]; exact hF _ _ _ h
  | f + 1, S, listed, a, w, h => by
    rw [show f + 1 + g = (f + g) + 1 by omega];exact ⟨fun h0 => absurd h0 h.1, fun i hi => wpOpIn_mono (fun a' w' h' => by obtain ⟨S', _, _, h'⟩ := h'; exact Nh hF f S' _ a' w' h') (Hb (h.2 i hi).2)⟩

def Zb (P : Program) (rd : Option Nat) (ops : Array Oper) (T : Act → World → Prop) : (World → Prop) → List (Bool × Oper) → Act → World → Prop
  | _, [], a, w => T a w
  | S, (true, o) :: r, a, w => ∃ v, Dc P ops S o v a ∧ Zb P rd ops T S r (a.put o.dst v) w
  | S, (false, o) :: r, a, w =>
    if Region.wanted o (yielded ops a.tmps) then
      o.wpIn (FW rd) 0 P a w (fun a' w' => ∃ S' : World → Prop, (∀ x, S' x → S x) ∧ S' w' ∧ Zb P rd ops T S' r a' w') (nQ fun _ _ => False)
    else Zb P rd ops T S r (a.put o.dst undef) w

def Zw (ops : Array Oper) (g n : Nat) : List (Bool × Nat) → Array Bool → Bool
  | [], listed => Region.seqB .any ops g n listed
  | (true, i) :: r, listed => Nat.blt i n && (Region.ready .any ops listed).contains i && Region.free .any ops listed i && Zw ops g n r (listed.setIfInBounds i true)
  | (false, i) :: r, listed => Nat.blt i n && decide (Region.ready .any ops listed = [i]) && Zw ops g n r (listed.setIfInBounds i true)

def Ws (ops : Array Oper) (l : List (Bool × Nat)) : List (Bool × Oper) := l.map fun p => (p.1, ops.getD p.2 default)

theorem Rq {n g : Nat} (hnd : ∀ (j : Nat) (o : Oper), ops[j]? = some o → Ax o = true)
    (htl : ∀ listed, HeadInv .any ops n listed → ∀ i, i < n → listed.getD i true = false → ∀ j ∈ Region.ready .any ops listed, j < n) (hn : n ≤ ops.size) :
    ∀ (l : List (Bool × Nat)) (S : World → Prop) (listed : Array Bool) (a : Act) (w : World), HeadInv .any ops n listed → Zw ops g n l listed = true → S w →
      Zb P rd ops T S (Ws ops l) a w → wpG P rd ops n (fun listed' a' w' => Region.seqB .any ops g n listed' = true ∧ T a' w') l.length S listed a w
  | [], S, listed, a, w, _, hB, _, h => ⟨hB, h⟩
  | (true, i) :: l, S, listed, a, w, inv, hB, hS, h => by
    simp only [Zw, Bool.and_eq_true, Nat.blt_eq] at hB;obtain ⟨⟨⟨hin, hr⟩, hf⟩, hB'⟩ := hB;have hlt : i < ops.size := by omega
    have hi : ops[i]? = some ops[i] := Array.getElem?_eq_getElem hlt;have hg : ops.getD i default = ops[i] := by simp [hlt]
    simp only [Ws, List.map_cons, hg, Zb] at h;obtain ⟨v, hy, h'⟩ := h;have hr' : i ∈ Region.ready .any ops listed := by simpa using hr
    exact pQ hi hnd htl hin (fun listed' a' w' hF => seqB_ready hF.1) l.length S listed a w inv (Region.free_spec hi hf) hr' hy hS
      (Rq hnd htl hn l S _ _ w (inv.set hr' hin) hB' hS h')
  | (false, i) :: l, S, listed, a, w, inv, hB, hS, h => by
    simp only [Zw, Bool.and_eq_true, Nat.blt_eq, decide_eq_true_eq] at hB;obtain ⟨⟨hin, hr⟩, hB'⟩ := hB;have hlt : i < ops.size := by omega
    have hi : ops[i]? = some ops[i] := Array.getElem?_eq_getElem hlt;have hg : ops.getD i default = ops[i] := by simp [hlt]
    simp only [Ws, List.map_cons, hg, Zb] at h;have hr' : i ∈ Region.ready .any ops listed := by rw [hr]; simp
    refine ⟨by rw [hr]; simp, fun j hj => ?_⟩;rw [hr] at hj;have hji : j = i := by simpa using hj
    subst hji;refine ⟨hin, ?_⟩;unfold wpO;simp only [hi];split
    · rename_i hw
      rw [if_pos hw] at h;refine Oper.wpIn_mono (fun a' w' h' => ?_) h;obtain ⟨S', hSS, hS', h'⟩ := h';exact ⟨S', hSS, hS', Rq hnd htl hn l S' _ a' w' (inv.set hr' hin) hB' hS' h'⟩
    · rename_i hw
      rw [if_neg hw] at h;exact ⟨S, fun _ h => h, hS, Rq hnd htl hn l S _ _ w (inv.set hr' hin) hB' hS h⟩

theorem Iu {T : Act → World → Prop} : ∀ (l : List Oper) (k : Nat) (listed : Array Bool) (a : Act) (w : World), (∀ j, l[j]? = ops[k + j]?) →
    Region.seqB .any ops l.length k listed = true → Pk P rd ops T l a w → wpAnyIn (FW rd) 0 P .any ops (nQ T) l.length listed a w
  | [], _, _, _, _, _, hB, h => ⟨by simpa [Region.seqB] using hB, h⟩
  | o :: l, k, listed, a, w, hl, hB, h => by
    have h0 : ops[k]? = some o := by simpa using (hl 0).symm
    simp only [List.length_cons, Region.seqB, Bool.and_eq_true, decide_eq_true_eq] at hB;refine ⟨fun h1 => (by rw [hB.1] at h1; cases h1), fun i hi => ?_⟩;rw [hB.1] at hi;have hik : i = k := by simpa using hi
    subst hik;have hw : wpO P rd ops i (Pk P rd ops T l) a w := by unfold wpO; simp only [h0]; exact h
    exact wpOpIn_mono (fun a' w' h' => Iu l (i + 1) _ a' w' (fun j => by have := hl (j + 1); simpa [Nat.add_assoc, Nat.add_comm 1 j] using this) hB.2 h') (Hb hw)

def Wt (l : List Oper) (n : Nat) (pl : List (Bool × Nat)) : Bool :=
  Nat.ble n l.length && Nat.beq pl.length n && l.all Ax && (Nat.beq n l.length || (Region.sinkB .any l.toArray n && Region.chainB .any l.toArray n)) &&
  Zw l.toArray (l.length - n) n pl (Array.replicate l.length false)

theorem Gq {id : Nat} {l : List Oper} {Q : Exit → Act → World → Prop} {a : Act} {w : World} (hm : P.follows .mixedOrders = true) (n : Nat) (pl : List (Bool × Nat))
    (hB : Wt l n pl = true) (S : World → Prop) (hS : S { w with drawn := w.drawn + 1 })
    (h : Zb P rd l.toArray (fun a' w' => Pk P rd l.toArray (Q .normal) (l.drop n) a' w') S (Ws l.toArray pl) a { w with drawn := w.drawn + 1 }) :
    (Code.region id l.toArray true).wpIn (FW rd) 0 P Q a w := by
  simp only [Wt, Bool.and_eq_true, Nat.ble_eq, Nat.beq_eq] at hB;obtain ⟨⟨⟨⟨hn, hlen⟩, hnd⟩, htl⟩, hpl⟩ := hB;have hnd' : ∀ j o, l.toArray[j]? = some o → Ax o = true := fun j o ho => by
    have : o ∈ l := by simpa using Array.mem_of_getElem? ho
    exact List.all_eq_true.1 hnd o this
  have inv0 : HeadInv .any l.toArray n (Array.replicate l.length false) :=
    ⟨by simp, fun j oj _ hl => (by rw [getD_replicate_false] at hl; cases hl), fun t _ ht => getD_in (by simpa using ht) (getD_replicate_false _ _)⟩
  have htail : ∀ listed, HeadInv .any l.toArray n listed → ∀ i, i < n → listed.getD i true = false → ∀ j ∈ Region.ready .any l.toArray listed, j < n := by
    intro listed inv i hin hun j hj;rw [Bool.or_eq_true] at htl;rcases htl with htl | htl
    · have : n = l.length := by simpa using htl
      obtain ⟨_, oj, hoj, _⟩ := mem_ready.1 hj;have := (Array.getElem?_eq_some_iff.1 hoj).1;simp at this;omega
    · simp only [Bool.and_eq_true] at htl;rcases Nat.lt_or_ge j n with h' | h'
      · exact h'
      · rcases Nat.lt_or_ge n l.length with h2 | h2
        · exact absurd hj (tail_waits htl.1 htl.2 (by simpa using h2) inv _ i rfl hin hun j h')
        · obtain ⟨_, oj, hoj, _⟩ := mem_ready.1 hj;have := (Array.getElem?_eq_some_iff.1 hoj).1;simp at this;omega
  have H := Rq (P := P) (rd := rd) (g := l.length - n) hnd' htail (by simpa using hn) pl S (Array.replicate l.length false) a _ inv0 hpl hS h;rw [hlen] at H;refine bR (wpIn_region_any hm ?_);have := Nh (Q := nQ (Q .normal)) (g := l.length - n) (fun listed a' w' hF => by
    have h1 := Iu (P := P) (rd := rd) (ops := l.toArray) (l.drop n) n listed a' w' (fun j => by simp [List.getElem?_drop]) (by rw [List.length_drop]; exact hF.1) hF.2
    rwa [List.length_drop] at h1) _ _ _ _ _ H
  rw [show n + (l.length - n) = l.length by omega] at this;simpa using this
end
end Go.Proofs.YtbooaoddioibeaaGreatDoor.Jd

namespace Go.Proofs.YtbooaoddioibeaaGreatDoor.Jd
open Go.Proofs.Tryz
open Go.RowKit (Below)
set_option linter.unusedVariables false
set_option linter.unusedSimpArgs false

def Bq (op : Op) (ty : TypeId) : Oper := { dst := none, op := op, type := ty, pos := "", after := #[], guard := none }

theorem Bi (ρ : Operand → Value) (dst : Option Tmp) (op : Op) (ty : TypeId) (pos : String) (after : Array Edge) (guard : Option (Nat × Bool)) :
    execOp ρ { dst := dst, op := op, type := ty, pos := pos, after := after, guard := guard } = execOp ρ (Bq op ty) := by
  cases op <;> rfl

def Cc (P : Program) (N : Nat) (D : List Deferred) (b0 : World) (Mk : List Nat) (L : Ad) (E : Dq) (op : Op) (ty : TypeId) (v : Value) : Prop :=
  ∀ a w, Bl N D E a → SH b0 Mk L w → (execOp a.eval (Bq op ty)).run P w = .ok (.value v) w

def zK (P : Program) (N : Nat) (D : List Deferred) (b0 : World) (Mk : List Nat) (L : Ad) (E : Dq) (op : Op) (ty : TypeId) (o : Obj) (v : Nat → Value) : Prop :=
  ∀ a w, Bl N D E a → SH b0 Mk L w → (execOp a.eval (Bq op ty)).run P w = .ok (.value (v w.heap.size)) (w.alloc o)

def Bf : Op → Bool
  | .defer _ => false
  | .select .. => false
  | _ => true

theorem Bm {dst : Option Tmp} {op : Op} {ty : TypeId} {pos : String} {after : Array Edge} {guard : Option (Nat × Bool)} (h : Bf op = true) :
    Ax { dst := dst, op := op, type := ty, pos := pos, after := after, guard := guard } = true := by
  cases op <;> first | rfl | (simp [Bf] at h)

section judgements
variable (P : Program) (rd : Option Nat) (b0 : World) (Mk : List Nat) (N : Nat) (D : List Deferred) (ops : Array Oper) (L V : Ad) (E : Dq)

def JL (l : List Oper) (T : Act → World → Prop) : Prop := ∀ a w, Bl N D E a → SH b0 Mk L w → Pk P rd ops T l a w

def JD (l : List (Bool × Oper)) (T : Act → World → Prop) : Prop := ∀ a w, Bl N D E a → SH b0 Mk (V ++ L) w → Zb P rd ops T (SH b0 Mk L) l a w
end judgements

def mP (v : Value) (b : Bool) : Bool := match v with | .bool c => c == b | _ => false

section steps
variable {P : Program} {rd : Option Nat} {b0 : World} {Mk : List Nat} {N : Nat} {D : List Deferred} {ops : Array Oper} {L V : Ad} {E : Dq} {Q : Exit → Act → World → Prop} {T : Act → World → Prop}

theorem SH.right {w : World} (h : SH b0 Mk (V ++ L) w) : SH b0 Mk L w := h.sub (List.sublist_append_right V L)

theorem El {id : Nat} {l : List Oper} (h : JL P rd b0 Mk N D l.toArray L E l (Q .normal)) : J P rd b0 Mk N D L E (Code.region id l.toArray false) Q :=
  fun a w ha hw => Mq (h a w ha hw)

theorem Ct (h : JX b0 Mk N D L E Q .normal) : JL P rd b0 Mk N D ops L E [] (Q .normal) := fun a w ha hw => h a w ha hw

theorem Ka {id : Nat} {l : List Oper} (hm : P.follows .mixedOrders = true) (n : Nat) (pl : List (Bool × Nat)) (hB : Wt l n pl = true)
    (h : JD P rd b0 Mk N D l.toArray L [] E (Ws l.toArray pl) (fun a w => Pk P rd l.toArray (Q .normal) (l.drop n) a w)) : J P rd b0 Mk N D L E (Code.region id l.toArray true) Q :=
  fun a w ha hw => Gq hm n pl hB (SH b0 Mk L) (hw.drawn _) (h a _ ha (hw.drawn _))

theorem bS {id : Nat} {l : List Oper} (L' V : Ad) (hL : List.Perm L (V ++ L')) (hm : P.follows .mixedOrders = true) (n : Nat) (pl : List (Bool × Nat)) (hB : Wt l n pl = true)
    (h : JD P rd b0 Mk N D l.toArray L' V E (Ws l.toArray pl) (fun a w => Pk P rd l.toArray (Q .normal) (l.drop n) a w)) : J P rd b0 Mk N D L E (Code.region id l.toArray true) Q :=
  fun a w ha hw => Gq hm n pl hB (SH b0 Mk L') ((hw.perm hL).right.drawn _) (h a _ ha ((hw.perm hL).drawn _))

theorem bT {l : List Oper} (h : JL P rd b0 Mk N D ops (V ++ L) E l T) : JD P rd b0 Mk N D ops L V E [] (fun a w => Pk P rd ops T l a w) := fun a w ha hw => h a w ha hw

variable {op : Op} {ty : TypeId} {pos : String} {after : Array Edge} {v : Value} {d : Nat}

theorem Am {l : List Oper} (h : Cc P N D b0 Mk L E op ty v) (hn : Bf op = true := by rfl) (hd : Nat.blt d N = true := by rfl) (k : JL P rd b0 Mk N D ops L ((d, v) :: E) l T) :
    JL P rd b0 Mk N D ops L E ({ dst := some d, op := op, type := ty, pos := pos, after := after, guard := none } :: l) T := by
  intro a w ha hw;unfold Pk;rw [if_pos (by rfl)];refine Cs (Bm hn) (by rw [Bi]; exact h a w ha hw) (k _ _ (ha.put hd v) hw)

theorem Lb {a : Act} {g t : Nat} {u : Value} (ha : Bl N D E a) (hg : (ops[g]?).bind (·.dst) = some t) (hu : look E t = some u) (ht : Nat.blt t N = true) (b : Bool) : (yielded ops a.tmps g == some b) = mP u b := by
  have h1 := ha.val t u hu;have hlt : t < a.tmps.size := by rw [ha.size]; simpa [Nat.blt_eq] using ht
  have h2 : a.tmps[t]? = some u := by
    rw [Array.getElem?_eq_getElem hlt];simp [hlt] at h1;rw [h1]
  unfold yielded;rw [hg, Option.bind_some, h2];cases u <;> simp [mP]

theorem L6 {l : List Oper} {g t : Nat} {b : Bool} {u : Value} (h : Cc P N D b0 Mk L E op ty v) (hg : (ops[g]?).bind (·.dst) = some t := by rfl) (hu : look E t = some u := by rfl) (hb : mP u b = true := by rfl)
    (ht : Nat.blt t N = true := by rfl) (hn : Bf op = true := by rfl) (hd : Nat.blt d N = true := by rfl) (k : JL P rd b0 Mk N D ops L ((d, v) :: E) l T) :
    JL P rd b0 Mk N D ops L E ({ dst := some d, op := op, type := ty, pos := pos, after := after, guard := some (g, b) } :: l) T := by
  intro a w ha hw;unfold Pk;rw [if_pos (by simp only [Region.wanted]; rw [Lb ha hg hu ht]; exact hb)];refine Cs (Bm hn) (by rw [Bi]; exact h a w ha hw) (k _ _ (ha.put hd v) hw)

theorem Av {f : Bool} {l : List (Bool × Oper)} (h : Cc P N D b0 Mk L E op ty v) (hn : Bf op = true := by rfl) (hd : Nat.blt d N = true := by rfl) (k : JD P rd b0 Mk N D ops L V ((d, v) :: E) l T) :
    JD P rd b0 Mk N D ops L V E ((f, { dst := some d, op := op, type := ty, pos := pos, after := after, guard := none }) :: l) T := by
  intro a w ha hw;cases f
  · unfold Zb;rw [if_pos (by rfl)];exact Cs (Bm hn) (by rw [Bi]; exact h a w ha hw.right) ⟨_, fun _ h => h, hw.right, k _ _ (ha.put hd v) hw⟩
  · unfold Zb;exact ⟨v, .inl ⟨by rfl, fun w' hw' => by rw [Bi]; exact h a w' ha hw'⟩, k _ _ (ha.put hd v) hw⟩

theorem Bl.alter {a : Act} {t : Nat} {u u' : Value} (ha : Bl N D E a) (hu : look E t = some u) (h : u = u') : Bl N D ((t, u') :: E) a := by
  subst h;refine ⟨ha.size, ha.defs, fun s x hx => ?_⟩;simp only [look] at hx;split at hx
  · rename_i hb
    have := Nat.eq_of_beq_eq_true hb;subst this;have := Option.some.inj hx;subst this;exact ha.val _ _ hu
  · exact ha.val _ _ hx

theorem O4 {l : List Oper} (t : Nat) {p : Prop} [Decidable p] (hu : look E t = some (.bool (decide p)) := by rfl) (h1 : p → JL P rd b0 Mk N D ops L ((t, .bool true) :: E) l T)
    (h0 : ¬ p → JL P rd b0 Mk N D ops L ((t, .bool false) :: E) l T) : JL P rd b0 Mk N D ops L E l T := by
  intro a w ha hw;by_cases hp : p
  · exact h1 hp a w (ha.alter hu (by simp [hp])) hw
  · exact h0 hp a w (ha.alter hu (by simp [hp])) hw

theorem fL {l : List Oper} (t : Nat) (u' : Value) {u : Value} (hu : look E t = some u) (he : u = u') (h : JL P rd b0 Mk N D ops L ((t, u') :: E) l T) : JL P rd b0 Mk N D ops L E l T :=
  fun a w ha hw => h a w (ha.alter hu he) hw
theorem Dw {l : List Oper} {o : Obj} {v : Nat → Value} (hM : ∀ k ∈ Mk, k < b0.heap.size) (h : zK P N D b0 Mk L E op ty o v) (hn : Bf op = true := by rfl) (hd : Nat.blt d N = true := by rfl)
    (k : ∀ r, b0.heap.size ≤ r → JL P rd b0 Mk N D ops ((r, o) :: L) ((d, v r) :: E) l T) :
    JL P rd b0 Mk N D ops L E ({ dst := some d, op := op, type := ty, pos := pos, after := after, guard := none } :: l) T := by
  intro a w ha hw;unfold Pk;rw [if_pos (by rfl)];exact Cs (Bm hn) (by rw [Bi]; exact h a w ha hw) (k _ hw.size _ _ (ha.put hd _) (hw.alloc o hM))

def sG (P : Program) (N : Nat) (D : List Deferred) (b0 : World) (Mk : List Nat) (L : Ad) (E : Dq) (op : Op) (ty : TypeId) (L' : Ad) (r : Next) : Prop :=
  ∀ a w, Bl N D E a → SH b0 Mk L w → ∃ w', (execOp a.eval (Bq op ty)).run P w = .ok r w' ∧ SH b0 Mk L' w'

theorem Lc {o : Oper} {a : Act} {w w' : World} {K : Act → World → Prop} {Q : Exit → Act → World → Prop} (hd : Ax o = true) (h : (execOp a.eval o).run P w = .ok .skip w') (hK : K (a.put o.dst undef) w') :
    o.wpIn (FW rd) 0 P a w K Q := by
  refine ⟨fun _ _ => trivial, ?_⟩;rw [Oper.semAt_eq _ _ _ (Ds hd), h];exact hK

theorem Qe {l : List Oper} {L' : Ad} (h : sG P N D b0 Mk L E op ty L' .skip) (hn : Bf op = true := by rfl) (k : JL P rd b0 Mk N D ops L' E l T) :
    JL P rd b0 Mk N D ops L E ({ dst := none, op := op, type := ty, pos := pos, after := after, guard := none } :: l) T := by
  intro a w ha hw;unfold Pk;rw [if_pos (by rfl)];obtain ⟨w', h1, h2⟩ := h a w ha hw;exact Lc (Bm hn) (by rw [Bi]; exact h1) (k _ _ ha h2)

theorem Gr {F : Fence} {f : FuncId} {args : Array Value} {w : World} {R : Ending → World → Prop} (hF : F = FW rd) (h : Calls P f args w R) : CallsIn F 0 P f args w R := by
  subst hF;have h' : CallsIn Fence.wide 0 P f args w R := callsIn_wide.2 h;exact ⟨trivial, fun cs _ => h'.2 cs (room_wide _)⟩

def bU (P : Program) (N : Nat) (D : List Deferred) (b0 : World) (Mk : List Nat) (L : Ad) (E : Dq) (op : Op) (ty : TypeId) (f : FuncId) (args : List Value) : Prop :=
  ∀ a w, Bl N D E a → SH b0 Mk L w → (execOp a.eval (Bq op ty)).run P w = .ok (.enter f args.toArray) w

theorem Gs {o : Oper} {a : Act} {w : World} {f : FuncId} {args : Array Value} {K : Act → World → Prop} {Q : Exit → Act → World → Prop} (hd : Ax o = true) (h : (execOp a.eval o).run P w = .ok (.enter f args) w)
    (hK : Calls P f args w fun e w' => ∃ v, e = .returned v ∧ K (a.put o.dst v) w') : o.wpIn (FW rd) 0 P a w K Q := by
  refine ⟨fun _ _ => trivial, ?_⟩;rw [Oper.semAt_eq _ _ _ (Ds hd), h];refine ⟨fun h => by simp [FW] at h, Gr rfl (hK.mono fun e w' he => ?_)⟩;obtain ⟨v, rfl, hk⟩ := he;exact hk

theorem AP4 {l : List Oper} {f : FuncId} {args : List Value} {X : Type} {v : X → Value} {L' : X → Ad} (hc : bU P N D b0 Mk L E op ty f args)
    (h : ∀ w, SH b0 Mk L w → Calls P f args.toArray w fun e w' => ∃ x, e = .returned (v x) ∧ SH b0 Mk (L' x) w') (hn : Bf op = true := by rfl) (hd : Nat.blt d N = true := by rfl)
    (k : ∀ x, JL P rd b0 Mk N D ops (L' x) ((d, v x) :: E) l T) :
    JL P rd b0 Mk N D ops L E ({ dst := some d, op := op, type := ty, pos := pos, after := after, guard := none } :: l) T := by
  intro a w ha hw;unfold Pk;rw [if_pos (by rfl)];refine Gs (Bm hn) (by rw [Bi]; exact hc a w ha hw) ((h w hw).mono fun e w' he => ?_);obtain ⟨x, rfl, h2⟩ := he;exact ⟨_, rfl, k x _ _ (ha.put hd _) h2⟩

theorem AP5 {l : List (Bool × Oper)} {f : FuncId} {args : List Value} {X : Type} {v : X → Value} {B V' : X → Ad} (hc : bU P N D b0 Mk L E op ty f args)
    (h : ∀ w, SH b0 Mk (V ++ L) w → Calls P f args.toArray w fun e w' => ∃ x, e = .returned (v x) ∧ SH b0 Mk (V' x ++ (B x ++ L)) w') (hn : Bf op = true := by rfl) (hd : Nat.blt d N = true := by rfl)
    (k : ∀ x, JD P rd b0 Mk N D ops (B x ++ L) (V' x) ((d, v x) :: E) l T) :
    JD P rd b0 Mk N D ops L V E ((false, { dst := some d, op := op, type := ty, pos := pos, after := after, guard := none }) :: l) T := by
  intro a w ha hw;unfold Zb;rw [if_pos (by rfl)];refine Gs (Bm hn) (by rw [Bi]; exact hc a w ha hw.right) ((h w hw).mono fun e w' he => ?_);obtain ⟨x, rfl, h2⟩ := he;exact ⟨_, rfl, SH b0 Mk (B x ++ L), fun y hy => hy.right, h2.right, k x _ _ (ha.put hd _) h2⟩

def Ret (P : Program) (f : FuncId) (args : List Value) (w : World) (X : Type) (v : X → Value) (B : X → Ad) : Prop :=
  Calls P f args.toArray w fun e w' => ∃ x, e = .returned (v x) ∧ Va w w' (B x)

theorem Ret.sh {f : FuncId} {args : List Value} {w : World} {X : Type} {v : X → Value} {B : X → Ad} (h : Ret P f args w X v B) (hw : SH b0 Mk L w) :
    Calls P f args.toArray w fun e w' => ∃ x, e = .returned (v x) ∧ SH b0 Mk (B x ++ L) w' :=
  h.mono fun _ _ ⟨x, he, hf⟩ => ⟨x, he, hw.fresh hf⟩

def Zc (P : Program) (f : FuncId) (args : List Value) (w : World) (v : Value) : Prop :=
  Calls P f args.toArray w fun e w' => e = .returned v ∧ jW w w'

theorem Zc.sh {f : FuncId} {args : List Value} {w : World} {v : Value} (h : Zc P f args w v) (hw : SH b0 Mk L w) :
    Calls P f args.toArray w fun e w' => ∃ _ : Unit, e = .returned v ∧ SH b0 Mk L w' :=
  h.mono fun _ _ ⟨he, hf⟩ => ⟨(), he, hw.ext hf⟩

theorem Mv {l : List Oper} {f : FuncId} {args : List Value} (hc : bU P N D b0 Mk L E op ty f args) (h : ∀ w, SH b0 Mk L w → Zc P f args w v) (hn : Bf op = true := by rfl) (hd : Nat.blt d N = true := by rfl)
    (k : JL P rd b0 Mk N D ops L ((d, v) :: E) l T) : JL P rd b0 Mk N D ops L E ({ dst := some d, op := op, type := ty, pos := pos, after := after, guard := none } :: l) T :=
  AP4 (X := Unit) (v := fun _ => v) (L' := fun _ => L) hc (fun w hw => (h w hw).sh hw) hn hd fun _ => k
theorem O5 {l : List (Bool × Oper)} {f : FuncId} {args : List Value} (hc : bU P N D b0 Mk L E op ty f args) (h : ∀ w, SH b0 Mk L w → Zc P f args w v) (hn : Bf op = true := by rfl) (hd : Nat.blt d N = true := by rfl)
    (k : JD P rd b0 Mk N D ops L V ((d, v) :: E) l T) : JD P rd b0 Mk N D ops L V E ((false, { dst := some d, op := op, type := ty, pos := pos, after := after, guard := none }) :: l) T :=
  AP5 (X := Unit) (v := fun _ => v) (B := fun _ => []) (V' := fun _ => V) hc (fun w hw => (h w hw.right).mono fun _ _ ⟨he, hf⟩ => ⟨(), he, hw.ext hf⟩) hn hd fun _ => k
end steps
end Go.Proofs.YtbooaoddioibeaaGreatDoor.Jd

namespace Go.Proofs.YtbooaoddioibeaaGreatDoor.Jd
open Go.Proofs.Tryz
open Go.RowKit (Below)
set_option linter.unusedVariables false
set_option linter.unusedSimpArgs false

def sA : List Value → Nat → Option Value
  | [], _ => none
  | v :: _, 0 => some v
  | _ :: r, n + 1 => sA r n

theorem Em : ∀ (l : List Value) (k : Nat), sA l k = l[k]?
  | [], _ => rfl
  | _ :: _, 0 => rfl
  | _ :: r, n + 1 => by simp [sA, Em r n]

def fM : List Value → Nat → Nat → Option (List Value)
  | _, _, 0 => some []
  | l, k, n + 1 => match sA l k, fM l (k + 1) n with
    | some v, some r => some (v :: r)
    | _, _ => none

theorem Rs : ∀ (l : List Value) (n k : Nat) (cs : List Value), fM l k n = some cs → cs.length = n ∧ ∀ j v, cs[j]? = some v → l[k + j]? = some v
  | l, 0, k, cs, h => by
    have : cs = [] := by simpa [fM] using h.symm
    subst this;exact ⟨rfl, fun j v hv => by simp at hv⟩
  | l, n + 1, k, cs, h => by
    unfold fM at h;split at h
    · rename_i v r hv hr
      have := Option.some.inj h;subst this;obtain ⟨h1, h2⟩ := Rs l n (k + 1) r hr;refine ⟨by simp [h1], fun j u hu => ?_⟩;cases j with
      | zero => rw [Em] at hv; simp at hu; subst hu; simpa using hv
      | succ j => have := h2 j u (by simpa using hu); rwa [show k + (j + 1) = k + 1 + j by omega]
    · cases h

def Ar : Value → List Value
  | .agg c => c.toList
  | v => [v]

theorem Bh (v : Value) : v.cells = (Ar v).toArray := by cases v <;> simp [Value.cells, Ar]

def evs (E : Dq) : List Operand → Option (List Value)
  | [] => some []
  | x :: r => match ev E x, evs E r with
    | some v, some vs => some (v :: vs)
    | _, _ => none

theorem Bl.evals {N : Nat} {D : List Deferred} {E : Dq} {a : Act} (h : Bl N D E a) : ∀ {l : List Operand} {vs : List Value}, evs E l = some vs → l.map a.eval = vs
  | [], vs, hv => by simpa [evs] using hv
  | x :: r, vs, hv => by
    unfold evs at hv;split at hv
    · rename_i v us hx hr
      have := Option.some.inj hv;subst this;simp [h.eval hx, h.evals hr]
    · cases hv

section ops
variable {P : Program} {b0 : World} {Mk : List Nat} {N : Nat} {D : List Deferred} {L V : Ad} {E : Dq} {ty : TypeId}

theorem kC {x : Operand} {v : Value} (hx : ev E x = some v := by rfl) : Cc P N D b0 Mk L E (.move x) ty v := fun a w ha _ => by
  simp [Bq, execOp, ha.eval hx]
theorem Dt {x : Operand} {v : Value} (hx : ev E x = some v := by rfl) : Cc P N D b0 Mk L E (.assign x) ty v := fun a w ha _ => by
  simp [Bq, execOp, ha.eval hx]
theorem zL {c x y : Operand} {v : Value} (hc : ev E c = some (.bool true) := by rfl) (hx : ev E x = some v := by rfl) : Cc P N D b0 Mk L E (.pick c x y) ty v := fun a w ha _ => by
  simp [Bq, execOp, asBool, ha.eval hc, ha.eval hx]
theorem zM {c x y : Operand} {v : Value} (hc : ev E c = some (.bool false) := by rfl) (hy : ev E y = some v := by rfl) : Cc P N D b0 Mk L E (.pick c x y) ty v := fun a w ha _ => by
  simp [Bq, execOp, asBool, ha.eval hc, ha.eval hy]

theorem SH.cell {w : World} (h : SH b0 Mk L w) {r k : Nat} {l : List Value} {T : TypeId} {f : Nat × Nat} (hm : (r, Obj.cells l.toArray T f) ∈ L) {v : Value} (hv : l[k]? = some v) :
    w.cell? ⟨r, k, none⟩ = some v := by
  have := h.own _ hm;simp only at this;simp [World.cell?, this, hv]

theorem Ay (r k n : Nat) : (Addr.mk r k none).add n = ⟨r, k + n, none⟩ := by
  unfold Addr.add;split
  · rename_i h; subst h; rfl
  · rfl

theorem Bu {t : TypeId} {x : Operand} {r k : Nat} {l : List Value} {T : TypeId} {f : Nat × Nat} {v : Value} (hA : ∀ w, (isAgg t).run P w = .ok false w) (hx : ev E x = some (.pointer (some ⟨r, k, none⟩)) := by rfl)
    (hm : (r, Obj.cells l.toArray T f) ∈ L := by repeat (first | exact List.mem_cons_self | apply List.mem_cons_of_mem | apply List.mem_append_right)) (hv : sA l k = some v := by rfl) :
    Cc P N D b0 Mk L E (.load t x) ty v := fun a w ha hw => by
  have hc := hw.cell hm (by rw [← Em]; exact hv);simp [Bq, execOp, ha.eval hx, Instr.loadAt, Instr.sureAddr, loadVar, hA, hc]

theorem Rt {t : TypeId} {x : Operand} {r k n : Nat} {l : List Value} {T : TypeId} {f : Nat × Nat} {cs : List Value} (hA : ∀ w, (isAgg t).run P w = .ok true w) (hS : ∀ w, (sizeOf t).run P w = .ok n w)
    (hx : ev E x = some (.pointer (some ⟨r, k, none⟩)) := by rfl)
    (hm : (r, Obj.cells l.toArray T f) ∈ L := by repeat (first | exact List.mem_cons_self | apply List.mem_cons_of_mem | apply List.mem_append_right)) (hv : fM l k n = some cs := by rfl) :
    Cc P N D b0 Mk L E (.load t x) ty (.agg cs.toArray) := fun a w ha hw => by
  obtain ⟨h1, h2⟩ := Rs l n k cs hv;have hl : (loadCells ⟨r, k, none⟩ n).run P w = .ok cs.toArray w := by
    rw [← h1];exact run_loadCells_list w ⟨r, k, none⟩ cs fun j v hj => by
      rw [Ay];exact hw.cell hm (h2 j v hj)
  simp [Bq, execOp, ha.eval hx, Instr.loadAt, Instr.sureAddr, loadVar, hA, hS, hl]

theorem Mr {x : Operand} {p : Addr} (hx : ev E x = some (.pointer (some p)) := by rfl) : Cc P N D b0 Mk L E (.nilCheck x) ty (.pointer (some p)) := fun a w ha _ => by
  simp [Bq, execOp, ha.eval hx]
def Ko (P : Program) (s f off : Nat) : Prop := ∀ r k w, (Instr.fieldAt s (.pointer (some ⟨r, k, none⟩)) f).run P w = .ok (.pointer (some ⟨r, k + off, none⟩)) w

theorem Ea {s f off : Nat} {x : Operand} {r k : Nat} (hf : Ko P s f off) (hx : ev E x = some (.pointer (some ⟨r, k, none⟩)) := by rfl) :
    Cc P N D b0 Mk L E (.fieldAddr s x f) ty (.pointer (some ⟨r, k + off, none⟩)) := fun a w ha _ => by
  simp [Bq, execOp, ha.eval hx, hf r k w]

section ints
variable {t t' : TypeId} {x y : Operand} {k : IntKind} {p q : Int}
theorem sH (hx : ev E x = some (.int k p) := by rfl) (hy : ev E y = some (.int k q) := by rfl) : Cc P N D b0 Mk L E (.binOp .lss t x y t') ty (.bool (decide (p < q))) := fun a w ha _ => by
  simp [Bq, execOp, ha.eval hx, ha.eval hy, eqGuard, binOp, Op.intCmp]
theorem AD1 (hx : ev E x = some (.int k p) := by rfl) (hy : ev E y = some (.int k q) := by rfl) : Cc P N D b0 Mk L E (.binOp .gtr t x y t') ty (.bool (decide (q < p))) := fun a w ha _ => by
  simp [Bq, execOp, ha.eval hx, ha.eval hy, eqGuard, binOp, Op.intCmp]
theorem AD2 (hx : ev E x = some (.int k p) := by rfl) (hy : ev E y = some (.int k q) := by rfl) : Cc P N D b0 Mk L E (.binOp .geq t x y t') ty (.bool (decide (q ≤ p))) := fun a w ha _ => by
  simp [Bq, execOp, ha.eval hx, ha.eval hy, eqGuard, binOp, Op.intCmp]
theorem AD3 (hx : ev E x = some (.int k p) := by rfl) (hy : ev E y = some (.int k q) := by rfl) : Cc P N D b0 Mk L E (.binOp .eql t x y t') ty (.bool (decide (p = q))) := fun a w ha _ => by
  simp only [Bq, execOp, ha.eval hx, ha.eval hy, eqGuard, binOp, Op.intCmp];by_cases h : p = q <;> simp [h]
theorem AD4 (hx : ev E x = some (.int k p) := by rfl) (hy : ev E y = some (.int k q) := by rfl) : Cc P N D b0 Mk L E (.binOp .neq t x y t') ty (.bool (decide (p ≠ q))) := fun a w ha _ => by
  simp only [Bq, execOp, ha.eval hx, ha.eval hy, eqGuard, binOp, Op.intCmp];by_cases h : p = q <;> simp [h]

theorem Ni {n : Int} (h : -9223372036854775808 ≤ n ∧ n ≤ 9223372036854775807) : IntKind.i64.wrap n = n := IntWalk.i64_in n h

theorem Zx (hx : ev E x = some (.int .i64 p) := by rfl) (hy : ev E y = some (.int .i64 q) := by rfl) (h : -9223372036854775808 ≤ p + q ∧ p + q ≤ 9223372036854775807 := by omega) :
    Cc P N D b0 Mk L E (.binOp .add t x y t') ty (.int .i64 (p + q)) := fun a w ha _ => by
  simp [Bq, execOp, ha.eval hx, ha.eval hy, eqGuard, binOp, Op.intArith, Ni h]
theorem Vd (hx : ev E x = some (.int .i64 p) := by rfl) (hy : ev E y = some (.int .i64 q) := by rfl) (h : -9223372036854775808 ≤ p - q ∧ p - q ≤ 9223372036854775807 := by omega) :
    Cc P N D b0 Mk L E (.binOp .sub t x y t') ty (.int .i64 (p - q)) := fun a w ha _ => by
  simp [Bq, execOp, ha.eval hx, ha.eval hy, eqGuard, binOp, Op.intArith, Ni h]
theorem sI (hx : ev E x = some (.int .i64 p) := by rfl) (hy : ev E y = some (.int .i64 q) := by rfl) (h : -9223372036854775808 ≤ p * q ∧ p * q ≤ 9223372036854775807 := by omega) :
    Cc P N D b0 Mk L E (.binOp .mul t x y t') ty (.int .i64 (p * q)) := fun a w ha _ => by
  simp [Bq, execOp, ha.eval hx, ha.eval hy, eqGuard, binOp, Op.intArith, Ni h]
end ints

theorem L7 {t : TypeId} {x : Operand} {p : Bool} (hx : ev E x = some (.bool p) := by rfl) : Cc P N D b0 Mk L E (.unOp .not t x) ty (.bool (! p)) := fun a w ha _ => by
  simp [Bq, execOp, ha.eval hx, Op.unary]

theorem Ts {t e : TypeId} {x : Operand} {a : Option Addr} {n c : Nat} (hU : ∀ w, (underlying t).run P w = .ok (.slice e) w) (hx : ev E x = some (.slice a n c) := by rfl) :
    Cc P N D b0 Mk L E (.call { callee := .builtin .len, args := #[x], argTypes := #[t] }) ty (.int .i64 n) := fun a w ha _ => by
  simp [Bq, execOp, resolve, invoke, builtin, Builtin.len_, ha.eval hx, hU, goInt]
theorem sJ {t : TypeId} {x : Operand} {s : ByteArray} (hU : ∀ w, (underlying t).run P w = .ok .string w) (hx : ev E x = some (.string s) := by rfl) :
    Cc P N D b0 Mk L E (.call { callee := .builtin .len, args := #[x], argTypes := #[t] }) ty (.int .i64 s.size) := fun a w ha _ => by
  simp [Bq, execOp, resolve, invoke, builtin, Builtin.len_, ha.eval hx, hU, goInt]
theorem SH.obj {w : World} (h : SH b0 Mk L w) {r : Nat} {o : Obj} (hm : (r, o) ∈ L) : w.heap[r]? = some o := h.own _ hm
theorem Da {P : Program} {w : World} {r : Nat} {es : Array MapEntry} {c : Nat} (h : w.heap[r]? = some (.map es c)) : (getObj r).run P w = .ok (.map es c) w := by
  simp [getObj, Sem.run, h]
def Sl (w : World) {α : Type} (enc : α → List Value) (k : Nat) (a : Option Addr) (xs : List α) : Prop :=
  ∀ (i : Nat) (x : α), xs[i]? = some x → ∃ b off, a = some ⟨b, off, none⟩ ∧ (enc x).length = k ∧ ∀ j v, (enc x)[j]? = some v → w.cell? ⟨b, off + i * k + j, none⟩ = some v

def Jk (b0 : World) (Mk : List Nat) (L : Ad) {α : Type} (enc : α → List Value) (k : Nat) (a : Option Addr) (xs : List α) : Prop := ∀ w, SH b0 Mk L w → Sl w enc k a xs

theorem Ru {w w' : World} {p : Addr} {v : Value} (h : w.cell? p = some v) (hs : w'.heap[p.block]? = w.heap[p.block]?) : w'.cell? p = some v := by
  unfold World.cell? at *;rw [hs]; exact h

theorem Sl.ext {w w' : World} {α : Type} {enc : α → List Value} {k : Nat} {a : Option Addr} {xs : List α} (h : Sl w enc k a xs) (he : jW w w') : Sl w' enc k a xs := fun i x hx => by
  obtain ⟨b, off, h1, h2, h3⟩ := h i x hx;exact ⟨b, off, h1, h2, fun j v hv => by
    have hc := h3 j v hv;exact Ru hc (he.block _ (World.block_lt_of_cell? w _ hc))⟩

theorem Jk.of_base {α : Type} {enc : α → List Value} {k : Nat} {a : Option Addr} {xs : List α} (h : Sl b0 enc k a xs) : Jk b0 [] L enc k a xs := fun _ hw => h.ext hw.ext_out

theorem Sl.nil {w : World} {α : Type} {enc : α → List Value} {k : Nat} {a : Option Addr} : Sl w enc k a [] := fun i x hx => by simp at hx
theorem Jk.mono {L' : Ad} {α : Type} {enc : α → List Value} {k : Nat} {a : Option Addr} {xs : List α} (h : Jk b0 Mk L enc k a xs) (hs : List.Sublist L L') : Jk b0 Mk L' enc k a xs :=
  fun w hw => h w (hw.sub hs)

def ea (a : Option Addr) (o : Nat) : Addr := ⟨(a.getD default).block, (a.getD default).off + o, none⟩

theorem mQ {t e : TypeId} {x y : Operand} {a : Option Addr} {n c : Nat} {i : Int} {ki : IntKind} {α : Type} {enc : α → List Value} {k : Nat} {xs : List α} (hU : ∀ w, (underlying t).run P w = .ok (.slice e) w) (hS : ∀ w, (sizeOf e).run P w = .ok k w)
    (m : Nat) {z : α} (hs : Jk b0 Mk L enc k a xs) (hz : xs[m]? = some z) (hn : xs.length = n) (hx : ev E x = some (.slice a n c) := by rfl) (hy : ev E y = some (.int ki i) := by rfl) (hi : i = (m : Int) := by first | rfl | omega) :
    Cc P N D b0 Mk L E (.indexAddr t x y) ty (.pointer (some (ea a (m * k)))) := fun a' w ha hw => by
  obtain ⟨b, off, rfl, _, _⟩ := hs w hw m z hz;subst hi;have hlt : m < n := by rw [← hn]; exact (List.getElem?_eq_some_iff.1 hz).1
  have hlt' : (m : Int) < (n : Int) := by omega
  simp [Bq, execOp, ha.eval hx, ha.eval hy, Instr.indexAt, asIntOf, hU, hS, hlt, ea, Ay]

theorem bV {t : TypeId} {x : Operand} {a : Option Addr} {o : Nat} {α : Type} {enc : α → List Value} {k : Nat} {xs : List α} {v : Value} (hA : ∀ w, (isAgg t).run P w = .ok false w) (m : Nat) {z : α} (j : Nat) (hs : Jk b0 Mk L enc k a xs) (hz : xs[m]? = some z)
    (hv : (enc z)[j]? = some v := by rfl) (hx : ev E x = some (.pointer (some (ea a o))) := by rfl) (ho : o = m * k + j := by first | rfl | omega) :
    Cc P N D b0 Mk L E (.load t x) ty v := fun a' w ha hw => by
  obtain ⟨b, off, rfl, _, hc⟩ := hs w hw m z hz;subst ho;have := hc j v hv;have he : ea (some ⟨b, off, none⟩) (m * k + j) = ⟨b, off + m * k + j, none⟩ := by simp [ea, Nat.add_assoc]
  simp [Bq, execOp, ha.eval hx, Instr.loadAt, Instr.sureAddr, loadVar, hA, he, this]

theorem Wu {T : TypeId} {x : Operand} {v : Value} {l : List Value} (hx : ev E x = some v := by rfl) (hl : Ar v = l := by rfl) : zK P N D b0 Mk L E (.box T x) ty (.cells l.toArray T) (fun r => .pointer (some ⟨r, 0, none⟩)) :=
  fun a w ha _ => by
    simp [Bq, execOp, ha.eval hx, Instr.box, newVar, newRow, Bh, hl]
theorem Ig {T : TypeId} {z : Value} {l : List Value} (hz : ∀ w, (zeroValue T).run P w = .ok z w) (hl : Ar z = l := by rfl) : zK P N D b0 Mk L E (.alloc T) ty (.cells l.toArray T) (fun r => .pointer (some ⟨r, 0, none⟩)) :=
  fun a w _ _ => by
    simp [Bq, execOp, Instr.alloc, hz, newVar, newRow, Bh, hl]

def Bv : List Value → Nat → List Value → List Value
  | l, _, [] => l
  | [], _, _ => []
  | _ :: r, 0, u :: us => u :: Bv r 0 us
  | c :: r, n + 1, us => c :: Bv r n us

def Wv (pl : List (Nat × Nat)) : List Value → List (Nat × List Value) → Option (List Value)
  | z, [] => some z
  | z, (i, vs) :: r => match pl[i]? with
    | none => none
    | some (off, size) => if Nat.beq vs.length size && Nat.ble (off + vs.length) z.length then Wv pl (Bv z off vs) r else none

theorem En : ∀ (l : List Value) (n : Nat) (us : List Value), (Bv l n us).length = l.length
  | l, n, [] => by cases l <;> simp [Bv]
  | [], n, u :: us => by simp [Bv]
  | _ :: r, 0, u :: us => by simp [Bv, En r 0 us]
  | c :: r, n + 1, u :: us => by simp [Bv, En r n (u :: us)]

theorem Qt : ∀ (us : List Value) (l : List Value) (n i : Nat), n + i + us.length ≤ l.length →
    (us.zipIdx i).foldl (fun (cs : Array Value) (x : Value × Nat) => cs.setIfInBounds (n + x.2) x.1) l.toArray = (Bv l (n + i) us).toArray
  | [], l, n, i, _ => by cases l <;> simp [Bv]
  | u :: us, l, n, i, h => by
    simp only [List.zipIdx_cons, List.foldl_cons, List.setIfInBounds_toArray];rw [Qt us (l.set (n + i) u) n (i + 1) (by simp at h ⊢; omega)];congr 1;have : ∀ (l : List Value) (m : Nat), m + 1 + us.length ≤ l.length → Bv (l.set m u) (m + 1) us = Bv l m (u :: us) := by
      intro l
      induction l with
      | nil => intro m hm; simp at hm
      | cons c r ih =>
        intro m hm;cases m with
        | zero => simp only [List.set_cons_zero]; cases us <;> simp [Bv]
        | succ m => simp only [List.set_cons_succ]; rw [show Bv (c :: r) (m + 1) (u :: us) = c :: Bv r m (u :: us) by simp [Bv], ← ih m (by simp at hm ⊢; omega)]; cases us <;> simp [Bv]
    rw [show n + (i + 1) = (n + i) + 1 by omega];exact this l (n + i) (by simp at h; omega)

theorem Ld (pl : List (Nat × Nat)) (f : Nat → Option (Nat × Nat)) (hf : ∀ (i : Nat) (q : Nat × Nat), pl[i]? = some q → f i = some q) : ∀ (parts : List (Nat × Value)) (z : List Value) (cs : List Value), Wv pl z (parts.map fun p => (p.1, Ar p.2)) = some cs →
    Instr.fill f z.toArray parts = some cs.toArray
  | [], z, cs, h => by simp [Wv] at h; simp [Instr.fill, h]
  | (i, v) :: r, z, cs, h => by
    simp only [List.map_cons, Wv] at h;simp only [Instr.fill];cases hp : pl[i]? with
    | none => simp [hp] at h
    | some q =>
      obtain ⟨off, size⟩ := q;simp only [hp] at h;simp only [hf _ _ hp];split at h
      · rename_i hc
        simp only [Bool.and_eq_true, Nat.beq_eq, Nat.ble_eq] at hc;obtain ⟨h1, h2⟩ := hc;have h1' : (Ar v).length = size := h1;have e1 : v.cells.size = size := by rw [Bh]; simpa using h1'
        have e2 : ¬ (off + v.cells.size > z.toArray.size) := by rw [e1, ← h1']; simpa using h2
        simp only [e1, ne_eq, not_true, decide_false, Bool.false_or];rw [e1] at e2;simp only [decide_eq_true_eq, e2, if_false];have := Qt (Ar v) z off 0 (by simpa using h2);rw [Bh, show (Ar v).toArray.zipIdx = ((Ar v).zipIdx 0).toArray by simp];simp only [List.size_toArray, List.foldl_toArray'];simp only [Nat.add_zero] at this;rw [this];exact Ld pl f hf r _ cs h
      · cases h

def bW (P : Program) (t : TypeId) (pl : List (Nat × Nat)) : Prop :=
  ∃ fields : Array Field, (∀ w, (underlying t).run P w = .ok (.struct fields) w) ∧ ∀ w, (fields.mapM fun (f : Field) => do pure (f.offset, ← sizeOf f.type)).run P w = .ok pl.toArray w

def O6 (E : Dq) : List (Nat × Operand) → Option (List (Nat × List Value))
  | [] => some []
  | (i, x) :: r => match ev E x, O6 E r with
    | some v, some vs => some ((i, Ar v) :: vs)
    | _, _ => none

theorem Bl.evalp {a : Act} (h : Bl N D E a) : ∀ {l : List (Nat × Operand)} {vs : List (Nat × List Value)}, O6 E l = some vs → (l.map fun p => (p.1, Ar (a.eval p.2))) = vs
  | [], vs, hv => by simpa [O6] using hv
  | (i, x) :: r, vs, hv => by
    unfold O6 at hv;split at hv
    · rename_i v us hx hr
      have := Option.some.inj hv;subst this;simp [h.eval hx, h.evalp hr]
    · cases hv

theorem bX {t : TypeId} {z : Value} {pl : List (Nat × Nat)} {parts : List (Nat × Operand)} {ps : List (Nat × List Value)} {cs : List Value} (hz : ∀ w, (zeroValue t).run P w = .ok z w) (hp : bW P t pl) (hv : O6 E parts = some ps := by rfl)
    (hf : Wv pl (Ar z) ps = some cs := by rfl) : Cc P N D b0 Mk L E (.build t parts.toArray) ty (.agg cs.toArray) := fun a w ha _ => by
  obtain ⟨fields, hU, hM⟩ := hp;have h1 := ha.evalp hv;subst h1;have := Ld pl (fun i => pl.toArray[i]?) (fun i q hq => by simpa using hq) (parts.map fun p => (p.1, a.eval p.2)) (Ar z) cs (by rw [List.map_map]; exact hf);have hM' := hM w;simp only [Bq, execOp, Instr.build, Sem.run_bind, hz, hU, Result.andThen_ok];rw [hM'];have e : (Array.map (fun x => match x with | (i, x) => (i, a.eval x)) parts.toArray).toList = parts.map fun p => (p.1, a.eval p.2) := by simp
  simp only [Result.andThen_ok, Bh, e, this, Sem.run_pure]

theorem O7 {f : Operand} {l : List Operand} {tys : Array TypeId} {k : FuncId} {fs cs vs : List Value} (hc : ∀ args w, (callFunc k args).run P w = .ok (.enter k args) w)
    (hf : ev E f = some (.func (.func k) fs.toArray cs.toArray) := by rfl) (ha : evs E l = some vs := by rfl) :
    bU P N D b0 Mk L E (.call { callee := .value f, args := l.toArray, argTypes := tys }) ty k (fs ++ vs ++ cs) := fun a w hh _ => by
  have := hh.evals ha;simp only [Bq, execOp, resolve, hh.eval hf, Deferred.ofValue];simp only [Sem.run_bind, Sem.run_pure, Result.andThen_ok, invoke, hc];simp [this]

theorem Tt {fn : Fn} {fs cs : List Operand} {us vs : List Value} (h1 : evs E fs = some us := by rfl) (h2 : evs E cs = some vs := by rfl) :
    Cc P N D b0 Mk L E (.makeFunc fn fs.toArray cs.toArray) ty (.func fn us.toArray vs.toArray) := fun a w ha _ => by
  have e1 := ha.evals h1;have e2 := ha.evals h2;simp [Bq, execOp, Instr.makeFunc, e1, e2]

inductive Ih (r : Nat) (o o' : Obj) : Ad → Ad → Prop
  | head {L : Ad} : Ih r o o' ((r, o) :: L) ((r, o') :: L)
  | tail {p : Nat × Obj} {L L' : Ad} (h : Ih r o o' L L') : Ih r o o' (p :: L) (p :: L')
  | app {B L L' : Ad} (h : Ih r o o' L L') : Ih r o o' (B ++ L) (B ++ L')

theorem Ih.keys {r : Nat} {o o' : Obj} {L L' : Ad} (h : Ih r o o' L L') : L'.map Prod.fst = L.map Prod.fst := by
  induction h with
  | head => rfl
  | tail _ ih => simp [ih]
  | app _ ih => simp [ih]

theorem Ih.mem {r : Nat} {o o' : Obj} {L L' : Ad} (h : Ih r o o' L L') : (r, o) ∈ L := by
  induction h with
  | head => exact List.mem_cons_self
  | tail _ ih => exact List.mem_cons_of_mem _ ih
  | app _ ih => exact List.mem_append_right _ ih

theorem Ih.or {r : Nat} {o o' : Obj} {L L' : Ad} (h : Ih r o o' L L') (hn : (L.map Prod.fst).Nodup) : ∀ p ∈ L', p = (r, o') ∨ (p ∈ L ∧ p.1 ≠ r) := by
  induction h with
  | head =>
    intro p hp;simp only [List.map_cons, List.nodup_cons] at hn;rcases List.mem_cons.1 hp with hp | hp
    · exact .inl hp
    · exact .inr ⟨List.mem_cons_of_mem _ hp, fun e => hn.1 (e ▸ List.mem_map_of_mem hp)⟩
  | tail h ih =>
    intro p hp;simp only [List.map_cons, List.nodup_cons] at hn;rcases List.mem_cons.1 hp with hp | hp
    · subst hp;refine .inr ⟨List.mem_cons_self, fun e => hn.1 ?_⟩;rw [e];exact List.mem_map_of_mem (f := Prod.fst) h.mem
    · exact (ih hn.2 p hp).imp id fun ⟨a, b⟩ => ⟨List.mem_cons_of_mem _ a, b⟩
  | app h ih =>
    intro p hp;rw [List.map_append, List.nodup_append] at hn;rcases List.mem_append.1 hp with hp | hp
    · refine .inr ⟨List.mem_append_left _ hp, fun e => ?_⟩;exact hn.2.2 p.1 (List.mem_map_of_mem hp) r (List.mem_map_of_mem (f := Prod.fst) h.mem) e
    · exact (ih hn.2.1 p hp).imp id fun ⟨a, b⟩ => ⟨List.mem_append_right _ a, b⟩

theorem SH.repl {w w' : World} {r : Nat} {o o' : Obj} {L' : Ad} (h : SH b0 Mk L w) (hr : Ih r o o' L L') (h1 : w'.heap[r]? = some o') (h2 : ∀ k, k ≠ r → w'.heap[k]? = w.heap[k]?) (h3 : w'.heap.size = w.heap.size)
    (h4 : w'.os = w.os) (h5 : w'.tape = w.tape) (h6 : w'.output = w.output) : SH b0 Mk L' w' := by
  have hkey := h.key _ hr.mem;refine ⟨h4.trans h.os, h5.trans h.tape, h6.trans h.output, by rw [h3]; exact h.size, fun k hk hM => ?_, fun p hp => ?_, fun p hp => ?_, by rw [hr.keys]; exact h.nd⟩
  · rw [h2 k (fun e => ?_)]
    · exact h.same k hk hM
    · subst e;rcases hkey with hk' | hk'
      · exact hM hk'
      · simp only at hk'; omega
  · rcases hr.or h.nd p hp with rfl | ⟨hp, hne⟩
    · exact h1
    · rw [h2 _ hne]; exact h.own p hp
  · rcases hr.or h.nd p hp with rfl | ⟨hp, _⟩
    · exact hkey
    · exact h.key p hp

def Bn : List Value → Bool
  | [] => true
  | v :: r => v.oneCell' && Bn r

theorem Zy : ∀ (l : List Value) (k : Nat) (u : Value) (us : List Value), k + 1 + us.length ≤ l.length → Bv (l.set k u) (k + 1) us = Bv l k (u :: us)
  | [], _, _, _, h => by simp at h
  | c :: r, 0, u, us, _ => by simp only [List.set_cons_zero]; cases us <;> simp [Bv]
  | c :: r, k + 1, u, us, h => by
    simp only [List.set_cons_succ];rw [show Bv (c :: r) (k + 1) (u :: us) = c :: Bv r k (u :: us) by simp [Bv], ← Zy r k u us (by simp at h ⊢; omega)];cases us <;> simp [Bv]

def bY (f : Nat × Nat) (n : Nat) : Prop := f.2 = 0 ∨ n ≤ f.1
theorem bY.zero {n : Nat} : bY (0, 0) n := .inl rfl
theorem bY.not {w : World} {r k n : Nat} {cs : Array Value} {T : TypeId} {f : Nat × Nat} (hf : bY f n) (h : w.heap[r]? = some (.cells cs T f)) (hk : k < n) : w.frozen? ⟨r, k, none⟩ = false := by
  obtain ⟨lo, hi⟩ := f;simp only [World.frozen?, h, Bool.and_eq_false_iff, decide_eq_false_iff_not];rcases hf with hf | hf
  · right; simp only at hf; omega
  · left; simp only at hf; omega
theorem Ck {r k : Nat} {T : TypeId} {f : Nat × Nat} : ∀ (vs : List Value) (l : List Value) (i : Nat) (w : World), w.heap[r]? = some (.cells l.toArray T f) → bY f l.length → Bn vs = true → k + i + vs.length ≤ l.length →
    ∃ w', (storeCells ⟨r, k, none⟩ vs i).run P w = .ok () w' ∧ w'.heap[r]? = some (.cells (Bv l (k + i) vs).toArray T f) ∧ (∀ j, j ≠ r → w'.heap[j]? = w.heap[j]?) ∧ w'.heap.size = w.heap.size ∧ w'.os = w.os ∧ w'.tape = w.tape ∧ w'.output = w.output
  | [], l, i, w, h, _, _, _ => ⟨w, by simp [storeCells], by cases l <;> simpa [Bv] using h, fun _ _ => rfl, rfl, rfl, rfl, rfl⟩
  | v :: vs, l, i, w, h, hfr, ho, hl => by
    simp only [Bn, Bool.and_eq_true] at ho;have hlt : k + i < l.length := by simp at hl; omega
    have hc : w.cell? ⟨r, k + i, none⟩ = some l[k + i] := by simp [World.cell?, h, hlt]
    have hf : w.frozen? ⟨r, k + i, none⟩ = false := hfr.not h hlt;have hs : (store ((Addr.mk r k none).add i) v).run P w = .ok () (w.setCell ⟨r, k + i, none⟩ v) := by
      rw [Ay, run_store P w _ v .plain ho.1, hc]; simp [hf]
    have hh : (w.setCell ⟨r, k + i, none⟩ v).heap[r]? = some (.cells (l.set (k + i) v).toArray T f) := by
      simp [World.setCell, Array.getElem?_modify, h]
    obtain ⟨w', h1, h2, h3, h4, h5, h6, h7⟩ := Ck (r := r) (k := k) (T := T) (f := f) vs (l.set (k + i) v) (i + 1) _ hh (by simpa using hfr) ho.2 (by simp at hl ⊢; omega);refine ⟨w', ?_, ?_, fun j hj => ?_, by rw [h4]; simp, h5, h6, h7⟩
    · simp only [storeCells, Sem.run_bind, hs, Result.andThen_ok, h1]
    · rw [h2, show k + (i + 1) = (k + i) + 1 by omega, Zy l (k + i) v vs (by simp at hl; omega)]
    · rw [h3 j hj]; exact Below.heap_setCell w _ v j hj

theorem Nj {r k : Nat} {T : TypeId} (vs : List Value) (l : List Value) (i : Nat) (w : World) (h : w.heap[r]? = some (.cells l.toArray T (0, 0))) (ho : Bn vs = true) (hk : k + i + vs.length ≤ l.length) :
    ∃ w', (storeCells ⟨r, k, none⟩ vs i).run P w = .ok () w' ∧ w'.heap[r]? = some (.cells (Bv l (k + i) vs).toArray T (0, 0)) ∧ (∀ j, j ≠ r → w'.heap[j]? = w.heap[j]?) ∧ w'.heap.size = w.heap.size ∧ w'.os = w.os ∧ w'.tape = w.tape ∧ w'.output = w.output :=
  Ck vs l i w h .zero ho hk
theorem Dm {t : TypeId} {x y : Operand} {v : Value} {r k n : Nat} {l l' : List Value} {T : TypeId} {L' : Ad} (hS : ∀ w, (sizeOf t).run P w = .ok n w) (hx : ev E x = some (.pointer (some ⟨r, k, none⟩)) := by rfl) (hy : ev E y = some v := by rfl)
    (hR : Ih r (.cells l.toArray T) (.cells l'.toArray T) L L' := by repeat (first | exact Ih.head | apply Ih.tail | apply Ih.app)) (hl : Bv l k (Ar v) = l' := by rfl) (hn : Nat.beq (Ar v).length n = true := by rfl) (ho : Bn (Ar v) = true := by rfl)
    (hk : Nat.ble (k + (Ar v).length) l.length = true := by rfl) :
    sG P N D b0 Mk L E (.store t x y) ty L' .skip := fun a w ha hw => by
  have hw0 := hw.own _ hR.mem;simp only at hw0;subst hl;obtain ⟨w', h1, h2, h3, h4, h5, h6, h7⟩ := Nj (P := P) (r := r) (k := k) (T := T) (Ar v) l 0 w hw0 ho (by simpa using hk);refine ⟨w', ?_, hw.repl hR h2 h3 h4 h5 h6 h7⟩;have hn' : (Ar v).length = n := by simpa using hn
  simp [Bq, execOp, ha.eval hx, ha.eval hy, Instr.storeAt, Instr.sureAddr, storeVar, Bh, hS, hn', h1]
end ops

def Ms : Nat → List Value → Dq
  | _, [] => []
  | i, v :: r => (i, v) :: Ms (i + 1) r

theorem Ww : ∀ (l : List Value) (i t : Nat) (v : Value), look (Ms i l) t = some v → ∃ j, t = i + j ∧ l[j]? = some v
  | [], _, _, _, h => by cases h
  | u :: r, i, t, v, h => by
    simp only [Ms, look] at h;split at h
    · rename_i hb
      have := Nat.eq_of_beq_eq_true hb;exact ⟨0, by omega, by simpa using h⟩
    · obtain ⟨j, h1, h2⟩ := Ww r (i + 1) t v h;exact ⟨j + 1, by omega, by simpa using h2⟩

theorem Hf {N : Nat} (args : List Value) (h : Nat.ble args.length N = true) : Bl N [] (Ms 0 args) { tmps := args.toArray ++ Array.replicate (N - args.toArray.size) undef, defers := [] } := by
  have h' : args.length ≤ N := by simpa using h
  refine ⟨by simp; omega, rfl, fun t v hv => ?_⟩;obtain ⟨j, h1, h2⟩ := Ww args 0 t v hv;have hj := (List.getElem?_eq_some_iff.1 h2).1;have : t = j := by omega
  subst this;simp only [Array.getD_eq_getD_getElem?];rw [Array.getElem?_append_left (by simpa using hj)];simp [h2]

section fns
variable {P : Program} {f : FuncId} {fn : Func} {c : Code} {args : List Value} {N : Nat} {w : World} {R : Ending → World → Prop}

theorem enter (hf : P.funcs[f]? = some fn) (hN : fn.ntmps = N) (hb : fn.body = some c := by rfl) (ha : Nat.ble args.length N = true := by rfl)
    (h : J P none w [] N [] [] (Ms 0 args) c (bodyPost P fn R)) : Calls P f args.toArray w R := by
  subst hN;exact callsIn_wide.1 (callsIn_of_wp (F := FW none) (n := 0) hf hb trivial (h _ w (Hf args ha) (SH.begin w)))

theorem Tu (Mk : List Nat) (L : Ad) (hL : ∀ p ∈ L, w.heap[p.1]? = some p.2) (hk : ∀ p ∈ L, p.1 ∈ Mk) (hnd : (L.map Prod.fst).Nodup) (hf : P.funcs[f]? = some fn) (hN : fn.ntmps = N) (hb : fn.body = some c := by rfl) (ha : Nat.ble args.length N = true := by rfl)
    (h : J P none w Mk N [] L (Ms 0 args) c (bodyPost P fn R)) : Calls P f args.toArray w R := by
  subst hN;exact callsIn_wide.1 (callsIn_of_wp (F := FW none) (n := 0) hf hb trivial (h _ w (Hf args ha) ⟨rfl, rfl, rfl, Nat.le_refl _, fun _ _ _ => rfl, hL, fun p hp => .inl (hk p hp), hnd⟩))

/-- The results, off the slots and the blocks. -/
inductive Mt (P : Program) (L : Ad) (E : Dq) : List ResultVar → List Value → Prop
  | nil : Mt P L E [] []
  | tmp {t : Tmp} {v : Value} {r : List ResultVar} {vs : List Value} (hv : look E t = some v) (h : Mt P L E r vs) : Mt P L E (.tmp t :: r) (v :: vs)
  | word {a : Tmp} {t : TypeId} {b : Nat} {l : List Value} {T : TypeId} {g : Nat × Nat} {v : Value} {r : List ResultVar} {vs : List Value} (hA : ∀ w, (isAgg t).run P w = .ok false w) (ha : look E a = some (.pointer (some ⟨b, 0, none⟩)))
      (hm : (b, Obj.cells l.toArray T g) ∈ L) (hv : sA l 0 = some v) (h : Mt P L E r vs) : Mt P L E (.cell a t :: r) (v :: vs)
  | agg {a : Tmp} {t : TypeId} {b n : Nat} {l : List Value} {T : TypeId} {g : Nat × Nat} {cs : List Value} {r : List ResultVar} {vs : List Value} (hA : ∀ w, (isAgg t).run P w = .ok true w) (hS : ∀ w, (sizeOf t).run P w = .ok n w)
      (ha : look E a = some (.pointer (some ⟨b, 0, none⟩))) (hm : (b, Obj.cells l.toArray T g) ∈ L) (hv : fM l 0 n = some cs) (h : Mt P L E r vs) : Mt P L E (.cell a t :: r) (.agg cs.toArray :: vs)

def Nk : List Value → Value
  | [v] => v
  | vs => .tuple vs.toArray

def Nl (a : Act) : ResultVar → Sem Value
  | .tmp t => pure (a.tmps.getD t undef)
  | .cell x t => do loadVar t (← asAddr (a.tmps.getD x undef))

theorem Mt.run {b0 : World} {Mk : List Nat} {D : List Deferred} {L : Ad} {E : Dq} {rs : List ResultVar} {vs : List Value} (h : Mt P L E rs vs) {a : Act} {w : World} (ha : Bl N D E a) (hw : SH b0 Mk L w) :
    (rs.mapM (Nl a)).run P w = .ok vs w := by
  induction h with
  | nil => simp
  | @tmp t v r vs hv _ ih =>
    have h1 : (Nl a (.tmp t)).run P w = .ok v w := by simp only [Nl, ha.val _ _ hv, Sem.run_pure]
    rw [List.mapM_cons];simp only [Sem.run_bind, h1, Result.andThen_ok, ih, Sem.run_pure]
  | @word x t b l T g v r vs hA hx hm hv _ ih =>
    have hc := hw.cell hm (by rw [← Em]; exact hv);have h1 : (Nl a (.cell x t)).run P w = .ok v w := by
      simp only [Nl, Sem.run_bind, ha.val _ _ hx, asAddr, Sem.run_pure, Result.andThen_ok, loadVar, hA, Bool.false_eq_true, if_false, run_load, hc]
    rw [List.mapM_cons];simp only [Sem.run_bind, h1, Result.andThen_ok, ih, Sem.run_pure]
  | @agg x t b n l T g cs r vs hA hS hx hm hv _ ih =>
    obtain ⟨h1, h2⟩ := Rs l n 0 cs hv;have hl : (loadCells ⟨b, 0, none⟩ n).run P w = .ok cs.toArray w := by
      rw [← h1];exact run_loadCells_list w ⟨b, 0, none⟩ cs fun j v hj => by
        rw [Ay];exact hw.cell hm (h2 j v hj)
    have h1 : (Nl a (.cell x t)).run P w = .ok (.agg cs.toArray) w := by
      simp only [Nl, Sem.run_bind, ha.val _ _ hx, asAddr, Sem.run_pure, Result.andThen_ok, loadVar, hA, if_true, hS, hl]
    rw [List.mapM_cons];simp only [Sem.run_bind, h1, Result.andThen_ok, ih, Sem.run_pure]

theorem Eo {b0 : World} {Mk : List Nat} {D : List Deferred} {L : Ad} {E : Dq} {rs : List ResultVar} {vs : List Value} (hr : fn.results = rs.toArray) (h : Mt P L E rs vs) {a : Act} {w : World} (ha : Bl N D E a) (hw : SH b0 Mk L w) :
    (results fn a.tmps).run P w = .ok (Nk vs) w := by
  have h1 := h.run ha hw;have e : results fn a.tmps = (do let vs ← Array.mapM (Nl a) fn.results; pure (if h : vs.size = 1 then vs[0] else .tuple vs)) := by
    unfold results;congr 1
  rw [e, hr];simp only [List.mapM_toArray, Sem.run_bind, Sem.run_map, h1, Result.andThen_ok, Sem.run_pure];congr 1;cases vs with
  | nil => rfl
  | cons v r => cases r <;> rfl

theorem Df {b0 : World} {Mk : List Nat} {L : Ad} {E : Dq} {rs : List ResultVar} {vs : List Value} (hr : fn.results = rs.toArray) (h : Mt P L E rs vs) (hR : ∀ w, SH b0 Mk L w → R (.returned (Nk vs)) w) :
    JX b0 Mk N [] L E (bodyPost P fn R) .ret := fun _ w ha hw => ⟨ha.defs, _, Eo hr h ha hw, hR w hw⟩
theorem O8 {b0 : World} {Mk : List Nat} {L : Ad} {E : Dq} {rs : List ResultVar} {vs : List Value} (hr : fn.results = rs.toArray) (h : Mt P L E rs vs) (hR : ∀ w, SH b0 Mk L w → R (.returned (Nk vs)) w) :
    JX b0 Mk N [] L E (bodyPost P fn R) .normal := fun _ w ha hw => ⟨ha.defs, _, Eo hr h ha hw, hR w hw⟩

theorem Va.sub {w w' : World} {B B' : Ad} (h : Va w w' B) (hs : List.Sublist B' B) : Va w w' B' :=
  ⟨h.ext, fun p hp => h.own p (hs.subset hp), fun p hp => h.new p (hs.subset hp), (hs.map _).nodup h.nd⟩
end fns
end Go.Proofs.YtbooaoddioibeaaGreatDoor.Jd

namespace Go.Proofs.YtbooaoddioibeaaGreatDoor.Jd
open Go.Proofs.Tryz
open Go.RowKit (Below)
set_option linter.unusedVariables false
set_option linter.unusedSimpArgs false

section
variable {P : Program} {rd : Option Nat} {b0 : World} {Mk : List Nat} {N : Nat} {D : List Deferred} {l : List Oper} {n f : Nat} {listed : Array Bool} {L V : Ad} {E : Dq} {T : Act → World → Prop}
variable {op : Op} {ty : TypeId} {pos : String} {after : Array Edge} {v : Value} {d : Nat}

end

section loops
variable {P : Program} {rd : Option Nat} {b0 : World} {Mk : List Nat} {N : Nat} {D : List Deferred} {L : Ad} {E : Dq} {Q : Exit → Act → World → Prop} {c : Code}

def sK {σ1 σ2 σ3 : Type} (b0 : World) (Mk : List Nat) (N : Nat) (D : List Deferred) (Ls : σ1 → σ2 → σ3 → Ad) (Es : σ1 → σ2 → σ3 → Dq) (I : σ1 → σ2 → σ3 → Prop) (m : σ1 → σ2 → σ3 → Nat) (n : Nat) : Act → World → Prop :=
  Zv b0 Mk N D (fun s : σ1 × σ2 × σ3 => Ls s.1 s.2.1 s.2.2) (fun s => Es s.1 s.2.1 s.2.2) (fun s => I s.1 s.2.1 s.2.2) (fun s => m s.1 s.2.1 s.2.2) n
theorem bZ {σ1 σ2 σ3 : Type} (Ls : σ1 → σ2 → σ3 → Ad) (Es : σ1 → σ2 → σ3 → Dq) (I : σ1 → σ2 → σ3 → Prop) (m : σ1 → σ2 → σ3 → Nat) (x1 : σ1) (x2 : σ2) (x3 : σ3) (hI : I x1 x2 x3) (hE : Kj E (Es x1 x2 x3)) (hL : List.Perm L (Ls x1 x2 x3))
    (h : ∀ s1 s2 s3, I s1 s2 s3 → J P rd b0 Mk N D (Ls s1 s2 s3) (Es s1 s2 s3) c (Wq (sK b0 Mk N D Ls Es I m (m s1 s2 s3)) Q)) : J P rd b0 Mk N D L E (Code.loop c) Q :=
  bP (σ := σ1 × σ2 × σ3) (fun s => Ls s.1 s.2.1 s.2.2) (fun s => Es s.1 s.2.1 s.2.2) (fun s => I s.1 s.2.1 s.2.2) (fun s => m s.1 s.2.1 s.2.2) (x1, x2, x3) hI hE hL (fun s hI => h s.1 s.2.1 s.2.2 hI)
theorem Vu {σ1 σ2 σ3 : Type} {Ls : σ1 → σ2 → σ3 → Ad} {Es : σ1 → σ2 → σ3 → Dq} {I : σ1 → σ2 → σ3 → Prop} {m : σ1 → σ2 → σ3 → Nat} {n : Nat} (s1 : σ1) (s2 : σ2) (s3 : σ3) (hI : I s1 s2 s3) (hm : m s1 s2 s3 < n) (hE : Kj E (Es s1 s2 s3)) (hL : List.Perm L (Ls s1 s2 s3)) :
    JX b0 Mk N D L E (Wq (sK b0 Mk N D Ls Es I m n) Q) .normal := bQ (Ls := fun s : σ1 × σ2 × σ3 => Ls s.1 s.2.1 s.2.2) (Es := fun s => Es s.1 s.2.1 s.2.2) (I := fun s => I s.1 s.2.1 s.2.2) (m := fun s => m s.1 s.2.1 s.2.2) (s1, s2, s3) hI hm hE hL
def sL {σ1 σ2 σ3 σ4 σ5 : Type} (b0 : World) (Mk : List Nat) (N : Nat) (D : List Deferred) (Ls : σ1 → σ2 → σ3 → σ4 → σ5 → Ad) (Es : σ1 → σ2 → σ3 → σ4 → σ5 → Dq) (I : σ1 → σ2 → σ3 → σ4 → σ5 → Prop) (m : σ1 → σ2 → σ3 → σ4 → σ5 → Nat) (n : Nat) : Act → World → Prop :=
  Zv b0 Mk N D (fun s : σ1 × σ2 × σ3 × σ4 × σ5 => Ls s.1 s.2.1 s.2.2.1 s.2.2.2.1 s.2.2.2.2) (fun s => Es s.1 s.2.1 s.2.2.1 s.2.2.2.1 s.2.2.2.2) (fun s => I s.1 s.2.1 s.2.2.1 s.2.2.2.1 s.2.2.2.2) (fun s => m s.1 s.2.1 s.2.2.1 s.2.2.2.1 s.2.2.2.2) n
theorem mR {σ1 σ2 σ3 σ4 σ5 : Type} (Ls : σ1 → σ2 → σ3 → σ4 → σ5 → Ad) (Es : σ1 → σ2 → σ3 → σ4 → σ5 → Dq) (I : σ1 → σ2 → σ3 → σ4 → σ5 → Prop) (m : σ1 → σ2 → σ3 → σ4 → σ5 → Nat) (x1 : σ1) (x2 : σ2) (x3 : σ3) (x4 : σ4) (x5 : σ5) (hI : I x1 x2 x3 x4 x5) (hE : Kj E (Es x1 x2 x3 x4 x5)) (hL : List.Perm L (Ls x1 x2 x3 x4 x5))
    (h : ∀ s1 s2 s3 s4 s5, I s1 s2 s3 s4 s5 → J P rd b0 Mk N D (Ls s1 s2 s3 s4 s5) (Es s1 s2 s3 s4 s5) c (Wq (sL b0 Mk N D Ls Es I m (m s1 s2 s3 s4 s5)) Q)) : J P rd b0 Mk N D L E (Code.loop c) Q :=
  bP (σ := σ1 × σ2 × σ3 × σ4 × σ5) (fun s : σ1 × σ2 × σ3 × σ4 × σ5 => Ls s.1 s.2.1 s.2.2.1 s.2.2.2.1 s.2.2.2.2) (fun s => Es s.1 s.2.1 s.2.2.1 s.2.2.2.1 s.2.2.2.2) (fun s => I s.1 s.2.1 s.2.2.1 s.2.2.2.1 s.2.2.2.2) (fun s => m s.1 s.2.1 s.2.2.1 s.2.2.2.1 s.2.2.2.2) (x1, x2, x3, x4, x5) hI hE hL (fun s hI => h s.1 s.2.1 s.2.2.1 s.2.2.2.1 s.2.2.2.2 hI)
theorem mS {σ1 σ2 σ3 σ4 σ5 : Type} {Ls : σ1 → σ2 → σ3 → σ4 → σ5 → Ad} {Es : σ1 → σ2 → σ3 → σ4 → σ5 → Dq} {I : σ1 → σ2 → σ3 → σ4 → σ5 → Prop} {m : σ1 → σ2 → σ3 → σ4 → σ5 → Nat} {n : Nat} (s1 : σ1) (s2 : σ2) (s3 : σ3) (s4 : σ4) (s5 : σ5) (hI : I s1 s2 s3 s4 s5) (hm : m s1 s2 s3 s4 s5 < n) (hE : Kj E (Es s1 s2 s3 s4 s5)) (hL : List.Perm L (Ls s1 s2 s3 s4 s5)) :
    JX b0 Mk N D L E (Wq (sL b0 Mk N D Ls Es I m n) Q) .normal := bQ (Ls := fun s : σ1 × σ2 × σ3 × σ4 × σ5 => Ls s.1 s.2.1 s.2.2.1 s.2.2.2.1 s.2.2.2.2) (Es := fun s => Es s.1 s.2.1 s.2.2.1 s.2.2.2.1 s.2.2.2.2) (I := fun s => I s.1 s.2.1 s.2.2.1 s.2.2.2.1 s.2.2.2.2) (m := fun s => m s.1 s.2.1 s.2.2.1 s.2.2.2.1 s.2.2.2.2) (s1, s2, s3, s4, s5) hI hm hE hL
def sM {σ1 σ2 σ3 σ4 σ5 σ6 : Type} (b0 : World) (Mk : List Nat) (N : Nat) (D : List Deferred) (Ls : σ1 → σ2 → σ3 → σ4 → σ5 → σ6 → Ad) (Es : σ1 → σ2 → σ3 → σ4 → σ5 → σ6 → Dq) (I : σ1 → σ2 → σ3 → σ4 → σ5 → σ6 → Prop) (m : σ1 → σ2 → σ3 → σ4 → σ5 → σ6 → Nat) (n : Nat) : Act → World → Prop :=
  Zv b0 Mk N D (fun s : σ1 × σ2 × σ3 × σ4 × σ5 × σ6 => Ls s.1 s.2.1 s.2.2.1 s.2.2.2.1 s.2.2.2.2.1 s.2.2.2.2.2) (fun s => Es s.1 s.2.1 s.2.2.1 s.2.2.2.1 s.2.2.2.2.1 s.2.2.2.2.2) (fun s => I s.1 s.2.1 s.2.2.1 s.2.2.2.1 s.2.2.2.2.1 s.2.2.2.2.2) (fun s => m s.1 s.2.1 s.2.2.1 s.2.2.2.1 s.2.2.2.2.1 s.2.2.2.2.2) n
theorem zN {σ1 σ2 σ3 σ4 σ5 σ6 : Type} (Ls : σ1 → σ2 → σ3 → σ4 → σ5 → σ6 → Ad) (Es : σ1 → σ2 → σ3 → σ4 → σ5 → σ6 → Dq) (I : σ1 → σ2 → σ3 → σ4 → σ5 → σ6 → Prop) (m : σ1 → σ2 → σ3 → σ4 → σ5 → σ6 → Nat) (x1 : σ1) (x2 : σ2) (x3 : σ3) (x4 : σ4) (x5 : σ5) (x6 : σ6) (hI : I x1 x2 x3 x4 x5 x6) (hE : Kj E (Es x1 x2 x3 x4 x5 x6)) (hL : List.Perm L (Ls x1 x2 x3 x4 x5 x6))
    (h : ∀ s1 s2 s3 s4 s5 s6, I s1 s2 s3 s4 s5 s6 → J P rd b0 Mk N D (Ls s1 s2 s3 s4 s5 s6) (Es s1 s2 s3 s4 s5 s6) c (Wq (sM b0 Mk N D Ls Es I m (m s1 s2 s3 s4 s5 s6)) Q)) : J P rd b0 Mk N D L E (Code.loop c) Q :=
  bP (σ := σ1 × σ2 × σ3 × σ4 × σ5 × σ6) (fun s : σ1 × σ2 × σ3 × σ4 × σ5 × σ6 => Ls s.1 s.2.1 s.2.2.1 s.2.2.2.1 s.2.2.2.2.1 s.2.2.2.2.2) (fun s => Es s.1 s.2.1 s.2.2.1 s.2.2.2.1 s.2.2.2.2.1 s.2.2.2.2.2) (fun s => I s.1 s.2.1 s.2.2.1 s.2.2.2.1 s.2.2.2.2.1 s.2.2.2.2.2) (fun s => m s.1 s.2.1 s.2.2.1 s.2.2.2.1 s.2.2.2.2.1 s.2.2.2.2.2) (x1, x2, x3, x4, x5, x6) hI hE hL (fun s hI => h s.1 s.2.1 s.2.2.1 s.2.2.2.1 s.2.2.2.2.1 s.2.2.2.2.2 hI)
theorem zO {σ1 σ2 σ3 σ4 σ5 σ6 : Type} {Ls : σ1 → σ2 → σ3 → σ4 → σ5 → σ6 → Ad} {Es : σ1 → σ2 → σ3 → σ4 → σ5 → σ6 → Dq} {I : σ1 → σ2 → σ3 → σ4 → σ5 → σ6 → Prop} {m : σ1 → σ2 → σ3 → σ4 → σ5 → σ6 → Nat} {n : Nat} (s1 : σ1) (s2 : σ2) (s3 : σ3) (s4 : σ4) (s5 : σ5) (s6 : σ6) (hI : I s1 s2 s3 s4 s5 s6) (hm : m s1 s2 s3 s4 s5 s6 < n) (hE : Kj E (Es s1 s2 s3 s4 s5 s6)) (hL : List.Perm L (Ls s1 s2 s3 s4 s5 s6)) :
    JX b0 Mk N D L E (Wq (sM b0 Mk N D Ls Es I m n) Q) .normal := bQ (Ls := fun s : σ1 × σ2 × σ3 × σ4 × σ5 × σ6 => Ls s.1 s.2.1 s.2.2.1 s.2.2.2.1 s.2.2.2.2.1 s.2.2.2.2.2) (Es := fun s => Es s.1 s.2.1 s.2.2.1 s.2.2.2.1 s.2.2.2.2.1 s.2.2.2.2.2) (I := fun s => I s.1 s.2.1 s.2.2.1 s.2.2.2.1 s.2.2.2.2.1 s.2.2.2.2.2) (m := fun s => m s.1 s.2.1 s.2.2.1 s.2.2.2.1 s.2.2.2.2.1 s.2.2.2.2.2) (s1, s2, s3, s4, s5, s6) hI hm hE hL
def mT {σ1 σ2 σ3 σ4 σ5 σ6 σ7 σ8 σ9 σ10 : Type} (b0 : World) (Mk : List Nat) (N : Nat) (D : List Deferred) (Ls : σ1 → σ2 → σ3 → σ4 → σ5 → σ6 → σ7 → σ8 → σ9 → σ10 → Ad) (Es : σ1 → σ2 → σ3 → σ4 → σ5 → σ6 → σ7 → σ8 → σ9 → σ10 → Dq) (I : σ1 → σ2 → σ3 → σ4 → σ5 → σ6 → σ7 → σ8 → σ9 → σ10 → Prop) (m : σ1 → σ2 → σ3 → σ4 → σ5 → σ6 → σ7 → σ8 → σ9 → σ10 → Nat) (n : Nat) : Act → World → Prop :=
  Zv b0 Mk N D (fun s : σ1 × σ2 × σ3 × σ4 × σ5 × σ6 × σ7 × σ8 × σ9 × σ10 => Ls s.1 s.2.1 s.2.2.1 s.2.2.2.1 s.2.2.2.2.1 s.2.2.2.2.2.1 s.2.2.2.2.2.2.1 s.2.2.2.2.2.2.2.1 s.2.2.2.2.2.2.2.2.1 s.2.2.2.2.2.2.2.2.2) (fun s => Es s.1 s.2.1 s.2.2.1 s.2.2.2.1 s.2.2.2.2.1 s.2.2.2.2.2.1 s.2.2.2.2.2.2.1 s.2.2.2.2.2.2.2.1 s.2.2.2.2.2.2.2.2.1 s.2.2.2.2.2.2.2.2.2) (fun s => I s.1 s.2.1 s.2.2.1 s.2.2.2.1 s.2.2.2.2.1 s.2.2.2.2.2.1 s.2.2.2.2.2.2.1 s.2.2.2.2.2.2.2.1 s.2.2.2.2.2.2.2.2.1 s.2.2.2.2.2.2.2.2.2) (fun s => m s.1 s.2.1 s.2.2.1 s.2.2.2.1 s.2.2.2.2.1 s.2.2.2.2.2.1 s.2.2.2.2.2.2.1 s.2.2.2.2.2.2.2.1 s.2.2.2.2.2.2.2.2.1 s.2.2.2.2.2.2.2.2.2) n
theorem fN {σ1 σ2 σ3 σ4 σ5 σ6 σ7 σ8 σ9 σ10 : Type} (Ls : σ1 → σ2 → σ3 → σ4 → σ5 → σ6 → σ7 → σ8 → σ9 → σ10 → Ad) (Es : σ1 → σ2 → σ3 → σ4 → σ5 → σ6 → σ7 → σ8 → σ9 → σ10 → Dq) (I : σ1 → σ2 → σ3 → σ4 → σ5 → σ6 → σ7 → σ8 → σ9 → σ10 → Prop) (m : σ1 → σ2 → σ3 → σ4 → σ5 → σ6 → σ7 → σ8 → σ9 → σ10 → Nat) (x1 : σ1) (x2 : σ2) (x3 : σ3) (x4 : σ4) (x5 : σ5) (x6 : σ6) (x7 : σ7) (x8 : σ8) (x9 : σ9) (x10 : σ10) (hI : I x1 x2 x3 x4 x5 x6 x7 x8 x9 x10) (hE : Kj E (Es x1 x2 x3 x4 x5 x6 x7 x8 x9 x10)) (hL : List.Perm L (Ls x1 x2 x3 x4 x5 x6 x7 x8 x9 x10))
    (h : ∀ s1 s2 s3 s4 s5 s6 s7 s8 s9 s10, I s1 s2 s3 s4 s5 s6 s7 s8 s9 s10 → J P rd b0 Mk N D (Ls s1 s2 s3 s4 s5 s6 s7 s8 s9 s10) (Es s1 s2 s3 s4 s5 s6 s7 s8 s9 s10) c (Wq (mT b0 Mk N D Ls Es I m (m s1 s2 s3 s4 s5 s6 s7 s8 s9 s10)) Q)) : J P rd b0 Mk N D L E (Code.loop c) Q :=
  bP (σ := σ1 × σ2 × σ3 × σ4 × σ5 × σ6 × σ7 × σ8 × σ9 × σ10) (fun s : σ1 × σ2 × σ3 × σ4 × σ5 × σ6 × σ7 × σ8 × σ9 × σ10 => Ls s.1 s.2.1 s.2.2.1 s.2.2.2.1 s.2.2.2.2.1 s.2.2.2.2.2.1 s.2.2.2.2.2.2.1 s.2.2.2.2.2.2.2.1 s.2.2.2.2.2.2.2.2.1 s.2.2.2.2.2.2.2.2.2) (fun s => Es s.1 s.2.1 s.2.2.1 s.2.2.2.1 s.2.2.2.2.1 s.2.2.2.2.2.1 s.2.2.2.2.2.2.1 s.2.2.2.2.2.2.2.1 s.2.2.2.2.2.2.2.2.1 s.2.2.2.2.2.2.2.2.2) (fun s => I s.1 s.2.1 s.2.2.1 s.2.2.2.1 s.2.2.2.2.1 s.2.2.2.2.2.1 s.2.2.2.2.2.2.1 s.2.2.2.2.2.2.2.1 s.2.2.2.2.2.2.2.2.1 s.2.2.2.2.2.2.2.2.2) (fun s => m s.1 s.2.1 s.2.2.1 s.2.2.2.1 s.2.2.2.2.1 s.2.2.2.2.2.1 s.2.2.2.2.2.2.1 s.2.2.2.2.2.2.2.1 s.2.2.2.2.2.2.2.2.1 s.2.2.2.2.2.2.2.2.2) (x1, x2, x3, x4, x5, x6, x7, x8, x9, x10) hI hE hL (fun s hI => h s.1 s.2.1 s.2.2.1 s.2.2.2.1 s.2.2.2.2.1 s.2.2.2.2.2.1 s.2.2.2.2.2.2.1 s.2.2.2.2.2.2.2.1 s.2.2.2.2.2.2.2.2.1 s.2.2.2.2.2.2.2.2.2 hI)
theorem fO {σ1 σ2 σ3 σ4 σ5 σ6 σ7 σ8 σ9 σ10 : Type} {Ls : σ1 → σ2 → σ3 → σ4 → σ5 → σ6 → σ7 → σ8 → σ9 → σ10 → Ad} {Es : σ1 → σ2 → σ3 → σ4 → σ5 → σ6 → σ7 → σ8 → σ9 → σ10 → Dq} {I : σ1 → σ2 → σ3 → σ4 → σ5 → σ6 → σ7 → σ8 → σ9 → σ10 → Prop} {m : σ1 → σ2 → σ3 → σ4 → σ5 → σ6 → σ7 → σ8 → σ9 → σ10 → Nat} {n : Nat} (s1 : σ1) (s2 : σ2) (s3 : σ3) (s4 : σ4) (s5 : σ5) (s6 : σ6) (s7 : σ7) (s8 : σ8) (s9 : σ9) (s10 : σ10) (hI : I s1 s2 s3 s4 s5 s6 s7 s8 s9 s10) (hm : m s1 s2 s3 s4 s5 s6 s7 s8 s9 s10 < n) (hE : Kj E (Es s1 s2 s3 s4 s5 s6 s7 s8 s9 s10)) (hL : List.Perm L (Ls s1 s2 s3 s4 s5 s6 s7 s8 s9 s10)) :
    JX b0 Mk N D L E (Wq (mT b0 Mk N D Ls Es I m n) Q) .normal := bQ (Ls := fun s : σ1 × σ2 × σ3 × σ4 × σ5 × σ6 × σ7 × σ8 × σ9 × σ10 => Ls s.1 s.2.1 s.2.2.1 s.2.2.2.1 s.2.2.2.2.1 s.2.2.2.2.2.1 s.2.2.2.2.2.2.1 s.2.2.2.2.2.2.2.1 s.2.2.2.2.2.2.2.2.1 s.2.2.2.2.2.2.2.2.2) (Es := fun s => Es s.1 s.2.1 s.2.2.1 s.2.2.2.1 s.2.2.2.2.1 s.2.2.2.2.2.1 s.2.2.2.2.2.2.1 s.2.2.2.2.2.2.2.1 s.2.2.2.2.2.2.2.2.1 s.2.2.2.2.2.2.2.2.2) (I := fun s => I s.1 s.2.1 s.2.2.1 s.2.2.2.1 s.2.2.2.2.1 s.2.2.2.2.2.1 s.2.2.2.2.2.2.1 s.2.2.2.2.2.2.2.1 s.2.2.2.2.2.2.2.2.1 s.2.2.2.2.2.2.2.2.2) (m := fun s => m s.1 s.2.1 s.2.2.1 s.2.2.2.1 s.2.2.2.2.1 s.2.2.2.2.2.1 s.2.2.2.2.2.2.1 s.2.2.2.2.2.2.2.1 s.2.2.2.2.2.2.2.2.1 s.2.2.2.2.2.2.2.2.2) (s1, s2, s3, s4, s5, s6, s7, s8, s9, s10) hI hm hE hL
end loops

theorem Fx {n : Nat} : ∀ k ∈ ([] : List Nat), k < n := fun _ h => by cases h

theorem gD {α : Type} [Inhabited α] {xs : List α} {m : Nat} (h : m < xs.length) : xs[m]? = some (xs.getD m default) := by
  simp [List.getD, List.getElem?_eq_getElem h]

section ops
variable {P : Program} {b0 : World} {Mk : List Nat} {N : Nat} {D : List Deferred} {L V : Ad} {E : Dq} {ty : TypeId}

theorem Wx {t e k len : Nat} {z : Value} {parts : List (Nat × Operand)} {ps : List (Nat × List Value)} {l zs : List Value} (hU : ∀ w, (underlying t).run P w = .ok (.slice e) w) (hS : ∀ w, (sizeOf e).run P w = .ok k w) (hz : ∀ w, (zeroValue e).run P w = .ok z w)
    (hv : O6 E parts = some ps := by rfl) (hb : Nat.ble (len * k) 16777216 = true := by rfl) (hzs : ((List.range (len * k)).map fun i => (Ar z).getD (i % (Ar z).length) undef) = zs := by rfl) (hzl : Nat.blt 0 (Ar z).length = true := by rfl)
    (hf : Wv ((List.range len).map fun i => (i * k, k)) zs ps = some l := by rfl) :
    zK P N D b0 Mk L E (.buildSlice t len parts.toArray) ty (.cells l.toArray e) (fun r => .slice (some ⟨r, 0, none⟩) len len) := fun a w ha _ => by
  have h1 := ha.evalp hv;subst h1;have hb' : ¬ (len * k > 2 ^ 24) := by
    have h2 : len * k ≤ 16777216 := by simpa using hb
    omega
  have hzl' : 0 < (Ar z).length := by simpa using hzl
  have g0 : ∃ z0 : Array Value, (if len * k = 0 then (pure #[] : Sem (Array Value)) else do pure (← zeroValue e).cells).run P w = .ok z0 w ∧ (Array.range (len * k)).map (fun i => z0[i % z0.size]!) = zs.toArray := by
    by_cases h0 : len * k = 0
    · refine ⟨#[], by simp [h0], ?_⟩;subst hzs;simp [h0]
    · refine ⟨(Ar z).toArray, by simp [h0, hz, Bh], ?_⟩;subst hzs;apply Array.ext';simp only [Array.toList_map, Array.toList_range];apply List.map_congr_left;intro i _;have hm : i % (Ar z).length < (Ar z).length := Nat.mod_lt _ hzl';simp [List.getD, hm]
  obtain ⟨z0, c4, d8⟩ := g0;have hfl := Ld ((List.range len).map fun i => (i * k, k)) (fun i => some (i * k, k)) (fun i q hq => by
    simp only [List.getElem?_map] at hq;cases hr : (List.range len)[i]? with
    | none => simp [hr] at hq
    | some j =>
      have : j = i := by
        have := List.getElem?_eq_some_iff.1 hr;obtain ⟨h1, h2⟩ := this;simpa using h2.symm
      subst this;simp [hr] at hq;simp [hq]) (parts.map fun p => (p.1, a.eval p.2)) zs l (by rw [List.map_map]; exact hf)
  by_cases h0 : len * k = 0
  · have n6 : z0 = #[] := by simp [h0] at c4; exact c4
    subst n6;simp only [Bq, execOp, Instr.buildSlice, Sem.run_bind, hU, hS, Result.andThen_ok, hb', if_false, Sem.run_pure, if_pos h0];have e2 : (Array.map (fun (x : Nat × Operand) => (x.1, a.eval x.2)) parts.toArray).toList = parts.map fun p => (p.1, a.eval p.2) := by simp
    simp only [d8, e2, hfl];simp [newRow]
  · have n6 : z.cells = z0 := by simp [h0, hz] at c4; exact c4
    simp only [Bq, execOp, Instr.buildSlice, Sem.run_bind, hU, hS, Result.andThen_ok, hb', if_false, Sem.run_pure, if_neg h0, hz, n6];have e2 : (Array.map (fun (x : Nat × Operand) => (x.1, a.eval x.2)) parts.toArray).toList = parts.map fun p => (p.1, a.eval p.2) := by simp
    simp only [d8, e2, hfl];simp [newRow]
end ops
end Go.Proofs.YtbooaoddioibeaaGreatDoor.Jd

namespace Go.Proofs.YtbooaoddioibeaaGreatDoor.Jd
open Go.Proofs.Tryz
open Go.RowKit (Below)
set_option linter.unusedVariables false
set_option linter.unusedSimpArgs false

def keys (H : Ad) : List Nat := H.map Prod.fst

/-- From w to w': of what was there only the blocks of H have changed (into those of H'); there may be new ones. -/
structure Tr (w w' : World) (H H' : Ad) : Prop where
  os : w'.os = w.os
  tape : w'.tape = w.tape
  output : w'.output = w.output
  size : w.heap.size ≤ w'.heap.size
  same : ∀ k, k < w.heap.size → k ∉ keys H → w'.heap[k]? = w.heap[k]?
  own : ∀ p ∈ H', w'.heap[p.1]? = some p.2
  key : ∀ p ∈ H', p.1 ∈ keys H ∨ w.heap.size ≤ p.1
  nd : (keys H').Nodup

theorem Dn {H : Ad} {p : Nat × Obj} (h : p ∈ H) : p.1 ∈ keys H := List.mem_map_of_mem h
theorem Cb {H : Ad} {k : Nat} (h : k ∈ keys H) : ∃ o, (k, o) ∈ H := by
  obtain ⟨⟨a, b⟩, h1, rfl⟩ := List.mem_map.1 h;exact ⟨b, h1⟩
theorem Hg (A B : Ad) : keys (A ++ B) = keys A ++ keys B := List.map_append

theorem Tr.refl {w : World} {H : Ad} (h : ∀ p ∈ H, w.heap[p.1]? = some p.2) (hn : (keys H).Nodup) : Tr w w H H :=
  ⟨rfl, rfl, rfl, Nat.le_refl _, fun _ _ _ => rfl, h, fun p hp => .inl (Dn hp), hn⟩

theorem Tr.trans {w w1 w2 : World} {H H1 H2 : Ad} (h : Tr w w1 H H1) (k : Tr w1 w2 H1 H2) : Tr w w2 H H2 := by
  refine ⟨k.os.trans h.os, k.tape.trans h.tape, k.output.trans h.output, Nat.le_trans h.size k.size, fun j hj hn => ?_, k.own, fun p hp => ?_, k.nd⟩
  · rw [k.same j (Nat.lt_of_lt_of_le hj h.size) (fun hm => ?_), h.same j hj hn];obtain ⟨o, ho⟩ := Cb hm;rcases h.key _ ho with h1 | h1
    · exact hn h1
    · simp only at h1; omega
  · rcases k.key p hp with h1 | h1
    · obtain ⟨o, ho⟩ := Cb h1;have := h.key _ ho;exact this
    · exact .inr (Nat.le_trans h.size h1)

theorem Tr.of_fresh {w w' : World} {B : Ad} (h : Va w w' B) : Tr w w' [] B :=
  ⟨h.ext.os, h.ext.tape, h.ext.output, h.ext.size, fun k hk _ => h.ext.block k hk, h.own, fun p hp => .inr (h.new p hp), h.nd⟩

theorem Tr.frame {w w' : World} {H H' R : Ad} (h : Tr w w' H H') (hR : ∀ p ∈ R, w.heap[p.1]? = some p.2) (hn : (keys (H ++ R)).Nodup) : Tr w w' (H ++ R) (H' ++ R) := by
  rw [Hg, List.nodup_append] at hn;have hlt : ∀ p ∈ R, p.1 < w.heap.size := fun p hp => (Array.getElem?_eq_some_iff.1 (hR p hp)).1
  have hno : ∀ p ∈ R, p.1 ∉ keys H := fun p hp hm => hn.2.2 _ hm _ (Dn hp) rfl
  refine ⟨h.os, h.tape, h.output, h.size, fun k hk hk2 => h.same k hk (fun hm => hk2 (by rw [Hg]; exact List.mem_append_left _ hm)), fun p hp => ?_, fun p hp => ?_, ?_⟩
  · rcases List.mem_append.1 hp with hp | hp
    · exact h.own p hp
    · rw [h.same _ (hlt p hp) (hno p hp)]; exact hR p hp
  · rcases List.mem_append.1 hp with hp | hp
    · exact (h.key p hp).imp (fun hm => by rw [Hg]; exact List.mem_append_left _ hm) id
    · exact .inl (by rw [Hg]; exact List.mem_append_right _ (Dn hp))
  · rw [Hg, List.nodup_append];refine ⟨h.nd, hn.2.1, fun a ha b hb e => ?_⟩;subst e;obtain ⟨o, ho⟩ := Cb ha;obtain ⟨o2, b8⟩ := Cb hb;rcases h.key _ ho with h1 | h1
    · exact hno _ b8 h1
    · have := hlt _ b8; simp only at h1 this; omega

theorem SH.tr {b0 : World} {Mk : List Nat} {H H' L : Ad} {w w' : World} (h : SH b0 Mk (H ++ L) w) (ht : Tr w w' H H') : SH b0 Mk (H' ++ L) w' := by
  have hf := ht.frame (R := L) (fun p hp => h.own p (List.mem_append_right _ hp)) h.nd;refine ⟨ht.os.trans h.os, ht.tape.trans h.tape, ht.output.trans h.output, Nat.le_trans h.size ht.size, fun k hk hM => ?_, hf.own, fun p hp => ?_, hf.nd⟩
  · rw [ht.same k (Nat.lt_of_lt_of_le hk h.size) (fun hm => ?_)]
    · exact h.same k hk hM
    · obtain ⟨o, ho⟩ := Cb hm;rcases h.key _ (List.mem_append_left _ ho) with h1 | h1
      · exact hM h1
      · simp only at h1; omega
  · rcases hf.key p hp with h1 | h1
    · obtain ⟨o, ho⟩ := Cb h1;have := h.key _ ho;exact this
    · exact .inr (Nat.le_trans h.size h1)

theorem SH.tr_out {b0 : World} {H L : Ad} {w : World} (h : SH b0 (keys H) L w) : Tr b0 w H L :=
  ⟨h.os, h.tape, h.output, h.size, h.same, h.own, h.key, h.nd⟩

theorem Tr.sub {w w' : World} {H H' H2 : Ad} (h : Tr w w' H H') (hs : List.Sublist H2 H') : Tr w w' H H2 :=
  ⟨h.os, h.tape, h.output, h.size, h.same, fun p hp => h.own p (hs.subset hp), fun p hp => h.key p (hs.subset hp), (hs.map _).nodup h.nd⟩
theorem Tr.perm {w w' : World} {H H' H2 : Ad} (h : Tr w w' H H') (hs : List.Perm H' H2) : Tr w w' H H2 :=
  ⟨h.os, h.tape, h.output, h.size, h.same, fun p hp => h.own p (hs.mem_iff.2 hp), fun p hp => h.key p (hs.mem_iff.2 hp), (hs.map _).nodup_iff.1 h.nd⟩

theorem Tr.ext {w w' : World} {H : Ad} (hH : ∀ p ∈ H, w.heap[p.1]? = some p.2) (h : Tr w w' H H) : jW w w' :=
  ⟨h.os, h.tape, h.output, h.size, fun k hk => by
    by_cases hm : k ∈ keys H
    · obtain ⟨o, ho⟩ := Cb hm;have h1 := h.own _ ho;have h2 := hH _ ho;simp only at h1 h2;rw [h1, h2]
    · exact h.same k hk hm⟩

section
variable {P : Program} {rd : Option Nat} {b0 : World} {Mk : List Nat} {N : Nat} {D : List Deferred} {ops : Array Oper} {L L' V : Ad} {E : Dq} {Q : Exit → Act → World → Prop} {T : Act → World → Prop}
variable {op : Op} {ty : TypeId} {pos : String} {after : Array Edge} {v : Value} {d : Nat}

def L8 (P : Program) (l : Nat) (vs : List Value) (w : World) (R : Ending → World → Prop) : Prop :=
  ∃ fn tmps assign body, (Instr.yield l vs.toArray).run P w = .ok (.round l fn tmps assign body) w ∧ RoundIn (FW none) 0 P l fn tmps assign body w R

theorem kD {l : Nat} {fn : FuncId} {tmps : Array Value} {assign body : Code} {w : World} {R : Ending → World → Prop} (h : RoundIn (FW none) 0 P l fn tmps assign body w R) : RoundIn (FW rd) 0 P l fn tmps assign body w R :=
  ⟨trivial, fun c cs _ => h.2 c cs (zH _ _)⟩

/-- The loop's record, as it was laid. -/
structure Nm (N : Nat) (E : Dq) (ps : Array Tmp) (assign body : Code) (r : Loop) : Prop where
  ps : r.params = ps
  assign : r.assign = assign
  body : r.body = body
  hold : Bl N [] E { tmps := r.tmps, defers := [] }

def Cu (r : Loop) (st : LoopState) (j : Option Code) : Obj := .loop { r with state := st, pending := j }

def Le : List Tmp → List Value → Dq → Dq
  | t :: ts, v :: vs, E => Le ts vs ((t, v) :: E)
  | _, _, E => E

theorem Rv : ∀ (ts : List Tmp) (vs : List Value) (E : Dq) (tmps : Array Value), (ts.all fun t => Nat.blt t N) = true → Bl N [] E { tmps := tmps, defers := [] } →
    Bl N [] (Le ts vs E) { tmps := (ts.zip vs).foldl (fun (tmps : Array Value) (x : Tmp × Value) => tmps.setIfInBounds x.1 x.2) tmps, defers := [] }
  | [], _, _, _, _, h => by simpa [Le] using h
  | t :: ts, [], _, _, _, h => by simpa [Le] using h
  | t :: ts, v :: vs, E, tmps, hl, h => by
    simp only [List.all_cons, Bool.and_eq_true] at hl;exact Rv ts vs _ _ hl.2 (h.put hl.1 v)

def kE (P : Program) (l : Nat) (R : Ending → World → Prop) : Exit → Act → World → Prop := roundPost P l R

theorem Wy {w : World} {l : Nat} {r : Loop} {vs : List Value} (h : w.heap[l]? = some (.loop r)) (hs : Nat.beq vs.length r.params.size = true) :
    (Instr.yield l vs.toArray).run P w = .ok (.round l r.fn ((r.params.toList.zip vs).foldl (fun (tmps : Array Value) (x : Tmp × Value) => tmps.setIfInBounds x.1 x.2) r.tmps) r.assign r.body) w := by
  have hs' : vs.length = r.params.size := by simpa using hs
  have e : (r.params.zip vs.toArray) = (r.params.toList.zip vs).toArray := by
    apply Array.ext'; simp
  simp only [Instr.yield, Sem.run_bind, run_getLoop h, Result.andThen_ok];rw [if_neg (by simpa using hs')];simp [e]

theorem pR {w : World} {l : Nat} {o o' : Obj} {R : Ad} (h : w.heap[l]? = some o) (hR : ∀ p ∈ R, w.heap[p.1]? = some p.2) (hn : (keys ((l, o) :: R)).Nodup) : Tr w (w.putObj l o') ((l, o) :: R) ((l, o') :: R) := by
  have hlt := (Array.getElem?_eq_some_iff.1 h).1;have hn' : (keys ((l, o') :: R)).Nodup := hn;simp only [keys, List.map_cons, List.nodup_cons] at hn;refine ⟨rfl, rfl, rfl, by simp [World.putObj], fun k _ hk => World.putObj_heap_other (fun e => hk (by subst e; exact List.mem_cons_self)), fun p hp => ?_, fun p hp => .inl ?_, hn'⟩
  · rcases List.mem_cons.1 hp with rfl | hp
    · exact World.putObj_heap_same hlt
    · rw [World.putObj_heap_other (fun e => hn.1 (by rw [← e]; exact List.mem_map_of_mem hp))]; exact hR p hp
  · rcases List.mem_cons.1 hp with rfl | hp
    · exact List.mem_cons_self
    · exact List.mem_cons_of_mem _ (List.mem_map_of_mem hp)

theorem SH.put {w : World} {l : Nat} {o o' : Obj} (h : SH b0 Mk ((l, o) :: L) w) : SH b0 Mk ((l, o') :: L) (w.putObj l o') := by
  have ht := pR (o' := o') (R := []) (h.own _ List.mem_cons_self) (fun _ h => by cases h) (by simp [keys]);exact SH.tr (H := [(l, o)]) (H' := [(l, o')]) h ht

theorem sN {l : Nat} {r : Loop} {R : Ending → World → Prop} (hL : List.Perm L ((l, Cu r .busy none) :: L'))
    (h : ∀ w, SH b0 Mk ((l, Cu r .ready none) :: L') w → R (.returned (.bool true)) w) : JX b0 Mk N D L E (kE P l R) .normal := by
  intro a w _ hw;have hw' := hw.perm hL;have ho := hw'.own _ List.mem_cons_self;refine ⟨_, _, run_endRound none ho, h _ ?_⟩;exact SH.put hw'

def cA (P : Program) (l : Nat) (body : Code) (R : Ending → World → Prop) : Exit → Act → World → Prop :=
  Exit.then (fun a₁ w₁ => ∃ w₂, (Instr.beginRound l).run P w₁ = .ok () w₂ ∧ body.wpIn (FW (some l)) 0 P (roundPost P l R) a₁ w₂) (fun _ _ _ => False)

theorem fP {l : Nat} {r : Loop} {body : Code} {R : Ending → World → Prop} (hL : List.Perm L ((l, Cu r .ready none) :: L'))
    (h : J P (some l) b0 Mk N D ((l, Cu r .busy none) :: L') E body (kE P l R)) : JX b0 Mk N D L E (cA P l body R) .normal := by
  intro a w ha hw;have hw' := hw.perm hL;have ho := hw'.own _ List.mem_cons_self;exact ⟨_, run_beginRound ho rfl, h a _ ha (SH.put hw')⟩

theorem kF {l : Nat} {r : Loop} {ps : List Tmp} {assign body : Code} {vs : List Value} {w : World} {R : Ending → World → Prop} (hr : Nm N E ps.toArray assign body r) (hw : SH b0 Mk ((l, Cu r .ready none) :: L) w)
    (hs : Nat.beq vs.length ps.length = true) (hps : (ps.all fun t => Nat.blt t N) = true)
    (h : J P (some l) b0 Mk N [] ((l, Cu r .ready none) :: L) (Le ps vs E) assign (cA P l body R)) : L8 P l vs w R := by
  have ho := hw.own _ List.mem_cons_self;refine ⟨_, _, _, _, Wy ho (by simpa [hr.ps] using hs), roundIn_of_wpIn trivial ?_⟩;show Code.wpIn (FW (some l)) 0 P _ _ _ _
  simp only [hr.assign, hr.body, hr.ps];exact h _ w (Rv ps vs E _ hps hr.hold) hw

end
end Go.Proofs.YtbooaoddioibeaaGreatDoor.Jd

namespace Go.Proofs.YtbooaoddioibeaaGreatDoor.Jd
open Go.Proofs.Tryz
open Go.RowKit (Below)
set_option linter.unusedVariables false
set_option linter.unusedSimpArgs false
section
variable {P : Program} {rd : Option Nat} {b0 : World} {Mk : List Nat} {N : Nat} {D : List Deferred} {ops : Array Oper} {L V : Ad} {E : Dq} {T : Act → World → Prop}
variable {op : Op} {ty : TypeId} {pos : String} {after : Array Edge} {v : Value} {d : Nat}

theorem Wz {o : Oper} {a : Act} {w : World} {l : Nat} {vs : List Value} {K : Act → World → Prop} {Q : Exit → Act → World → Prop} (hd : Ax o = true) (h : (execOp a.eval o) = Instr.yield l vs.toArray)
    (hK : L8 P l vs w fun e w' => ∃ v, e = .returned v ∧ K (a.put o.dst v) w') : o.wpIn (FW rd) 0 P a w K Q := by
  obtain ⟨fn, tmps, assign, body, h1, h2⟩ := hK;refine ⟨fun _ _ => trivial, ?_⟩;rw [Oper.semAt_eq _ _ _ (Ds hd), h, h1];refine ⟨fun h => by simp [FW] at h, kD (h2.mono fun e w' he => ?_)⟩;obtain ⟨v, rfl, hk⟩ := he;exact hk

def AD5 (N : Nat) (D : List Deferred) (E : Dq) (op : Op) (ty : TypeId) (l : Nat) (vs : List Value) : Prop := ∀ a, Bl N D E a → execOp a.eval (Bq op ty) = Instr.yield l vs.toArray

theorem sO {f : Operand} {args : List Operand} {tys : Array TypeId} {l : Nat} {vs : List Value} (hf : ev E f = some (.func (.yield l) #[] #[]) := by rfl) (ha : evs E args = some vs := by rfl) :
    AD5 N D E (.call { callee := .value f, args := args.toArray, argTypes := tys }) ty l vs := fun a hh => by
  have := hh.evals ha;simp only [Bq, execOp, resolve, hh.eval hf, Deferred.ofValue];show (Instr.yield l (#[] ++ (args.toArray.map a.eval))) = _
  simp [this]

theorem O9 {f : FuncId} {fn : Func} {c : Code} {args : List Value} {w : World} {R : Ending → World → Prop} (hf : P.funcs[f]? = some fn) (hN : fn.ntmps = N) (hb : fn.body = some c := by rfl) (ha : Nat.ble args.length N = true := by rfl)
    (h : J P none w [] N [] [] (Ms 0 args) c (bodyPostM (FW none) 0 P fn R)) : Calls P f args.toArray w R := by
  subst hN;exact callsIn_wide.1 (callsIn_of_wp_marks (F := FW none) (n := 0) hf hb trivial (h _ w (Hf args ha) (SH.begin w)))

theorem zQ {f : FuncId} {fn : Func} {c : Code} {args : List Value} {w : World} {R : Ending → World → Prop} (Mk : List Nat) (L : Ad) (hL : ∀ p ∈ L, w.heap[p.1]? = some p.2) (hk : ∀ p ∈ L, p.1 ∈ Mk) (hnd : (L.map Prod.fst).Nodup)
    (hf : P.funcs[f]? = some fn) (hN : fn.ntmps = N) (hb : fn.body = some c := by rfl) (ha : Nat.ble args.length N = true := by rfl)
    (h : J P none w Mk N [] L (Ms 0 args) c (bodyPostM (FW none) 0 P fn R)) : Calls P f args.toArray w R := by
  subst hN;exact callsIn_wide.1 (callsIn_of_wp_marks (F := FW none) (n := 0) hf hb trivial (h _ w (Hf args ha) ⟨rfl, rfl, rfl, Nat.le_refl _, fun _ _ _ => rfl, hL, fun p hp => .inl (hk p hp), hnd⟩))

def Qj (r : Nat) : Deferred := { target := .collected r, args := #[] }

theorem cC {fn : Func} {R : Ending → World → Prop} {a : Act} {rs : List ResultVar} {vs : List Value} {L2 : Ad} (hr : fn.results = rs.toArray) (h : Mt P L2 E rs vs) (ha : Bl N D E a) (hR : ∀ w, SH b0 Mk L2 w → R (.returned (Nk vs)) w) :
    ∀ (ms : List Nat) (w : World), SH b0 Mk (ms.map (fun r => (r, Obj.deferred (some []))) ++ L2) w → LeavesInM (FW none) 0 P fn a.tmps R (ms.map Qj) .returning w
  | [], w, hw => by
    have h2 : Bl N a.defers E a := ⟨ha.size, rfl, ha.val⟩
    exact ⟨Nk vs, Eo hr h h2 hw, hR w hw⟩
  | r :: ms, w, hw => by
    have ho := hw.own _ List.mem_cons_self;simp only at ho;refine ⟨by simp, .inl ⟨r, _, rfl, run_takeDeferred ho, cC hr h ha hR ms _ ?_⟩⟩;exact (SH.put (o' := .deferred none) hw).sub (List.sublist_cons_self _ _)

theorem cE {fn : Func} {R : Ending → World → Prop} {rs : List ResultVar} {vs : List Value} {L2 : Ad} (ms : List Nat) (hL : List.Perm L (ms.map (fun r => (r, Obj.deferred (some []))) ++ L2)) (hr : fn.results = rs.toArray) (h : Mt P L2 E rs vs) (hR : ∀ w, SH b0 Mk L2 w → R (.returned (Nk vs)) w) :
    JX b0 Mk N (ms.map Qj) L E (bodyPostM (FW none) 0 P fn R) .ret := fun a w ha hw => by
  show LeavesInM _ _ _ _ _ _ a.defers _ _
  rw [ha.defs];exact cC hr h ha hR ms w (hw.perm hL)

end
end Go.Proofs.YtbooaoddioibeaaGreatDoor.Jd

namespace Go.Proofs.YtbooaoddioibeaaGreatDoor.Jd
open Go.Proofs.Tryz
open Go.RowKit (Below)
set_option linter.unusedVariables false
set_option linter.unusedSimpArgs false

theorem setL_eq : ∀ (us l : List Value) (n : Nat), n + us.length ≤ l.length → Bv l n us = l.take n ++ us ++ l.drop (n + us.length)
  | [], l, n, _ => by cases l <;> simp [Bv]
  | u :: us, [], n, h => by simp at h
  | u :: us, q :: l, 0, h => by
    have := setL_eq us l 0 (by simp at h ⊢; omega);simp only [Bv, this, List.take_zero, List.nil_append, Nat.zero_add, List.length_cons, List.drop_succ_cons, List.cons_append]
  | u :: us, q :: l, n + 1, h => by
    have := setL_eq (u :: us) l n (by simp at h ⊢; omega);simp only [Bv, this, List.take_succ_cons, List.cons_append];rw [show n + 1 + (u :: us).length = (n + (u :: us).length) + 1 by omega, List.drop_succ_cons]

theorem fQ (l : List Value) (p q : Nat) (e : List Value) (h1 : p + e.length ≤ q) (h2 : q ≤ l.length) :
    (l.take p ++ e ++ l.drop (p + e.length)).take q = (l.take q).take p ++ e ++ (l.take q).drop (p + e.length) := by
  have l1 : (l.take p ++ e).length = p + e.length := by simp; omega
  rw [List.take_append, List.take_of_length_le (by rw [l1]; exact h1), l1, List.take_take, Nat.min_eq_left z6, List.drop_take]

structure Eb {α : Type} (enc : α → List Value) (k : Nat) : Prop where
  pos : 0 < k
  len : ∀ x, (enc x).length = k
  one : ∀ x, Bn (enc x) = true

theorem Gt : ∀ {l : List Value}, Bn l = true → ∀ u ∈ l, u.oneCell' = true
  | v :: r, h, u, hu => by
    simp only [Bn, Bool.and_eq_true] at h;rcases List.mem_cons.1 hu with rfl | hu
    · exact h.1
    · exact Gt h.2 u hu

def Cw {α : Type} (enc : α → List Value) (xs : List α) : List Value := (xs.map enc).flatten

section flat
variable {α : Type} {enc : α → List Value} {k : Nat}
theorem Cp (hE : Eb enc k) : ∀ xs : List α, (Cw enc xs).length = xs.length * k
  | [] => by simp [Cw]
  | x :: r => by
    have := Cp hE r;simp only [Cw, List.map_cons, List.flatten_cons, List.length_append, List.length_cons] at *;rw [this, hE.len, Nat.add_mul]; omega
theorem Nn (xs ys : List α) : Cw enc (xs ++ ys) = Cw enc xs ++ Cw enc ys := by simp [Cw]
theorem Rw (hE : Eb enc k) : ∀ (xs : List α) (i : Nat) (x : α), xs[i]? = some x → ∀ j v, (enc x)[j]? = some v → (Cw enc xs)[i * k + j]? = some v
  | [], i, x, h, _, _, _ => by simp at h
  | y :: r, 0, x, h, j, v, hv => by
    have : y = x := by simpa using h
    subst this;simp only [Cw, List.map_cons, List.flatten_cons, Nat.zero_mul, Nat.zero_add];rw [List.getElem?_append_left (List.getElem?_eq_some_iff.1 hv).1]; exact hv
  | y :: r, i + 1, x, h, j, v, hv => by
    have ih := Rw hE r i x (by simpa using h) j v hv;simp only [Cw, List.map_cons, List.flatten_cons] at *;rw [List.getElem?_append_right (by rw [hE.len, Nat.add_mul]; omega), hE.len, show (i + 1) * k + j - k = i * k + j by rw [Nat.add_mul]; omega];exact ih
theorem fS (hE : Eb enc k) (xs : List α) : ∀ u ∈ Cw enc xs, u.oneCell' = true := fun u hu => by
  obtain ⟨l, hl, hul⟩ := List.mem_flatten.1 hu;obtain ⟨x, _, rfl⟩ := List.mem_map.1 hl;exact Gt (hE.one x) u hul
theorem fT (hE : Eb enc k) : ∀ (xs : List α) (i : Nat) (y : α), i < xs.length → Cw enc (xs.set i y) = (Cw enc xs).take (i * k) ++ enc y ++ (Cw enc xs).drop (i * k + k)
  | [], _, _, h => by simp at h
  | x :: r, 0, y, _ => by
    simp only [Cw, List.set_cons_zero, List.map_cons, List.flatten_cons, Nat.zero_mul, List.take_zero, List.nil_append, Nat.zero_add];rw [List.drop_left' (hE.len x)]
  | x :: r, i + 1, y, h => by
    have ih := fT hE r i y (by simpa using h);simp only [Cw, List.set_cons_succ, List.map_cons, List.flatten_cons] at *;rw [ih];have h1 : (i + 1) * k = k + i * k := by rw [Nat.add_mul]; omega
    rw [h1, ← hE.len x, List.take_length_add_append, show (enc x).length + i * (enc x).length + (enc x).length = (enc x).length + (i * (enc x).length + (enc x).length) by omega, List.drop_length_add_append];simp [List.append_assoc]
end flat

def Bg {α : Type} (enc : α → List Value) (k : Nat) (e : TypeId) (a : Option Addr) (c : Nat) (B : Ad) (xs : List α) : Prop :=
  (c = 0 ∧ B = [] ∧ xs = []) ∨
  ∃ r cur f, a = some ⟨r, 0, none⟩ ∧ B = [(r, .cells cur e f)] ∧ bY f cur.size ∧ xs.length ≤ c ∧ cur.size = c * k ∧ cur.toList.take (xs.length * k) = Cw enc xs

theorem Bg.nil {α : Type} {enc : α → List Value} {k : Nat} {e : TypeId} {a : Option Addr} : Bg enc k e a 0 [] [] := .inl ⟨rfl, rfl, rfl⟩

theorem Bg.mk {α : Type} {enc : α → List Value} {k : Nat} {e : TypeId} {r c : Nat} {l : List Value} {xs : List α} (hc : xs.length = c := by rfl) (hl : l = Cw enc xs := by rfl) (hE : Eb enc k) : Bg enc k e (some ⟨r, 0, none⟩) c [(r, .cells l.toArray e)] xs :=
  .inr ⟨r, l.toArray, (0, 0), rfl, rfl, .zero, by omega, by rw [hl]; simp [Cp hE, hc], by subst hl; simp only [List.toList_toArray]; rw [List.take_of_length_le (by rw [Cp hE]; omega)]⟩

theorem Bg.sl {α : Type} {enc : α → List Value} {k : Nat} {e : TypeId} {a : Option Addr} {c : Nat} {B : Ad} {xs : List α} (hE : Eb enc k) (h : Bg enc k e a c B xs) {w : World} (hB : ∀ p ∈ B, w.heap[p.1]? = some p.2) : Sl w enc k a xs := by
  rcases h with ⟨rfl, rfl, rfl⟩ | ⟨r, cur, fz, rfl, rfl, hfz, h1, h2, h3⟩
  · exact Sl.nil
  · intro i x hx;refine ⟨r, 0, rfl, hE.len x, fun j v hv => ?_⟩;have hb := hB _ List.mem_cons_self;simp only at hb;have hg := Rw hE xs i x hx j v hv;rw [← h3] at hg;have hg' : cur.toList[i * k + j]? = some v := by
      rw [List.getElem?_take] at hg;split at hg
      · exact hg
      · cases hg
    simp only [World.cell?, hb, Nat.zero_add];simpa using hg'

theorem Bg.slj {α : Type} {enc : α → List Value} {k : Nat} {e : TypeId} {a : Option Addr} {c : Nat} {B L : Ad} {xs : List α} {b0 : World} {Mk : List Nat} (hE : Eb enc k) (h : Bg enc k e a c B xs)
    (hB : ∀ p ∈ B, p ∈ L := by intro p hp; repeat (first | exact hp | exact List.mem_append_left _ hp | apply List.mem_append_right | apply List.mem_cons_of_mem)) : Jk b0 Mk L enc k a xs :=
  fun _ hw => h.sl hE (fun p hp => hw.own p (hB p hp))

theorem Jk.take {α : Type} {enc : α → List Value} {k : Nat} {a : Option Addr} {xs : List α} {L : Ad} {b0 : World} {Mk : List Nat} (h : Jk b0 Mk L enc k a xs) (n : Nat) : Jk b0 Mk L enc k a (xs.take n) :=
  fun w hw i x hx => h w hw i x (by
    rw [List.getElem?_take] at hx;split at hx
    · exact hx
    · cases hx)

/-- What a type's row of the table says. -/
structure Ty (P : Program) (e k by_ : Nat) (z : Value) : Prop where
  ex : ∃ i, P.info? e = some i ∧ i.size = k ∧ i.bytes = by_ ∧ i.zero = some z
  zs : z.cells.size = k

section
variable {P : Program} {rd : Option Nat} {b0 : World} {Mk : List Nat} {N : Nat} {D : List Deferred} {ops : Array Oper} {L V : Ad} {E : Dq} {T : Act → World → Prop}
variable {op : Op} {ty : TypeId} {pos : String} {after : Array Edge} {d : Nat}

def cF (P : Program) (N : Nat) (D : List Deferred) (b0 : World) (Mk : List Nat) (L : Ad) (E : Dq) (op : Op) (ty : TypeId) (H : Ad) (X : Type) (v : X → Next) (H' : X → Ad) (Pr : X → Prop) : Prop :=
  ∀ a w, Bl N D E a → SH b0 Mk L w → ∃ x w', (execOp a.eval (Bq op ty)).run P w = .ok (v x) w' ∧ Tr w w' H (H' x) ∧ Pr x

theorem zR {l : List Oper} {H R : Ad} {X : Type} {v : X → Value} {H' : X → Ad} {Pr : X → Prop} (hL : List.Perm L (H ++ R)) (h : cF P N D b0 Mk L E op ty H X (fun x => .value (v x)) H' Pr) (hn : Bf op = true := by rfl) (hd : Nat.blt d N = true := by rfl)
    (k : ∀ x, Pr x → JL P rd b0 Mk N D ops (H' x ++ R) ((d, v x) :: E) l T) : JL P rd b0 Mk N D ops L E ({ dst := some d, op := op, type := ty, pos := pos, after := after, guard := none } :: l) T := by
  intro a w ha hw;unfold Pk;rw [if_pos (by rfl)];obtain ⟨x, w', h1, h2, h3⟩ := h a w ha hw;exact Cs (Bm hn) (by rw [Bi]; exact h1) (k x h3 _ _ (ha.put hd _) ((hw.perm hL).tr h2))

theorem AD6 {l : List Oper} {H R : Ad} {X : Type} {H' : X → Ad} {Pr : X → Prop} (hL : List.Perm L (H ++ R)) (h : cF P N D b0 Mk L E op ty H X (fun _ => .skip) H' Pr) (hn : Bf op = true := by rfl)
    (k : ∀ x, Pr x → JL P rd b0 Mk N D ops (H' x ++ R) E l T) : JL P rd b0 Mk N D ops L E ({ dst := none, op := op, type := ty, pos := pos, after := after, guard := none } :: l) T := by
  intro a w ha hw;unfold Pk;rw [if_pos (by rfl)];obtain ⟨x, w', h1, h2, h3⟩ := h a w ha hw;exact Lc (Bm hn) (by rw [Bi]; exact h1) (k x h3 _ _ ha ((hw.perm hL).tr h2))

theorem AP6 {l : List (Bool × Oper)} {H R : Ad} {X : Type} {v : X → Value} {H' : X → Ad} {Pr : X → Prop} (hV : List.Perm V (H ++ R)) (h : cF P N D b0 Mk (V ++ L) E op ty H X (fun x => .value (v x)) H' Pr) (hn : Bf op = true := by rfl) (hd : Nat.blt d N = true := by rfl)
    (k : ∀ x, Pr x → JD P rd b0 Mk N D ops L (H' x ++ R) ((d, v x) :: E) l T) : JD P rd b0 Mk N D ops L V E ((false, { dst := some d, op := op, type := ty, pos := pos, after := after, guard := none }) :: l) T := by
  intro a w ha hw;unfold Zb;rw [if_pos (by rfl)];obtain ⟨x, w', h1, h2, h3⟩ := h a w ha hw;have hw2 : SH b0 Mk (H ++ (R ++ L)) w := by rw [← List.append_assoc]; exact hw.perm (hV.append_right L)
  have hw3 : SH b0 Mk ((H' x ++ R) ++ L) w' := by rw [List.append_assoc]; exact hw2.tr h2
  exact Cs (Bm hn) (by rw [Bi]; exact h1) ⟨SH b0 Mk L, fun _ h => h, hw3.right, k x h3 _ _ (ha.put hd _) hw3⟩

theorem Np {w : World} (o : Obj) : Tr w (w.alloc o) [] [(w.heap.size, o)] :=
  ⟨rfl, rfl, rfl, by simp, fun k hk _ => Below.heap_alloc w o k hk, fun p hp => by
    have : p = (w.heap.size, o) := by simpa using hp
    subst this;show (w.heap.push o)[w.heap.size]? = some o
    simp, fun p hp => .inr (by have : p = (w.heap.size, o) := by simpa using hp
                               subst this; exact Nat.le_refl _), by simp [keys]⟩

theorem Tr.weaken {w w' : World} {H' B : Ad} (h : Tr w w' [] H') : Tr w w' B H' :=
  ⟨h.os, h.tape, h.output, h.size, fun k hk _ => h.same k hk (by simp [keys]), h.own, fun p hp => (h.key p hp).imp (fun hm => by simp [keys] at hm) id, h.nd⟩

theorem sP {w : World} {r : Nat} {cur cur' : Array Value} {e : TypeId} {f : Nat × Nat} (h : w.heap[r]? = some (.cells cur e f)) : Tr w (w.setRow r cur') [(r, .cells cur e f)] [(r, .cells cur' e f)] := by
  have hlt := (Array.getElem?_eq_some_iff.1 h).1;have e1 : (w.setRow r cur').heap = w.heap.modify r (fun | .cells _ elem frozen => .cells cur' elem frozen | o => o) := rfl;refine ⟨rfl, rfl, rfl, ?_, fun k _ hk => ?_, fun p hp => ?_, fun p hp => .inl ?_, by simp [keys]⟩
  · show w.heap.size ≤ (w.setRow r cur').heap.size
    rw [e1]; simp
  · rw [e1, Array.getElem?_modify, if_neg (fun e => hk (by subst e; simp [keys]))]
  · have : p = (r, .cells cur' e f) := by simpa using hp
    subst this;show (w.setRow r cur').heap[r]? = _
    rw [e1, Array.getElem?_modify];simp [h]
  · have : p = (r, .cells cur' e f) := by simpa using hp
    subst this;simp [keys]

theorem Vv {w w' : World} {H H' : Ad} (h : Tr w.drew w' H H') : Tr w w' H H' := ⟨h.os, h.tape, h.output, h.size, h.same, h.own, h.key, h.nd⟩

theorem Sl.cells {w : World} {α : Type} {enc : α → List Value} {k : Nat} {a : Addr} {xs : List α} (hE : Eb enc k) (h : Sl w enc k (some a) xs) (n : Nat) (hn : n ≤ xs.length) : ∀ j v, (Cw enc (xs.take n))[j]? = some v → w.cell? (a.add j) = some v := by
  intro j v hv;have hj : j < n * k := by
    have h1 := (List.getElem?_eq_some_iff.1 hv).1;rw [Cp hE, List.length_take, Nat.min_eq_left hn] at h1;exact h1
  have hk := hE.pos;have hi : j / k < n := (Nat.div_lt_iff_lt_mul hk).2 hj;have hx : xs[j / k]? = some xs[j / k] := List.getElem?_eq_getElem z6;obtain ⟨b, off, e1, _, h3⟩ := h _ _ hx;have e1' : a = ⟨b, off, none⟩ := Option.some.inj e1;subst e1';have hm : j % k < k := Nat.mod_lt _ hk;have hl : j % k < (enc xs[j / k]).length := by rw [hE.len]; exact hm
  have hv2 := Rw hE (xs.take n) (j / k) xs[j / k] (by rw [List.getElem?_take, if_pos hi]; exact hx) (j % k) _ (List.getElem?_eq_getElem hl);have e2 : j / k * k + j % k = j := by rw [Nat.mul_comm]; exact Nat.div_add_mod j k
  rw [e2, hv] at hv2;have h4 := h3 (j % k) _ (List.getElem?_eq_getElem hl);rw [Ay];rw [show off + j / k * k + j % k = off + j by omega] at h4;rw [h4]; exact hv2.symm

theorem Bg.full {α : Type} {enc : α → List Value} {k : Nat} {e : TypeId} {r c : Nat} {xs : List α} (hE : Eb enc k) {cur : Array Value} (h1 : xs.length ≤ c) (h2 : cur.size = c * k) (h3 : cur.toList.take (xs.length * k) = Cw enc xs) : Bg enc k e (some ⟨r, 0, none⟩) c [(r, .cells cur e)] xs := by
  have _ := hE;exact .inr ⟨r, cur, (0, 0), rfl, rfl, .zero, h1, h2, h3⟩
theorem Bg.fullF {α : Type} {enc : α → List Value} {k : Nat} {e : TypeId} {r c : Nat} {xs : List α} {f : Nat × Nat} {cur : Array Value} (hf : bY f cur.size) (h1 : xs.length ≤ c) (h2 : cur.size = c * k) (h3 : cur.toList.take (xs.length * k) = Cw enc xs) : Bg enc k e (some ⟨r, 0, none⟩) c [(r, .cells cur e f)] xs :=
  .inr ⟨r, cur, f, rfl, rfl, hf, h1, h2, h3⟩
theorem Fo (P : Program) (g o : Nat) (t : TypeId) (fz : Nat × Nat) : ∀ (vs : List Value) (i : Nat) (cur : Array Value) (w : World), w.heap[g]? = some (.cells cur t fz) → bY fz cur.size → o + i + vs.length ≤ cur.size → (∀ v ∈ vs, v.oneCell' = true) →
    (storeCells ⟨g, o, none⟩ vs i).run P w = .ok () (w.setRow g (cur.toList.take (o + i) ++ vs ++ cur.toList.drop (o + i + vs.length)).toArray)
  | [], i, cur, w, hg, _, _, _ => by
    simp only [storeCells, List.append_nil, List.length_nil, Nat.add_zero, List.take_append_drop, Array.toArray_toList];rw [setRow_self w g cur t fz hg];rfl
  | v :: rest, i, cur, w, hg, hfz, hl, h1 => by
    have hi : o + i < cur.size := by simp at hl; omega
    have hadd : (⟨g, o, none⟩ : Addr).add i = ⟨g, o + i, none⟩ := by unfold Addr.add; split <;> simp_all
    have hcell : w.cell? ⟨g, o + i, none⟩ = some cur[o + i] := by simp [World.cell?, hg, hi]
    have hfro : w.frozen? ⟨g, o + i, none⟩ = false := hfz.not hg hi;have hst : (store ((⟨g, o, none⟩ : Addr).add i) v).run P w = .ok () (w.setRow g (cur.setIfInBounds (o + i) v)) := by
      rw [hadd, run_store P w _ v _ (h1 v Jy), hcell];simp [hfro, setCell_eq_setRow w g (o + i) cur t fz v hg]
    have ih := Fo P g o t fz rest (i + 1) (cur.setIfInBounds (o + i) v) (w.setRow g (cur.setIfInBounds (o + i) v)) (setRow_heap w g cur _ t _ hg) (by simpa using hfz) (by simp at hl ⊢; omega) (fun x hx => h1 x (by simp [hx]));simp only [storeCells, Sem.run_bind, hst, Result.andThen_ok, ih, setRow_setRow];congr 3;have e := list_seg_step cur.toList (o + i) v rest (by simp at hl ⊢; omega);simpa [Array.toList_setIfInBounds, Nat.add_assoc] using e
theorem Tv {P : Program} {w : World} {ty : TypeId} (t e : TypeId) (i : TypeInfo) (ht : P.underlying t = some (.slice e)) (hi : P.info? e = some i)
    (g sLen sCap : Nat) (cur : Array Value) (fz : Nat × Nat) (hg : w.heap[g]? = some (.cells cur e fz)) (hfz : bY fz cur.size)
    (a : Addr) (m c : Nat) (news : List Value) (hl : news.length = m * i.size) (hnews : ∀ j u, news[j]? = some u → w.cell? (a.add j) = some u) (h1 : ∀ u ∈ news, u.oneCell' = true)
    (hroom : sLen + m ≤ sCap) (hfit : sLen * i.size + news.length ≤ cur.size) :
    (Builtin.append_ #[t, t] ty #[.slice (some ⟨g, 0, none⟩) sLen sCap, .slice (some a) m c]).run P w =
      .ok (.slice (some ⟨g, 0, none⟩) (sLen + m) sCap) (w.setRow g (cur.toList.take (sLen * i.size) ++ news ++ cur.toList.drop (sLen * i.size + news.length)).toArray) := by
  have hf := run_firstCells_some (P := P) w i.size m a m c news hl hnews;have hst := Fo P g (sLen * i.size) e fz news 0 cur w hg hfz (by simpa using hfit) h1;simp only [Nat.add_zero] at hst;simp [Builtin.append_, run_underlying ht, sizeOf, typeInfo, hi, Builtin.lenOf, hroom, hf, Addr.add_lit, hst]

theorem sQ {α : Type} {enc : α → List Value} {k by_ : Nat} {t e : TypeId} {z : Value} {x y : Operand} {a a' : Option Addr} {c c' n m : Nat} {B : Ad} {xs ys : List α} (hT : Ty P e k by_ z) (hU : P.underlying t = some (.slice e)) (hE : Eb enc k) (ho : Bg enc k e a c B xs)
    (hs : Jk b0 Mk L enc k a' ys) (hB : ∀ p ∈ B, p ∈ L) (hn : xs.length = n) (hm : ys.length = m) (hb : 2 * (n + m) * by_ ≤ 281474976710656) (hb2 : n + m ≤ 4611686018427387904) (hx : ev E x = some (.slice a n c) := by rfl) (hy : ev E y = some (.slice a' m c') := by rfl) :
    cF P N D b0 Mk L E (.call { callee := .builtin .append, args := #[x, y], argTypes := #[t, t] }) ty B (Option Addr × Nat × Ad) (fun q => .value (.slice q.1 (n + m) q.2.1)) (fun q => q.2.2) (fun q => Bg enc k e q.1 q.2.1 q.2.2 (xs ++ ys)) := by
  intro ac w ha hw;obtain ⟨i, hi, rfl, rfl, hz⟩ := hT.ex;have hzs := hT.zs;have hk := hE.pos;subst hn hm;have Rx : ∀ (v' : Value) (w' : World), (Builtin.append_ #[t, t] ty #[.slice a xs.length c, .slice a' ys.length c']).run P w = .ok v' w' →
      (execOp ac.eval (Bq (.call { callee := .builtin .append, args := #[x, y], argTypes := #[t, t] }) ty)).run P w = .ok (.value v') w' := fun v' w' h => by
    simp [Bq, execOp, resolve, invoke, builtin, ha.eval hx, ha.eval hy, h]
  have hsl := hs w hw
  -- what is appended
  by_cases hy0 : ys = []
  · subst hy0
    -- nothing is appended: the slice is asg it was
    have hrun : (Builtin.append_ #[t, t] ty #[.slice a xs.length c, .slice a' 0 c']).run P w = .ok (.slice a xs.length c) w := by
      have hle : xs.length + 0 ≤ c := by
        rcases ho with ⟨rfl, rfl, rfl⟩ | ⟨r, cur, fz, rfl, rfl, hfz, h1, _, _⟩
        · simp
        · simpa using h1
      have hf : (Builtin.firstCells i.size 0 (.slice a' 0 c')).run P w = .ok #[] w := by
        cases a' with
        | none => simp [Builtin.firstCells]
        | some q => simp [Builtin.firstCells, loadCells, loadCellsFrom]
      have hle' : xs.length ≤ c := by simpa using hle
      rcases a with _ | ad
      · simp [Builtin.append_, run_underlying hU, sizeOf, typeInfo, hi, Builtin.lenOf, hf, hle']
      · simp [Builtin.append_, run_underlying hU, sizeOf, typeInfo, hi, Builtin.lenOf, hf, hle', storeCells]
    refine ⟨(a, c, B), w, Rx _ _ (by simpa using hrun), ?_, by simpa using ho⟩;refine Tr.refl (fun p hp => hw.own p (hB p hp)) ?_;rcases ho with ⟨_, rfl, _⟩ | ⟨r, cur, fz, _, rfl, _⟩ <;> simp [keys]
  · have hpos : 0 < ys.length := List.length_pos_iff.2 hy0;obtain ⟨y0, hy0'⟩ : ∃ y0, ys[0]? = some y0 := ⟨_, List.getElem?_eq_getElem hpos⟩
    obtain ⟨b1, off1, rfl, _, _⟩ := hsl 0 y0 hy0';have hnews := Sl.cells hE hsl ys.length (Nat.le_refl _);rw [List.take_length] at hnews;have hnl : (Cw enc ys).length = ys.length * i.size := Cp hE ys;rcases ho with ⟨rfl, rfl, rfl⟩ | ⟨r, cur, fz, rfl, rfl, hfz, h1, h2, h3⟩
    · -- nil, or empty and without room
      have hby2 : 2 * ys.length * i.bytes ≤ 281474976710656 := by simpa using hb
      have hby : ys.length * i.bytes ≤ 281474976710656 := by
        rw [Nat.mul_assoc] at hby2;omega
      rcases a with _ | ad
      · have hr := run_append_nil (P := P) w t ty e i z hU hi hz ⟨b1, off1, none⟩ ys.length c' (Cw enc ys) hnl hnews hpos (by simp at hb2; omega) hby
        refine ⟨(some ⟨w.heap.size, 0, none⟩, grownCap w ys.length 0 e, [(w.heap.size, _)]), _, Rx _ _ (by simpa using hr), Vv (Np (w := w.drew) _), ?_⟩;have hge := grownCap_ge w ys.length 0 e;refine Bg.full hE (by simpa using hge) ?_ ?_
        · rw [Array.size_append, List.size_toArray, hnl, size_zeroCells, hzs, ← Nat.add_mul];dsimp only;congr 1;omega
        · simp only [List.nil_append, Array.toList_append];rw [List.take_left' (by simpa using hnl)]
      · have hnx : Builtin.nextslicecap (0 + ys.length) 0 ≤ 2 * (0 + ys.length) := nextslicecap_le z6;have hr := run_append_grow (P := P) w t ty e i z hU hi hz ad 0 0 [] Jy Jy ⟨b1, off1, none⟩ ys.length c' (Cw enc ys) hnl hnews z6 (by simp at hb2; omega) (Nat.le_trans (Nat.mul_le_mul_right _ hnx) (by simpa using hb));refine ⟨(some ⟨w.heap.size, 0, none⟩, grownCap w (0 + ys.length) 0 e, [(w.heap.size, _)]), _, Rx _ _ (by simpa using hr), Vv (Np (w := w.drew) _), ?_⟩;have hge := grownCap_ge w (0 + ys.length) 0 e;refine Bg.full hE (by simpa using hge) ?_ ?_
        · simp only [List.nil_append, Nat.zero_add] at hge ⊢;rw [Array.size_append, List.size_toArray, hnl, size_zeroCells, hzs, ← Nat.add_mul];congr 1;omega
        · simp only [List.nil_append, Array.toList_append];rw [List.take_left' (by simpa using hnl)]
    · have hh : w.heap[r]? = some (.cells cur e fz) := hw.own _ (hB _ List.mem_cons_self);by_cases hroom : xs.length + ys.length ≤ c
      · -- there is room
        have hr := Tv (P := P) (w := w) (ty := ty) t e i hU hi r xs.length c cur fz hh hfz ⟨b1, off1, none⟩ ys.length c' (Cw enc ys) hnl hnews (fS hE ys) hroom (by rw [hnl, h2, ← Nat.add_mul]; exact Nat.mul_le_mul_right _ hroom);refine ⟨(some ⟨r, 0, none⟩, c, [(r, _)]), _, Rx _ _ hr, sP hh, Bg.fullF ?_ (by simpa using hroom) ?_ ?_⟩
        · refine hfz.imp id fun h => Nat.le_trans (Nat.le_of_eq ?_) h
          have hle : xs.length * i.size + ys.length * i.size ≤ c * i.size := by rw [← Nat.add_mul]; exact Nat.mul_le_mul_right _ hroom
          simp only [List.size_toArray, List.length_append, List.length_take, List.length_drop, Array.length_toList, hnl, h2];omega
        · have hle : xs.length * i.size + ys.length * i.size ≤ c * i.size := by rw [← Nat.add_mul]; exact Nat.mul_le_mul_right _ hroom
          simp only [List.size_toArray, List.length_append, List.length_take, List.length_drop, Array.length_toList, hnl, h2];omega
        · have hle : xs.length * i.size ≤ c * i.size := Nat.mul_le_mul_right _ h1;have e1 : (cur.toList.take (xs.length * i.size)).length = xs.length * i.size := by simp [h2, Nat.min_eq_left hle]
          simp only [List.toList_toArray, List.length_append, Nat.add_mul];rw [List.take_left' (by rw [List.length_append, e1, hnl]), h3, Nn]
      · -- it grows
        have holds : ∀ j v, (Cw enc xs)[j]? = some v → w.cell? ((⟨r, 0, none⟩ : Addr).add j) = some v := by
          have hsx : Sl w enc i.size (some ⟨r, 0, none⟩) xs := Bg.sl hE (.inr ⟨r, cur, fz, rfl, rfl, hfz, h1, h2, h3⟩) (fun p hp => hw.own p (hB p hp));have := Sl.cells hE hsx xs.length (Nat.le_refl _)
          rwa [List.take_length] at this
        have hg : c < xs.length + ys.length := by omega
        have hnx : Builtin.nextslicecap (xs.length + ys.length) c ≤ 2 * (xs.length + ys.length) := nextslicecap_le hg;have hr := run_append_grow (P := P) w t ty e i z hU hi hz ⟨r, 0, none⟩ xs.length c (Cw enc xs) (Cp hE xs) holds ⟨b1, off1, none⟩ ys.length c' (Cw enc ys) hnl hnews hg z6 (Nat.le_trans (Nat.mul_le_mul_right _ hnx) hb);refine ⟨(some ⟨w.heap.size, 0, none⟩, grownCap w (xs.length + ys.length) c e, [(w.heap.size, _)]), _, Rx _ _ hr, (Vv (Np (w := w.drew) _)).weaken, ?_⟩;have hge := grownCap_ge w (xs.length + ys.length) c e;refine Bg.full hE (by simpa using hge) ?_ ?_
        · rw [Array.size_append, Array.size_append, List.size_toArray, List.size_toArray, hnl, Cp hE, size_zeroCells, hzs, ← Nat.add_mul, ← Nat.add_mul];dsimp only;congr 1;omega
        · simp only [Array.toList_append];rw [List.take_left' (by simp [hnl, Cp hE, Nat.add_mul]), Nn]

theorem pS {α : Type} {enc : α → List Value} {k : Nat} {z : Value} {x0 : α} (hE : Eb enc k) (hz : Ar z = enc x0) (n : Nat) : madeCells z.cells (n * k) = (Cw enc (List.replicate n x0)).toArray := by
  have hk := hE.pos;apply Array.ext';rw [Bh, hz];apply List.ext_getElem?;intro j;by_cases hj : j < n * k
  · have hi : j / k < n := (Nat.div_lt_iff_lt_mul hk).2 hj;have hm : j % k < (enc x0).length := by rw [hE.len]; exact Nat.mod_lt _ hk
    have h1 := Rw hE (List.replicate n x0) (j / k) x0 (by simp [hi]) (j % k) _ (List.getElem?_eq_getElem hm);have e2 : j / k * k + j % k = j := by rw [Nat.mul_comm]; exact Nat.div_add_mod j k
    rw [e2] at h1;rw [List.toList_toArray, h1];simp [madeCells, hj, hE.len, Nat.mod_lt _ hk]
  · rw [List.getElem?_eq_none (by simp [madeCells]; omega), List.getElem?_eq_none (by rw [List.toList_toArray, Cp hE]; simp; omega)]

theorem Bg.made {α : Type} {enc : α → List Value} {k : Nat} {e : TypeId} {z : Value} {x0 : α} {r n : Nat} (hE : Eb enc k) (hz : Ar z = enc x0) : Bg enc k e (some ⟨r, 0, none⟩) n [(r, .cells (madeCells z.cells (n * k)) e)] (List.replicate n x0) := by
  rw [pS hE hz];exact Bg.mk Jy rfl hE

theorem sR {α : Type} {enc : α → List Value} {k : Nat} {t e : TypeId} {x y : Operand} {v : Value} {a : Option Addr} {c o : Nat} {B : Ad} {xs : List α} (m : Nat) (u : α) (hS : ∀ w, (sizeOf t).run P w = .ok k w) (hE : Eb enc k) (ho : Bg enc k e a c B xs) (hB : ∀ p ∈ B, p ∈ L) (hm : m < xs.length)
    (hx : ev E x = some (.pointer (some (ea a o))) := by rfl) (hy : ev E y = some v := by rfl) (hv : Ar v = enc u := by rfl) (hoo : o = m * k := by first | rfl | omega) :
    cF P N D b0 Mk L E (.store t x y) ty B Ad (fun _ => .skip) (fun q => q) (fun q => Bg enc k e a c q (xs.set m u)) := by
  intro ac w ha hw;subst hoo;rcases ho with ⟨rfl, rfl, rfl⟩ | ⟨r, cur, fz, rfl, rfl, hfz, h1, h2, h3⟩
  · simp at hm
  · have hh : w.heap[r]? = some (.cells cur e fz) := hw.own _ (hB _ List.mem_cons_self);have hmk : m * k + k ≤ c * k := by
      have : (m + 1) * k ≤ c * k := Nat.mul_le_mul_right _ z6;rw [Nat.add_mul] at this; omega
    have hst := Ck (P := P) (r := r) (k := m * k) (T := e) (f := fz) (enc u) cur.toList 0 w (by simpa using hh) (by simpa using hfz) (hE.one u) (by rw [hE.len, Array.length_toList, h2]; omega);obtain ⟨w', g1, g2, g3, g4, g5, g6, g7⟩ := hst;refine ⟨[(r, .cells (Bv cur.toList (m * k) (enc u)).toArray e fz)], w', ?_, ⟨g5, g6, g7, by omega, fun j _ hj => g3 j (fun e => hj (by subst e; simp [keys])), fun p hp => ?_, fun p hp => .inl ?_, by simp [keys]⟩, ?_⟩
    · have he : ea (some ⟨r, 0, none⟩) (m * k) = ⟨r, m * k, none⟩ := by simp [ea]
      have hn : v.cells.size = k := by rw [Bh, hv]; simp [hE.len]
      simp [Bq, execOp, ha.eval hx, ha.eval hy, Instr.storeAt, Instr.sureAddr, storeVar, he, hS, hn];rw [show v.cells.toList = enc u by rw [Bh, hv], g1];rfl
    · have : p = (r, .cells (Bv cur.toList (m * k) (enc u)).toArray e fz) := by simpa using hp
      subst this;simpa using g2
    · have : p = (r, .cells (Bv cur.toList (m * k) (enc u)).toArray e fz) := by simpa using hp
      subst this;simp [keys]
    · have hset := setL_eq;refine Bg.fullF (by simpa [En] using hfz) (by simpa using h1) ?_ ?_
      · simp [En, h2]
      · rw [List.toList_toArray, hset _ _ _ (by rw [hE.len, Array.length_toList, h2]; omega), hE.len, List.length_set, fT hE xs m u hm, ← h3];have hxl : xs.length * k ≤ c * k := Nat.mul_le_mul_right _ h1;have hml : m * k + k ≤ xs.length * k := by
          have : (m + 1) * k ≤ xs.length * k := Nat.mul_le_mul_right _ z6;rw [Nat.add_mul] at this; omega
        have := fQ cur.toList (m * k) (xs.length * k) (enc u) (by rw [hE.len]; exact hml) (by simp only [Array.length_toList] at *; omega);rw [hE.len] at this;exact this

theorem cG {t e : TypeId} {x y y2 : Operand} {a : Option Addr} {n c : Nat} {i i2 : Int} {ki ki2 : IntKind} (m m2 : Nat) (hU : ∀ w, (underlying t).run P w = .ok (.slice e) w) (hS : ∀ w, ∃ q, (sizeOf e).run P w = .ok q w) (hm : m ≤ m2) (hm2 : m2 ≤ c) (hx : ev E x = some (.slice a n c) := by rfl) (hy : ev E y = some (.int ki i) := by rfl) (hy2 : ev E y2 = some (.int ki2 i2) := by rfl)
    (hi : i = (m : Int) := by first | rfl | omega) (hi2 : i2 = (m2 : Int) := by first | rfl | omega) :
    Cc P N D b0 Mk L E (.slice t x none (some y) (some y2)) ty (.slice a m m2) := fun ac w ha _ => by
  subst hi hi2;obtain ⟨q, hq⟩ := hS w;have e0 : (if m2 = 0 then a else Option.map (fun x => x.add 0) a) = a := by
    cases a with
    | none => simp
    | some ad => simp [Addr.add]
  simp [Bq, execOp, ha.eval hx, ha.eval hy, ha.eval hy2, Instr.sliceAt, hU, Instr.slice, Instr.sliceBounds, Instr.sliceBound, asIntOf, hm, hm2, hq, e0]

theorem L9 {t t' : TypeId} {x y : Operand} {u v : Value} {b : Bool} (h : ∀ w, (do eqGuard .eql t x y u v; binOp .eql t u v : Sem Value).run P w = .ok (.bool b) w) (hx : ev E x = some u := by rfl) (hy : ev E y = some v := by rfl) : Cc P N D b0 Mk L E (.binOp .eql t x y t') ty (.bool b) := fun ac w ha _ => by
  have := h w;simp only [Bq, execOp, ha.eval hx, ha.eval hy];simp only [Sem.run_bind] at this ⊢;rw [this];rfl

theorem M0 {x y : Operand} {p q : Int} {tys : Array TypeId} (hx : ev E x = some (.int .i64 p) := by rfl) (hy : ev E y = some (.int .i64 q) := by rfl) :
    Cc P N D b0 Mk L E (.call { callee := .builtin .min, args := #[x, y], argTypes := tys }) ty (.int .i64 (if q < p then q else p)) := fun ac w ha _ => by
  simp [Bq, execOp, resolve, invoke, builtin, Builtin.min_, ha.eval hx, ha.eval hy, Builtin.min2]
end
end Go.Proofs.YtbooaoddioibeaaGreatDoor.Jd

namespace Go.Proofs.YtbooaoddioibeaaGreatDoor.Jd
open Go.Proofs.Tryz
open Go.RowKit (Below)
set_option linter.unusedVariables false
set_option linter.unusedSimpArgs false
section
variable {P : Program} {rd : Option Nat} {b0 : World} {Mk : List Nat} {N : Nat} {D : List Deferred} {ops : Array Oper} {L V : Ad} {E : Dq} {T : Act → World → Prop}
variable {op : Op} {ty : TypeId} {pos : String} {after : Array Edge} {d : Nat}

theorem SH.base {w : World} (h : SH b0 Mk L w) {r : Nat} {o : Obj} (hb : b0.heap[r]? = some o) (hM : r ∉ Mk) : w.heap[r]? = some o := by
  rw [h.same r (Array.getElem?_eq_some_iff.1 hb).1 hM]; exact hb

theorem zS {t : TypeId} {x : Operand} {r k : Nat} {l : List Value} {T : TypeId} {f : Nat × Nat} {v : Value} (hA : ∀ w, (isAgg t).run P w = .ok false w) (hb : b0.heap[r]? = some (Obj.cells l.toArray T f)) (hx : ev E x = some (.pointer (some ⟨r, k, none⟩)) := by rfl)
    (hM : r ∉ Mk := by simp) (hv : sA l k = some v := by rfl) : Cc P N D b0 Mk L E (.load t x) ty v := fun a w ha hw => by
  have ho := hw.base hb hM;have hc : w.cell? ⟨r, k, none⟩ = some v := by rw [Em] at hv; simp [World.cell?, ho, hv]
  simp [Bq, execOp, ha.eval hx, Instr.loadAt, Instr.sureAddr, loadVar, hA, hc]

theorem Nq {t e : TypeId} {x y : Operand} {r o n c k : Nat} {i : Int} {ki : IntKind} (hU : ∀ w, (underlying t).run P w = .ok (.slice e) w) (hS : ∀ w, (sizeOf e).run P w = .ok k w) (m : Nat) (hx : ev E x = some (.slice (some ⟨r, o, none⟩) n c) := by rfl) (hy : ev E y = some (.int ki i) := by rfl)
    (hi : i = (m : Int) := by first | rfl | omega) (hm : m < n := by omega) : Cc P N D b0 Mk L E (.indexAddr t x y) ty (.pointer (some ⟨r, o + m * k, none⟩)) := fun a' w ha hw => by
  have _ := hw;subst hi;have hlt' : (m : Int) < (n : Int) := by omega
  simp [Bq, execOp, ha.eval hx, ha.eval hy, Instr.indexAt, asIntOf, hU, hS, hm, Ay]

theorem Xa {l : List Oper} {L' : Ad} (h : L = L') (k : JL P rd b0 Mk N D ops L' E l T) : JL P rd b0 Mk N D ops L E l T := h ▸ k

def sS {κ : Type} (enc : κ → Value) (es : Array MapEntry) (l : List (κ × Value)) : Prop := es.toList.map (fun e => (e.key, e.val)) = l.map fun p => (enc p.1, p.2)

theorem sS.nil {κ : Type} {enc : κ → Value} : sS enc #[] [] := rfl

end
section
variable {P : Program} {rd : Option Nat} {b0 : World} {Mk : List Nat} {N : Nat} {D : List Deferred} {ops : Array Oper} {L V : Ad} {E : Dq} {T : Act → World → Prop}
variable {op : Op} {ty : TypeId} {pos : String} {after : Array Edge} {d : Nat}

theorem Jk.lit {α : Type} {enc : α → List Value} {k : Nat} {r : Nat} {l : List Value} {T : TypeId} {xs : List α} (hE : Eb enc k) (hl : l = Cw enc xs := by rfl)
    (hm : (r, Obj.cells l.toArray T) ∈ L := by repeat (first | exact List.mem_cons_self | apply List.mem_cons_of_mem | apply List.mem_append_right)) : Jk b0 Mk L enc k (some ⟨r, 0, none⟩) xs := fun w hw =>
  Bg.sl (e := T) (c := xs.length) (B := [(r, Obj.cells l.toArray T)]) hE (Bg.mk rfl hl hE) (fun p hp => by
    have : p = (r, Obj.cells l.toArray T) := by simpa using hp
    subst this;exact hw.own _ hm)

theorem Bw {α : Type} {enc : α → List Value} {kk by_ : Nat} {t e : TypeId} {z : Value} {x y : Operand} {a a' : Option Addr} {c c' n m : Nat} {B R : Ad} {xs ys : List α} {l : List Oper} (zs : List α) (hz : xs ++ ys = zs) (hT : Ty P e kk by_ z) (hU : P.underlying t = some (.slice e)) (hE : Eb enc kk) (ho : Bg enc kk e a c B xs)
    (hL : List.Perm L (B ++ R)) (hs : Jk b0 Mk L enc kk a' ys) (hb : 2 * (n + m) * by_ ≤ 281474976710656 ∧ n + m ≤ 4611686018427387904) (hx : ev E x = some (.slice a n c) := by rfl) (hy : ev E y = some (.slice a' m c') := by rfl) (hn : xs.length = n := by rfl) (hm : ys.length = m := by rfl)
    (hd : Nat.blt d N = true := by rfl)
    (k : ∀ a2 c2 B2, Bg enc kk e a2 c2 B2 zs → JL P rd b0 Mk N D ops (B2 ++ R) ((d, .slice a2 zs.length c2) :: E) l T) :
    JL P rd b0 Mk N D ops L E ({ dst := some d, op := .call { callee := .builtin .append, args := #[x, y], argTypes := #[t, t] }, type := ty, pos := pos, after := after, guard := none } :: l) T := by
  subst hz;refine zR hL (sQ hT hU hE ho hs (fun p hp => hL.mem_iff.2 (List.mem_append_left _ hp)) hn hm hb.1 hb.2 hx hy) rfl hd (fun q hq => ?_);have := k q.1 q.2.1 q.2.2 hq;rw [List.length_append, hn, hm] at this;exact this

theorem pT {α : Type} {enc : α → List Value} {kk : Nat} {t e : TypeId} {x y : Operand} {v : Value} {a : Option Addr} {c o : Nat} {B R : Ad} {xs : List α} {l : List Oper} (m : Nat) (u : α) (hS : ∀ w, (sizeOf t).run P w = .ok kk w) (hE : Eb enc kk) (ho : Bg enc kk e a c B xs) (hL : List.Perm L (B ++ R)) (hm : m < xs.length)
    (hx : ev E x = some (.pointer (some (ea a o))) := by rfl) (hy : ev E y = some v := by rfl) (hv : Ar v = enc u := by rfl) (hoo : o = m * kk := by first | rfl | omega)
    (k : ∀ B2, Bg enc kk e a c B2 (xs.set m u) → JL P rd b0 Mk N D ops (B2 ++ R) E l T) :
    JL P rd b0 Mk N D ops L E ({ dst := none, op := .store t x y, type := ty, pos := pos, after := after, guard := none } :: l) T :=
  AD6 hL (sR m u hS hE ho (fun p hp => hL.mem_iff.2 (List.mem_append_left _ hp)) hm hx hy hv hoo) rfl k

end
end Go.Proofs.YtbooaoddioibeaaGreatDoor.Jd

namespace Go.Proofs.YtbooaoddioibeaaGreatDoor.Jd
open Go.Proofs.Tryz
open Go.RowKit (Below)
set_option linter.unusedVariables false
set_option linter.unusedSimpArgs false

theorem Cz {P : Program} {b : Frame} {a : Act} {k : List Item} {cs : List Frame} {w : World} {c : Code} : step P (lone (b.atR a (.code (.scope c) :: k)) cs w) = .next (lone (b.atR a (.code c :: .inScope c :: k)) cs w) :=
  step_lone_go (by simp [stepG, stepG.exec, Frame.atR])
theorem Qk {P : Program} {b : Frame} {a : Act} {k : List Item} {cs : List Frame} {w : World} {c : Code} : step P (lone (b.atR a (.inScope c :: k)) cs w) = .next (lone (b.atR a k) cs w) :=
  step_lone_go (by simp [stepG, stepG.exec, Frame.atR])

section
variable {P : Program} {rd : Option Nat} {b0 : World} {Mk : List Nat} {N : Nat} {D : List Deferred} {ops : Array Oper} {L V : Ad} {E : Dq} {T : Act → World → Prop} {Q : Exit → Act → World → Prop}
variable {op : Op} {ty : TypeId} {pos : String} {after : Array Edge} {d : Nat}

theorem mU {c : Code} (h : J P rd b0 Mk N D L E c (Exit.noGoto Q)) : J P rd b0 Mk N D L E (Code.scope c) Q := by
  intro a w ha hw b k cs hro hb hr;have h0 : (lone (b.atR a (.code (.scope c) :: k)) cs w).fenced P (FW rd) := fenced_calm hb hr rfl;obtain ⟨e, a₁, w₁, hq, harr⟩ := h a w ha hw b (.inScope c :: k) cs hro hb hr;cases e with
  | normal => exact ⟨.normal, a₁, w₁, hq, .head h0 Cz (StepsIn.trans harr (.one (fenced_calm hb hr rfl) Qk))⟩
  | goto l => exact hq.elim
  | exit id => exact ⟨_, a₁, w₁, hq, .of_steps (.one h0 Cz) (e := .exit id) ⟨fun k' hk => harr.1 k' (by simpa [exitTo] using hk), fun hr hk => harr.2 hr (by simpa [exitTo] using hk)⟩⟩
  | ret => exact ⟨_, a₁, w₁, hq, .of_steps (.one h0 Cz) harr⟩
  | panic ch => exact ⟨_, a₁, w₁, hq, .of_steps (.one h0 Cz) harr⟩
  | outgrown => exact ⟨_, a₁, w₁, hq, .of_steps (.one h0 Cz) harr⟩
theorem fU (h : JX b0 Mk N D L E Q .normal) : JX b0 Mk N D L E (Exit.noGoto Q) .normal := h
theorem Bc {f : Operand} {l : List Operand} {tys : Array TypeId} {k : FuncId} {fs cs vs args : List Value} (hc : ∀ args w, (callFunc k args).run P w = .ok (.enter k args) w)
    (hf : ev E f = some (.func (.func k) fs.toArray cs.toArray) := by rfl) (ha : evs E l = some vs := by rfl) (he : fs ++ vs ++ cs = args := by rfl) :
    bU P N D b0 Mk L E (.call { callee := .value f, args := l.toArray, argTypes := tys }) ty k args := he ▸ O7 hc hf ha

def sT (B : Ad) {α : Type} (enc : α → List Value) (k : Nat) (a : Option Addr) (xs : List α) : Prop := ∀ w : World, (∀ p ∈ B, w.heap[p.1]? = some p.2) → Sl w enc k a xs

theorem sT.slj {B : Ad} {α : Type} {enc : α → List Value} {k : Nat} {a : Option Addr} {xs : List α} (h : sT B enc k a xs) (hB : ∀ p ∈ B, p ∈ L := by intro p hp; repeat (first | exact hp | exact List.mem_append_left _ hp | apply List.mem_append_right | apply List.mem_cons_of_mem)) : Jk b0 Mk L enc k a xs :=
  fun w hw => h w fun p hp => hw.own p (hB p hp)
theorem sT.mono {B B' : Ad} {α : Type} {enc : α → List Value} {k : Nat} {a : Option Addr} {xs : List α} (h : sT B enc k a xs) (hB : ∀ p ∈ B, p ∈ B') : sT B' enc k a xs :=
  fun w hw => h w fun p hp => hw p (hB p hp)
theorem sT.nil {B : Ad} {α : Type} {enc : α → List Value} {k : Nat} {a : Option Addr} : sT B enc k a [] := fun _ _ => Sl.nil
theorem Sl.none {α : Type} {enc : α → List Value} {k : Nat} {xs : List α} {w : World} (h : Sl w enc k none xs) : xs = [] := by
  cases xs with
  | nil => rfl
  | cons x r => obtain ⟨b, off, h1, _⟩ := h 0 x rfl; cases h1

theorem Sl.lt {w : World} {α : Type} {enc : α → List Value} {k : Nat} {p : Addr} {xs : List α} (h : Sl w enc k (some p) xs) (hE : Eb enc k) (hx : xs ≠ []) : p.block < w.heap.size := by
  cases xs with
  | nil => exact absurd rfl hx
  | cons x r =>
    obtain ⟨b, off, h1, _, h3⟩ := h 0 x rfl;have e1 := Option.some.inj h1;have hp : 0 < (enc x).length := by rw [hE.len]; exact hE.pos
    have hc := h3 0 _ (List.getElem?_eq_getElem hp);have := World.block_lt_of_cell? w _ hc;rw [e1]; exact this
theorem P0 {α : Type} {enc : α → List Value} {k by_ : Nat} {t e : TypeId} {z : Value} {x y : Operand} {a a' : Option Addr} {c c' n : Nat} {B : Ad} {xs ys : List α} (hT : Ty P e k by_ z) (hU : P.underlying t = some (.slice e)) (hE : Eb enc k) (ho : Bg enc k e a c B xs)
    (hs : Jk b0 Mk L enc k a' ys) (hB : ∀ p ∈ B, p ∈ L) (hn : xs.length = n) (hm : ys.length = n) (hx : ev E x = some (.slice a n c) := by rfl) (hy : ev E y = some (.slice a' n c') := by rfl) :
    cF P N D b0 Mk L E (.call { callee := .builtin .copy, args := #[x, y], argTypes := #[t, t] }) ty B Ad (fun _ => .value (.int .i64 n)) (fun q => q) (fun q => Bg enc k e a c q ys) := by
  intro ac w ha hw;obtain ⟨i, hi, rfl, rfl, hz⟩ := hT.ex;have Rx : ∀ (v' : Value) (w' : World), (Builtin.copy_ #[t, t] ty #[.slice a n c, .slice a' n c']).run P w = .ok v' w' →
      (execOp ac.eval (Bq (.call { callee := .builtin .copy, args := #[x, y], argTypes := #[t, t] }) ty)).run P w = .ok (.value v') w' := fun v' w' h => by
    simp [Bq, execOp, resolve, invoke, builtin, ha.eval hx, ha.eval hy, h]
  have hsl := hs w hw;have hmin : Nat.min n n = n := Nat.min_self n;rcases ho with ⟨rfl, rfl, rfl⟩ | ⟨r, cur, fz, rfl, rfl, hfz, h1, h2, h3⟩
  · simp at hn; subst hn;have : ys = [] := List.length_eq_zero_iff.1 hm;subst this;refine ⟨[], w, Rx _ _ ?_, Tr.refl (fun _ h => by cases h) (by simp [keys]), Bg.nil⟩;rcases a with _ | ad <;> rcases a' with _ | ad' <;> simp [Builtin.copy_, run_underlying hU, Builtin.lenOf, Builtin.firstCells, sizeOf, typeInfo, hi, loadCells, loadCellsFrom, storeCells, goInt]
  · have hh : w.heap[r]? = some (.cells cur e fz) := hw.own _ (hB _ List.mem_cons_self);have hfl := Cp hE ys;have hle : n * i.size ≤ c * i.size := Nat.mul_le_mul_right _ z6;have hst := Fo P r 0 e fz (Cw enc ys) 0 cur w hh hfz (by rw [hfl, hm]; omega) (fS hE ys);refine ⟨[(r, .cells (cur.toList.take (0 + 0) ++ Cw enc ys ++ cur.toList.drop (0 + 0 + (Cw enc ys).length)).toArray e fz)], _, Rx _ _ ?_, sP hh, Bg.fullF ?_ z6 ?_ ?_⟩
    · rcases a' with _ | ad
      · have : ys = [] := Sl.none hsl;subst this;have hn0 : n = 0 := by simpa using hm.symm
        subst hn0;simp only [Cw, List.map_nil, List.flatten_nil] at hst ⊢;simp [Builtin.copy_, run_underlying hU, Builtin.lenOf, Builtin.firstCells, sizeOf, typeInfo, hi, hst, goInt]
      · have hl : (loadCells ad (n * i.size)).run P w = .ok (Cw enc ys).toArray w := by
          rw [← hm, ← hfl];have := Sl.cells hE hsl ys.length (Nat.le_refl _);rw [List.take_length] at this;exact run_loadCells_list w ad _ this
        simp [Builtin.copy_, run_underlying hU, Builtin.lenOf, Builtin.firstCells, sizeOf, typeInfo, hi, hmin, hl, hst, goInt]
    · refine hfz.imp id fun h => Nat.le_trans (Nat.le_of_eq ?_) h
      simp [hfl, hm, h2]; omega
    · simp [hfl, hm, h2]; omega
    · simp only [Nat.add_zero, List.take_zero, List.nil_append, Nat.zero_add];rw [List.take_left' (by rw [hfl])]
theorem zT {α : Type} {enc : α → List Value} {k by_ : Nat} {t e : TypeId} {z : Value} {x y : Operand} {a a' : Option Addr} {c c' n : Nat} {B R : Ad} {xs ys : List α} {l : List Oper} (hT : Ty P e k by_ z) (hU : P.underlying t = some (.slice e)) (hE : Eb enc k) (ho : Bg enc k e a c B xs)
    (hL : List.Perm L (B ++ R)) (hs : Jk b0 Mk L enc k a' ys) (hn : xs.length = n) (hm : ys.length = n) (hx : ev E x = some (.slice a n c) := by rfl) (hy : ev E y = some (.slice a' n c') := by rfl)
    (hd : Nat.blt d N = true := by rfl)
    (kk : ∀ B2, Bg enc k e a c B2 ys → JL P rd b0 Mk N D ops (B2 ++ R) ((d, .int .i64 n) :: E) l T) :
    JL P rd b0 Mk N D ops L E ({ dst := some d, op := .call { callee := .builtin .copy, args := #[x, y], argTypes := #[t, t] }, type := ty, pos := pos, after := after, guard := none } :: l) T :=
  zR hL (P0 hT hU hE ho hs (fun p hp => hL.mem_iff.2 (List.mem_append_left _ hp)) hn hm hx hy) rfl hd (fun q hq => kk q hq)
end
theorem Bg.le {α : Type} {enc : α → List Value} {k : Nat} {e : TypeId} {a : Option Addr} {c : Nat} {B : Ad} {xs : List α} (h : Bg enc k e a c B xs) : xs.length ≤ c := by
  rcases h with ⟨_, _, rfl⟩ | ⟨_, _, _, _, _, _, h, _, _⟩
  · simp
  · exact h
theorem sT.take {B : Ad} {α : Type} {enc : α → List Value} {k : Nat} {a : Option Addr} {xs : List α} (h : sT B enc k a xs) (n : Nat) : sT B enc k a (xs.take n) := fun w hw i x hx => h w hw i x (by
  rw [List.getElem?_take] at hx;split at hx
  · exact hx
  · cases hx)
theorem sU (A B C : Ad) : List.Perm (A ++ (B ++ C)) (B ++ (A ++ C)) := by
  rw [← List.append_assoc, ← List.append_assoc]; exact List.perm_append_comm.append_right _
end Go.Proofs.YtbooaoddioibeaaGreatDoor.Jd

namespace Go.Proofs.YtbooaoddioibeaaGreatDoor.Jd
open Go.Proofs.Tryz
open Go.ChangeShapes Go.WideShapes Go.ChangeAt Go.RowKit
set_option linter.unusedVariables false
set_option linter.unusedSimpArgs false
section
variable {H : Type} {encH : TypeId × Value → H} {P : Program} {W W' : World}

theorem Ql (hl : laidOutB P = true) {sp : Nat → Bool} (hb : Below W.heap.size W W') : ∀ {ts : List TypeId} {vs : List Value} {ds : List (DataW H)} {ps : List MemPlace}, (ts.all fun t => P.readableRec t && decide (t < P.types.size)) = true →
    DataW.TrodAll encH P W 0 (fun _ => true) true ts vs ds ps → (∀ x ∈ ps, x.block < W.heap.size) → (∀ x ∈ ps, sp x.block = true) → DataW.TrodAll encH P W' 0 sp true ts vs ds ps
  | [], [], [], _, _, h, _, _ => h
  | t :: ts, v :: vs, d :: ds, ps, hr, h, hlt, hsp => by
    obtain ⟨p, q, h1, h2, rfl⟩ := h;simp only [List.all_cons, Bool.and_eq_true, decide_eq_true_eq] at hr;exact ⟨p, q, WideElems.Trod_stays hl hr.1.1 hr.1.2 h1 (fun x hx => hb.same (hlt x (List.mem_append_left _ hx))) (fun x hx => hsp x (List.mem_append_left _ hx)),
      Ql hl hb hr.2 h2 (fun x hx => hlt x (List.mem_append_right _ hx)) (fun x hx => hsp x (List.mem_append_right _ hx)), rfl⟩
  | [], _ :: _, _, _, _, h, _, _ => by cases h
  | [], [], _ :: _, _, _, h, _, _ => by cases h
  | _ :: _, [], _, _, _, h, _, _ => by cases h
  | _ :: _, _ :: _, [], _, _, h, _, _ => by cases h

theorem Xb {sp : Nat → Bool} {b : Nat} {hd : Bool} : ∀ {ts : List TypeId} {vs : List Value} {ds : List (DataW H)} {ps : List MemPlace}, DataW.TrodAll encH P W b sp hd ts vs ds ps → ds.length = ts.length
  | [], [], [], _, _ => rfl
  | t :: ts, v :: vs, d :: ds, ps, h => by
    obtain ⟨p, q, _, h2, _⟩ := h;simp [Xb h2]
  | [], _ :: _, _, _, h => by cases h
  | [], [], _ :: _, _, h => by cases h
  | _ :: _, [], _, _, h => by cases h
  | _ :: _, _ :: _, [], _, h => by cases h
theorem AD7 {f : Func} {s : ChangeSpec} {args : Array Value} {ds gs : List (DataW H)} {before : List MemPlace} {tb : TypeId} (hl : laidOutB P = true) (hr : (f.params.toList.all fun t => P.readableRec t && decide (t < P.types.size)) = true)
    (hrt : f.resultTypes = #[tb]) (hb : P.underlying tb = some .bool) (hvars : s.vars = []) (hfn : ∀ ds : List (DataW H), ds.length = f.params.toList.length → (s.fn H ds).results = [.lit (.bool true)] ∧ (s.fn H ds).args = ds ∧ (s.fn H ds).vars = [])
    (hW : DataW.Whole encH P f.params.toList s.vars false W args.toList ds gs before) (hE : jW W W') : s.post encH P f false true false false W args (.bool true) W' := by
  have hW' := hW;obtain ⟨p, q, hA, hV, hps, hz, hn⟩ := hW;rw [hvars] at hV;obtain ⟨rfl, rfl⟩ := trodVars_none hV;rw [List.append_nil] at hps;subst hps;have hlen := Xb hA;obtain ⟨e1, e2, e3⟩ := hfn ds hlen;have hlt : ∀ x ∈ before, x.block < W.heap.size := fun x hx => by simpa using hW'.lt x hx
  refine ⟨ds, [], before, [], before, [], hW', ?_, ?_, ?_, hE.frame _, fun h => by cases h⟩
  · rw [List.append_nil, e1, hrt];exact trodAll_cons_mk (shut_bool hb _) trodAll_mk0
  · rw [List.append_nil, e2];exact Ql hl hE hr hA hlt (fun x hx => by simpa using hlt x hx)
  · rw [List.append_nil, e3, hvars];exact rfl
end
end Go.Proofs.YtbooaoddioibeaaGreatDoor.Jd

namespace Go.Proofs.YtbooaoddioibeaaGreatDoor.Jd
open Go.Proofs.Tryz
open Go.RowKit (Below)
set_option linter.unusedVariables false
set_option linter.unusedSimpArgs false

def Is {α : Type} (a b : α) : Prop := a = b
theorem Is.refl {α : Type} (a : α) : Is a a := rfl
theorem Is.eq {α : Type} {a b : α} (h : Is a b) : a = b := h
theorem Is.pos {α : Type} {a x y : α} {c : Prop} {i : Decidable c} (h : Is a (@ite α c i x y)) (hc : c) : Is a x := Eq.trans h (if_pos hc)
theorem Is.neg {α : Type} {a x y : α} {c : Prop} {i : Decidable c} (h : Is a (@ite α c i x y)) (hc : ¬ c) : Is a y := Eq.trans h (if_neg hc)
theorem Is.t {α : Type} {a x y : α} {b : Bool} {i : Decidable (b = true)} (h : Is a (@ite α (b = true) i x y)) (hc : b = true) : Is a x := Eq.trans h (if_pos hc)
theorem Is.f {α : Type} {a x y : α} {b : Bool} {i : Decidable (b = true)} (h : Is a (@ite α (b = true) i x y)) (hc : b = false) : Is a y := Eq.trans h (if_neg (by rw [hc]; exact Bool.noConfusion))
theorem Is.to {α : Type} {a b c : α} (h : Is a b) (k : b = c) : Is a c := Eq.trans h k
def AD8 {γ ε : Type} (x : Except ε Unit) (f : ε → γ) (g : γ) : γ := match x with | .error e => f e | .ok _ => g 
theorem Is.ok0 {γ ε : Type} {A : γ} {x : Except ε Unit} {f : ε → γ} {g : γ} (h : Is A (AD8 x f g)) (hx : Is x (.ok ())) : Is A (g ) := by cases hx; exact h
def Rx {α1 γ : Type} (v : α1) (g : α1 → γ) : γ := g v
theorem Is.rn1 {α1 γ : Type} {A : γ} {x : α1} {g : α1 → γ} {u1 : α1} (h : Is A (Rx x g)) (hx : Is x u1) : Is A (g u1) := by cases hx; exact h
def cH {α1 α2 γ : Type} (v : (α1 × α2)) (g : α1 → α2 → γ) : γ := g v.1 v.2
theorem Is.rn2 {α1 α2 γ : Type} {A : γ} {x : (α1 × α2)} {g : α1 → α2 → γ} {u1 : α1} {u2 : α2} (h : Is A (cH x g)) (hx : Is x (u1, u2)) : Is A (g u1 u2) := by cases hx; exact h
def P1 {α1 α2 α3 γ : Type} (v : (α1 × α2 × α3)) (g : α1 → α2 → α3 → γ) : γ := g v.1 v.2.1 v.2.2
theorem Is.rn3 {α1 α2 α3 γ : Type} {A : γ} {x : (α1 × α2 × α3)} {g : α1 → α2 → α3 → γ} {u1 : α1} {u2 : α2} {u3 : α3} (h : Is A (P1 x g)) (hx : Is x (u1, u2, u3)) : Is A (g u1 u2 u3) := by cases hx; exact h
def P2 {α1 α2 α3 α4 α5 α6 α7 α8 α9 γ : Type} (v : (α1 × α2 × α3 × α4 × α5 × α6 × α7 × α8 × α9)) (g : α1 → α2 → α3 → α4 → α5 → α6 → α7 → α8 → α9 → γ) : γ := g v.1 v.2.1 v.2.2.1 v.2.2.2.1 v.2.2.2.2.1 v.2.2.2.2.2.1 v.2.2.2.2.2.2.1 v.2.2.2.2.2.2.2.1 v.2.2.2.2.2.2.2.2
theorem Is.rn9 {α1 α2 α3 α4 α5 α6 α7 α8 α9 γ : Type} {A : γ} {x : (α1 × α2 × α3 × α4 × α5 × α6 × α7 × α8 × α9)} {g : α1 → α2 → α3 → α4 → α5 → α6 → α7 → α8 → α9 → γ} {u1 : α1} {u2 : α2} {u3 : α3} {u4 : α4} {u5 : α5} {u6 : α6} {u7 : α7} {u8 : α8} {u9 : α9} (h : Is A (P2 x g)) (hx : Is x (u1, u2, u3, u4, u5, u6, u7, u8, u9)) : Is A (g u1 u2 u3 u4 u5 u6 u7 u8 u9) := by cases hx; exact h
set_option linter.unusedVariables false
section
variable {P : Program} {rd : Option Nat} {b0 : World} {Mk : List Nat} {N : Nat} {D : List Deferred} {ops : Array Oper} {L V : Ad} {E : Dq} {T : Act → World → Prop} {Q : Exit → Act → World → Prop}
def Kb (P : Program) (rd : Option Nat) (c : Code) (Q : Exit → Act → World → Prop) (a : Act) (w : World) : Prop :=
  ∀ (b : Frame) (k : List Item) (cs : List Frame), b.roundOf = (FW rd).round → (FW rd).fn b.fn → (FW rd).room (cs.length + 1 + 0) →
    ∃ e a' w', Q e a' w' ∧ ArrivesIn (Machine.fenced P (FW rd)) P (lone (b.atR a (.code c :: .inLoop c :: k)) cs w) b k cs e a' w'
def mV (P : Program) (rd : Option Nat) (c : Code) (Q : Exit → Act → World → Prop) : Exit → Act → World → Prop := Exit.then (Kb P rd c Q) Q
theorem Xc {c : Code} (h : J P rd b0 Mk N D L E c (mV P rd c Q)) : JX b0 Mk N D L E (mV P rd c Q) .normal := by
  intro a w ha hw b k cs hro hb hr;obtain ⟨e, a₁, w₁, hq, harr⟩ := h a w ha hw b (.inLoop c :: k) cs hro hb hr;cases e with
  | normal =>
    obtain ⟨e₂, a₂, w₂, hq₂, harr₂⟩ := hq b k cs hro hb hr;exact ⟨e₂, a₂, w₂, hq₂, .of_steps (StepsIn.trans harr (.one (fenced_calm hb hr rfl) stepR_inLoop)) harr₂⟩
  | exit id => exact ⟨_, a₁, w₁, hq, .pass (x := .inLoop c) rfl (fun _ _ => .inl Jy) harr⟩
  | goto l => exact ⟨_, a₁, w₁, hq, .pass (x := .inLoop c) rfl (fun _ _ => .inl Jy) harr⟩
  | ret => exact ⟨_, a₁, w₁, hq, .pass (x := .inLoop c) rfl (fun _ _ => .inl Jy) harr⟩
  | panic ch => exact ⟨_, a₁, w₁, hq, .pass (x := .inLoop c) rfl (fun _ _ => .inl Jy) harr⟩
  | outgrown => exact ⟨_, a₁, w₁, hq, .pass (x := .inLoop c) rfl (fun _ _ => .inl Jy) harr⟩
theorem Xd {c : Code} (h : J P rd b0 Mk N D L E c (mV P rd c Q)) : J P rd b0 Mk N D L E (Code.loop c) Q := by
  intro a w ha hw b k cs hro hb hr;obtain ⟨e, a', w', hq, harr⟩ := Xc h a w ha hw b k cs hro hb hr;exact ⟨e, a', w', hq, .of_steps (.one (fenced_calm hb hr rfl) stepR_loop) harr⟩

variable {op : Op} {ty : TypeId} {pos : String} {after : Array Edge} {d : Nat}
def zU (N : Nat) (D : List Deferred) (E : Dq) (K : Act → World → Prop) (d : Nat) : Ending → World → Prop := fun e w' => ∃ v, e = .returned v ∧ ∀ a, Bl N D E a → K (a.put (some d) v) w'

theorem Xe {f : FuncId} {fn : Func} {c : Code} {args : List Value} {N' : Nat} {R : Ending → World → Prop} {w : World} (hw : SH b0 Mk L w) (hf : P.funcs[f]? = some fn) (hN : fn.ntmps = N') (hb : fn.body = some c) (ha : Nat.ble args.length N' = true)
    (h : J P none b0 Mk N' [] L (Ms 0 args) c (bodyPost P fn R)) : Calls P f args.toArray w R := by
  subst hN;exact callsIn_wide.1 (callsIn_of_wp (F := FW none) (n := 0) hf hb trivial (h _ w (Hf args ha) hw))
theorem Lf {l : List Oper} {f : FuncId} {fn : Func} {c : Code} {args : List Value} {N' : Nat} (hc : bU P N D b0 Mk L E op ty f args) (hf : P.funcs[f]? = some fn) (hN : fn.ntmps = N')
    (h : J P none b0 Mk N' [] L (Ms 0 args) c (bodyPost P fn (zU N D E (Pk P rd ops T l) d))) (hb : fn.body = some c := by rfl) (ha : Nat.ble args.length N' = true := by rfl) (hn : Bf op = true := by rfl) :
    JL P rd b0 Mk N D ops L E ({ dst := some d, op := op, type := ty, pos := pos, after := after, guard := none } :: l) T := by
  intro a w ha0 hw;unfold Pk;rw [if_pos (by rfl)];refine Gs (Bm hn) (by rw [Bi]; exact hc a w ha0 hw) ((Xe hw hf hN hb ha h).mono fun e w' he => ?_);obtain ⟨v, rfl, hk⟩ := he;exact ⟨v, rfl, hk a ha0⟩
theorem cI {l : List (Bool × Oper)} {f : FuncId} {fn : Func} {c : Code} {args : List Value} {N' : Nat} (hc : bU P N D b0 Mk (V ++ L) E op ty f args) (hf : P.funcs[f]? = some fn) (hN : fn.ntmps = N')
    (h : J P none b0 Mk N' [] (V ++ L) (Ms 0 args) c (bodyPost P fn (zU N D E (fun a' w' => ∃ S' : World → Prop, (∀ x, S' x → SH b0 Mk L x) ∧ S' w' ∧ Zb P rd ops T S' l a' w') d))) (hb : fn.body = some c := by rfl) (ha : Nat.ble args.length N' = true := by rfl) (hn : Bf op = true := by rfl) :
    JD P rd b0 Mk N D ops L V E ((false, { dst := some d, op := op, type := ty, pos := pos, after := after, guard := none }) :: l) T := by
  intro a w ha0 hw;unfold Zb;rw [if_pos (by rfl)];refine Gs (Bm hn) (by rw [Bi]; exact hc a w ha0 hw) ((Xe hw hf hN hb ha h).mono fun e w' he => ?_);obtain ⟨v, rfl, hk⟩ := he;exact ⟨v, rfl, hk a ha0⟩
theorem Pl {l : List Oper} {fn : Func} {N' : Nat} {E' : Dq} {ops' : Array Oper} {rd' : Option Nat} {D' : List Deferred} {T' : Act → World → Prop} {rs : List ResultVar} {vs : List Value} (hr : fn.results = rs.toArray) (h : Mt P L E' rs vs) (k : JL P rd' b0 Mk N D' ops' L ((d, Nk vs) :: E) l T') (hd : Nat.blt d N = true := by rfl) :
    JX b0 Mk N' [] L E' (bodyPost P fn (zU N D' E (Pk P rd' ops' T' l) d)) .ret :=
  fun _ w ha hw => ⟨ha.defs, _, Eo hr h ha hw, _, rfl, fun a' ha' => k _ _ (ha'.put hd _) hw⟩
theorem fV {l : List (Bool × Oper)} {fn : Func} {N' : Nat} {E' : Dq} {ops' : Array Oper} {rd' : Option Nat} {D' : List Deferred} {T' : Act → World → Prop} {L0 : Ad} {rs : List ResultVar} {vs : List Value} (L' V' : Ad) (hr : fn.results = rs.toArray) (h : Mt P L E' rs vs) (hp : List.Perm L (V' ++ L')) (hs : List.Sublist L0 L')
    (k : JD P rd' b0 Mk N D' ops' L' V' ((d, Nk vs) :: E) l T') (hd : Nat.blt d N = true := by rfl) :
    JX b0 Mk N' [] L E' (bodyPost P fn (zU N D' E (fun a' w' => ∃ S' : World → Prop, (∀ x, S' x → SH b0 Mk L0 x) ∧ S' w' ∧ Zb P rd' ops' T' S' l a' w') d)) .ret :=
  fun _ w ha hw => ⟨ha.defs, _, Eo hr h ha hw, _, rfl, fun a' ha' => ⟨SH b0 Mk L', fun _ hx => hx.sub hs, (hw.perm hp).right, k _ _ (ha'.put hd _) (hw.perm hp)⟩⟩
theorem Vw {l : List Oper} {fn : Func} {N' : Nat} {E' : Dq} {ops' : Array Oper} {rd' : Option Nat} {D' : List Deferred} {T' : Act → World → Prop} {rs : List ResultVar} {vs : List Value} (hr : fn.results = rs.toArray) (h : Mt P L E' rs vs) (k : JL P rd' b0 Mk N D' ops' L ((d, Nk vs) :: E) l T') (hd : Nat.blt d N = true := by rfl) :
    JX b0 Mk N' [] L E' (bodyPost P fn (zU N D' E (Pk P rd' ops' T' l) d)) .normal :=
  fun _ w ha hw => ⟨ha.defs, _, Eo hr h ha hw, _, rfl, fun a' ha' => k _ _ (ha'.put hd _) hw⟩
theorem fW {l : List (Bool × Oper)} {fn : Func} {N' : Nat} {E' : Dq} {ops' : Array Oper} {rd' : Option Nat} {D' : List Deferred} {T' : Act → World → Prop} {L0 : Ad} {rs : List ResultVar} {vs : List Value} (L' V' : Ad) (hr : fn.results = rs.toArray) (h : Mt P L E' rs vs) (hp : List.Perm L (V' ++ L')) (hs : List.Sublist L0 L')
    (k : JD P rd' b0 Mk N D' ops' L' V' ((d, Nk vs) :: E) l T') (hd : Nat.blt d N = true := by rfl) :
    JX b0 Mk N' [] L E' (bodyPost P fn (zU N D' E (fun a' w' => ∃ S' : World → Prop, (∀ x, S' x → SH b0 Mk L0 x) ∧ S' w' ∧ Zb P rd' ops' T' S' l a' w') d)) .normal :=
  fun _ w ha hw => ⟨ha.defs, _, Eo hr h ha hw, _, rfl, fun a' ha' => ⟨SH b0 Mk L', fun _ hx => hx.sub hs, (hw.perm hp).right, k _ _ (ha'.put hd _) (hw.perm hp)⟩⟩
def fX (N : Nat) (ops : Array Oper) : List Oper → Nat → Dq → Option Dq
  | _, 0, E => some E
  | [], _ + 1, _ => none
  | o :: l, n + 1, E => match o.guard, o.dst with
    | some (g, b), some d => match (ops[g]?).bind (·.dst) with
      | some t => match Nat.blt t N && Nat.blt d N, look E t with
        | true, some u => match mP u b with
          | false => fX N ops l n ((d, undef) :: E)
          | true => none
        | _, _ => none
      | none => none
    | _, _ => none

theorem fY : ∀ (n : Nat) {l : List Oper} {E E' : Dq} (_ : fX N ops l n E = some E') (_ : JL P rd b0 Mk N D ops L E' (l.drop n) T), JL P rd b0 Mk N D ops L E l T
  | 0, l, E, E', h, k => by
    have h : E = E' := Option.some.inj (by simpa [fX] using h);subst h; exact k
  | n + 1, [], E, E', h, k => by simp [fX] at h
  | n + 1, o :: l, E, E', h, k => by
    intro a w ha hw;unfold fX at h;split at h
    · rename_i g b d hg hdst
      split at h
      · rename_i t ht
        split at h
        · rename_i u hbl hu
          split at h
          · rename_i hwb
            simp only [Bool.and_eq_true] at hbl;unfold Pk;rw [if_neg (by rw [Region.wanted, hg]; simp only; rw [Lb ha ht hu hbl.1, hwb]; exact Bool.noConfusion), hdst];exact fY n h k _ _ (ha.put hbl.2 _) hw
          · cases h
        · cases h
      · cases h
    · cases h

abbrev Ep := List UInt8
def bs (l : Ep) : ByteArray := ⟨l.toArray⟩
theorem Eh (l : Ep) : (bs l).size = l.length := by simp [bs, ByteArray.size]
theorem zV (b : ByteArray) : b.toList = b.data.toList := by
  have key : ∀ (n i : Nat) (r : List UInt8), b.size - i = n → ByteArray.toList.loop b i r = r.reverse ++ b.data.toList.drop i := by
    intro n
    induction n with
    | zero =>
      intro i r h;unfold ByteArray.toList.loop;rw [if_neg z6, List.drop_of_length_le (by have : b.data.size = b.size := rfl; simp; omega)];simp
    | succ n ih =>
      intro i r h;unfold ByteArray.toList.loop;rw [if_pos z6, ih _ _ z6];have hlt : i < b.data.toList.length := by have : b.data.size = b.size := rfl; simp; omega
      rw [List.drop_eq_getElem_cons hlt];have : b.get! i = b.data.toList[i] := by
        have h2 : i < b.data.size := by simpa using hlt
        rw [ByteArray.get!];simp only [Array.getElem_toList];exact getElem!_pos b.data i h2
      rw [this]; simp
  have := key b.size 0 [] z6;simpa [ByteArray.toList] using this
theorem Tw (l : Ep) : (bs l).toList = l := by rw [zV]; simp [bs]
theorem pU (l m : Ep) : bs l ++ bs m = bs (l ++ m) := by
  apply ByteArray.ext;simp [bs]
theorem sV (l : Ep) (i : Nat) : (bs l)[i]? = l[i]? := by
  by_cases h : i < l.length
  · rw [getElem?_pos (bs l) i (by rw [Eh]; exact h), List.getElem?_eq_getElem h];rfl
  · rw [getElem?_neg (bs l) i (by rw [Eh]; exact h), List.getElem?_eq_none z6]
theorem Iv (l : Ep) (i j : Nat) : (bs l).extract i j = bs ((l.take j).drop i) := by
  apply ByteArray.ext;simp [bs, ByteArray.data_extract, List.drop_take]

section ops
variable {t t' : TypeId} {x y z : Operand} {s s' : Ep} {p q : Int} {k k' : IntKind}
theorem sW (hU : ∀ w, (underlying t).run P w = .ok .string w) (hx : ev E x = some (.string (bs s)) := by rfl) :
    Cc P N D b0 Mk L E (.call { callee := .builtin .len, args := #[x], argTypes := #[t] }) ty (.int .i64 s.length) := by
  have := sJ (N := N) (D := D) (b0 := b0) (Mk := Mk) (L := L) (ty := ty) hU hx
  rwa [Eh] at this
theorem P3 (m : Nat) (hU : ∀ w, (underlying t).run P w = .ok .string w) (hm : m < s.length) (hx : ev E x = some (.string (bs s)) := by rfl) (hy : ev E y = some (.int k p) := by rfl) (hi : p = (m : Int) := by first | rfl | omega) :
    Cc P N D b0 Mk L E (.index t x y) ty (.int .u8 ((s.getD m default).toNat : Int)) := fun a w ha _ => by
  subst hi;have h1 : (bs s)[m]? = some (s.getD m default) := by rw [sV, List.getElem?_eq_getElem hm]; simp [List.getD, hm]
  simp [Bq, execOp, ha.eval hx, ha.eval hy, Instr.index, asIntOf, hU, h1]
theorem P4 (m n : Nat) (hU : ∀ w, (underlying t).run P w = .ok .string w) (hmn : m ≤ n) (hn : n ≤ s.length) (hx : ev E x = some (.string (bs s)) := by rfl) (hy : ev E y = some (.int k p) := by rfl) (hz : ev E z = some (.int k' q) := by rfl) (hi : p = (m : Int) := by first | rfl | omega) (hj : q = (n : Int) := by first | rfl | omega) :
    Cc P N D b0 Mk L E (.slice t x (some y) (some z) none) ty (.string (bs ((s.take n).drop m))) := fun a w ha _ => by
  subst hi hj;have h1 : (n : Int) ≤ ((bs s).size : Int) := by rw [Eh]; omega
  have h2 : (m : Int) ≤ (n : Int) := by omega
  simp [Bq, execOp, ha.eval hx, ha.eval hy, ha.eval hz, Instr.sliceAt, Instr.slice, Instr.sliceBounds, Instr.sliceBound, asIntOf, hU, Eh, hn, hmn, Iv]
theorem sX (m : Nat) (hU : ∀ w, (underlying t).run P w = .ok .string w) (hm : m ≤ s.length) (hx : ev E x = some (.string (bs s)) := by rfl) (hy : ev E y = some (.int k p) := by rfl) (hi : p = (m : Int) := by first | rfl | omega) :
    Cc P N D b0 Mk L E (.slice t x (some y) none none) ty (.string (bs (s.drop m))) := fun a w ha _ => by
  subst hi;simp [Bq, execOp, ha.eval hx, ha.eval hy, Instr.sliceAt, Instr.slice, Instr.sliceBounds, Instr.sliceBound, asIntOf, hU, Eh, hm, Iv]
theorem fZ (n : Nat) (hU : ∀ w, (underlying t).run P w = .ok .string w) (hn : n ≤ s.length) (hx : ev E x = some (.string (bs s)) := by rfl) (hz : ev E z = some (.int k' q) := by rfl) (hj : q = (n : Int) := by first | rfl | omega) :
    Cc P N D b0 Mk L E (.slice t x none (some z) none) ty (.string (bs (s.take n))) := fun a w ha _ => by
  subst hj;simp [Bq, execOp, ha.eval hx, ha.eval hz, Instr.sliceAt, Instr.slice, Instr.sliceBounds, Instr.sliceBound, asIntOf, hU, Eh, hn, Iv]
theorem M1 (hx : ev E x = some (.string (bs s)) := by rfl) (hy : ev E y = some (.string (bs s')) := by rfl) :
    Cc P N D b0 Mk L E (.binOp .neq t x y t') ty (.bool (decide (s ≠ s'))) := fun a w ha _ => by
  simp only [Bq, execOp, ha.eval hx, ha.eval hy, eqGuard, binOp, Op.stringOp, Tw];by_cases h : s = s' <;> simp [h]

theorem zW {n : Int} (h : 0 ≤ n ∧ n ≤ 255) : IntKind.u8.wrap n = n := IntWalk.u8_in n h
theorem AD9 (b : UInt8) : b.toNat < 256 := UInt8.toNat_lt b

def Lg (k : IntKind) (a b : Int) : Int := k.wrap ((BitVec.ofInt k.bits a &&& BitVec.ofInt k.bits b).toNat : Int)
def orI (k : IntKind) (a b : Int) : Int := k.wrap ((BitVec.ofInt k.bits a ||| BitVec.ofInt k.bits b).toNat : Int)
def Jl (k : IntKind) (a b : Int) : Int := k.wrap ((BitVec.ofInt k.bits a ^^^ BitVec.ofInt k.bits b).toNat : Int)
def sY (k : IntKind) (a : Int) (n : Int) : Int := k.wrap (a * 2 ^ (min n.toNat k.bits))
def Aa (k : IntKind) (a : Int) (n : Int) : Int := a.fdiv (2 ^ (min n.toNat k.bits))
theorem Kc (hx : ev E x = some (.int k p) := by rfl) (hy : ev E y = some (.int k q) := by rfl) : Cc P N D b0 Mk L E (.binOp .add t x y t') ty (.int k (k.wrap (p + q))) := fun a w ha _ => by
  simp [Bq, execOp, ha.eval hx, ha.eval hy, eqGuard, binOp, Op.intArith]
theorem P5 (hx : ev E x = some (.int k p) := by rfl) (hy : ev E y = some (.int k q) := by rfl) : Cc P N D b0 Mk L E (.binOp .sub t x y t') ty (.int k (k.wrap (p - q))) := fun a w ha _ => by
  simp [Bq, execOp, ha.eval hx, ha.eval hy, eqGuard, binOp, Op.intArith]
theorem Tx (hx : ev E x = some (.int k p) := by rfl) (hy : ev E y = some (.int k q) := by rfl) : Cc P N D b0 Mk L E (.binOp .and t x y t') ty (.int k (Lg k p q)) := fun a w ha _ => by
  simp [Bq, execOp, ha.eval hx, ha.eval hy, eqGuard, binOp, Op.intBits, Lg]
theorem M2 (hx : ev E x = some (.int k p) := by rfl) (hy : ev E y = some (.int k q) := by rfl) : Cc P N D b0 Mk L E (.binOp .or t x y t') ty (.int k (orI k p q)) := fun a w ha _ => by
  simp [Bq, execOp, ha.eval hx, ha.eval hy, eqGuard, binOp, Op.intBits, orI]
theorem Lh (hx : ev E x = some (.int k p) := by rfl) (hy : ev E y = some (.int k q) := by rfl) : Cc P N D b0 Mk L E (.binOp .xor t x y t') ty (.int k (Jl k p q)) := fun a w ha _ => by
  simp [Bq, execOp, ha.eval hx, ha.eval hy, eqGuard, binOp, Op.intBits, Jl]
theorem sZ (hx : ev E x = some (.int k p) := by rfl) (hy : ev E y = some (.int k' q) := by rfl) (h : 0 ≤ q := by omega) : Cc P N D b0 Mk L E (.binOp .shl t x y t') ty (.int k (sY k p q)) := fun a w ha _ => by
  have h' : ¬ q < 0 := by omega
  simp [Bq, execOp, ha.eval hx, ha.eval hy, eqGuard, binOp, Op.shift, h', sY]
theorem Xf (hx : ev E x = some (.int k p) := by rfl) (hy : ev E y = some (.int k' q) := by rfl) (h : 0 ≤ q := by omega) : Cc P N D b0 Mk L E (.binOp .shr t x y t') ty (.int k (Aa k p q)) := fun a w ha _ => by
  have h' : ¬ q < 0 := by omega
  simp [Bq, execOp, ha.eval hx, ha.eval hy, eqGuard, binOp, Op.shift, h', Aa]
theorem mW (hx : ev E x = some (.int .i64 p) := by rfl) (hy : ev E y = some (.int .i64 q) := by rfl) (h : 0 ≤ p ∧ 1 ≤ q := by omega) : Cc P N D b0 Mk L E (.binOp .rem t x y t') ty (.int .i64 (p % q)) := fun a w ha _ => by
  have h1 : ¬ q = 0 := by omega
  have h2 : p.tmod q = p % q := Int.tmod_eq_emod_of_nonneg h.1;simp [Bq, execOp, ha.eval hx, ha.eval hy, eqGuard, binOp, Op.intDiv, h1, h2]
theorem Xg {dst : TypeId} {desc : TypeDesc} {r : Int} (h : k'.wrap p = r) (hU : ∀ w, (underlying t).run P w = .ok desc w) (hV : ∀ w, (underlying dst).run P w = .ok (.int k') w) (hx : ev E x = some (.int k p) := by rfl) :
    Cc P N D b0 Mk L E (.convert t dst x) ty (.int k' r) := fun a w ha _ => by
  subst h;simp [Bq, execOp, ha.eval hx, convert, hU, hV, Conv.intToInt]
theorem AE1 (hx : ev E x = some (.int .i64 p) := by rfl) (hy : ev E y = some (.int .i64 q) := by rfl) {tys : Array TypeId} :
    Cc P N D b0 Mk L E (.call { callee := .builtin .max, args := #[x, y], argTypes := tys }) ty (.int .i64 (if p < q then q else p)) := fun ac w ha _ => by
  simp [Bq, execOp, resolve, invoke, builtin, Builtin.max_, ha.eval hx, ha.eval hy, Builtin.max2]

theorem Nr {e len : TypeId} {l : List Value} {m : Nat} {v : Value} (hU : ∀ w, (underlying t).run P w = .ok (.array len e) w) (hS : ∀ w, (sizeOf e).run P w = .ok 1 w) (hA : ∀ w, (isAgg e).run P w = .ok false w) (hx : ev E x = some (.agg l.toArray) := by rfl) (hy : ev E y = some (.int k p) := by rfl) (hi : p = (m : Int) := by rfl) (hm : Nat.blt m len = true := by rfl) (hv : sA l m = some v := by rfl) :
    Cc P N D b0 Mk L E (.index t x y) ty v := fun a w ha _ => by
  subst hi;have hm' : m < len := by simpa [Nat.blt_eq] using hm
  rw [Em] at hv;simp [Bq, execOp, ha.eval hx, ha.eval hy, Instr.index, asIntOf, hU, hS, hm', part, hA, hv]
theorem Cv {e len n : TypeId} {r o m : Nat} (hU : ∀ w, (underlying t).run P w = .ok (.array len e) w) (hS : ∀ w, (sizeOf e).run P w = .ok n w) (hx : ev E x = some (.pointer (some ⟨r, o, none⟩)) := by rfl) (hy : ev E y = some (.int k p) := by rfl) (hi : p = (m : Int) := by first | rfl | omega) (hm : m < len := by first | decide | omega) :
    Cc P N D b0 Mk L E (.indexAddr t x y) ty (.pointer (some ⟨r, o + m * n, none⟩)) := fun a w ha _ => by
  subst hi;have hm2 : (m : Int) < (len : Int) := by omega
  simp [Bq, execOp, ha.eval hx, ha.eval hy, Instr.indexAt, asIntOf, hU, hS, Instr.sureAddr, hm, Ay]

end ops
end
theorem rl {p : Prop} {α : Type} {a b : α} (e : Is a b) (h : Fc (Is a b) → p := by intro z; rw [z.1.eq]; first | exact lb) : p := h ⟨e⟩
theorem rn {p : Prop} {α : Type} {a b : α} (e : Is a b) (h : Fc (Is a b) → p := by intro z; rw [z.1.eq]; exact sT.nil) : p := h ⟨e⟩
theorem ro {p : Prop} {α : Type} {a b : α} (e : Is a b) (h : Fc (Is a b) → p := by intro z; rw [z.1.eq]; exact Bg.nil) : p := h ⟨e⟩
theorem rq {p : Prop} {α : Type} {a b : α} (e : Is a b) (h : Fc (Is a b) → p := by intro z; rw [z.1.eq] <;> first | rfl | (simp only [List.length_set] <;> rfl)) : p := h ⟨e⟩
end Go.Proofs.YtbooaoddioibeaaGreatDoor.Jd

namespace Go.Proofs.YtbooaoddioibeaaGreatDoor.Jd
open Go.Proofs.Tryz
open Go.RowKit (Below)
set_option linter.unusedVariables false
set_option linter.unusedSimpArgs false
section
variable {P : Program} {rd : Option Nat} {b0 : World} {Mk : List Nat} {N : Nat} {D : List Deferred} {ops : Array Oper} {L V L' : Ad} {E : Dq} {T : Act → World → Prop} {Q : Exit → Act → World → Prop}
variable {op : Op} {ty : TypeId} {pos : String} {after : Array Edge} {d : Nat}

def itK (P : Program) (N : Nat) (D : List Deferred) (E : Dq) (l : Nat) (Q : Exit → Act → World → Prop) : Ending → World → Prop := fun e w' => ∀ a, Bl N D E a → rangePost (FW none) 0 P l Q a e w'

theorem pV {g : Operand} {ps : List Tmp} {assign body : Code} {f : FuncId} {fs cs : List Value} {R : Nat → Nat → Loop → Ending → World → Prop}
    (hM : ∀ k ∈ Mk, k < b0.heap.size) (hg : ev E g = some (.func (.func f) fs.toArray cs.toArray)) (hc : ∀ args w, (callFunc f args).run P w = .ok (.enter f args) w)
    (hin : ∀ l rD r w, Nm N E ps.toArray assign body r → SH b0 Mk ((l, Cu r .ready none) :: (rD, .deferred (some [])) :: L) w → Calls P f (fs ++ [Value.func (.yield l) #[] #[]] ++ cs).toArray w (itK P N (Qj rD :: D) E l Q)) :
    J P none b0 Mk N D L E (Code.rangeFunc g ps.toArray assign body) Q := by
  intro a w ha hw;refine wpIn_rangeFunc fun fn _ => ?_
  let w1 := w.alloc (.deferred (some []))
  let rD := w.heap.size
  let rec0 : Loop := { state := .ready, pending := none, fn := fn, tmps := a.tmps, params := ps.toArray, assign := assign, body := body, defers := rD }
  let w2 := w1.alloc (.loop rec0)
  let l := w1.heap.size
  have hw1 : SH b0 Mk ((rD, .deferred (some [])) :: L) w1 := hw.alloc _ hM;have hw2 : SH b0 Mk ((l, .loop rec0) :: (rD, .deferred (some [])) :: L) w2 := hw1.alloc _ hM;have hl : Nm N E ps.toArray assign body rec0 := ⟨rfl, rfl, rfl, ⟨ha.size, rfl, ha.val⟩⟩
  have hres : (resolve a.eval (rangeCall g l) 0).run P w2 = .ok { target := .fn (.func f) cs.toArray, args := fs.toArray ++ #[Value.func (.yield l) #[] #[]] } w2 := by
    simp only [resolve, rangeCall, ha.eval hg, Deferred.ofValue, List.map_toArray, List.map_cons, List.map_nil, Sem.run_pure];rfl
  refine ⟨l, [{ target := .collected rD, args := #[] }], w2, _, w2, f, (fs ++ [Value.func (.yield l) #[] #[]] ++ cs).toArray, w2, ?_, hres, fun _ _ => trivial, ?_, fun h => by simp [FW] at h, ?_⟩
  · rfl
  · simp only [invoke];rw [hc];simp
  · refine Gr rfl ((hin l rD rec0 w2 hl hw2).mono fun e w' he => ?_);exact he _ ⟨ha.size, by simp [ha.defs, Qj], ha.val⟩

theorem gA {g : Operand} {ps : List Tmp} {assign body : Code} {f : FuncId} {fs cs : List Value} {fn : Func} {c : Code} {N' : Nat}
    (hM : ∀ k ∈ Mk, k < b0.heap.size) (hg : ev E g = some (.func (.func f) fs.toArray cs.toArray)) (hc : ∀ args w, (callFunc f args).run P w = .ok (.enter f args) w) (hf : P.funcs[f]? = some fn) (hN : fn.ntmps = N')
    (h : ∀ l rD r, Nm N E ps.toArray assign body r → J P none b0 Mk N' [] ((l, Cu r .ready none) :: (rD, .deferred (some [])) :: L) (Ms 0 (fs ++ [Value.func (.yield l) #[] #[]] ++ cs)) c (bodyPost P fn (itK P N (Qj rD :: D) E l Q)))
    (hb : fn.body = some c := by rfl) (ha : Nat.ble (fs ++ [Value.func (.yield 0) #[] #[]] ++ cs).length N' = true := by rfl) : J P none b0 Mk N D L E (Code.rangeFunc g ps.toArray assign body) Q :=
  pV (R := fun _ _ _ _ _ => True) hM hg hc fun l rD r w hl hw => Xe hw hf hN hb (by simpa using ha) (h l rD r hl)
theorem AE2 {l : Nat} {r : Loop} {w : World} (hL : List.Perm L ((l, Cu r .ready none) :: L')) (k : JX b0 Mk N D ((l, Cu r .exhausted none) :: L') E Q .normal) (hw : SH b0 Mk L w) {v : Value} : itK P N D E l Q (.returned v) w := fun a ha => by
  have hw' := hw.perm hL;have ho := hw'.own _ List.mem_cons_self;exact ⟨none, _, run_endLoop ho Jy, k _ _ ha (SH.put hw')⟩
theorem tA {l : Nat} {r : Loop} {fn : Func} {N' : Nat} {E' : Dq} {e : Exit} (he : e = .ret ∨ e = .normal) (hr : fn.results = #[]) (hL : List.Perm L ((l, Cu r .ready none) :: L')) (k : JX b0 Mk N D ((l, Cu r .exhausted none) :: L') E Q .normal) :
    JX b0 Mk N' [] L E' (bodyPost P fn (itK P N D E l Q)) e := by
  rcases he with rfl | rfl
  · exact Df (rs := []) (by rw [hr]) Mt.nil fun w hw => AE2 hL k hw
  · exact O8 (rs := []) (by rw [hr]) Mt.nil fun w hw => AE2 hL k hw
theorem yIn {lp : Nat} {vs : List Value} {ps : List Tmp} {assign body : Code} {r : Loop} {Nc : Nat} {Ec : Dq} {K : Act → World → Prop} {o : Oper} {a : Act} {w : World} {Q' : Exit → Act → World → Prop} (hr : Nm Nc Ec ps.toArray assign body r) (hL : List.Perm L ((lp, Cu r .ready none) :: L'))
    (hd : Ax o = true) (hy : execOp a.eval o = Instr.yield lp vs.toArray) (hs : Nat.beq vs.length ps.length = true) (hps : (ps.all fun t => Nat.blt t Nc) = true)
    (h : J P (some lp) b0 Mk Nc [] ((lp, Cu r .ready none) :: L') (Le ps vs Ec) assign (cA P lp body (zU N D E K d))) (hdst : o.dst = some d) (ha : Bl N D E a) (hw : SH b0 Mk L w) : o.wpIn (FW rd) 0 P a w K Q' := by
  obtain ⟨fn, tmps, asg, bo, h1, h2⟩ := kF hr (hw.perm hL) hs hps h;refine Wz hd hy ⟨fn, tmps, asg, bo, h1, h2.mono fun e w' he => ?_⟩;obtain ⟨v, rfl, hk⟩ := he;exact ⟨v, rfl, by rw [hdst]; exact hk a ha⟩
theorem tB {l : List Oper} {lp : Nat} {vs : List Value} {ps : List Tmp} {assign body : Code} {r : Loop} {Nc : Nat} {Ec : Dq} (hr : Nm Nc Ec ps.toArray assign body r) (hL : List.Perm L ((lp, Cu r .ready none) :: L')) (hy : AD5 N D E op ty lp vs)
    (h : J P (some lp) b0 Mk Nc [] ((lp, Cu r .ready none) :: L') (Le ps vs Ec) assign (cA P lp body (zU N D E (Pk P rd ops T l) d)))
    (hs : Nat.beq vs.length ps.length = true := by rfl) (hps : (ps.all fun t => Nat.blt t Nc) = true := by rfl) (hn : Bf op = true := by rfl) :
    JL P rd b0 Mk N D ops L E ({ dst := some d, op := op, type := ty, pos := pos, after := after, guard := none } :: l) T := by
  intro a w ha hw;unfold Pk;rw [if_pos (by rfl)];exact yIn hr hL (Bm hn) (by rw [Bi]; exact hy a ha) hs hps h rfl ha hw
theorem Zz {l : Nat} {r : Loop} {N' : Nat} {D' : List Deferred} {E' : Dq} {ops' : Array Oper} {rd' : Option Nat} {rest : List Oper} {T' : Act → World → Prop} (hL : List.Perm L ((l, Cu r .busy none) :: L'))
    (k : JL P rd' b0 Mk N' D' ops' ((l, Cu r .ready none) :: L') ((d, .bool true) :: E') rest T') (hd : Nat.blt d N' = true := by rfl) : JX b0 Mk N D L E (kE P l (zU N' D' E' (Pk P rd' ops' T' rest) d)) .normal :=
  sN hL fun w hw => ⟨_, rfl, fun a ha => k _ _ (ha.put hd _) hw⟩
end
end Go.Proofs.YtbooaoddioibeaaGreatDoor.Jd

namespace Go.Proofs.YtbooaoddioibeaaGreatDoor.Jd
open Go.Proofs.Tryz
open Go.RowKit (Below)
set_option linter.unusedVariables false
set_option linter.unusedSimpArgs false
def eI (x : Int) : List Value := [.int .i64 x]
def Er (x : Int) : List Value := [.int .u8 x]
theorem AE3 : Eb eI 1 := ⟨by omega, fun _ => rfl, fun _ => rfl⟩
theorem Ah : Eb Er 1 := ⟨by omega, fun _ => rfl, fun _ => rfl⟩
end Go.Proofs.YtbooaoddioibeaaGreatDoor.Jd

namespace Go.Proofs.YtbooaoddioibeaaGreatDoor.Jd
open Go.Proofs.Tryz
open Go.RowKit (Below)
set_option linter.unusedVariables false
set_option linter.unusedSimpArgs false
section
variable {P : Program} {rd : Option Nat} {b0 : World} {Mk : List Nat} {N : Nat} {D : List Deferred} {ops : Array Oper} {L V : Ad} {C : List (Addr × Value)} {E : Dq} {T : Act → World → Prop} {Q : Exit → Act → World → Prop}
variable {op : Op} {ty : TypeId} {pos : String} {after : Array Edge} {v : Value} {d : Nat}

def Tz (C : List (Addr × Value)) (w : World) : Prop := ∀ p ∈ C, w.cell? p.1 = some p.2
/-- Cells of known blocks. -/
inductive KC (L : Ad) : List (Addr × Value) → Prop
  | nil : KC L []
  | cons {r k : Nat} {l : List Value} {T : TypeId} {f : Nat × Nat} {v : Value} {C : List (Addr × Value)} (hm : (r, Obj.cells l.toArray T f) ∈ L) (hv : sA l k = some v) (h : KC L C) : KC L ((⟨r, k, none⟩, v) :: C)
theorem KC.holds {w : World} (h : KC L C) (hw : SH b0 Mk L w) : Tz C w := by
  induction h with
  | nil => intro p hp; cases hp
  | cons hm hv _ ih =>
    intro p hp;rcases List.mem_cons.1 hp with rfl | hp
    · exact hw.cell hm (by rw [← Em]; exact hv)
    · exact ih p hp
theorem Tz.ext {w w' : World} (h : Tz C w) (he : jW w w') : Tz C w' := fun p hp => by
  have := h p hp;have hlt := World.block_lt_of_cell? w _ this;simp only [World.cell?] at this ⊢;rw [he.block _ hlt]; exact this

def SK (b0 : World) (Mk : List Nat) (L : Ad) (C : List (Addr × Value)) (w : World) : Prop := SH b0 Mk L w ∧ Tz C w
def JK (P : Program) (rd : Option Nat) (b0 : World) (Mk : List Nat) (N : Nat) (D : List Deferred) (ops : Array Oper) (L V : Ad) (C : List (Addr × Value)) (E : Dq) (l : List (Bool × Oper)) (T : Act → World → Prop) : Prop :=
  ∀ a w, Bl N D E a → SH b0 Mk (V ++ L) w → Tz C w → Zb P rd ops T (SK b0 Mk L C) l a w
def P6 (P : Program) (N : Nat) (D : List Deferred) (b0 : World) (Mk : List Nat) (L : Ad) (C : List (Addr × Value)) (E : Dq) (op : Op) (ty : TypeId) (v : Value) : Prop :=
  ∀ a w, Bl N D E a → SK b0 Mk L C w → (execOp a.eval (Bq op ty)).run P w = .ok (.value v) w
theorem Cc.k (h : Cc P N D b0 Mk L E op ty v) : P6 P N D b0 Mk L C E op ty v := fun a w ha hw => h a w ha hw.1

theorem mX {id : Nat} {l : List Oper} (L' V : Ad) (C : List (Addr × Value)) (hL : List.Perm L (V ++ L')) (hC : KC (V ++ L') C) (hm : P.follows .mixedOrders = true) (n : Nat) (pl : List (Bool × Nat)) (hB : Wt l n pl = true)
    (h : JK P rd b0 Mk N D l.toArray L' V C E (Ws l.toArray pl) (fun a w => Pk P rd l.toArray (Q .normal) (l.drop n) a w)) : J P rd b0 Mk N D L E (Code.region id l.toArray true) Q :=
  fun a w ha hw => Gq hm n pl hB (SK b0 Mk L' C) ⟨((hw.perm hL).right.drawn _), hC.holds ((hw.perm hL).drawn _)⟩ (h a _ ha ((hw.perm hL).drawn _) (hC.holds ((hw.perm hL).drawn _)))

theorem tC {l : List Oper} (h : JL P rd b0 Mk N D ops (V ++ L) E l T) : JK P rd b0 Mk N D ops L V C E [] (fun a w => Pk P rd ops T l a w) := fun a w ha hw _ => h a w ha hw
theorem Ns {f : Bool} {l : List (Bool × Oper)} (h : P6 P N D b0 Mk L C E op ty v) (hn : Bf op = true := by rfl) (hd : Nat.blt d N = true := by rfl) (k : JK P rd b0 Mk N D ops L V C ((d, v) :: E) l T) :
    JK P rd b0 Mk N D ops L V C E ((f, { dst := some d, op := op, type := ty, pos := pos, after := after, guard := none }) :: l) T := by
  intro a w ha hw hc;cases f
  · unfold Zb;rw [if_pos (by rfl)];exact Cs (Bm hn) (by rw [Bi]; exact h a w ha ⟨hw.right, hc⟩) ⟨_, fun _ h => h, ⟨hw.right, hc⟩, k _ _ (ha.put hd v) hw hc⟩
  · unfold Zb;exact ⟨v, .inl ⟨by rfl, fun w' hw' => by rw [Bi]; exact h a w' ha hw'⟩, k _ _ (ha.put hd v) hw hc⟩
theorem AE4 {l : List (Bool × Oper)} {V' : Ad} (hk : KC (V' ++ L) C) (h : sG P N D b0 Mk (V ++ L) E op ty (V' ++ L) .skip) (hn : Bf op = true := by rfl) (k : JK P rd b0 Mk N D ops L V' C E l T) :
    JK P rd b0 Mk N D ops L V C E ((false, { dst := none, op := op, type := ty, pos := pos, after := after, guard := none }) :: l) T := by
  intro a w ha hw hc;unfold Zb;rw [if_pos (by rfl)];obtain ⟨w', h1, h2⟩ := h a w ha hw;exact Lc (Bm hn) (by rw [Bi]; exact h1) ⟨SK b0 Mk L C, fun _ h => h, ⟨h2.right, hk.holds h2⟩, k _ _ ha h2 (hk.holds h2)⟩
theorem tD {t : TypeId} {x : Operand} {r k : Nat} (hA : ∀ w, (isAgg t).run P w = .ok false w) (hx : ev E x = some (.pointer (some ⟨r, k, none⟩)) := by rfl)
    (hm : ((⟨r, k, none⟩ : Addr), v) ∈ C := by repeat (first | exact List.mem_cons_self | apply List.mem_cons_of_mem)) : P6 P N D b0 Mk L C E (.load t x) ty v := fun a w ha hw => by
  have hc := hw.2 _ hm;simp only at hc;simp [Bq, execOp, ha.eval hx, Instr.loadAt, Instr.sureAddr, loadVar, hA, hc]
/-- The cells from ⟨r, k⟩ on, as C has them. -/
inductive pW (C : List (Addr × Value)) (r : Nat) : Nat → List Value → Prop
  | nil {k : Nat} : pW C r k []
  | cons {k : Nat} {v : Value} {cs : List Value} (hm : ((⟨r, k, none⟩ : Addr), v) ∈ C) (h : pW C r (k + 1) cs) : pW C r k (v :: cs)
theorem pW.at {r : Nat} : ∀ {cs : List Value} {k : Nat}, pW C r k cs → ∀ j v, cs[j]? = some v → ((⟨r, k + j, none⟩ : Addr), v) ∈ C
  | _, _, .nil, j, v, h => by cases h
  | _, _, .cons hm h, j, v, hj => by
    cases j with
    | zero => cases hj; exact hm
    | succ j => have := pW.at h j v (by simpa using hj); rwa [Nat.add_assoc, Nat.add_comm 1 j] at this
end
end Go.Proofs.YtbooaoddioibeaaGreatDoor.Jd

namespace Go.Proofs.YtbooaoddioibeaaGreatDoor.Jd
open Go.Proofs.Tryz
open Go.ChangeShapes Go.WideShapes Go.ChangeAt Go.RowKit
set_option linter.unusedVariables false
set_option linter.unusedSimpArgs false
theorem zY {P : Program} {x : String × DataW Unit} {l : List (String × DataW Unit)} {w : World} (h : laidMet P (x :: l) w) : laidMet P l w := by
  obtain ⟨ps, hv, hn, ha⟩ := h;obtain ⟨n, d⟩ := x;obtain ⟨g, t, cs, fuel, p, q, h1, h2, h3, h4, h5, rfl⟩ := hv;refine ⟨q, h5, (List.nodup_append.1 hn).2.1, fun b off hm => ha b off (List.mem_append_right _ hm)⟩
theorem AN5 {n : Int} (h : (Lit.int .i64 n).wf = true) : -9223372036854775808 ≤ n ∧ n ≤ 9223372036854775807 := by
  simp [Lit.wf, IntKind.min, IntKind.max, IntKind.signed, IntKind.bits] at h;omega
theorem AE5 (s : ByteArray) : s = bs s.data.toList := by
  apply ByteArray.ext;simp [bs]
end Go.Proofs.YtbooaoddioibeaaGreatDoor.Jd

namespace Go.Proofs.YtbooaoddioibeaaGreatDoor.Jd
open Go.Proofs.Tryz
open Go.RowKit (Below)
set_option linter.unusedVariables false
set_option linter.unusedSimpArgs false
def kG (b0 : World) (B : Ad) {α : Type} (enc : α → List Value) (k : Nat) (a : Option Addr) (xs : List α) : Prop := ∀ w : World, jW b0 w → (∀ p ∈ B, w.heap[p.1]? = some p.2) → Sl w enc k a xs
section
variable {b0 : World} {B L : Ad} {α : Type} {enc : α → List Value} {k : Nat} {a : Option Addr} {xs : List α}
theorem kG.base (h : Sl b0 enc k a xs) : kG b0 B enc k a xs := fun _ he _ => h.ext he
theorem kG.mono {B' : Ad} (h : kG b0 B' enc k a xs) (hB : ∀ p ∈ B', p ∈ B := by intro p hp; repeat (first | exact hp | exact List.mem_append_left _ hp | apply List.mem_append_right | apply List.mem_cons_of_mem)) : kG b0 B enc k a xs := fun w he hw => h w he fun p hp => hw p (hB p hp)
theorem kG.nil : kG b0 B enc k a ([] : List α) := fun _ _ _ => Sl.nil
theorem kG.take (h : kG b0 B enc k a xs) (n : Nat) : kG b0 B enc k a (xs.take n) := fun w he hw i x hx => h w he hw i x (by
    rw [List.getElem?_take] at hx;split at hx
    · exact hx
    · cases hx)
theorem kG.slj (h : kG b0 B enc k a xs) (hB : ∀ p ∈ B, p ∈ L := by intro p hp; repeat (first | exact hp | exact List.mem_append_left _ hp | apply List.mem_append_right | apply List.mem_cons_of_mem)) : Jk b0 [] L enc k a xs := fun w hw => h w hw.ext_out fun p hp => hw.own p (hB p hp)
theorem Bg.le' {e : TypeId} {c : Nat} (h : Bg enc k e a c B xs) : xs.length ≤ c := by
  rcases h with ⟨rfl, _, rfl⟩ | ⟨_, _, _, _, _, _, h1, _⟩
  · simp
  · exact h1
theorem Bg.take {e : TypeId} {c : Nat} (hE : Eb enc k) (h : Bg enc k e a c B xs) (n : Nat) : Bg enc k e a c B (xs.take n) := by
  rcases h with ⟨rfl, rfl, rfl⟩ | ⟨r, cur, fz, rfl, rfl, hfz, h1, h2, h3⟩
  · simpa using Bg.nil
  · refine .inr ⟨r, cur, fz, rfl, rfl, hfz, by simp; omega, h2, ?_⟩;have hm : (xs.take n).length * k ≤ xs.length * k := Nat.mul_le_mul_right _ (by simp; omega);rw [show (xs.take n).length * k = min ((xs.take n).length * k) (xs.length * k) by omega, ← List.take_take, h3];have hl : Cw enc xs = Cw enc (xs.take n) ++ Cw enc (xs.drop n) := by rw [← Nn, List.take_append_drop]
    rw [hl, List.take_left' (Cp hE _)]
end
section
variable {P : Program} {rd : Option Nat} {b0 : World} {Mk : List Nat} {N : Nat} {D : List Deferred} {ops : Array Oper} {L V : Ad} {E : Dq} {T : Act → World → Prop}
variable {op : Op} {ty : TypeId} {pos : String} {after : Array Edge} {d : Nat}
theorem P7 {α : Type} {enc : α → List Value} {k by_ n : Nat} {i : Int} {t e : TypeId} {z : Value} {x0 : α} {x y : Operand} (hT : Ty P e k by_ z) (hU : P.underlying t = some (.slice e)) (hE : Eb enc k) (hz : Ar z = enc x0) (hb : by_ * n ≤ 281474976710656 ∧ n ≤ 4611686018427387904) (hi : i = (n : Int)) (hx : ev E x = some (.int .i64 i) := by rfl) (hy : ev E y = some (.int .i64 i) := by rfl) :
    cF P N D b0 Mk L E (.makeSlice t x y) ty [] (Option Addr × Ad) (fun q => .value (.slice q.1 (List.replicate n x0).length n)) (fun q => q.2) (fun q => Bg enc k e q.1 n q.2 (List.replicate n x0)) := fun a w ha _ => by
  subst hi;obtain ⟨i, hi, rfl, rfl, hzz⟩ := hT.ex;have p7 : (i.bytes : Int) * (n : Int) ≤ 281474976710656 := by
    rw [← Int.natCast_mul]; omega
  have := run_make (P := P) w t e i z hU hi hzz .i64 .i64 (n : Int) (n : Int) z6 z6 p7 z6;refine ⟨(some ⟨w.heap.size, 0, none⟩, [(w.heap.size, .cells (madeCells z.cells (n * i.size)) e)]), w.alloc (.cells (madeCells z.cells (n * i.size)) e), ?_, Np _, Bg.made hE hz⟩;simp [Bq, execOp, ha.eval hx, ha.eval hy, this]
theorem mY {α : Type} {enc : α → List Value} {kk by_ n : Nat} {i : Int} {t e : TypeId} {z : Value} {x0 : α} {x y : Operand} {l : List Oper} (hT : Ty P e kk by_ z) (hU : P.underlying t = some (.slice e)) (hE : Eb enc kk) (hz : Ar z = enc x0) (hb : by_ * n ≤ 281474976710656 ∧ n ≤ 4611686018427387904) (hx : ev E x = some (.int .i64 i) := by rfl) (hy : ev E y = some (.int .i64 i) := by rfl) (hi : i = (n : Int) := by omega) (hd : Nat.blt d N = true := by rfl)
    (k : ∀ a2 B2, Bg enc kk e a2 n B2 (List.replicate n x0) → JL P rd b0 Mk N D ops (B2 ++ L) ((d, .slice a2 (List.replicate n x0).length n) :: E) l T) :
    JL P rd b0 Mk N D ops L E ({ dst := some d, op := .makeSlice t x y, type := ty, pos := pos, after := after, guard := none } :: l) T :=
  zR (List.Perm.refl _) (P7 hT hU hE hz hb hi hx hy) rfl hd (fun q hq => k q.1 q.2 hq)
theorem Zd {t e : TypeId} {x y y2 : Operand} {a : Option Addr} {n c : Nat} {i i2 : Int} {ki ki2 : IntKind} (m m2 : Nat) (hU : ∀ w, (underlying t).run P w = .ok (.slice e) w) (hS : ∀ w, ∃ q, (sizeOf e).run P w = .ok q w) (hx : ev E x = some (.slice a n c) := by rfl) (hy : ev E y = some (.int ki i) := by rfl) (hy2 : ev E y2 = some (.int ki2 i2) := by rfl)
    (hm : m ≤ m2 := by omega) (hm2 : m2 ≤ c := by omega) (hi : i = (m : Int) := by first | rfl | omega) (hi2 : i2 = (m2 : Int) := by first | rfl | omega) :
    Cc P N D b0 Mk L E (.slice t x none (some y) (some y2)) ty (.slice a m m2) := cG m m2 hU hS hm hm2 hx hy hy2 hi hi2
end
end Go.Proofs.YtbooaoddioibeaaGreatDoor.Jd

namespace Go.Proofs.YtbooaoddioibeaaGreatDoor.Jd
open Go.Proofs.Tryz
open Go.ChangeShapes
set_option linter.unusedVariables false
set_option linter.unusedSimpArgs false
theorem M3 {P : Program} {W : World} {n : String} {g : Nat} {cs : Array Value} (hg : P.globalNamed n = some g) (h : W.var? P n = some cs) : ∃ T f, W.heap[g]? = some (.cells cs T f) := by
  unfold World.var? at h;rw [hg] at h;simp only [Option.bind_some] at h;split at h
  · cases h; exact ⟨_, _, ‹_›⟩
  · cases h
end Go.Proofs.YtbooaoddioibeaaGreatDoor.Jd

namespace Go.Proofs.YtbooaoddioibeaaGreatDoor.Jd
open Go.Proofs.Tryz
open Go.RowKit (Below)
set_option linter.unusedVariables false
set_option linter.unusedSimpArgs false
def aI (k : IntKind) (xs : List Int) : List Value := xs.map (Value.int k)
theorem Ed {k : IntKind} {xs : List Int} : (aI k xs).length = xs.length := by simp [aI]
theorem kH {k : IntKind} {xs : List Int} {m : Nat} (h : m < xs.length) : (aI k xs)[m]? = some (.int k (xs.getD m default)) := by
  simp [aI, h, List.getD]
theorem mZ {k : IntKind} {v : Int} : ∀ {xs : List Int} {m : Nat}, Bv (aI k xs) m [.int k v] = aI k (xs.set m v)
  | [], m => by simp [aI, Bv]
  | x :: r, 0 => by cases r <;> simp [aI, Bv]
  | x :: r, m + 1 => by
    have := @mZ k v r m;simp only [aI, List.map_cons, Bv, List.set_cons_succ] at this ⊢;rw [this]
theorem gB : ∀ {l us : List Value}, us.length = l.length → Bv l 0 us = us
  | [], [], _ => by simp [Bv]
  | [], _ :: _, h => by simp at h
  | _ :: _, [], h => by simp at h
  | c :: r, u :: us, h => by
    simp only [Bv];rw [gB (by simpa using h)]
theorem nB : ∀ {l : List Value} {n : Nat}, l.length = n → fM l 0 n = some l := by
  have hs : ∀ (l : List Value) (c : Value) (k n : Nat), fM (c :: l) (k + 1) n = fM l k n := by
    intro l c k n
    induction n generalizing k with
    | zero => rfl
    | succ n ih => simp only [fM, sA]; rw [ih]
  intro l
  induction l with
  | nil => intro n h; subst h; rfl
  | cons c r ih =>
    intro n h;subst h;simp only [List.length_cons, fM, sA];rw [hs, ih rfl]
theorem aA {k : IntKind} : ∀ {xs : List Int}, Bn (aI k xs) = true
  | [] => rfl
  | x :: r => by
    have := @aA k r;simp only [aI, List.map_cons, Bn] at this ⊢;rw [this]; rfl
section
variable {P : Program} {rd : Option Nat} {b0 : World} {Mk : List Nat} {N : Nat} {D : List Deferred} {ops : Array Oper} {L V : Ad} {E : Dq} {T : Act → World → Prop}
variable {op : Op} {ty : TypeId} {pos : String} {after : Array Edge} {d : Nat}
theorem Nt {e t : TypeId} {len n : Nat} {x y : Operand} {k : IntKind} {p : Int} {r o : Nat} (m j : Nat) (hU : ∀ w, (underlying t).run P w = .ok (.array len e) w) (hS : ∀ w, (sizeOf e).run P w = .ok n w) (hx : ev E x = some (.pointer (some ⟨r, o, none⟩)) := by rfl) (hy : ev E y = some (.int k p) := by rfl) (hi : p = (m : Int) := by first | rfl | omega) (hj : j = o + m * n := by omega) (hm : m < len := by omega) :
    Cc P N D b0 Mk L E (.indexAddr t x y) ty (.pointer (some ⟨r, j, none⟩)) := by
  subst hj;exact Cv hU hS hx hy hi hm
theorem Ry {t : TypeId} {x : Operand} {r m : Nat} {k : IntKind} {xs : List Int} {T : TypeId} {f : Nat × Nat} (hA : ∀ w, (isAgg t).run P w = .ok false w) (hm : m < xs.length) (hx : ev E x = some (.pointer (some ⟨r, m, none⟩)) := by rfl)
    (hL : (r, Obj.cells (aI k xs).toArray T f) ∈ L := by repeat (first | exact List.mem_cons_self | apply List.mem_cons_of_mem | apply List.mem_append_right)) :
    Cc P N D b0 Mk L E (.load t x) ty (.int k (xs.getD m default)) := Bu hA hx hL (by rw [Em, kH hm])
theorem tE {t : TypeId} {x : Operand} {r m : Nat} {k : IntKind} {xs : List Int} {T : TypeId} {f : Nat × Nat} (hA : ∀ w, (isAgg t).run P w = .ok false w) (hm : m < xs.length) (hb : b0.heap[r]? = some (Obj.cells (aI k xs).toArray T f)) (hx : ev E x = some (.pointer (some ⟨r, m, none⟩)) := by rfl) (hM : r ∉ Mk := by simp) :
    Cc P N D b0 Mk L E (.load t x) ty (.int k (xs.getD m default)) := zS hA hb hx hM (by rw [Em, kH hm])
theorem tF {t : TypeId} {x : Operand} {r n : Nat} {k : IntKind} {xs : List Int} {T : TypeId} {f : Nat × Nat} (hA : ∀ w, (isAgg t).run P w = .ok true w) (hS : ∀ w, (sizeOf t).run P w = .ok n w) (hn : xs.length = n) (hx : ev E x = some (.pointer (some ⟨r, 0, none⟩)) := by rfl)
    (hL : (r, Obj.cells (aI k xs).toArray T f) ∈ L := by repeat (first | exact List.mem_cons_self | apply List.mem_cons_of_mem | apply List.mem_append_right)) :
    Cc P N D b0 Mk L E (.load t x) ty (.agg (aI k xs).toArray) := Rt hA hS hx hL (nB (by rw [Ed, hn]))
theorem gC {t : TypeId} {x y : Operand} {r m : Nat} {k : IntKind} {v : Int} {xs : List Int} {T : TypeId} {L' : Ad} (hS : ∀ w, (sizeOf t).run P w = .ok 1 w) (hm : m < xs.length) (hx : ev E x = some (.pointer (some ⟨r, m, none⟩)) := by rfl) (hy : ev E y = some (.int k v) := by rfl)
    (hR : Ih r (.cells (aI k xs).toArray T) (.cells (aI k (xs.set m v)).toArray T) L L' := by repeat (first | exact Ih.head | apply Ih.tail | apply Ih.app)) :
    sG P N D b0 Mk L E (.store t x y) ty L' .skip := Dm (l := aI k xs) (l' := aI k (xs.set m v)) hS hx hy hR mZ rfl rfl (by simp [Ed, Ar]; omega)
theorem pX {t : TypeId} {x y : Operand} {r n : Nat} {k k' : IntKind} {xs ys : List Int} {T : TypeId} {L' : Ad} (hS : ∀ w, (sizeOf t).run P w = .ok n w) (hn : ys.length = n) (hn' : xs.length = n) (hx : ev E x = some (.pointer (some ⟨r, 0, none⟩)) := by rfl) (hy : ev E y = some (.agg (aI k ys).toArray) := by rfl)
    (hR : Ih r (.cells (aI k' xs).toArray T) (.cells (aI k ys).toArray T) L L' := by repeat (first | exact Ih.head | apply Ih.tail | apply Ih.app)) :
    sG P N D b0 Mk L E (.store t x y) ty L' .skip := Dm (l := aI k' xs) (l' := aI k ys) hS hx hy hR (by simp only [Ar]; exact gB (by simp [Ed, hn, hn'])) (by simp [Ar, Ed, hn]) (by simp only [Ar]; exact aA) (by simp [Ar, Ed, hn, hn'])
theorem zZ {e t : TypeId} {len : Nat} {x y : Operand} {k k' : IntKind} {p : Int} {xs : List Int} {m : Nat} (hU : ∀ w, (underlying t).run P w = .ok (.array len e) w) (hS : ∀ w, (sizeOf e).run P w = .ok 1 w) (hA : ∀ w, (isAgg e).run P w = .ok false w) (hx : ev E x = some (.agg (aI k xs).toArray) := by rfl) (hy : ev E y = some (.int k' p) := by rfl) (hi : p = (m : Int) := by first | rfl | omega) (hm : m < len := by omega) (hl : xs.length = len := by omega) :
    Cc P N D b0 Mk L E (.index t x y) ty (.int k (xs.getD m default)) := fun a w ha _ => by
  subst hi;have hg := kH (k := k) (xs := xs) (m := m) z6;simp [Bq, execOp, ha.eval hx, ha.eval hy, Instr.index, asIntOf, hU, hS, hm, part, hA, hg]
theorem kI {t e : TypeId} {len n : Nat} {x y : Operand} {k : IntKind} {p : Int} {r o : Nat} (l j c : Nat) (hU : ∀ w, (underlying t).run P w = .ok (.array len e) w) (hS : ∀ w, (sizeOf e).run P w = .ok n w) (hl : l < len) (hj : j = o + l * n) (hc : c = len - l) (hi : p = (l : Int)) (hx : ev E x = some (.pointer (some ⟨r, o, none⟩)) := by rfl) (hy : ev E y = some (.int k p) := by rfl) :
    Cc P N D b0 Mk L E (.slice t x (some y) none none) ty (.slice (some ⟨r, j, none⟩) c c) := fun a w ha _ => by
  subst hi hj hc;have h2 : ¬ len = l := by omega
  simp [Bq, execOp, ha.eval hx, ha.eval hy, Instr.sliceAt, Instr.sliceBounds, Instr.sliceBound, asIntOf, hU, hS, Instr.sureAddr, h2, Ay];intro h; omega
theorem kJ {t e : TypeId} {len n : Nat} {x y : Operand} {k : IntKind} {p : Int} {r o : Nat} (h : Nat) (hU : ∀ w, (underlying t).run P w = .ok (.array len e) w) (hS : ∀ w, (sizeOf e).run P w = .ok n w) (hh : h ≤ len) (h0 : 0 < len) (hi : p = (h : Int)) (hx : ev E x = some (.pointer (some ⟨r, o, none⟩)) := by rfl) (hy : ev E y = some (.int k p) := by rfl) :
    Cc P N D b0 Mk L E (.slice t x none (some y) none) ty (.slice (some ⟨r, o, none⟩) h len) := fun a w ha _ => by
  subst hi;have h2 : ¬ len = 0 := by omega
  simp [Bq, execOp, ha.eval hx, ha.eval hy, Instr.sliceAt, Instr.sliceBounds, Instr.sliceBound, asIntOf, hU, hS, Instr.sureAddr, h2, Ay];intro h; omega
theorem gE {t e : TypeId} {len n : Nat} {x : Operand} {r o : Nat} (hU : ∀ w, (underlying t).run P w = .ok (.array len e) w) (hS : ∀ w, (sizeOf e).run P w = .ok n w) (h0 : 0 < len) (hx : ev E x = some (.pointer (some ⟨r, o, none⟩)) := by rfl) :
    Cc P N D b0 Mk L E (.slice t x none none none) ty (.slice (some ⟨r, o, none⟩) len len) := fun a w ha _ => by
  have h2 : ¬ len = 0 := by omega
  simp [Bq, execOp, ha.eval hx, Instr.sliceAt, Instr.sliceBounds, hU, hS, Instr.sureAddr, Ay]
theorem P8 {t : TypeId} {x : Operand} {k : IntKind} {p : Int} (hx : ev E x = some (.int k p) := by rfl) (hk : k.signed = false := by rfl) : Cc P N D b0 Mk L E (.unOp .xor t x) ty (.int k (Jl k k.max p)) := fun a w ha _ => by
  simp [Bq, execOp, ha.eval hx, Op.unary, Op.intBits, hk, Jl]
theorem P9 {t : TypeId} {x : Operand} {k : IntKind} {p : Int} (hx : ev E x = some (.int k p) := by rfl) : Cc P N D b0 Mk L E (.unOp .neg t x) ty (.int k (k.wrap (0 - p))) := fun a w ha _ => by
  simp [Bq, execOp, ha.eval hx, Op.unary, Op.intArith]
def cJ (P : Program) (t : TypeId) (pl : List (Nat × Nat)) : Prop :=
  ∃ len e n, (∀ w, (underlying t).run P w = .ok (.array len e) w) ∧ (∀ w, (sizeOf e).run P w = .ok n w) ∧ ∀ (i : Nat) (q : Nat × Nat), pl[i]? = some q → q = (i * n, n)
theorem gF {t : TypeId} {z : Value} {pl : List (Nat × Nat)} {parts : List (Nat × Operand)} {ps : List (Nat × List Value)} {cs : List Value} (hz : ∀ w, (zeroValue t).run P w = .ok z w) (hp : cJ P t pl) (hv : O6 E parts = some ps := by rfl)
    (hf : Wv pl (Ar z) ps = some cs := by rfl) : Cc P N D b0 Mk L E (.build t parts.toArray) ty (.agg cs.toArray) := fun a w ha _ => by
  obtain ⟨len, e, n, hU, hS, hq⟩ := hp;have h1 := ha.evalp hv;subst h1;have := Ld pl (fun i => some (i * n, n)) (fun i q h => by rw [hq i q h]) (parts.map fun p => (p.1, a.eval p.2)) (Ar z) cs (by rw [List.map_map]; exact hf);simp only [Bq, execOp, Instr.build, Sem.run_bind, hz, hU, hS, Result.andThen_ok];have e : (Array.map (fun x => match x with | (i, x) => (i, a.eval x)) parts.toArray).toList = parts.map fun p => (p.1, a.eval p.2) := by simp
  simp only [Result.andThen_ok, Bh, e, this, Sem.run_pure]
def Li (s : Ep) : List Int := s.map fun b => (b.toNat : Int)
theorem Et {s : Ep} : (Li s).length = s.length := by simp [Li]
theorem cK : ∀ (xs : List Int), Cw Er xs = aI .u8 xs
  | [] => rfl
  | x :: r => by
    have := cK r;simp only [Cw, aI, List.map_cons, List.flatten_cons] at this ⊢;rw [this]; rfl
theorem nD {t e s' : TypeId} {u : TypeDesc} {x : Operand} {s : Ep} (hs : P.underlying s' = some u) (hU : P.underlying t = some (.slice e)) (hE : P.underlying e = some (.int .u8)) (hx : ev E x = some (.string (bs s)) := by rfl) :
    cF P N D b0 Mk L E (.convert s' t x) ty [] (Option Addr × Nat × Ad) (fun q => .value (.slice q.1 (Li s).length q.2.1)) (fun q => q.2.2) (fun q => Bg Er 1 e q.1 q.2.1 q.2.2 (Li s)) := fun a w ha hw => by
  have hr := Lib.run_convert_string_bytes (P := P) w s' t e (bs s) hs hU hE;have hb : (bs s).size = s.length := Eh s;have hge : s.length ≤ grownCap w s.length 0 e := by simpa using grownCap_ge w s.length 0 e
  have hbd : (bs s).data.toList = s := by simp [bs]
  have hcl : (Lib.bytesCells w e (bs s)).toList = aI .u8 (Li s) ++ List.replicate (grownCap w s.length 0 e - s.length) (.int .u8 0) := by
    simp [Lib.bytesCells, hb, aI, Li, hbd, List.map_map]
  have hsz : (Lib.bytesCells w e (bs s)).size = grownCap w s.length 0 e := by
    rw [← Array.length_toList, hcl]; simp [Ed, Et]; omega
  refine ⟨(some ⟨w.heap.size, 0, none⟩, grownCap w s.length 0 e, [(w.heap.size, .cells (Lib.bytesCells w e (bs s)) e ((Lib.bytesCells w e (bs s)).size, (Lib.bytesCells w e (bs s)).size + 1))]), Lib.bytesWorld w e (bs s), ?_, ?_, ?_⟩
  · simp [Bq, execOp, ha.eval hx, hr, hb, Et]
  · refine ⟨rfl, rfl, rfl, ?_, fun k hk _ => Lib.bytesWorld_at_old w e _ k hk, fun p hp => ?_, fun p hp => .inr ?_, by simp [keys]⟩
    · rw [Lib.bytesWorld_size]; omega
    · have : p = (w.heap.size, .cells (Lib.bytesCells w e (bs s)) e ((Lib.bytesCells w e (bs s)).size, (Lib.bytesCells w e (bs s)).size + 1)) := by simpa using hp
      subst this;exact Lib.bytesWorld_at_new w e _
    · have : p = (w.heap.size, .cells (Lib.bytesCells w e (bs s)) e ((Lib.bytesCells w e (bs s)).size, (Lib.bytesCells w e (bs s)).size + 1)) := by simpa using hp
      subst this;exact Nat.le_refl _
  · refine Bg.fullF (.inr (Nat.le_refl _)) (by simpa [Et] using hge) (by simp [hsz]) ?_;rw [hcl, cK, Nat.mul_one, ← Ed (k := .u8)];exact List.take_left' rfl
theorem gG {t e s' : TypeId} {u : TypeDesc} {x : Operand} {s : Ep} {l : List Oper} (hs : P.underlying s' = some u) (hU : P.underlying t = some (.slice e)) (hE : P.underlying e = some (.int .u8)) (hx : ev E x = some (.string (bs s)) := by rfl) (hd : Nat.blt d N = true := by rfl)
    (k : ∀ a2 c2 B2, Bg Er 1 e a2 c2 B2 (Li s) → JL P rd b0 Mk N D ops (B2 ++ L) ((d, .slice a2 (Li s).length c2) :: E) l T) :
    JL P rd b0 Mk N D ops L E ({ dst := some d, op := .convert s' t x, type := ty, pos := pos, after := after, guard := none } :: l) T :=
  zR (List.Perm.refl _) (nD hs hU hE hx) rfl hd (fun q hq => k q.1 q.2.1 q.2.2 hq)
def gH (xs : List Int) : Ep := xs.map fun x => UInt8.ofNat x.toNat
theorem Lj {xs : List Int} : (gH xs).length = xs.length := by simp [gH]
theorem nF : ∀ (s : Ep), gH (Li s) = s
  | [] => rfl
  | b :: r => by
    have := nF r;simp only [gH, Li, List.map_cons] at this ⊢;rw [this];simp
theorem Qu : ∀ (xs : List Int) (r : ByteArray), xs.foldl (fun r n => r.push (UInt8.ofNat n.toNat)) r = r ++ bs (gH xs)
  | [], r => by simp [gH, bs, ByteArray.ext_iff]
  | x :: xs, r => by
    rw [List.foldl_cons, Qu xs];simp [gH, bs, ByteArray.ext_iff, ByteArray.push]
theorem tG {t e s' : TypeId} {x : Operand} {a : Option Addr} {n c : Nat} {xs : List Int} (hs : P.underlying s' = some .string) (hU : P.underlying t = some (.slice e)) (hE : P.underlying e = some (.int .u8)) (hJ : Jk b0 Mk L Er 1 a xs) (hx : ev E x = some (.slice a n c) := by rfl) (hn : xs.length = n := by rfl) :
    Cc P N D b0 Mk L E (.convert t s' x) ty (.string (bs (gH xs))) := fun ac w ha hw => by
  subst hn;have hr : ∀ v, (Conv.bytesToString (.slice a xs.length c)).run P w = .ok v w → (execOp ac.eval (Bq (.convert t s' x) ty)).run P w = .ok (.value v) w := fun v hv => by
    simp [Bq, execOp, ha.eval hx, run_convert_bytes_string w t s' e a xs.length c hU hE hs, hv]
  apply hr;rcases a with _ | ad
  · have : xs = [] := Sl.none (hJ w hw);subst this;simp [Conv.bytesToString, gH, bs];rfl
  · have hl : (loadCells ad xs.length).run P w = .ok (xs.map (Value.int .u8)).toArray w := by
      have h1 := Sl.cells Ah (hJ w hw) xs.length (Nat.le_refl _);rw [List.take_length, cK] at h1;have := run_loadCells_list (P := P) w ad (aI .u8 xs) h1;rw [Ed] at this;exact this
    rw [run_bytesToString w ad xs.length c xs hl, Qu];simp
theorem A0 {t e : TypeId} {x y : Operand} {r r' o o' n n' c c' m : Nat} {l l' us src : List Value} {T T' : TypeId} {f' : Nat × Nat} (hU : ∀ w, (underlying t).run P w = .ok (.slice e) w) (hS : ∀ w, (sizeOf e).run P w = .ok 1 w) (hx : ev E x = some (.slice (some ⟨r, o, none⟩) n c)) (hy : ev E y = some (.slice (some ⟨r', o', none⟩) n' c'))
    (hL : (r, Obj.cells l.toArray T) ∈ L) (hm : (r', Obj.cells src.toArray T' f') ∈ L) (hn : Nat.min n' n = m) (hseg : fM src o' m = some us) (hl : Bv l o us = l') (ho : Bn us = true) (hk : Nat.ble (o + us.length) l.length = true) :
    cF P N D b0 Mk L E (.call { callee := .builtin .copy, args := #[x, y], argTypes := #[t, t] }) ty [(r, .cells l.toArray T)] Unit (fun _ => .value (.int .i64 m)) (fun _ => [(r, .cells l'.toArray T)]) (fun _ => True) := fun a w ha hw => by
  obtain ⟨h1, h2⟩ := Rs src m o' us hseg;have hld : (loadCells ⟨r', o', none⟩ m).run P w = .ok us.toArray w := by
    rw [← h1];exact run_loadCells_list w ⟨r', o', none⟩ us fun j v hj => by
      rw [Ay];exact hw.cell hm (h2 j v hj)
  have hw0 : w.heap[r]? = some (.cells l.toArray T (0, 0)) := hw.own _ hL;obtain ⟨w', g1, g2, g3, g4, g5, g6, g7⟩ := Nj (P := P) (r := r) (k := o) (T := T) us l 0 w hw0 ho (by simpa using hk);subst hl;refine ⟨(), w', ?_, ⟨g5, g6, g7, by omega, fun j _ hj => g3 j (fun e => hj (by subst e; simp [keys])), fun p hp => ?_, fun p hp => .inl ?_, by simp [keys]⟩, trivial⟩
  · simp [Bq, execOp, resolve, invoke, builtin, ha.eval hx, ha.eval hy, Builtin.copy_, hU, hS, Builtin.lenOf, hn, Builtin.firstCells, hld, g1, goInt]
  · have : p = (r, .cells (Bv l (o + 0) us).toArray T) := by simpa using hp
    subst this;simpa using g2
  · have : p = (r, .cells (Bv l (o + 0) us).toArray T) := by simpa using hp
    subst this;simp [keys]
theorem tH {t e : TypeId} {x y : Operand} {r r' o o' n n' c c' m : Nat} {l l' us src : List Value} {T' T2 : TypeId} {f' : Nat × Nat} {R : Ad} {lo : List (Bool × Oper)} (hU : ∀ w, (underlying t).run P w = .ok (.slice e) w) (hS : ∀ w, (sizeOf e).run P w = .ok 1 w)
    (hV : List.Perm V ((r, Obj.cells l.toArray T2) :: R)) (hm : (r', Obj.cells src.toArray T' f') ∈ V) (hx : ev E x = some (.slice (some ⟨r, o, none⟩) n c) := by rfl) (hy : ev E y = some (.slice (some ⟨r', o', none⟩) n' c') := by rfl) (hn : Nat.min n' n = m := by rfl) (hseg : fM src o' m = some us := by rfl) (hl : Bv l o us = l' := by rfl) (ho : Bn us = true := by rfl) (hk : Nat.ble (o + us.length) l.length = true := by rfl) (hd : Nat.blt d N = true := by rfl)
    (k : JD P rd b0 Mk N D ops L ((r, Obj.cells l'.toArray T2) :: R) ((d, .int .i64 m) :: E) lo T) :
    JD P rd b0 Mk N D ops L V E ((false, { dst := some d, op := .call { callee := .builtin .copy, args := #[x, y], argTypes := #[t, t] }, type := ty, pos := pos, after := after, guard := none }) :: lo) T :=
  AP6 (H := [(r, Obj.cells l.toArray T2)]) hV (A0 hU hS hx hy (List.mem_append_left _ (hV.mem_iff.2 List.mem_cons_self)) (List.mem_append_left _ hm) hn hseg hl ho hk) rfl hd (fun _ _ => k)
end
end Go.Proofs.YtbooaoddioibeaaGreatDoor.Jd

namespace Go.Proofs.YtbooaoddioibeaaGreatDoor.Jd
open Go.Proofs.Tryz
open Go.RowKit (Below)
set_option linter.unusedVariables false
set_option linter.unusedSimpArgs false
def A1 {κ : Type} (enc : κ → Value) (es : Array MapEntry) (xs : List κ) : Prop := sS enc es (xs.map fun q => (q, Value.bool true))
theorem A1.nil {κ : Type} {enc : κ → Value} : A1 enc #[] [] := rfl
section
variable {P : Program} {rd : Option Nat} {b0 : World} {Mk : List Nat} {N : Nat} {D : List Deferred} {ops : Array Oper} {L V : Ad} {E : Dq} {T : Act → World → Prop}
variable {op : Op} {ty : TypeId} {pos : String} {after : Array Edge} {d : Nat}
theorem Lk {l : List Oper} (h : JL P rd b0 Mk N D ops L E l T) : JD P rd b0 Mk N D ops L [] E [] (fun a w => Pk P rd ops T l a w) := bT h
end
end Go.Proofs.YtbooaoddioibeaaGreatDoor.Jd

namespace Go.Proofs.YtbooaoddioibeaaGreatDoor.Jd
open Go.Proofs.Tryz
open Go.ChangeShapes Go.WideShapes Go.ChangeAt Go.RowKit
set_option linter.unusedVariables false
set_option linter.unusedSimpArgs false
theorem A2 {P : Program} (w0 : World) {laid : List (String × DataW Unit)} (args : Array Value)
    (hf : w0.layFits P laid [] = true) (hi : w0.layIfaces P laid (w0.layVars P laid) = true) :
    laidMet P laid ((w0.layVars P laid).forCall (fun _ _ => 0) ⟨#[], args, []⟩).memory := by
  have e1 : (laid.filter fun x => (laid.map (·.1)).contains x.1) = laid := List.filter_eq_self.2 fun x hx => List.contains_iff_mem.2 (List.mem_map.2 ⟨x, hx, rfl⟩)
  have e2 : (laid.filter fun x => !(laid.map (·.1)).contains x.1) = [] := List.filter_eq_nil_iff.2 fun x hx => by rw [List.contains_iff_mem.2 (List.mem_map.2 ⟨x, hx, rfl⟩)]; simp
  have h : laidMet P laid (w0.layVars P laid) := laidMet_layVars (w0 := w0) (laid.map (·.1)) [] (by rw [e1]) (by rw [e1]; exact hf) (by rw [e1]; exact hi) (by rw [e2]; exact LaidIn.none);exact h.of_heap (by simp [World.memory, World.forCall, Input.heap])
end Go.Proofs.YtbooaoddioibeaaGreatDoor.Jd

namespace Go.Proofs.YtbooaoddioibeaaGreatDoor.Jd
open Go.Proofs.Tryz
open Go.RowKit (Below)
set_option linter.unusedVariables false
set_option linter.unusedSimpArgs false
def kK (a : Option Addr) (k lo c : Nat) : Option Addr := if c = lo then a else a.map fun x => x.add (lo * k)
theorem Sl.off {w : World} {α : Type} {enc : α → List Value} {k : Nat} {a : Option Addr} {xs : List α} (h : Sl w enc k a xs) (lo c : Nat) (hc : xs.length ≤ c) : Sl w enc k (kK a k lo c) (xs.drop lo) := fun i x hx => by
  rw [List.getElem?_drop] at hx;have hlt := (List.getElem?_eq_some_iff.1 hx).1;obtain ⟨b, off, rfl, h2, h3⟩ := h _ _ hx;refine ⟨b, off + lo * k, ?_, h2, fun j v hv => ?_⟩
  · simp only [kK];rw [if_neg z6, Option.map_some, Ay]
  · have := h3 j v hv;rw [Nat.add_mul] at this;rw [show off + lo * k + i * k + j = off + (lo * k + i * k) + j by omega];exact this
section
variable {b0 : World} {Mk : List Nat} {B L : Ad} {α : Type} {enc : α → List Value} {k : Nat} {a : Option Addr} {xs : List α}
theorem Jk.off (h : Jk b0 Mk L enc k a xs) (lo c : Nat) (hc : xs.length ≤ c) : Jk b0 Mk L enc k (kK a k lo c) (xs.drop lo) := fun w hw => (h w hw).off lo c hc
theorem kG.off (h : kG b0 B enc k a xs) (lo c : Nat) (hc : xs.length ≤ c) : kG b0 B enc k (kK a k lo c) (xs.drop lo) := fun w he hw => (h w he hw).off lo c hc
theorem Bg.nd {e : TypeId} {c : Nat} (h : Bg enc k e a c B xs) : (B.map Prod.fst).Nodup := by
  rcases h with ⟨_, rfl, _⟩ | ⟨r, cur, fz, _, rfl, _⟩ <;> simp
end
end Go.Proofs.YtbooaoddioibeaaGreatDoor.Jd

namespace Go.Proofs.YtbooaoddioibeaaGreatDoor.Jd
open Go.Proofs.Tryz
open Go.RowKit (Below)
set_option linter.unusedVariables false
set_option linter.unusedSimpArgs false
theorem lb {p : Prop} (h : p := by first | omega | (simp only [List.length_append, List.length_take, List.length_drop, List.length_set, List.length_replicate, List.length_cons, List.length_nil, List.length_map, Lj, Et]; omega) | (simp only [List.length_append, List.length_take, List.length_drop, List.length_set, List.length_replicate, List.length_cons, List.length_nil, List.length_map, Lj, Et] at *; omega)) : p := h
theorem ix {p : Prop} (h : p := by first | omega | (simp only [List.length_set]; omega) | (simp only [List.length_append, List.length_take, List.length_drop, List.length_set, List.length_replicate, List.length_cons, List.length_nil, List.length_map, Lj, Et]; omega)) : p := h
theorem se {E E' : Dq} (h : Kj E E' := by repeat (first | exact Kj.nil | refine Kj.cons rfl ?_)) : Kj E E' := h
theorem me {α : Type} {p : α} {l : List α} (h : p ∈ l := by repeat (first | exact List.mem_cons_self | apply List.mem_cons_of_mem | apply List.mem_append_right)) : p ∈ l := h
theorem q0 {l : Ad} : List.Perm l l := List.Perm.refl _
theorem qa {x a : Nat × Obj} {t r : Ad} (p : List.Perm t (a :: r)) : List.Perm (x :: t) (a :: x :: r) := (List.Perm.cons _ p).trans (List.Perm.swap _ _ _)
theorem qb {x : Nat × Obj} {t r S : Ad} (p : List.Perm t (S ++ r)) : List.Perm (x :: t) (S ++ (x :: r)) := (List.Perm.cons _ p).trans List.perm_middle.symm
theorem qc {a : Nat × Obj} {t r S : Ad} (p : List.Perm t (a :: r)) : List.Perm (S ++ t) (a :: (S ++ r)) := (List.Perm.append_left _ p).trans List.perm_middle
theorem qd {t r S U : Ad} (p : List.Perm t (U ++ r)) : List.Perm (S ++ t) (U ++ (S ++ r)) := (List.Perm.append_left _ p).trans (sU _ _ _)
end Go.Proofs.YtbooaoddioibeaaGreatDoor.Jd

namespace Go.Proofs.YtbooaoddioibeaaGreatDoor.Jd
open Go.Proofs.Tryz
open Go.RowKit (Below)
set_option linter.unusedVariables false
set_option linter.unusedSimpArgs false
def kL {α β : Type} (D : World → α → β → Prop) : Prop := ∀ w w' x t, (∀ p v, w.cell? p = some v → w'.cell? p = some v) → D w x t → D w' x t
def nG (w : World) {α β : Type} [Inhabited α] [Inhabited β] (enc : α × β → List Value) (k : Nat) (D : World → α → β → Prop) (a : Option Addr) (xs : List α) (ts : List β) : Prop :=
  ts.length = xs.length ∧ Sl w enc k a (List.zip xs ts) ∧ ∀ i, i < xs.length → D w (xs.getD i default) (ts.getD i default)
def Qf (b0 : World) (Mk : List Nat) (L : Ad) {α β : Type} [Inhabited α] [Inhabited β] (enc : α × β → List Value) (k : Nat) (D : World → α → β → Prop) (a : Option Addr) (xs : List α) (ts : List β) : Prop :=
  ts.length = xs.length ∧ ∀ w, SH b0 Mk L w → nG w enc k D a xs ts
def Nu (b0 : World) (B : Ad) {α β : Type} [Inhabited α] [Inhabited β] (enc : α × β → List Value) (k : Nat) (D : World → α → β → Prop) (a : Option Addr) (xs : List α) (ts : List β) : Prop :=
  ts.length = xs.length ∧ ∀ w, jW b0 w → (∀ p ∈ B, w.heap[p.1]? = some p.2) → nG w enc k D a xs ts
def Ua (B : Ad) {α β : Type} [Inhabited α] [Inhabited β] (enc : α × β → List Value) (k : Nat) (D : World → α → β → Prop) (a : Option Addr) (xs : List α) (ts : List β) : Prop :=
  ts.length = xs.length ∧ ∀ w : World, (∀ p ∈ B, w.heap[p.1]? = some p.2) → nG w enc k D a xs ts
def Fh (B : Ad) {α β : Type} [Inhabited α] [Inhabited β] (D : World → α → β → Prop) (xs : List α) (ts : List β) : Prop :=
  ts.length = xs.length ∧ ∀ w : World, (∀ p ∈ B, w.heap[p.1]? = some p.2) → ∀ i, i < xs.length → D w (xs.getD i default) (ts.getD i default)
theorem pY {w w' : World} (he : jW w w') : ∀ p v, w.cell? p = some v → w'.cell? p = some v := fun p v h => Ru h (he.block _ (World.block_lt_of_cell? w _ h))
theorem A3 {α β : Type} {xs : List α} {ts : List β} (hl : ts.length = xs.length) : (List.zip xs ts).length = xs.length := by rw [List.length_zip]; omega
theorem Ll {α : Type} [Inhabited α] {xs : List α} {i n : Nat} (h : i < n) : (xs.take n).getD i default = xs.getD i default := by
  rw [List.getD_eq_getElem?_getD, List.getD_eq_getElem?_getD, List.getElem?_take, if_pos h]
theorem Lm {α : Type} [Inhabited α] {xs : List α} {i n : Nat} : (xs.drop n).getD i default = xs.getD (n + i) default := by
  rw [List.getD_eq_getElem?_getD, List.getD_eq_getElem?_getD, List.getElem?_drop]
theorem Rz {α : Type} [Inhabited α] {xs ys : List α} {i : Nat} : (xs ++ ys).getD i default = if i < xs.length then xs.getD i default else ys.getD (i - xs.length) default := by
  simp only [List.getD_eq_getElem?_getD];by_cases h : i < xs.length
  · rw [if_pos h, List.getElem?_append_left h]
  · rw [if_neg h, List.getElem?_append_right z6]
section
variable {α β : Type} [Inhabited α] [Inhabited β] {enc : α × β → List Value} {k : Nat} {D : World → α → β → Prop} {a : Option Addr} {xs : List α} {ts : List β} {b0 : World} {Mk : List Nat} {B L : Ad}
theorem nG.ext {w w' : World} (hD : kL D) (h : nG w enc k D a xs ts) (he : jW w w') : nG w' enc k D a xs ts := ⟨h.1, h.2.1.ext he, fun i hi => hD _ _ _ _ (pY he) (h.2.2 i hi)⟩
theorem Qf.of_base (hD : kL D) (h : nG b0 enc k D a xs ts) : Qf b0 [] L enc k D a xs ts := ⟨h.1, fun _ hw => h.ext hD hw.ext_out⟩
theorem Nu.base (hD : kL D) (h : nG b0 enc k D a xs ts) : Nu b0 B enc k D a xs ts := ⟨h.1, fun _ he _ => h.ext hD he⟩
theorem Qf.nil : Qf b0 Mk L enc k D a ([] : List α) ([] : List β) := ⟨rfl, fun _ _ => ⟨rfl, Sl.nil, fun i hi => by simp at hi⟩⟩
theorem Nu.nil : Nu b0 B enc k D a ([] : List α) ([] : List β) := ⟨rfl, fun _ _ _ => ⟨rfl, Sl.nil, fun i hi => by simp at hi⟩⟩
theorem Ua.nil : Ua B enc k D a ([] : List α) ([] : List β) := ⟨rfl, fun _ _ => ⟨rfl, Sl.nil, fun i hi => by simp at hi⟩⟩
theorem Nu.j (h : Nu b0 B enc k D a xs ts) (hB : ∀ p ∈ B, p ∈ L := by intro p hp; repeat (first | exact hp | exact List.mem_append_left _ hp | apply List.mem_append_right | apply List.mem_cons_of_mem)) : Qf b0 [] L enc k D a xs ts := ⟨h.1, fun w hw => h.2 w hw.ext_out fun p hp => hw.own p (hB p hp)⟩
theorem Ua.j (h : Ua B enc k D a xs ts) (hB : ∀ p ∈ B, p ∈ L := by intro p hp; repeat (first | exact hp | exact List.mem_append_left _ hp | apply List.mem_append_right | apply List.mem_cons_of_mem)) : Qf b0 Mk L enc k D a xs ts := ⟨h.1, fun w hw => h.2 w fun p hp => hw.own p (hB p hp)⟩
theorem Ua.mono {B' : Ad} (h : Ua B enc k D a xs ts) (hB : ∀ p ∈ B, p ∈ B') : Ua B' enc k D a xs ts := ⟨h.1, fun w hw => h.2 w fun p hp => hw p (hB p hp)⟩
theorem Nu.mono {B' : Ad} (h : Nu b0 B enc k D a xs ts) (hB : ∀ p ∈ B, p ∈ B' := by intro p hp; repeat (first | exact hp | exact List.mem_append_left _ hp | apply List.mem_append_right | apply List.mem_cons_of_mem)) : Nu b0 B' enc k D a xs ts := ⟨h.1, fun w he hw => h.2 w he fun p hp => hw p (hB p hp)⟩
theorem Qf.sl (h : Qf b0 Mk L enc k D a xs ts) : Jk b0 Mk L enc k a (List.zip xs ts) := fun w hw => (h.2 w hw).2.1
theorem Qf.at (h : Qf b0 Mk L enc k D a xs ts) {m : Nat} (hm : m < xs.length) : ∀ w, SH b0 Mk L w → D w (xs.getD m default) (ts.getD m default) := fun w hw => (h.2 w hw).2.2 m hm
theorem Nu.at (h : Nu b0 B enc k D a xs ts) {m : Nat} (hm : m < xs.length) : ∀ w, jW b0 w → (∀ p ∈ B, w.heap[p.1]? = some p.2) → D w (xs.getD m default) (ts.getD m default) := fun w he hw => (h.2 w he hw).2.2 m hm
theorem Ua.at (h : Ua B enc k D a xs ts) {m : Nat} (hm : m < xs.length) : ∀ w : World, (∀ p ∈ B, w.heap[p.1]? = some p.2) → D w (xs.getD m default) (ts.getD m default) := fun w hw => (h.2 w hw).2.2 m hm
theorem tI {α β : Type} {xs : List α} {ts : List β} (n : Nat) : (List.zip xs ts).take n = List.zip (xs.take n) (ts.take n) := List.take_zipWith
theorem tJ {α β : Type} {xs : List α} {ts : List β} (n : Nat) : (List.zip xs ts).drop n = List.zip (xs.drop n) (ts.drop n) := List.drop_zipWith
theorem nG.take {w : World} (h : nG w enc k D a xs ts) (n : Nat) : nG w enc k D a (xs.take n) (ts.take n) := by
  refine ⟨by rw [List.length_take, List.length_take, h.1], ?_, fun i hi => ?_⟩
  · rw [← tI];intro i x hx;refine h.2.1 i x ?_;rw [List.getElem?_take] at hx;split at hx
    · exact hx
    · cases hx
  · rw [List.length_take] at hi;rw [Ll z6, Ll z6];exact h.2.2 i z6
theorem nG.off {w : World} (h : nG w enc k D a xs ts) (lo c : Nat) (hc : xs.length ≤ c) : nG w enc k D (kK a k lo c) (xs.drop lo) (ts.drop lo) := by
  refine ⟨by rw [List.length_drop, List.length_drop, h.1], ?_, fun i hi => ?_⟩
  · rw [← tJ];exact h.2.1.off lo c (by rw [A3 h.1]; exact hc)
  · rw [List.length_drop] at hi;rw [Lm, Lm];exact h.2.2 _ z6
theorem Qf.take (h : Qf b0 Mk L enc k D a xs ts) (n : Nat) : Qf b0 Mk L enc k D a (xs.take n) (ts.take n) := ⟨by rw [List.length_take, List.length_take, h.1], fun w hw => (h.2 w hw).take n⟩
theorem Nu.take (h : Nu b0 B enc k D a xs ts) (n : Nat) : Nu b0 B enc k D a (xs.take n) (ts.take n) := ⟨by rw [List.length_take, List.length_take, h.1], fun w he hw => (h.2 w he hw).take n⟩
theorem Ua.take (h : Ua B enc k D a xs ts) (n : Nat) : Ua B enc k D a (xs.take n) (ts.take n) := ⟨by rw [List.length_take, List.length_take, h.1], fun w hw => (h.2 w hw).take n⟩
theorem Qf.off (h : Qf b0 Mk L enc k D a xs ts) (lo c : Nat) (hc : xs.length ≤ c) : Qf b0 Mk L enc k D (kK a k lo c) (xs.drop lo) (ts.drop lo) := ⟨by rw [List.length_drop, List.length_drop, h.1], fun w hw => (h.2 w hw).off lo c hc⟩
theorem Nu.off (h : Nu b0 B enc k D a xs ts) (lo c : Nat) (hc : xs.length ≤ c) : Nu b0 B enc k D (kK a k lo c) (xs.drop lo) (ts.drop lo) := ⟨by rw [List.length_drop, List.length_drop, h.1], fun w he hw => (h.2 w he hw).off lo c hc⟩
theorem Fh.nil : Fh B D ([] : List α) ([] : List β) := ⟨rfl, fun _ _ i hi => by simp at hi⟩
theorem Fh.mono {B' : Ad} (h : Fh B D xs ts) (hB : ∀ p ∈ B, p ∈ B' := by intro p hp; repeat (first | exact hp | exact List.mem_append_left _ hp | apply List.mem_append_right | apply List.mem_cons_of_mem)) : Fh B' D xs ts := ⟨h.1, fun w hw => h.2 w fun p hp => hw p (hB p hp)⟩
theorem Fh.append {ys : List α} {us : List β} (h : Fh B D xs ts) (h2 : Fh B D ys us) : Fh B D (xs ++ ys) (ts ++ us) := by
  refine ⟨by rw [List.length_append, List.length_append, h.1, h2.1], fun w hw i hi => ?_⟩;rw [Rz, Rz, h.1];rw [List.length_append] at hi;by_cases hc : i < xs.length
  · rw [if_pos hc, if_pos hc]; exact h.2 w hw i hc
  · rw [if_neg hc, if_neg hc]; exact h2.2 w hw _ z6
theorem Fh.take (h : Fh B D xs ts) (n : Nat) : Fh B D (xs.take n) (ts.take n) := by
  refine ⟨by rw [List.length_take, List.length_take, h.1], fun w hw i hi => ?_⟩;rw [List.length_take] at hi;rw [Ll z6, Ll z6];exact h.2 w hw i z6
theorem Fh.drop (h : Fh B D xs ts) (n : Nat) : Fh B D (xs.drop n) (ts.drop n) := by
  refine ⟨by rw [List.length_drop, List.length_drop, h.1], fun w hw i hi => ?_⟩;rw [List.length_drop] at hi;rw [Lm, Lm];exact h.2 w hw _ z6
theorem Fh.one {x : α} {t : β} (h : ∀ w : World, (∀ p ∈ B, w.heap[p.1]? = some p.2) → D w x t) : Fh B D [x] [t] := ⟨rfl, fun w hw i hi => by
  have : i = 0 := by simp at hi; omega
  subst this; exact h w hw⟩
theorem Fh.of (h : Ua B enc k D a xs ts) : Fh B D xs ts := ⟨h.1, fun w hw => (h.2 w hw).2.2⟩
theorem Fh.repl {n : Nat} (h : ∀ w, D w default default) : Fh B D (List.replicate n (default : α)) (List.replicate n (default : β)) := ⟨by simp, fun w _ i hi => by
  have e1 : (List.replicate n (default : α)).getD i default = default := by rw [List.getD_eq_getElem?_getD, List.getElem?_replicate]; split <;> rfl
  have e2 : (List.replicate n (default : β)).getD i default = default := by rw [List.getD_eq_getElem?_getD, List.getElem?_replicate]; split <;> rfl
  rw [e1, e2]; exact h w⟩
end
section
variable {P : Program} {b0 : World} {Mk : List Nat} {N : Nat} {D : List Deferred} {L V : Ad} {E : Dq} {ty : TypeId}
theorem A1.len {κ : Type} {enc : κ → Value} {es : Array MapEntry} {xs : List κ} (h : A1 enc es xs) : es.size = xs.length := by
  have := congrArg List.length h;simpa using this
end
end Go.Proofs.YtbooaoddioibeaaGreatDoor.Jd

namespace Go.Proofs.YtbooaoddioibeaaGreatDoor.Jd
open Go.Proofs.Tryz
open Go.RowKit (Below)
set_option linter.unusedVariables false
set_option linter.unusedSimpArgs false
abbrev vs (a : Option Addr) (n c : Nat) : Value := .slice a n c
theorem nE {L : Ad} : ([] : Ad) ++ L = L := rfl
theorem nC {a : Nat × Obj} {V L X : Ad} (h : V ++ L = X) : (a :: V) ++ L = a :: X := h ▸ rfl
theorem nA {B V L X : Ad} (h : V ++ L = X) : (B ++ V) ++ L = B ++ X := by rw [List.append_assoc, h]
theorem vp {L L2 V L' : Ad} (p : List.Perm L L2) (e : V ++ L' = L2) : List.Perm L (V ++ L') := e ▸ p
theorem eqp {L L' : Ad} (e : L = L') : List.Perm L L' := .of_eq e
theorem A4 {A B C : Ad} (h1 : ∀ p ∈ A, p ∈ C) (h2 : ∀ p ∈ B, p ∈ C) : ∀ p ∈ A ++ B, p ∈ C := fun p hp => (List.mem_append.1 hp).elim (h1 p) (h2 p)
theorem tK {C : Ad} : ∀ p ∈ ([] : Ad), p ∈ C := fun p hp => by cases hp
theorem A5 {r : Nat} {o : Obj} {C : Ad} (h : (r, o) ∈ C) : ∀ p ∈ [(r, o)], p ∈ C := fun p hp => by
  rw [List.mem_singleton] at hp; subst hp; exact h
theorem sh {A C : Ad} (h : ∀ p ∈ A, p ∈ C := by
    (repeat' (first | exact tK | refine A4 ?_ ?_ | refine A5 ?_)) <;>
    first
    | (intro p hp; (repeat (first | exact hp | exact List.mem_append_left _ hp | apply List.mem_append_right | apply List.mem_cons_of_mem)); done)
    | ((repeat (first | exact List.mem_cons_self | apply List.mem_cons_of_mem | apply List.mem_append_right)); done)
    | (intro p hp; simp_all; done)) : ∀ p ∈ A, p ∈ C := h
end Go.Proofs.YtbooaoddioibeaaGreatDoor.Jd

namespace Go.Proofs.YtbooaoddioibeaaGreatDoor.Jd
open Go.Proofs.Tryz
open Go.ChangeShapes Go.WideShapes Go.ChangeAt Go.RowKit
set_option linter.unusedVariables false
set_option linter.unusedSimpArgs false
section
variable {H : Type} {encH : TypeId × Value → H} {P : Program} {W : World}
def tL {H : Type} (x : Int × Ep × Int) : DataW H := .agg [.lit (.int .i64 x.1), .lit (.string x.2.1), .lit (.int .i64 x.2.2)]
def tM (x : Int × Ep × Int) : List Value := [.int .i64 x.1, .string (bs x.2.1), .int .i64 x.2.2]
theorem pZ {base : Nat} {sp : Nat → Bool} {held : Bool} {fuel : Nat} {e : TypeId} {fs : Array Field} {f0 f1 f2 : Field} {cs : List Value} {x : Int × Ep × Int} {ps : List MemPlace} (hs : P.underlying e = some (.struct fs)) (hfs : fs = #[f0, f1, f2]) (hce : P.cellsOf e = 3)
    (o0 : f0.offset = 0) (o1 : f1.offset = 1) (o2 : f2.offset = 2) (t0 : P.underlying f0.type = some (.int .i64)) (t1 : P.underlying f1.type = some .string) (t2 : P.underlying f2.type = some (.int .i64)) (c0 : P.cellsOf f0.type = 1) (c1 : P.cellsOf f1.type = 1) (c2 : P.cellsOf f2.type = 1)
    (h : DataW.trod encH P W base sp held fuel e cs = some (tL x, ps)) : cs = tM x := by
  subst hfs;obtain ⟨xs, m, _, hx, hlen, hxl, hf⟩ := DataW.trod_struct hs h;have hxl' : xs.length = 3 := by simpa using hxl
  rw [hce] at hlen;obtain ⟨x0, x1, x2, rfl⟩ : ∃ x0 x1 x2, xs = [x0, x1, x2] := by
    match xs, hxl' with
    | [a, b, c], _ => exact ⟨a, b, c, rfl⟩
  obtain ⟨v0, v1, v2, rfl⟩ : ∃ v0 v1 v2, cs = [v0, v1, v2] := by
    match cs, hlen with
    | [a, b, c], _ => exact ⟨a, b, c, rfl⟩
  have e0 : _ = some x0 := hf 0 f0 rfl;have e1 : _ = some x1 := hf 1 f1 rfl;have e2 : _ = some x2 := hf 2 f2 rfl;rw [o0, c0] at e0;rw [o1, c1] at e1;rw [o2, c2] at e2;obtain ⟨n0, q0, r0, _⟩ := DataW.trod_int t0 e0;obtain ⟨s1, q1, r1, _⟩ := DataW.trod_string t1 e1;obtain ⟨n2, q2, r2, _⟩ := DataW.trod_int t2 e2;have hd := congrArg Prod.fst hx;simp only [tL, r0, r1, r2, List.map_cons, List.map_nil, DataW.agg.injEq, List.cons.injEq, DataW.lit.injEq, Lit.int.injEq, Lit.string.injEq, true_and, and_true] at hd;obtain ⟨d0, d1, d2⟩ := hd;simp at q0 q1 q2;rw [q0, q1, q2, ← d0, ← d2, AE5 s1, ← d1];rfl
theorem A6 {name : String} {l : List (Int × Ep × Int)} {rest : List (String × DataW Unit)} {g : Nat} {t e : TypeId} {n : Nat} {fs : Array Field} {f0 f1 f2 : Field} (hg : P.globalNamed name = some g) (hty : (P.globals[g]?).map (·.type) = some t) (ht : P.underlying t = some (.array n e)) (hs : P.underlying e = some (.struct fs)) (hfs : fs = #[f0, f1, f2]) (hce : P.cellsOf e = 3) (hct : P.cellsOf t = 3 * n)
    (o0 : f0.offset = 0) (o1 : f1.offset = 1) (o2 : f2.offset = 2) (t0 : P.underlying f0.type = some (.int .i64)) (t1 : P.underlying f1.type = some .string) (t2 : P.underlying f2.type = some (.int .i64)) (c0 : P.cellsOf f0.type = 1) (c1 : P.cellsOf f1.type = 1) (c2 : P.cellsOf f2.type = 1) (hl : l.length = n)
    (h : laidMet P ((name, .agg (l.map tL)) :: rest) W) : W.var? P name = some (l.flatMap tM).toArray := by
  obtain ⟨ps, ⟨g', t', cs, fuel, p, q, hg', ht', hvar, hd, _, _⟩, _⟩ := h;obtain rfl := Option.some.inj (hg.symm.trans hg');obtain rfl := Option.some.inj (hty.symm.trans ht');refine hvar.trans (congrArg some ?_);obtain ⟨xs, m, _, hx, hlen, hxl, hf⟩ := DataW.trod_array ht hd;rw [hct] at hlen;rw [hce] at hf;have hdx : xs.map (·.1) = l.map tL := by
    have := congrArg Prod.fst hx;simpa using this.symm
  have row : ∀ i (hi : i < n), (cs.toList.drop (i * 3)).take 3 = tM (l.getD i default) := fun i hi => by
    have h1 := hf i hi;rw [List.getElem?_eq_getElem z6] at h1;have h2 : xs[i].1 = tL (l.getD i default) := by
      have := congrArg (·[i]?) hdx;simpa [show i < xs.length by omega, show i < l.length by omega, List.getD] using this
    exact pZ hs hfs hce o0 o1 o2 t0 t1 t2 c0 c1 c2 (x := l.getD i default) (ps := xs[i].2) (by rw [h1, ← h2])
  have key : ∀ (l : List (Int × Ep × Int)) (cs : List Value), cs.length = 3 * l.length → (∀ i, i < l.length → (cs.drop (i * 3)).take 3 = tM (l.getD i default)) → cs = l.flatMap tM := by
    intro l
    induction l with
    | nil => intro cs hc _; simpa using hc
    | cons x r ih =>
      intro cs hc hr;have h0 := hr 0 Jy;simp at h0;rw [List.flatMap_cons, ← List.take_append_drop 3 cs, h0];congr 1;refine ih (cs.drop 3) (by simp at hc ⊢; omega) fun i hi => ?_
      have := hr (i + 1) (by simp; omega);rw [List.drop_drop, show 3 + i * 3 = (i + 1) * 3 by omega, this];simp
  have := key l cs.toList (by rw [hl]; simpa using hlen) (fun i hi => row i z6);rw [← this]
end
end Go.Proofs.YtbooaoddioibeaaGreatDoor.Jd

namespace Go.Proofs.YtbooaoddioibeaaGreatDoor.Jd
open Go.Proofs.Tryz
open Go.Proofs
set_option linter.unusedVariables false
set_option linter.unusedSimpArgs false
def AE6 (B : Ad) {α : Type} (enc : α → List Value) (k : Nat) (a : Option Addr) (c : Nat) (xs : List α) : Prop := ∀ w : World, (∀ p ∈ B, w.heap[p.1]? = some p.2) → Sl w enc k a xs ∧ xs.length ≤ c
theorem AE6.nil {B : Ad} {α : Type} {enc : α → List Value} {k : Nat} {a : Option Addr} {c : Nat} : AE6 B enc k a c ([] : List α) := fun _ _ => ⟨Sl.nil, Nat.zero_le _⟩
end Go.Proofs.YtbooaoddioibeaaGreatDoor.Jd

namespace Go.Proofs
open Go.Shelf
open Go.RowKit in
set_option linter.unusedVariables false
set_option linter.unusedSimpArgs false
def Tryz.lays156_ren : Go.Shelf.Ren := ⟨fun | 156 => 202 | 165 => 253 | 166 => 254 | 169 => 255 | 240 => 310 | 241 => 311 | 276 => 364 | 277 => 365 | n => n, fun | 31 => 260 | 9 => 9 | 3 => 3 | 4 => 4 | 0 => 0 | 20 => 20 | 72 => 414 | 76 => 415 | 70 => 412 | 37 => 38 | 75 => 55 | 127 => 477 | 164 => 288 | 5 => 5 | 80 => 196 | n => n, fun | n => n⟩
theorem Tryz.lays156 : Go.Proofs.Lays.n156 Tryz.prog Tryz.lays156_ren := {
  mixed := by kernel_rfl
  f156 := func202.trans (congrArg some (by kernel_rfl))
  f165 := func253.trans (congrArg some (by kernel_rfl))
  f166 := func254.trans (congrArg some (by kernel_rfl))
  f169 := func255.trans (congrArg some (by kernel_rfl))
  f240 := func310.trans (congrArg some (by kernel_rfl))
  f241 := func311.trans (congrArg some (by kernel_rfl))
  f276 := func364.trans (congrArg some (by kernel_rfl))
  f277 := func365.trans (congrArg some (by kernel_rfl))
  t0 := underlying0
  a0 := isAgg0
  z0 := sizeOf0
  v0 := zeroValue0
  t3 := underlying3
  a3 := isAgg3
  z3 := sizeOf3
  v3 := zeroValue3
  t4 := underlying4
  a4 := isAgg4
  z4 := sizeOf4
  v4 := zeroValue4
  t9 := underlying9
  a9 := isAgg9
  z9 := sizeOf9
  v9 := zeroValue9
  t20 := underlying20
  a20 := isAgg20
  z20 := sizeOf20
  v20 := zeroValue20
  t31 := underlying260
  a31 := isAgg260
  z31 := sizeOf260
  v31 := zeroValue260
  t37 := underlying38
  a37 := isAgg38
  z37 := sizeOf38
  v37 := zeroValue38
  t70 := underlying412
  a70 := isAgg412
  z70 := sizeOf412
  v70 := zeroValue412
  t72 := underlying414
  a72 := isAgg414
  z72 := sizeOf414
  v72 := zeroValue414
  t75 := underlying55
  a75 := isAgg55
  z75 := sizeOf55
  v75 := zeroValue55
  t76 := underlying415
  a76 := isAgg415
  z76 := sizeOf415
  v76 := zeroValue415
  t127 := underlying477
  a127 := isAgg477
  z127 := sizeOf477
  v127 := zeroValue477
  t164 := underlying288
  a164 := isAgg288
  z164 := sizeOf288
  v164 := zeroValue288 }
theorem Tryz.Builder_Extra_156 : Builder.Extra Tryz.prog Tryz.lays156_ren := {
  sizeBuilder := by kernel_rfl
  liesBuilder := by kernel_rfl
  t5 := underlying5
  a5 := isAgg5
  z5 := sizeOf5
  v5 := zeroValue5
  infoByte := by kernel_rfl
  cellsByte := by kernel_rfl
  sizeByte := by kernel_rfl
  neB5 := by decide }
open Go.RowKit in
theorem Tryz.strings_Join_none (a : Option Addr) (c : Nat) (sep : ByteArray) (w : World) :
    Calls Tryz.prog 202 #[.slice a 0 c, .string sep] w fun e w' => e = .returned (.string ⟨#[]⟩) ∧ w' = w := Any.strings_Join_none Tryz.lays156 Tryz.Builder_Extra_156 a c sep w
open Go.RowKit in
theorem Tryz.strings_Join (bk o c : Nat) (xs : List ByteArray) (sep : ByteArray) (w : World) (hcells : ∀ (j : Nat) x, xs[j]? = some x → w.cell? ⟨bk, o + j, none⟩ = some (.string x)) (hbk : bk < w.heap.size) (hN : xs.length ≤ 140737488355328) (hcap : xs.length ≤ c) (hlen : (Lib.join (xs.map (·.data.toList)) sep.data.toList).length ≤ 140737488355328) :
    Calls Tryz.prog 202 #[.slice (some ⟨bk, o, none⟩) xs.length c, .string sep] w fun e w' => e = .returned (.string ⟨(Lib.join (xs.map (·.data.toList)) sep.data.toList).toArray⟩) ∧ Below w.heap.size w w' := Any.strings_Join Tryz.lays156 Tryz.Builder_Extra_156 bk o c xs sep w hcells hbk hN hcap hlen
end Go.Proofs

namespace Go.Proofs.YtbooaoddioibeaaGreatDoor.Jd
open Go.Proofs.Tryz
open Go.Proofs
open Go.RowKit (Below)
set_option maxRecDepth 100000
set_option maxHeartbeats 8000000
set_option linter.unusedVariables false
set_option linter.unusedSimpArgs false
def Ln : List Int := [1116352408, 1899447441, 3049323471, 3921009573, 961987163, 1508970993, 2453635748, 2870763221, 3624381080, 310598401, 607225278, 1426881987, 1925078388, 2162078206, 2614888103, 3248222580, 3835390401, 4022224774, 264347078, 604807628, 770255983, 1249150122, 1555081692, 1996064986, 2554220882, 2821834349, 2952996808, 3210313671, 3336571891, 3584528711, 113926993, 338241895, 666307205, 773529912, 1294757372, 1396182291, 1695183700, 1986661051, 2177026350, 2456956037, 2730485921, 2820302411, 3259730800, 3345764771, 3516065817, 3600352804, 4094571909, 275423344, 430227734, 506948616, 659060556, 883997877, 958139571, 1322822218, 1537002063, 1747873779, 1955562222, 2024104815, 2227730452, 2361852424, 2428436474, 2756734187, 3204031479, 3329325298]
theorem kM : Ln.length = 64 := rfl
def Q0 (x : Int) (k : Int) : Int := (orI .u32 (sY .u32 x (Lg .u64 (IntKind.u64.wrap k) 31)) (Aa .u32 x (IntKind.u64.wrap (32 - (Lg .u64 (IntKind.u64.wrap k) 31)))))
def Lo (w_ : Int) (n_ : Int) : Int := (Q0 w_ (IntKind.wrap .i64 (0 - n_)))
def A7 (w_ : Int) (a : Int) (b : Int) (c : Int) : Int := (Jl .u32 (Jl .u32 (Lo w_ a) (Lo w_ b)) (Lo w_ c))
def nH (w_ : Int) : Int := (Jl .u32 (Jl .u32 (Lo w_ 7) (Lo w_ 18)) (Aa .u32 w_ 3))
def nI (w_ : Int) : Int := (Jl .u32 (Jl .u32 (Lo w_ 17) (Lo w_ 19)) (Aa .u32 w_ 10))
def cM (w_ : Int) : Int := (A7 w_ 2 13 22)
def Ub (w_ : Int) : Int := (A7 w_ 6 11 25)
def Ip (b : Ep) (x_1 : Nat) (x_2 : List Int) : Nat → Nat → List Int → Nat × (List Int)
  | 0, x_7, x_8 => (x_7, x_8)
  | n_9 + 1, x_7, x_8 => (if ((x_7 : Nat) : Int) < ((((Li ((b.take ((4 * x_1) + 4)).drop (4 * x_1))).length) : Nat) : Int) then (Ip b x_1 x_2 n_9 (x_7 + 1) (x_8.set x_1 (orI .u32 (sY .u32 (x_8.getD x_1 default) 8) (IntKind.u32.wrap ((Li ((b.take ((4 * x_1) + 4)).drop (4 * x_1))).getD x_7 default))))) else (x_7, x_8))
def Gu (b : Ep) : Nat → Nat → List Int → Nat × (List Int)
  | 0, x_1, x_2 => (x_1, x_2)
  | n_3 + 1, x_1, x_2 => (if ((x_1 : Nat) : Int) < 64 then (if ((x_1 : Nat) : Int) < 16 then (cH (Ip b x_1 x_2 (((Li ((b.take ((4 * x_1) + 4)).drop (4 * x_1))).length) + 1) 0 x_2) (fun x_7 x_8 => (Gu b n_3 (x_1 + 1) x_8))) else (Gu b n_3 (x_1 + 1) (x_2.set x_1 (IntKind.u32.wrap ((IntKind.u32.wrap ((IntKind.u32.wrap ((x_2.getD (((((x_1 : Nat) : Int) - 16)).toNat) default) + (nH (x_2.getD (((((x_1 : Nat) : Int) - 15)).toNat) default)))) + (x_2.getD (((((x_1 : Nat) : Int) - 7)).toNat) default))) + (nI (x_2.getD (((((x_1 : Nat) : Int) - 2)).toNat) default))))))) else (x_1, x_2))
def Lq (b : Ep) : List Int := (cH (Gu b (64 + 1) 0 (List.replicate 64 (0 : Int))) (fun x_1 x_2 => x_2))
def Vx (s : Ep) : Nat → List Int → List Int
  | 0, out_1 => (out_1)
  | n_2 + 1, out_1 => (if (((out_1.length : Nat) : Int) % 64) ≠ 56 then (Vx s n_2 (out_1 ++ ([0] : List Int))) else (out_1))
def gI (s : Ep) : Ep := (Rx (Vx s ((120 - ((Li s) ++ ([128] : List Int)).length % 64) % 64 + 1) ((Li s) ++ ([128] : List Int))) (fun out_1 => (gH ((((((((out_1 ++ ([(IntKind.u8.wrap (Aa .i64 (((s.length : Nat) : Int) * 8) 56))] : List Int)) ++ ([(IntKind.u8.wrap (Aa .i64 (((s.length : Nat) : Int) * 8) 48))] : List Int)) ++ ([(IntKind.u8.wrap (Aa .i64 (((s.length : Nat) : Int) * 8) 40))] : List Int)) ++ ([(IntKind.u8.wrap (Aa .i64 (((s.length : Nat) : Int) * 8) 32))] : List Int)) ++ ([(IntKind.u8.wrap (Aa .i64 (((s.length : Nat) : Int) * 8) 24))] : List Int)) ++ ([(IntKind.u8.wrap (Aa .i64 (((s.length : Nat) : Int) * 8) 16))] : List Int)) ++ ([(IntKind.u8.wrap (Aa .i64 (((s.length : Nat) : Int) * 8) 8))] : List Int)) ++ ([(IntKind.u8.wrap (Aa .i64 (((s.length : Nat) : Int) * 8) 0))] : List Int)))))
def Vy (s : Ep) (x_1 : Int) (x_2 : Int) (x_3 : Int) (x_4 : Int) (x_5 : Int) (x_6 : Int) (x_7 : Int) (x_8 : Int) (x_9 : Ep) : Nat → Nat → Int → Int → Int → Int → Int → Int → Int → Int → Nat × Int × Int × Int × Int × Int × Int × Int × Int
  | 0, x_13, x_14, x_15, x_16, x_17, x_18, x_19, x_20, x_21 => (x_13, x_14, x_15, x_16, x_17, x_18, x_19, x_20, x_21)
  | n_22 + 1, x_13, x_14, x_15, x_16, x_17, x_18, x_19, x_20, x_21 => (if ((x_13 : Nat) : Int) < 64 then (Vy s x_1 x_2 x_3 x_4 x_5 x_6 x_7 x_8 x_9 n_22 (x_13 + 1) (IntKind.u32.wrap ((IntKind.u32.wrap ((IntKind.u32.wrap ((IntKind.u32.wrap ((IntKind.u32.wrap (x_21 + (Ub x_18))) + (Jl .u32 (Lg .u32 x_18 x_19) (Lg .u32 (Jl .u32 (IntKind.max .u32) x_18) x_20)))) + (Ln.getD x_13 default))) + ((Lq (x_9.take 64)).getD x_13 default))) + (IntKind.u32.wrap ((cM x_14) + (Jl .u32 (Jl .u32 (Lg .u32 x_14 x_15) (Lg .u32 x_14 x_16)) (Lg .u32 x_15 x_16)))))) x_14 x_15 x_16 (IntKind.u32.wrap (x_17 + (IntKind.u32.wrap ((IntKind.u32.wrap ((IntKind.u32.wrap ((IntKind.u32.wrap (x_21 + (Ub x_18))) + (Jl .u32 (Lg .u32 x_18 x_19) (Lg .u32 (Jl .u32 (IntKind.max .u32) x_18) x_20)))) + (Ln.getD x_13 default))) + ((Lq (x_9.take 64)).getD x_13 default))))) x_18 x_19 x_20) else (x_13, x_14, x_15, x_16, x_17, x_18, x_19, x_20, x_21))
def Vz (s : Ep) : Nat → Int → Int → Int → Int → Int → Int → Int → Int → Ep → Int × Int × Int × Int × Int × Int × Int × Int × Ep
  | 0, x_1, x_2, x_3, x_4, x_5, x_6, x_7, x_8, x_9 => (x_1, x_2, x_3, x_4, x_5, x_6, x_7, x_8, x_9)
  | n_10 + 1, x_1, x_2, x_3, x_4, x_5, x_6, x_7, x_8, x_9 => (if 64 ≤ ((x_9.length : Nat) : Int) then (P2 (Vy s x_1 x_2 x_3 x_4 x_5 x_6 x_7 x_8 x_9 (64 + 1) 0 x_1 x_2 x_3 x_4 x_5 x_6 x_7 x_8) (fun x_13 x_14 x_15 x_16 x_17 x_18 x_19 x_20 x_21 => (Vz s n_10 (IntKind.u32.wrap (x_1 + x_14)) (IntKind.u32.wrap (x_2 + x_15)) (IntKind.u32.wrap (x_3 + x_16)) (IntKind.u32.wrap (x_4 + x_17)) (IntKind.u32.wrap (x_5 + x_18)) (IntKind.u32.wrap (x_6 + x_19)) (IntKind.u32.wrap (x_7 + x_20)) (IntKind.u32.wrap (x_8 + x_21)) (x_9.drop 64)))) else (x_1, x_2, x_3, x_4, x_5, x_6, x_7, x_8, x_9))
def A8 (s : Ep) : Ep := (P2 (Vz s ((gI s).length + 1) 1779033703 3144134277 1013904242 2773480762 1359893119 2600822924 528734635 1541459225 (gI s)) (fun x_1 x_2 x_3 x_4 x_5 x_6 x_7 x_8 x_9 => (gH (((((((([(IntKind.u8.wrap (Aa .u32 x_1 24)), (IntKind.u8.wrap (Aa .u32 x_1 16)), (IntKind.u8.wrap (Aa .u32 x_1 8)), (IntKind.u8.wrap x_1)] : List Int) ++ ([(IntKind.u8.wrap (Aa .u32 x_2 24)), (IntKind.u8.wrap (Aa .u32 x_2 16)), (IntKind.u8.wrap (Aa .u32 x_2 8)), (IntKind.u8.wrap x_2)] : List Int)) ++ ([(IntKind.u8.wrap (Aa .u32 x_3 24)), (IntKind.u8.wrap (Aa .u32 x_3 16)), (IntKind.u8.wrap (Aa .u32 x_3 8)), (IntKind.u8.wrap x_3)] : List Int)) ++ ([(IntKind.u8.wrap (Aa .u32 x_4 24)), (IntKind.u8.wrap (Aa .u32 x_4 16)), (IntKind.u8.wrap (Aa .u32 x_4 8)), (IntKind.u8.wrap x_4)] : List Int)) ++ ([(IntKind.u8.wrap (Aa .u32 x_5 24)), (IntKind.u8.wrap (Aa .u32 x_5 16)), (IntKind.u8.wrap (Aa .u32 x_5 8)), (IntKind.u8.wrap x_5)] : List Int)) ++ ([(IntKind.u8.wrap (Aa .u32 x_6 24)), (IntKind.u8.wrap (Aa .u32 x_6 16)), (IntKind.u8.wrap (Aa .u32 x_6 8)), (IntKind.u8.wrap x_6)] : List Int)) ++ ([(IntKind.u8.wrap (Aa .u32 x_7 24)), (IntKind.u8.wrap (Aa .u32 x_7 16)), (IntKind.u8.wrap (Aa .u32 x_7 8)), (IntKind.u8.wrap x_7)] : List Int)) ++ ([(IntKind.u8.wrap (Aa .u32 x_8 24)), (IntKind.u8.wrap (Aa .u32 x_8 16)), (IntKind.u8.wrap (Aa .u32 x_8 8)), (IntKind.u8.wrap x_8)] : List Int)))))
end Go.Proofs.YtbooaoddioibeaaGreatDoor.Jd

namespace Go.Proofs.YtbooaoddioibeaaGreatDoor.Jd
open Go.Proofs.Tryz
set_option linter.unusedVariables false
set_option linter.unusedSimpArgs false
theorem gJ (x : Int) : 0 ≤ IntKind.u64.wrap x := by
  simp only [IntKind.wrap, IntKind.bits, IntKind.signed];simp;omega
theorem A9 (a b : Int) : 0 ≤ Lg .u64 a b := gJ _
theorem Qm (b : Ep) (x : Nat) (y : List Int) : ∀ (n k : Nat) (xs : List Int), (Ip b x y n k xs).2.length = xs.length
  | 0, _, _ => rfl
  | n + 1, k, xs => by
    rw [Ip];split
    · rw [Qm b x y n]; simp
    · rfl
theorem Kd (b : Ep) : ∀ (n k : Nat) (xs : List Int), (Gu b n k xs).2.length = xs.length
  | 0, _, _ => rfl
  | n + 1, k, xs => by
    rw [Gu];split
    · split
      · simp only [cH];rw [Kd b n, Qm]
      · rw [Kd b n]; simp
    · rfl
theorem kN {b : Ep} : (Lq b).length = 64 := by
  unfold Lq;simp only [cH];rw [Kd]; simp
end Go.Proofs.YtbooaoddioibeaaGreatDoor.Jd

namespace Go.Proofs.YtbooaoddioibeaaGreatDoor.Jd
open Go.Proofs.Tryz
open Go.Proofs
open Go.RowKit (Below)
set_option linter.unusedVariables false
set_option linter.unusedSimpArgs false
/-- What the library's variables hold where a call begins. -/
structure Gl (w : World) : Prop where
  sha : ∃ T f, w.heap[13]? = some (Obj.cells (aI .u32 Ln).toArray T f)
theorem B0 {w w' : World} (he : jW w w') {k : Nat} {cs : Array Value} (h : ∃ T f, w.heap[k]? = some (Obj.cells cs T f)) : ∃ T f, w'.heap[k]? = some (Obj.cells cs T f) := by
  obtain ⟨T, f, h⟩ := h;exact ⟨T, f, by rw [he.block k (Array.getElem?_eq_some_iff.1 h).1]; exact h⟩
theorem Gl.ext {w w' : World} (h : Gl w) (he : jW w w') : Gl w' := ⟨B0 he h.sha⟩
end Go.Proofs.YtbooaoddioibeaaGreatDoor.Jd

