/- Regions: the operations of one statement, in the text's order or in any order that the statement leaves open. No condition. -/
import Derived.Test.YtodejmindmiknaaDoorJ0
import Derived.OrdersIn
import Derived.StillTail
namespace Go.Proofs.YtodejmindmiknaaDoor.Jd
set_option linter.unusedSimpArgs false
set_option linter.unusedVariables false
open Go.RowKit (Below)

/-- Only a normal end. -/
def nQ (T : Act → World → Prop) : Exit → Act → World → Prop
  | .normal, a, w => T a w
  | _, _, _ => False

theorem wpIn_nQ {P : Program} {rd : Option Nat} {c : Code} {Q : Exit → Act → World → Prop} {a : Act} {w : World} (h : c.wpIn (FW rd) 0 P (nQ (Q .normal)) a w) : c.wpIn (FW rd) 0 P Q a w :=
  wpIn_mono h fun e a w hq => by cases e <;> first | exact hq | exact hq.elim

section
variable {P : Program} {rd : Option Nat} {ops : Array Oper} {T : Act → World → Prop}

/-- Operation number i. -/
def wpO (P : Program) (rd : Option Nat) (ops : Array Oper) (i : Nat) (K : Act → World → Prop) (a : Act) (w : World) : Prop :=
  match ops[i]? with
  | none => K a w
  | some o => if Region.wanted o (yielded ops a.tmps) then o.wpIn (FW rd) 0 P a w K (nQ fun _ _ => False) else K (a.put o.dst undef) w

theorem nQ_mono {T T' : Act → World → Prop} (h : ∀ a w, T a w → T' a w) : ∀ e a w, nQ T e a w → nQ T' e a w := fun e a w hq => by
  cases e <;> first | exact h _ _ hq | exact hq

theorem wpIn_anyQ {o : Oper} {a : Act} {w : World} {K : Act → World → Prop} {Q : Exit → Act → World → Prop} (h : o.wpIn (FW rd) 0 P a w K (nQ fun _ _ => False)) : o.wpIn (FW rd) 0 P a w K Q := by
  unfold Oper.wpIn at *
  refine ⟨h.1, ?_⟩
  have hh := h.2
  generalize (o.semAt (FW rd).round a.eval).run P w = r at *
  cases r with
  | ok x w' =>
    cases x <;> simp only [Oper.uponIn] at hh ⊢ <;>
      first
        | exact hh
        | exact ⟨hh.1, CallsIn.mono hh.2 (fun e w'' he => by cases e <;> first | exact he | exact he.elim | (obtain ⟨_, _, he⟩ := he; exact he.elim))⟩
        | exact ⟨hh.1, RoundIn.mono hh.2 (fun e w'' he => by cases e <;> first | exact he | exact he.elim | (obtain ⟨_, _, he⟩ := he; exact he.elim))⟩
  | halt x w' => cases x <;> simp only [Oper.uponIn] at hh ⊢ <;> exact hh.elim

theorem wpO_mono {i : Nat} {a : Act} {w : World} {K K' : Act → World → Prop} (h : ∀ a w, K a w → K' a w) (hh : wpO P rd ops i K a w) : wpO P rd ops i K' a w := by
  unfold wpO at *
  split
  · exact h _ _ (by simpa [*] using hh)
  · rename_i o ho
    simp only [ho] at hh
    split
    · rename_i hw; simp only [hw, if_true] at hh; exact Oper.wpIn_mono h hh
    · rename_i hw; simp only [hw] at hh; exact h _ _ hh

theorem wpOpIn_of_wpO {i : Nat} {a : Act} {w : World} {K : Act → World → Prop} {Q : Exit → Act → World → Prop} (hh : wpO P rd ops i K a w) : wpOpIn (FW rd) 0 P ops Q i K a w := by
  unfold wpO at hh
  unfold wpOpIn
  split
  · rename_i ho; simpa [ho] using hh
  · rename_i o ho
    simp only [ho] at hh
    split
    · rename_i hw; simp only [hw, if_true] at hh; exact wpIn_anyQ hh
    · rename_i hw; simp only [hw] at hh; exact ⟨fun _ _ => trivial, hh⟩

/-! ### the text's order -/
def wpL (P : Program) (rd : Option Nat) (ops : Array Oper) (T : Act → World → Prop) : List Oper → Act → World → Prop
  | [], a, w => T a w
  | o :: r, a, w => if Region.wanted o (yielded ops a.tmps) then o.wpIn (FW rd) 0 P a w (wpL P rd ops T r) (nQ fun _ _ => False) else wpL P rd ops T r (a.put o.dst undef) w

theorem wpOpsIn_of_wpL : ∀ (l : List Oper) (k : Nat), (∀ j, l[j]? = ops[k + j]?) → ∀ a w, wpL P rd ops T l a w → wpOpsIn (FW rd) 0 P ops (nQ T) (List.range' k l.length) a w
  | [], _, _, _, _, h => h
  | o :: l, k, hl, a, w, h => by
    have h0 : ops[k]? = some o := by simpa using (hl 0).symm
    have ih := wpOpsIn_of_wpL l (k + 1) (fun j => by have := hl (j + 1); simpa [Nat.add_assoc, Nat.add_comm 1 j] using this)
    simp only [List.length_cons, List.range'_succ, wpOpsIn_cons]
    refine wpOpIn_of_wpO ?_
    unfold wpO
    simp only [h0]
    unfold wpL at h
    split
    · rename_i hw; rw [if_pos hw] at h; exact Oper.wpIn_mono ih h
    · rename_i hw; rw [if_neg hw] at h; exact ih _ _ h

theorem wpIn_region_lex {id : Nat} {l : List Oper} {Q : Exit → Act → World → Prop} {a : Act} {w : World} (h : wpL P rd l.toArray (Q .normal) l a w) : (Code.region id l.toArray false).wpIn (FW rd) 0 P Q a w := by
  refine wpIn_nQ (wpIn_region ?_)
  rw [List.range_eq_range', show l.toArray.size = l.length by simp]
  exact wpOpsIn_of_wpL l 0 (by simp) a w h

/-! ### any order -/
/-- In state a, in every world that meets S, operation o leaves v in its slot and does nothing else. -/
def YieldsS (P : Program) (ops : Array Oper) (S : World → Prop) (o : Oper) (v : Value) (a : Act) : Prop :=
  (Region.wanted o (yielded ops a.tmps) = true ∧ ∀ w, S w → (execOp a.eval o).run P w = .ok (.value v) w) ∨
  (Region.wanted o (yielded ops a.tmps) = false ∧ v = undef)

def notDefer (o : Oper) : Bool := match o.op with | .defer _ => false | .select .. => false | _ => true
theorem notDefer_defer {o : Oper} (h : notDefer o = true) : ∀ c, o.op ≠ .defer c := fun c e => by simp [notDefer, e] at h
theorem notDefer_select {o : Oper} (h : notDefer o = true) : ∀ cs b, o.op ≠ .select cs b := fun c b e => by simp [notDefer, e] at h

theorem wpIn_value {o : Oper} {a : Act} {w w' : World} {v : Value} {K : Act → World → Prop} {Q : Exit → Act → World → Prop} (hd : notDefer o = true) (h : (execOp a.eval o).run P w = .ok (.value v) w') (hK : K (a.put o.dst v) w') :
    o.wpIn (FW rd) 0 P a w K Q := by
  refine ⟨fun _ _ => trivial, ?_⟩
  rw [Oper.semAt_eq _ _ _ (notDefer_defer hd), h]
  exact hK

theorem YieldsS.wpO {S : World → Prop} {i : Nat} {o : Oper} {v : Value} {a : Act} (hi : ops[i]? = some o) (hd : notDefer o = true) (hy : YieldsS P ops S o v a)
    {K : Act → World → Prop} {w : World} (hS : S w) (h : K (a.put o.dst v) w) : Jd.wpO P rd ops i K a w := by
  unfold Jd.wpO
  simp only [hi]
  rcases hy with ⟨hw, hv⟩ | ⟨hw, rfl⟩
  · simp only [hw, if_true]; exact wpIn_value hd (hv w hS) h
  · simp only [hw, Bool.false_eq_true, if_false]; exact h

theorem YieldsS.of_same {S : World → Prop} {o : Oper} {v : Value} {a a' : Act} (hy : YieldsS P ops S o v a) (he : execOp a'.eval o = execOp a.eval o)
    (hw : Region.wanted o (yielded ops a'.tmps) = Region.wanted o (yielded ops a.tmps)) : YieldsS P ops S o v a' := by
  unfold YieldsS at *
  rw [he, hw]
  exact hy

theorem YieldsS.mono {S S' : World → Prop} {o : Oper} {v : Value} {a : Act} (hy : YieldsS P ops S o v a) (h : ∀ w, S' w → S w) : YieldsS P ops S' o v a :=
  hy.imp (fun ⟨a, b⟩ => ⟨a, fun w hw => b w (h w hw)⟩) id

theorem wpO_put {S : World → Prop} {j : Nat} {oi oj : Oper} {v : Value} (hj : ops[j]? = some oj) (hap : oi.apart ops oj = true)
    (hdi : notDefer oi = true) (hdj : notDefer oj = true) {K : Act → World → Prop} {a : Act} {w : World}
    (hy : YieldsS P ops S oi v a) (h : wpO P rd ops j K (a.put oi.dst v) w) :
    wpO P rd ops j (fun a' w' => YieldsS P ops S oi v a' ∧ K (a'.put oi.dst v) w') a w := by
  obtain ⟨h1, h2, h3⟩ := Oper.apart_spec hap
  have hsi := notDefer_select hdi
  have hsj := notDefer_select hdj
  have keep : ∀ (a : Act), YieldsS P ops S oi v a → ∀ u, YieldsS P ops S oi v (a.put oj.dst u) := fun a hy u =>
    hy.of_same (execOp_put oi hsi a oj.dst u h3) (wanted_put oi a oj.dst u h3)
  have keepD : ∀ d, YieldsS P ops S oi v { a with defers := d :: a.defers } := fun d => hy.of_same rfl rfl
  unfold wpO at *
  simp only [hj] at *
  rw [wanted_put oj a oi.dst v h1] at h
  split
  · rename_i hw
    simp only [hw, if_true] at h
    unfold Oper.wpIn at *
    refine ⟨fun _ _ => trivial, ?_⟩
    have h := h.2
    rw [Oper.semAt_eq _ _ _ (notDefer_defer hdj)] at *
    rw [execOp_put oj hsj a oi.dst v h1] at h
    generalize (execOp a.eval oj).run P w = r at *
    cases r with
    | ok n w' =>
      cases n <;> simp only [Oper.uponIn] at h ⊢
      case value u => exact ⟨keep a hy u, by rw [← Act.put_comm a v u h2]; exact h⟩
      case skip => exact ⟨keep a hy _, by rw [← Act.put_comm a v undef h2]; exact h⟩
      case defer d =>
        refine ⟨keep _ (keepD d) _, ?_⟩
        rw [← Act.put_comm _ v undef h2, ← Act.put_defers]
        exact h
      case enter f args =>
        refine ⟨h.1, CallsIn.mono h.2 fun e w'' he => ?_⟩
        cases e with
        | returned u => exact ⟨keep a hy u, by rw [← Act.put_comm a v u h2]; exact he⟩
        | panicked c => exact he.elim
        | outgrown => exact he
      case row row args => exact ⟨h.1, RowsIn.mono h.2 fun u w'' he => ⟨keep a hy u, by rw [← Act.put_comm a v u h2]; exact he⟩⟩
      case round l f tmps assign body =>
        refine ⟨h.1, RoundIn.mono h.2 fun e w'' he => ?_⟩
        cases e with
        | returned u => exact ⟨keep a hy u, by rw [← Act.put_comm a v u h2]; exact he⟩
        | panicked c => exact he.elim
        | outgrown => exact he
    | halt x w' => cases x <;> simp only [Oper.uponIn] at h ⊢ <;> exact h.elim
  · rename_i hw
    simp only [hw] at h
    exact ⟨keep a hy _, by rw [← Act.put_comm a v undef h2]; exact h⟩

/-- Whatever order the first n operations come in; S, what is known of the world, may only become more. Behind them: Fin. -/
def wpG (P : Program) (rd : Option Nat) (ops : Array Oper) (n : Nat) (Fin : Array Bool → Act → World → Prop) : Nat → (World → Prop) → Array Bool → Act → World → Prop
  | 0, _, listed, a, w => Fin listed a w
  | f + 1, S, listed, a, w =>
    Region.ready .any ops listed ≠ [] ∧ ∀ i ∈ Region.ready .any ops listed, i < n ∧
      wpO P rd ops i (fun a' w' => ∃ S' : World → Prop, (∀ x, S' x → S x) ∧ S' w' ∧ wpG P rd ops n Fin f S' (listed.setIfInBounds i true) a' w') a w

def Known (ops : Array Oper) (n : Nat) (listed : Array Bool) : Prop := HeadInv .any ops n listed

theorem wpG_first {n i : Nat} {oi : Oper} {v : Value} {Fin : Array Bool → Act → World → Prop} (hi : ops[i]? = some oi) (hnd : ∀ (j : Nat) (o : Oper), ops[j]? = some o → notDefer o = true)
    (htl : ∀ listed, HeadInv .any ops n listed → ∀ i, i < n → listed.getD i true = false → ∀ j ∈ Region.ready .any ops listed, j < n) (hin : i < n)
    (hdone : ∀ listed a w, Fin listed a w → ∀ j ∈ Region.ready .any ops listed, n ≤ j) :
    ∀ (f : Nat) (S : World → Prop) (listed : Array Bool) (a : Act) (w : World), HeadInv .any ops n listed →
      (∀ (j : Nat) (oj : Oper), ops[j]? = some oj → j ≠ i → listed.getD j true = false → (∀ e ∈ oj.after, Region.binds .any e = true → e.on ≠ i) → oi.apart ops oj = true) →
      i ∈ Region.ready .any ops listed → YieldsS P ops S oi v a → S w →
      wpG P rd ops n Fin f S (listed.setIfInBounds i true) (a.put oi.dst v) w → wpG P rd ops n Fin (f + 1) S listed a w := by
  intro f
  induction f with
  | zero =>
    intro S listed a w inv _ hr hy hS H
    have hun := (mem_ready.1 hr).1
    refine ⟨fun h => (by rw [h] at hr; cases hr), fun j hj => ?_⟩
    have hjn := htl listed inv i hin hun j hj
    refine ⟨hjn, ?_⟩
    by_cases hji : j = i
    · subst hji; exact hy.wpO hi (hnd _ _ hi) hS ⟨S, fun _ h => h, hS, H⟩
    · have := hdone _ _ _ H j (ready_mono hj hji)
      omega
  | succ f ih =>
    intro S listed a w inv hfree hr hy hS H
    have hun := (mem_ready.1 hr).1
    refine ⟨fun h => (by rw [h] at hr; cases hr), fun j hj => ?_⟩
    have hjn := htl listed inv i hin hun j hj
    refine ⟨hjn, ?_⟩
    by_cases hji : j = i
    · subst hji; exact hy.wpO hi (hnd _ _ hi) hS ⟨S, fun _ h => h, hS, H⟩
    · have h1 := (H.2 j (ready_mono hj hji)).2
      obtain ⟨hjun, oj, hoj, hall⟩ := mem_ready.1 hj
      have hnot : ∀ e ∈ oj.after, Region.binds .any e = true → e.on ≠ i := fun e he hb heq => by
        have h1 := hall e he hb
        rw [heq, getD_both hun] at h1
        cases h1
      have h2 := wpO_put hoj (hfree j oj hoj hji hjun hnot) (hnd _ _ hi) (hnd _ _ hoj) hy h1
      have hfree' : ∀ k ok, ops[k]? = some ok → k ≠ i → (listed.setIfInBounds j true).getD k true = false →
          (∀ e ∈ ok.after, Region.binds .any e = true → e.on ≠ i) → oi.apart ops ok = true := fun k ok hk hki hun hno => by
        refine hfree k ok hk hki ?_ hno
        by_cases hjk : j = k
        · subst hjk; exact hjun
        · rw [getD_set_ne true hjk] at hun; exact hun
      refine wpO_mono (fun a' w' h3 => ?_) h2
      obtain ⟨hy', S', hSS, hS', h4⟩ := h3
      refine ⟨S', hSS, hS', ih S' (listed.setIfInBounds j true) a' w' (inv.set hj hjn) hfree' (ready_mono hr (Ne.symm hji)) (hy'.mono hSS) hS' ?_⟩
      rw [Array.setIfInBounds_comm _ _ hji]
      exact h4

theorem wpAnyIn_of_wpG {n g : Nat} {Fin : Array Bool → Act → World → Prop} {Q : Exit → Act → World → Prop} (hF : ∀ listed a w, Fin listed a w → wpAnyIn (FW rd) 0 P .any ops Q g listed a w) :
    ∀ (f : Nat) (S : World → Prop) (listed : Array Bool) (a : Act) (w : World), wpG P rd ops n Fin f S listed a w → wpAnyIn (FW rd) 0 P .any ops Q (f + g) listed a w
  | 0, _, listed, a, w, h => by rw [Nat.zero_add]; exact hF _ _ _ h
  | f + 1, S, listed, a, w, h => by
    rw [show f + 1 + g = (f + g) + 1 by omega]
    exact ⟨fun h0 => absurd h0 h.1, fun i hi => wpOpIn_mono (fun a' w' h' => by obtain ⟨S', _, _, h'⟩ := h'; exact wpAnyIn_of_wpG hF f S' _ a' w' h') (wpOpIn_of_wpO (h.2 i hi).2)⟩

/-! ### the plan: an order of the first n operations; 'quiet' ones are taken first, of the others one at a time may come up -/
/-- The walk along a plan. -/
def wpS (P : Program) (rd : Option Nat) (ops : Array Oper) (T : Act → World → Prop) : (World → Prop) → List (Bool × Oper) → Act → World → Prop
  | _, [], a, w => T a w
  | S, (true, o) :: r, a, w => ∃ v, YieldsS P ops S o v a ∧ wpS P rd ops T S r (a.put o.dst v) w
  | S, (false, o) :: r, a, w =>
    if Region.wanted o (yielded ops a.tmps) then
      o.wpIn (FW rd) 0 P a w (fun a' w' => ∃ S' : World → Prop, (∀ x, S' x → S x) ∧ S' w' ∧ wpS P rd ops T S' r a' w') (nQ fun _ _ => False)
    else wpS P rd ops T S r (a.put o.dst undef) w

def planB (ops : Array Oper) (g n : Nat) : List (Bool × Nat) → Array Bool → Bool
  | [], listed => Region.seqB .any ops g n listed
  | (true, i) :: r, listed => Nat.blt i n && (Region.ready .any ops listed).contains i && Region.free .any ops listed i && planB ops g n r (listed.setIfInBounds i true)
  | (false, i) :: r, listed => Nat.blt i n && decide (Region.ready .any ops listed = [i]) && planB ops g n r (listed.setIfInBounds i true)

def opsOf (ops : Array Oper) (l : List (Bool × Nat)) : List (Bool × Oper) := l.map fun p => (p.1, ops.getD p.2 default)

theorem seqB_ready' {g k : Nat} {listed : Array Bool} (h : Region.seqB .any ops g k listed = true) : ∀ j ∈ Region.ready .any ops listed, k ≤ j := seqB_ready h

theorem wpG_plan {n g : Nat} (hnd : ∀ (j : Nat) (o : Oper), ops[j]? = some o → notDefer o = true)
    (htl : ∀ listed, HeadInv .any ops n listed → ∀ i, i < n → listed.getD i true = false → ∀ j ∈ Region.ready .any ops listed, j < n) (hn : n ≤ ops.size) :
    ∀ (l : List (Bool × Nat)) (S : World → Prop) (listed : Array Bool) (a : Act) (w : World), HeadInv .any ops n listed → planB ops g n l listed = true → S w →
      wpS P rd ops T S (opsOf ops l) a w → wpG P rd ops n (fun listed' a' w' => Region.seqB .any ops g n listed' = true ∧ T a' w') l.length S listed a w
  | [], S, listed, a, w, _, hB, _, h => ⟨hB, h⟩
  | (true, i) :: l, S, listed, a, w, inv, hB, hS, h => by
    simp only [planB, Bool.and_eq_true, Nat.blt_eq] at hB
    obtain ⟨⟨⟨hin, hr⟩, hf⟩, hB'⟩ := hB
    have hlt : i < ops.size := by omega
    have hi : ops[i]? = some ops[i] := Array.getElem?_eq_getElem hlt
    have hg : ops.getD i default = ops[i] := by simp [hlt]
    simp only [opsOf, List.map_cons, hg, wpS] at h
    obtain ⟨v, hy, h'⟩ := h
    have hr' : i ∈ Region.ready .any ops listed := by simpa using hr
    exact wpG_first hi hnd htl hin (fun listed' a' w' hF => seqB_ready hF.1) l.length S listed a w inv (Region.free_spec hi hf) hr' hy hS
      (wpG_plan hnd htl hn l S _ _ w (inv.set hr' hin) hB' hS h')
  | (false, i) :: l, S, listed, a, w, inv, hB, hS, h => by
    simp only [planB, Bool.and_eq_true, Nat.blt_eq, decide_eq_true_eq] at hB
    obtain ⟨⟨hin, hr⟩, hB'⟩ := hB
    have hlt : i < ops.size := by omega
    have hi : ops[i]? = some ops[i] := Array.getElem?_eq_getElem hlt
    have hg : ops.getD i default = ops[i] := by simp [hlt]
    simp only [opsOf, List.map_cons, hg, wpS] at h
    have hr' : i ∈ Region.ready .any ops listed := by rw [hr]; simp
    refine ⟨by rw [hr]; simp, fun j hj => ?_⟩
    rw [hr] at hj
    have hji : j = i := by simpa using hj
    subst hji
    refine ⟨hin, ?_⟩
    unfold wpO
    simp only [hi]
    split
    · rename_i hw
      rw [if_pos hw] at h
      refine Oper.wpIn_mono (fun a' w' h' => ?_) h
      obtain ⟨S', hSS, hS', h'⟩ := h'
      exact ⟨S', hSS, hS', wpG_plan hnd htl hn l S' _ a' w' (inv.set hr' hin) hB' hS' h'⟩
    · rename_i hw
      rw [if_neg hw] at h
      exact ⟨S, fun _ h => h, hS, wpG_plan hnd htl hn l S _ _ w (inv.set hr' hin) hB' hS h⟩

theorem wpAnyIn_of_seq {T : Act → World → Prop} : ∀ (l : List Oper) (k : Nat) (listed : Array Bool) (a : Act) (w : World), (∀ j, l[j]? = ops[k + j]?) →
    Region.seqB .any ops l.length k listed = true → wpL P rd ops T l a w → wpAnyIn (FW rd) 0 P .any ops (nQ T) l.length listed a w
  | [], _, _, _, _, _, hB, h => ⟨by simpa [Region.seqB] using hB, h⟩
  | o :: l, k, listed, a, w, hl, hB, h => by
    have h0 : ops[k]? = some o := by simpa using (hl 0).symm
    simp only [List.length_cons, Region.seqB, Bool.and_eq_true, decide_eq_true_eq] at hB
    refine ⟨fun h1 => (by rw [hB.1] at h1; cases h1), fun i hi => ?_⟩
    rw [hB.1] at hi
    have hik : i = k := by simpa using hi
    subst hik
    have hw : wpO P rd ops i (wpL P rd ops T l) a w := by unfold wpO; simp only [h0]; exact h
    exact wpOpIn_mono (fun a' w' h' => wpAnyIn_of_seq l (i + 1) _ a' w' (fun j => by have := hl (j + 1); simpa [Nat.add_assoc, Nat.add_comm 1 j] using this) hB.2 h') (wpOpIn_of_wpO hw)

def planOk (l : List Oper) (n : Nat) (pl : List (Bool × Nat)) : Bool :=
  Nat.ble n l.length && Nat.beq pl.length n && l.all notDefer && (Nat.beq n l.length || (Region.sinkB .any l.toArray n && Region.chainB .any l.toArray n)) &&
  planB l.toArray (l.length - n) n pl (Array.replicate l.length false)

theorem wpIn_region_plan {id : Nat} {l : List Oper} {Q : Exit → Act → World → Prop} {a : Act} {w : World} (hm : P.follows .mixedOrders = true) (n : Nat) (pl : List (Bool × Nat))
    (hB : planOk l n pl = true) (S : World → Prop) (hS : S { w with drawn := w.drawn + 1 })
    (h : wpS P rd l.toArray (fun a' w' => wpL P rd l.toArray (Q .normal) (l.drop n) a' w') S (opsOf l.toArray pl) a { w with drawn := w.drawn + 1 }) :
    (Code.region id l.toArray true).wpIn (FW rd) 0 P Q a w := by
  simp only [planOk, Bool.and_eq_true, Nat.ble_eq, Nat.beq_eq] at hB
  obtain ⟨⟨⟨⟨hn, hlen⟩, hnd⟩, htl⟩, hpl⟩ := hB
  have hnd' : ∀ j o, l.toArray[j]? = some o → notDefer o = true := fun j o ho => by
    have : o ∈ l := by simpa using Array.mem_of_getElem? ho
    exact List.all_eq_true.1 hnd o this
  have inv0 : HeadInv .any l.toArray n (Array.replicate l.length false) :=
    ⟨by simp, fun j oj _ hl => (by rw [getD_replicate_false] at hl; cases hl), fun t _ ht => getD_in (by simpa using ht) (getD_replicate_false _ _)⟩
  have htail : ∀ listed, HeadInv .any l.toArray n listed → ∀ i, i < n → listed.getD i true = false → ∀ j ∈ Region.ready .any l.toArray listed, j < n := by
    intro listed inv i hin hun j hj
    rw [Bool.or_eq_true] at htl
    rcases htl with htl | htl
    · have : n = l.length := by simpa using htl
      obtain ⟨_, oj, hoj, _⟩ := mem_ready.1 hj
      have := (Array.getElem?_eq_some_iff.1 hoj).1
      simp at this
      omega
    · simp only [Bool.and_eq_true] at htl
      rcases Nat.lt_or_ge j n with h' | h'
      · exact h'
      · rcases Nat.lt_or_ge n l.length with h2 | h2
        · exact absurd hj (tail_waits htl.1 htl.2 (by simpa using h2) inv _ i rfl hin hun j h')
        · obtain ⟨_, oj, hoj, _⟩ := mem_ready.1 hj
          have := (Array.getElem?_eq_some_iff.1 hoj).1
          simp at this
          omega
  have H := wpG_plan (P := P) (rd := rd) (g := l.length - n) hnd' htail (by simpa using hn) pl S (Array.replicate l.length false) a _ inv0 hpl hS h
  rw [hlen] at H
  refine wpIn_nQ (wpIn_region_any hm ?_)
  have := wpAnyIn_of_wpG (Q := nQ (Q .normal)) (g := l.length - n) (fun listed a' w' hF => by
    have h1 := wpAnyIn_of_seq (P := P) (rd := rd) (ops := l.toArray) (l.drop n) n listed a' w' (fun j => by simp [List.getElem?_drop]) (by rw [List.length_drop]; exact hF.1) hF.2
    rwa [List.length_drop] at h1) _ _ _ _ _ H
  rw [show n + (l.length - n) = l.length by omega] at this
  simpa using this
end
end Go.Proofs.YtodejmindmiknaaDoor.Jd
