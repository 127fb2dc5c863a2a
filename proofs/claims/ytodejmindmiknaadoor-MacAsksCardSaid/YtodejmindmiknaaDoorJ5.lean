/- Calls that change blocks, and ranges over functions: what an iterator and its rounds promise each other. No condition. -/
import Derived.Test.YtodejmindmiknaaDoorJ4
namespace Go.Proofs.YtodejmindmiknaaDoor.Jd
set_option linter.unusedSimpArgs false
set_option linter.unusedVariables false
open Go.RowKit (Below)

def keys (H : Heap) : List Nat := H.map Prod.fst

/-- From w to w': of what was there only the blocks of H have changed (into those of H'); there may be new ones. -/
structure Tr (w w' : World) (H H' : Heap) : Prop where
  os : w'.os = w.os
  tape : w'.tape = w.tape
  output : w'.output = w.output
  size : w.heap.size ≤ w'.heap.size
  same : ∀ k, k < w.heap.size → k ∉ keys H → w'.heap[k]? = w.heap[k]?
  own : ∀ p ∈ H', w'.heap[p.1]? = some p.2
  key : ∀ p ∈ H', p.1 ∈ keys H ∨ w.heap.size ≤ p.1
  nd : (keys H').Nodup

theorem mem_keys {H : Heap} {p : Nat × Obj} (h : p ∈ H) : p.1 ∈ keys H := List.mem_map_of_mem h
theorem keys_mem {H : Heap} {k : Nat} (h : k ∈ keys H) : ∃ o, (k, o) ∈ H := by
  obtain ⟨⟨a, b⟩, h1, rfl⟩ := List.mem_map.1 h
  exact ⟨b, h1⟩
theorem keys_append (A B : Heap) : keys (A ++ B) = keys A ++ keys B := List.map_append

theorem Tr.refl {w : World} {H : Heap} (h : ∀ p ∈ H, w.heap[p.1]? = some p.2) (hn : (keys H).Nodup) : Tr w w H H :=
  ⟨rfl, rfl, rfl, Nat.le_refl _, fun _ _ _ => rfl, h, fun p hp => .inl (mem_keys hp), hn⟩

theorem Tr.trans {w w1 w2 : World} {H H1 H2 : Heap} (h : Tr w w1 H H1) (k : Tr w1 w2 H1 H2) : Tr w w2 H H2 := by
  refine ⟨k.os.trans h.os, k.tape.trans h.tape, k.output.trans h.output, Nat.le_trans h.size k.size, fun j hj hn => ?_, k.own, fun p hp => ?_, k.nd⟩
  · rw [k.same j (Nat.lt_of_lt_of_le hj h.size) (fun hm => ?_), h.same j hj hn]
    obtain ⟨o, ho⟩ := keys_mem hm
    rcases h.key _ ho with h1 | h1
    · exact hn h1
    · simp only at h1; omega
  · rcases k.key p hp with h1 | h1
    · obtain ⟨o, ho⟩ := keys_mem h1
      have := h.key _ ho
      exact this
    · exact .inr (Nat.le_trans h.size h1)

theorem Tr.of_fresh {w w' : World} {B : Heap} (h : Fresh w w' B) : Tr w w' [] B :=
  ⟨h.ext.os, h.ext.tape, h.ext.output, h.ext.size, fun k hk _ => h.ext.block k hk, h.own, fun p hp => .inr (h.new p hp), h.nd⟩

/-- More is known and not touched. -/
theorem Tr.frame {w w' : World} {H H' R : Heap} (h : Tr w w' H H') (hR : ∀ p ∈ R, w.heap[p.1]? = some p.2) (hn : (keys (H ++ R)).Nodup) : Tr w w' (H ++ R) (H' ++ R) := by
  rw [keys_append, List.nodup_append] at hn
  have hlt : ∀ p ∈ R, p.1 < w.heap.size := fun p hp => (Array.getElem?_eq_some_iff.1 (hR p hp)).1
  have hno : ∀ p ∈ R, p.1 ∉ keys H := fun p hp hm => hn.2.2 _ hm _ (mem_keys hp) rfl
  refine ⟨h.os, h.tape, h.output, h.size, fun k hk hk2 => h.same k hk (fun hm => hk2 (by rw [keys_append]; exact List.mem_append_left _ hm)), fun p hp => ?_, fun p hp => ?_, ?_⟩
  · rcases List.mem_append.1 hp with hp | hp
    · exact h.own p hp
    · rw [h.same _ (hlt p hp) (hno p hp)]; exact hR p hp
  · rcases List.mem_append.1 hp with hp | hp
    · exact (h.key p hp).imp (fun hm => by rw [keys_append]; exact List.mem_append_left _ hm) id
    · exact .inl (by rw [keys_append]; exact List.mem_append_right _ (mem_keys hp))
  · rw [keys_append, List.nodup_append]
    refine ⟨h.nd, hn.2.1, fun a ha b hb e => ?_⟩
    subst e
    obtain ⟨o, ho⟩ := keys_mem ha
    obtain ⟨o2, ho2⟩ := keys_mem hb
    rcases h.key _ ho with h1 | h1
    · exact hno _ ho2 h1
    · have := hlt _ ho2; simp only at h1 this; omega

theorem SH.tr {b0 : World} {Mk : List Nat} {H H' L : Heap} {w w' : World} (h : SH b0 Mk (H ++ L) w) (ht : Tr w w' H H') : SH b0 Mk (H' ++ L) w' := by
  have hf := ht.frame (R := L) (fun p hp => h.own p (List.mem_append_right _ hp)) h.nd
  refine ⟨ht.os.trans h.os, ht.tape.trans h.tape, ht.output.trans h.output, Nat.le_trans h.size ht.size, fun k hk hM => ?_, hf.own, fun p hp => ?_, hf.nd⟩
  · rw [ht.same k (Nat.lt_of_lt_of_le hk h.size) (fun hm => ?_)]
    · exact h.same k hk hM
    · obtain ⟨o, ho⟩ := keys_mem hm
      rcases h.key _ (List.mem_append_left _ ho) with h1 | h1
      · exact hM h1
      · simp only at h1; omega
  · rcases hf.key p hp with h1 | h1
    · obtain ⟨o, ho⟩ := keys_mem h1
      have := h.key _ ho
      exact this
    · exact .inr (Nat.le_trans h.size h1)

/-- What a call gives that changes the blocks H. -/
def RetM (P : Program) (f : FuncId) (args : List Value) (w : World) (H : Heap) (X : Type) (v : X → Value) (H' : X → Heap) : Prop :=
  Calls P f args.toArray w fun e w' => ∃ x, e = .returned (v x) ∧ Tr w w' H (H' x)

/-- At the end of a call that has written its old blocks. -/
theorem SH.tr_out {b0 : World} {H L : Heap} {w : World} (h : SH b0 (keys H) L w) : Tr b0 w H L :=
  ⟨h.os, h.tape, h.output, h.size, h.same, h.own, h.key, h.nd⟩

theorem Tr.sub {w w' : World} {H H' H2 : Heap} (h : Tr w w' H H') (hs : List.Sublist H2 H') : Tr w w' H H2 :=
  ⟨h.os, h.tape, h.output, h.size, h.same, fun p hp => h.own p (hs.subset hp), fun p hp => h.key p (hs.subset hp), (hs.map _).nodup h.nd⟩
theorem Tr.perm {w w' : World} {H H' H2 : Heap} (h : Tr w w' H H') (hs : List.Perm H' H2) : Tr w w' H H2 :=
  ⟨h.os, h.tape, h.output, h.size, h.same, fun p hp => h.own p (hs.mem_iff.2 hp), fun p hp => h.key p (hs.mem_iff.2 hp), (hs.map _).nodup_iff.1 h.nd⟩

/-- Where what was written reads as it did, nothing has changed. -/
theorem Tr.ext {w w' : World} {H : Heap} (hH : ∀ p ∈ H, w.heap[p.1]? = some p.2) (h : Tr w w' H H) : Ext w w' :=
  ⟨h.os, h.tape, h.output, h.size, fun k hk => by
    by_cases hm : k ∈ keys H
    · obtain ⟨o, ho⟩ := keys_mem hm
      have h1 := h.own _ ho
      have h2 := hH _ ho
      simp only at h1 h2
      rw [h1, h2]
    · exact h.same k hk hm⟩

section
variable {P : Program} {rd : Option Nat} {b0 : World} {Mk : List Nat} {N : Nat} {D : List Deferred} {ops : Array Oper} {L L' V : Heap} {E : Env} {Q : Exit → Act → World → Prop} {T : Act → World → Prop}
variable {op : Op} {ty : TypeId} {pos : String} {after : Array Edge} {v : Value} {d : Nat}

/-- A call that changes the blocks H, in the text's order. -/
theorem JL_m {l : List Oper} {f : FuncId} {args : List Value} {X : Type} {v : X → Value} {H R : Heap} {H' : X → Heap} (hL : List.Perm L (H ++ R)) (hc : RunC P N D b0 Mk L E op ty f args)
    (h : ∀ w, SH b0 Mk L w → RetM P f args w H X v H') (hn : notDeferOp op = true := by rfl) (hd : Nat.blt d N = true := by rfl)
    (k : ∀ x, JL P rd b0 Mk N D ops (H' x ++ R) ((d, v x) :: E) l T) : JL P rd b0 Mk N D ops L E ({ dst := some d, op := op, type := ty, pos := pos, after := after, guard := none } :: l) T :=
  JL_c hc (fun w hw => (h w hw).mono fun _ _ ⟨x, he, ht⟩ => ⟨x, he, (hw.perm hL).tr ht⟩) hn hd k

/-! ### yield -/
/-- One call of yield. -/
def YCall (P : Program) (l : Nat) (vs : List Value) (w : World) (R : Ending → World → Prop) : Prop :=
  ∃ fn tmps assign body, (Instr.yield l vs.toArray).run P w = .ok (.round l fn tmps assign body) w ∧ RoundIn (FW none) 0 P l fn tmps assign body w R

theorem roundIn_rd {l : Nat} {fn : FuncId} {tmps : Array Value} {assign body : Code} {w : World} {R : Ending → World → Prop} (h : RoundIn (FW none) 0 P l fn tmps assign body w R) : RoundIn (FW rd) 0 P l fn tmps assign body w R :=
  ⟨trivial, fun c cs _ => h.2 c cs (FW_room _ _)⟩

/-- What the rounds promise an iterator that hands out elems: S i are the blocks when i of them have been handed out; Sx: when a round has said no. -/
def Rounds (P : Program) (l : Nat) (w0 : World) (H0 : Heap) (elems : List (List Value)) (S : Nat → Heap → Prop) (Sx : Heap → Prop) : Prop :=
  ∀ (i : Nat) (vs : List Value), elems[i]? = some vs → ∀ H w, S i H → Tr w0 w H0 H →
    YCall P l vs w fun e w' => ∃ b H', e = .returned (.bool b) ∧ (b = true → S (i + 1) H') ∧ (b = false → Sx H') ∧ Tr w w' H H'

/-- What was read of b0 (outside Mk) reads alike in wy (outside Mk'). -/
def Bs (b0 : World) (Mk : List Nat) (wy : World) (Mk' : List Nat) : Prop := ∀ k, k < b0.heap.size → k ∉ Mk → wy.heap[k]? = b0.heap[k]? ∧ k ∉ Mk'

theorem Tr.unframe {w w' : World} {H H' R : Heap} (hR : ∀ p ∈ H ++ R, w.heap[p.1]? = some p.2) (h : Tr w w' (H ++ R) (H' ++ R)) : Tr w w' H H' := by
  have hn := h.nd
  rw [keys_append, List.nodup_append] at hn
  refine ⟨h.os, h.tape, h.output, h.size, fun k hk hk2 => ?_, fun p hp => h.own p (List.mem_append_left _ hp), fun p hp => ?_, hn.1⟩
  · by_cases hm : k ∈ keys R
    · obtain ⟨o, ho⟩ := keys_mem hm
      have h1 := h.own _ (List.mem_append_right H' ho)
      have h2 := hR _ (List.mem_append_right H ho)
      simp only at h1 h2
      rw [h1, h2]
    · exact h.same k hk (fun h3 => by rw [keys_append] at h3; exact (List.mem_append.1 h3).elim hk2 hm)
  · rcases h.key p (List.mem_append_left _ hp) with h1 | h1
    · rw [keys_append] at h1
      rcases List.mem_append.1 h1 with h2 | h2
      · exact .inl h2
      · exact absurd rfl (hn.2.2 _ (mem_keys hp) _ h2)
    · exact .inr h1

/-- What an iterator promises, where Ctx holds of the world and the blocks that the rounds write satisfy ok. -/
def Iter (P : Program) (f : FuncId) (pre post : List Value) (Ctx : World → Prop) (ok : Nat → Prop) (elems : List (List Value)) : Prop :=
  ∀ (l : Nat) (w : World) (H0 : Heap) (S : Nat → Heap → Prop) (Sx : Heap → Prop), Ctx w → (∀ p ∈ H0, w.heap[p.1]? = some p.2) → (∀ p ∈ H0, ok p.1) → (keys H0).Nodup → S 0 H0 → Rounds P l w H0 elems S Sx →
    Calls P f (pre ++ [Value.func (.yield l) #[] #[]] ++ post).toArray w fun e w' => e = .returned (.tuple #[]) ∧ ∃ H', (S elems.length H' ∨ Sx H') ∧ Tr w w' H0 H'

/-- The loop's record, as it was laid. -/
structure IsLoop (N : Nat) (E : Env) (ps : Array Tmp) (assign body : Code) (r : Loop) : Prop where
  ps : r.params = ps
  assign : r.assign = assign
  body : r.body = body
  hold : Holds N [] E { tmps := r.tmps, defers := [] }

def loopAt (r : Loop) (st : LoopState) (j : Option Code) : Obj := .loop { r with state := st, pending := j }

def paramsE : List Tmp → List Value → Env → Env
  | t :: ts, v :: vs, E => paramsE ts vs ((t, v) :: E)
  | _, _, E => E

theorem holds_params : ∀ (ts : List Tmp) (vs : List Value) (E : Env) (tmps : Array Value), (ts.all fun t => Nat.blt t N) = true → Holds N [] E { tmps := tmps, defers := [] } →
    Holds N [] (paramsE ts vs E) { tmps := (ts.zip vs).foldl (fun (tmps : Array Value) (x : Tmp × Value) => tmps.setIfInBounds x.1 x.2) tmps, defers := [] }
  | [], _, _, _, _, h => by simpa [paramsE] using h
  | t :: ts, [], _, _, _, h => by simpa [paramsE] using h
  | t :: ts, v :: vs, E, tmps, hl, h => by
    simp only [List.all_cons, Bool.and_eq_true] at hl
    exact holds_params ts vs _ _ hl.2 (h.put hl.1 v)

/-- A round's end, at the level of the symbolic state: what R asks of the answer and of the world. -/
def kRound (P : Program) (l : Nat) (R : Ending → World → Prop) : Exit → Act → World → Prop := roundPost P l R

theorem run_yield' {w : World} {l : Nat} {r : Loop} {vs : List Value} (h : w.heap[l]? = some (.loop r)) (hs : Nat.beq vs.length r.params.size = true) :
    (Instr.yield l vs.toArray).run P w = .ok (.round l r.fn ((r.params.toList.zip vs).foldl (fun (tmps : Array Value) (x : Tmp × Value) => tmps.setIfInBounds x.1 x.2) r.tmps) r.assign r.body) w := by
  have hs' : vs.length = r.params.size := by simpa using hs
  have e : (r.params.zip vs.toArray) = (r.params.toList.zip vs).toArray := by
    apply Array.ext'; simp
  simp only [Instr.yield, Sem.run_bind, run_getLoop h, Result.andThen_ok]
  rw [if_neg (by simpa using hs')]
  simp [e]

theorem putObj_tr {w : World} {l : Nat} {o o' : Obj} {R : Heap} (h : w.heap[l]? = some o) (hR : ∀ p ∈ R, w.heap[p.1]? = some p.2) (hn : (keys ((l, o) :: R)).Nodup) : Tr w (w.putObj l o') ((l, o) :: R) ((l, o') :: R) := by
  have hlt := (Array.getElem?_eq_some_iff.1 h).1
  have hn' : (keys ((l, o') :: R)).Nodup := hn
  simp only [keys, List.map_cons, List.nodup_cons] at hn
  refine ⟨rfl, rfl, rfl, by simp [World.putObj], fun k _ hk => World.putObj_heap_other (fun e => hk (by subst e; exact List.mem_cons_self)), fun p hp => ?_, fun p hp => .inl ?_, hn'⟩
  · rcases List.mem_cons.1 hp with rfl | hp
    · exact World.putObj_heap_same hlt
    · rw [World.putObj_heap_other (fun e => hn.1 (by rw [← e]; exact List.mem_map_of_mem hp))]; exact hR p hp
  · rcases List.mem_cons.1 hp with rfl | hp
    · exact List.mem_cons_self
    · exact List.mem_cons_of_mem _ (List.mem_map_of_mem hp)

theorem SH.put {w : World} {l : Nat} {o o' : Obj} (h : SH b0 Mk ((l, o) :: L) w) : SH b0 Mk ((l, o') :: L) (w.putObj l o') := by
  have ht := putObj_tr (o' := o') (R := []) (h.own _ List.mem_cons_self) (fun _ h => by cases h) (by simp [keys])
  exact SH.tr (H := [(l, o)]) (H' := [(l, o')]) h ht

/-- The end of a round that goes on: the record is ready again. -/
theorem JX_round {l : Nat} {r : Loop} {R : Ending → World → Prop} (hL : List.Perm L ((l, loopAt r .busy none) :: L'))
    (h : ∀ w, SH b0 Mk ((l, loopAt r .ready none) :: L') w → R (.returned (.bool true)) w) : JX b0 Mk N D L E (kRound P l R) .normal := by
  intro a w _ hw
  have hw' := hw.perm hL
  have ho := hw'.own _ List.mem_cons_self
  refine ⟨_, _, run_endRound none ho, h _ ?_⟩
  exact SH.put hw'

/-- .. that leaves the loop, by a jump that is taken behind it. -/
theorem JX_round_exit {l id : Nat} {r : Loop} {R : Ending → World → Prop} (hL : List.Perm L ((l, loopAt r .busy none) :: L'))
    (h : ∀ w, SH b0 Mk ((l, loopAt r .done (some (.exit id))) :: L') w → R (.returned (.bool false)) w) : JX b0 Mk N D L E (kRound P l R) (.exit id) := by
  intro a w _ hw
  have hw' := hw.perm hL
  have ho := hw'.own _ List.mem_cons_self
  refine ⟨_, _, run_endRound (some (.exit id)) ho, h _ ?_⟩
  exact SH.put hw'

theorem JX_round_ret {l : Nat} {r : Loop} {R : Ending → World → Prop} (hL : List.Perm L ((l, loopAt r .busy none) :: L'))
    (h : ∀ w, SH b0 Mk ((l, loopAt r .done (some .ret)) :: L') w → R (.returned (.bool false)) w) : JX b0 Mk N D L E (kRound P l R) .ret := by
  intro a w _ hw
  have hw' := hw.perm hL
  have ho := hw'.own _ List.mem_cons_self
  refine ⟨_, _, run_endRound (some .ret) ho, h _ ?_⟩
  exact SH.put hw'

/-- Between the assignment of a round's variables and its body. -/
def kBegin (P : Program) (l : Nat) (body : Code) (R : Ending → World → Prop) : Exit → Act → World → Prop :=
  Exit.then (fun a₁ w₁ => ∃ w₂, (Instr.beginRound l).run P w₁ = .ok () w₂ ∧ body.wpIn (FW (some l)) 0 P (roundPost P l R) a₁ w₂) (fun _ _ _ => False)

theorem JX_begin {l : Nat} {r : Loop} {body : Code} {R : Ending → World → Prop} (hL : List.Perm L ((l, loopAt r .ready none) :: L'))
    (h : J P (some l) b0 Mk N D ((l, loopAt r .busy none) :: L') E body (kRound P l R)) : JX b0 Mk N D L E (kBegin P l body R) .normal := by
  intro a w ha hw
  have hw' := hw.perm hL
  have ho := hw'.own _ List.mem_cons_self
  exact ⟨_, run_beginRound ho rfl, h a _ ha (SH.put hw')⟩

/-- The loops' own words on which a round's contract rests. -/
theorem yCall_of_J {l : Nat} {r : Loop} {ps : List Tmp} {assign body : Code} {vs : List Value} {w : World} {R : Ending → World → Prop} (hr : IsLoop N E ps.toArray assign body r) (hw : SH b0 Mk ((l, loopAt r .ready none) :: L) w)
    (hs : Nat.beq vs.length ps.length = true) (hps : (ps.all fun t => Nat.blt t N) = true)
    (h : J P (some l) b0 Mk N [] ((l, loopAt r .ready none) :: L) (paramsE ps vs E) assign (kBegin P l body R)) : YCall P l vs w R := by
  have ho := hw.own _ List.mem_cons_self
  refine ⟨_, _, _, _, run_yield' ho (by simpa [hr.ps] using hs), roundIn_of_wpIn trivial ?_⟩
  show Code.wpIn (FW (some l)) 0 P _ _ _ _
  simp only [hr.assign, hr.body, hr.ps]
  exact h _ w (holds_params ps vs E _ hps hr.hold) hw

/-- **The statement 'for .. := range g'.** -/
theorem J_rangeFunc {σ τ : Type} {g : Operand} {ps : List Tmp} {assign body : Code} {f : FuncId} {fs cs : List Value} {Ctx : World → Prop} {ok : Nat → Prop} {elems : List (List Value)}
    (Lm : Nat → σ → Heap) (Lr : Heap) (I : Nat → σ → Prop) (s0 : σ) (Lx : τ → Heap) (Ix : τ → Prop) (jx : τ → Code)
    (hM : ∀ k ∈ Mk, k < b0.heap.size) (hg : ev E g = some (.func (.func f) fs.toArray cs.toArray)) (hc : ∀ args w, (callFunc f args).run P w = .ok (.enter f args) w) (hL : List.Perm L (Lm 0 s0 ++ Lr)) (hI : I 0 s0)
    (it : Iter P f fs cs Ctx ok elems) (hctx : ∀ w, SH b0 Mk L w → Ctx w) (hctx2 : ∀ w o, Ctx w → Ctx (w.alloc o)) (hok : ∀ k, b0.heap.size ≤ k → k ∉ keys L → ok k) (hok2 : ∀ p ∈ Lm 0 s0, ok p.1)
    (hps : (ps.all fun t => Nat.blt t N) = true) (hes : ∀ vs ∈ elems, Nat.beq vs.length ps.length = true)
    (round : ∀ l rD r i vs s wy Mk', IsLoop N E ps.toArray assign body r → elems[i]? = some vs → I i s → Bs b0 Mk wy Mk' → (∀ k ∈ Mk', k < wy.heap.size) → ∀ R : Ending → World → Prop,
      (∀ s' w, I (i + 1) s' → SH wy Mk' ((l, loopAt r .ready none) :: (Lm (i + 1) s' ++ ((rD, .deferred (some [])) :: Lr))) w → R (.returned (.bool true)) w) →
      (∀ t w, Ix t → SH wy Mk' ((l, loopAt r .done (some (jx t))) :: (Lx t ++ ((rD, .deferred (some [])) :: Lr))) w → R (.returned (.bool false)) w) →
      J P (some l) wy Mk' N [] ((l, loopAt r .ready none) :: (Lm i s ++ ((rD, .deferred (some [])) :: Lr))) (paramsE ps vs E) assign (kBegin P l body R))
    (done : ∀ l rD r s, I elems.length s → JX b0 Mk N ({ target := .collected rD, args := #[] } :: D) ((l, loopAt r .exhausted none) :: (Lm elems.length s ++ ((rD, .deferred (some [])) :: Lr))) E Q .normal)
    (out : ∀ l rD r t, Ix t → J P none b0 Mk N ({ target := .collected rD, args := #[] } :: D) ((l, loopAt r .exhausted (some (jx t))) :: (Lx t ++ ((rD, .deferred (some [])) :: Lr))) E (jx t) Q) :
    J P none b0 Mk N D L E (Code.rangeFunc g ps.toArray assign body) Q := by
  intro a w ha hw
  refine wpIn_rangeFunc fun fn _ => ?_
  -- the record is laid
  let w1 := w.alloc (.deferred (some []))
  let rD := w.heap.size
  let rec0 : Loop := { state := .ready, pending := none, fn := fn, tmps := a.tmps, params := ps.toArray, assign := assign, body := body, defers := rD }
  let w2 := w1.alloc (.loop rec0)
  let l := w1.heap.size
  have hw1 : SH b0 Mk ((rD, .deferred (some [])) :: L) w1 := hw.alloc _ hM
  have hw2 : SH b0 Mk ((l, .loop rec0) :: (rD, .deferred (some [])) :: L) w2 := hw1.alloc _ hM
  have hl : IsLoop N E ps.toArray assign body rec0 := ⟨rfl, rfl, rfl, ⟨ha.size, rfl, ha.val⟩⟩
  have hres : (resolve a.eval (rangeCall g l) 0).run P w2 = .ok { target := .fn (.func f) cs.toArray, args := fs.toArray ++ #[Value.func (.yield l) #[] #[]] } w2 := by
    simp only [resolve, rangeCall, ha.eval hg, Deferred.ofValue, List.map_toArray, List.map_cons, List.map_nil, Sem.run_pure]
    rfl
  refine ⟨l, [{ target := .collected rD, args := #[] }], w2, _, w2, f, (fs ++ [Value.func (.yield l) #[] #[]] ++ cs).toArray, w2, ?_, hres, fun _ _ => trivial, ?_, fun h => by simp [FW] at h, ?_⟩
  · rfl
  · simp only [invoke]
    rw [hc]
    simp
  · refine callsIn_of_calls rfl ?_
    -- the blocks that rounds write
    have hw3 : SH b0 Mk ((l, loopAt rec0 .ready none) :: (Lm 0 s0 ++ ((rD, .deferred (some [])) :: Lr))) w2 := by
      refine hw2.perm (.cons _ ?_)
      exact (List.Perm.cons _ hL).trans List.perm_middle.symm
    let H0 : Heap := (l, loopAt rec0 .ready none) :: Lm 0 s0
    let R0 : Heap := (rD, .deferred (some [])) :: Lr
    have hw4 : SH b0 Mk (H0 ++ R0) w2 := hw3
    have hctxw : Ctx w2 := hctx2 _ _ (hctx2 _ _ (hctx w hw))
    have hkl : l ∉ keys L := fun hm => by
      obtain ⟨o, ho⟩ := keys_mem hm
      have h1 := hw.lt ho
      have h2 : l = w.heap.size + 1 := by simp [l, w1]
      simp only at h1
      omega
    have hokH : ∀ p ∈ H0, ok p.1 := fun p hp => by
      rcases List.mem_cons.1 hp with rfl | hp
      · exact hok l (Nat.le_trans hw.size (by simp [l, w1])) hkl
      · exact hok2 p hp
    have hnd : (keys H0).Nodup := by
      have := hw4.nd
      rw [List.map_append, List.nodup_append] at this
      exact this.1
    refine (it l w2 H0 (fun i H => ∃ s, I i s ∧ H = (l, loopAt rec0 .ready none) :: Lm i s) (fun H => ∃ t, Ix t ∧ H = (l, loopAt rec0 .done (some (jx t))) :: Lx t) hctxw (fun p hp => hw4.own p (List.mem_append_left _ hp)) hokH hnd ⟨s0, hI, rfl⟩ ?_).mono ?_
    · -- the rounds
      rintro i vs hvs H w' ⟨s, hIs, rfl⟩ htr
      have hw5 : SH b0 Mk (((l, loopAt rec0 .ready none) :: Lm i s) ++ R0) w' := hw4.tr htr
      have hself : SH w' (keys (((l, loopAt rec0 .ready none) :: Lm i s) ++ R0)) (((l, loopAt rec0 .ready none) :: Lm i s) ++ R0) w' :=
        ⟨rfl, rfl, rfl, Nat.le_refl _, fun _ _ _ => rfl, hw5.own, fun p hp => .inl (mem_keys hp), hw5.nd⟩
      refine yCall_of_J (b0 := w') (Mk := keys (((l, loopAt rec0 .ready none) :: Lm i s) ++ R0)) (N := N) (E := E) (L := Lm i s ++ R0) hl hself (hes vs (List.mem_of_getElem? hvs)) hps ?_
      refine round l rD rec0 i vs s w' _ hl hvs hIs (fun k hk hkM => ⟨hw5.same k hk hkM, fun hm => ?_⟩) (fun k hk => ?_) _ (fun s' w'' hI' h2 => ?_) (fun t w'' hI' h2 => ?_)
      · obtain ⟨o, ho⟩ := keys_mem hm
        rcases hw5.key _ ho with h1 | h1
        · exact hkM h1
        · simp only at h1; omega
      · obtain ⟨o, ho⟩ := keys_mem hk
        exact hw5.lt ho
      · exact ⟨true, _, rfl, fun _ => ⟨s', hI', rfl⟩, (fun h => by cases h), Tr.unframe hw5.own (SH.tr_out (H := ((l, loopAt rec0 .ready none) :: Lm i s) ++ R0) (L := ((l, loopAt rec0 .ready none) :: Lm (i + 1) s') ++ R0) h2)⟩
      · exact ⟨false, _, rfl, (fun h => by cases h), fun _ => ⟨t, hI', rfl⟩, Tr.unframe hw5.own (SH.tr_out (H := ((l, loopAt rec0 .ready none) :: Lm i s) ++ R0) (L := ((l, loopAt rec0 .done (some (jx t))) :: Lx t) ++ R0) h2)⟩
    · rintro e w' ⟨rfl, H', hH', htr⟩
      have hw5 : SH b0 Mk (H' ++ R0) w' := hw4.tr htr
      rcases hH' with ⟨s, hIs, rfl⟩ | ⟨t, hIt, rfl⟩
      · have ho := hw5.own _ List.mem_cons_self
        refine ⟨none, _, run_endLoop ho (by simp), ?_⟩
        exact done l rD rec0 s hIs _ _ ⟨ha.size, by simp [ha.defs], ha.val⟩ (SH.put hw5)
      · have ho := hw5.own _ List.mem_cons_self
        refine ⟨some (jx t), _, run_endLoop ho (by simp), ?_⟩
        exact out l rD rec0 t hIt _ _ ⟨ha.size, by simp [ha.defs], ha.val⟩ (SH.put hw5)
end
end Go.Proofs.YtodejmindmiknaaDoor.Jd
