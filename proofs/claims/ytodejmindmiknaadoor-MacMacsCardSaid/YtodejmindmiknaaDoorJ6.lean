/- The iterator's side of a range over a function; functions that hold one. No condition. -/
import Derived.Test.YtodejmindmiknaaDoorJ5
namespace Go.Proofs.YtodejmindmiknaaDoor.Jd
set_option linter.unusedSimpArgs false
set_option linter.unusedVariables false
open Go.RowKit (Below)
section
variable {P : Program} {rd : Option Nat} {b0 : World} {Mk : List Nat} {N : Nat} {D : List Deferred} {ops : Array Oper} {L V : Heap} {E : Env} {T : Act → World → Prop}
variable {op : Op} {ty : TypeId} {pos : String} {after : Array Edge} {v : Value} {d : Nat}

theorem SH.tr_part {H0 H Lr : Heap} {w : World} (h : SH b0 (keys H0) (H ++ Lr) w) : Tr b0 w H0 H :=
  ⟨h.os, h.tape, h.output, h.size, h.same, fun p hp => h.own p (List.mem_append_left _ hp), fun p hp => h.key p (List.mem_append_left _ hp), by
    have := h.nd; rw [List.map_append, List.nodup_append] at this; exact this.1⟩

theorem wpIn_yield {o : Oper} {a : Act} {w : World} {l : Nat} {vs : List Value} {K : Act → World → Prop} {Q : Exit → Act → World → Prop} (hd : notDefer o = true) (h : (execOp a.eval o) = Instr.yield l vs.toArray)
    (hK : YCall P l vs w fun e w' => ∃ v, e = .returned v ∧ K (a.put o.dst v) w') : o.wpIn (FW rd) 0 P a w K Q := by
  obtain ⟨fn, tmps, assign, body, h1, h2⟩ := hK
  refine ⟨fun _ _ => trivial, ?_⟩
  rw [Oper.semAt_eq _ _ _ (notDefer_defer hd), h, h1]
  refine ⟨fun h => by simp [FW] at h, roundIn_rd (h2.mono fun e w' he => ?_)⟩
  obtain ⟨v, rfl, hk⟩ := he
  exact hk

/-- The operation calls yield of loop l at these values. -/
def RunY (N : Nat) (D : List Deferred) (E : Env) (op : Op) (ty : TypeId) (l : Nat) (vs : List Value) : Prop := ∀ a, Holds N D E a → execOp a.eval (mkO op ty) = Instr.yield l vs.toArray

theorem y_call {f : Operand} {args : List Operand} {tys : Array TypeId} {l : Nat} {vs : List Value} (hf : ev E f = some (.func (.yield l) #[] #[]) := by rfl) (ha : evs E args = some vs := by rfl) :
    RunY N D E (.call { callee := .value f, args := args.toArray, argTypes := tys }) ty l vs := fun a hh => by
  have := hh.evals ha
  simp only [mkO, execOp, resolve, hh.eval hf, Deferred.ofValue]
  show (Instr.yield l (#[] ++ (args.toArray.map a.eval))) = _
  simp [this]

theorem ycall_next {l i : Nat} {H0 H Lr : Heap} {elems : List (List Value)} {S : Nat → Heap → Prop} {Sx : Heap → Prop} {vs : List Value} {w : World} (hR : Rounds P l b0 H0 elems S Sx) (hi : elems[i]? = some vs) (hS : S i H) (hw : SH b0 (keys H0) (H ++ Lr) w) :
    YCall P l vs w fun e w' => ∃ v, e = .returned v ∧ ((v = .bool true ∧ ∃ H', S (i + 1) H' ∧ SH b0 (keys H0) (H' ++ Lr) w') ∨ (v = .bool false ∧ ∃ H', Sx H' ∧ SH b0 (keys H0) (H' ++ Lr) w')) := by
  obtain ⟨fn, tmps, assign, body, h1, h2⟩ := hR i vs hi H w hS hw.tr_part
  refine ⟨fn, tmps, assign, body, h1, h2.mono fun e w' he => ?_⟩
  obtain ⟨b, H', rfl, ht, hf, htr⟩ := he
  refine ⟨_, rfl, ?_⟩
  cases b
  · exact .inr ⟨rfl, H', hf rfl, hw.tr htr⟩
  · exact .inl ⟨rfl, H', ht rfl, hw.tr htr⟩

theorem JL_y {l : List Oper} {lp i : Nat} {H0 H Lr : Heap} {elems : List (List Value)} {S : Nat → Heap → Prop} {Sx : Heap → Prop} {vs : List Value} (hR : Rounds P lp b0 H0 elems S Sx) (hi : elems[i]? = some vs) (hS : S i H) (hL : List.Perm L (H ++ Lr))
    (hy : RunY N D E op ty lp vs) (hn : notDeferOp op = true := by rfl) (hd : Nat.blt d N = true := by rfl)
    (k1 : ∀ H', S (i + 1) H' → JL P rd b0 (keys H0) N D ops (H' ++ Lr) ((d, .bool true) :: E) l T) (k0 : ∀ H', Sx H' → JL P rd b0 (keys H0) N D ops (H' ++ Lr) ((d, .bool false) :: E) l T) :
    JL P rd b0 (keys H0) N D ops L E ({ dst := some d, op := op, type := ty, pos := pos, after := after, guard := none } :: l) T := by
  intro a w ha hw
  unfold wpL
  rw [if_pos (by rfl)]
  refine wpIn_yield (notDefer_mk hn) (by rw [execOp_mkO]; exact hy a ha) ?_
  obtain ⟨fn, tmps, assign, body, h1, h2⟩ := ycall_next hR hi hS (hw.perm hL)
  refine ⟨fn, tmps, assign, body, h1, h2.mono fun e w' he => ?_⟩
  obtain ⟨v, rfl, ⟨rfl, H', hs, hw'⟩ | ⟨rfl, H', hs, hw'⟩⟩ := he
  · exact ⟨_, rfl, k1 H' hs _ _ (ha.put hd _) hw'⟩
  · exact ⟨_, rfl, k0 H' hs _ _ (ha.put hd _) hw'⟩

theorem JL_yg {l : List Oper} {lp i : Nat} {H0 H Lr : Heap} {elems : List (List Value)} {S : Nat → Heap → Prop} {Sx : Heap → Prop} {vs : List Value} {g t : Nat} {b : Bool} {u : Value} (hR : Rounds P lp b0 H0 elems S Sx) (hi : elems[i]? = some vs) (hS : S i H) (hL : List.Perm L (H ++ Lr))
    (hy : RunY N D E op ty lp vs) (hg : (ops[g]?).bind (·.dst) = some t := by rfl) (hu : look E t = some u := by rfl) (hb : wantB u b = true := by rfl) (ht : Nat.blt t N = true := by rfl) (hn : notDeferOp op = true := by rfl) (hd : Nat.blt d N = true := by rfl)
    (k1 : ∀ H', S (i + 1) H' → JL P rd b0 (keys H0) N D ops (H' ++ Lr) ((d, .bool true) :: E) l T) (k0 : ∀ H', Sx H' → JL P rd b0 (keys H0) N D ops (H' ++ Lr) ((d, .bool false) :: E) l T) :
    JL P rd b0 (keys H0) N D ops L E ({ dst := some d, op := op, type := ty, pos := pos, after := after, guard := some (g, b) } :: l) T := by
  intro a w ha hw
  unfold wpL
  rw [if_pos (by simp only [Region.wanted]; rw [yielded_of ha hg hu ht]; exact hb)]
  refine wpIn_yield (notDefer_mk hn) (by rw [execOp_mkO]; exact hy a ha) ?_
  obtain ⟨fn, tmps, assign, body, h1, h2⟩ := ycall_next hR hi hS (hw.perm hL)
  refine ⟨fn, tmps, assign, body, h1, h2.mono fun e w' he => ?_⟩
  obtain ⟨v, rfl, ⟨rfl, H', hs, hw'⟩ | ⟨rfl, H', hs, hw'⟩⟩ := he
  · exact ⟨_, rfl, k1 H' hs _ _ (ha.put hd _) hw'⟩
  · exact ⟨_, rfl, k0 H' hs _ _ (ha.put hd _) hw'⟩

/-- Entering an iterator: the blocks of the rounds are its to hand on. -/
theorem iter_enter {f : FuncId} {fn : Func} {c : Code} {pre post : List Value} {Ctx : World → Prop} {ok : Nat → Prop} {elems : List (List Value)} (hf : P.funcs[f]? = some fn) (hN : fn.ntmps = N) (hb : fn.body = some c := by rfl) (ha : Nat.ble (pre ++ [Value.func (.yield 0) #[] #[]] ++ post).length N = true := by rfl)
    (h : ∀ l w H0 S Sx, Ctx w → (∀ p ∈ H0, ok p.1) → S 0 H0 → Rounds P l w H0 elems S Sx → (∀ k ∈ keys H0, k < w.heap.size) →
      J P none w (keys H0) N [] H0 (argsE 0 (pre ++ [Value.func (.yield l) #[] #[]] ++ post)) c (bodyPost P fn fun e w' => e = .returned (.tuple #[]) ∧ ∃ H', (S elems.length H' ∨ Sx H') ∧ Tr w w' H0 H')) :
    Iter P f pre post Ctx ok elems := by
  intro l w H0 S Sx hC hH hok hnd hS hR
  refine enterM (keys H0) H0 hH (fun p hp => mem_keys hp) hnd hf hN hb (by simpa using ha) ?_
  exact h l w H0 S Sx hC hok hS hR (fun k hk => by obtain ⟨o, ho⟩ := keys_mem hk; exact (Array.getElem?_eq_some_iff.1 (hH _ ho)).1)

theorem bodyPost_iter {w w' : World} {n : Nat} {S : Nat → Heap → Prop} {Sx : Heap → Prop} {H0 H Lr : Heap} (hw : SH w (keys H0) (H ++ Lr) w') (h : S n H ∨ Sx H) :
    (Ending.returned (resOf []) = .returned (.tuple #[])) ∧ ∃ H', (S n H' ∨ Sx H') ∧ Tr w w' H0 H' := ⟨rfl, H, h, hw.tr_part⟩

/-! ### functions that hold a range over a function -/
theorem enterD {f : FuncId} {fn : Func} {c : Code} {args : List Value} {w : World} {R : Ending → World → Prop} (hf : P.funcs[f]? = some fn) (hN : fn.ntmps = N) (hb : fn.body = some c := by rfl) (ha : Nat.ble args.length N = true := by rfl)
    (h : J P none w [] N [] [] (argsE 0 args) c (bodyPostM (FW none) 0 P fn R)) : Calls P f args.toArray w R := by
  subst hN
  exact callsIn_wide.1 (callsIn_of_wp_marks (F := FW none) (n := 0) hf hb trivial (h _ w (holds_begin args ha) (SH.begin w)))

theorem enterDM {f : FuncId} {fn : Func} {c : Code} {args : List Value} {w : World} {R : Ending → World → Prop} (Mk : List Nat) (L : Heap) (hL : ∀ p ∈ L, w.heap[p.1]? = some p.2) (hk : ∀ p ∈ L, p.1 ∈ Mk) (hnd : (L.map Prod.fst).Nodup)
    (hf : P.funcs[f]? = some fn) (hN : fn.ntmps = N) (hb : fn.body = some c := by rfl) (ha : Nat.ble args.length N = true := by rfl)
    (h : J P none w Mk N [] L (argsE 0 args) c (bodyPostM (FW none) 0 P fn R)) : Calls P f args.toArray w R := by
  subst hN
  exact callsIn_wide.1 (callsIn_of_wp_marks (F := FW none) (n := 0) hf hb trivial (h _ w (holds_begin args ha) ⟨rfl, rfl, rfl, Nat.le_refl _, fun _ _ _ => rfl, hL, fun p hp => .inl (hk p hp), hnd⟩))

def markD (r : Nat) : Deferred := { target := .collected r, args := #[] }

theorem leavesM {fn : Func} {R : Ending → World → Prop} {a : Act} {rs : List ResultVar} {vs : List Value} {L2 : Heap} (hr : fn.results = rs.toArray) (h : Res P L2 E rs vs) (ha : Holds N D E a) (hR : ∀ w, SH b0 Mk L2 w → R (.returned (resOf vs)) w) :
    ∀ (ms : List Nat) (w : World), SH b0 Mk (ms.map (fun r => (r, Obj.deferred (some []))) ++ L2) w → LeavesInM (FW none) 0 P fn a.tmps R (ms.map markD) .returning w
  | [], w, hw => by
    have h2 : Holds N a.defers E a := ⟨ha.size, rfl, ha.val⟩
    exact ⟨resOf vs, run_results hr h h2 hw, hR w hw⟩
  | r :: ms, w, hw => by
    have ho := hw.own _ List.mem_cons_self
    simp only at ho
    refine ⟨by simp, .inl ⟨r, _, rfl, run_takeDeferred ho, leavesM hr h ha hR ms _ ?_⟩⟩
    exact (SH.put (o' := .deferred none) hw).sub (List.sublist_cons_self _ _)

theorem JX_retD {fn : Func} {R : Ending → World → Prop} {rs : List ResultVar} {vs : List Value} {L2 : Heap} (ms : List Nat) (hL : List.Perm L (ms.map (fun r => (r, Obj.deferred (some []))) ++ L2)) (hr : fn.results = rs.toArray) (h : Res P L2 E rs vs) (hR : ∀ w, SH b0 Mk L2 w → R (.returned (resOf vs)) w) :
    JX b0 Mk N (ms.map markD) L E (bodyPostM (FW none) 0 P fn R) .ret := fun a w ha hw => by
  show LeavesInM _ _ _ _ _ _ a.defers _ _
  rw [ha.defs]
  exact leavesM hr h ha hR ms w (hw.perm hL)

theorem JX_endD {fn : Func} {R : Ending → World → Prop} {rs : List ResultVar} {vs : List Value} {L2 : Heap} (ms : List Nat) (hL : List.Perm L (ms.map (fun r => (r, Obj.deferred (some []))) ++ L2)) (hr : fn.results = rs.toArray) (h : Res P L2 E rs vs) (hR : ∀ w, SH b0 Mk L2 w → R (.returned (resOf vs)) w) :
    JX b0 Mk N (ms.map markD) L E (bodyPostM (FW none) 0 P fn R) .normal := fun a w ha hw => by
  show LeavesInM _ _ _ _ _ _ a.defers _ _
  rw [ha.defs]
  exact leavesM hr h ha hR ms w (hw.perm hL)
end
end Go.Proofs.YtodejmindmiknaaDoor.Jd
