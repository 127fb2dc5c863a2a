/- Ranges over a function, the iterator walked in place. No condition. -/
import Derived.Test.YtodejmindmiknaaDoorJ11
namespace Go.Proofs.YtodejmindmiknaaDoor.Jd
set_option linter.unusedSimpArgs false
open Go.RowKit (Below)
set_option linter.unusedVariables false
section
variable {P : Program} {rd : Option Nat} {b0 : World} {Mk : List Nat} {N : Nat} {D : List Deferred} {ops : Array Oper} {L V L' : Heap} {E : Env} {T : Act → World → Prop} {Q : Exit → Act → World → Prop}
variable {op : Op} {ty : TypeId} {pos : String} {after : Array Edge} {d : Nat}

/-- Behind the iterator of loop l: the statement goes on. -/
def itK (P : Program) (N : Nat) (D : List Deferred) (E : Env) (l : Nat) (Q : Exit → Act → World → Prop) : Ending → World → Prop := fun e w' => ∀ a, Holds N D E a → rangePost (FW none) 0 P l Q a e w'

theorem J_rangeIn {g : Operand} {ps : List Tmp} {assign body : Code} {f : FuncId} {fs cs : List Value} {R : Nat → Nat → Loop → Ending → World → Prop}
    (hM : ∀ k ∈ Mk, k < b0.heap.size) (hg : ev E g = some (.func (.func f) fs.toArray cs.toArray)) (hc : ∀ args w, (callFunc f args).run P w = .ok (.enter f args) w)
    (hin : ∀ l rD r w, IsLoop N E ps.toArray assign body r → SH b0 Mk ((l, loopAt r .ready none) :: (rD, .deferred (some [])) :: L) w → Calls P f (fs ++ [Value.func (.yield l) #[] #[]] ++ cs).toArray w (itK P N (markD rD :: D) E l Q)) :
    J P none b0 Mk N D L E (Code.rangeFunc g ps.toArray assign body) Q := by
  intro a w ha hw
  refine wpIn_rangeFunc fun fn _ => ?_
  let w1 := w.alloc (.deferred (some []))
  let rD := w.heap.size
  let rec0 : Loop := { state := .ready, pending := none, fn := fn, tmps := a.tmps, params := ps.toArray, assign := assign, body := body, defers := rD }
  let w2 := w1.alloc (.loop rec0)
  let l := w1.heap.size
  have hw1 : SH b0 Mk ((rD, .deferred (some [])) :: L) w1 := hw.alloc _ hM
  have hw2 : SH b0 Mk ((l, .loop rec0) :: (rD, .deferred (some [])) :: L) w2 := hw1.alloc _ hM
  have hl : IsLoop N E ps.toArray assign body rec0 := ⟨rfl, rfl, rfl, ⟨ha.size, rfl, ha.val⟩⟩
  have hres : (resolve a.eval (rangeCall g l) 0).run P w2 = .ok { target := .fn (.func f) cs.toArray, args := fs.toArray ++ #[Value.func (.yield l) #[] #[]] } w2 := by
    simp only [resolve, rangeCall, ha.eval hg, Deferred.ofValue, List.map_toArray, List.map_cons, List.map_nil, Sem.run_pure]
    rfl
  refine ⟨l, [{ target := .collected rD, args := #[] }], w2, _, w2, f, (fs ++ [Value.func (.yield l) #[] #[]] ++ cs).toArray, w2, ?_, hres, fun _ _ => trivial, ?_, fun h => by simp [FW] at h, ?_⟩
  · rfl
  · simp only [invoke]
    rw [hc]
    simp
  · refine callsIn_of_calls rfl ((hin l rD rec0 w2 hl hw2).mono fun e w' he => ?_)
    exact he _ ⟨ha.size, by simp [ha.defs, markD], ha.val⟩

theorem J_rangeI {g : Operand} {ps : List Tmp} {assign body : Code} {f : FuncId} {fs cs : List Value} {fn : Func} {c : Code} {N' : Nat}
    (hM : ∀ k ∈ Mk, k < b0.heap.size) (hg : ev E g = some (.func (.func f) fs.toArray cs.toArray)) (hc : ∀ args w, (callFunc f args).run P w = .ok (.enter f args) w) (hf : P.funcs[f]? = some fn) (hN : fn.ntmps = N')
    (h : ∀ l rD r, IsLoop N E ps.toArray assign body r → J P none b0 Mk N' [] ((l, loopAt r .ready none) :: (rD, .deferred (some [])) :: L) (argsE 0 (fs ++ [Value.func (.yield l) #[] #[]] ++ cs)) c (bodyPost P fn (itK P N (markD rD :: D) E l Q)))
    (hb : fn.body = some c := by rfl) (ha : Nat.ble (fs ++ [Value.func (.yield 0) #[] #[]] ++ cs).length N' = true := by rfl) : J P none b0 Mk N D L E (Code.rangeFunc g ps.toArray assign body) Q :=
  J_rangeIn (R := fun _ _ _ _ _ => True) hM hg hc fun l rD r w hl hw => calls_in hw hf hN hb (by simpa using ha) (h l rD r hl)
theorem J_rangeIM {g : Operand} {ps : List Tmp} {assign body : Code} {f : FuncId} {fs cs : List Value} {fn : Func} {c : Code} {N' : Nat}
    (hM : ∀ k ∈ Mk, k < b0.heap.size) (hg : ev E g = some (.func (.func f) fs.toArray cs.toArray)) (hc : ∀ args w, (callFunc f args).run P w = .ok (.enter f args) w) (hf : P.funcs[f]? = some fn) (hN : fn.ntmps = N')
    (h : ∀ l rD r, IsLoop N E ps.toArray assign body r → J P none b0 Mk N' [] ((l, loopAt r .ready none) :: (rD, .deferred (some [])) :: L) (argsE 0 (fs ++ [Value.func (.yield l) #[] #[]] ++ cs)) c (bodyPostM (FW none) 0 P fn (itK P N (markD rD :: D) E l Q)))
    (hb : fn.body = some c := by rfl) (ha : Nat.ble (fs ++ [Value.func (.yield 0) #[] #[]] ++ cs).length N' = true := by rfl) : J P none b0 Mk N D L E (Code.rangeFunc g ps.toArray assign body) Q :=
  J_rangeIn (R := fun _ _ _ _ _ => True) hM hg hc fun l rD r w hl hw => calls_inM hw hf hN hb (by simpa using ha) (h l rD r hl)

theorem itK0 {l : Nat} {r : Loop} {w : World} (hL : List.Perm L ((l, loopAt r .ready none) :: L')) (k : JX b0 Mk N D ((l, loopAt r .exhausted none) :: L') E Q .normal) (hw : SH b0 Mk L w) {v : Value} : itK P N D E l Q (.returned v) w := fun a ha => by
  have hw' := hw.perm hL
  have ho := hw'.own _ List.mem_cons_self
  exact ⟨none, _, run_endLoop ho (by simp), k _ _ ha (SH.put hw')⟩
theorem itK1 {l : Nat} {r : Loop} {w : World} {jx : Code} (hL : List.Perm L ((l, loopAt r .done (some jx)) :: L')) (k : J P none b0 Mk N D ((l, loopAt r .exhausted (some jx)) :: L') E jx Q) (hw : SH b0 Mk L w) {v : Value} : itK P N D E l Q (.returned v) w := fun a ha => by
  have hw' := hw.perm hL
  have ho := hw'.own _ List.mem_cons_self
  exact ⟨some jx, _, run_endLoop ho (by simp), k _ _ ha (SH.put hw')⟩

/-- The iterator ends: the loop was gone through. -/
theorem JX_it0 {l : Nat} {r : Loop} {fn : Func} {N' : Nat} {E' : Env} {e : Exit} (he : e = .ret ∨ e = .normal) (hr : fn.results = #[]) (hL : List.Perm L ((l, loopAt r .ready none) :: L')) (k : JX b0 Mk N D ((l, loopAt r .exhausted none) :: L') E Q .normal) :
    JX b0 Mk N' [] L E' (bodyPost P fn (itK P N D E l Q)) e := by
  rcases he with rfl | rfl
  · exact JX_ret (rs := []) (by rw [hr]) Res.nil fun w hw => itK0 hL k hw
  · exact JX_end (rs := []) (by rw [hr]) Res.nil fun w hw => itK0 hL k hw
/-- .. it was left. -/
theorem JX_it1 {l : Nat} {r : Loop} {fn : Func} {N' : Nat} {E' : Env} {e : Exit} {jx : Code} (he : e = .ret ∨ e = .normal) (hr : fn.results = #[]) (hL : List.Perm L ((l, loopAt r .done (some jx)) :: L')) (k : J P none b0 Mk N D ((l, loopAt r .exhausted (some jx)) :: L') E jx Q) :
    JX b0 Mk N' [] L E' (bodyPost P fn (itK P N D E l Q)) e := by
  rcases he with rfl | rfl
  · exact JX_ret (rs := []) (by rw [hr]) Res.nil fun w hw => itK1 hL k hw
  · exact JX_end (rs := []) (by rw [hr]) Res.nil fun w hw => itK1 hL k hw
theorem JX_it0M {l : Nat} {r : Loop} {fn : Func} {N' : Nat} {E' : Env} {e : Exit} {L2 : Heap} (ms : List Nat) (hm : List.Perm L (ms.map (fun r => (r, Obj.deferred (some []))) ++ L2)) (he : e = .ret ∨ e = .normal) (hr : fn.results = #[]) (hL : List.Perm L2 ((l, loopAt r .ready none) :: L')) (k : JX b0 Mk N D ((l, loopAt r .exhausted none) :: L') E Q .normal) :
    JX b0 Mk N' (ms.map markD) L E' (bodyPostM (FW none) 0 P fn (itK P N D E l Q)) e := by
  rcases he with rfl | rfl
  · exact JX_retD (rs := []) ms hm (by rw [hr]) Res.nil fun w hw => itK0 hL k hw
  · exact JX_endD (rs := []) ms hm (by rw [hr]) Res.nil fun w hw => itK0 hL k hw
theorem JX_it1M {l : Nat} {r : Loop} {fn : Func} {N' : Nat} {E' : Env} {e : Exit} {jx : Code} {L2 : Heap} (ms : List Nat) (hm : List.Perm L (ms.map (fun r => (r, Obj.deferred (some []))) ++ L2)) (he : e = .ret ∨ e = .normal) (hr : fn.results = #[]) (hL : List.Perm L2 ((l, loopAt r .done (some jx)) :: L')) (k : J P none b0 Mk N D ((l, loopAt r .exhausted (some jx)) :: L') E jx Q) :
    JX b0 Mk N' (ms.map markD) L E' (bodyPostM (FW none) 0 P fn (itK P N D E l Q)) e := by
  rcases he with rfl | rfl
  · exact JX_retD (rs := []) ms hm (by rw [hr]) Res.nil fun w hw => itK1 hL k hw
  · exact JX_endD (rs := []) ms hm (by rw [hr]) Res.nil fun w hw => itK1 hL k hw

/-- A yield, its round walked in place. -/
theorem yIn {lp : Nat} {vs : List Value} {ps : List Tmp} {assign body : Code} {r : Loop} {Nc : Nat} {Ec : Env} {K : Act → World → Prop} {o : Oper} {a : Act} {w : World} {Q' : Exit → Act → World → Prop} (hr : IsLoop Nc Ec ps.toArray assign body r) (hL : List.Perm L ((lp, loopAt r .ready none) :: L'))
    (hd : notDefer o = true) (hy : execOp a.eval o = Instr.yield lp vs.toArray) (hs : Nat.beq vs.length ps.length = true) (hps : (ps.all fun t => Nat.blt t Nc) = true)
    (h : J P (some lp) b0 Mk Nc [] ((lp, loopAt r .ready none) :: L') (paramsE ps vs Ec) assign (kBegin P lp body (inK N D E K d))) (hdst : o.dst = some d) (ha : Holds N D E a) (hw : SH b0 Mk L w) : o.wpIn (FW rd) 0 P a w K Q' := by
  obtain ⟨fn, tmps, as, bo, h1, h2⟩ := yCall_of_J hr (hw.perm hL) hs hps h
  refine wpIn_yield hd hy ⟨fn, tmps, as, bo, h1, h2.mono fun e w' he => ?_⟩
  obtain ⟨v, rfl, hk⟩ := he
  exact ⟨v, rfl, by rw [hdst]; exact hk a ha⟩
theorem JL_yIn {l : List Oper} {lp : Nat} {vs : List Value} {ps : List Tmp} {assign body : Code} {r : Loop} {Nc : Nat} {Ec : Env} (hr : IsLoop Nc Ec ps.toArray assign body r) (hL : List.Perm L ((lp, loopAt r .ready none) :: L')) (hy : RunY N D E op ty lp vs)
    (h : J P (some lp) b0 Mk Nc [] ((lp, loopAt r .ready none) :: L') (paramsE ps vs Ec) assign (kBegin P lp body (inK N D E (wpL P rd ops T l) d)))
    (hs : Nat.beq vs.length ps.length = true := by rfl) (hps : (ps.all fun t => Nat.blt t Nc) = true := by rfl) (hn : notDeferOp op = true := by rfl) :
    JL P rd b0 Mk N D ops L E ({ dst := some d, op := op, type := ty, pos := pos, after := after, guard := none } :: l) T := by
  intro a w ha hw
  unfold wpL
  rw [if_pos (by rfl)]
  exact yIn hr hL (notDefer_mk hn) (by rw [execOp_mkO]; exact hy a ha) hs hps h rfl ha hw
theorem JL_yIng {l : List Oper} {lp : Nat} {vs : List Value} {ps : List Tmp} {assign body : Code} {r : Loop} {Nc : Nat} {Ec : Env} {g t : Nat} {b : Bool} {u : Value} (hr : IsLoop Nc Ec ps.toArray assign body r) (hL : List.Perm L ((lp, loopAt r .ready none) :: L')) (hy : RunY N D E op ty lp vs)
    (h : J P (some lp) b0 Mk Nc [] ((lp, loopAt r .ready none) :: L') (paramsE ps vs Ec) assign (kBegin P lp body (inK N D E (wpL P rd ops T l) d)))
    (hg : (ops[g]?).bind (·.dst) = some t := by rfl) (hu : look E t = some u := by rfl) (hb : wantB u b = true := by rfl) (ht : Nat.blt t N = true := by rfl)
    (hs : Nat.beq vs.length ps.length = true := by rfl) (hps : (ps.all fun t => Nat.blt t Nc) = true := by rfl) (hn : notDeferOp op = true := by rfl) :
    JL P rd b0 Mk N D ops L E ({ dst := some d, op := op, type := ty, pos := pos, after := after, guard := some (g, b) } :: l) T := by
  intro a w ha hw
  unfold wpL
  rw [if_pos (by simp only [Region.wanted]; rw [yielded_of ha hg hu ht]; exact hb)]
  exact yIn hr hL (notDefer_mk hn) (by rw [execOp_mkO]; exact hy a ha) hs hps h rfl ha hw

/-- A round's end: back into the iterator. -/
theorem JX_roundI {l : Nat} {r : Loop} {N' : Nat} {D' : List Deferred} {E' : Env} {ops' : Array Oper} {rd' : Option Nat} {rest : List Oper} {T' : Act → World → Prop} (hL : List.Perm L ((l, loopAt r .busy none) :: L'))
    (k : JL P rd' b0 Mk N' D' ops' ((l, loopAt r .ready none) :: L') ((d, .bool true) :: E') rest T') (hd : Nat.blt d N' = true := by rfl) : JX b0 Mk N D L E (kRound P l (inK N' D' E' (wpL P rd' ops' T' rest) d)) .normal :=
  JX_round hL fun w hw => ⟨_, rfl, fun a ha => k _ _ (ha.put hd _) hw⟩
theorem JX_roundI_exit {l id : Nat} {r : Loop} {N' : Nat} {D' : List Deferred} {E' : Env} {ops' : Array Oper} {rd' : Option Nat} {rest : List Oper} {T' : Act → World → Prop} (hL : List.Perm L ((l, loopAt r .busy none) :: L'))
    (k : JL P rd' b0 Mk N' D' ops' ((l, loopAt r .done (some (.exit id))) :: L') ((d, .bool false) :: E') rest T') (hd : Nat.blt d N' = true := by rfl) : JX b0 Mk N D L E (kRound P l (inK N' D' E' (wpL P rd' ops' T' rest) d)) (.exit id) :=
  JX_round_exit hL fun w hw => ⟨_, rfl, fun a ha => k _ _ (ha.put hd _) hw⟩
theorem JX_roundI_ret {l : Nat} {r : Loop} {N' : Nat} {D' : List Deferred} {E' : Env} {ops' : Array Oper} {rd' : Option Nat} {rest : List Oper} {T' : Act → World → Prop} (hL : List.Perm L ((l, loopAt r .busy none) :: L'))
    (k : JL P rd' b0 Mk N' D' ops' ((l, loopAt r .done (some .ret)) :: L') ((d, .bool false) :: E') rest T') (hd : Nat.blt d N' = true := by rfl) : JX b0 Mk N D L E (kRound P l (inK N' D' E' (wpL P rd' ops' T' rest) d)) .ret :=
  JX_round_ret hL fun w hw => ⟨_, rfl, fun a ha => k _ _ (ha.put hd _) hw⟩
end
end Go.Proofs.YtodejmindmiknaaDoor.Jd
