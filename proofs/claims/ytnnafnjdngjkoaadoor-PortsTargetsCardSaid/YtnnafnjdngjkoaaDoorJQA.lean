/- Part of the proofs of this seat: walks and plain facts. No condition. -/
import Derived.Test.YtnnafnjdngjkoaaDoorProg
import Derived.Test.YtnnafnjdngjkoaaDoorJMA
import Derived.Test.YtnnafnjdngjkoaaDoorJPA
import Derived.Test.YtnnafnjdngjkoaaDoorJQH
import Derived.Test.YtnnafnjdngjkoaaDoorJER
namespace Go.Proofs.YtnnafnjdngjkoaaDoor.Jd
open Go.Proofs
open Go.RowKit (Below)
set_option maxRecDepth 100000
set_option linter.unusedVariables false
set_option linter.unusedSimpArgs false
theorem mixed : Tryd.prog.follows .mixedOrders = true := by kernel_rfl
theorem FO_23_0 : FieldOff Tryd.prog 23 0 0 := fun r k w => by simp [Instr.fieldAt, Instr.sureAddr, fieldPlace, addr_add]
theorem FO_23_1 : FieldOff Tryd.prog 23 1 1 := fun r k w => by simp [Instr.fieldAt, Instr.sureAddr, fieldPlace, addr_add]
theorem FO_37_0 : FieldOff Tryd.prog 37 0 0 := fun r k w => by simp [Instr.fieldAt, Instr.sureAddr, fieldPlace, addr_add]
theorem FO_37_1 : FieldOff Tryd.prog 37 1 1 := fun r k w => by simp [Instr.fieldAt, Instr.sureAddr, fieldPlace, addr_add]
theorem FO_59_0 : FieldOff Tryd.prog 59 0 0 := fun r k w => by simp [Instr.fieldAt, Instr.sureAddr, fieldPlace, addr_add]
theorem FO_65_0 : FieldOff Tryd.prog 65 0 0 := fun r k w => by simp [Instr.fieldAt, Instr.sureAddr, fieldPlace, addr_add]
theorem FO_69_0 : FieldOff Tryd.prog 69 0 0 := fun r k w => by simp [Instr.fieldAt, Instr.sureAddr, fieldPlace, addr_add]
theorem FO_80_0 : FieldOff Tryd.prog 80 0 0 := fun r k w => by simp [Instr.fieldAt, Instr.sureAddr, fieldPlace, addr_add]
theorem FO_83_0 : FieldOff Tryd.prog 83 0 0 := fun r k w => by simp [Instr.fieldAt, Instr.sureAddr, fieldPlace, addr_add]
theorem FO_83_1 : FieldOff Tryd.prog 83 1 1 := fun r k w => by simp [Instr.fieldAt, Instr.sureAddr, fieldPlace, addr_add]
theorem FO_83_2 : FieldOff Tryd.prog 83 2 5 := fun r k w => by simp [Instr.fieldAt, Instr.sureAddr, fieldPlace, addr_add]
theorem PL_23 : Places Tryd.prog 23 [(0, 1), (1, 1)] := ⟨_, fun w => Tryd.runUnderlying23 w, fun w => by simp⟩
theorem PL_37 : Places Tryd.prog 37 [(0, 1), (1, 1)] := ⟨_, fun w => Tryd.runUnderlying37 w, fun w => by simp⟩
theorem PL_59 : Places Tryd.prog 59 [(0, 2)] := ⟨_, fun w => Tryd.runUnderlying59 w, fun w => by simp⟩
theorem PL_65 : Places Tryd.prog 65 [(0, 1)] := ⟨_, fun w => Tryd.runUnderlying65 w, fun w => by simp⟩
theorem PL_69 : Places Tryd.prog 69 [(0, 1)] := ⟨_, fun w => Tryd.runUnderlying69 w, fun w => by simp⟩
theorem PL_80 : Places Tryd.prog 80 [(0, 1)] := ⟨_, fun w => Tryd.runUnderlying80 w, fun w => by simp⟩
theorem PL_83 : Places Tryd.prog 83 [(0, 1), (1, 4), (5, 1)] := ⟨_, fun w => Tryd.runUnderlying83 w, fun w => by simp⟩
theorem EQH_23 (a0 b0 : Int) (a1 b1 : Int) (n : Nat) (w : World) : (Op.equalIn (n + 2) 23 (Value.agg [Value.int .i64 a0, Value.int .i64 a1].toArray) (Value.agg [Value.int .i64 b0, Value.int .i64 b1].toArray)).run Tryd.prog w = .ok (decide (a0 = b0 ∧ a1 = b1)) w := by
  rw [show n + 2 = (n + 1) + 1 from rfl]
  unfold Op.equalIn
  simp [part, run_eqI (P := Tryd.prog) (t := 3) n .i64 _ _ Tryd.runUnderlying3]
  by_cases h0 : a0 = b0 <;> by_cases h1 : a1 = b1 <;> simp_all
theorem EQ_23 (x y : Operand) (a0 b0 : Int) (a1 b1 : Int) (w : World) : (do eqGuard .eql 23 x y (Value.agg [Value.int .i64 a0, Value.int .i64 a1].toArray) (Value.agg [Value.int .i64 b0, Value.int .i64 b1].toArray); binOp .eql 23 (Value.agg [Value.int .i64 a0, Value.int .i64 a1].toArray) (Value.agg [Value.int .i64 b0, Value.int .i64 b1].toArray) : Sem Value).run Tryd.prog w = .ok (.bool (decide (a0 = b0 ∧ a1 = b1))) w := by
  have h2 : (binOp .eql 23 (Value.agg [Value.int .i64 a0, Value.int .i64 a1].toArray) (Value.agg [Value.int .i64 b0, Value.int .i64 b1].toArray)).run Tryd.prog w = .ok (.bool (decide (a0 = b0 ∧ a1 = b1))) w := by
    show (do pure (.bool (← Op.equal 23 _ _)) : Sem Value).run Tryd.prog w = _
    simp only [Sem.run_bind, Op.equal, Op.maxDepth, EQH_23 a0 b0 a1 b1 9998, Result.andThen_ok, Sem.run_pure]
  simp [eqGuard]
  simpa using h2
theorem NE_23 (x y : Operand) (a0 b0 : Int) (a1 b1 : Int) (w : World) : (do eqGuard .neq 23 x y (Value.agg [Value.int .i64 a0, Value.int .i64 a1].toArray) (Value.agg [Value.int .i64 b0, Value.int .i64 b1].toArray); binOp .neq 23 (Value.agg [Value.int .i64 a0, Value.int .i64 a1].toArray) (Value.agg [Value.int .i64 b0, Value.int .i64 b1].toArray) : Sem Value).run Tryd.prog w = .ok (.bool (decide (¬ (a0 = b0 ∧ a1 = b1)))) w := by
  have h2 : (binOp .neq 23 (Value.agg [Value.int .i64 a0, Value.int .i64 a1].toArray) (Value.agg [Value.int .i64 b0, Value.int .i64 b1].toArray)).run Tryd.prog w = .ok (.bool (decide (¬ (a0 = b0 ∧ a1 = b1)))) w := by
    show (do pure (.bool (!(← Op.equal 23 _ _))) : Sem Value).run Tryd.prog w = _
    simp only [Sem.run_bind, Op.equal, Op.maxDepth, EQH_23 a0 b0 a1 b1 9998, Result.andThen_ok, Sem.run_pure]
    congr 2
    simp
  simp [eqGuard]
  simpa using h2
theorem EQH_37 (a0 b0 : Int) (a1 b1 : Int) (n : Nat) (w : World) : (Op.equalIn (n + 2) 37 (Value.agg [Value.int .i64 a0, Value.int .i64 a1].toArray) (Value.agg [Value.int .i64 b0, Value.int .i64 b1].toArray)).run Tryd.prog w = .ok (decide (a0 = b0 ∧ a1 = b1)) w := by
  rw [show n + 2 = (n + 1) + 1 from rfl]
  unfold Op.equalIn
  simp [part, run_eqI (P := Tryd.prog) (t := 3) n .i64 _ _ Tryd.runUnderlying3]
  by_cases h0 : a0 = b0 <;> by_cases h1 : a1 = b1 <;> simp_all
theorem EQ_37 (x y : Operand) (a0 b0 : Int) (a1 b1 : Int) (w : World) : (do eqGuard .eql 37 x y (Value.agg [Value.int .i64 a0, Value.int .i64 a1].toArray) (Value.agg [Value.int .i64 b0, Value.int .i64 b1].toArray); binOp .eql 37 (Value.agg [Value.int .i64 a0, Value.int .i64 a1].toArray) (Value.agg [Value.int .i64 b0, Value.int .i64 b1].toArray) : Sem Value).run Tryd.prog w = .ok (.bool (decide (a0 = b0 ∧ a1 = b1))) w := by
  have h2 : (binOp .eql 37 (Value.agg [Value.int .i64 a0, Value.int .i64 a1].toArray) (Value.agg [Value.int .i64 b0, Value.int .i64 b1].toArray)).run Tryd.prog w = .ok (.bool (decide (a0 = b0 ∧ a1 = b1))) w := by
    show (do pure (.bool (← Op.equal 37 _ _)) : Sem Value).run Tryd.prog w = _
    simp only [Sem.run_bind, Op.equal, Op.maxDepth, EQH_37 a0 b0 a1 b1 9998, Result.andThen_ok, Sem.run_pure]
  simp [eqGuard]
  simpa using h2
theorem NE_37 (x y : Operand) (a0 b0 : Int) (a1 b1 : Int) (w : World) : (do eqGuard .neq 37 x y (Value.agg [Value.int .i64 a0, Value.int .i64 a1].toArray) (Value.agg [Value.int .i64 b0, Value.int .i64 b1].toArray); binOp .neq 37 (Value.agg [Value.int .i64 a0, Value.int .i64 a1].toArray) (Value.agg [Value.int .i64 b0, Value.int .i64 b1].toArray) : Sem Value).run Tryd.prog w = .ok (.bool (decide (¬ (a0 = b0 ∧ a1 = b1)))) w := by
  have h2 : (binOp .neq 37 (Value.agg [Value.int .i64 a0, Value.int .i64 a1].toArray) (Value.agg [Value.int .i64 b0, Value.int .i64 b1].toArray)).run Tryd.prog w = .ok (.bool (decide (¬ (a0 = b0 ∧ a1 = b1)))) w := by
    show (do pure (.bool (!(← Op.equal 37 _ _))) : Sem Value).run Tryd.prog w = _
    simp only [Sem.run_bind, Op.equal, Op.maxDepth, EQH_37 a0 b0 a1 b1 9998, Result.andThen_ok, Sem.run_pure]
    congr 2
    simp
  simp [eqGuard]
  simpa using h2
theorem TY_9 : Ty Tryd.prog 9 1 16 (Value.string (bs ([] : Str))) := ⟨⟨Tryd.t9, by kernel_rfl, rfl, rfl, rfl⟩, rfl⟩
theorem rIsAddr_ok (w : World) {a : Int} : Val Tryd.prog 50 [(Value.int .i64 (a))] w (Value.bool ((rIsAddr a))) := by
  have hF := Is.refl (rIsAddr a)
  refine enter Tryd.func50 Tryd.ntmps50 (h := ?_)
  refine J_seq ?_
  refine J_reg ?_
  refine JL_q (q_assign) (k := ?_)
  refine JL_nil ?_
  refine JX_seq ?_
  refine J_seq ?_
  refine J_reg ?_
  refine JL_q (q_move) (k := ?_)
  refine JL_q (q_geq) (k := ?_)
  refine JL_q (q_move) (k := ?_)
  refine JL_dec 5 rfl (fun hq1 => ?_) (fun hq1 => ?_)
  rotate_left
  · refine JL_skips 2 rfl ?_
    refine JL_q (q_pickF) (k := ?_)
    refine JL_q (q_assign) (k := ?_)
    refine JL_nil ?_
    refine JX_seq ?_
    refine J_ret ?_
    refine JX_ret Tryd.results50 (Res.tmp rfl Res.nil) (fun w1 hw1 => ?_)
    exact ⟨(by rw [((hF.neg hq1)).eq] <;> first | rfl | (simp only [List.length_set] <;> rfl)), hw1.ext_out⟩
  refine JL_qg (q_move) (k := ?_)
  refine JL_qg (q_leq) (k := ?_)
  refine JL_q (q_pickT) (k := ?_)
  refine JL_q (q_assign) (k := ?_)
  refine JL_nil ?_
  refine JX_seq ?_
  refine J_ret ?_
  refine JX_ret Tryd.results50 (Res.tmp rfl Res.nil) (fun w1 hw1 => ?_)
  exact ⟨(by rw [((hF.pos hq1)).eq] <;> first | rfl | (simp only [List.length_set] <;> rfl)), hw1.ext_out⟩

theorem isAddr_ok (w : World) {a : Int} : Val Tryd.prog 47 [(Value.int .i64 (a))] w (Value.bool ((isAddr a))) := by
  have hF := Is.refl (isAddr a)
  refine enter Tryd.func47 Tryd.ntmps47 (h := ?_)
  refine J_seq ?_
  refine J_reg ?_
  refine JL_q (q_assign) (k := ?_)
  refine JL_nil ?_
  refine JX_seq ?_
  refine J_seq ?_
  refine J_reg ?_
  refine JL_q (q_move) (k := ?_)
  refine JL_q (q_geq) (k := ?_)
  refine JL_q (q_move) (k := ?_)
  refine JL_dec 5 rfl (fun hq1 => ?_) (fun hq1 => ?_)
  rotate_left
  · refine JL_skips 2 rfl ?_
    refine JL_q (q_pickF) (k := ?_)
    refine JL_q (q_assign) (k := ?_)
    refine JL_nil ?_
    refine JX_seq ?_
    refine J_ret ?_
    refine JX_ret Tryd.results47 (Res.tmp rfl Res.nil) (fun w1 hw1 => ?_)
    exact ⟨(by rw [((hF.neg hq1)).eq] <;> first | rfl | (simp only [List.length_set] <;> rfl)), hw1.ext_out⟩
  refine JL_qg (q_move) (k := ?_)
  refine JL_qg (q_leq) (k := ?_)
  refine JL_q (q_pickT) (k := ?_)
  refine JL_q (q_assign) (k := ?_)
  refine JL_nil ?_
  refine JX_seq ?_
  refine J_ret ?_
  refine JX_ret Tryd.results47 (Res.tmp rfl Res.nil) (fun w1 hw1 => ?_)
  exact ⟨(by rw [((hF.pos hq1)).eq] <;> first | rfl | (simp only [List.length_set] <;> rfl)), hw1.ext_out⟩

theorem aPrint_ok (w : World) {ea0 : Addr} {ea1 : Addr} {a : Int} (hG : Gl w) (hE : Er w ea0 ea1) : Val Tryd.prog 35 [(Value.int .i64 (a))] w (Value.tuple [(Value.string (bs ((aPrint a).1))), (Value.int .i64 (((aPrint a).2)))].toArray) := by
  have hF := Is.refl (aPrint a)
  refine enterD Tryd.func35 Tryd.ntmps35 (h := ?_)
  refine J_seq ?_
  refine J_reg ?_
  refine JL_q (q_assign) (k := ?_)
  refine JL_q (q_assign) (k := ?_)
  refine JL_nil ?_
  refine JX_seq ?_
  refine J_seq ?_
  refine J_seq ?_
  refine J_reg ?_
  refine JL_q (q_move) (k := ?_)
  refine JL_v (args := [(Value.int .i64 (a))]) (c_callA Tryd.call47) (fun w1 hw1 => isAddr_ok w1 (a := a)) (k := ?_)
  refine JL_q (q_not) (k := ?_)
  refine JL_nil ?_
  refine JX_seq ?_
  refine J_cond rfl (fun hq1 => ?_) (fun hq1 => ?_)
  · refine J_seq ?_
    refine J_reg ?_
    refine JL_q (q_assign) (k := ?_)
    refine JL_q (q_assign) (k := ?_)
    refine JL_nil ?_
    refine JX_seq ?_
    refine J_ret ?_
    refine JX_seq_ret ?_
    refine JX_retD [] (List.Perm.refl _) Tryd.results35 (Res.tmp rfl (Res.tmp rfl Res.nil)) (fun w1 hw1 => ?_)
    exact ⟨(by rw [((hF.t hq1)).eq] <;> first | rfl | (simp only [List.length_set] <;> rfl)), hw1.ext_out⟩
  have hfhq1 := isAddr_t (by simpa using hq1)
  refine J_skip ?_
  refine JX_seq ?_
  refine J_seq ?_
  refine J_reg ?_
  refine JL_a noMk (a_alloc (l := [_]) Tryd.zeroValue73) (k := fun r1 hr1 => ?_)
  refine JL_nil ?_
  refine JX_seq ?_
  refine J_seq ?_
  refine J_seq ?_
  refine J_reg ?_
  refine JL_q (q_move) (k := ?_)
  refine JL_inl (args := [(Value.int .i64 (a))]) (c_callA Tryd.call48) Tryd.func48 Tryd.ntmps48 ?_
  refine J_seq ?_
  refine J_reg ?_
  refine JL_a noMk (a_box (l := [_])) (k := fun r2 hr2 => ?_)
  refine JL_q (q_assign) (k := ?_)
  refine JL_nil ?_
  refine JX_seq ?_
  refine J_seq ?_
  refine J_reg ?_
  refine JL_q (q_func) (k := ?_)
  refine JL_q (q_assign) (k := ?_)
  refine JL_nil ?_
  refine JX_seq ?_
  refine J_ret ?_
  refine JX_retI Tryd.results48 (Res.tmp rfl Res.nil) ?_
  refine JL_nil ?_
  refine JX_seq ?_
  refine J_block ?_
  refine J_rangeI noMk rfl Tryd.call57 Tryd.func57 Tryd.ntmps57 (fun l3 rD3 rr3 hl3 => ?_)
  refine J_scope ?_
  refine J_seq ?_
  refine J_label ?_
  refine JX_seq ?_
  refine J_seq ?_
  refine J_reg ?_
  refine JL_q (q_assign) (k := ?_)
  refine JL_nil ?_
  refine JX_seq ?_
  refine J_block ?_
  refine J_unroll ?_
  refine J_seq ?_
  refine J_seq ?_
  refine J_reg ?_
  refine JL_q (q_move) (k := ?_)
  refine JL_q (q_geq) (k := ?_)
  refine JL_nil ?_
  refine JX_seq ?_
  refine J_true rfl ?_
  refine J_skip ?_
  refine JX_seq ?_
  refine J_seq ?_
  refine J_block ?_
  refine J_seq ?_
  refine J_reg ?_
  refine JL_q (q_move) (k := ?_)
  refine JL_q (q_load Tryd.isAgg3) (k := ?_)
  refine JL_q (q_move) (k := ?_)
  refine JL_q (q_shrW) (k := ?_)
  refine JL_q (q_andW) (k := ?_)
  refine JL_yIn (vs := [(Value.int .i64 ((andI .i64 (shrI .i64 a 24) 255)))]) hl3 (List.Perm.refl _) y_call ?_
  refine J_reg ?_
  refine JL_q (q_assign) (k := ?_)
  refine JL_nil ?_
  refine JX_begin (List.Perm.refl _) ?_
  refine J_block ?_
  refine J_plan mixed 5 [(true, 0), (true, 1), (false, 2), (false, 3), (false, 4)] (by kernel_rfl) ?_
  refine JD_q (q_load Tryd.isAgg73) (k := ?_)
  refine JD_q (q_move) (k := ?_)
  have hbb := bytes_bd (a := a) (by omega)
  refine JD_v (args := [(Value.int .i64 ((andI .i64 (shrI .i64 a 24) 255)))]) (c_callA Tryd.call26) (fun w1 hw1 => Itoa_ok w1 (n := (andI .i64 (shrI .i64 a 24) 255)) (hG := hG.ext hw1.ext_out) (hn := by first | omega | (simp only [List.length_append, List.length_take, List.length_drop, List.length_set, List.length_replicate, List.length_cons, List.length_nil, List.length_map]; omega) | (simp only [List.length_append, List.length_take, List.length_drop, List.length_set, List.length_replicate, List.length_cons, List.length_nil, List.length_map] at *; omega))) (k := ?_)
  have hil_84351 := itoa_len (n := (andI .i64 (shrI .i64 a 24) 255)) (by omega)
  refine JD_a noMk (a_bslice (l := [_]) Tryd.runUnderlying73 Tryd.sizeOf9 Tryd.zeroValue9) (k := fun r4 hr4 => ?_)
  refine JD_append ([(Lib.itoa (andI .i64 (shrI .i64 a 24) 255))] : List Str) (List.nil_append _) TY_9 Tryd.underlying73 eS_ok OwnB.nil (List.Perm.refl _) (SlJ.lit (xs := ([(Lib.itoa (andI .i64 (shrI .i64 a 24) 255))] : List Str)) eS_ok) ⟨by first | omega | (simp; done) | (simp; omega), by first | omega | (simp; done) | (simp; omega)⟩ (n := 0) (m := 1) (k := fun ax1 cx1 Bx1 hox1 => ?_)
  refine JD_nil ?_
  refine JL_eqL (L' := (Bx1 ++ ((r4, Obj.cells [(Value.string (bs (Lib.itoa (andI .i64 (shrI .i64 a 24) 255))))].toArray 9) :: ((l3, loopAt rr3 .busy none) :: ((rD3, Obj.deferred (some [])) :: ((r2, Obj.cells [(Value.int .i64 (a))].toArray 3) :: ((r1, Obj.cells [(Value.slice (none) (0) (0))].toArray 73) :: []))))))) (by simp only [List.append_nil, List.append_assoc, List.cons_append, List.nil_append]) ?_
  refine JL_s (w_store (l' := [_]) Tryd.sizeOf73) (k := ?_)
  refine JL_nil ?_
  refine JX_block ?_
  refine JX_roundI ((List.Perm.append_left _ ((List.Perm.cons _ (List.Perm.refl _)).trans (List.Perm.swap _ _ _))).trans List.perm_middle) ?_
  refine JL_q (q_not) (k := ?_)
  refine JL_nil ?_
  refine JX_seq ?_
  refine J_false rfl ?_
  refine J_skip ?_
  refine JX_block ?_
  refine JX_seq ?_
  refine J_reg ?_
  refine JL_q (q_move) (k := ?_)
  refine JL_q (q_sub) (k := ?_)
  refine JL_q (q_assign) (k := ?_)
  refine JL_nil ?_
  refine JX_again ?_
  refine J_seq ?_
  refine J_seq ?_
  refine J_reg ?_
  refine JL_q (q_move) (k := ?_)
  refine JL_q (q_geq) (k := ?_)
  refine JL_nil ?_
  refine JX_seq ?_
  refine J_true rfl ?_
  refine J_skip ?_
  refine JX_seq ?_
  refine J_seq ?_
  refine J_block ?_
  refine J_seq ?_
  refine J_reg ?_
  refine JL_q (q_move) (k := ?_)
  refine JL_q (q_load Tryd.isAgg3) (k := ?_)
  refine JL_q (q_move) (k := ?_)
  refine JL_q (q_shrW) (k := ?_)
  refine JL_q (q_andW) (k := ?_)
  refine JL_yIn (vs := [(Value.int .i64 ((andI .i64 (shrI .i64 a 16) 255)))]) hl3 (List.Perm.refl _) y_call ?_
  refine J_reg ?_
  refine JL_q (q_assign) (k := ?_)
  refine JL_nil ?_
  refine JX_begin (List.Perm.refl _) ?_
  refine J_block ?_
  refine J_planV ((l3, loopAt rr3 .busy none) :: ((r4, Obj.cells [(Value.string (bs (Lib.itoa (andI .i64 (shrI .i64 a 24) 255))))].toArray 9) :: ((rD3, Obj.deferred (some [])) :: ((r2, Obj.cells [(Value.int .i64 (a))].toArray 3) :: ((r1, Obj.cells [(Value.slice (ax1) (([(Lib.itoa (andI .i64 (shrI .i64 a 24) 255))] : List Str).length) (cx1))].toArray 73) :: []))))) (Bx1 ++ []) (List.Perm.trans ((List.Perm.cons _ (List.Perm.refl _)).trans List.perm_middle.symm) (List.Perm.of_eq (by first | rfl | (simp only [List.cons_append, List.nil_append, List.append_assoc, List.append_nil]; done) | (simp only [List.cons_append, List.nil_append, List.append_assoc, List.append_nil]; rfl)))) mixed 5 [(true, 0), (true, 1), (false, 2), (false, 3), (false, 4)] (by kernel_rfl) ?_
  refine JD_q (q_load Tryd.isAgg73) (k := ?_)
  refine JD_q (q_move) (k := ?_)
  have hbb := bytes_bd (a := a) (by omega)
  refine JD_v (args := [(Value.int .i64 ((andI .i64 (shrI .i64 a 16) 255)))]) (c_callA Tryd.call26) (fun w1 hw1 => Itoa_ok w1 (n := (andI .i64 (shrI .i64 a 16) 255)) (hG := hG.ext hw1.ext_out) (hn := by first | omega | (simp only [List.length_append, List.length_take, List.length_drop, List.length_set, List.length_replicate, List.length_cons, List.length_nil, List.length_map]; omega) | (simp only [List.length_append, List.length_take, List.length_drop, List.length_set, List.length_replicate, List.length_cons, List.length_nil, List.length_map] at *; omega))) (k := ?_)
  have hil_16277 := itoa_len (n := (andI .i64 (shrI .i64 a 16) 255)) (by omega)
  refine JD_a noMk (a_bslice (l := [_]) Tryd.runUnderlying73 Tryd.sizeOf9 Tryd.zeroValue9) (k := fun r5 hr5 => ?_)
  refine JD_append (([(Lib.itoa (andI .i64 (shrI .i64 a 24) 255))] : List Str) ++ ([(Lib.itoa (andI .i64 (shrI .i64 a 16) 255))] : List Str)) rfl TY_9 Tryd.underlying73 eS_ok hox1 (List.Perm.refl _) (SlJ.lit (xs := ([(Lib.itoa (andI .i64 (shrI .i64 a 16) 255))] : List Str)) eS_ok) ⟨by first | omega | (simp; done) | (simp; omega), by first | omega | (simp; done) | (simp; omega)⟩ (n := ([(Lib.itoa (andI .i64 (shrI .i64 a 24) 255))] : List Str).length) (m := 1) (k := fun ax3 cx3 Bx3 hox3 => ?_)
  refine JD_nil ?_
  refine JL_eqL (L' := (Bx3 ++ ((r5, Obj.cells [(Value.string (bs (Lib.itoa (andI .i64 (shrI .i64 a 16) 255))))].toArray 9) :: ((l3, loopAt rr3 .busy none) :: ((r4, Obj.cells [(Value.string (bs (Lib.itoa (andI .i64 (shrI .i64 a 24) 255))))].toArray 9) :: ((rD3, Obj.deferred (some [])) :: ((r2, Obj.cells [(Value.int .i64 (a))].toArray 3) :: ((r1, Obj.cells [(Value.slice (ax1) (([(Lib.itoa (andI .i64 (shrI .i64 a 24) 255))] : List Str).length) (cx1))].toArray 73) :: [])))))))) (by simp only [List.append_nil, List.append_assoc, List.cons_append, List.nil_append]) ?_
  refine JL_s (w_store (l' := [_]) Tryd.sizeOf73) (k := ?_)
  refine JL_nil ?_
  refine JX_block ?_
  refine JX_roundI ((List.Perm.append_left _ ((List.Perm.cons _ (List.Perm.refl _)).trans (List.Perm.swap _ _ _))).trans List.perm_middle) ?_
  refine JL_q (q_not) (k := ?_)
  refine JL_nil ?_
  refine JX_seq ?_
  refine J_false rfl ?_
  refine J_skip ?_
  refine JX_block ?_
  refine JX_seq ?_
  refine J_reg ?_
  refine JL_q (q_move) (k := ?_)
  refine JL_q (q_sub) (k := ?_)
  refine JL_q (q_assign) (k := ?_)
  refine JL_nil ?_
  refine JX_again ?_
  refine J_seq ?_
  refine J_seq ?_
  refine J_reg ?_
  refine JL_q (q_move) (k := ?_)
  refine JL_q (q_geq) (k := ?_)
  refine JL_nil ?_
  refine JX_seq ?_
  refine J_true rfl ?_
  refine J_skip ?_
  refine JX_seq ?_
  refine J_seq ?_
  refine J_block ?_
  refine J_seq ?_
  refine J_reg ?_
  refine JL_q (q_move) (k := ?_)
  refine JL_q (q_load Tryd.isAgg3) (k := ?_)
  refine JL_q (q_move) (k := ?_)
  refine JL_q (q_shrW) (k := ?_)
  refine JL_q (q_andW) (k := ?_)
  refine JL_yIn (vs := [(Value.int .i64 ((andI .i64 (shrI .i64 a 8) 255)))]) hl3 (List.Perm.refl _) y_call ?_
  refine J_reg ?_
  refine JL_q (q_assign) (k := ?_)
  refine JL_nil ?_
  refine JX_begin (List.Perm.refl _) ?_
  refine J_block ?_
  refine J_planV ((l3, loopAt rr3 .busy none) :: ((r5, Obj.cells [(Value.string (bs (Lib.itoa (andI .i64 (shrI .i64 a 16) 255))))].toArray 9) :: ((r4, Obj.cells [(Value.string (bs (Lib.itoa (andI .i64 (shrI .i64 a 24) 255))))].toArray 9) :: ((rD3, Obj.deferred (some [])) :: ((r2, Obj.cells [(Value.int .i64 (a))].toArray 3) :: ((r1, Obj.cells [(Value.slice (ax3) ((([(Lib.itoa (andI .i64 (shrI .i64 a 24) 255))] : List Str) ++ ([(Lib.itoa (andI .i64 (shrI .i64 a 16) 255))] : List Str)).length) (cx3))].toArray 73) :: [])))))) (Bx3 ++ []) (List.Perm.trans ((List.Perm.cons _ (List.Perm.refl _)).trans List.perm_middle.symm) (List.Perm.of_eq (by first | rfl | (simp only [List.cons_append, List.nil_append, List.append_assoc, List.append_nil]; done) | (simp only [List.cons_append, List.nil_append, List.append_assoc, List.append_nil]; rfl)))) mixed 5 [(true, 0), (true, 1), (false, 2), (false, 3), (false, 4)] (by kernel_rfl) ?_
  refine JD_q (q_load Tryd.isAgg73) (k := ?_)
  refine JD_q (q_move) (k := ?_)
  have hbb := bytes_bd (a := a) (by omega)
  refine JD_v (args := [(Value.int .i64 ((andI .i64 (shrI .i64 a 8) 255)))]) (c_callA Tryd.call26) (fun w1 hw1 => Itoa_ok w1 (n := (andI .i64 (shrI .i64 a 8) 255)) (hG := hG.ext hw1.ext_out) (hn := by first | omega | (simp only [List.length_append, List.length_take, List.length_drop, List.length_set, List.length_replicate, List.length_cons, List.length_nil, List.length_map]; omega) | (simp only [List.length_append, List.length_take, List.length_drop, List.length_set, List.length_replicate, List.length_cons, List.length_nil, List.length_map] at *; omega))) (k := ?_)
  have hil_69706 := itoa_len (n := (andI .i64 (shrI .i64 a 8) 255)) (by omega)
  refine JD_a noMk (a_bslice (l := [_]) Tryd.runUnderlying73 Tryd.sizeOf9 Tryd.zeroValue9) (k := fun r6 hr6 => ?_)
  refine JD_append ((([(Lib.itoa (andI .i64 (shrI .i64 a 24) 255))] : List Str) ++ ([(Lib.itoa (andI .i64 (shrI .i64 a 16) 255))] : List Str)) ++ ([(Lib.itoa (andI .i64 (shrI .i64 a 8) 255))] : List Str)) rfl TY_9 Tryd.underlying73 eS_ok hox3 (List.Perm.refl _) (SlJ.lit (xs := ([(Lib.itoa (andI .i64 (shrI .i64 a 8) 255))] : List Str)) eS_ok) ⟨by first | omega | (simp; done) | (simp; omega), by first | omega | (simp; done) | (simp; omega)⟩ (n := (([(Lib.itoa (andI .i64 (shrI .i64 a 24) 255))] : List Str) ++ ([(Lib.itoa (andI .i64 (shrI .i64 a 16) 255))] : List Str)).length) (m := 1) (k := fun ax5 cx5 Bx5 hox5 => ?_)
  refine JD_nil ?_
  refine JL_eqL (L' := (Bx5 ++ ((r6, Obj.cells [(Value.string (bs (Lib.itoa (andI .i64 (shrI .i64 a 8) 255))))].toArray 9) :: ((l3, loopAt rr3 .busy none) :: ((r5, Obj.cells [(Value.string (bs (Lib.itoa (andI .i64 (shrI .i64 a 16) 255))))].toArray 9) :: ((r4, Obj.cells [(Value.string (bs (Lib.itoa (andI .i64 (shrI .i64 a 24) 255))))].toArray 9) :: ((rD3, Obj.deferred (some [])) :: ((r2, Obj.cells [(Value.int .i64 (a))].toArray 3) :: ((r1, Obj.cells [(Value.slice (ax3) ((([(Lib.itoa (andI .i64 (shrI .i64 a 24) 255))] : List Str) ++ ([(Lib.itoa (andI .i64 (shrI .i64 a 16) 255))] : List Str)).length) (cx3))].toArray 73) :: []))))))))) (by simp only [List.append_nil, List.append_assoc, List.cons_append, List.nil_append]) ?_
  refine JL_s (w_store (l' := [_]) Tryd.sizeOf73) (k := ?_)
  refine JL_nil ?_
  refine JX_block ?_
  refine JX_roundI ((List.Perm.append_left _ ((List.Perm.cons _ (List.Perm.refl _)).trans (List.Perm.swap _ _ _))).trans List.perm_middle) ?_
  refine JL_q (q_not) (k := ?_)
  refine JL_nil ?_
  refine JX_seq ?_
  refine J_false rfl ?_
  refine J_skip ?_
  refine JX_block ?_
  refine JX_seq ?_
  refine J_reg ?_
  refine JL_q (q_move) (k := ?_)
  refine JL_q (q_sub) (k := ?_)
  refine JL_q (q_assign) (k := ?_)
  refine JL_nil ?_
  refine JX_again ?_
  refine J_seq ?_
  refine J_seq ?_
  refine J_reg ?_
  refine JL_q (q_move) (k := ?_)
  refine JL_q (q_geq) (k := ?_)
  refine JL_nil ?_
  refine JX_seq ?_
  refine J_true rfl ?_
  refine J_skip ?_
  refine JX_seq ?_
  refine J_seq ?_
  refine J_block ?_
  refine J_seq ?_
  refine J_reg ?_
  refine JL_q (q_move) (k := ?_)
  refine JL_q (q_load Tryd.isAgg3) (k := ?_)
  refine JL_q (q_move) (k := ?_)
  refine JL_q (q_shrW) (k := ?_)
  refine JL_q (q_andW) (k := ?_)
  refine JL_yIn (vs := [(Value.int .i64 ((andI .i64 (shrI .i64 a 0) 255)))]) hl3 (List.Perm.refl _) y_call ?_
  refine J_reg ?_
  refine JL_q (q_assign) (k := ?_)
  refine JL_nil ?_
  refine JX_begin (List.Perm.refl _) ?_
  refine J_block ?_
  refine J_planV ((l3, loopAt rr3 .busy none) :: ((r6, Obj.cells [(Value.string (bs (Lib.itoa (andI .i64 (shrI .i64 a 8) 255))))].toArray 9) :: ((r5, Obj.cells [(Value.string (bs (Lib.itoa (andI .i64 (shrI .i64 a 16) 255))))].toArray 9) :: ((r4, Obj.cells [(Value.string (bs (Lib.itoa (andI .i64 (shrI .i64 a 24) 255))))].toArray 9) :: ((rD3, Obj.deferred (some [])) :: ((r2, Obj.cells [(Value.int .i64 (a))].toArray 3) :: ((r1, Obj.cells [(Value.slice (ax5) (((([(Lib.itoa (andI .i64 (shrI .i64 a 24) 255))] : List Str) ++ ([(Lib.itoa (andI .i64 (shrI .i64 a 16) 255))] : List Str)) ++ ([(Lib.itoa (andI .i64 (shrI .i64 a 8) 255))] : List Str)).length) (cx5))].toArray 73) :: []))))))) (Bx5 ++ []) (List.Perm.trans ((List.Perm.cons _ (List.Perm.refl _)).trans List.perm_middle.symm) (List.Perm.of_eq (by first | rfl | (simp only [List.cons_append, List.nil_append, List.append_assoc, List.append_nil]; done) | (simp only [List.cons_append, List.nil_append, List.append_assoc, List.append_nil]; rfl)))) mixed 5 [(true, 0), (true, 1), (false, 2), (false, 3), (false, 4)] (by kernel_rfl) ?_
  refine JD_q (q_load Tryd.isAgg73) (k := ?_)
  refine JD_q (q_move) (k := ?_)
  have hbb := bytes_bd (a := a) (by omega)
  refine JD_v (args := [(Value.int .i64 ((andI .i64 (shrI .i64 a 0) 255)))]) (c_callA Tryd.call26) (fun w1 hw1 => Itoa_ok w1 (n := (andI .i64 (shrI .i64 a 0) 255)) (hG := hG.ext hw1.ext_out) (hn := by first | omega | (simp only [List.length_append, List.length_take, List.length_drop, List.length_set, List.length_replicate, List.length_cons, List.length_nil, List.length_map]; omega) | (simp only [List.length_append, List.length_take, List.length_drop, List.length_set, List.length_replicate, List.length_cons, List.length_nil, List.length_map] at *; omega))) (k := ?_)
  have hil_59981 := itoa_len (n := (andI .i64 (shrI .i64 a 0) 255)) (by omega)
  refine JD_a noMk (a_bslice (l := [_]) Tryd.runUnderlying73 Tryd.sizeOf9 Tryd.zeroValue9) (k := fun r7 hr7 => ?_)
  refine JD_append (((([(Lib.itoa (andI .i64 (shrI .i64 a 24) 255))] : List Str) ++ ([(Lib.itoa (andI .i64 (shrI .i64 a 16) 255))] : List Str)) ++ ([(Lib.itoa (andI .i64 (shrI .i64 a 8) 255))] : List Str)) ++ ([(Lib.itoa (andI .i64 (shrI .i64 a 0) 255))] : List Str)) rfl TY_9 Tryd.underlying73 eS_ok hox5 (List.Perm.refl _) (SlJ.lit (xs := ([(Lib.itoa (andI .i64 (shrI .i64 a 0) 255))] : List Str)) eS_ok) ⟨by first | omega | (simp; done) | (simp; omega), by first | omega | (simp; done) | (simp; omega)⟩ (n := ((([(Lib.itoa (andI .i64 (shrI .i64 a 24) 255))] : List Str) ++ ([(Lib.itoa (andI .i64 (shrI .i64 a 16) 255))] : List Str)) ++ ([(Lib.itoa (andI .i64 (shrI .i64 a 8) 255))] : List Str)).length) (m := 1) (k := fun ax7 cx7 Bx7 hox7 => ?_)
  refine JD_nil ?_
  refine JL_eqL (L' := (Bx7 ++ ((r7, Obj.cells [(Value.string (bs (Lib.itoa (andI .i64 (shrI .i64 a 0) 255))))].toArray 9) :: ((l3, loopAt rr3 .busy none) :: ((r6, Obj.cells [(Value.string (bs (Lib.itoa (andI .i64 (shrI .i64 a 8) 255))))].toArray 9) :: ((r5, Obj.cells [(Value.string (bs (Lib.itoa (andI .i64 (shrI .i64 a 16) 255))))].toArray 9) :: ((r4, Obj.cells [(Value.string (bs (Lib.itoa (andI .i64 (shrI .i64 a 24) 255))))].toArray 9) :: ((rD3, Obj.deferred (some [])) :: ((r2, Obj.cells [(Value.int .i64 (a))].toArray 3) :: ((r1, Obj.cells [(Value.slice (ax5) (((([(Lib.itoa (andI .i64 (shrI .i64 a 24) 255))] : List Str) ++ ([(Lib.itoa (andI .i64 (shrI .i64 a 16) 255))] : List Str)) ++ ([(Lib.itoa (andI .i64 (shrI .i64 a 8) 255))] : List Str)).length) (cx5))].toArray 73) :: [])))))))))) (by simp only [List.append_nil, List.append_assoc, List.cons_append, List.nil_append]) ?_
  refine JL_s (w_store (l' := [_]) Tryd.sizeOf73) (k := ?_)
  refine JL_nil ?_
  refine JX_block ?_
  refine JX_roundI ((List.Perm.append_left _ ((List.Perm.cons _ (List.Perm.refl _)).trans (List.Perm.swap _ _ _))).trans List.perm_middle) ?_
  refine JL_q (q_not) (k := ?_)
  refine JL_nil ?_
  refine JX_seq ?_
  refine J_false rfl ?_
  refine J_skip ?_
  refine JX_block ?_
  refine JX_seq ?_
  refine J_reg ?_
  refine JL_q (q_move) (k := ?_)
  refine JL_q (q_sub) (k := ?_)
  refine JL_q (q_assign) (k := ?_)
  refine JL_nil ?_
  refine JX_again ?_
  refine J_seq ?_
  refine J_seq ?_
  refine J_reg ?_
  refine JL_q (q_move) (k := ?_)
  refine JL_q (q_geq) (k := ?_)
  refine JL_nil ?_
  refine JX_seq ?_
  refine J_false rfl ?_
  refine J_exit ?_
  refine JX_seq_exit ?_
  refine JX_inv_exit ?_
  refine JX_block_hit ?_
  refine JX_scope ?_
  refine JX_it0 (.inr rfl) Tryd.results57 (List.Perm.refl _) ?_
  refine JX_block ?_
  refine JX_seq ?_
  refine J_seq ?_
  refine J_reg ?_
  refine JL_q (q_load Tryd.isAgg73) (k := ?_)
  refine JL_v (args := [(Value.slice (ax7) ((((([(Lib.itoa (andI .i64 (shrI .i64 a 24) 255))] : List Str) ++ ([(Lib.itoa (andI .i64 (shrI .i64 a 16) 255))] : List Str)) ++ ([(Lib.itoa (andI .i64 (shrI .i64 a 8) 255))] : List Str)) ++ ([(Lib.itoa (andI .i64 (shrI .i64 a 0) 255))] : List Str)).length) (cx7)), (Value.string (bs ([46] : Str)))]) (c_callA Tryd.call49) (fun w1 hw1 => Join_ok w1 (h_xs := (hox7.slj eS_ok) w1 hw1) (xs := (((([(Lib.itoa (andI .i64 (shrI .i64 a 24) 255))] : List Str) ++ ([(Lib.itoa (andI .i64 (shrI .i64 a 16) 255))] : List Str)) ++ ([(Lib.itoa (andI .i64 (shrI .i64 a 8) 255))] : List Str)) ++ ([(Lib.itoa (andI .i64 (shrI .i64 a 0) 255))] : List Str))) (sep := ([46] : Str)) (hc := hox7.le) (hn := by first | omega | (simp only [List.length_append, List.length_take, List.length_drop, List.length_set, List.length_replicate, List.length_cons, List.length_nil, List.length_map]; omega) | (simp only [List.length_append, List.length_take, List.length_drop, List.length_set, List.length_replicate, List.length_cons, List.length_nil, List.length_map] at *; omega)) (hl := by (have := print_len (itoa_len (n := andI .i64 (shrI .i64 a 24) 255) (by omega)) (itoa_len (n := andI .i64 (shrI .i64 a 16) 255) (by omega)) (itoa_len (n := andI .i64 (shrI .i64 a 8) 255) (by omega)) (itoa_len (n := andI .i64 (shrI .i64 a 0) 255) (by omega)); omega))) (k := ?_)
  refine JL_q (q_assign) (k := ?_)
  refine JL_q (q_assign) (k := ?_)
  refine JL_nil ?_
  refine JX_seq ?_
  refine J_ret ?_
  refine JX_retD [rD3] ((List.Perm.cons _ ((List.Perm.append_left _ ((List.Perm.cons _ ((List.Perm.cons _ ((List.Perm.cons _ ((List.Perm.cons _ (List.Perm.refl _)).trans (List.Perm.swap _ _ _))).trans (List.Perm.swap _ _ _))).trans (List.Perm.swap _ _ _))).trans (List.Perm.swap _ _ _))).trans List.perm_middle)).trans (List.Perm.swap _ _ _)) Tryd.results35 (Res.tmp rfl (Res.tmp rfl Res.nil)) (fun w1 hw1 => ?_)
  exact ⟨(by rw [((hF.f hq1)).eq] <;> first | rfl | (simp only [List.length_set] <;> rfl)), hw1.ext_out⟩

theorem aNumber_ok (w : World) {ea0 : Addr} {ea1 : Addr} {t : Str} {most : Int} (n_t : t.length ≤ 1000000) (hG : Gl w) (hE : Er w ea0 ea1) (hm : 0 ≤ most ∧ most ≤ 1000000000) : Val Tryd.prog 62 [(Value.agg [(Value.string (bs t))].toArray), (Value.int .i64 (most))] w (Value.tuple [(Value.int .i64 (((aNumber t most).1))), (Value.bool (((aNumber t most).2)))].toArray) := by
  have hF := Is.refl (aNumber t most)
  refine enter Tryd.func62 Tryd.ntmps62 (h := ?_)
  refine J_seq ?_
  refine J_reg ?_
  refine JL_a noMk (a_box (l := [_])) (k := fun r1 hr1 => ?_)
  refine JL_q (q_assign) (k := ?_)
  refine JL_q (q_assign) (k := ?_)
  refine JL_nil ?_
  refine JX_seq ?_
  refine J_seq ?_
  refine J_reg ?_
  refine JL_q (q_assign) (k := ?_)
  refine JL_nil ?_
  refine JX_seq ?_
  refine J_seq ?_
  refine J_seq ?_
  refine J_reg ?_
  refine JL_q (q_fld FO_80_0) (k := ?_)
  refine JL_q (q_load Tryd.isAgg9) (k := ?_)
  refine JL_a noMk (a_rangeT Tryd.runUnderlying9) (k := fun r2 hr2 => ?_)
  refine JL_nil ?_
  refine JX_seq ?_
  refine J_block ?_
  refine J_loop3 (σ1 := Nat) (σ2 := Int) (σ3 := Nat) (fun n_3 n_1 x_2 => ((r2, Obj.stringIter (bs t) x_2) :: ((r1, Obj.cells [(Value.string (bs t))].toArray 80) :: []))) (fun n_3 n_1 x_2 => [(1, (Value.int .i64 (most))), (2, (Value.pointer (some ⟨r1, 0, none⟩))), (4, (Value.int .i64 (0))), (5, (Value.bool (false))), (6, (Value.int .i64 (n_1))), (11, (Value.pointer (some ⟨r2, 0, none⟩)))]) (fun n_3 n_1 x_2 => t.length - x_2 < n_3 ∧ Is (aNumber_l0 t most (t.length + 1) 0 0) (aNumber_l0 t most n_3 n_1 x_2) ∧ 0 ≤ n_1 ∧ n_1 ≤ 10 * most + 9) (fun n_3 n_1 x_2 => n_3) (t.length + 1) 0 0 ?_ (by repeat (first | exact SubE.nil | refine SubE.cons rfl ?_)) (List.Perm.refl _) ?_
  · exact ⟨Nat.lt_succ_self _, Is.refl _, (by omega)⟩
  · rintro (_ | n_3) n_1 x_2 ⟨hm5, hF4, hi6⟩
    · omega
    refine J_seq ?_
    refine J_reg ?_
    refine JL_next (List.Perm.refl _) (fun hq1 => ?_) (fun hq1 => ?_)
    rotate_left
    · refine JL_q (q_ext) (k := ?_)
      refine JL_nil ?_
      refine JX_seq ?_
      refine J_seq ?_
      refine J_false rfl ?_
      refine J_exit ?_
      refine JX_seq_exit ?_
      refine JX_inv_exit ?_
      refine JX_block_hit ?_
      refine JX_seq ?_
      refine J_seq ?_
      refine J_plan mixed 13 [(true, 0), (true, 1), (true, 2), (true, 3), (true, 4), (true, 5), (true, 7), (true, 8), (false, 6), (true, 9), (true, 10), (true, 11), (true, 12)] (by kernel_rfl) ?_
      refine JD_q (q_move) (k := ?_)
      refine JD_q (q_move) (k := ?_)
      refine JD_q (q_move) (k := ?_)
      refine JD_q (q_leq) (k := ?_)
      refine JD_q (q_move) (k := ?_)
      refine JD_dec 36 rfl (fun hq5 => ?_) (fun hq5 => ?_)
      rotate_left
      · refine JD_skips 5 rfl ?_
        refine JD_q (q_pickF) (k := ?_)
        refine JD_q (q_assign) (k := ?_)
        refine JD_q (q_assign) (k := ?_)
        refine JD_nil ?_
        refine JL_nil ?_
        refine JX_seq ?_
        refine J_ret ?_
        refine JX_ret Tryd.results62 (Res.tmp rfl (Res.tmp rfl Res.nil)) (fun w1 hw1 => ?_)
        exact ⟨(by rw [(((hF.ok2 (hF4.neg hq1)).neg hq5)).eq] <;> first | rfl | (simp only [List.length_set] <;> rfl)), hw1.ext_out⟩
      refine JD_qg (q_move) (k := ?_)
      refine JD_qg (q_fld FO_80_0) (k := ?_)
      refine JD_qg (q_load Tryd.isAgg9) (k := ?_)
      refine JD_vg (args := [(Value.int .i64 (n_1))]) (c_callA Tryd.call26) (fun w1 hw1 => Itoa_ok w1 (n := n_1) (hG := hG.ext hw1.ext_out) (hn := by first | omega | (simp only [List.length_append, List.length_take, List.length_drop, List.length_set, List.length_replicate, List.length_cons, List.length_nil, List.length_map]; omega) | (simp only [List.length_append, List.length_take, List.length_drop, List.length_set, List.length_replicate, List.length_cons, List.length_nil, List.length_map] at *; omega))) (k := ?_)
      have hil_26873 := itoa_len (n := n_1) (by omega)
      refine JD_qg (q_eqT) (k := ?_)
      refine JD_q (q_pickT) (k := ?_)
      refine JD_q (q_assign) (k := ?_)
      refine JD_q (q_assign) (k := ?_)
      refine JD_nil ?_
      refine JL_nil ?_
      refine JX_seq ?_
      refine J_ret ?_
      refine JX_ret Tryd.results62 (Res.tmp rfl (Res.tmp rfl Res.nil)) (fun w1 hw1 => ?_)
      exact ⟨(by rw [(((hF.ok2 (hF4.neg hq1)).pos hq5)).eq] <;> first | rfl | (simp only [List.length_set] <;> rfl)), hw1.ext_out⟩
    have hrhq1 := dec_bd t x_2
    have hphq1 := dec_pos t x_2
    refine JL_q (q_ext) (k := ?_)
    refine JL_nil ?_
    refine JX_seq ?_
    refine J_seq ?_
    refine J_true rfl ?_
    refine J_skip ?_
    refine JX_seq ?_
    refine J_block ?_
    refine J_seq ?_
    refine J_reg ?_
    refine JL_q (q_ext) (k := ?_)
    refine JL_q (q_assign) (k := ?_)
    refine JL_nil ?_
    refine JX_seq ?_
    refine J_seq ?_
    refine J_seq ?_
    refine J_reg ?_
    refine JL_q (q_move) (k := ?_)
    refine JL_q (q_lss) (k := ?_)
    refine JL_q (q_move) (k := ?_)
    refine JL_dec 17 rfl (fun hq2 => ?_) (fun hq2 => ?_)
    · refine JL_skips 2 rfl ?_
      refine JL_q (q_pickT) (k := ?_)
      refine JL_q (q_move) (k := ?_)
      refine JL_skips 3 rfl ?_
      refine JL_q (q_pickT) (k := ?_)
      refine JL_nil ?_
      refine JX_seq ?_
      refine J_true rfl ?_
      refine J_seq ?_
      refine J_reg ?_
      refine JL_q (q_assign) (k := ?_)
      refine JL_q (q_assign) (k := ?_)
      refine JL_nil ?_
      refine JX_seq ?_
      refine J_ret ?_
      refine JX_seq_ret ?_
      refine JX_block_ret ?_
      refine JX_inv_ret ?_
      refine JX_block_ret ?_
      refine JX_seq_ret ?_
      refine JX_ret Tryd.results62 (Res.tmp rfl (Res.tmp rfl Res.nil)) (fun w1 hw1 => ?_)
      exact ⟨(by rw [((hF.er2 ((hF4.pos hq1).pos hq2))).eq] <;> first | rfl | (simp only [List.length_set] <;> rfl)), hw1.ext_out⟩
    refine JL_qg (q_move) (k := ?_)
    refine JL_qg (q_gtr) (k := ?_)
    refine JL_q (q_pickF) (k := ?_)
    refine JL_q (q_move) (k := ?_)
    refine JL_dec 21 rfl (fun hq3 => ?_) (fun hq3 => ?_)
    · refine JL_skips 3 rfl ?_
      refine JL_q (q_pickT) (k := ?_)
      refine JL_nil ?_
      refine JX_seq ?_
      refine J_true rfl ?_
      refine J_seq ?_
      refine J_reg ?_
      refine JL_q (q_assign) (k := ?_)
      refine JL_q (q_assign) (k := ?_)
      refine JL_nil ?_
      refine JX_seq ?_
      refine J_ret ?_
      refine JX_seq_ret ?_
      refine JX_block_ret ?_
      refine JX_inv_ret ?_
      refine JX_block_ret ?_
      refine JX_seq_ret ?_
      refine JX_ret Tryd.results62 (Res.tmp rfl (Res.tmp rfl Res.nil)) (fun w1 hw1 => ?_)
      exact ⟨(by rw [((hF.er2 (((hF4.pos hq1).neg hq2).pos hq3))).eq] <;> first | rfl | (simp only [List.length_set] <;> rfl)), hw1.ext_out⟩
    refine JL_qg (q_move) (k := ?_)
    refine JL_qg (q_move) (k := ?_)
    refine JL_qg (q_gtr) (k := ?_)
    refine JL_q (q_pickF) (k := ?_)
    refine JL_nil ?_
    refine JX_seq ?_
    refine J_dec rfl (fun hq4 => ?_) (fun hq4 => ?_)
    rotate_left
    · refine J_skip ?_
      refine JX_seq ?_
      refine J_reg ?_
      refine JL_q (q_move) (k := ?_)
      refine JL_q (q_mul) (k := ?_)
      refine JL_q (q_move) (k := ?_)
      refine JL_q (q_subK (p := (((dec t x_2).1 : Nat) : Int)) (q := 48) (wrap_i32 (by omega))) (k := ?_)
      refine JL_q (q_conv (r := ((((dec t x_2).1 : Nat) : Int) - 48)) (wrap_i64 (by omega)) Tryd.runUnderlying21 Tryd.runUnderlying3) (k := ?_)
      refine JL_q (q_add) (k := ?_)
      refine JL_q (q_assign) (k := ?_)
      refine JL_nil ?_
      refine JX_block ?_
      exact JX_inv3 n_3 ((n_1 * 10) + ((((dec t x_2).1 : Nat) : Int) - 48)) (x_2 + (dec t x_2).2) ⟨by omega, ((((hF4.pos hq1).neg hq2).neg hq3).neg hq4), (by omega)⟩ (Nat.lt_succ_self _) (by repeat (first | exact SubE.nil | refine SubE.cons rfl ?_)) (List.Perm.refl _)
    refine J_seq ?_
    refine J_reg ?_
    refine JL_q (q_assign) (k := ?_)
    refine JL_q (q_assign) (k := ?_)
    refine JL_nil ?_
    refine JX_seq ?_
    refine J_ret ?_
    refine JX_seq_ret ?_
    refine JX_block_ret ?_
    refine JX_inv_ret ?_
    refine JX_block_ret ?_
    refine JX_seq_ret ?_
    refine JX_ret Tryd.results62 (Res.tmp rfl (Res.tmp rfl Res.nil)) (fun w1 hw1 => ?_)
    exact ⟨(by rw [((hF.er2 ((((hF4.pos hq1).neg hq2).neg hq3).pos hq4))).eq] <;> first | rfl | (simp only [List.length_set] <;> rfl)), hw1.ext_out⟩

theorem aParse_ok (w : World) {ea0 : Addr} {ea1 : Addr} {s : Str} (n_s : s.length ≤ 1000000) (hG : Gl w) (hE : Er w ea0 ea1) : Val Tryd.prog 38 [(Value.string (bs s))] w (Value.tuple [(Value.int .i64 (((aParse s).1))), (Value.int .i64 (((aParse s).2)))].toArray) := by
  have hF := Is.refl (aParse s)
  refine enter Tryd.func38 Tryd.ntmps38 (h := ?_)
  refine J_seq ?_
  refine J_reg ?_
  refine JL_q (q_assign) (k := ?_)
  refine JL_q (q_assign) (k := ?_)
  refine JL_nil ?_
  refine JX_seq ?_
  refine J_seq ?_
  refine J_reg ?_
  refine JL_q (q_move) (k := ?_)
  refine JL_q (q_build (cs := [_]) Tryd.zeroValue80 PL_80) (k := ?_)
  refine JL_q (q_build (cs := [_, _, _, _, _, _]) Tryd.zeroValue83 PL_83) (k := ?_)
  refine JL_a noMk (a_box (l := [_, _, _, _, _, _])) (k := fun r1 hr1 => ?_)
  refine JL_q (q_assign) (k := ?_)
  refine JL_nil ?_
  refine JX_seq ?_
  refine J_seq ?_
  refine J_reg ?_
  refine JL_q (q_move) (k := ?_)
  refine JL_q (q_func) (k := ?_)
  refine JL_q (q_assign) (k := ?_)
  refine JL_nil ?_
  refine JX_seq ?_
  refine J_seq ?_
  refine J_seq ?_
  refine J_reg ?_
  refine JL_q (q_move) (k := ?_)
  refine JL_q (q_move) (k := ?_)
  refine JL_q (q_move) (k := ?_)
  refine JL_q (q_move) (k := ?_)
  refine JL_a noMk (a_bslice (l := [_, _, _, _]) Tryd.runUnderlying101 Tryd.sizeOf24 Tryd.zeroValue24) (k := fun r2 hr2 => ?_)
  refine JL_inl (args := [(Value.slice (some ⟨r2, 0, none⟩) (4) (4))]) (c_callA Tryd.call53) Tryd.func53 Tryd.ntmps53 ?_
  refine J_seq ?_
  refine J_reg ?_
  refine JL_q (q_assign) (k := ?_)
  refine JL_nil ?_
  refine JX_seq ?_
  refine J_seq ?_
  refine J_seq ?_
  refine J_reg ?_
  refine JL_q (q_move) (k := ?_)
  refine JL_q (q_lenS Tryd.runUnderlying101) (k := ?_)
  refine JL_q (q_move) (k := ?_)
  refine JL_nil ?_
  refine JX_seq ?_
  refine J_block ?_
  refine J_unroll ?_
  refine J_seq ?_
  refine J_reg ?_
  refine JL_q (q_lss) (k := ?_)
  refine JL_nil ?_
  refine JX_seq ?_
  refine J_seq ?_
  refine J_true rfl ?_
  refine J_skip ?_
  refine JX_seq ?_
  refine J_seq ?_
  refine J_block ?_
  refine J_seq ?_
  refine J_reg ?_
  refine JL_q (q_idxO Tryd.runUnderlying101 Tryd.sizeOf24 0) (k := ?_)
  refine JL_q (q_load Tryd.isAgg24) (k := ?_)
  refine JL_q (q_assign) (k := ?_)
  refine JL_nil ?_
  refine JX_seq ?_
  refine J_seq ?_
  refine J_reg ?_
  refine JL_q (q_move) (k := ?_)
  refine JL_inl (args := [(Value.pointer (some ⟨r1, 0, none⟩))]) (c_callA Tryd.call52) Tryd.func52 Tryd.ntmps52 ?_
  refine J_seq ?_
  refine J_reg ?_
  refine JL_q (q_assign) (k := ?_)
  refine JL_nil ?_
  refine JX_seq ?_
  refine J_seq ?_
  refine J_reg ?_
  refine JL_q (q_move) (k := ?_)
  refine JL_q (q_nil) (k := ?_)
  refine JL_q (q_fld FO_83_0) (k := ?_)
  refine JL_q (q_fld FO_80_0) (k := ?_)
  refine JL_q (q_load Tryd.isAgg9) (k := ?_)
  refine JL_v (args := [(Value.string (bs s)), (Value.string (bs ([46] : Str)))]) (c_callA Tryd.call37) (fun w1 hw1 => Cut_ok w1 (s := s) (sep := ([46] : Str)) (hG := hG.ext hw1.ext_out) (hn := by first | omega | (simp only [List.length_append, List.length_take, List.length_drop, List.length_set, List.length_replicate, List.length_cons, List.length_nil, List.length_map]; omega) | (simp only [List.length_append, List.length_take, List.length_drop, List.length_set, List.length_replicate, List.length_cons, List.length_nil, List.length_map] at *; omega))) (k := ?_)
  have hct_60744 := cut_len s ([46] : Str)
  refine JL_q (q_move) (k := ?_)
  refine JL_q (q_ext) (k := ?_)
  refine JL_q (q_ext) (k := ?_)
  refine JL_q (q_ext) (k := ?_)
  refine JL_q (q_assign) (k := ?_)
  refine JL_q (q_assign) (k := ?_)
  refine JL_q (q_assign) (k := ?_)
  refine JL_nil ?_
  refine JX_seq ?_
  refine J_seq ?_
  refine J_reg ?_
  refine JL_q (q_move) (k := ?_)
  refine JL_q (q_build (cs := [_]) Tryd.zeroValue80 PL_80) (k := ?_)
  refine JL_v (args := [(Value.agg [(Value.string (bs ((Lib.cut s ([46] : Str)).1)))].toArray), (Value.int .i64 (255))]) (c_callA Tryd.call62) (fun w1 hw1 => aNumber_ok w1 (t := ((Lib.cut s ([46] : Str)).1)) (most := 255) (n_t := by first | omega | (simp only [List.length_append, List.length_take, List.length_drop, List.length_set, List.length_replicate, List.length_cons, List.length_nil, List.length_map]; omega) | (simp only [List.length_append, List.length_take, List.length_drop, List.length_set, List.length_replicate, List.length_cons, List.length_nil, List.length_map] at *; omega) | decide) (hG := hG.ext hw1.ext_out) (hE := hE.ext hw1.ext_out) (hm := by first | omega | (simp only [List.length_append, List.length_take, List.length_drop, List.length_set, List.length_replicate, List.length_cons, List.length_nil, List.length_map]; omega) | (simp only [List.length_append, List.length_take, List.length_drop, List.length_set, List.length_replicate, List.length_cons, List.length_nil, List.length_map] at *; omega) | decide)) (k := ?_)
  refine JL_q (q_move) (k := ?_)
  refine JL_q (q_ext) (k := ?_)
  refine JL_q (q_ext) (k := ?_)
  refine JL_q (q_assign) (k := ?_)
  refine JL_q (q_assign) (k := ?_)
  refine JL_nil ?_
  refine JX_seq ?_
  refine J_seq ?_
  refine J_planK ((r2, Obj.cells [(Value.func (.func 52) [(Value.pointer (some ⟨r1, 0, none⟩))].toArray [].toArray), (Value.func (.func 52) [(Value.pointer (some ⟨r1, 0, none⟩))].toArray [].toArray), (Value.func (.func 52) [(Value.pointer (some ⟨r1, 0, none⟩))].toArray [].toArray), (Value.func (.func 52) [(Value.pointer (some ⟨r1, 0, none⟩))].toArray [].toArray)].toArray 24) :: []) ((r1, Obj.cells [(Value.string (bs s)), (Value.int .i64 (0)), (Value.int .i64 (0)), (Value.int .i64 (0)), (Value.int .i64 (0)), (Value.int .i64 (0))].toArray 83) :: []) [((⟨r1, 5, none⟩ : Addr), (Value.int .i64 (0)))] (List.Perm.trans ((List.Perm.cons _ (List.Perm.refl _)).trans (List.Perm.swap _ _ _)) (List.Perm.of_eq (by first | rfl | (simp only [List.cons_append, List.nil_append, List.append_assoc, List.append_nil]; done) | (simp only [List.cons_append, List.nil_append, List.append_assoc, List.append_nil]; rfl)))) (by repeat (first | exact KC.nil | refine KC.cons (by repeat (first | exact List.mem_cons_self | apply List.mem_cons_of_mem | apply List.mem_append_right)) rfl ?_)) mixed 16 [(true, 0), (true, 1), (true, 2), (true, 3), (true, 4), (true, 5), (true, 6), (true, 7), (true, 8), (true, 9), (true, 10), (false, 11), (true, 12), (true, 13), (true, 14), (false, 15)] (by kernel_rfl) ?_
  refine JK_q ((q_move).k) (k := ?_)
  refine JK_q ((q_move).k) (k := ?_)
  refine JK_q ((q_nil).k) (k := ?_)
  refine JK_q ((q_fld FO_83_2).k) (k := ?_)
  refine JK_q (k_load Tryd.isAgg3) (k := ?_)
  refine JK_q ((q_move).k) (k := ?_)
  refine JK_q ((q_move).k) (k := ?_)
  refine JK_q ((q_move).k) (k := ?_)
  refine JK_q ((q_nil).k) (k := ?_)
  refine JK_q ((q_fld FO_83_1).k) (k := ?_)
  refine JK_q ((q_idxP (m := 0) Tryd.runUnderlying81 Tryd.sizeOf3).k) (k := ?_)
  refine JK_s (V' := ((r1, Obj.cells [(Value.string (bs s)), (Value.int .i64 (((aNumber ((Lib.cut s ([46] : Str)).1) 255).1))), (Value.int .i64 (0)), (Value.int .i64 (0)), (Value.int .i64 (0)), (Value.int .i64 (0))].toArray 83) :: [])) (by repeat (first | exact KC.nil | refine KC.cons (by repeat (first | exact List.mem_cons_self | apply List.mem_cons_of_mem | apply List.mem_append_right)) rfl ?_)) (w_store (l' := [_, _, _, _, _, _]) Tryd.sizeOf3) (k := ?_)
  refine JK_q ((q_nil).k) (k := ?_)
  refine JK_q ((q_fld FO_83_0).k) (k := ?_)
  refine JK_q ((q_fld FO_80_0).k) (k := ?_)
  refine JK_s (V' := ((r1, Obj.cells [(Value.string (bs ((Lib.cut s ([46] : Str)).2.1))), (Value.int .i64 (((aNumber ((Lib.cut s ([46] : Str)).1) 255).1))), (Value.int .i64 (0)), (Value.int .i64 (0)), (Value.int .i64 (0)), (Value.int .i64 (0))].toArray 83) :: [])) (by repeat (first | exact KC.nil | refine KC.cons (by repeat (first | exact List.mem_cons_self | apply List.mem_cons_of_mem | apply List.mem_append_right)) rfl ?_)) (w_store (l' := [_, _, _, _, _, _]) Tryd.sizeOf9) (k := ?_)
  refine JK_nil ?_
  refine JL_eqL (L' := ((r1, Obj.cells [(Value.string (bs ((Lib.cut s ([46] : Str)).2.1))), (Value.int .i64 (((aNumber ((Lib.cut s ([46] : Str)).1) 255).1))), (Value.int .i64 (0)), (Value.int .i64 (0)), (Value.int .i64 (0)), (Value.int .i64 (0))].toArray 83) :: ((r2, Obj.cells [(Value.func (.func 52) [(Value.pointer (some ⟨r1, 0, none⟩))].toArray [].toArray), (Value.func (.func 52) [(Value.pointer (some ⟨r1, 0, none⟩))].toArray [].toArray), (Value.func (.func 52) [(Value.pointer (some ⟨r1, 0, none⟩))].toArray [].toArray), (Value.func (.func 52) [(Value.pointer (some ⟨r1, 0, none⟩))].toArray [].toArray)].toArray 24) :: []))) (by simp only [List.append_nil, List.append_assoc, List.cons_append, List.nil_append]) ?_
  refine JL_nil ?_
  refine JX_seq ?_
  refine J_seq ?_
  refine J_reg ?_
  refine JL_q (q_move) (k := ?_)
  refine JL_q (q_nil) (k := ?_)
  refine JL_q (q_fld FO_83_2) (k := ?_)
  refine JL_q (q_load Tryd.isAgg3) (k := ?_)
  refine JL_q (q_add) (k := ?_)
  refine JL_q (q_nil) (k := ?_)
  refine JL_q (q_fld FO_83_2) (k := ?_)
  refine JL_s (w_store (l' := [_, _, _, _, _, _]) Tryd.sizeOf3) (k := ?_)
  refine JL_nil ?_
  refine JX_seq ?_
  refine J_seq ?_
  refine J_reg ?_
  refine JL_q (q_move) (k := ?_)
  refine JL_q (q_move) (k := ?_)
  refine JL_bool 46 rfl (fun hq1 => ?_) (fun hq1 => ?_)
  rotate_left
  · refine JL_skips 7 rfl ?_
    refine JL_q (q_pickF) (k := ?_)
    refine JL_q (q_assign) (k := ?_)
    refine JL_nil ?_
    refine JX_seq ?_
    refine J_ret ?_
    refine JX_retI Tryd.results52 (Res.tmp rfl Res.nil) ?_
    refine JL_q (q_not) (k := ?_)
    refine JL_nil ?_
    refine JX_seq ?_
    refine J_true rfl ?_
    refine J_seq ?_
    refine J_reg ?_
    refine JL_q (q_assign) (k := ?_)
    refine JL_nil ?_
    refine JX_seq ?_
    refine J_ret ?_
    refine JX_block_ret ?_
    refine JX_seq_ret ?_
    refine JX_inv_ret ?_
    refine JX_block_ret ?_
    refine JX_seq_ret ?_
    refine JX_retI Tryd.results53 (Res.tmp rfl Res.nil) ?_
    refine JL_q (q_not) (k := ?_)
    refine JL_nil ?_
    refine JX_seq ?_
    refine J_true rfl ?_
    refine J_seq ?_
    refine J_reg ?_
    refine JL_q (q_assign) (k := ?_)
    refine JL_q (q_assign) (k := ?_)
    refine JL_nil ?_
    refine JX_seq ?_
    refine J_ret ?_
    refine JX_seq_ret ?_
    refine JX_ret Tryd.results38 (Res.tmp rfl (Res.tmp rfl Res.nil)) (fun w1 hw1 => ?_)
    exact ⟨(by rw [((hF.f hq1)).eq] <;> first | rfl | (simp only [List.length_set] <;> rfl)), hw1.ext_out⟩
  refine JL_qg (q_move) (k := ?_)
  refine JL_qg (q_move) (k := ?_)
  refine JL_qg (q_nil) (k := ?_)
  refine JL_qg (q_fld FO_83_2) (k := ?_)
  refine JL_qg (q_load Tryd.isAgg3) (k := ?_)
  refine JL_qg (q_lss) (k := ?_)
  refine JL_qg (q_eqlB Tryd.runUnderlying4) (k := ?_)
  refine JL_q (q_pickT) (k := ?_)
  refine JL_q (q_assign) (k := ?_)
  refine JL_nil ?_
  refine JX_seq ?_
  refine J_ret ?_
  refine JX_retI Tryd.results52 (Res.tmp rfl Res.nil) ?_
  refine JL_q (q_not) (k := ?_)
  refine JL_nil ?_
  refine JX_seq ?_
  refine J_cond rfl (fun hq2 => ?_) (fun hq2 => ?_)
  · refine J_seq ?_
    refine J_reg ?_
    refine JL_q (q_assign) (k := ?_)
    refine JL_nil ?_
    refine JX_seq ?_
    refine J_ret ?_
    refine JX_block_ret ?_
    refine JX_seq_ret ?_
    refine JX_inv_ret ?_
    refine JX_block_ret ?_
    refine JX_seq_ret ?_
    refine JX_retI Tryd.results53 (Res.tmp rfl Res.nil) ?_
    refine JL_q (q_not) (k := ?_)
    refine JL_nil ?_
    refine JX_seq ?_
    refine J_true rfl ?_
    refine J_seq ?_
    refine J_reg ?_
    refine JL_q (q_assign) (k := ?_)
    refine JL_q (q_assign) (k := ?_)
    refine JL_nil ?_
    refine JX_seq ?_
    refine J_ret ?_
    refine JX_seq_ret ?_
    refine JX_ret Tryd.results38 (Res.tmp rfl (Res.tmp rfl Res.nil)) (fun w1 hw1 => ?_)
    exact ⟨(by rw [(((hF.t hq1).t hq2)).eq] <;> first | rfl | (simp only [List.length_set] <;> rfl)), hw1.ext_out⟩
  refine J_skip ?_
  refine JX_block ?_
  refine JX_seq ?_
  refine J_reg ?_
  refine JL_q (q_add) (k := ?_)
  refine JL_q (q_move) (k := ?_)
  refine JL_nil ?_
  refine JX_again ?_
  refine J_seq ?_
  refine J_reg ?_
  refine JL_q (q_lss) (k := ?_)
  refine JL_nil ?_
  refine JX_seq ?_
  refine J_seq ?_
  refine J_true rfl ?_
  refine J_skip ?_
  refine JX_seq ?_
  refine J_seq ?_
  refine J_block ?_
  refine J_seq ?_
  refine J_reg ?_
  refine JL_q (q_idxO Tryd.runUnderlying101 Tryd.sizeOf24 1) (k := ?_)
  refine JL_q (q_load Tryd.isAgg24) (k := ?_)
  refine JL_q (q_assign) (k := ?_)
  refine JL_nil ?_
  refine JX_seq ?_
  refine J_seq ?_
  refine J_reg ?_
  refine JL_q (q_move) (k := ?_)
  refine JL_inl (args := [(Value.pointer (some ⟨r1, 0, none⟩))]) (c_callA Tryd.call52) Tryd.func52 Tryd.ntmps52 ?_
  refine J_seq ?_
  refine J_reg ?_
  refine JL_q (q_assign) (k := ?_)
  refine JL_nil ?_
  refine JX_seq ?_
  refine J_seq ?_
  refine J_reg ?_
  refine JL_q (q_move) (k := ?_)
  refine JL_q (q_nil) (k := ?_)
  refine JL_q (q_fld FO_83_0) (k := ?_)
  refine JL_q (q_fld FO_80_0) (k := ?_)
  refine JL_q (q_load Tryd.isAgg9) (k := ?_)
  refine JL_v (args := [(Value.string (bs ((Lib.cut s ([46] : Str)).2.1))), (Value.string (bs ([46] : Str)))]) (c_callA Tryd.call37) (fun w1 hw1 => Cut_ok w1 (s := ((Lib.cut s ([46] : Str)).2.1)) (sep := ([46] : Str)) (hG := hG.ext hw1.ext_out) (hn := by first | omega | (simp only [List.length_append, List.length_take, List.length_drop, List.length_set, List.length_replicate, List.length_cons, List.length_nil, List.length_map]; omega) | (simp only [List.length_append, List.length_take, List.length_drop, List.length_set, List.length_replicate, List.length_cons, List.length_nil, List.length_map] at *; omega))) (k := ?_)
  have hct_48814 := cut_len ((Lib.cut s ([46] : Str)).2.1) ([46] : Str)
  refine JL_q (q_move) (k := ?_)
  refine JL_q (q_ext) (k := ?_)
  refine JL_q (q_ext) (k := ?_)
  refine JL_q (q_ext) (k := ?_)
  refine JL_q (q_assign) (k := ?_)
  refine JL_q (q_assign) (k := ?_)
  refine JL_q (q_assign) (k := ?_)
  refine JL_nil ?_
  refine JX_seq ?_
  refine J_seq ?_
  refine J_reg ?_
  refine JL_q (q_move) (k := ?_)
  refine JL_q (q_build (cs := [_]) Tryd.zeroValue80 PL_80) (k := ?_)
  refine JL_v (args := [(Value.agg [(Value.string (bs ((Lib.cut ((Lib.cut s ([46] : Str)).2.1) ([46] : Str)).1)))].toArray), (Value.int .i64 (255))]) (c_callA Tryd.call62) (fun w1 hw1 => aNumber_ok w1 (t := ((Lib.cut ((Lib.cut s ([46] : Str)).2.1) ([46] : Str)).1)) (most := 255) (n_t := by first | omega | (simp only [List.length_append, List.length_take, List.length_drop, List.length_set, List.length_replicate, List.length_cons, List.length_nil, List.length_map]; omega) | (simp only [List.length_append, List.length_take, List.length_drop, List.length_set, List.length_replicate, List.length_cons, List.length_nil, List.length_map] at *; omega) | decide) (hG := hG.ext hw1.ext_out) (hE := hE.ext hw1.ext_out) (hm := by first | omega | (simp only [List.length_append, List.length_take, List.length_drop, List.length_set, List.length_replicate, List.length_cons, List.length_nil, List.length_map]; omega) | (simp only [List.length_append, List.length_take, List.length_drop, List.length_set, List.length_replicate, List.length_cons, List.length_nil, List.length_map] at *; omega) | decide)) (k := ?_)
  refine JL_q (q_move) (k := ?_)
  refine JL_q (q_ext) (k := ?_)
  refine JL_q (q_ext) (k := ?_)
  refine JL_q (q_assign) (k := ?_)
  refine JL_q (q_assign) (k := ?_)
  refine JL_nil ?_
  refine JX_seq ?_
  refine J_seq ?_
  refine J_planK ((r2, Obj.cells [(Value.func (.func 52) [(Value.pointer (some ⟨r1, 0, none⟩))].toArray [].toArray), (Value.func (.func 52) [(Value.pointer (some ⟨r1, 0, none⟩))].toArray [].toArray), (Value.func (.func 52) [(Value.pointer (some ⟨r1, 0, none⟩))].toArray [].toArray), (Value.func (.func 52) [(Value.pointer (some ⟨r1, 0, none⟩))].toArray [].toArray)].toArray 24) :: []) ((r1, Obj.cells [(Value.string (bs ((Lib.cut s ([46] : Str)).2.1))), (Value.int .i64 (((aNumber ((Lib.cut s ([46] : Str)).1) 255).1))), (Value.int .i64 (0)), (Value.int .i64 (0)), (Value.int .i64 (0)), (Value.int .i64 (1))].toArray 83) :: []) [((⟨r1, 5, none⟩ : Addr), (Value.int .i64 (1)))] (List.Perm.trans (List.Perm.refl _) (List.Perm.of_eq (by first | rfl | (simp only [List.cons_append, List.nil_append, List.append_assoc, List.append_nil]; done) | (simp only [List.cons_append, List.nil_append, List.append_assoc, List.append_nil]; rfl)))) (by repeat (first | exact KC.nil | refine KC.cons (by repeat (first | exact List.mem_cons_self | apply List.mem_cons_of_mem | apply List.mem_append_right)) rfl ?_)) mixed 16 [(true, 0), (true, 1), (true, 2), (true, 3), (true, 4), (true, 5), (true, 6), (true, 7), (true, 8), (true, 9), (true, 10), (false, 11), (true, 12), (true, 13), (true, 14), (false, 15)] (by kernel_rfl) ?_
  refine JK_q ((q_move).k) (k := ?_)
  refine JK_q ((q_move).k) (k := ?_)
  refine JK_q ((q_nil).k) (k := ?_)
  refine JK_q ((q_fld FO_83_2).k) (k := ?_)
  refine JK_q (k_load Tryd.isAgg3) (k := ?_)
  refine JK_q ((q_move).k) (k := ?_)
  refine JK_q ((q_move).k) (k := ?_)
  refine JK_q ((q_move).k) (k := ?_)
  refine JK_q ((q_nil).k) (k := ?_)
  refine JK_q ((q_fld FO_83_1).k) (k := ?_)
  refine JK_q ((q_idxP (m := 1) Tryd.runUnderlying81 Tryd.sizeOf3).k) (k := ?_)
  refine JK_s (V' := ((r1, Obj.cells [(Value.string (bs ((Lib.cut s ([46] : Str)).2.1))), (Value.int .i64 (((aNumber ((Lib.cut s ([46] : Str)).1) 255).1))), (Value.int .i64 (((aNumber ((Lib.cut ((Lib.cut s ([46] : Str)).2.1) ([46] : Str)).1) 255).1))), (Value.int .i64 (0)), (Value.int .i64 (0)), (Value.int .i64 (1))].toArray 83) :: [])) (by repeat (first | exact KC.nil | refine KC.cons (by repeat (first | exact List.mem_cons_self | apply List.mem_cons_of_mem | apply List.mem_append_right)) rfl ?_)) (w_store (l' := [_, _, _, _, _, _]) Tryd.sizeOf3) (k := ?_)
  refine JK_q ((q_nil).k) (k := ?_)
  refine JK_q ((q_fld FO_83_0).k) (k := ?_)
  refine JK_q ((q_fld FO_80_0).k) (k := ?_)
  refine JK_s (V' := ((r1, Obj.cells [(Value.string (bs ((Lib.cut ((Lib.cut s ([46] : Str)).2.1) ([46] : Str)).2.1))), (Value.int .i64 (((aNumber ((Lib.cut s ([46] : Str)).1) 255).1))), (Value.int .i64 (((aNumber ((Lib.cut ((Lib.cut s ([46] : Str)).2.1) ([46] : Str)).1) 255).1))), (Value.int .i64 (0)), (Value.int .i64 (0)), (Value.int .i64 (1))].toArray 83) :: [])) (by repeat (first | exact KC.nil | refine KC.cons (by repeat (first | exact List.mem_cons_self | apply List.mem_cons_of_mem | apply List.mem_append_right)) rfl ?_)) (w_store (l' := [_, _, _, _, _, _]) Tryd.sizeOf9) (k := ?_)
  refine JK_nil ?_
  refine JL_eqL (L' := ((r1, Obj.cells [(Value.string (bs ((Lib.cut ((Lib.cut s ([46] : Str)).2.1) ([46] : Str)).2.1))), (Value.int .i64 (((aNumber ((Lib.cut s ([46] : Str)).1) 255).1))), (Value.int .i64 (((aNumber ((Lib.cut ((Lib.cut s ([46] : Str)).2.1) ([46] : Str)).1) 255).1))), (Value.int .i64 (0)), (Value.int .i64 (0)), (Value.int .i64 (1))].toArray 83) :: ((r2, Obj.cells [(Value.func (.func 52) [(Value.pointer (some ⟨r1, 0, none⟩))].toArray [].toArray), (Value.func (.func 52) [(Value.pointer (some ⟨r1, 0, none⟩))].toArray [].toArray), (Value.func (.func 52) [(Value.pointer (some ⟨r1, 0, none⟩))].toArray [].toArray), (Value.func (.func 52) [(Value.pointer (some ⟨r1, 0, none⟩))].toArray [].toArray)].toArray 24) :: []))) (by simp only [List.append_nil, List.append_assoc, List.cons_append, List.nil_append]) ?_
  refine JL_nil ?_
  refine JX_seq ?_
  refine J_seq ?_
  refine J_reg ?_
  refine JL_q (q_move) (k := ?_)
  refine JL_q (q_nil) (k := ?_)
  refine JL_q (q_fld FO_83_2) (k := ?_)
  refine JL_q (q_load Tryd.isAgg3) (k := ?_)
  refine JL_q (q_add) (k := ?_)
  refine JL_q (q_nil) (k := ?_)
  refine JL_q (q_fld FO_83_2) (k := ?_)
  refine JL_s (w_store (l' := [_, _, _, _, _, _]) Tryd.sizeOf3) (k := ?_)
  refine JL_nil ?_
  refine JX_seq ?_
  refine J_seq ?_
  refine J_reg ?_
  refine JL_q (q_move) (k := ?_)
  refine JL_q (q_move) (k := ?_)
  refine JL_bool 46 rfl (fun hq3 => ?_) (fun hq3 => ?_)
  rotate_left
  · refine JL_skips 7 rfl ?_
    refine JL_q (q_pickF) (k := ?_)
    refine JL_q (q_assign) (k := ?_)
    refine JL_nil ?_
    refine JX_seq ?_
    refine J_ret ?_
    refine JX_retI Tryd.results52 (Res.tmp rfl Res.nil) ?_
    refine JL_q (q_not) (k := ?_)
    refine JL_nil ?_
    refine JX_seq ?_
    refine J_true rfl ?_
    refine J_seq ?_
    refine J_reg ?_
    refine JL_q (q_assign) (k := ?_)
    refine JL_nil ?_
    refine JX_seq ?_
    refine J_ret ?_
    refine JX_block_ret ?_
    refine JX_seq_ret ?_
    refine JX_inv_ret ?_
    refine JX_block_ret ?_
    refine JX_seq_ret ?_
    refine JX_retI Tryd.results53 (Res.tmp rfl Res.nil) ?_
    refine JL_q (q_not) (k := ?_)
    refine JL_nil ?_
    refine JX_seq ?_
    refine J_true rfl ?_
    refine J_seq ?_
    refine J_reg ?_
    refine JL_q (q_assign) (k := ?_)
    refine JL_q (q_assign) (k := ?_)
    refine JL_nil ?_
    refine JX_seq ?_
    refine J_ret ?_
    refine JX_seq_ret ?_
    refine JX_ret Tryd.results38 (Res.tmp rfl (Res.tmp rfl Res.nil)) (fun w1 hw1 => ?_)
    exact ⟨(by rw [((((hF.t hq1).f hq2).f hq3)).eq] <;> first | rfl | (simp only [List.length_set] <;> rfl)), hw1.ext_out⟩
  refine JL_qg (q_move) (k := ?_)
  refine JL_qg (q_move) (k := ?_)
  refine JL_qg (q_nil) (k := ?_)
  refine JL_qg (q_fld FO_83_2) (k := ?_)
  refine JL_qg (q_load Tryd.isAgg3) (k := ?_)
  refine JL_qg (q_lss) (k := ?_)
  refine JL_qg (q_eqlB Tryd.runUnderlying4) (k := ?_)
  refine JL_q (q_pickT) (k := ?_)
  refine JL_q (q_assign) (k := ?_)
  refine JL_nil ?_
  refine JX_seq ?_
  refine J_ret ?_
  refine JX_retI Tryd.results52 (Res.tmp rfl Res.nil) ?_
  refine JL_q (q_not) (k := ?_)
  refine JL_nil ?_
  refine JX_seq ?_
  refine J_cond rfl (fun hq4 => ?_) (fun hq4 => ?_)
  · refine J_seq ?_
    refine J_reg ?_
    refine JL_q (q_assign) (k := ?_)
    refine JL_nil ?_
    refine JX_seq ?_
    refine J_ret ?_
    refine JX_block_ret ?_
    refine JX_seq_ret ?_
    refine JX_inv_ret ?_
    refine JX_block_ret ?_
    refine JX_seq_ret ?_
    refine JX_retI Tryd.results53 (Res.tmp rfl Res.nil) ?_
    refine JL_q (q_not) (k := ?_)
    refine JL_nil ?_
    refine JX_seq ?_
    refine J_true rfl ?_
    refine J_seq ?_
    refine J_reg ?_
    refine JL_q (q_assign) (k := ?_)
    refine JL_q (q_assign) (k := ?_)
    refine JL_nil ?_
    refine JX_seq ?_
    refine J_ret ?_
    refine JX_seq_ret ?_
    refine JX_ret Tryd.results38 (Res.tmp rfl (Res.tmp rfl Res.nil)) (fun w1 hw1 => ?_)
    exact ⟨(by rw [(((((hF.t hq1).f hq2).t hq3).t hq4)).eq] <;> first | rfl | (simp only [List.length_set] <;> rfl)), hw1.ext_out⟩
  refine J_skip ?_
  refine JX_block ?_
  refine JX_seq ?_
  refine J_reg ?_
  refine JL_q (q_add) (k := ?_)
  refine JL_q (q_move) (k := ?_)
  refine JL_nil ?_
  refine JX_again ?_
  refine J_seq ?_
  refine J_reg ?_
  refine JL_q (q_lss) (k := ?_)
  refine JL_nil ?_
  refine JX_seq ?_
  refine J_seq ?_
  refine J_true rfl ?_
  refine J_skip ?_
  refine JX_seq ?_
  refine J_seq ?_
  refine J_block ?_
  refine J_seq ?_
  refine J_reg ?_
  refine JL_q (q_idxO Tryd.runUnderlying101 Tryd.sizeOf24 2) (k := ?_)
  refine JL_q (q_load Tryd.isAgg24) (k := ?_)
  refine JL_q (q_assign) (k := ?_)
  refine JL_nil ?_
  refine JX_seq ?_
  refine J_seq ?_
  refine J_reg ?_
  refine JL_q (q_move) (k := ?_)
  refine JL_inl (args := [(Value.pointer (some ⟨r1, 0, none⟩))]) (c_callA Tryd.call52) Tryd.func52 Tryd.ntmps52 ?_
  refine J_seq ?_
  refine J_reg ?_
  refine JL_q (q_assign) (k := ?_)
  refine JL_nil ?_
  refine JX_seq ?_
  refine J_seq ?_
  refine J_reg ?_
  refine JL_q (q_move) (k := ?_)
  refine JL_q (q_nil) (k := ?_)
  refine JL_q (q_fld FO_83_0) (k := ?_)
  refine JL_q (q_fld FO_80_0) (k := ?_)
  refine JL_q (q_load Tryd.isAgg9) (k := ?_)
  refine JL_v (args := [(Value.string (bs ((Lib.cut ((Lib.cut s ([46] : Str)).2.1) ([46] : Str)).2.1))), (Value.string (bs ([46] : Str)))]) (c_callA Tryd.call37) (fun w1 hw1 => Cut_ok w1 (s := ((Lib.cut ((Lib.cut s ([46] : Str)).2.1) ([46] : Str)).2.1)) (sep := ([46] : Str)) (hG := hG.ext hw1.ext_out) (hn := by first | omega | (simp only [List.length_append, List.length_take, List.length_drop, List.length_set, List.length_replicate, List.length_cons, List.length_nil, List.length_map]; omega) | (simp only [List.length_append, List.length_take, List.length_drop, List.length_set, List.length_replicate, List.length_cons, List.length_nil, List.length_map] at *; omega))) (k := ?_)
  have hct_70887 := cut_len ((Lib.cut ((Lib.cut s ([46] : Str)).2.1) ([46] : Str)).2.1) ([46] : Str)
  refine JL_q (q_move) (k := ?_)
  refine JL_q (q_ext) (k := ?_)
  refine JL_q (q_ext) (k := ?_)
  refine JL_q (q_ext) (k := ?_)
  refine JL_q (q_assign) (k := ?_)
  refine JL_q (q_assign) (k := ?_)
  refine JL_q (q_assign) (k := ?_)
  refine JL_nil ?_
  refine JX_seq ?_
  refine J_seq ?_
  refine J_reg ?_
  refine JL_q (q_move) (k := ?_)
  refine JL_q (q_build (cs := [_]) Tryd.zeroValue80 PL_80) (k := ?_)
  refine JL_v (args := [(Value.agg [(Value.string (bs ((Lib.cut ((Lib.cut ((Lib.cut s ([46] : Str)).2.1) ([46] : Str)).2.1) ([46] : Str)).1)))].toArray), (Value.int .i64 (255))]) (c_callA Tryd.call62) (fun w1 hw1 => aNumber_ok w1 (t := ((Lib.cut ((Lib.cut ((Lib.cut s ([46] : Str)).2.1) ([46] : Str)).2.1) ([46] : Str)).1)) (most := 255) (n_t := by first | omega | (simp only [List.length_append, List.length_take, List.length_drop, List.length_set, List.length_replicate, List.length_cons, List.length_nil, List.length_map]; omega) | (simp only [List.length_append, List.length_take, List.length_drop, List.length_set, List.length_replicate, List.length_cons, List.length_nil, List.length_map] at *; omega) | decide) (hG := hG.ext hw1.ext_out) (hE := hE.ext hw1.ext_out) (hm := by first | omega | (simp only [List.length_append, List.length_take, List.length_drop, List.length_set, List.length_replicate, List.length_cons, List.length_nil, List.length_map]; omega) | (simp only [List.length_append, List.length_take, List.length_drop, List.length_set, List.length_replicate, List.length_cons, List.length_nil, List.length_map] at *; omega) | decide)) (k := ?_)
  refine JL_q (q_move) (k := ?_)
  refine JL_q (q_ext) (k := ?_)
  refine JL_q (q_ext) (k := ?_)
  refine JL_q (q_assign) (k := ?_)
  refine JL_q (q_assign) (k := ?_)
  refine JL_nil ?_
  refine JX_seq ?_
  refine J_seq ?_
  refine J_planK ((r2, Obj.cells [(Value.func (.func 52) [(Value.pointer (some ⟨r1, 0, none⟩))].toArray [].toArray), (Value.func (.func 52) [(Value.pointer (some ⟨r1, 0, none⟩))].toArray [].toArray), (Value.func (.func 52) [(Value.pointer (some ⟨r1, 0, none⟩))].toArray [].toArray), (Value.func (.func 52) [(Value.pointer (some ⟨r1, 0, none⟩))].toArray [].toArray)].toArray 24) :: []) ((r1, Obj.cells [(Value.string (bs ((Lib.cut ((Lib.cut s ([46] : Str)).2.1) ([46] : Str)).2.1))), (Value.int .i64 (((aNumber ((Lib.cut s ([46] : Str)).1) 255).1))), (Value.int .i64 (((aNumber ((Lib.cut ((Lib.cut s ([46] : Str)).2.1) ([46] : Str)).1) 255).1))), (Value.int .i64 (0)), (Value.int .i64 (0)), (Value.int .i64 (2))].toArray 83) :: []) [((⟨r1, 5, none⟩ : Addr), (Value.int .i64 (2)))] (List.Perm.trans (List.Perm.refl _) (List.Perm.of_eq (by first | rfl | (simp only [List.cons_append, List.nil_append, List.append_assoc, List.append_nil]; done) | (simp only [List.cons_append, List.nil_append, List.append_assoc, List.append_nil]; rfl)))) (by repeat (first | exact KC.nil | refine KC.cons (by repeat (first | exact List.mem_cons_self | apply List.mem_cons_of_mem | apply List.mem_append_right)) rfl ?_)) mixed 16 [(true, 0), (true, 1), (true, 2), (true, 3), (true, 4), (true, 5), (true, 6), (true, 7), (true, 8), (true, 9), (true, 10), (false, 11), (true, 12), (true, 13), (true, 14), (false, 15)] (by kernel_rfl) ?_
  refine JK_q ((q_move).k) (k := ?_)
  refine JK_q ((q_move).k) (k := ?_)
  refine JK_q ((q_nil).k) (k := ?_)
  refine JK_q ((q_fld FO_83_2).k) (k := ?_)
  refine JK_q (k_load Tryd.isAgg3) (k := ?_)
  refine JK_q ((q_move).k) (k := ?_)
  refine JK_q ((q_move).k) (k := ?_)
  refine JK_q ((q_move).k) (k := ?_)
  refine JK_q ((q_nil).k) (k := ?_)
  refine JK_q ((q_fld FO_83_1).k) (k := ?_)
  refine JK_q ((q_idxP (m := 2) Tryd.runUnderlying81 Tryd.sizeOf3).k) (k := ?_)
  refine JK_s (V' := ((r1, Obj.cells [(Value.string (bs ((Lib.cut ((Lib.cut s ([46] : Str)).2.1) ([46] : Str)).2.1))), (Value.int .i64 (((aNumber ((Lib.cut s ([46] : Str)).1) 255).1))), (Value.int .i64 (((aNumber ((Lib.cut ((Lib.cut s ([46] : Str)).2.1) ([46] : Str)).1) 255).1))), (Value.int .i64 (((aNumber ((Lib.cut ((Lib.cut ((Lib.cut s ([46] : Str)).2.1) ([46] : Str)).2.1) ([46] : Str)).1) 255).1))), (Value.int .i64 (0)), (Value.int .i64 (2))].toArray 83) :: [])) (by repeat (first | exact KC.nil | refine KC.cons (by repeat (first | exact List.mem_cons_self | apply List.mem_cons_of_mem | apply List.mem_append_right)) rfl ?_)) (w_store (l' := [_, _, _, _, _, _]) Tryd.sizeOf3) (k := ?_)
  refine JK_q ((q_nil).k) (k := ?_)
  refine JK_q ((q_fld FO_83_0).k) (k := ?_)
  refine JK_q ((q_fld FO_80_0).k) (k := ?_)
  refine JK_s (V' := ((r1, Obj.cells [(Value.string (bs ((Lib.cut ((Lib.cut ((Lib.cut s ([46] : Str)).2.1) ([46] : Str)).2.1) ([46] : Str)).2.1))), (Value.int .i64 (((aNumber ((Lib.cut s ([46] : Str)).1) 255).1))), (Value.int .i64 (((aNumber ((Lib.cut ((Lib.cut s ([46] : Str)).2.1) ([46] : Str)).1) 255).1))), (Value.int .i64 (((aNumber ((Lib.cut ((Lib.cut ((Lib.cut s ([46] : Str)).2.1) ([46] : Str)).2.1) ([46] : Str)).1) 255).1))), (Value.int .i64 (0)), (Value.int .i64 (2))].toArray 83) :: [])) (by repeat (first | exact KC.nil | refine KC.cons (by repeat (first | exact List.mem_cons_self | apply List.mem_cons_of_mem | apply List.mem_append_right)) rfl ?_)) (w_store (l' := [_, _, _, _, _, _]) Tryd.sizeOf9) (k := ?_)
  refine JK_nil ?_
  refine JL_eqL (L' := ((r1, Obj.cells [(Value.string (bs ((Lib.cut ((Lib.cut ((Lib.cut s ([46] : Str)).2.1) ([46] : Str)).2.1) ([46] : Str)).2.1))), (Value.int .i64 (((aNumber ((Lib.cut s ([46] : Str)).1) 255).1))), (Value.int .i64 (((aNumber ((Lib.cut ((Lib.cut s ([46] : Str)).2.1) ([46] : Str)).1) 255).1))), (Value.int .i64 (((aNumber ((Lib.cut ((Lib.cut ((Lib.cut s ([46] : Str)).2.1) ([46] : Str)).2.1) ([46] : Str)).1) 255).1))), (Value.int .i64 (0)), (Value.int .i64 (2))].toArray 83) :: ((r2, Obj.cells [(Value.func (.func 52) [(Value.pointer (some ⟨r1, 0, none⟩))].toArray [].toArray), (Value.func (.func 52) [(Value.pointer (some ⟨r1, 0, none⟩))].toArray [].toArray), (Value.func (.func 52) [(Value.pointer (some ⟨r1, 0, none⟩))].toArray [].toArray), (Value.func (.func 52) [(Value.pointer (some ⟨r1, 0, none⟩))].toArray [].toArray)].toArray 24) :: []))) (by simp only [List.append_nil, List.append_assoc, List.cons_append, List.nil_append]) ?_
  refine JL_nil ?_
  refine JX_seq ?_
  refine J_seq ?_
  refine J_reg ?_
  refine JL_q (q_move) (k := ?_)
  refine JL_q (q_nil) (k := ?_)
  refine JL_q (q_fld FO_83_2) (k := ?_)
  refine JL_q (q_load Tryd.isAgg3) (k := ?_)
  refine JL_q (q_add) (k := ?_)
  refine JL_q (q_nil) (k := ?_)
  refine JL_q (q_fld FO_83_2) (k := ?_)
  refine JL_s (w_store (l' := [_, _, _, _, _, _]) Tryd.sizeOf3) (k := ?_)
  refine JL_nil ?_
  refine JX_seq ?_
  refine J_seq ?_
  refine J_reg ?_
  refine JL_q (q_move) (k := ?_)
  refine JL_q (q_move) (k := ?_)
  refine JL_bool 46 rfl (fun hq5 => ?_) (fun hq5 => ?_)
  rotate_left
  · refine JL_skips 7 rfl ?_
    refine JL_q (q_pickF) (k := ?_)
    refine JL_q (q_assign) (k := ?_)
    refine JL_nil ?_
    refine JX_seq ?_
    refine J_ret ?_
    refine JX_retI Tryd.results52 (Res.tmp rfl Res.nil) ?_
    refine JL_q (q_not) (k := ?_)
    refine JL_nil ?_
    refine JX_seq ?_
    refine J_true rfl ?_
    refine J_seq ?_
    refine J_reg ?_
    refine JL_q (q_assign) (k := ?_)
    refine JL_nil ?_
    refine JX_seq ?_
    refine J_ret ?_
    refine JX_block_ret ?_
    refine JX_seq_ret ?_
    refine JX_inv_ret ?_
    refine JX_block_ret ?_
    refine JX_seq_ret ?_
    refine JX_retI Tryd.results53 (Res.tmp rfl Res.nil) ?_
    refine JL_q (q_not) (k := ?_)
    refine JL_nil ?_
    refine JX_seq ?_
    refine J_true rfl ?_
    refine J_seq ?_
    refine J_reg ?_
    refine JL_q (q_assign) (k := ?_)
    refine JL_q (q_assign) (k := ?_)
    refine JL_nil ?_
    refine JX_seq ?_
    refine J_ret ?_
    refine JX_seq_ret ?_
    refine JX_ret Tryd.results38 (Res.tmp rfl (Res.tmp rfl Res.nil)) (fun w1 hw1 => ?_)
    exact ⟨(by rw [((((((hF.t hq1).f hq2).t hq3).f hq4).f hq5)).eq] <;> first | rfl | (simp only [List.length_set] <;> rfl)), hw1.ext_out⟩
  refine JL_qg (q_move) (k := ?_)
  refine JL_qg (q_move) (k := ?_)
  refine JL_qg (q_nil) (k := ?_)
  refine JL_qg (q_fld FO_83_2) (k := ?_)
  refine JL_qg (q_load Tryd.isAgg3) (k := ?_)
  refine JL_qg (q_lss) (k := ?_)
  refine JL_qg (q_eqlB Tryd.runUnderlying4) (k := ?_)
  refine JL_q (q_pickT) (k := ?_)
  refine JL_q (q_assign) (k := ?_)
  refine JL_nil ?_
  refine JX_seq ?_
  refine J_ret ?_
  refine JX_retI Tryd.results52 (Res.tmp rfl Res.nil) ?_
  refine JL_q (q_not) (k := ?_)
  refine JL_nil ?_
  refine JX_seq ?_
  refine J_cond rfl (fun hq6 => ?_) (fun hq6 => ?_)
  · refine J_seq ?_
    refine J_reg ?_
    refine JL_q (q_assign) (k := ?_)
    refine JL_nil ?_
    refine JX_seq ?_
    refine J_ret ?_
    refine JX_block_ret ?_
    refine JX_seq_ret ?_
    refine JX_inv_ret ?_
    refine JX_block_ret ?_
    refine JX_seq_ret ?_
    refine JX_retI Tryd.results53 (Res.tmp rfl Res.nil) ?_
    refine JL_q (q_not) (k := ?_)
    refine JL_nil ?_
    refine JX_seq ?_
    refine J_true rfl ?_
    refine J_seq ?_
    refine J_reg ?_
    refine JL_q (q_assign) (k := ?_)
    refine JL_q (q_assign) (k := ?_)
    refine JL_nil ?_
    refine JX_seq ?_
    refine J_ret ?_
    refine JX_seq_ret ?_
    refine JX_ret Tryd.results38 (Res.tmp rfl (Res.tmp rfl Res.nil)) (fun w1 hw1 => ?_)
    exact ⟨(by rw [(((((((hF.t hq1).f hq2).t hq3).f hq4).t hq5).t hq6)).eq] <;> first | rfl | (simp only [List.length_set] <;> rfl)), hw1.ext_out⟩
  refine J_skip ?_
  refine JX_block ?_
  refine JX_seq ?_
  refine J_reg ?_
  refine JL_q (q_add) (k := ?_)
  refine JL_q (q_move) (k := ?_)
  refine JL_nil ?_
  refine JX_again ?_
  refine J_seq ?_
  refine J_reg ?_
  refine JL_q (q_lss) (k := ?_)
  refine JL_nil ?_
  refine JX_seq ?_
  refine J_seq ?_
  refine J_true rfl ?_
  refine J_skip ?_
  refine JX_seq ?_
  refine J_seq ?_
  refine J_block ?_
  refine J_seq ?_
  refine J_reg ?_
  refine JL_q (q_idxO Tryd.runUnderlying101 Tryd.sizeOf24 3) (k := ?_)
  refine JL_q (q_load Tryd.isAgg24) (k := ?_)
  refine JL_q (q_assign) (k := ?_)
  refine JL_nil ?_
  refine JX_seq ?_
  refine J_seq ?_
  refine J_reg ?_
  refine JL_q (q_move) (k := ?_)
  refine JL_inl (args := [(Value.pointer (some ⟨r1, 0, none⟩))]) (c_callA Tryd.call52) Tryd.func52 Tryd.ntmps52 ?_
  refine J_seq ?_
  refine J_reg ?_
  refine JL_q (q_assign) (k := ?_)
  refine JL_nil ?_
  refine JX_seq ?_
  refine J_seq ?_
  refine J_reg ?_
  refine JL_q (q_move) (k := ?_)
  refine JL_q (q_nil) (k := ?_)
  refine JL_q (q_fld FO_83_0) (k := ?_)
  refine JL_q (q_fld FO_80_0) (k := ?_)
  refine JL_q (q_load Tryd.isAgg9) (k := ?_)
  refine JL_v (args := [(Value.string (bs ((Lib.cut ((Lib.cut ((Lib.cut s ([46] : Str)).2.1) ([46] : Str)).2.1) ([46] : Str)).2.1))), (Value.string (bs ([46] : Str)))]) (c_callA Tryd.call37) (fun w1 hw1 => Cut_ok w1 (s := ((Lib.cut ((Lib.cut ((Lib.cut s ([46] : Str)).2.1) ([46] : Str)).2.1) ([46] : Str)).2.1)) (sep := ([46] : Str)) (hG := hG.ext hw1.ext_out) (hn := by first | omega | (simp only [List.length_append, List.length_take, List.length_drop, List.length_set, List.length_replicate, List.length_cons, List.length_nil, List.length_map]; omega) | (simp only [List.length_append, List.length_take, List.length_drop, List.length_set, List.length_replicate, List.length_cons, List.length_nil, List.length_map] at *; omega))) (k := ?_)
  have hct_80526 := cut_len ((Lib.cut ((Lib.cut ((Lib.cut s ([46] : Str)).2.1) ([46] : Str)).2.1) ([46] : Str)).2.1) ([46] : Str)
  refine JL_q (q_move) (k := ?_)
  refine JL_q (q_ext) (k := ?_)
  refine JL_q (q_ext) (k := ?_)
  refine JL_q (q_ext) (k := ?_)
  refine JL_q (q_assign) (k := ?_)
  refine JL_q (q_assign) (k := ?_)
  refine JL_q (q_assign) (k := ?_)
  refine JL_nil ?_
  refine JX_seq ?_
  refine J_seq ?_
  refine J_reg ?_
  refine JL_q (q_move) (k := ?_)
  refine JL_q (q_build (cs := [_]) Tryd.zeroValue80 PL_80) (k := ?_)
  refine JL_v (args := [(Value.agg [(Value.string (bs ((Lib.cut ((Lib.cut ((Lib.cut ((Lib.cut s ([46] : Str)).2.1) ([46] : Str)).2.1) ([46] : Str)).2.1) ([46] : Str)).1)))].toArray), (Value.int .i64 (255))]) (c_callA Tryd.call62) (fun w1 hw1 => aNumber_ok w1 (t := ((Lib.cut ((Lib.cut ((Lib.cut ((Lib.cut s ([46] : Str)).2.1) ([46] : Str)).2.1) ([46] : Str)).2.1) ([46] : Str)).1)) (most := 255) (n_t := by first | omega | (simp only [List.length_append, List.length_take, List.length_drop, List.length_set, List.length_replicate, List.length_cons, List.length_nil, List.length_map]; omega) | (simp only [List.length_append, List.length_take, List.length_drop, List.length_set, List.length_replicate, List.length_cons, List.length_nil, List.length_map] at *; omega) | decide) (hG := hG.ext hw1.ext_out) (hE := hE.ext hw1.ext_out) (hm := by first | omega | (simp only [List.length_append, List.length_take, List.length_drop, List.length_set, List.length_replicate, List.length_cons, List.length_nil, List.length_map]; omega) | (simp only [List.length_append, List.length_take, List.length_drop, List.length_set, List.length_replicate, List.length_cons, List.length_nil, List.length_map] at *; omega) | decide)) (k := ?_)
  refine JL_q (q_move) (k := ?_)
  refine JL_q (q_ext) (k := ?_)
  refine JL_q (q_ext) (k := ?_)
  refine JL_q (q_assign) (k := ?_)
  refine JL_q (q_assign) (k := ?_)
  refine JL_nil ?_
  refine JX_seq ?_
  refine J_seq ?_
  refine J_planK ((r2, Obj.cells [(Value.func (.func 52) [(Value.pointer (some ⟨r1, 0, none⟩))].toArray [].toArray), (Value.func (.func 52) [(Value.pointer (some ⟨r1, 0, none⟩))].toArray [].toArray), (Value.func (.func 52) [(Value.pointer (some ⟨r1, 0, none⟩))].toArray [].toArray), (Value.func (.func 52) [(Value.pointer (some ⟨r1, 0, none⟩))].toArray [].toArray)].toArray 24) :: []) ((r1, Obj.cells [(Value.string (bs ((Lib.cut ((Lib.cut ((Lib.cut s ([46] : Str)).2.1) ([46] : Str)).2.1) ([46] : Str)).2.1))), (Value.int .i64 (((aNumber ((Lib.cut s ([46] : Str)).1) 255).1))), (Value.int .i64 (((aNumber ((Lib.cut ((Lib.cut s ([46] : Str)).2.1) ([46] : Str)).1) 255).1))), (Value.int .i64 (((aNumber ((Lib.cut ((Lib.cut ((Lib.cut s ([46] : Str)).2.1) ([46] : Str)).2.1) ([46] : Str)).1) 255).1))), (Value.int .i64 (0)), (Value.int .i64 (3))].toArray 83) :: []) [((⟨r1, 5, none⟩ : Addr), (Value.int .i64 (3)))] (List.Perm.trans (List.Perm.refl _) (List.Perm.of_eq (by first | rfl | (simp only [List.cons_append, List.nil_append, List.append_assoc, List.append_nil]; done) | (simp only [List.cons_append, List.nil_append, List.append_assoc, List.append_nil]; rfl)))) (by repeat (first | exact KC.nil | refine KC.cons (by repeat (first | exact List.mem_cons_self | apply List.mem_cons_of_mem | apply List.mem_append_right)) rfl ?_)) mixed 16 [(true, 0), (true, 1), (true, 2), (true, 3), (true, 4), (true, 5), (true, 6), (true, 7), (true, 8), (true, 9), (true, 10), (false, 11), (true, 12), (true, 13), (true, 14), (false, 15)] (by kernel_rfl) ?_
  refine JK_q ((q_move).k) (k := ?_)
  refine JK_q ((q_move).k) (k := ?_)
  refine JK_q ((q_nil).k) (k := ?_)
  refine JK_q ((q_fld FO_83_2).k) (k := ?_)
  refine JK_q (k_load Tryd.isAgg3) (k := ?_)
  refine JK_q ((q_move).k) (k := ?_)
  refine JK_q ((q_move).k) (k := ?_)
  refine JK_q ((q_move).k) (k := ?_)
  refine JK_q ((q_nil).k) (k := ?_)
  refine JK_q ((q_fld FO_83_1).k) (k := ?_)
  refine JK_q ((q_idxP (m := 3) Tryd.runUnderlying81 Tryd.sizeOf3).k) (k := ?_)
  refine JK_s (V' := ((r1, Obj.cells [(Value.string (bs ((Lib.cut ((Lib.cut ((Lib.cut s ([46] : Str)).2.1) ([46] : Str)).2.1) ([46] : Str)).2.1))), (Value.int .i64 (((aNumber ((Lib.cut s ([46] : Str)).1) 255).1))), (Value.int .i64 (((aNumber ((Lib.cut ((Lib.cut s ([46] : Str)).2.1) ([46] : Str)).1) 255).1))), (Value.int .i64 (((aNumber ((Lib.cut ((Lib.cut ((Lib.cut s ([46] : Str)).2.1) ([46] : Str)).2.1) ([46] : Str)).1) 255).1))), (Value.int .i64 (((aNumber ((Lib.cut ((Lib.cut ((Lib.cut ((Lib.cut s ([46] : Str)).2.1) ([46] : Str)).2.1) ([46] : Str)).2.1) ([46] : Str)).1) 255).1))), (Value.int .i64 (3))].toArray 83) :: [])) (by repeat (first | exact KC.nil | refine KC.cons (by repeat (first | exact List.mem_cons_self | apply List.mem_cons_of_mem | apply List.mem_append_right)) rfl ?_)) (w_store (l' := [_, _, _, _, _, _]) Tryd.sizeOf3) (k := ?_)
  refine JK_q ((q_nil).k) (k := ?_)
  refine JK_q ((q_fld FO_83_0).k) (k := ?_)
  refine JK_q ((q_fld FO_80_0).k) (k := ?_)
  refine JK_s (V' := ((r1, Obj.cells [(Value.string (bs ((Lib.cut ((Lib.cut ((Lib.cut ((Lib.cut s ([46] : Str)).2.1) ([46] : Str)).2.1) ([46] : Str)).2.1) ([46] : Str)).2.1))), (Value.int .i64 (((aNumber ((Lib.cut s ([46] : Str)).1) 255).1))), (Value.int .i64 (((aNumber ((Lib.cut ((Lib.cut s ([46] : Str)).2.1) ([46] : Str)).1) 255).1))), (Value.int .i64 (((aNumber ((Lib.cut ((Lib.cut ((Lib.cut s ([46] : Str)).2.1) ([46] : Str)).2.1) ([46] : Str)).1) 255).1))), (Value.int .i64 (((aNumber ((Lib.cut ((Lib.cut ((Lib.cut ((Lib.cut s ([46] : Str)).2.1) ([46] : Str)).2.1) ([46] : Str)).2.1) ([46] : Str)).1) 255).1))), (Value.int .i64 (3))].toArray 83) :: [])) (by repeat (first | exact KC.nil | refine KC.cons (by repeat (first | exact List.mem_cons_self | apply List.mem_cons_of_mem | apply List.mem_append_right)) rfl ?_)) (w_store (l' := [_, _, _, _, _, _]) Tryd.sizeOf9) (k := ?_)
  refine JK_nil ?_
  refine JL_eqL (L' := ((r1, Obj.cells [(Value.string (bs ((Lib.cut ((Lib.cut ((Lib.cut ((Lib.cut s ([46] : Str)).2.1) ([46] : Str)).2.1) ([46] : Str)).2.1) ([46] : Str)).2.1))), (Value.int .i64 (((aNumber ((Lib.cut s ([46] : Str)).1) 255).1))), (Value.int .i64 (((aNumber ((Lib.cut ((Lib.cut s ([46] : Str)).2.1) ([46] : Str)).1) 255).1))), (Value.int .i64 (((aNumber ((Lib.cut ((Lib.cut ((Lib.cut s ([46] : Str)).2.1) ([46] : Str)).2.1) ([46] : Str)).1) 255).1))), (Value.int .i64 (((aNumber ((Lib.cut ((Lib.cut ((Lib.cut ((Lib.cut s ([46] : Str)).2.1) ([46] : Str)).2.1) ([46] : Str)).2.1) ([46] : Str)).1) 255).1))), (Value.int .i64 (3))].toArray 83) :: ((r2, Obj.cells [(Value.func (.func 52) [(Value.pointer (some ⟨r1, 0, none⟩))].toArray [].toArray), (Value.func (.func 52) [(Value.pointer (some ⟨r1, 0, none⟩))].toArray [].toArray), (Value.func (.func 52) [(Value.pointer (some ⟨r1, 0, none⟩))].toArray [].toArray), (Value.func (.func 52) [(Value.pointer (some ⟨r1, 0, none⟩))].toArray [].toArray)].toArray 24) :: []))) (by simp only [List.append_nil, List.append_assoc, List.cons_append, List.nil_append]) ?_
  refine JL_nil ?_
  refine JX_seq ?_
  refine J_seq ?_
  refine J_reg ?_
  refine JL_q (q_move) (k := ?_)
  refine JL_q (q_nil) (k := ?_)
  refine JL_q (q_fld FO_83_2) (k := ?_)
  refine JL_q (q_load Tryd.isAgg3) (k := ?_)
  refine JL_q (q_add) (k := ?_)
  refine JL_q (q_nil) (k := ?_)
  refine JL_q (q_fld FO_83_2) (k := ?_)
  refine JL_s (w_store (l' := [_, _, _, _, _, _]) Tryd.sizeOf3) (k := ?_)
  refine JL_nil ?_
  refine JX_seq ?_
  refine J_seq ?_
  refine J_reg ?_
  refine JL_q (q_move) (k := ?_)
  refine JL_q (q_move) (k := ?_)
  refine JL_bool 46 rfl (fun hq7 => ?_) (fun hq7 => ?_)
  rotate_left
  · refine JL_skips 7 rfl ?_
    refine JL_q (q_pickF) (k := ?_)
    refine JL_q (q_assign) (k := ?_)
    refine JL_nil ?_
    refine JX_seq ?_
    refine J_ret ?_
    refine JX_retI Tryd.results52 (Res.tmp rfl Res.nil) ?_
    refine JL_q (q_not) (k := ?_)
    refine JL_nil ?_
    refine JX_seq ?_
    refine J_true rfl ?_
    refine J_seq ?_
    refine J_reg ?_
    refine JL_q (q_assign) (k := ?_)
    refine JL_nil ?_
    refine JX_seq ?_
    refine J_ret ?_
    refine JX_block_ret ?_
    refine JX_seq_ret ?_
    refine JX_inv_ret ?_
    refine JX_block_ret ?_
    refine JX_seq_ret ?_
    refine JX_retI Tryd.results53 (Res.tmp rfl Res.nil) ?_
    refine JL_q (q_not) (k := ?_)
    refine JL_nil ?_
    refine JX_seq ?_
    refine J_true rfl ?_
    refine J_seq ?_
    refine J_reg ?_
    refine JL_q (q_assign) (k := ?_)
    refine JL_q (q_assign) (k := ?_)
    refine JL_nil ?_
    refine JX_seq ?_
    refine J_ret ?_
    refine JX_seq_ret ?_
    refine JX_ret Tryd.results38 (Res.tmp rfl (Res.tmp rfl Res.nil)) (fun w1 hw1 => ?_)
    exact ⟨(by rw [((((((((hF.t hq1).f hq2).t hq3).f hq4).t hq5).f hq6).f hq7)).eq] <;> first | rfl | (simp only [List.length_set] <;> rfl)), hw1.ext_out⟩
  refine JL_qg (q_move) (k := ?_)
  refine JL_qg (q_move) (k := ?_)
  refine JL_qg (q_nil) (k := ?_)
  refine JL_qg (q_fld FO_83_2) (k := ?_)
  refine JL_qg (q_load Tryd.isAgg3) (k := ?_)
  refine JL_qg (q_lss) (k := ?_)
  refine JL_qg (q_eqlB Tryd.runUnderlying4) (k := ?_)
  refine JL_q (q_pickT) (k := ?_)
  refine JL_q (q_assign) (k := ?_)
  refine JL_nil ?_
  refine JX_seq ?_
  refine J_ret ?_
  refine JX_retI Tryd.results52 (Res.tmp rfl Res.nil) ?_
  refine JL_q (q_not) (k := ?_)
  refine JL_nil ?_
  refine JX_seq ?_
  refine J_cond rfl (fun hq8 => ?_) (fun hq8 => ?_)
  · refine J_seq ?_
    refine J_reg ?_
    refine JL_q (q_assign) (k := ?_)
    refine JL_nil ?_
    refine JX_seq ?_
    refine J_ret ?_
    refine JX_block_ret ?_
    refine JX_seq_ret ?_
    refine JX_inv_ret ?_
    refine JX_block_ret ?_
    refine JX_seq_ret ?_
    refine JX_retI Tryd.results53 (Res.tmp rfl Res.nil) ?_
    refine JL_q (q_not) (k := ?_)
    refine JL_nil ?_
    refine JX_seq ?_
    refine J_true rfl ?_
    refine J_seq ?_
    refine J_reg ?_
    refine JL_q (q_assign) (k := ?_)
    refine JL_q (q_assign) (k := ?_)
    refine JL_nil ?_
    refine JX_seq ?_
    refine J_ret ?_
    refine JX_seq_ret ?_
    refine JX_ret Tryd.results38 (Res.tmp rfl (Res.tmp rfl Res.nil)) (fun w1 hw1 => ?_)
    exact ⟨(by rw [(((((((((hF.t hq1).f hq2).t hq3).f hq4).t hq5).f hq6).t hq7).t hq8)).eq] <;> first | rfl | (simp only [List.length_set] <;> rfl)), hw1.ext_out⟩
  refine J_skip ?_
  refine JX_block ?_
  refine JX_seq ?_
  refine J_reg ?_
  refine JL_q (q_add) (k := ?_)
  refine JL_q (q_move) (k := ?_)
  refine JL_nil ?_
  refine JX_again ?_
  refine J_seq ?_
  refine J_reg ?_
  refine JL_q (q_lss) (k := ?_)
  refine JL_nil ?_
  refine JX_seq ?_
  refine J_seq ?_
  refine J_false rfl ?_
  refine J_exit ?_
  refine JX_seq_exit ?_
  refine JX_inv_exit ?_
  refine JX_block_hit ?_
  refine JX_seq ?_
  refine J_seq ?_
  refine J_reg ?_
  refine JL_q (q_assign) (k := ?_)
  refine JL_nil ?_
  refine JX_seq ?_
  refine J_ret ?_
  refine JX_retI Tryd.results53 (Res.tmp rfl Res.nil) ?_
  refine JL_q (q_not) (k := ?_)
  refine JL_nil ?_
  refine JX_seq ?_
  refine J_false rfl ?_
  refine J_skip ?_
  refine JX_seq ?_
  refine J_seq ?_
  refine J_reg ?_
  refine JL_q (q_assign) (k := ?_)
  refine JL_nil ?_
  refine JX_seq ?_
  refine J_seq ?_
  refine J_seq ?_
  refine J_reg ?_
  refine JL_q (q_move) (k := ?_)
  refine JL_q (q_nil) (k := ?_)
  refine JL_q (q_fld FO_83_1) (k := ?_)
  refine JL_q (q_loadA Tryd.isAgg81 Tryd.sizeOf81) (k := ?_)
  refine JL_q (q_move) (k := ?_)
  refine JL_nil ?_
  refine JX_seq ?_
  refine J_block ?_
  refine J_unroll ?_
  refine J_seq ?_
  refine J_reg ?_
  refine JL_q (q_lss) (k := ?_)
  refine JL_nil ?_
  refine JX_seq ?_
  refine J_seq ?_
  refine J_true rfl ?_
  refine J_skip ?_
  refine JX_seq ?_
  refine J_seq ?_
  refine J_block ?_
  refine J_seq ?_
  refine J_reg ?_
  refine JL_q (q_idxA (m := 0) Tryd.runUnderlying81 Tryd.sizeOf3 Tryd.isAgg3) (k := ?_)
  refine JL_q (q_assign) (k := ?_)
  refine JL_nil ?_
  refine JX_seq ?_
  refine J_reg ?_
  refine JL_q (q_move) (k := ?_)
  refine JL_q (q_shlW) (k := ?_)
  refine JL_q (q_move) (k := ?_)
  refine JL_q (q_orW) (k := ?_)
  refine JL_q (q_assign) (k := ?_)
  refine JL_nil ?_
  refine JX_block ?_
  refine JX_seq ?_
  refine J_reg ?_
  refine JL_q (q_add) (k := ?_)
  refine JL_q (q_move) (k := ?_)
  refine JL_nil ?_
  refine JX_again ?_
  refine J_seq ?_
  refine J_reg ?_
  refine JL_q (q_lss) (k := ?_)
  refine JL_nil ?_
  refine JX_seq ?_
  refine J_seq ?_
  refine J_true rfl ?_
  refine J_skip ?_
  refine JX_seq ?_
  refine J_seq ?_
  refine J_block ?_
  refine J_seq ?_
  refine J_reg ?_
  refine JL_q (q_idxA (m := 1) Tryd.runUnderlying81 Tryd.sizeOf3 Tryd.isAgg3) (k := ?_)
  refine JL_q (q_assign) (k := ?_)
  refine JL_nil ?_
  refine JX_seq ?_
  refine J_reg ?_
  refine JL_q (q_move) (k := ?_)
  refine JL_q (q_shlW) (k := ?_)
  refine JL_q (q_move) (k := ?_)
  refine JL_q (q_orW) (k := ?_)
  refine JL_q (q_assign) (k := ?_)
  refine JL_nil ?_
  refine JX_block ?_
  refine JX_seq ?_
  refine J_reg ?_
  refine JL_q (q_add) (k := ?_)
  refine JL_q (q_move) (k := ?_)
  refine JL_nil ?_
  refine JX_again ?_
  refine J_seq ?_
  refine J_reg ?_
  refine JL_q (q_lss) (k := ?_)
  refine JL_nil ?_
  refine JX_seq ?_
  refine J_seq ?_
  refine J_true rfl ?_
  refine J_skip ?_
  refine JX_seq ?_
  refine J_seq ?_
  refine J_block ?_
  refine J_seq ?_
  refine J_reg ?_
  refine JL_q (q_idxA (m := 2) Tryd.runUnderlying81 Tryd.sizeOf3 Tryd.isAgg3) (k := ?_)
  refine JL_q (q_assign) (k := ?_)
  refine JL_nil ?_
  refine JX_seq ?_
  refine J_reg ?_
  refine JL_q (q_move) (k := ?_)
  refine JL_q (q_shlW) (k := ?_)
  refine JL_q (q_move) (k := ?_)
  refine JL_q (q_orW) (k := ?_)
  refine JL_q (q_assign) (k := ?_)
  refine JL_nil ?_
  refine JX_block ?_
  refine JX_seq ?_
  refine J_reg ?_
  refine JL_q (q_add) (k := ?_)
  refine JL_q (q_move) (k := ?_)
  refine JL_nil ?_
  refine JX_again ?_
  refine J_seq ?_
  refine J_reg ?_
  refine JL_q (q_lss) (k := ?_)
  refine JL_nil ?_
  refine JX_seq ?_
  refine J_seq ?_
  refine J_true rfl ?_
  refine J_skip ?_
  refine JX_seq ?_
  refine J_seq ?_
  refine J_block ?_
  refine J_seq ?_
  refine J_reg ?_
  refine JL_q (q_idxA (m := 3) Tryd.runUnderlying81 Tryd.sizeOf3 Tryd.isAgg3) (k := ?_)
  refine JL_q (q_assign) (k := ?_)
  refine JL_nil ?_
  refine JX_seq ?_
  refine J_reg ?_
  refine JL_q (q_move) (k := ?_)
  refine JL_q (q_shlW) (k := ?_)
  refine JL_q (q_move) (k := ?_)
  refine JL_q (q_orW) (k := ?_)
  refine JL_q (q_assign) (k := ?_)
  refine JL_nil ?_
  refine JX_block ?_
  refine JX_seq ?_
  refine J_reg ?_
  refine JL_q (q_add) (k := ?_)
  refine JL_q (q_move) (k := ?_)
  refine JL_nil ?_
  refine JX_again ?_
  refine J_seq ?_
  refine J_reg ?_
  refine JL_q (q_lss) (k := ?_)
  refine JL_nil ?_
  refine JX_seq ?_
  refine J_seq ?_
  refine J_false rfl ?_
  refine J_exit ?_
  refine JX_seq_exit ?_
  refine JX_inv_exit ?_
  refine JX_block_hit ?_
  refine JX_seq ?_
  refine J_seq ?_
  refine J_reg ?_
  refine JL_q (q_move) (k := ?_)
  refine JL_q (q_assign) (k := ?_)
  refine JL_q (q_assign) (k := ?_)
  refine JL_nil ?_
  refine JX_seq ?_
  refine J_ret ?_
  refine JX_ret Tryd.results38 (Res.tmp rfl (Res.tmp rfl Res.nil)) (fun w1 hw1 => ?_)
  exact ⟨(by rw [(((((((((hF.t hq1).f hq2).t hq3).f hq4).t hq5).f hq6).t hq7).f hq8)).eq] <;> first | rfl | (simp only [List.length_set] <;> rfl)), hw1.ext_out⟩

theorem rNum_ok (w : World) {n_ : Int} (hn : 0 ≤ n_ ∧ n_ ≤ 1000000000000) : Val Tryd.prog 27 [(Value.int .i64 (n_))] w (Value.string (bs (Lib.itoa n_))) := by
  have hF := Is.refl (Lib.itoa n_)
  refine enter Tryd.func27 Tryd.ntmps27 (h := ?_)
  refine J_seq ?_
  refine J_reg ?_
  refine JL_q (q_assign) (k := ?_)
  refine JL_nil ?_
  refine JX_seq ?_
  refine J_seq ?_
  refine J_seq ?_
  refine J_reg ?_
  refine JL_q (q_move) (k := ?_)
  refine JL_q (q_lss) (k := ?_)
  refine JL_nil ?_
  refine JX_seq ?_
  refine J_dec rfl (fun hq1 => ?_) (fun hq1 => ?_)
  · refine J_seq ?_
    refine J_reg ?_
    refine JL_q (q_move) (k := ?_)
    refine JL_q (q_move) (k := ?_)
    refine JL_q (q_add) (k := ?_)
    refine JL_q (q_subT (s := ([48, 49, 50, 51, 52, 53, 54, 55, 56, 57] : Str)) ((n_).toNat) (((n_ + 1)).toNat) Tryd.runUnderlying9 (by first | omega | (simp; omega)) (by first | omega | (simp; omega))) (k := ?_)
    refine JL_q (q_assign) (k := ?_)
    refine JL_nil ?_
    refine JX_seq ?_
    refine J_ret ?_
    refine JX_seq_ret ?_
    refine JX_ret Tryd.results27 (Res.tmp rfl Res.nil) (fun w1 hw1 => ?_)
    exact ⟨(by first | exact congrArg (fun q => Ending.returned (Value.string (bs q))) (num_small (n := n_) (by omega)) | exact congrArg (fun q => Ending.returned (Value.string (bs q))) (num_big (n := n_) (by omega))), hw1.ext_out⟩
  refine J_skip ?_
  refine JX_seq ?_
  refine J_seq ?_
  refine J_plan mixed 11 [(true, 0), (true, 1), (true, 3), (true, 4), (true, 5), (true, 6), (true, 7), (true, 8), (false, 2), (true, 9), (true, 10)] (by kernel_rfl) ?_
  refine JD_q (q_move) (k := ?_)
  refine JD_q (q_quo) (k := ?_)
  refine JD_q (q_move) (k := ?_)
  refine JD_q (q_rem) (k := ?_)
  refine JD_q (q_move) (k := ?_)
  refine JD_q (q_rem) (k := ?_)
  refine JD_q (q_add) (k := ?_)
  refine JD_q (q_subT (s := ([48, 49, 50, 51, 52, 53, 54, 55, 56, 57] : Str)) (((n_ % 10)).toNat) ((((n_ % 10) + 1)).toNat) Tryd.runUnderlying9 (by first | omega | (simp; omega)) (by first | omega | (simp; omega))) (k := ?_)
  refine JD_v (args := [(Value.int .i64 ((n_ / 10)))]) (c_callA Tryd.call27) (fun w1 hw1 => rNum_ok w1 (n_ := (n_ / 10)) (hn := by first | omega | (simp only [List.length_append, List.length_take, List.length_drop, List.length_set, List.length_replicate, List.length_cons, List.length_nil, List.length_map]; omega) | (simp only [List.length_append, List.length_take, List.length_drop, List.length_set, List.length_replicate, List.length_cons, List.length_nil, List.length_map] at *; omega) | decide)) (k := ?_)
  have hil_68167 := itoa_len (n := (n_ / 10)) (by omega)
  refine JD_q (q_addT (s := (Lib.itoa (n_ / 10))) (s' := ((([48, 49, 50, 51, 52, 53, 54, 55, 56, 57] : Str).take ((((n_ % 10) + 1)).toNat)).drop (((n_ % 10)).toNat))) (h := by (simp; omega))) (k := ?_)
  refine JD_q (q_assign) (k := ?_)
  refine JD_nil ?_
  refine JL_nil ?_
  refine JX_seq ?_
  refine J_ret ?_
  refine JX_ret Tryd.results27 (Res.tmp rfl Res.nil) (fun w1 hw1 => ?_)
  exact ⟨(by first | exact congrArg (fun q => Ending.returned (Value.string (bs q))) (num_small (n := n_) (by omega)) | exact congrArg (fun q => Ending.returned (Value.string (bs q))) (num_big (n := n_) (by omega))), hw1.ext_out⟩
  termination_by n_.toNat
  decreasing_by omega

theorem rCut_ok (w : World) {s : Str} {c : Int} (n_s : s.length ≤ 1000000) : Val Tryd.prog 29 [(Value.string (bs s)), (Value.int .u8 (c))] w (Value.tuple [(Value.string (bs ((rCut s c).1))), (Value.string (bs ((rCut s c).2.1))), (Value.bool (((rCut s c).2.2)))].toArray) := by
  have hF := Is.refl (rCut s c)
  refine enter Tryd.func29 Tryd.ntmps29 (h := ?_)
  refine J_seq ?_
  refine J_reg ?_
  refine JL_q (q_assign) (k := ?_)
  refine JL_q (q_assign) (k := ?_)
  refine JL_q (q_assign) (k := ?_)
  refine JL_nil ?_
  refine JX_seq ?_
  refine J_seq ?_
  refine J_seq ?_
  refine J_reg ?_
  refine JL_q (q_assign) (k := ?_)
  refine JL_nil ?_
  refine JX_seq ?_
  refine J_block ?_
  refine J_loop2 (σ1 := Nat) (σ2 := Nat) (fun n_2 i_1 => []) (fun n_2 i_1 => [(0, (Value.string (bs s))), (1, (Value.int .u8 (c))), (4, (Value.string (bs ([] : Str)))), (5, (Value.string (bs ([] : Str)))), (6, (Value.bool (false))), (7, (Value.int .i64 (((i_1 : Nat) : Int))))]) (fun n_2 i_1 => s.length - i_1 < n_2 ∧ Is (rCut_l0 s c (s.length + 1) 0) (rCut_l0 s c n_2 i_1) ∧ i_1 ≤ s.length) (fun n_2 i_1 => n_2) (s.length + 1) 0 ?_ (by repeat (first | exact SubE.nil | refine SubE.cons rfl ?_)) (List.Perm.refl _) ?_
  · exact ⟨Nat.lt_succ_self _, Is.refl _, (by omega)⟩
  · rintro (_ | n_2) i_1 ⟨hm4, hF3, hi5⟩
    · omega
    refine J_seq ?_
    refine J_seq ?_
    refine J_reg ?_
    refine JL_q (q_move) (k := ?_)
    refine JL_q (q_move) (k := ?_)
    refine JL_q (q_lenT Tryd.runUnderlying9) (k := ?_)
    refine JL_q (q_lss) (k := ?_)
    refine JL_nil ?_
    refine JX_seq ?_
    refine J_dec rfl (fun hq1 => ?_) (fun hq1 => ?_)
    rotate_left
    · refine J_exit ?_
      refine JX_seq_exit ?_
      refine JX_inv_exit ?_
      refine JX_block_hit ?_
      refine JX_seq ?_
      refine J_seq ?_
      refine J_reg ?_
      refine JL_q (q_move) (k := ?_)
      refine JL_q (q_assign) (k := ?_)
      refine JL_q (q_assign) (k := ?_)
      refine JL_q (q_assign) (k := ?_)
      refine JL_nil ?_
      refine JX_seq ?_
      refine J_ret ?_
      refine JX_ret Tryd.results29 (Res.tmp rfl (Res.tmp rfl (Res.tmp rfl Res.nil))) (fun w1 hw1 => ?_)
      exact ⟨(by rw [((hF.ok1 (hF3.neg hq1))).eq] <;> first | rfl | (simp only [List.length_set] <;> rfl)), hw1.ext_out⟩
    refine J_skip ?_
    refine JX_seq ?_
    refine J_seq ?_
    refine J_block ?_
    refine J_seq ?_
    refine J_reg ?_
    refine JL_q (q_move) (k := ?_)
    refine JL_q (q_move) (k := ?_)
    have hu16 := u8_lt (s.getD i_1 default)
    refine JL_q (q_idxT (s := s) i_1 Tryd.runUnderlying9 (by first | omega | (simp only [List.length_set]; omega) | (simp only [List.length_append, List.length_take, List.length_drop, List.length_set, List.length_replicate, List.length_cons, List.length_nil, List.length_map]; omega))) (k := ?_)
    refine JL_q (q_move) (k := ?_)
    refine JL_q (q_eql) (k := ?_)
    refine JL_nil ?_
    refine JX_seq ?_
    refine J_dec rfl (fun hq2 => ?_) (fun hq2 => ?_)
    rotate_left
    · refine J_skip ?_
      refine JX_block ?_
      refine JX_seq ?_
      refine J_reg ?_
      refine JL_q (q_move) (k := ?_)
      refine JL_q (q_add) (k := ?_)
      refine JL_q (q_assign) (k := ?_)
      refine JL_nil ?_
      exact JX_inv2 n_2 (i_1 + 1) ⟨by omega, ((hF3.pos hq1).neg hq2), (by omega)⟩ (Nat.lt_succ_self _) (by repeat (first | exact SubE.nil | refine SubE.cons rfl ?_)) (List.Perm.refl _)
    refine J_seq ?_
    refine J_plan mixed 10 [(true, 0), (true, 1), (true, 2), (true, 3), (true, 4), (true, 5), (true, 6), (true, 7), (true, 8), (true, 9)] (by kernel_rfl) ?_
    refine JD_q (q_move) (k := ?_)
    refine JD_q (q_move) (k := ?_)
    refine JD_q (q_subThi (s := s) i_1 Tryd.runUnderlying9 (by omega)) (k := ?_)
    refine JD_q (q_move) (k := ?_)
    refine JD_q (q_move) (k := ?_)
    refine JD_q (q_add) (k := ?_)
    refine JD_q (q_subTlo (s := s) (i_1 + 1) Tryd.runUnderlying9 (by omega)) (k := ?_)
    refine JD_q (q_assign) (k := ?_)
    refine JD_q (q_assign) (k := ?_)
    refine JD_q (q_assign) (k := ?_)
    refine JD_nil ?_
    refine JL_nil ?_
    refine JX_seq ?_
    refine J_ret ?_
    refine JX_block_ret ?_
    refine JX_seq_ret ?_
    refine JX_inv_ret ?_
    refine JX_block_ret ?_
    refine JX_seq_ret ?_
    refine JX_ret Tryd.results29 (Res.tmp rfl (Res.tmp rfl (Res.tmp rfl Res.nil))) (fun w1 hw1 => ?_)
    exact ⟨(by rw [((hF.er1 ((hF3.pos hq1).pos hq2))).eq] <;> first | rfl | (simp only [List.length_set] <;> rfl)), hw1.ext_out⟩

theorem rNumber_ok (w : World) {s : Str} {most : Int} (n_s : s.length ≤ 1000000) (hm : 0 ≤ most ∧ most ≤ 1000000000) : Val Tryd.prog 30 [(Value.string (bs s)), (Value.int .i64 (most))] w (Value.tuple [(Value.int .i64 (((rNumber s most).1))), (Value.bool (((rNumber s most).2)))].toArray) := by
  have hF := Is.refl (rNumber s most)
  refine enter Tryd.func30 Tryd.ntmps30 (h := ?_)
  refine J_seq ?_
  refine J_reg ?_
  refine JL_q (q_assign) (k := ?_)
  refine JL_q (q_assign) (k := ?_)
  refine JL_nil ?_
  refine JX_seq ?_
  refine J_seq ?_
  refine J_reg ?_
  refine JL_q (q_assign) (k := ?_)
  refine JL_nil ?_
  refine JX_seq ?_
  refine J_seq ?_
  refine J_seq ?_
  refine J_reg ?_
  refine JL_q (q_assign) (k := ?_)
  refine JL_nil ?_
  refine JX_seq ?_
  refine J_block ?_
  refine J_loop3 (σ1 := Nat) (σ2 := Int) (σ3 := Nat) (fun n_3 n_1 i_2 => []) (fun n_3 n_1 i_2 => [(0, (Value.string (bs s))), (1, (Value.int .i64 (most))), (4, (Value.int .i64 (0))), (5, (Value.bool (false))), (6, (Value.int .i64 (n_1))), (7, (Value.int .i64 (((i_2 : Nat) : Int))))]) (fun n_3 n_1 i_2 => s.length - i_2 < n_3 ∧ Is (rNumber_l0 s most (s.length + 1) 0 0) (rNumber_l0 s most n_3 n_1 i_2) ∧ 0 ≤ n_1 ∧ n_1 ≤ 10 * most + 9 ∧ i_2 ≤ s.length) (fun n_3 n_1 i_2 => n_3) (s.length + 1) 0 0 ?_ (by repeat (first | exact SubE.nil | refine SubE.cons rfl ?_)) (List.Perm.refl _) ?_
  · exact ⟨Nat.lt_succ_self _, Is.refl _, (by omega), (by omega)⟩
  · rintro (_ | n_3) n_1 i_2 ⟨hm5, hF4, hi6, hi7⟩
    · omega
    refine J_seq ?_
    refine J_seq ?_
    refine J_reg ?_
    refine JL_q (q_move) (k := ?_)
    refine JL_q (q_move) (k := ?_)
    refine JL_q (q_lenT Tryd.runUnderlying9) (k := ?_)
    refine JL_q (q_lss) (k := ?_)
    refine JL_nil ?_
    refine JX_seq ?_
    refine J_dec rfl (fun hq1 => ?_) (fun hq1 => ?_)
    rotate_left
    · refine J_exit ?_
      refine JX_seq_exit ?_
      refine JX_inv_exit ?_
      refine JX_block_hit ?_
      refine JX_seq ?_
      refine J_seq ?_
      refine J_reg ?_
      refine JL_q (q_move) (k := ?_)
      refine JL_q (q_move) (k := ?_)
      refine JL_q (q_move) (k := ?_)
      refine JL_q (q_leq) (k := ?_)
      refine JL_q (q_move) (k := ?_)
      refine JL_dec 41 rfl (fun hq5 => ?_) (fun hq5 => ?_)
      rotate_left
      · refine JL_skips 4 rfl ?_
        refine JL_q (q_pickF) (k := ?_)
        refine JL_q (q_assign) (k := ?_)
        refine JL_q (q_assign) (k := ?_)
        refine JL_nil ?_
        refine JX_seq ?_
        refine J_ret ?_
        refine JX_ret Tryd.results30 (Res.tmp rfl (Res.tmp rfl Res.nil)) (fun w1 hw1 => ?_)
        exact ⟨(by rw [(((hF.ok2 (hF4.neg hq1)).neg hq5)).eq] <;> first | rfl | (simp only [List.length_set] <;> rfl)), hw1.ext_out⟩
      refine JL_qg (q_move) (k := ?_)
      refine JL_vg (args := [(Value.int .i64 (n_1))]) (c_callA Tryd.call27) (fun w1 hw1 => rNum_ok w1 (n_ := n_1) (hn := by first | omega | (simp only [List.length_append, List.length_take, List.length_drop, List.length_set, List.length_replicate, List.length_cons, List.length_nil, List.length_map]; omega) | (simp only [List.length_append, List.length_take, List.length_drop, List.length_set, List.length_replicate, List.length_cons, List.length_nil, List.length_map] at *; omega) | decide)) (k := ?_)
      have hil_26873 := itoa_len (n := n_1) (by omega)
      refine JL_qg (q_move) (k := ?_)
      refine JL_qg (q_eqT) (k := ?_)
      refine JL_q (q_pickT) (k := ?_)
      refine JL_q (q_assign) (k := ?_)
      refine JL_q (q_assign) (k := ?_)
      refine JL_nil ?_
      refine JX_seq ?_
      refine J_ret ?_
      refine JX_ret Tryd.results30 (Res.tmp rfl (Res.tmp rfl Res.nil)) (fun w1 hw1 => ?_)
      exact ⟨(by rw [(((hF.ok2 (hF4.neg hq1)).pos hq5)).eq] <;> first | rfl | (simp only [List.length_set] <;> rfl)), hw1.ext_out⟩
    refine J_skip ?_
    refine JX_seq ?_
    refine J_seq ?_
    refine J_block ?_
    refine J_seq ?_
    refine J_seq ?_
    refine J_reg ?_
    refine JL_q (q_move) (k := ?_)
    refine JL_q (q_move) (k := ?_)
    have hu16 := u8_lt (s.getD i_2 default)
    refine JL_q (q_idxT (s := s) i_2 Tryd.runUnderlying9 (by first | omega | (simp only [List.length_set]; omega) | (simp only [List.length_append, List.length_take, List.length_drop, List.length_set, List.length_replicate, List.length_cons, List.length_nil, List.length_map]; omega))) (k := ?_)
    refine JL_q (q_lss) (k := ?_)
    refine JL_q (q_move) (k := ?_)
    refine JL_dec 18 rfl (fun hq2 => ?_) (fun hq2 => ?_)
    · refine JL_skips 4 rfl ?_
      refine JL_q (q_pickT) (k := ?_)
      refine JL_q (q_move) (k := ?_)
      refine JL_skips 3 rfl ?_
      refine JL_q (q_pickT) (k := ?_)
      refine JL_nil ?_
      refine JX_seq ?_
      refine J_true rfl ?_
      refine J_seq ?_
      refine J_reg ?_
      refine JL_q (q_assign) (k := ?_)
      refine JL_q (q_assign) (k := ?_)
      refine JL_nil ?_
      refine JX_seq ?_
      refine J_ret ?_
      refine JX_seq_ret ?_
      refine JX_block_ret ?_
      refine JX_seq_ret ?_
      refine JX_inv_ret ?_
      refine JX_block_ret ?_
      refine JX_seq_ret ?_
      refine JX_ret Tryd.results30 (Res.tmp rfl (Res.tmp rfl Res.nil)) (fun w1 hw1 => ?_)
      exact ⟨(by rw [((hF.er2 ((hF4.pos hq1).pos hq2))).eq] <;> first | rfl | (simp only [List.length_set] <;> rfl)), hw1.ext_out⟩
    refine JL_qg (q_move) (k := ?_)
    refine JL_qg (q_move) (k := ?_)
    have hu21 := u8_lt (s.getD i_2 default)
    refine JL_qg (q_idxT (s := s) i_2 Tryd.runUnderlying9 (by first | omega | (simp only [List.length_set]; omega) | (simp only [List.length_append, List.length_take, List.length_drop, List.length_set, List.length_replicate, List.length_cons, List.length_nil, List.length_map]; omega))) (k := ?_)
    refine JL_qg (q_gtr) (k := ?_)
    refine JL_q (q_pickF) (k := ?_)
    refine JL_q (q_move) (k := ?_)
    refine JL_dec 24 rfl (fun hq3 => ?_) (fun hq3 => ?_)
    · refine JL_skips 3 rfl ?_
      refine JL_q (q_pickT) (k := ?_)
      refine JL_nil ?_
      refine JX_seq ?_
      refine J_true rfl ?_
      refine J_seq ?_
      refine J_reg ?_
      refine JL_q (q_assign) (k := ?_)
      refine JL_q (q_assign) (k := ?_)
      refine JL_nil ?_
      refine JX_seq ?_
      refine J_ret ?_
      refine JX_seq_ret ?_
      refine JX_block_ret ?_
      refine JX_seq_ret ?_
      refine JX_inv_ret ?_
      refine JX_block_ret ?_
      refine JX_seq_ret ?_
      refine JX_ret Tryd.results30 (Res.tmp rfl (Res.tmp rfl Res.nil)) (fun w1 hw1 => ?_)
      exact ⟨(by rw [((hF.er2 (((hF4.pos hq1).neg hq2).pos hq3))).eq] <;> first | rfl | (simp only [List.length_set] <;> rfl)), hw1.ext_out⟩
    refine JL_qg (q_move) (k := ?_)
    refine JL_qg (q_move) (k := ?_)
    refine JL_qg (q_gtr) (k := ?_)
    refine JL_q (q_pickF) (k := ?_)
    refine JL_nil ?_
    refine JX_seq ?_
    refine J_dec rfl (fun hq4 => ?_) (fun hq4 => ?_)
    · refine J_seq ?_
      refine J_reg ?_
      refine JL_q (q_assign) (k := ?_)
      refine JL_q (q_assign) (k := ?_)
      refine JL_nil ?_
      refine JX_seq ?_
      refine J_ret ?_
      refine JX_seq_ret ?_
      refine JX_block_ret ?_
      refine JX_seq_ret ?_
      refine JX_inv_ret ?_
      refine JX_block_ret ?_
      refine JX_seq_ret ?_
      refine JX_ret Tryd.results30 (Res.tmp rfl (Res.tmp rfl Res.nil)) (fun w1 hw1 => ?_)
      exact ⟨(by rw [((hF.er2 ((((hF4.pos hq1).neg hq2).neg hq3).pos hq4))).eq] <;> first | rfl | (simp only [List.length_set] <;> rfl)), hw1.ext_out⟩
    refine J_skip ?_
    refine JX_seq ?_
    refine J_reg ?_
    refine JL_q (q_move) (k := ?_)
    refine JL_q (q_mul) (k := ?_)
    refine JL_q (q_move) (k := ?_)
    refine JL_q (q_move) (k := ?_)
    have hu33 := u8_lt (s.getD i_2 default)
    refine JL_q (q_idxT (s := s) i_2 Tryd.runUnderlying9 (by first | omega | (simp only [List.length_set]; omega) | (simp only [List.length_append, List.length_take, List.length_drop, List.length_set, List.length_replicate, List.length_cons, List.length_nil, List.length_map]; omega))) (k := ?_)
    refine JL_q (q_subK (p := (((s.getD i_2 default).toNat : Nat) : Int)) (q := 48) (wrap_u8 (by omega))) (k := ?_)
    refine JL_q (q_conv (r := ((((s.getD i_2 default).toNat : Nat) : Int) - 48)) (wrap_i64 (by omega)) Tryd.runUnderlying5 Tryd.runUnderlying3) (k := ?_)
    refine JL_q (q_add) (k := ?_)
    refine JL_q (q_assign) (k := ?_)
    refine JL_nil ?_
    refine JX_block ?_
    refine JX_seq ?_
    refine J_reg ?_
    refine JL_q (q_move) (k := ?_)
    refine JL_q (q_add) (k := ?_)
    refine JL_q (q_assign) (k := ?_)
    refine JL_nil ?_
    exact JX_inv3 n_3 ((10 * n_1) + ((((s.getD i_2 default).toNat : Nat) : Int) - 48)) (i_2 + 1) ⟨by omega, ((((hF4.pos hq1).neg hq2).neg hq3).neg hq4), (by omega), (by omega)⟩ (Nat.lt_succ_self _) (by repeat (first | exact SubE.nil | refine SubE.cons rfl ?_)) (List.Perm.refl _)

theorem rPrint_ok (w : World) {a : Int} : Val Tryd.prog 36 [(Value.int .i64 (a))] w (Value.tuple [(Value.string (bs ((rPrint a).1))), (Value.int .i64 (((rPrint a).2)))].toArray) := by
  have hF := Is.refl (rPrint a)
  refine enter Tryd.func36 Tryd.ntmps36 (h := ?_)
  refine J_seq ?_
  refine J_reg ?_
  refine JL_q (q_assign) (k := ?_)
  refine JL_q (q_assign) (k := ?_)
  refine JL_nil ?_
  refine JX_seq ?_
  refine J_seq ?_
  refine J_seq ?_
  refine J_reg ?_
  refine JL_q (q_move) (k := ?_)
  refine JL_v (args := [(Value.int .i64 (a))]) (c_callA Tryd.call50) (fun w1 hw1 => rIsAddr_ok w1 (a := a)) (k := ?_)
  refine JL_q (q_not) (k := ?_)
  refine JL_nil ?_
  refine JX_seq ?_
  refine J_cond rfl (fun hq1 => ?_) (fun hq1 => ?_)
  · refine J_seq ?_
    refine J_reg ?_
    refine JL_q (q_assign) (k := ?_)
    refine JL_q (q_assign) (k := ?_)
    refine JL_nil ?_
    refine JX_seq ?_
    refine J_ret ?_
    refine JX_seq_ret ?_
    refine JX_ret Tryd.results36 (Res.tmp rfl (Res.tmp rfl Res.nil)) (fun w1 hw1 => ?_)
    exact ⟨(by rw [((hF.t hq1)).eq] <;> first | rfl | (simp only [List.length_set] <;> rfl)), hw1.ext_out⟩
  have hfhq1 := rIsAddr_t (by simpa using hq1)
  refine J_skip ?_
  refine JX_seq ?_
  refine J_seq ?_
  refine J_reg ?_
  refine JL_q (q_move) (k := ?_)
  refine JL_q (q_quo) (k := ?_)
  refine JL_v (args := [(Value.int .i64 ((a / 16777216)))]) (c_callA Tryd.call27) (fun w1 hw1 => rNum_ok w1 (n_ := (a / 16777216)) (hn := by first | omega | (simp only [List.length_append, List.length_take, List.length_drop, List.length_set, List.length_replicate, List.length_cons, List.length_nil, List.length_map]; omega) | (simp only [List.length_append, List.length_take, List.length_drop, List.length_set, List.length_replicate, List.length_cons, List.length_nil, List.length_map] at *; omega) | decide)) (k := ?_)
  have hil_19915 := itoa_len (n := (a / 16777216)) (by omega)
  refine JL_q (q_addT (s := (Lib.itoa (a / 16777216))) (s' := ([46] : Str)) (h := by first | omega | (simp only [List.length_append, List.length_take, List.length_drop, List.length_set, List.length_replicate, List.length_cons, List.length_nil, List.length_map]; omega) | (simp only [List.length_append, List.length_take, List.length_drop, List.length_set, List.length_replicate, List.length_cons, List.length_nil, List.length_map] at *; omega))) (k := ?_)
  refine JL_q (q_move) (k := ?_)
  refine JL_q (q_quo) (k := ?_)
  refine JL_q (q_rem) (k := ?_)
  refine JL_v (args := [(Value.int .i64 (((a / 65536) % 256)))]) (c_callA Tryd.call27) (fun w1 hw1 => rNum_ok w1 (n_ := ((a / 65536) % 256)) (hn := by first | omega | (simp only [List.length_append, List.length_take, List.length_drop, List.length_set, List.length_replicate, List.length_cons, List.length_nil, List.length_map]; omega) | (simp only [List.length_append, List.length_take, List.length_drop, List.length_set, List.length_replicate, List.length_cons, List.length_nil, List.length_map] at *; omega) | decide)) (k := ?_)
  have hil_92762 := itoa_len (n := ((a / 65536) % 256)) (by omega)
  refine JL_q (q_addT (s := ((Lib.itoa (a / 16777216)) ++ ([46] : Str))) (s' := (Lib.itoa ((a / 65536) % 256))) (h := by first | omega | (simp only [List.length_append, List.length_take, List.length_drop, List.length_set, List.length_replicate, List.length_cons, List.length_nil, List.length_map]; omega) | (simp only [List.length_append, List.length_take, List.length_drop, List.length_set, List.length_replicate, List.length_cons, List.length_nil, List.length_map] at *; omega))) (k := ?_)
  refine JL_q (q_addT (s := (((Lib.itoa (a / 16777216)) ++ ([46] : Str)) ++ (Lib.itoa ((a / 65536) % 256)))) (s' := ([46] : Str)) (h := by first | omega | (simp only [List.length_append, List.length_take, List.length_drop, List.length_set, List.length_replicate, List.length_cons, List.length_nil, List.length_map]; omega) | (simp only [List.length_append, List.length_take, List.length_drop, List.length_set, List.length_replicate, List.length_cons, List.length_nil, List.length_map] at *; omega))) (k := ?_)
  refine JL_q (q_move) (k := ?_)
  refine JL_q (q_quo) (k := ?_)
  refine JL_q (q_rem) (k := ?_)
  refine JL_v (args := [(Value.int .i64 (((a / 256) % 256)))]) (c_callA Tryd.call27) (fun w1 hw1 => rNum_ok w1 (n_ := ((a / 256) % 256)) (hn := by first | omega | (simp only [List.length_append, List.length_take, List.length_drop, List.length_set, List.length_replicate, List.length_cons, List.length_nil, List.length_map]; omega) | (simp only [List.length_append, List.length_take, List.length_drop, List.length_set, List.length_replicate, List.length_cons, List.length_nil, List.length_map] at *; omega) | decide)) (k := ?_)
  have hil_73777 := itoa_len (n := ((a / 256) % 256)) (by omega)
  refine JL_q (q_addT (s := ((((Lib.itoa (a / 16777216)) ++ ([46] : Str)) ++ (Lib.itoa ((a / 65536) % 256))) ++ ([46] : Str))) (s' := (Lib.itoa ((a / 256) % 256))) (h := by first | omega | (simp only [List.length_append, List.length_take, List.length_drop, List.length_set, List.length_replicate, List.length_cons, List.length_nil, List.length_map]; omega) | (simp only [List.length_append, List.length_take, List.length_drop, List.length_set, List.length_replicate, List.length_cons, List.length_nil, List.length_map] at *; omega))) (k := ?_)
  refine JL_q (q_addT (s := (((((Lib.itoa (a / 16777216)) ++ ([46] : Str)) ++ (Lib.itoa ((a / 65536) % 256))) ++ ([46] : Str)) ++ (Lib.itoa ((a / 256) % 256)))) (s' := ([46] : Str)) (h := by first | omega | (simp only [List.length_append, List.length_take, List.length_drop, List.length_set, List.length_replicate, List.length_cons, List.length_nil, List.length_map]; omega) | (simp only [List.length_append, List.length_take, List.length_drop, List.length_set, List.length_replicate, List.length_cons, List.length_nil, List.length_map] at *; omega))) (k := ?_)
  refine JL_q (q_move) (k := ?_)
  refine JL_q (q_rem) (k := ?_)
  refine JL_v (args := [(Value.int .i64 ((a % 256)))]) (c_callA Tryd.call27) (fun w1 hw1 => rNum_ok w1 (n_ := (a % 256)) (hn := by first | omega | (simp only [List.length_append, List.length_take, List.length_drop, List.length_set, List.length_replicate, List.length_cons, List.length_nil, List.length_map]; omega) | (simp only [List.length_append, List.length_take, List.length_drop, List.length_set, List.length_replicate, List.length_cons, List.length_nil, List.length_map] at *; omega) | decide)) (k := ?_)
  have hil_10885 := itoa_len (n := (a % 256)) (by omega)
  refine JL_q (q_addT (s := ((((((Lib.itoa (a / 16777216)) ++ ([46] : Str)) ++ (Lib.itoa ((a / 65536) % 256))) ++ ([46] : Str)) ++ (Lib.itoa ((a / 256) % 256))) ++ ([46] : Str))) (s' := (Lib.itoa (a % 256))) (h := by first | omega | (simp only [List.length_append, List.length_take, List.length_drop, List.length_set, List.length_replicate, List.length_cons, List.length_nil, List.length_map]; omega) | (simp only [List.length_append, List.length_take, List.length_drop, List.length_set, List.length_replicate, List.length_cons, List.length_nil, List.length_map] at *; omega))) (k := ?_)
  refine JL_q (q_assign) (k := ?_)
  refine JL_q (q_assign) (k := ?_)
  refine JL_nil ?_
  refine JX_seq ?_
  refine J_ret ?_
  refine JX_ret Tryd.results36 (Res.tmp rfl (Res.tmp rfl Res.nil)) (fun w1 hw1 => ?_)
  exact ⟨(by rw [((hF.f hq1)).eq] <;> first | rfl | (simp only [List.length_set] <;> rfl)), hw1.ext_out⟩

theorem rParse_ok (w : World) {s : Str} (n_s : s.length ≤ 1000000) : Val Tryd.prog 40 [(Value.string (bs s))] w (Value.tuple [(Value.int .i64 (((rParse s).1))), (Value.int .i64 (((rParse s).2)))].toArray) := by
  have hF := Is.refl (rParse s)
  refine enter Tryd.func40 Tryd.ntmps40 (h := ?_)
  refine J_seq ?_
  refine J_reg ?_
  refine JL_q (q_assign) (k := ?_)
  refine JL_q (q_assign) (k := ?_)
  refine JL_nil ?_
  refine JX_seq ?_
  refine J_seq ?_
  refine J_reg ?_
  refine JL_q (q_assign) (k := ?_)
  refine JL_nil ?_
  refine JX_seq ?_
  refine J_seq ?_
  refine J_seq ?_
  refine J_reg ?_
  refine JL_q (q_assign) (k := ?_)
  refine JL_nil ?_
  refine JX_seq ?_
  refine J_block ?_
  refine J_unroll ?_
  refine J_seq ?_
  refine J_seq ?_
  refine J_reg ?_
  refine JL_q (q_move) (k := ?_)
  refine JL_q (q_lss) (k := ?_)
  refine JL_nil ?_
  refine JX_seq ?_
  refine J_true rfl ?_
  refine J_skip ?_
  refine JX_seq ?_
  refine J_seq ?_
  refine J_block ?_
  refine J_seq ?_
  refine J_reg ?_
  refine JL_q (q_move) (k := ?_)
  refine JL_v (args := [(Value.string (bs s)), (Value.int .u8 (46))]) (c_callA Tryd.call29) (fun w1 hw1 => rCut_ok w1 (s := s) (c := 46) (n_s := by first | omega | (simp only [List.length_append, List.length_take, List.length_drop, List.length_set, List.length_replicate, List.length_cons, List.length_nil, List.length_map]; omega) | (simp only [List.length_append, List.length_take, List.length_drop, List.length_set, List.length_replicate, List.length_cons, List.length_nil, List.length_map] at *; omega) | decide)) (k := ?_)
  have hct_13079 := rCut_len s 46
  refine JL_q (q_move) (k := ?_)
  refine JL_q (q_ext) (k := ?_)
  refine JL_q (q_ext) (k := ?_)
  refine JL_q (q_ext) (k := ?_)
  refine JL_q (q_assign) (k := ?_)
  refine JL_q (q_assign) (k := ?_)
  refine JL_q (q_assign) (k := ?_)
  refine JL_nil ?_
  refine JX_seq ?_
  refine J_seq ?_
  refine J_reg ?_
  refine JL_q (q_move) (k := ?_)
  refine JL_v (args := [(Value.string (bs ((rCut s 46).1))), (Value.int .i64 (255))]) (c_callA Tryd.call30) (fun w1 hw1 => rNumber_ok w1 (s := ((rCut s 46).1)) (most := 255) (n_s := by first | omega | (simp only [List.length_append, List.length_take, List.length_drop, List.length_set, List.length_replicate, List.length_cons, List.length_nil, List.length_map]; omega) | (simp only [List.length_append, List.length_take, List.length_drop, List.length_set, List.length_replicate, List.length_cons, List.length_nil, List.length_map] at *; omega) | decide) (hm := by first | omega | (simp only [List.length_append, List.length_take, List.length_drop, List.length_set, List.length_replicate, List.length_cons, List.length_nil, List.length_map]; omega) | (simp only [List.length_append, List.length_take, List.length_drop, List.length_set, List.length_replicate, List.length_cons, List.length_nil, List.length_map] at *; omega) | decide)) (k := ?_)
  refine JL_q (q_move) (k := ?_)
  refine JL_q (q_ext) (k := ?_)
  refine JL_q (q_ext) (k := ?_)
  refine JL_q (q_assign) (k := ?_)
  refine JL_q (q_assign) (k := ?_)
  refine JL_nil ?_
  refine JX_seq ?_
  refine J_seq ?_
  refine J_seq ?_
  refine J_reg ?_
  refine JL_q (q_move) (k := ?_)
  refine JL_q (q_not) (k := ?_)
  refine JL_q (q_move) (k := ?_)
  refine JL_bool 28 rfl (fun hq1 => ?_) (fun hq1 => ?_)
  · refine JL_skips 4 rfl ?_
    refine JL_q (q_pickT) (k := ?_)
    refine JL_nil ?_
    refine JX_seq ?_
    refine J_true rfl ?_
    refine J_seq ?_
    refine J_reg ?_
    refine JL_q (q_assign) (k := ?_)
    refine JL_q (q_assign) (k := ?_)
    refine JL_nil ?_
    refine JX_seq ?_
    refine J_ret ?_
    refine JX_seq_ret ?_
    refine JX_block_ret ?_
    refine JX_seq_ret ?_
    refine JX_inv_ret ?_
    refine JX_block_ret ?_
    refine JX_seq_ret ?_
    refine JX_ret Tryd.results40 (Res.tmp rfl (Res.tmp rfl Res.nil)) (fun w1 hw1 => ?_)
    exact ⟨(by rw [((hF.t hq1)).eq] <;> first | rfl | (simp only [List.length_set] <;> rfl)), hw1.ext_out⟩
  have hfhq1 := rNumber_bd (by simpa using hq1)
  refine JL_qg (q_move) (k := ?_)
  refine JL_qg (q_move) (k := ?_)
  refine JL_qg (q_lss) (k := ?_)
  refine JL_qg (q_neqB Tryd.runUnderlying4) (k := ?_)
  refine JL_q (q_pickF) (k := ?_)
  refine JL_nil ?_
  refine JX_seq ?_
  refine J_cond rfl (fun hq2 => ?_) (fun hq2 => ?_)
  · refine J_seq ?_
    refine J_reg ?_
    refine JL_q (q_assign) (k := ?_)
    refine JL_q (q_assign) (k := ?_)
    refine JL_nil ?_
    refine JX_seq ?_
    refine J_ret ?_
    refine JX_seq_ret ?_
    refine JX_block_ret ?_
    refine JX_seq_ret ?_
    refine JX_inv_ret ?_
    refine JX_block_ret ?_
    refine JX_seq_ret ?_
    refine JX_ret Tryd.results40 (Res.tmp rfl (Res.tmp rfl Res.nil)) (fun w1 hw1 => ?_)
    exact ⟨(by rw [(((hF.f hq1).t hq2)).eq] <;> first | rfl | (simp only [List.length_set] <;> rfl)), hw1.ext_out⟩
  refine J_skip ?_
  refine JX_seq ?_
  refine J_seq ?_
  refine J_reg ?_
  refine JL_q (q_move) (k := ?_)
  refine JL_q (q_mul) (k := ?_)
  refine JL_q (q_move) (k := ?_)
  refine JL_q (q_add) (k := ?_)
  refine JL_q (q_assign) (k := ?_)
  refine JL_nil ?_
  refine JX_seq ?_
  refine J_reg ?_
  refine JL_q (q_move) (k := ?_)
  refine JL_q (q_assign) (k := ?_)
  refine JL_nil ?_
  refine JX_block ?_
  refine JX_seq ?_
  refine J_reg ?_
  refine JL_q (q_move) (k := ?_)
  refine JL_q (q_add) (k := ?_)
  refine JL_q (q_assign) (k := ?_)
  refine JL_nil ?_
  refine JX_again ?_
  refine J_seq ?_
  refine J_seq ?_
  refine J_reg ?_
  refine JL_q (q_move) (k := ?_)
  refine JL_q (q_lss) (k := ?_)
  refine JL_nil ?_
  refine JX_seq ?_
  refine J_true rfl ?_
  refine J_skip ?_
  refine JX_seq ?_
  refine J_seq ?_
  refine J_block ?_
  refine J_seq ?_
  refine J_reg ?_
  refine JL_q (q_move) (k := ?_)
  refine JL_v (args := [(Value.string (bs ((rCut s 46).2.1))), (Value.int .u8 (46))]) (c_callA Tryd.call29) (fun w1 hw1 => rCut_ok w1 (s := ((rCut s 46).2.1)) (c := 46) (n_s := by first | omega | (simp only [List.length_append, List.length_take, List.length_drop, List.length_set, List.length_replicate, List.length_cons, List.length_nil, List.length_map]; omega) | (simp only [List.length_append, List.length_take, List.length_drop, List.length_set, List.length_replicate, List.length_cons, List.length_nil, List.length_map] at *; omega) | decide)) (k := ?_)
  have hct_86460 := rCut_len ((rCut s 46).2.1) 46
  refine JL_q (q_move) (k := ?_)
  refine JL_q (q_ext) (k := ?_)
  refine JL_q (q_ext) (k := ?_)
  refine JL_q (q_ext) (k := ?_)
  refine JL_q (q_assign) (k := ?_)
  refine JL_q (q_assign) (k := ?_)
  refine JL_q (q_assign) (k := ?_)
  refine JL_nil ?_
  refine JX_seq ?_
  refine J_seq ?_
  refine J_reg ?_
  refine JL_q (q_move) (k := ?_)
  refine JL_v (args := [(Value.string (bs ((rCut ((rCut s 46).2.1) 46).1))), (Value.int .i64 (255))]) (c_callA Tryd.call30) (fun w1 hw1 => rNumber_ok w1 (s := ((rCut ((rCut s 46).2.1) 46).1)) (most := 255) (n_s := by first | omega | (simp only [List.length_append, List.length_take, List.length_drop, List.length_set, List.length_replicate, List.length_cons, List.length_nil, List.length_map]; omega) | (simp only [List.length_append, List.length_take, List.length_drop, List.length_set, List.length_replicate, List.length_cons, List.length_nil, List.length_map] at *; omega) | decide) (hm := by first | omega | (simp only [List.length_append, List.length_take, List.length_drop, List.length_set, List.length_replicate, List.length_cons, List.length_nil, List.length_map]; omega) | (simp only [List.length_append, List.length_take, List.length_drop, List.length_set, List.length_replicate, List.length_cons, List.length_nil, List.length_map] at *; omega) | decide)) (k := ?_)
  refine JL_q (q_move) (k := ?_)
  refine JL_q (q_ext) (k := ?_)
  refine JL_q (q_ext) (k := ?_)
  refine JL_q (q_assign) (k := ?_)
  refine JL_q (q_assign) (k := ?_)
  refine JL_nil ?_
  refine JX_seq ?_
  refine J_seq ?_
  refine J_seq ?_
  refine J_reg ?_
  refine JL_q (q_move) (k := ?_)
  refine JL_q (q_not) (k := ?_)
  refine JL_q (q_move) (k := ?_)
  refine JL_bool 28 rfl (fun hq3 => ?_) (fun hq3 => ?_)
  · refine JL_skips 4 rfl ?_
    refine JL_q (q_pickT) (k := ?_)
    refine JL_nil ?_
    refine JX_seq ?_
    refine J_true rfl ?_
    refine J_seq ?_
    refine J_reg ?_
    refine JL_q (q_assign) (k := ?_)
    refine JL_q (q_assign) (k := ?_)
    refine JL_nil ?_
    refine JX_seq ?_
    refine J_ret ?_
    refine JX_seq_ret ?_
    refine JX_block_ret ?_
    refine JX_seq_ret ?_
    refine JX_inv_ret ?_
    refine JX_block_ret ?_
    refine JX_seq_ret ?_
    refine JX_ret Tryd.results40 (Res.tmp rfl (Res.tmp rfl Res.nil)) (fun w1 hw1 => ?_)
    exact ⟨(by rw [((((hF.f hq1).f hq2).t hq3)).eq] <;> first | rfl | (simp only [List.length_set] <;> rfl)), hw1.ext_out⟩
  have hfhq3 := rNumber_bd (by simpa using hq3)
  refine JL_qg (q_move) (k := ?_)
  refine JL_qg (q_move) (k := ?_)
  refine JL_qg (q_lss) (k := ?_)
  refine JL_qg (q_neqB Tryd.runUnderlying4) (k := ?_)
  refine JL_q (q_pickF) (k := ?_)
  refine JL_nil ?_
  refine JX_seq ?_
  refine J_cond rfl (fun hq4 => ?_) (fun hq4 => ?_)
  · refine J_seq ?_
    refine J_reg ?_
    refine JL_q (q_assign) (k := ?_)
    refine JL_q (q_assign) (k := ?_)
    refine JL_nil ?_
    refine JX_seq ?_
    refine J_ret ?_
    refine JX_seq_ret ?_
    refine JX_block_ret ?_
    refine JX_seq_ret ?_
    refine JX_inv_ret ?_
    refine JX_block_ret ?_
    refine JX_seq_ret ?_
    refine JX_ret Tryd.results40 (Res.tmp rfl (Res.tmp rfl Res.nil)) (fun w1 hw1 => ?_)
    exact ⟨(by rw [(((((hF.f hq1).f hq2).f hq3).t hq4)).eq] <;> first | rfl | (simp only [List.length_set] <;> rfl)), hw1.ext_out⟩
  refine J_skip ?_
  refine JX_seq ?_
  refine J_seq ?_
  refine J_reg ?_
  refine JL_q (q_move) (k := ?_)
  refine JL_q (q_mul) (k := ?_)
  refine JL_q (q_move) (k := ?_)
  refine JL_q (q_add) (k := ?_)
  refine JL_q (q_assign) (k := ?_)
  refine JL_nil ?_
  refine JX_seq ?_
  refine J_reg ?_
  refine JL_q (q_move) (k := ?_)
  refine JL_q (q_assign) (k := ?_)
  refine JL_nil ?_
  refine JX_block ?_
  refine JX_seq ?_
  refine J_reg ?_
  refine JL_q (q_move) (k := ?_)
  refine JL_q (q_add) (k := ?_)
  refine JL_q (q_assign) (k := ?_)
  refine JL_nil ?_
  refine JX_again ?_
  refine J_seq ?_
  refine J_seq ?_
  refine J_reg ?_
  refine JL_q (q_move) (k := ?_)
  refine JL_q (q_lss) (k := ?_)
  refine JL_nil ?_
  refine JX_seq ?_
  refine J_true rfl ?_
  refine J_skip ?_
  refine JX_seq ?_
  refine J_seq ?_
  refine J_block ?_
  refine J_seq ?_
  refine J_reg ?_
  refine JL_q (q_move) (k := ?_)
  refine JL_v (args := [(Value.string (bs ((rCut ((rCut s 46).2.1) 46).2.1))), (Value.int .u8 (46))]) (c_callA Tryd.call29) (fun w1 hw1 => rCut_ok w1 (s := ((rCut ((rCut s 46).2.1) 46).2.1)) (c := 46) (n_s := by first | omega | (simp only [List.length_append, List.length_take, List.length_drop, List.length_set, List.length_replicate, List.length_cons, List.length_nil, List.length_map]; omega) | (simp only [List.length_append, List.length_take, List.length_drop, List.length_set, List.length_replicate, List.length_cons, List.length_nil, List.length_map] at *; omega) | decide)) (k := ?_)
  have hct_9025 := rCut_len ((rCut ((rCut s 46).2.1) 46).2.1) 46
  refine JL_q (q_move) (k := ?_)
  refine JL_q (q_ext) (k := ?_)
  refine JL_q (q_ext) (k := ?_)
  refine JL_q (q_ext) (k := ?_)
  refine JL_q (q_assign) (k := ?_)
  refine JL_q (q_assign) (k := ?_)
  refine JL_q (q_assign) (k := ?_)
  refine JL_nil ?_
  refine JX_seq ?_
  refine J_seq ?_
  refine J_reg ?_
  refine JL_q (q_move) (k := ?_)
  refine JL_v (args := [(Value.string (bs ((rCut ((rCut ((rCut s 46).2.1) 46).2.1) 46).1))), (Value.int .i64 (255))]) (c_callA Tryd.call30) (fun w1 hw1 => rNumber_ok w1 (s := ((rCut ((rCut ((rCut s 46).2.1) 46).2.1) 46).1)) (most := 255) (n_s := by first | omega | (simp only [List.length_append, List.length_take, List.length_drop, List.length_set, List.length_replicate, List.length_cons, List.length_nil, List.length_map]; omega) | (simp only [List.length_append, List.length_take, List.length_drop, List.length_set, List.length_replicate, List.length_cons, List.length_nil, List.length_map] at *; omega) | decide) (hm := by first | omega | (simp only [List.length_append, List.length_take, List.length_drop, List.length_set, List.length_replicate, List.length_cons, List.length_nil, List.length_map]; omega) | (simp only [List.length_append, List.length_take, List.length_drop, List.length_set, List.length_replicate, List.length_cons, List.length_nil, List.length_map] at *; omega) | decide)) (k := ?_)
  refine JL_q (q_move) (k := ?_)
  refine JL_q (q_ext) (k := ?_)
  refine JL_q (q_ext) (k := ?_)
  refine JL_q (q_assign) (k := ?_)
  refine JL_q (q_assign) (k := ?_)
  refine JL_nil ?_
  refine JX_seq ?_
  refine J_seq ?_
  refine J_seq ?_
  refine J_reg ?_
  refine JL_q (q_move) (k := ?_)
  refine JL_q (q_not) (k := ?_)
  refine JL_q (q_move) (k := ?_)
  refine JL_bool 28 rfl (fun hq5 => ?_) (fun hq5 => ?_)
  · refine JL_skips 4 rfl ?_
    refine JL_q (q_pickT) (k := ?_)
    refine JL_nil ?_
    refine JX_seq ?_
    refine J_true rfl ?_
    refine J_seq ?_
    refine J_reg ?_
    refine JL_q (q_assign) (k := ?_)
    refine JL_q (q_assign) (k := ?_)
    refine JL_nil ?_
    refine JX_seq ?_
    refine J_ret ?_
    refine JX_seq_ret ?_
    refine JX_block_ret ?_
    refine JX_seq_ret ?_
    refine JX_inv_ret ?_
    refine JX_block_ret ?_
    refine JX_seq_ret ?_
    refine JX_ret Tryd.results40 (Res.tmp rfl (Res.tmp rfl Res.nil)) (fun w1 hw1 => ?_)
    exact ⟨(by rw [((((((hF.f hq1).f hq2).f hq3).f hq4).t hq5)).eq] <;> first | rfl | (simp only [List.length_set] <;> rfl)), hw1.ext_out⟩
  have hfhq5 := rNumber_bd (by simpa using hq5)
  refine JL_qg (q_move) (k := ?_)
  refine JL_qg (q_move) (k := ?_)
  refine JL_qg (q_lss) (k := ?_)
  refine JL_qg (q_neqB Tryd.runUnderlying4) (k := ?_)
  refine JL_q (q_pickF) (k := ?_)
  refine JL_nil ?_
  refine JX_seq ?_
  refine J_cond rfl (fun hq6 => ?_) (fun hq6 => ?_)
  · refine J_seq ?_
    refine J_reg ?_
    refine JL_q (q_assign) (k := ?_)
    refine JL_q (q_assign) (k := ?_)
    refine JL_nil ?_
    refine JX_seq ?_
    refine J_ret ?_
    refine JX_seq_ret ?_
    refine JX_block_ret ?_
    refine JX_seq_ret ?_
    refine JX_inv_ret ?_
    refine JX_block_ret ?_
    refine JX_seq_ret ?_
    refine JX_ret Tryd.results40 (Res.tmp rfl (Res.tmp rfl Res.nil)) (fun w1 hw1 => ?_)
    exact ⟨(by rw [(((((((hF.f hq1).f hq2).f hq3).f hq4).f hq5).t hq6)).eq] <;> first | rfl | (simp only [List.length_set] <;> rfl)), hw1.ext_out⟩
  refine J_skip ?_
  refine JX_seq ?_
  refine J_seq ?_
  refine J_reg ?_
  refine JL_q (q_move) (k := ?_)
  refine JL_q (q_mul) (k := ?_)
  refine JL_q (q_move) (k := ?_)
  refine JL_q (q_add) (k := ?_)
  refine JL_q (q_assign) (k := ?_)
  refine JL_nil ?_
  refine JX_seq ?_
  refine J_reg ?_
  refine JL_q (q_move) (k := ?_)
  refine JL_q (q_assign) (k := ?_)
  refine JL_nil ?_
  refine JX_block ?_
  refine JX_seq ?_
  refine J_reg ?_
  refine JL_q (q_move) (k := ?_)
  refine JL_q (q_add) (k := ?_)
  refine JL_q (q_assign) (k := ?_)
  refine JL_nil ?_
  refine JX_again ?_
  refine J_seq ?_
  refine J_seq ?_
  refine J_reg ?_
  refine JL_q (q_move) (k := ?_)
  refine JL_q (q_lss) (k := ?_)
  refine JL_nil ?_
  refine JX_seq ?_
  refine J_true rfl ?_
  refine J_skip ?_
  refine JX_seq ?_
  refine J_seq ?_
  refine J_block ?_
  refine J_seq ?_
  refine J_reg ?_
  refine JL_q (q_move) (k := ?_)
  refine JL_v (args := [(Value.string (bs ((rCut ((rCut ((rCut s 46).2.1) 46).2.1) 46).2.1))), (Value.int .u8 (46))]) (c_callA Tryd.call29) (fun w1 hw1 => rCut_ok w1 (s := ((rCut ((rCut ((rCut s 46).2.1) 46).2.1) 46).2.1)) (c := 46) (n_s := by first | omega | (simp only [List.length_append, List.length_take, List.length_drop, List.length_set, List.length_replicate, List.length_cons, List.length_nil, List.length_map]; omega) | (simp only [List.length_append, List.length_take, List.length_drop, List.length_set, List.length_replicate, List.length_cons, List.length_nil, List.length_map] at *; omega) | decide)) (k := ?_)
  have hct_87653 := rCut_len ((rCut ((rCut ((rCut s 46).2.1) 46).2.1) 46).2.1) 46
  refine JL_q (q_move) (k := ?_)
  refine JL_q (q_ext) (k := ?_)
  refine JL_q (q_ext) (k := ?_)
  refine JL_q (q_ext) (k := ?_)
  refine JL_q (q_assign) (k := ?_)
  refine JL_q (q_assign) (k := ?_)
  refine JL_q (q_assign) (k := ?_)
  refine JL_nil ?_
  refine JX_seq ?_
  refine J_seq ?_
  refine J_reg ?_
  refine JL_q (q_move) (k := ?_)
  refine JL_v (args := [(Value.string (bs ((rCut ((rCut ((rCut ((rCut s 46).2.1) 46).2.1) 46).2.1) 46).1))), (Value.int .i64 (255))]) (c_callA Tryd.call30) (fun w1 hw1 => rNumber_ok w1 (s := ((rCut ((rCut ((rCut ((rCut s 46).2.1) 46).2.1) 46).2.1) 46).1)) (most := 255) (n_s := by first | omega | (simp only [List.length_append, List.length_take, List.length_drop, List.length_set, List.length_replicate, List.length_cons, List.length_nil, List.length_map]; omega) | (simp only [List.length_append, List.length_take, List.length_drop, List.length_set, List.length_replicate, List.length_cons, List.length_nil, List.length_map] at *; omega) | decide) (hm := by first | omega | (simp only [List.length_append, List.length_take, List.length_drop, List.length_set, List.length_replicate, List.length_cons, List.length_nil, List.length_map]; omega) | (simp only [List.length_append, List.length_take, List.length_drop, List.length_set, List.length_replicate, List.length_cons, List.length_nil, List.length_map] at *; omega) | decide)) (k := ?_)
  refine JL_q (q_move) (k := ?_)
  refine JL_q (q_ext) (k := ?_)
  refine JL_q (q_ext) (k := ?_)
  refine JL_q (q_assign) (k := ?_)
  refine JL_q (q_assign) (k := ?_)
  refine JL_nil ?_
  refine JX_seq ?_
  refine J_seq ?_
  refine J_seq ?_
  refine J_reg ?_
  refine JL_q (q_move) (k := ?_)
  refine JL_q (q_not) (k := ?_)
  refine JL_q (q_move) (k := ?_)
  refine JL_bool 28 rfl (fun hq7 => ?_) (fun hq7 => ?_)
  · refine JL_skips 4 rfl ?_
    refine JL_q (q_pickT) (k := ?_)
    refine JL_nil ?_
    refine JX_seq ?_
    refine J_true rfl ?_
    refine J_seq ?_
    refine J_reg ?_
    refine JL_q (q_assign) (k := ?_)
    refine JL_q (q_assign) (k := ?_)
    refine JL_nil ?_
    refine JX_seq ?_
    refine J_ret ?_
    refine JX_seq_ret ?_
    refine JX_block_ret ?_
    refine JX_seq_ret ?_
    refine JX_inv_ret ?_
    refine JX_block_ret ?_
    refine JX_seq_ret ?_
    refine JX_ret Tryd.results40 (Res.tmp rfl (Res.tmp rfl Res.nil)) (fun w1 hw1 => ?_)
    exact ⟨(by rw [((((((((hF.f hq1).f hq2).f hq3).f hq4).f hq5).f hq6).t hq7)).eq] <;> first | rfl | (simp only [List.length_set] <;> rfl)), hw1.ext_out⟩
  have hfhq7 := rNumber_bd (by simpa using hq7)
  refine JL_qg (q_move) (k := ?_)
  refine JL_qg (q_move) (k := ?_)
  refine JL_qg (q_lss) (k := ?_)
  refine JL_qg (q_neqB Tryd.runUnderlying4) (k := ?_)
  refine JL_q (q_pickF) (k := ?_)
  refine JL_nil ?_
  refine JX_seq ?_
  refine J_cond rfl (fun hq8 => ?_) (fun hq8 => ?_)
  · refine J_seq ?_
    refine J_reg ?_
    refine JL_q (q_assign) (k := ?_)
    refine JL_q (q_assign) (k := ?_)
    refine JL_nil ?_
    refine JX_seq ?_
    refine J_ret ?_
    refine JX_seq_ret ?_
    refine JX_block_ret ?_
    refine JX_seq_ret ?_
    refine JX_inv_ret ?_
    refine JX_block_ret ?_
    refine JX_seq_ret ?_
    refine JX_ret Tryd.results40 (Res.tmp rfl (Res.tmp rfl Res.nil)) (fun w1 hw1 => ?_)
    exact ⟨(by rw [(((((((((hF.f hq1).f hq2).f hq3).f hq4).f hq5).f hq6).f hq7).t hq8)).eq] <;> first | rfl | (simp only [List.length_set] <;> rfl)), hw1.ext_out⟩
  refine J_skip ?_
  refine JX_seq ?_
  refine J_seq ?_
  refine J_reg ?_
  refine JL_q (q_move) (k := ?_)
  refine JL_q (q_mul) (k := ?_)
  refine JL_q (q_move) (k := ?_)
  refine JL_q (q_add) (k := ?_)
  refine JL_q (q_assign) (k := ?_)
  refine JL_nil ?_
  refine JX_seq ?_
  refine J_reg ?_
  refine JL_q (q_move) (k := ?_)
  refine JL_q (q_assign) (k := ?_)
  refine JL_nil ?_
  refine JX_block ?_
  refine JX_seq ?_
  refine J_reg ?_
  refine JL_q (q_move) (k := ?_)
  refine JL_q (q_add) (k := ?_)
  refine JL_q (q_assign) (k := ?_)
  refine JL_nil ?_
  refine JX_again ?_
  refine J_seq ?_
  refine J_seq ?_
  refine J_reg ?_
  refine JL_q (q_move) (k := ?_)
  refine JL_q (q_lss) (k := ?_)
  refine JL_nil ?_
  refine JX_seq ?_
  refine J_false rfl ?_
  refine J_exit ?_
  refine JX_seq_exit ?_
  refine JX_inv_exit ?_
  refine JX_block_hit ?_
  refine JX_seq ?_
  refine J_seq ?_
  refine J_reg ?_
  refine JL_q (q_move) (k := ?_)
  refine JL_q (q_assign) (k := ?_)
  refine JL_q (q_assign) (k := ?_)
  refine JL_nil ?_
  refine JX_seq ?_
  refine J_ret ?_
  refine JX_ret Tryd.results40 (Res.tmp rfl (Res.tmp rfl Res.nil)) (fun w1 hw1 => ?_)
  exact ⟨(by rw [(((((((((hF.f hq1).f hq2).f hq3).f hq4).f hq5).f hq6).f hq7).f hq8)).eq] <;> first | rfl | (simp only [List.length_set] <;> rfl)), hw1.ext_out⟩

end Go.Proofs.YtnnafnjdngjkoaaDoor.Jd
