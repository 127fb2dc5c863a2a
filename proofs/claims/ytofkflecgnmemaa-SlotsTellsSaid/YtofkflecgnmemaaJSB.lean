/- Part of the proofs of this seat: walks and plain facts. No condition. -/
import Derived.Test.YtofkflecgnmemaaProg
import Derived.Test.YtofkflecgnmemaaJSA
namespace Go.Proofs.Ytofkflecgnmemaa.Jd
open Go.Proofs
open Go.RowKit (Below)
set_option maxRecDepth 100000
set_option linter.unusedVariables false
set_option linter.unusedSimpArgs false
theorem FO_27_1 : FieldOff Try.prog 27 1 1 := fun r k w => by simp [Instr.fieldAt, Instr.sureAddr, fieldPlace, addr_add]
theorem EQH_27 (a0 b0 : Int) (a1 b1 : Int) (n : Nat) (w : World) : (Op.equalIn (n + 2) 27 (Value.agg [Value.int .i64 a0, Value.int .i64 a1].toArray) (Value.agg [Value.int .i64 b0, Value.int .i64 b1].toArray)).run Try.prog w = .ok (decide (a0 = b0 ∧ a1 = b1)) w := by
  rw [show n + 2 = (n + 1) + 1 from rfl]
  unfold Op.equalIn
  simp [part, run_eqI (P := Try.prog) (t := 3) n .i64 _ _ Try.runUnderlying3]
  by_cases h0 : a0 = b0 <;> by_cases h1 : a1 = b1 <;> simp_all
theorem EQ_27 (x y : Operand) (a0 b0 : Int) (a1 b1 : Int) (w : World) : (do eqGuard .eql 27 x y (Value.agg [Value.int .i64 a0, Value.int .i64 a1].toArray) (Value.agg [Value.int .i64 b0, Value.int .i64 b1].toArray); binOp .eql 27 (Value.agg [Value.int .i64 a0, Value.int .i64 a1].toArray) (Value.agg [Value.int .i64 b0, Value.int .i64 b1].toArray) : Sem Value).run Try.prog w = .ok (.bool (decide (a0 = b0 ∧ a1 = b1))) w := by
  have h2 : (binOp .eql 27 (Value.agg [Value.int .i64 a0, Value.int .i64 a1].toArray) (Value.agg [Value.int .i64 b0, Value.int .i64 b1].toArray)).run Try.prog w = .ok (.bool (decide (a0 = b0 ∧ a1 = b1))) w := by
    show (do pure (.bool (← Op.equal 27 _ _)) : Sem Value).run Try.prog w = _
    simp only [Sem.run_bind, Op.equal, Op.maxDepth, EQH_27 a0 b0 a1 b1 9998, Result.andThen_ok, Sem.run_pure]
  simp [eqGuard]
  simpa using h2
theorem NE_27 (x y : Operand) (a0 b0 : Int) (a1 b1 : Int) (w : World) : (do eqGuard .neq 27 x y (Value.agg [Value.int .i64 a0, Value.int .i64 a1].toArray) (Value.agg [Value.int .i64 b0, Value.int .i64 b1].toArray); binOp .neq 27 (Value.agg [Value.int .i64 a0, Value.int .i64 a1].toArray) (Value.agg [Value.int .i64 b0, Value.int .i64 b1].toArray) : Sem Value).run Try.prog w = .ok (.bool (decide (¬ (a0 = b0 ∧ a1 = b1)))) w := by
  have h2 : (binOp .neq 27 (Value.agg [Value.int .i64 a0, Value.int .i64 a1].toArray) (Value.agg [Value.int .i64 b0, Value.int .i64 b1].toArray)).run Try.prog w = .ok (.bool (decide (¬ (a0 = b0 ∧ a1 = b1)))) w := by
    show (do pure (.bool (!(← Op.equal 27 _ _))) : Sem Value).run Try.prog w = _
    simp only [Sem.run_bind, Op.equal, Op.maxDepth, EQH_27 a0 b0 a1 b1 9998, Result.andThen_ok, Sem.run_pure]
    congr 2
    simp
  simp [eqGuard]
  simpa using h2
theorem eqI_ok (w : World) {s1_a : Option Addr} {s1_c : Nat} {s2_a : Option Addr} {s2_c : Nat} {s1 : List Int} {s2 : List Int} (h_s1 : Sl w eI 1 s1_a s1) (n_s1 : s1.length ≤ 1000000) (h_s2 : Sl w eI 1 s2_a s2) (n_s2 : s2.length ≤ 1000000) : Val Try.prog 34 [(Value.slice (s1_a) (s1.length) (s1_c)), (Value.slice (s2_a) (s2.length) (s2_c))] w (Value.bool ((eqI s1 s2))) := by
  have hF := Is.refl (eqI s1 s2)
  refine enter Try.func34 Try.ntmps34 (h := ?_)
  refine J_seq ?_
  refine J_reg ?_
  refine JL_q (q_assign) (k := ?_)
  refine JL_nil ?_
  refine JX_seq ?_
  refine J_seq ?_
  refine J_seq ?_
  refine J_reg ?_
  refine JL_q (q_move) (k := ?_)
  refine JL_q (q_lenS Try.runUnderlying22) (k := ?_)
  refine JL_q (q_move) (k := ?_)
  refine JL_q (q_lenS Try.runUnderlying22) (k := ?_)
  refine JL_q (q_neq) (k := ?_)
  refine JL_nil ?_
  refine JX_seq ?_
  refine J_dec rfl (fun hq1 => ?_) (fun hq1 => ?_)
  · refine J_seq ?_
    refine J_reg ?_
    refine JL_q (q_assign) (k := ?_)
    refine JL_nil ?_
    refine JX_seq ?_
    refine J_ret ?_
    refine JX_seq_ret ?_
    refine JX_ret Try.results34 (Res.tmp rfl Res.nil) (fun w1 hw1 => ?_)
    exact ⟨(by rw [((hF.pos hq1)).eq] <;> first | rfl | (simp only [List.length_set] <;> rfl)), hw1.ext_out⟩
  refine J_skip ?_
  refine JX_seq ?_
  refine J_seq ?_
  refine J_seq ?_
  refine J_reg ?_
  refine JL_q (q_move) (k := ?_)
  refine JL_q (q_lenS Try.runUnderlying22) (k := ?_)
  refine JL_q (q_move) (k := ?_)
  refine JL_nil ?_
  refine JX_seq ?_
  refine J_block ?_
  refine J_loop2 (σ1 := Nat) (σ2 := Nat) (fun n_2 x_1 => []) (fun n_2 x_1 => [(0, (Value.slice (s1_a) (s1.length) (s1_c))), (1, (Value.slice (s2_a) (s2.length) (s2_c))), (4, (Value.bool (false))), (12, (Value.int .i64 (((s1.length : Nat) : Int)))), (13, (Value.int .i64 (((x_1 : Nat) : Int))))]) (fun n_2 x_1 => s1.length - x_1 < n_2 ∧ Is (eqI_l0 s1 s2 (s1.length + 1) 0) (eqI_l0 s1 s2 n_2 x_1) ∧ x_1 ≤ s1.length) (fun n_2 x_1 => n_2) (s1.length + 1) 0 ?_ (by repeat (first | exact SubE.nil | refine SubE.cons rfl ?_)) (List.Perm.refl _) ?_
  · exact ⟨Nat.lt_succ_self _, Is.refl _, (by omega)⟩
  · rintro (_ | n_2) x_1 ⟨hm4, hF3, hi5⟩
    · omega
    refine J_seq ?_
    refine J_reg ?_
    refine JL_q (q_lss) (k := ?_)
    refine JL_nil ?_
    refine JX_seq ?_
    refine J_seq ?_
    refine J_dec rfl (fun hq2 => ?_) (fun hq2 => ?_)
    rotate_left
    · refine J_exit ?_
      refine JX_seq_exit ?_
      refine JX_inv_exit ?_
      refine JX_block_hit ?_
      refine JX_seq ?_
      refine J_seq ?_
      refine J_reg ?_
      refine JL_q (q_assign) (k := ?_)
      refine JL_nil ?_
      refine JX_seq ?_
      refine J_ret ?_
      refine JX_ret Try.results34 (Res.tmp rfl Res.nil) (fun w1 hw1 => ?_)
      exact ⟨(by rw [(((hF.neg hq1).ok1 (hF3.neg hq2))).eq] <;> first | rfl | (simp only [List.length_set] <;> rfl)), hw1.ext_out⟩
    refine J_skip ?_
    refine JX_seq ?_
    refine J_seq ?_
    refine J_block ?_
    refine J_seq ?_
    refine J_reg ?_
    refine JL_q (q_move) (k := ?_)
    refine JL_q (q_assign) (k := ?_)
    refine JL_nil ?_
    refine JX_seq ?_
    refine J_seq ?_
    refine J_plan mixed 9 [(true, 0), (true, 1), (true, 2), (true, 3), (true, 4), (true, 5), (true, 6), (true, 7), (true, 8)] (by kernel_rfl) ?_
    refine JD_q (q_move) (k := ?_)
    refine JD_q (q_move) (k := ?_)
    refine JD_q (q_idx (n := s1.length) Try.runUnderlying22 Try.sizeOf3 x_1 (SlJ.of_base h_s1) (gD (by first | omega | (simp only [List.length_set]; omega) | (simp only [List.length_append, List.length_take, List.length_drop, List.length_set, List.length_replicate, List.length_cons, List.length_nil, List.length_map]; omega))) (by first | rfl | simp)) (k := ?_)
    refine JD_q (q_loadE Try.isAgg3 x_1 0 (SlJ.of_base h_s1) (gD (by first | omega | (simp only [List.length_set]; omega) | (simp only [List.length_append, List.length_take, List.length_drop, List.length_set, List.length_replicate, List.length_cons, List.length_nil, List.length_map]; omega)))) (k := ?_)
    refine JD_q (q_move) (k := ?_)
    refine JD_q (q_move) (k := ?_)
    refine JD_q (q_idx (n := s2.length) Try.runUnderlying22 Try.sizeOf3 x_1 (SlJ.of_base h_s2) (gD (by first | omega | (simp only [List.length_set]; omega) | (simp only [List.length_append, List.length_take, List.length_drop, List.length_set, List.length_replicate, List.length_cons, List.length_nil, List.length_map]; omega))) (by first | rfl | simp)) (k := ?_)
    refine JD_q (q_loadE Try.isAgg3 x_1 0 (SlJ.of_base h_s2) (gD (by first | omega | (simp only [List.length_set]; omega) | (simp only [List.length_append, List.length_take, List.length_drop, List.length_set, List.length_replicate, List.length_cons, List.length_nil, List.length_map]; omega)))) (k := ?_)
    refine JD_q (q_neq) (k := ?_)
    refine JD_nil ?_
    refine JL_nil ?_
    refine JX_seq ?_
    refine J_dec rfl (fun hq3 => ?_) (fun hq3 => ?_)
    rotate_left
    · refine J_skip ?_
      refine JX_block ?_
      refine JX_seq ?_
      refine J_reg ?_
      refine JL_q (q_add) (k := ?_)
      refine JL_q (q_move) (k := ?_)
      refine JL_nil ?_
      exact JX_inv2 n_2 (x_1 + 1) ⟨by omega, ((hF3.pos hq2).neg hq3), (by omega)⟩ (Nat.lt_succ_self _) (by repeat (first | exact SubE.nil | refine SubE.cons rfl ?_)) (List.Perm.refl _)
    refine J_seq ?_
    refine J_reg ?_
    refine JL_q (q_assign) (k := ?_)
    refine JL_nil ?_
    refine JX_seq ?_
    refine J_ret ?_
    refine JX_block_ret ?_
    refine JX_seq_ret ?_
    refine JX_inv_ret ?_
    refine JX_block_ret ?_
    refine JX_seq_ret ?_
    refine JX_ret Try.results34 (Res.tmp rfl Res.nil) (fun w1 hw1 => ?_)
    exact ⟨(by rw [(((hF.neg hq1).er1 ((hF3.pos hq2).pos hq3))).eq] <;> first | rfl | (simp only [List.length_set] <;> rfl)), hw1.ext_out⟩

theorem eqB_ok (w : World) {s1_a : Option Addr} {s1_c : Nat} {s2_a : Option Addr} {s2_c : Nat} {s1 : List Bool} {s2 : List Bool} (h_s1 : Sl w eB 1 s1_a s1) (n_s1 : s1.length ≤ 1000000) (h_s2 : Sl w eB 1 s2_a s2) (n_s2 : s2.length ≤ 1000000) : Val Try.prog 35 [(Value.slice (s1_a) (s1.length) (s1_c)), (Value.slice (s2_a) (s2.length) (s2_c))] w (Value.bool ((eqB s1 s2))) := by
  have hF := Is.refl (eqB s1 s2)
  refine enter Try.func35 Try.ntmps35 (h := ?_)
  refine J_seq ?_
  refine J_reg ?_
  refine JL_q (q_assign) (k := ?_)
  refine JL_nil ?_
  refine JX_seq ?_
  refine J_seq ?_
  refine J_seq ?_
  refine J_reg ?_
  refine JL_q (q_move) (k := ?_)
  refine JL_q (q_lenS Try.runUnderlying23) (k := ?_)
  refine JL_q (q_move) (k := ?_)
  refine JL_q (q_lenS Try.runUnderlying23) (k := ?_)
  refine JL_q (q_neq) (k := ?_)
  refine JL_nil ?_
  refine JX_seq ?_
  refine J_dec rfl (fun hq1 => ?_) (fun hq1 => ?_)
  · refine J_seq ?_
    refine J_reg ?_
    refine JL_q (q_assign) (k := ?_)
    refine JL_nil ?_
    refine JX_seq ?_
    refine J_ret ?_
    refine JX_seq_ret ?_
    refine JX_ret Try.results35 (Res.tmp rfl Res.nil) (fun w1 hw1 => ?_)
    exact ⟨(by rw [((hF.pos hq1)).eq] <;> first | rfl | (simp only [List.length_set] <;> rfl)), hw1.ext_out⟩
  refine J_skip ?_
  refine JX_seq ?_
  refine J_seq ?_
  refine J_seq ?_
  refine J_reg ?_
  refine JL_q (q_move) (k := ?_)
  refine JL_q (q_lenS Try.runUnderlying23) (k := ?_)
  refine JL_q (q_move) (k := ?_)
  refine JL_nil ?_
  refine JX_seq ?_
  refine J_block ?_
  refine J_loop2 (σ1 := Nat) (σ2 := Nat) (fun n_2 x_1 => []) (fun n_2 x_1 => [(0, (Value.slice (s1_a) (s1.length) (s1_c))), (1, (Value.slice (s2_a) (s2.length) (s2_c))), (4, (Value.bool (false))), (12, (Value.int .i64 (((s1.length : Nat) : Int)))), (13, (Value.int .i64 (((x_1 : Nat) : Int))))]) (fun n_2 x_1 => s1.length - x_1 < n_2 ∧ Is (eqB_l0 s1 s2 (s1.length + 1) 0) (eqB_l0 s1 s2 n_2 x_1) ∧ x_1 ≤ s1.length) (fun n_2 x_1 => n_2) (s1.length + 1) 0 ?_ (by repeat (first | exact SubE.nil | refine SubE.cons rfl ?_)) (List.Perm.refl _) ?_
  · exact ⟨Nat.lt_succ_self _, Is.refl _, (by omega)⟩
  · rintro (_ | n_2) x_1 ⟨hm4, hF3, hi5⟩
    · omega
    refine J_seq ?_
    refine J_reg ?_
    refine JL_q (q_lss) (k := ?_)
    refine JL_nil ?_
    refine JX_seq ?_
    refine J_seq ?_
    refine J_dec rfl (fun hq2 => ?_) (fun hq2 => ?_)
    rotate_left
    · refine J_exit ?_
      refine JX_seq_exit ?_
      refine JX_inv_exit ?_
      refine JX_block_hit ?_
      refine JX_seq ?_
      refine J_seq ?_
      refine J_reg ?_
      refine JL_q (q_assign) (k := ?_)
      refine JL_nil ?_
      refine JX_seq ?_
      refine J_ret ?_
      refine JX_ret Try.results35 (Res.tmp rfl Res.nil) (fun w1 hw1 => ?_)
      exact ⟨(by rw [(((hF.neg hq1).ok1 (hF3.neg hq2))).eq] <;> first | rfl | (simp only [List.length_set] <;> rfl)), hw1.ext_out⟩
    refine J_skip ?_
    refine JX_seq ?_
    refine J_seq ?_
    refine J_block ?_
    refine J_seq ?_
    refine J_reg ?_
    refine JL_q (q_move) (k := ?_)
    refine JL_q (q_assign) (k := ?_)
    refine JL_nil ?_
    refine JX_seq ?_
    refine J_seq ?_
    refine J_plan mixed 9 [(true, 0), (true, 1), (true, 2), (true, 3), (true, 4), (true, 5), (true, 6), (true, 7), (true, 8)] (by kernel_rfl) ?_
    refine JD_q (q_move) (k := ?_)
    refine JD_q (q_move) (k := ?_)
    refine JD_q (q_idx (n := s1.length) Try.runUnderlying23 Try.sizeOf4 x_1 (SlJ.of_base h_s1) (gD (by first | omega | (simp only [List.length_set]; omega) | (simp only [List.length_append, List.length_take, List.length_drop, List.length_set, List.length_replicate, List.length_cons, List.length_nil, List.length_map]; omega))) (by first | rfl | simp)) (k := ?_)
    refine JD_q (q_loadE Try.isAgg4 x_1 0 (SlJ.of_base h_s1) (gD (by first | omega | (simp only [List.length_set]; omega) | (simp only [List.length_append, List.length_take, List.length_drop, List.length_set, List.length_replicate, List.length_cons, List.length_nil, List.length_map]; omega)))) (k := ?_)
    refine JD_q (q_move) (k := ?_)
    refine JD_q (q_move) (k := ?_)
    refine JD_q (q_idx (n := s2.length) Try.runUnderlying23 Try.sizeOf4 x_1 (SlJ.of_base h_s2) (gD (by first | omega | (simp only [List.length_set]; omega) | (simp only [List.length_append, List.length_take, List.length_drop, List.length_set, List.length_replicate, List.length_cons, List.length_nil, List.length_map]; omega))) (by first | rfl | simp)) (k := ?_)
    refine JD_q (q_loadE Try.isAgg4 x_1 0 (SlJ.of_base h_s2) (gD (by first | omega | (simp only [List.length_set]; omega) | (simp only [List.length_append, List.length_take, List.length_drop, List.length_set, List.length_replicate, List.length_cons, List.length_nil, List.length_map]; omega)))) (k := ?_)
    refine JD_q (q_neqB Try.runUnderlying4) (k := ?_)
    refine JD_nil ?_
    refine JL_nil ?_
    refine JX_seq ?_
    refine J_cond rfl (fun hq3 => ?_) (fun hq3 => ?_)
    rotate_left
    · refine J_skip ?_
      refine JX_block ?_
      refine JX_seq ?_
      refine J_reg ?_
      refine JL_q (q_add) (k := ?_)
      refine JL_q (q_move) (k := ?_)
      refine JL_nil ?_
      exact JX_inv2 n_2 (x_1 + 1) ⟨by omega, ((hF3.pos hq2).f hq3), (by omega)⟩ (Nat.lt_succ_self _) (by repeat (first | exact SubE.nil | refine SubE.cons rfl ?_)) (List.Perm.refl _)
    refine J_seq ?_
    refine J_reg ?_
    refine JL_q (q_assign) (k := ?_)
    refine JL_nil ?_
    refine JX_seq ?_
    refine J_ret ?_
    refine JX_block_ret ?_
    refine JX_seq_ret ?_
    refine JX_inv_ret ?_
    refine JX_block_ret ?_
    refine JX_seq_ret ?_
    refine JX_ret Try.results35 (Res.tmp rfl Res.nil) (fun w1 hw1 => ?_)
    exact ⟨(by rw [(((hF.neg hq1).er1 ((hF3.pos hq2).t hq3))).eq] <;> first | rfl | (simp only [List.length_set] <;> rfl)), hw1.ext_out⟩

theorem aSame_ok (w : World) {a_1_a : Option Addr} {a_1_c : Nat} {a_2_1_a : Option Addr} {a_2_1_c : Nat} {a_2_2_a : Option Addr} {a_2_2_c : Nat} {b_1_a : Option Addr} {b_1_c : Nat} {b_2_1_a : Option Addr} {b_2_1_c : Nat} {b_2_2_a : Option Addr} {b_2_2_c : Nat} {a : (List Int × List Bool × List Int)} {b : (List Int × List Bool × List Int)} (h_a_1 : Sl w eI 1 a_1_a a.1) (n_a_1 : a.1.length ≤ 1000000) (h_a_2_1 : Sl w eB 1 a_2_1_a a.2.1) (n_a_2_1 : a.2.1.length ≤ 1000000) (h_a_2_2 : Sl w eI 1 a_2_2_a a.2.2) (n_a_2_2 : a.2.2.length ≤ 1000000) (h_b_1 : Sl w eI 1 b_1_a b.1) (n_b_1 : b.1.length ≤ 1000000) (h_b_2_1 : Sl w eB 1 b_2_1_a b.2.1) (n_b_2_1 : b.2.1.length ≤ 1000000) (h_b_2_2 : Sl w eI 1 b_2_2_a b.2.2) (n_b_2_2 : b.2.2.length ≤ 1000000) : Val Try.prog 22 [(Value.agg [(Value.slice (a_1_a) (a.1.length) (a_1_c)), (Value.slice (a_2_1_a) (a.2.1.length) (a_2_1_c)), (Value.slice (a_2_2_a) (a.2.2.length) (a_2_2_c))].toArray), (Value.agg [(Value.slice (b_1_a) (b.1.length) (b_1_c)), (Value.slice (b_2_1_a) (b.2.1.length) (b_2_1_c)), (Value.slice (b_2_2_a) (b.2.2.length) (b_2_2_c))].toArray)] w (Value.bool ((aSame a b))) := by
  have hF := Is.refl (aSame a b)
  refine enter Try.func22 Try.ntmps22 (h := ?_)
  refine J_seq ?_
  refine J_reg ?_
  refine JL_a noMk (a_box (l := [_, _, _])) (k := fun r1 hr1 => ?_)
  refine JL_a noMk (a_box (l := [_, _, _])) (k := fun r2 hr2 => ?_)
  refine JL_q (q_assign) (k := ?_)
  refine JL_nil ?_
  refine JX_seq ?_
  refine J_seq ?_
  refine J_reg ?_
  refine JL_q (q_fld FO_25_0) (k := ?_)
  refine JL_q (q_load Try.isAgg22) (k := ?_)
  refine JL_q (q_fld FO_25_0) (k := ?_)
  refine JL_q (q_load Try.isAgg22) (k := ?_)
  refine JL_v (args := [(Value.slice (a_1_a) (a.1.length) (a_1_c)), (Value.slice (b_1_a) (b.1.length) (b_1_c))]) (c_callA Try.call34) (fun w1 hw1 => eqI_ok w1 (s1 := a.1) (s2 := b.1) (h_s1 := (SlJ.of_base h_a_1) w1 hw1) (n_s1 := by first | omega | (simp only [List.length_append, List.length_take, List.length_drop, List.length_set, List.length_replicate, List.length_cons, List.length_nil, List.length_map]; omega) | (simp only [List.length_append, List.length_take, List.length_drop, List.length_set, List.length_replicate, List.length_cons, List.length_nil, List.length_map] at *; omega) | decide) (h_s2 := (SlJ.of_base h_b_1) w1 hw1) (n_s2 := by first | omega | (simp only [List.length_append, List.length_take, List.length_drop, List.length_set, List.length_replicate, List.length_cons, List.length_nil, List.length_map]; omega) | (simp only [List.length_append, List.length_take, List.length_drop, List.length_set, List.length_replicate, List.length_cons, List.length_nil, List.length_map] at *; omega) | decide)) (k := ?_)
  refine JL_q (q_move) (k := ?_)
  refine JL_bool 10 rfl (fun hq1 => ?_) (fun hq1 => ?_)
  rotate_left
  · refine JL_skips 5 rfl ?_
    refine JL_q (q_pickF) (k := ?_)
    refine JL_q (q_move) (k := ?_)
    refine JL_skips 5 rfl ?_
    refine JL_q (q_pickF) (k := ?_)
    refine JL_q (q_assign) (k := ?_)
    refine JL_nil ?_
    refine JX_seq ?_
    refine J_ret ?_
    refine JX_ret Try.results22 (Res.tmp rfl Res.nil) (fun w1 hw1 => ?_)
    exact ⟨(by rw [((hF.f hq1)).eq] <;> first | rfl | (simp only [List.length_set] <;> rfl)), hw1.ext_out⟩
  refine JL_qg (q_fld FO_25_1) (k := ?_)
  refine JL_qg (q_load Try.isAgg23) (k := ?_)
  refine JL_qg (q_fld FO_25_1) (k := ?_)
  refine JL_qg (q_load Try.isAgg23) (k := ?_)
  refine JL_vg (args := [(Value.slice (a_2_1_a) (a.2.1.length) (a_2_1_c)), (Value.slice (b_2_1_a) (b.2.1.length) (b_2_1_c))]) (c_callA Try.call35) (fun w1 hw1 => eqB_ok w1 (s1 := a.2.1) (s2 := b.2.1) (h_s1 := (SlJ.of_base h_a_2_1) w1 hw1) (n_s1 := by first | omega | (simp only [List.length_append, List.length_take, List.length_drop, List.length_set, List.length_replicate, List.length_cons, List.length_nil, List.length_map]; omega) | (simp only [List.length_append, List.length_take, List.length_drop, List.length_set, List.length_replicate, List.length_cons, List.length_nil, List.length_map] at *; omega) | decide) (h_s2 := (SlJ.of_base h_b_2_1) w1 hw1) (n_s2 := by first | omega | (simp only [List.length_append, List.length_take, List.length_drop, List.length_set, List.length_replicate, List.length_cons, List.length_nil, List.length_map]; omega) | (simp only [List.length_append, List.length_take, List.length_drop, List.length_set, List.length_replicate, List.length_cons, List.length_nil, List.length_map] at *; omega) | decide)) (k := ?_)
  refine JL_q (q_pickT) (k := ?_)
  refine JL_q (q_move) (k := ?_)
  refine JL_bool 17 rfl (fun hq2 => ?_) (fun hq2 => ?_)
  rotate_left
  · refine JL_skips 5 rfl ?_
    refine JL_q (q_pickF) (k := ?_)
    refine JL_q (q_assign) (k := ?_)
    refine JL_nil ?_
    refine JX_seq ?_
    refine J_ret ?_
    refine JX_ret Try.results22 (Res.tmp rfl Res.nil) (fun w1 hw1 => ?_)
    exact ⟨(by rw [(((hF.t hq1).f hq2)).eq] <;> first | rfl | (simp only [List.length_set] <;> rfl)), hw1.ext_out⟩
  refine JL_qg (q_fld FO_25_2) (k := ?_)
  refine JL_qg (q_load Try.isAgg22) (k := ?_)
  refine JL_qg (q_fld FO_25_2) (k := ?_)
  refine JL_qg (q_load Try.isAgg22) (k := ?_)
  refine JL_vg (args := [(Value.slice (a_2_2_a) (a.2.2.length) (a_2_2_c)), (Value.slice (b_2_2_a) (b.2.2.length) (b_2_2_c))]) (c_callA Try.call34) (fun w1 hw1 => eqI_ok w1 (s1 := a.2.2) (s2 := b.2.2) (h_s1 := (SlJ.of_base h_a_2_2) w1 hw1) (n_s1 := by first | omega | (simp only [List.length_append, List.length_take, List.length_drop, List.length_set, List.length_replicate, List.length_cons, List.length_nil, List.length_map]; omega) | (simp only [List.length_append, List.length_take, List.length_drop, List.length_set, List.length_replicate, List.length_cons, List.length_nil, List.length_map] at *; omega) | decide) (h_s2 := (SlJ.of_base h_b_2_2) w1 hw1) (n_s2 := by first | omega | (simp only [List.length_append, List.length_take, List.length_drop, List.length_set, List.length_replicate, List.length_cons, List.length_nil, List.length_map]; omega) | (simp only [List.length_append, List.length_take, List.length_drop, List.length_set, List.length_replicate, List.length_cons, List.length_nil, List.length_map] at *; omega) | decide)) (k := ?_)
  refine JL_q (q_pickT) (k := ?_)
  refine JL_q (q_assign) (k := ?_)
  refine JL_nil ?_
  refine JX_seq ?_
  refine J_ret ?_
  refine JX_ret Try.results22 (Res.tmp rfl Res.nil) (fun w1 hw1 => ?_)
  exact ⟨(by rw [(((hF.t hq1).t hq2)).eq] <;> first | rfl | (simp only [List.length_set] <;> rfl)), hw1.ext_out⟩

theorem rRight_ok (w : World) {s_1_a : Option Addr} {s_1_c : Nat} {s_2_1_a : Option Addr} {s_2_1_c : Nat} {s_2_2_a : Option Addr} {s_2_2_c : Nat} {s : (List Int × List Bool × List Int)} (h_s_1 : Sl w eI 1 s_1_a s.1) (n_s_1 : s.1.length ≤ 1000000) (h_s_2_1 : Sl w eB 1 s_2_1_a s.2.1) (n_s_2_1 : s.2.1.length ≤ 1000000) (h_s_2_2 : Sl w eI 1 s_2_2_a s.2.2) (n_s_2_2 : s.2.2.length ≤ 1000000) : Val Try.prog 21 [(Value.agg [(Value.slice (s_1_a) (s.1.length) (s_1_c)), (Value.slice (s_2_1_a) (s.2.1.length) (s_2_1_c)), (Value.slice (s_2_2_a) (s.2.2.length) (s_2_2_c))].toArray)] w (Value.bool ((rRight s))) := by
  have hF := Is.refl (rRight s)
  refine enter Try.func21 Try.ntmps21 (h := ?_)
  refine J_seq ?_
  refine J_reg ?_
  refine JL_a noMk (a_box (l := [_, _, _])) (k := fun r1 hr1 => ?_)
  refine JL_q (q_assign) (k := ?_)
  refine JL_nil ?_
  refine JX_seq ?_
  refine J_seq ?_
  refine J_reg ?_
  refine JL_q (q_fld FO_25_0) (k := ?_)
  refine JL_q (q_load Try.isAgg22) (k := ?_)
  refine JL_q (q_lenS Try.runUnderlying22) (k := ?_)
  refine JL_q (q_assign) (k := ?_)
  refine JL_nil ?_
  refine JX_seq ?_
  refine J_seq ?_
  refine J_seq ?_
  refine J_reg ?_
  refine JL_q (q_move) (k := ?_)
  refine JL_q (q_lss) (k := ?_)
  refine JL_q (q_move) (k := ?_)
  refine JL_dec 13 rfl (fun hq1 => ?_) (fun hq1 => ?_)
  · refine JL_skips 2 rfl ?_
    refine JL_q (q_pickT) (k := ?_)
    refine JL_q (q_move) (k := ?_)
    refine JL_skips 5 rfl ?_
    refine JL_q (q_pickT) (k := ?_)
    refine JL_nil ?_
    refine JX_seq ?_
    refine J_true rfl ?_
    refine J_seq ?_
    refine J_reg ?_
    refine JL_q (q_assign) (k := ?_)
    refine JL_nil ?_
    refine JX_seq ?_
    refine J_ret ?_
    refine JX_seq_ret ?_
    refine JX_ret Try.results21 (Res.tmp rfl Res.nil) (fun w1 hw1 => ?_)
    exact ⟨(by rw [((hF.pos hq1)).eq] <;> first | rfl | (simp only [List.length_set] <;> rfl)), hw1.ext_out⟩
  refine JL_qg (q_move) (k := ?_)
  refine JL_qg (q_gtr) (k := ?_)
  refine JL_q (q_pickF) (k := ?_)
  refine JL_q (q_move) (k := ?_)
  refine JL_dec 17 rfl (fun hq2 => ?_) (fun hq2 => ?_)
  · refine JL_skips 5 rfl ?_
    refine JL_q (q_pickT) (k := ?_)
    refine JL_nil ?_
    refine JX_seq ?_
    refine J_true rfl ?_
    refine J_seq ?_
    refine J_reg ?_
    refine JL_q (q_assign) (k := ?_)
    refine JL_nil ?_
    refine JX_seq ?_
    refine J_ret ?_
    refine JX_seq_ret ?_
    refine JX_ret Try.results21 (Res.tmp rfl Res.nil) (fun w1 hw1 => ?_)
    exact ⟨(by rw [(((hF.neg hq1).pos hq2)).eq] <;> first | rfl | (simp only [List.length_set] <;> rfl)), hw1.ext_out⟩
  refine JL_qg (q_fld FO_25_1) (k := ?_)
  refine JL_qg (q_load Try.isAgg23) (k := ?_)
  refine JL_qg (q_lenS Try.runUnderlying23) (k := ?_)
  refine JL_qg (q_move) (k := ?_)
  refine JL_qg (q_neq) (k := ?_)
  refine JL_q (q_pickF) (k := ?_)
  refine JL_nil ?_
  refine JX_seq ?_
  refine J_dec rfl (fun hq3 => ?_) (fun hq3 => ?_)
  · refine J_seq ?_
    refine J_reg ?_
    refine JL_q (q_assign) (k := ?_)
    refine JL_nil ?_
    refine JX_seq ?_
    refine J_ret ?_
    refine JX_seq_ret ?_
    refine JX_ret Try.results21 (Res.tmp rfl Res.nil) (fun w1 hw1 => ?_)
    exact ⟨(by rw [((((hF.neg hq1).neg hq2).pos hq3)).eq] <;> first | rfl | (simp only [List.length_set] <;> rfl)), hw1.ext_out⟩
  refine J_skip ?_
  refine JX_seq ?_
  refine J_seq ?_
  refine J_reg ?_
  refine JL_q (q_assign) (k := ?_)
  refine JL_nil ?_
  refine JX_seq ?_
  refine J_seq ?_
  refine J_seq ?_
  refine J_reg ?_
  refine JL_q (q_assign) (k := ?_)
  refine JL_nil ?_
  refine JX_seq ?_
  refine J_block ?_
  refine J_loop3 (σ1 := Nat) (σ2 := Nat) (σ3 := Nat) (fun n_3 free_1 i_2 => ((r1, Obj.cells [(Value.slice (s_1_a) (s.1.length) (s_1_c)), (Value.slice (s_2_1_a) (s.2.1.length) (s_2_1_c)), (Value.slice (s_2_2_a) (s.2.2.length) (s_2_2_c))].toArray 25) :: [])) (fun n_3 free_1 i_2 => [(1, (Value.pointer (some ⟨r1, 0, none⟩))), (2, (Value.bool (false))), (3, (Value.int .i64 (((s.1.length : Nat) : Int)))), (4, (Value.int .i64 (((free_1 : Nat) : Int)))), (5, (Value.int .i64 (((i_2 : Nat) : Int))))]) (fun n_3 free_1 i_2 => s.1.length - i_2 < n_3 ∧ Is (rRight_l0 s (s.1.length + 1) 0 0) (rRight_l0 s n_3 free_1 i_2) ∧ free_1 ≤ i_2 ∧ i_2 ≤ s.1.length) (fun n_3 free_1 i_2 => n_3) (s.1.length + 1) 0 0 ?_ (by repeat (first | exact SubE.nil | refine SubE.cons rfl ?_)) (List.Perm.refl _) ?_
  · exact ⟨Nat.lt_succ_self _, Is.refl _, (by omega), (by omega)⟩
  · rintro (_ | n_3) free_1 i_2 ⟨hm5, hF4, hi6, hi7⟩
    · omega
    refine J_seq ?_
    refine J_seq ?_
    refine J_reg ?_
    refine JL_q (q_move) (k := ?_)
    refine JL_q (q_move) (k := ?_)
    refine JL_q (q_lss) (k := ?_)
    refine JL_nil ?_
    refine JX_seq ?_
    refine J_dec rfl (fun hq4 => ?_) (fun hq4 => ?_)
    · refine J_skip ?_
      refine JX_seq ?_
      refine J_seq ?_
      refine J_block ?_
      refine J_seq ?_
      refine J_seq ?_
      refine J_reg ?_
      refine JL_q (q_fld FO_25_0) (k := ?_)
      refine JL_q (q_load Try.isAgg22) (k := ?_)
      refine JL_q (q_move) (k := ?_)
      refine JL_q (q_idx (n := s.1.length) Try.runUnderlying22 Try.sizeOf3 i_2 (SlJ.of_base h_s_1) (gD (by first | omega | (simp only [List.length_set]; omega) | (simp only [List.length_append, List.length_take, List.length_drop, List.length_set, List.length_replicate, List.length_cons, List.length_nil, List.length_map]; omega))) (by first | rfl | simp)) (k := ?_)
      refine JL_q (q_loadE Try.isAgg3 i_2 0 (SlJ.of_base h_s_1) (gD (by first | omega | (simp only [List.length_set]; omega) | (simp only [List.length_append, List.length_take, List.length_drop, List.length_set, List.length_replicate, List.length_cons, List.length_nil, List.length_map]; omega)))) (k := ?_)
      refine JL_q (q_lss) (k := ?_)
      refine JL_q (q_move) (k := ?_)
      refine JL_dec 35 rfl (fun hq5 => ?_) (fun hq5 => ?_)
      · refine JL_skips 6 rfl ?_
        refine JL_q (q_pickT) (k := ?_)
        refine JL_nil ?_
        refine JX_seq ?_
        refine J_true rfl ?_
        refine J_seq ?_
        refine J_reg ?_
        refine JL_q (q_assign) (k := ?_)
        refine JL_nil ?_
        refine JX_seq ?_
        refine J_ret ?_
        refine JX_seq_ret ?_
        refine JX_block_ret ?_
        refine JX_seq_ret ?_
        refine JX_inv_ret ?_
        refine JX_block_ret ?_
        refine JX_seq_ret ?_
        refine JX_ret Try.results21 (Res.tmp rfl Res.nil) (fun w1 hw1 => ?_)
        exact ⟨(by rw [(((((hF.neg hq1).neg hq2).neg hq3).er2 ((hF4.pos hq4).pos hq5))).eq] <;> first | rfl | (simp only [List.length_set] <;> rfl)), hw1.ext_out⟩
      refine JL_qg (q_fld FO_25_0) (k := ?_)
      refine JL_qg (q_load Try.isAgg22) (k := ?_)
      refine JL_qg (q_move) (k := ?_)
      refine JL_qg (q_idx (n := s.1.length) Try.runUnderlying22 Try.sizeOf3 i_2 (SlJ.of_base h_s_1) (gD (by first | omega | (simp only [List.length_set]; omega) | (simp only [List.length_append, List.length_take, List.length_drop, List.length_set, List.length_replicate, List.length_cons, List.length_nil, List.length_map]; omega))) (by first | rfl | simp)) (k := ?_)
      refine JL_qg (q_loadE Try.isAgg3 i_2 0 (SlJ.of_base h_s_1) (gD (by first | omega | (simp only [List.length_set]; omega) | (simp only [List.length_append, List.length_take, List.length_drop, List.length_set, List.length_replicate, List.length_cons, List.length_nil, List.length_map]; omega)))) (k := ?_)
      refine JL_qg (q_gtr) (k := ?_)
      refine JL_q (q_pickF) (k := ?_)
      refine JL_nil ?_
      refine JX_seq ?_
      refine J_dec rfl (fun hq6 => ?_) (fun hq6 => ?_)
      · refine J_seq ?_
        refine J_reg ?_
        refine JL_q (q_assign) (k := ?_)
        refine JL_nil ?_
        refine JX_seq ?_
        refine J_ret ?_
        refine JX_seq_ret ?_
        refine JX_block_ret ?_
        refine JX_seq_ret ?_
        refine JX_inv_ret ?_
        refine JX_block_ret ?_
        refine JX_seq_ret ?_
        refine JX_ret Try.results21 (Res.tmp rfl Res.nil) (fun w1 hw1 => ?_)
        exact ⟨(by rw [(((((hF.neg hq1).neg hq2).neg hq3).er2 (((hF4.pos hq4).neg hq5).pos hq6))).eq] <;> first | rfl | (simp only [List.length_set] <;> rfl)), hw1.ext_out⟩
      refine J_skip ?_
      refine JX_seq ?_
      refine J_seq ?_
      refine J_reg ?_
      refine JL_q (q_fld FO_25_1) (k := ?_)
      refine JL_q (q_load Try.isAgg23) (k := ?_)
      refine JL_q (q_move) (k := ?_)
      refine JL_q (q_idx (n := s.2.1.length) Try.runUnderlying23 Try.sizeOf4 i_2 (SlJ.of_base h_s_2_1) (gD (by first | omega | (simp only [List.length_set]; omega) | (simp only [List.length_append, List.length_take, List.length_drop, List.length_set, List.length_replicate, List.length_cons, List.length_nil, List.length_map]; omega))) (by first | rfl | simp)) (k := ?_)
      refine JL_q (q_loadE Try.isAgg4 i_2 0 (SlJ.of_base h_s_2_1) (gD (by first | omega | (simp only [List.length_set]; omega) | (simp only [List.length_append, List.length_take, List.length_drop, List.length_set, List.length_replicate, List.length_cons, List.length_nil, List.length_map]; omega)))) (k := ?_)
      refine JL_q (q_not) (k := ?_)
      refine JL_nil ?_
      refine JX_seq ?_
      refine J_cond rfl (fun hq7 => ?_) (fun hq7 => ?_)
      rotate_left
      · refine J_skip ?_
        refine JX_block ?_
        refine JX_seq ?_
        refine J_reg ?_
        refine JL_q (q_move) (k := ?_)
        refine JL_q (q_add) (k := ?_)
        refine JL_q (q_assign) (k := ?_)
        refine JL_nil ?_
        exact JX_inv3 n_3 free_1 (i_2 + 1) ⟨by omega, ((((hF4.pos hq4).neg hq5).neg hq6).f hq7), (by omega), (by omega)⟩ (Nat.lt_succ_self _) (by repeat (first | exact SubE.nil | refine SubE.cons rfl ?_)) (List.Perm.refl _)
      refine J_reg ?_
      refine JL_q (q_move) (k := ?_)
      refine JL_q (q_add) (k := ?_)
      refine JL_q (q_assign) (k := ?_)
      refine JL_nil ?_
      refine JX_block ?_
      refine JX_seq ?_
      refine J_reg ?_
      refine JL_q (q_move) (k := ?_)
      refine JL_q (q_add) (k := ?_)
      refine JL_q (q_assign) (k := ?_)
      refine JL_nil ?_
      exact JX_inv3 n_3 (free_1 + 1) (i_2 + 1) ⟨by omega, ((((hF4.pos hq4).neg hq5).neg hq6).t hq7), (by omega), (by omega)⟩ (Nat.lt_succ_self _) (by repeat (first | exact SubE.nil | refine SubE.cons rfl ?_)) (List.Perm.refl _)
    refine J_exit ?_
    refine JX_seq_exit ?_
    refine JX_inv_exit ?_
    refine JX_block_hit ?_
    refine JX_seq ?_
    refine J_seq ?_
    refine J_seq ?_
    refine J_reg ?_
    refine JL_q (q_assign) (k := ?_)
    refine JL_nil ?_
    refine JX_seq ?_
    refine J_block ?_
    refine J_loop2 (σ1 := Nat) (σ2 := Nat) (fun n_9 i_8 => ((r1, Obj.cells [(Value.slice (s_1_a) (s.1.length) (s_1_c)), (Value.slice (s_2_1_a) (s.2.1.length) (s_2_1_c)), (Value.slice (s_2_2_a) (s.2.2.length) (s_2_2_c))].toArray 25) :: [])) (fun n_9 i_8 => [(1, (Value.pointer (some ⟨r1, 0, none⟩))), (2, (Value.bool (false))), (3, (Value.int .i64 (((s.1.length : Nat) : Int)))), (4, (Value.int .i64 (((free_1 : Nat) : Int)))), (6, (Value.int .i64 (((i_8 : Nat) : Int))))]) (fun n_9 i_8 => s.2.2.length - i_8 < n_9 ∧ Is (rRight_l1 s free_1 i_2 (s.2.2.length + 1) 0) (rRight_l1 s free_1 i_2 n_9 i_8) ∧ i_8 ≤ s.2.2.length) (fun n_9 i_8 => n_9) (s.2.2.length + 1) 0 ?_ (by repeat (first | exact SubE.nil | refine SubE.cons rfl ?_)) (List.Perm.refl _) ?_
    · exact ⟨Nat.lt_succ_self _, Is.refl _, (by omega)⟩
    · rintro (_ | n_9) i_8 ⟨hm11, hF10, hi12⟩
      · omega
      refine J_seq ?_
      refine J_seq ?_
      refine J_reg ?_
      refine JL_q (q_move) (k := ?_)
      refine JL_q (q_fld FO_25_2) (k := ?_)
      refine JL_q (q_load Try.isAgg22) (k := ?_)
      refine JL_q (q_lenS Try.runUnderlying22) (k := ?_)
      refine JL_q (q_lss) (k := ?_)
      refine JL_nil ?_
      refine JX_seq ?_
      refine J_dec rfl (fun hq8 => ?_) (fun hq8 => ?_)
      rotate_left
      · refine J_exit ?_
        refine JX_seq_exit ?_
        refine JX_inv_exit ?_
        refine JX_block_hit ?_
        refine JX_seq ?_
        refine J_seq ?_
        refine J_reg ?_
        refine JL_q (q_fld FO_25_2) (k := ?_)
        refine JL_q (q_load Try.isAgg22) (k := ?_)
        refine JL_q (q_lenS Try.runUnderlying22) (k := ?_)
        refine JL_q (q_move) (k := ?_)
        refine JL_q (q_eql) (k := ?_)
        refine JL_q (q_assign) (k := ?_)
        refine JL_nil ?_
        refine JX_seq ?_
        refine J_ret ?_
        refine JX_ret Try.results21 (Res.tmp rfl Res.nil) (fun w1 hw1 => ?_)
        exact ⟨(by rw [((((((hF.neg hq1).neg hq2).neg hq3).ok2 (hF4.neg hq4)).ok1 (hF10.neg hq8))).eq] <;> first | rfl | (simp only [List.length_set] <;> rfl)), hw1.ext_out⟩
      refine J_skip ?_
      refine JX_seq ?_
      refine J_seq ?_
      refine J_block ?_
      refine J_seq ?_
      refine J_seq ?_
      refine J_plan mixed 26 [(true, 0), (true, 1), (true, 2), (true, 3), (true, 4), (true, 5), (true, 6), (true, 7), (true, 8), (true, 9), (true, 10), (true, 11), (true, 12), (true, 13), (true, 14), (true, 15), (true, 16), (true, 17), (true, 18), (true, 19), (true, 20), (true, 21), (true, 22), (true, 23), (true, 24), (true, 25)] (by kernel_rfl) ?_
      refine JD_q (q_fld FO_25_2) (k := ?_)
      refine JD_q (q_load Try.isAgg22) (k := ?_)
      refine JD_q (q_move) (k := ?_)
      refine JD_q (q_idx (n := s.2.2.length) Try.runUnderlying22 Try.sizeOf3 i_8 (SlJ.of_base h_s_2_2) (gD (by first | omega | (simp only [List.length_set]; omega) | (simp only [List.length_append, List.length_take, List.length_drop, List.length_set, List.length_replicate, List.length_cons, List.length_nil, List.length_map]; omega))) (by first | rfl | simp)) (k := ?_)
      refine JD_q (q_loadE Try.isAgg3 i_8 0 (SlJ.of_base h_s_2_2) (gD (by first | omega | (simp only [List.length_set]; omega) | (simp only [List.length_append, List.length_take, List.length_drop, List.length_set, List.length_replicate, List.length_cons, List.length_nil, List.length_map]; omega)))) (k := ?_)
      refine JD_q (q_lss) (k := ?_)
      refine JD_q (q_move) (k := ?_)
      refine JD_dec 64 rfl (fun hq9 => ?_) (fun hq9 => ?_)
      · refine JD_skips 7 rfl ?_
        refine JD_q (q_pickT) (k := ?_)
        refine JD_q (q_move) (k := ?_)
        refine JD_skips 9 rfl ?_
        refine JD_q (q_pickT) (k := ?_)
        refine JD_nil ?_
        refine JL_nil ?_
        refine JX_seq ?_
        refine J_true rfl ?_
        refine J_seq ?_
        refine J_reg ?_
        refine JL_q (q_assign) (k := ?_)
        refine JL_nil ?_
        refine JX_seq ?_
        refine J_ret ?_
        refine JX_seq_ret ?_
        refine JX_block_ret ?_
        refine JX_seq_ret ?_
        refine JX_inv_ret ?_
        refine JX_block_ret ?_
        refine JX_seq_ret ?_
        refine JX_ret Try.results21 (Res.tmp rfl Res.nil) (fun w1 hw1 => ?_)
        exact ⟨(by rw [((((((hF.neg hq1).neg hq2).neg hq3).ok2 (hF4.neg hq4)).er1 ((hF10.pos hq8).pos hq9))).eq] <;> first | rfl | (simp only [List.length_set] <;> rfl)), hw1.ext_out⟩
      refine JD_qg (q_fld FO_25_2) (k := ?_)
      refine JD_qg (q_load Try.isAgg22) (k := ?_)
      refine JD_qg (q_move) (k := ?_)
      refine JD_qg (q_idx (n := s.2.2.length) Try.runUnderlying22 Try.sizeOf3 i_8 (SlJ.of_base h_s_2_2) (gD (by first | omega | (simp only [List.length_set]; omega) | (simp only [List.length_append, List.length_take, List.length_drop, List.length_set, List.length_replicate, List.length_cons, List.length_nil, List.length_map]; omega))) (by first | rfl | simp)) (k := ?_)
      refine JD_qg (q_loadE Try.isAgg3 i_8 0 (SlJ.of_base h_s_2_2) (gD (by first | omega | (simp only [List.length_set]; omega) | (simp only [List.length_append, List.length_take, List.length_drop, List.length_set, List.length_replicate, List.length_cons, List.length_nil, List.length_map]; omega)))) (k := ?_)
      refine JD_qg (q_move) (k := ?_)
      refine JD_qg (q_geq) (k := ?_)
      refine JD_q (q_pickF) (k := ?_)
      refine JD_q (q_move) (k := ?_)
      refine JD_dec 73 rfl (fun hq10 => ?_) (fun hq10 => ?_)
      · refine JD_skips 9 rfl ?_
        refine JD_q (q_pickT) (k := ?_)
        refine JD_nil ?_
        refine JL_nil ?_
        refine JX_seq ?_
        refine J_true rfl ?_
        refine J_seq ?_
        refine J_reg ?_
        refine JL_q (q_assign) (k := ?_)
        refine JL_nil ?_
        refine JX_seq ?_
        refine J_ret ?_
        refine JX_seq_ret ?_
        refine JX_block_ret ?_
        refine JX_seq_ret ?_
        refine JX_inv_ret ?_
        refine JX_block_ret ?_
        refine JX_seq_ret ?_
        refine JX_ret Try.results21 (Res.tmp rfl Res.nil) (fun w1 hw1 => ?_)
        exact ⟨(by rw [((((((hF.neg hq1).neg hq2).neg hq3).ok2 (hF4.neg hq4)).er1 (((hF10.pos hq8).neg hq9).pos hq10))).eq] <;> first | rfl | (simp only [List.length_set] <;> rfl)), hw1.ext_out⟩
      refine JD_qg (q_fld FO_25_1) (k := ?_)
      refine JD_qg (q_load Try.isAgg23) (k := ?_)
      refine JD_qg (q_fld FO_25_2) (k := ?_)
      refine JD_qg (q_load Try.isAgg22) (k := ?_)
      refine JD_qg (q_move) (k := ?_)
      refine JD_qg (q_idx (n := s.2.2.length) Try.runUnderlying22 Try.sizeOf3 i_8 (SlJ.of_base h_s_2_2) (gD (by first | omega | (simp only [List.length_set]; omega) | (simp only [List.length_append, List.length_take, List.length_drop, List.length_set, List.length_replicate, List.length_cons, List.length_nil, List.length_map]; omega))) (by first | rfl | simp)) (k := ?_)
      refine JD_qg (q_loadE Try.isAgg3 i_8 0 (SlJ.of_base h_s_2_2) (gD (by first | omega | (simp only [List.length_set]; omega) | (simp only [List.length_append, List.length_take, List.length_drop, List.length_set, List.length_replicate, List.length_cons, List.length_nil, List.length_map]; omega)))) (k := ?_)
      refine JD_qg (q_idx (n := s.2.1.length) Try.runUnderlying23 Try.sizeOf4 (((s.2.2.getD i_8 default)).toNat) (SlJ.of_base h_s_2_1) (gD (by first | omega | (simp only [List.length_set]; omega) | (simp only [List.length_append, List.length_take, List.length_drop, List.length_set, List.length_replicate, List.length_cons, List.length_nil, List.length_map]; omega))) (by first | rfl | simp)) (k := ?_)
      refine JD_qg (q_loadE Try.isAgg4 (((s.2.2.getD i_8 default)).toNat) 0 (SlJ.of_base h_s_2_1) (gD (by first | omega | (simp only [List.length_set]; omega) | (simp only [List.length_append, List.length_take, List.length_drop, List.length_set, List.length_replicate, List.length_cons, List.length_nil, List.length_map]; omega)))) (k := ?_)
      refine JD_q (q_pickF) (k := ?_)
      refine JD_nil ?_
      refine JL_nil ?_
      refine JX_seq ?_
      refine J_cond rfl (fun hq11 => ?_) (fun hq11 => ?_)
      · refine J_seq ?_
        refine J_reg ?_
        refine JL_q (q_assign) (k := ?_)
        refine JL_nil ?_
        refine JX_seq ?_
        refine J_ret ?_
        refine JX_seq_ret ?_
        refine JX_block_ret ?_
        refine JX_seq_ret ?_
        refine JX_inv_ret ?_
        refine JX_block_ret ?_
        refine JX_seq_ret ?_
        refine JX_ret Try.results21 (Res.tmp rfl Res.nil) (fun w1 hw1 => ?_)
        exact ⟨(by rw [((((((hF.neg hq1).neg hq2).neg hq3).ok2 (hF4.neg hq4)).er1 ((((hF10.pos hq8).neg hq9).neg hq10).t hq11))).eq] <;> first | rfl | (simp only [List.length_set] <;> rfl)), hw1.ext_out⟩
      refine J_skip ?_
      refine JX_seq ?_
      refine J_seq ?_
      refine J_reg ?_
      refine JL_q (q_assign) (k := ?_)
      refine JL_nil ?_
      refine JX_seq ?_
      refine J_block ?_
      refine J_loop2 (σ1 := Nat) (σ2 := Nat) (fun n_14 k_13 => ((r1, Obj.cells [(Value.slice (s_1_a) (s.1.length) (s_1_c)), (Value.slice (s_2_1_a) (s.2.1.length) (s_2_1_c)), (Value.slice (s_2_2_a) (s.2.2.length) (s_2_2_c))].toArray 25) :: [])) (fun n_14 k_13 => [(1, (Value.pointer (some ⟨r1, 0, none⟩))), (2, (Value.bool (false))), (3, (Value.int .i64 (((s.1.length : Nat) : Int)))), (4, (Value.int .i64 (((free_1 : Nat) : Int)))), (6, (Value.int .i64 (((i_8 : Nat) : Int)))), (7, (Value.int .i64 (((k_13 : Nat) : Int))))]) (fun n_14 k_13 => i_8 - k_13 < n_14 ∧ Is (rRight_l2 s free_1 i_2 i_8 (i_8 + 1) 0) (rRight_l2 s free_1 i_2 i_8 n_14 k_13) ∧ k_13 ≤ i_8) (fun n_14 k_13 => n_14) (i_8 + 1) 0 ?_ (by repeat (first | exact SubE.nil | refine SubE.cons rfl ?_)) (List.Perm.refl _) ?_
      · exact ⟨Nat.lt_succ_self _, Is.refl _, (by omega)⟩
      · rintro (_ | n_14) k_13 ⟨hm16, hF15, hi17⟩
        · omega
        refine J_seq ?_
        refine J_seq ?_
        refine J_reg ?_
        refine JL_q (q_move) (k := ?_)
        refine JL_q (q_move) (k := ?_)
        refine JL_q (q_lss) (k := ?_)
        refine JL_nil ?_
        refine JX_seq ?_
        refine J_dec rfl (fun hq12 => ?_) (fun hq12 => ?_)
        rotate_left
        · refine J_exit ?_
          refine JX_seq_exit ?_
          refine JX_inv_exit ?_
          refine JX_block_hit ?_
          refine JX_block ?_
          refine JX_seq ?_
          refine J_reg ?_
          refine JL_q (q_move) (k := ?_)
          refine JL_q (q_add) (k := ?_)
          refine JL_q (q_assign) (k := ?_)
          refine JL_nil ?_
          exact JX_inv2 n_9 (i_8 + 1) ⟨by omega, (((((hF10.pos hq8).neg hq9).neg hq10).f hq11).ok1 (hF15.neg hq12)), (by omega)⟩ (Nat.lt_succ_self _) (by repeat (first | exact SubE.nil | refine SubE.cons rfl ?_)) (List.Perm.refl _)
        refine J_skip ?_
        refine JX_seq ?_
        refine J_seq ?_
        refine J_block ?_
        refine J_seq ?_
        refine J_plan mixed 11 [(true, 0), (true, 1), (true, 2), (true, 3), (true, 4), (true, 5), (true, 6), (true, 7), (true, 8), (true, 9), (true, 10)] (by kernel_rfl) ?_
        refine JD_q (q_fld FO_25_2) (k := ?_)
        refine JD_q (q_load Try.isAgg22) (k := ?_)
        refine JD_q (q_move) (k := ?_)
        refine JD_q (q_idx (n := s.2.2.length) Try.runUnderlying22 Try.sizeOf3 k_13 (SlJ.of_base h_s_2_2) (gD (by first | omega | (simp only [List.length_set]; omega) | (simp only [List.length_append, List.length_take, List.length_drop, List.length_set, List.length_replicate, List.length_cons, List.length_nil, List.length_map]; omega))) (by first | rfl | simp)) (k := ?_)
        refine JD_q (q_loadE Try.isAgg3 k_13 0 (SlJ.of_base h_s_2_2) (gD (by first | omega | (simp only [List.length_set]; omega) | (simp only [List.length_append, List.length_take, List.length_drop, List.length_set, List.length_replicate, List.length_cons, List.length_nil, List.length_map]; omega)))) (k := ?_)
        refine JD_q (q_fld FO_25_2) (k := ?_)
        refine JD_q (q_load Try.isAgg22) (k := ?_)
        refine JD_q (q_move) (k := ?_)
        refine JD_q (q_idx (n := s.2.2.length) Try.runUnderlying22 Try.sizeOf3 i_8 (SlJ.of_base h_s_2_2) (gD (by first | omega | (simp only [List.length_set]; omega) | (simp only [List.length_append, List.length_take, List.length_drop, List.length_set, List.length_replicate, List.length_cons, List.length_nil, List.length_map]; omega))) (by first | rfl | simp)) (k := ?_)
        refine JD_q (q_loadE Try.isAgg3 i_8 0 (SlJ.of_base h_s_2_2) (gD (by first | omega | (simp only [List.length_set]; omega) | (simp only [List.length_append, List.length_take, List.length_drop, List.length_set, List.length_replicate, List.length_cons, List.length_nil, List.length_map]; omega)))) (k := ?_)
        refine JD_q (q_eql) (k := ?_)
        refine JD_nil ?_
        refine JL_nil ?_
        refine JX_seq ?_
        refine J_dec rfl (fun hq13 => ?_) (fun hq13 => ?_)
        rotate_left
        · refine J_skip ?_
          refine JX_block ?_
          refine JX_seq ?_
          refine J_reg ?_
          refine JL_q (q_move) (k := ?_)
          refine JL_q (q_add) (k := ?_)
          refine JL_q (q_assign) (k := ?_)
          refine JL_nil ?_
          exact JX_inv2 n_14 (k_13 + 1) ⟨by omega, ((hF15.pos hq12).neg hq13), (by omega)⟩ (Nat.lt_succ_self _) (by repeat (first | exact SubE.nil | refine SubE.cons rfl ?_)) (List.Perm.refl _)
        refine J_seq ?_
        refine J_reg ?_
        refine JL_q (q_assign) (k := ?_)
        refine JL_nil ?_
        refine JX_seq ?_
        refine J_ret ?_
        refine JX_block_ret ?_
        refine JX_seq_ret ?_
        refine JX_inv_ret ?_
        refine JX_block_ret ?_
        refine JX_block_ret ?_
        refine JX_seq_ret ?_
        refine JX_inv_ret ?_
        refine JX_block_ret ?_
        refine JX_seq_ret ?_
        refine JX_ret Try.results21 (Res.tmp rfl Res.nil) (fun w1 hw1 => ?_)
        exact ⟨(by rw [((((((hF.neg hq1).neg hq2).neg hq3).ok2 (hF4.neg hq4)).er1 (((((hF10.pos hq8).neg hq9).neg hq10).f hq11).er1 ((hF15.pos hq12).pos hq13)))).eq] <;> first | rfl | (simp only [List.length_set] <;> rfl)), hw1.ext_out⟩

theorem rInts_ok (w : World) {a_a : Option Addr} {a_c : Nat} {b_a : Option Addr} {b_c : Nat} {a : List Int} {b : List Int} (h_a : Sl w eI 1 a_a a) (n_a : a.length ≤ 1000000) (h_b : Sl w eI 1 b_a b) (n_b : b.length ≤ 1000000) : Val Try.prog 28 [(Value.slice (a_a) (a.length) (a_c)), (Value.slice (b_a) (b.length) (b_c))] w (Value.bool ((rInts a b))) := by
  have hF := Is.refl (rInts a b)
  refine enter Try.func28 Try.ntmps28 (h := ?_)
  refine J_seq ?_
  refine J_reg ?_
  refine JL_q (q_assign) (k := ?_)
  refine JL_nil ?_
  refine JX_seq ?_
  refine J_seq ?_
  refine J_seq ?_
  refine J_reg ?_
  refine JL_q (q_move) (k := ?_)
  refine JL_q (q_lenS Try.runUnderlying22) (k := ?_)
  refine JL_q (q_move) (k := ?_)
  refine JL_q (q_lenS Try.runUnderlying22) (k := ?_)
  refine JL_q (q_neq) (k := ?_)
  refine JL_nil ?_
  refine JX_seq ?_
  refine J_dec rfl (fun hq1 => ?_) (fun hq1 => ?_)
  · refine J_seq ?_
    refine J_reg ?_
    refine JL_q (q_assign) (k := ?_)
    refine JL_nil ?_
    refine JX_seq ?_
    refine J_ret ?_
    refine JX_seq_ret ?_
    refine JX_ret Try.results28 (Res.tmp rfl Res.nil) (fun w1 hw1 => ?_)
    exact ⟨(by rw [((hF.pos hq1)).eq] <;> first | rfl | (simp only [List.length_set] <;> rfl)), hw1.ext_out⟩
  refine J_skip ?_
  refine JX_seq ?_
  refine J_seq ?_
  refine J_seq ?_
  refine J_reg ?_
  refine JL_q (q_assign) (k := ?_)
  refine JL_nil ?_
  refine JX_seq ?_
  refine J_block ?_
  refine J_loop2 (σ1 := Nat) (σ2 := Nat) (fun n_2 i_1 => []) (fun n_2 i_1 => [(0, (Value.slice (a_a) (a.length) (a_c))), (1, (Value.slice (b_a) (b.length) (b_c))), (4, (Value.bool (false))), (5, (Value.int .i64 (((i_1 : Nat) : Int))))]) (fun n_2 i_1 => a.length - i_1 < n_2 ∧ Is (rInts_l0 a b (a.length + 1) 0) (rInts_l0 a b n_2 i_1) ∧ i_1 ≤ a.length) (fun n_2 i_1 => n_2) (a.length + 1) 0 ?_ (by repeat (first | exact SubE.nil | refine SubE.cons rfl ?_)) (List.Perm.refl _) ?_
  · exact ⟨Nat.lt_succ_self _, Is.refl _, (by omega)⟩
  · rintro (_ | n_2) i_1 ⟨hm4, hF3, hi5⟩
    · omega
    refine J_seq ?_
    refine J_seq ?_
    refine J_reg ?_
    refine JL_q (q_move) (k := ?_)
    refine JL_q (q_move) (k := ?_)
    refine JL_q (q_lenS Try.runUnderlying22) (k := ?_)
    refine JL_q (q_lss) (k := ?_)
    refine JL_nil ?_
    refine JX_seq ?_
    refine J_dec rfl (fun hq2 => ?_) (fun hq2 => ?_)
    rotate_left
    · refine J_exit ?_
      refine JX_seq_exit ?_
      refine JX_inv_exit ?_
      refine JX_block_hit ?_
      refine JX_seq ?_
      refine J_seq ?_
      refine J_reg ?_
      refine JL_q (q_assign) (k := ?_)
      refine JL_nil ?_
      refine JX_seq ?_
      refine J_ret ?_
      refine JX_ret Try.results28 (Res.tmp rfl Res.nil) (fun w1 hw1 => ?_)
      exact ⟨(by rw [(((hF.neg hq1).ok1 (hF3.neg hq2))).eq] <;> first | rfl | (simp only [List.length_set] <;> rfl)), hw1.ext_out⟩
    refine J_skip ?_
    refine JX_seq ?_
    refine J_seq ?_
    refine J_block ?_
    refine J_seq ?_
    refine J_plan mixed 9 [(true, 0), (true, 1), (true, 2), (true, 3), (true, 4), (true, 5), (true, 6), (true, 7), (true, 8)] (by kernel_rfl) ?_
    refine JD_q (q_move) (k := ?_)
    refine JD_q (q_move) (k := ?_)
    refine JD_q (q_idx (n := a.length) Try.runUnderlying22 Try.sizeOf3 i_1 (SlJ.of_base h_a) (gD (by first | omega | (simp only [List.length_set]; omega) | (simp only [List.length_append, List.length_take, List.length_drop, List.length_set, List.length_replicate, List.length_cons, List.length_nil, List.length_map]; omega))) (by first | rfl | simp)) (k := ?_)
    refine JD_q (q_loadE Try.isAgg3 i_1 0 (SlJ.of_base h_a) (gD (by first | omega | (simp only [List.length_set]; omega) | (simp only [List.length_append, List.length_take, List.length_drop, List.length_set, List.length_replicate, List.length_cons, List.length_nil, List.length_map]; omega)))) (k := ?_)
    refine JD_q (q_move) (k := ?_)
    refine JD_q (q_move) (k := ?_)
    refine JD_q (q_idx (n := b.length) Try.runUnderlying22 Try.sizeOf3 i_1 (SlJ.of_base h_b) (gD (by first | omega | (simp only [List.length_set]; omega) | (simp only [List.length_append, List.length_take, List.length_drop, List.length_set, List.length_replicate, List.length_cons, List.length_nil, List.length_map]; omega))) (by first | rfl | simp)) (k := ?_)
    refine JD_q (q_loadE Try.isAgg3 i_1 0 (SlJ.of_base h_b) (gD (by first | omega | (simp only [List.length_set]; omega) | (simp only [List.length_append, List.length_take, List.length_drop, List.length_set, List.length_replicate, List.length_cons, List.length_nil, List.length_map]; omega)))) (k := ?_)
    refine JD_q (q_neq) (k := ?_)
    refine JD_nil ?_
    refine JL_nil ?_
    refine JX_seq ?_
    refine J_dec rfl (fun hq3 => ?_) (fun hq3 => ?_)
    rotate_left
    · refine J_skip ?_
      refine JX_block ?_
      refine JX_seq ?_
      refine J_reg ?_
      refine JL_q (q_move) (k := ?_)
      refine JL_q (q_add) (k := ?_)
      refine JL_q (q_assign) (k := ?_)
      refine JL_nil ?_
      exact JX_inv2 n_2 (i_1 + 1) ⟨by omega, ((hF3.pos hq2).neg hq3), (by omega)⟩ (Nat.lt_succ_self _) (by repeat (first | exact SubE.nil | refine SubE.cons rfl ?_)) (List.Perm.refl _)
    refine J_seq ?_
    refine J_reg ?_
    refine JL_q (q_assign) (k := ?_)
    refine JL_nil ?_
    refine JX_seq ?_
    refine J_ret ?_
    refine JX_block_ret ?_
    refine JX_seq_ret ?_
    refine JX_inv_ret ?_
    refine JX_block_ret ?_
    refine JX_seq_ret ?_
    refine JX_ret Try.results28 (Res.tmp rfl Res.nil) (fun w1 hw1 => ?_)
    exact ⟨(by rw [(((hF.neg hq1).er1 ((hF3.pos hq2).pos hq3))).eq] <;> first | rfl | (simp only [List.length_set] <;> rfl)), hw1.ext_out⟩

theorem rSame_ok (w : World) {a_1_a : Option Addr} {a_1_c : Nat} {a_2_1_a : Option Addr} {a_2_1_c : Nat} {a_2_2_a : Option Addr} {a_2_2_c : Nat} {b_1_a : Option Addr} {b_1_c : Nat} {b_2_1_a : Option Addr} {b_2_1_c : Nat} {b_2_2_a : Option Addr} {b_2_2_c : Nat} {a : (List Int × List Bool × List Int)} {b : (List Int × List Bool × List Int)} (h_a_1 : Sl w eI 1 a_1_a a.1) (n_a_1 : a.1.length ≤ 1000000) (h_a_2_1 : Sl w eB 1 a_2_1_a a.2.1) (n_a_2_1 : a.2.1.length ≤ 1000000) (h_a_2_2 : Sl w eI 1 a_2_2_a a.2.2) (n_a_2_2 : a.2.2.length ≤ 1000000) (h_b_1 : Sl w eI 1 b_1_a b.1) (n_b_1 : b.1.length ≤ 1000000) (h_b_2_1 : Sl w eB 1 b_2_1_a b.2.1) (n_b_2_1 : b.2.1.length ≤ 1000000) (h_b_2_2 : Sl w eI 1 b_2_2_a b.2.2) (n_b_2_2 : b.2.2.length ≤ 1000000) : Val Try.prog 15 [(Value.agg [(Value.slice (a_1_a) (a.1.length) (a_1_c)), (Value.slice (a_2_1_a) (a.2.1.length) (a_2_1_c)), (Value.slice (a_2_2_a) (a.2.2.length) (a_2_2_c))].toArray), (Value.agg [(Value.slice (b_1_a) (b.1.length) (b_1_c)), (Value.slice (b_2_1_a) (b.2.1.length) (b_2_1_c)), (Value.slice (b_2_2_a) (b.2.2.length) (b_2_2_c))].toArray)] w (Value.bool ((rSame a b))) := by
  have hF := Is.refl (rSame a b)
  refine enter Try.func15 Try.ntmps15 (h := ?_)
  refine J_seq ?_
  refine J_reg ?_
  refine JL_a noMk (a_box (l := [_, _, _])) (k := fun r1 hr1 => ?_)
  refine JL_a noMk (a_box (l := [_, _, _])) (k := fun r2 hr2 => ?_)
  refine JL_q (q_assign) (k := ?_)
  refine JL_nil ?_
  refine JX_seq ?_
  refine J_seq ?_
  refine J_seq ?_
  refine J_reg ?_
  refine JL_q (q_fld FO_25_0) (k := ?_)
  refine JL_q (q_load Try.isAgg22) (k := ?_)
  refine JL_q (q_fld FO_25_0) (k := ?_)
  refine JL_q (q_load Try.isAgg22) (k := ?_)
  refine JL_v (args := [(Value.slice (a_1_a) (a.1.length) (a_1_c)), (Value.slice (b_1_a) (b.1.length) (b_1_c))]) (c_callA Try.call28) (fun w1 hw1 => rInts_ok w1 (a := a.1) (b := b.1) (h_a := (SlJ.of_base h_a_1) w1 hw1) (n_a := by first | omega | (simp only [List.length_append, List.length_take, List.length_drop, List.length_set, List.length_replicate, List.length_cons, List.length_nil, List.length_map]; omega) | (simp only [List.length_append, List.length_take, List.length_drop, List.length_set, List.length_replicate, List.length_cons, List.length_nil, List.length_map] at *; omega) | decide) (h_b := (SlJ.of_base h_b_1) w1 hw1) (n_b := by first | omega | (simp only [List.length_append, List.length_take, List.length_drop, List.length_set, List.length_replicate, List.length_cons, List.length_nil, List.length_map]; omega) | (simp only [List.length_append, List.length_take, List.length_drop, List.length_set, List.length_replicate, List.length_cons, List.length_nil, List.length_map] at *; omega) | decide)) (k := ?_)
  refine JL_q (q_not) (k := ?_)
  refine JL_q (q_move) (k := ?_)
  refine JL_bool 12 rfl (fun hq1 => ?_) (fun hq1 => ?_)
  · refine JL_skips 6 rfl ?_
    refine JL_q (q_pickT) (k := ?_)
    refine JL_q (q_move) (k := ?_)
    refine JL_skips 7 rfl ?_
    refine JL_q (q_pickT) (k := ?_)
    refine JL_nil ?_
    refine JX_seq ?_
    refine J_true rfl ?_
    refine J_seq ?_
    refine J_reg ?_
    refine JL_q (q_assign) (k := ?_)
    refine JL_nil ?_
    refine JX_seq ?_
    refine J_ret ?_
    refine JX_seq_ret ?_
    refine JX_ret Try.results15 (Res.tmp rfl Res.nil) (fun w1 hw1 => ?_)
    exact ⟨(by rw [((hF.t hq1)).eq] <;> first | rfl | (simp only [List.length_set] <;> rfl)), hw1.ext_out⟩
  refine JL_qg (q_fld FO_25_2) (k := ?_)
  refine JL_qg (q_load Try.isAgg22) (k := ?_)
  refine JL_qg (q_fld FO_25_2) (k := ?_)
  refine JL_qg (q_load Try.isAgg22) (k := ?_)
  refine JL_vg (args := [(Value.slice (a_2_2_a) (a.2.2.length) (a_2_2_c)), (Value.slice (b_2_2_a) (b.2.2.length) (b_2_2_c))]) (c_callA Try.call28) (fun w1 hw1 => rInts_ok w1 (a := a.2.2) (b := b.2.2) (h_a := (SlJ.of_base h_a_2_2) w1 hw1) (n_a := by first | omega | (simp only [List.length_append, List.length_take, List.length_drop, List.length_set, List.length_replicate, List.length_cons, List.length_nil, List.length_map]; omega) | (simp only [List.length_append, List.length_take, List.length_drop, List.length_set, List.length_replicate, List.length_cons, List.length_nil, List.length_map] at *; omega) | decide) (h_b := (SlJ.of_base h_b_2_2) w1 hw1) (n_b := by first | omega | (simp only [List.length_append, List.length_take, List.length_drop, List.length_set, List.length_replicate, List.length_cons, List.length_nil, List.length_map]; omega) | (simp only [List.length_append, List.length_take, List.length_drop, List.length_set, List.length_replicate, List.length_cons, List.length_nil, List.length_map] at *; omega) | decide)) (k := ?_)
  refine JL_qg (q_not) (k := ?_)
  refine JL_q (q_pickF) (k := ?_)
  refine JL_q (q_move) (k := ?_)
  refine JL_bool 20 rfl (fun hq2 => ?_) (fun hq2 => ?_)
  · refine JL_skips 7 rfl ?_
    refine JL_q (q_pickT) (k := ?_)
    refine JL_nil ?_
    refine JX_seq ?_
    refine J_true rfl ?_
    refine J_seq ?_
    refine J_reg ?_
    refine JL_q (q_assign) (k := ?_)
    refine JL_nil ?_
    refine JX_seq ?_
    refine J_ret ?_
    refine JX_seq_ret ?_
    refine JX_ret Try.results15 (Res.tmp rfl Res.nil) (fun w1 hw1 => ?_)
    exact ⟨(by rw [(((hF.f hq1).t hq2)).eq] <;> first | rfl | (simp only [List.length_set] <;> rfl)), hw1.ext_out⟩
  refine JL_qg (q_fld FO_25_1) (k := ?_)
  refine JL_qg (q_load Try.isAgg23) (k := ?_)
  refine JL_qg (q_lenS Try.runUnderlying23) (k := ?_)
  refine JL_qg (q_fld FO_25_1) (k := ?_)
  refine JL_qg (q_load Try.isAgg23) (k := ?_)
  refine JL_qg (q_lenS Try.runUnderlying23) (k := ?_)
  refine JL_qg (q_neq) (k := ?_)
  refine JL_q (q_pickF) (k := ?_)
  refine JL_nil ?_
  refine JX_seq ?_
  refine J_dec rfl (fun hq3 => ?_) (fun hq3 => ?_)
  · refine J_seq ?_
    refine J_reg ?_
    refine JL_q (q_assign) (k := ?_)
    refine JL_nil ?_
    refine JX_seq ?_
    refine J_ret ?_
    refine JX_seq_ret ?_
    refine JX_ret Try.results15 (Res.tmp rfl Res.nil) (fun w1 hw1 => ?_)
    exact ⟨(by rw [((((hF.f hq1).f hq2).pos hq3)).eq] <;> first | rfl | (simp only [List.length_set] <;> rfl)), hw1.ext_out⟩
  refine J_skip ?_
  refine JX_seq ?_
  refine J_seq ?_
  refine J_seq ?_
  refine J_reg ?_
  refine JL_q (q_assign) (k := ?_)
  refine JL_nil ?_
  refine JX_seq ?_
  refine J_block ?_
  refine J_loop2 (σ1 := Nat) (σ2 := Nat) (fun n_2 i_1 => ((r2, Obj.cells [(Value.slice (b_1_a) (b.1.length) (b_1_c)), (Value.slice (b_2_1_a) (b.2.1.length) (b_2_1_c)), (Value.slice (b_2_2_a) (b.2.2.length) (b_2_2_c))].toArray 25) :: ((r1, Obj.cells [(Value.slice (a_1_a) (a.1.length) (a_1_c)), (Value.slice (a_2_1_a) (a.2.1.length) (a_2_1_c)), (Value.slice (a_2_2_a) (a.2.2.length) (a_2_2_c))].toArray 25) :: []))) (fun n_2 i_1 => [(2, (Value.pointer (some ⟨r1, 0, none⟩))), (3, (Value.pointer (some ⟨r2, 0, none⟩))), (4, (Value.bool (false))), (5, (Value.int .i64 (((i_1 : Nat) : Int))))]) (fun n_2 i_1 => a.2.1.length - i_1 < n_2 ∧ Is (rSame_l0 a b (a.2.1.length + 1) 0) (rSame_l0 a b n_2 i_1) ∧ i_1 ≤ a.2.1.length) (fun n_2 i_1 => n_2) (a.2.1.length + 1) 0 ?_ (by repeat (first | exact SubE.nil | refine SubE.cons rfl ?_)) (List.Perm.refl _) ?_
  · exact ⟨Nat.lt_succ_self _, Is.refl _, (by omega)⟩
  · rintro (_ | n_2) i_1 ⟨hm4, hF3, hi5⟩
    · omega
    refine J_seq ?_
    refine J_seq ?_
    refine J_reg ?_
    refine JL_q (q_move) (k := ?_)
    refine JL_q (q_fld FO_25_1) (k := ?_)
    refine JL_q (q_load Try.isAgg23) (k := ?_)
    refine JL_q (q_lenS Try.runUnderlying23) (k := ?_)
    refine JL_q (q_lss) (k := ?_)
    refine JL_nil ?_
    refine JX_seq ?_
    refine J_dec rfl (fun hq4 => ?_) (fun hq4 => ?_)
    rotate_left
    · refine J_exit ?_
      refine JX_seq_exit ?_
      refine JX_inv_exit ?_
      refine JX_block_hit ?_
      refine JX_seq ?_
      refine J_seq ?_
      refine J_reg ?_
      refine JL_q (q_assign) (k := ?_)
      refine JL_nil ?_
      refine JX_seq ?_
      refine J_ret ?_
      refine JX_ret Try.results15 (Res.tmp rfl Res.nil) (fun w1 hw1 => ?_)
      exact ⟨(by rw [(((((hF.f hq1).f hq2).neg hq3).ok1 (hF3.neg hq4))).eq] <;> first | rfl | (simp only [List.length_set] <;> rfl)), hw1.ext_out⟩
    refine J_skip ?_
    refine JX_seq ?_
    refine J_seq ?_
    refine J_block ?_
    refine J_seq ?_
    refine J_plan mixed 11 [(true, 0), (true, 1), (true, 2), (true, 3), (true, 4), (true, 5), (true, 6), (true, 7), (true, 8), (true, 9), (true, 10)] (by kernel_rfl) ?_
    refine JD_q (q_fld FO_25_1) (k := ?_)
    refine JD_q (q_load Try.isAgg23) (k := ?_)
    refine JD_q (q_move) (k := ?_)
    refine JD_q (q_idx (n := a.2.1.length) Try.runUnderlying23 Try.sizeOf4 i_1 (SlJ.of_base h_a_2_1) (gD (by first | omega | (simp only [List.length_set]; omega) | (simp only [List.length_append, List.length_take, List.length_drop, List.length_set, List.length_replicate, List.length_cons, List.length_nil, List.length_map]; omega))) (by first | rfl | simp)) (k := ?_)
    refine JD_q (q_loadE Try.isAgg4 i_1 0 (SlJ.of_base h_a_2_1) (gD (by first | omega | (simp only [List.length_set]; omega) | (simp only [List.length_append, List.length_take, List.length_drop, List.length_set, List.length_replicate, List.length_cons, List.length_nil, List.length_map]; omega)))) (k := ?_)
    refine JD_q (q_fld FO_25_1) (k := ?_)
    refine JD_q (q_load Try.isAgg23) (k := ?_)
    refine JD_q (q_move) (k := ?_)
    refine JD_q (q_idx (n := b.2.1.length) Try.runUnderlying23 Try.sizeOf4 i_1 (SlJ.of_base h_b_2_1) (gD (by first | omega | (simp only [List.length_set]; omega) | (simp only [List.length_append, List.length_take, List.length_drop, List.length_set, List.length_replicate, List.length_cons, List.length_nil, List.length_map]; omega))) (by first | rfl | simp)) (k := ?_)
    refine JD_q (q_loadE Try.isAgg4 i_1 0 (SlJ.of_base h_b_2_1) (gD (by first | omega | (simp only [List.length_set]; omega) | (simp only [List.length_append, List.length_take, List.length_drop, List.length_set, List.length_replicate, List.length_cons, List.length_nil, List.length_map]; omega)))) (k := ?_)
    refine JD_q (q_neqB Try.runUnderlying4) (k := ?_)
    refine JD_nil ?_
    refine JL_nil ?_
    refine JX_seq ?_
    refine J_cond rfl (fun hq5 => ?_) (fun hq5 => ?_)
    rotate_left
    · refine J_skip ?_
      refine JX_block ?_
      refine JX_seq ?_
      refine J_reg ?_
      refine JL_q (q_move) (k := ?_)
      refine JL_q (q_add) (k := ?_)
      refine JL_q (q_assign) (k := ?_)
      refine JL_nil ?_
      exact JX_inv2 n_2 (i_1 + 1) ⟨by omega, ((hF3.pos hq4).f hq5), (by omega)⟩ (Nat.lt_succ_self _) (by repeat (first | exact SubE.nil | refine SubE.cons rfl ?_)) (List.Perm.refl _)
    refine J_seq ?_
    refine J_reg ?_
    refine JL_q (q_assign) (k := ?_)
    refine JL_nil ?_
    refine JX_seq ?_
    refine J_ret ?_
    refine JX_block_ret ?_
    refine JX_seq_ret ?_
    refine JX_inv_ret ?_
    refine JX_block_ret ?_
    refine JX_seq_ret ?_
    refine JX_ret Try.results15 (Res.tmp rfl Res.nil) (fun w1 hw1 => ?_)
    exact ⟨(by rw [(((((hF.f hq1).f hq2).neg hq3).er1 ((hF3.pos hq4).t hq5))).eq] <;> first | rfl | (simp only [List.length_set] <;> rfl)), hw1.ext_out⟩

theorem rHandles_ok (w : World) {a_a : Option Addr} {a_c : Nat} {b_a : Option Addr} {b_c : Nat} {a : List (Int × Int)} {b : List (Int × Int)} (h_a : Sl w eH 2 a_a a) (n_a : a.length ≤ 1000000) (h_b : Sl w eH 2 b_a b) (n_b : b.length ≤ 1000000) : Val Try.prog 24 [(Value.slice (a_a) (a.length) (a_c)), (Value.slice (b_a) (b.length) (b_c))] w (Value.bool ((rHandles a b))) := by
  have hF := Is.refl (rHandles a b)
  refine enter Try.func24 Try.ntmps24 (h := ?_)
  refine J_seq ?_
  refine J_reg ?_
  refine JL_q (q_assign) (k := ?_)
  refine JL_nil ?_
  refine JX_seq ?_
  refine J_seq ?_
  refine J_seq ?_
  refine J_reg ?_
  refine JL_q (q_move) (k := ?_)
  refine JL_q (q_lenS Try.runUnderlying38) (k := ?_)
  refine JL_q (q_move) (k := ?_)
  refine JL_q (q_lenS Try.runUnderlying38) (k := ?_)
  refine JL_q (q_neq) (k := ?_)
  refine JL_nil ?_
  refine JX_seq ?_
  refine J_dec rfl (fun hq1 => ?_) (fun hq1 => ?_)
  · refine J_seq ?_
    refine J_reg ?_
    refine JL_q (q_assign) (k := ?_)
    refine JL_nil ?_
    refine JX_seq ?_
    refine J_ret ?_
    refine JX_seq_ret ?_
    refine JX_ret Try.results24 (Res.tmp rfl Res.nil) (fun w1 hw1 => ?_)
    exact ⟨(by rw [((hF.pos hq1)).eq] <;> first | rfl | (simp only [List.length_set] <;> rfl)), hw1.ext_out⟩
  refine J_skip ?_
  refine JX_seq ?_
  refine J_seq ?_
  refine J_seq ?_
  refine J_reg ?_
  refine JL_q (q_assign) (k := ?_)
  refine JL_nil ?_
  refine JX_seq ?_
  refine J_block ?_
  refine J_loop2 (σ1 := Nat) (σ2 := Nat) (fun n_2 i_1 => []) (fun n_2 i_1 => [(0, (Value.slice (a_a) (a.length) (a_c))), (1, (Value.slice (b_a) (b.length) (b_c))), (4, (Value.bool (false))), (5, (Value.int .i64 (((i_1 : Nat) : Int))))]) (fun n_2 i_1 => a.length - i_1 < n_2 ∧ Is (rHandles_l0 a b (a.length + 1) 0) (rHandles_l0 a b n_2 i_1) ∧ i_1 ≤ a.length) (fun n_2 i_1 => n_2) (a.length + 1) 0 ?_ (by repeat (first | exact SubE.nil | refine SubE.cons rfl ?_)) (List.Perm.refl _) ?_
  · exact ⟨Nat.lt_succ_self _, Is.refl _, (by omega)⟩
  · rintro (_ | n_2) i_1 ⟨hm4, hF3, hi5⟩
    · omega
    refine J_seq ?_
    refine J_seq ?_
    refine J_reg ?_
    refine JL_q (q_move) (k := ?_)
    refine JL_q (q_move) (k := ?_)
    refine JL_q (q_lenS Try.runUnderlying38) (k := ?_)
    refine JL_q (q_lss) (k := ?_)
    refine JL_nil ?_
    refine JX_seq ?_
    refine J_dec rfl (fun hq2 => ?_) (fun hq2 => ?_)
    rotate_left
    · refine J_exit ?_
      refine JX_seq_exit ?_
      refine JX_inv_exit ?_
      refine JX_block_hit ?_
      refine JX_seq ?_
      refine J_seq ?_
      refine J_reg ?_
      refine JL_q (q_assign) (k := ?_)
      refine JL_nil ?_
      refine JX_seq ?_
      refine J_ret ?_
      refine JX_ret Try.results24 (Res.tmp rfl Res.nil) (fun w1 hw1 => ?_)
      exact ⟨(by rw [(((hF.neg hq1).ok1 (hF3.neg hq2))).eq] <;> first | rfl | (simp only [List.length_set] <;> rfl)), hw1.ext_out⟩
    refine J_skip ?_
    refine JX_seq ?_
    refine J_seq ?_
    refine J_block ?_
    refine J_seq ?_
    refine J_plan mixed 9 [(true, 0), (true, 1), (true, 2), (true, 3), (true, 4), (true, 5), (true, 6), (true, 7), (true, 8)] (by kernel_rfl) ?_
    refine JD_q (q_move) (k := ?_)
    refine JD_q (q_move) (k := ?_)
    refine JD_q (q_idx (n := a.length) Try.runUnderlying38 Try.sizeOf27 i_1 (SlJ.of_base h_a) (gD (by first | omega | (simp only [List.length_set]; omega) | (simp only [List.length_append, List.length_take, List.length_drop, List.length_set, List.length_replicate, List.length_cons, List.length_nil, List.length_map]; omega))) (by first | rfl | simp)) (k := ?_)
    refine JD_q (q_loadEA Try.isAgg27 Try.sizeOf27 i_1 (SlJ.of_base h_a) (gD (by first | omega | (simp only [List.length_set]; omega) | (simp only [List.length_append, List.length_take, List.length_drop, List.length_set, List.length_replicate, List.length_cons, List.length_nil, List.length_map]; omega)))) (k := ?_)
    refine JD_q (q_move) (k := ?_)
    refine JD_q (q_move) (k := ?_)
    refine JD_q (q_idx (n := b.length) Try.runUnderlying38 Try.sizeOf27 i_1 (SlJ.of_base h_b) (gD (by first | omega | (simp only [List.length_set]; omega) | (simp only [List.length_append, List.length_take, List.length_drop, List.length_set, List.length_replicate, List.length_cons, List.length_nil, List.length_map]; omega))) (by first | rfl | simp)) (k := ?_)
    refine JD_q (q_loadEA Try.isAgg27 Try.sizeOf27 i_1 (SlJ.of_base h_b) (gD (by first | omega | (simp only [List.length_set]; omega) | (simp only [List.length_append, List.length_take, List.length_drop, List.length_set, List.length_replicate, List.length_cons, List.length_nil, List.length_map]; omega)))) (k := ?_)
    refine JD_q (q_neS (NE_27 _ _ _ _ _ _)) (k := ?_)
    refine JD_nil ?_
    refine JL_nil ?_
    refine JX_seq ?_
    refine J_dec rfl (fun hq3 => ?_) (fun hq3 => ?_)
    rotate_left
    · refine J_skip ?_
      refine JX_block ?_
      refine JX_seq ?_
      refine J_reg ?_
      refine JL_q (q_move) (k := ?_)
      refine JL_q (q_add) (k := ?_)
      refine JL_q (q_assign) (k := ?_)
      refine JL_nil ?_
      exact JX_inv2 n_2 (i_1 + 1) ⟨by omega, ((hF3.pos hq2).neg hq3), (by omega)⟩ (Nat.lt_succ_self _) (by repeat (first | exact SubE.nil | refine SubE.cons rfl ?_)) (List.Perm.refl _)
    refine J_seq ?_
    refine J_reg ?_
    refine JL_q (q_assign) (k := ?_)
    refine JL_nil ?_
    refine JX_seq ?_
    refine J_ret ?_
    refine JX_block_ret ?_
    refine JX_seq_ret ?_
    refine JX_inv_ret ?_
    refine JX_block_ret ?_
    refine JX_seq_ret ?_
    refine JX_ret Try.results24 (Res.tmp rfl Res.nil) (fun w1 hw1 => ?_)
    exact ⟨(by rw [(((hF.neg hq1).er1 ((hF3.pos hq2).pos hq3))).eq] <;> first | rfl | (simp only [List.length_set] <;> rfl)), hw1.ext_out⟩

end Go.Proofs.Ytofkflecgnmemaa.Jd
