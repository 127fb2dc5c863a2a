/- Part of the proofs of this seat: walks and plain facts. No condition. -/
import Derived.Test.YtnblakihpoacjaaGreatDoorProg
import Derived.Test.YtnblakihpoacjaaGreatDoorRows
import Derived.ChangeMaps5
import Derived.Test.YtnblakihpoacjaaGreatDoorP2
import Derived.Test.YtnblakihpoacjaaGreatDoorP5
namespace Go.Proofs.YtnblakihpoacjaaGreatDoor.Jd
open Go.Proofs
open Go.RowKit (Below)
set_option maxRecDepth 100000
set_option maxHeartbeats 8000000
set_option linter.unusedVariables false
set_option linter.unusedSimpArgs false
theorem PL_39 : Places Tryz.prog 39 [(0, 1), (1, 1)] := ⟨_, fun w => Tryz.runUnderlying39 w, fun w => by simp⟩
theorem EQH_23 (a0 b0 : Int) (a1 b1 : Int) (n : Nat) (w : World) : (Op.equalIn (n + 2) 23 (Value.agg [Value.int .i64 a0, Value.int .i64 a1].toArray) (Value.agg [Value.int .i64 b0, Value.int .i64 b1].toArray)).run Tryz.prog w = .ok (decide (a0 = b0 ∧ a1 = b1)) w := by
  rw [show n + 2 = (n + 1) + 1 from rfl]
  unfold Op.equalIn
  simp [part, run_eqI (P := Tryz.prog) (t := 3) n .i64 _ _ Tryz.runUnderlying3]
  by_cases h0 : a0 = b0 <;> by_cases h1 : a1 = b1 <;> simp_all
theorem EQH_27 (a0 b0 : Bool) (a1 b1 : Int) (a2 b2 : Int) (a3 b3 : Int) (a4 b4 : Int) (n : Nat) (w : World) : (Op.equalIn (n + 3) 27 (Value.agg [Value.bool a0, Value.int .i64 a1, Value.int .i64 a2, Value.int .i64 a3, Value.int .i64 a4].toArray) (Value.agg [Value.bool b0, Value.int .i64 b1, Value.int .i64 b2, Value.int .i64 b3, Value.int .i64 b4].toArray)).run Tryz.prog w = .ok (decide (a0 = b0 ∧ a1 = b1 ∧ a2 = b2 ∧ a3 = b3 ∧ a4 = b4)) w := by
  have hs0 := EQH_23 a1 b1 a2 b2 n w
  have hs1 := EQH_25 a3 b3 a4 b4 n w
  rw [show n + 3 = (n + 2) + 1 from rfl]
  unfold Op.equalIn
  simp [part, run_eqB (P := Tryz.prog) (t := 4) (n + 1) _ _ Tryz.runUnderlying4, hs0, hs1] at *
  by_cases h0 : a0 = b0 <;> by_cases h1 : a1 = b1 <;> by_cases h2 : a2 = b2 <;> by_cases h3 : a3 = b3 <;> by_cases h4 : a4 = b4 <;> simp_all
theorem EQ_27 (x y : Operand) (a0 b0 : Bool) (a1 b1 : Int) (a2 b2 : Int) (a3 b3 : Int) (a4 b4 : Int) (w : World) : (do eqGuard .eql 27 x y (Value.agg [Value.bool a0, Value.int .i64 a1, Value.int .i64 a2, Value.int .i64 a3, Value.int .i64 a4].toArray) (Value.agg [Value.bool b0, Value.int .i64 b1, Value.int .i64 b2, Value.int .i64 b3, Value.int .i64 b4].toArray); binOp .eql 27 (Value.agg [Value.bool a0, Value.int .i64 a1, Value.int .i64 a2, Value.int .i64 a3, Value.int .i64 a4].toArray) (Value.agg [Value.bool b0, Value.int .i64 b1, Value.int .i64 b2, Value.int .i64 b3, Value.int .i64 b4].toArray) : Sem Value).run Tryz.prog w = .ok (.bool (decide (a0 = b0 ∧ a1 = b1 ∧ a2 = b2 ∧ a3 = b3 ∧ a4 = b4))) w := by
  have h2 : (binOp .eql 27 (Value.agg [Value.bool a0, Value.int .i64 a1, Value.int .i64 a2, Value.int .i64 a3, Value.int .i64 a4].toArray) (Value.agg [Value.bool b0, Value.int .i64 b1, Value.int .i64 b2, Value.int .i64 b3, Value.int .i64 b4].toArray)).run Tryz.prog w = .ok (.bool (decide (a0 = b0 ∧ a1 = b1 ∧ a2 = b2 ∧ a3 = b3 ∧ a4 = b4))) w := by
    show (do pure (.bool (← Op.equal 27 _ _)) : Sem Value).run Tryz.prog w = _
    simp only [Sem.run_bind, Op.equal, Op.maxDepth, EQH_27 a0 b0 a1 b1 a2 b2 a3 b3 a4 b4 9997, Result.andThen_ok, Sem.run_pure]
  simp [eqGuard]
  simpa using h2
theorem NE_27 (x y : Operand) (a0 b0 : Bool) (a1 b1 : Int) (a2 b2 : Int) (a3 b3 : Int) (a4 b4 : Int) (w : World) : (do eqGuard .neq 27 x y (Value.agg [Value.bool a0, Value.int .i64 a1, Value.int .i64 a2, Value.int .i64 a3, Value.int .i64 a4].toArray) (Value.agg [Value.bool b0, Value.int .i64 b1, Value.int .i64 b2, Value.int .i64 b3, Value.int .i64 b4].toArray); binOp .neq 27 (Value.agg [Value.bool a0, Value.int .i64 a1, Value.int .i64 a2, Value.int .i64 a3, Value.int .i64 a4].toArray) (Value.agg [Value.bool b0, Value.int .i64 b1, Value.int .i64 b2, Value.int .i64 b3, Value.int .i64 b4].toArray) : Sem Value).run Tryz.prog w = .ok (.bool (decide (¬ (a0 = b0 ∧ a1 = b1 ∧ a2 = b2 ∧ a3 = b3 ∧ a4 = b4)))) w := by
  have h2 : (binOp .neq 27 (Value.agg [Value.bool a0, Value.int .i64 a1, Value.int .i64 a2, Value.int .i64 a3, Value.int .i64 a4].toArray) (Value.agg [Value.bool b0, Value.int .i64 b1, Value.int .i64 b2, Value.int .i64 b3, Value.int .i64 b4].toArray)).run Tryz.prog w = .ok (.bool (decide (¬ (a0 = b0 ∧ a1 = b1 ∧ a2 = b2 ∧ a3 = b3 ∧ a4 = b4)))) w := by
    show (do pure (.bool (!(← Op.equal 27 _ _))) : Sem Value).run Tryz.prog w = _
    simp only [Sem.run_bind, Op.equal, Op.maxDepth, EQH_27 a0 b0 a1 b1 a2 b2 a3 b3 a4 b4 9997, Result.andThen_ok, Sem.run_pure]
    congr 2
    simp
  simp [eqGuard]
  simpa using h2
theorem rlOne_ok (w : World) {r : Rule} : Val Tryz.prog 41 [(Value.agg [(Value.bool (r.allow)), (Value.int .i64 (r.pfx.addr)), (Value.int .i64 (r.pfx.bits)), (Value.int .i64 (r.prt.lo)), (Value.int .i64 (r.prt.hi))].toArray)] w (Value.bool ((rlOne r))) := by
  have hF := Is.refl (rlOne r)
  refine enter Tryz.func41 Tryz.ntmps41 (h := ?_)
  refine J_seq ?_
  refine J_reg ?_
  refine JL_a noMk (a_box (l := [_, _, _, _, _])) (k := fun r1 hr1 => ?_)
  refine JL_q (q_assign) (k := ?_)
  refine JL_nil ?_
  refine JX_seq ?_
  refine J_seq ?_
  refine J_reg ?_
  refine JL_q (q_fld FO_27_1) (k := ?_)
  refine JL_q (q_loadA Tryz.isAgg23 Tryz.sizeOf23) (k := ?_)
  refine JL_v (args := [(Value.agg [(Value.int .i64 (r.pfx.addr)), (Value.int .i64 (r.pfx.bits))].toArray)]) (c_callA Tryz.call71) (fun w1 hw1 => rRight_ok w1 (p := r.pfx)) (k := ?_)
  refine JL_q (q_move) (k := ?_)
  refine JL_bool 6 rfl (fun hq1 => ?_) (fun hq1 => ?_)
  rotate_left
  · refine JL_skips 3 rfl ?_
    refine JL_q (q_pickF) (k := ?_)
    refine JL_q (q_assign) (k := ?_)
    refine JL_nil ?_
    refine JX_seq ?_
    refine J_ret ?_
    refine JX_ret Tryz.results41 (Res.tmp rfl Res.nil) (fun w1 hw1 => ?_)
    exact ⟨(by rw [((hF.f hq1)).eq] <;> first | rfl | (simp only [List.length_set] <;> rfl)), hw1.ext_out⟩
  have hfhq1 := rRight_t hq1
  refine JL_qg (q_fld FO_27_2) (k := ?_)
  refine JL_qg (q_loadA Tryz.isAgg25 Tryz.sizeOf25) (k := ?_)
  refine JL_vg (args := [(Value.agg [(Value.int .i64 (r.prt.lo)), (Value.int .i64 (r.prt.hi))].toArray)]) (c_callA Tryz.call72) (fun w1 hw1 => rPRight_ok w1 (p := r.prt)) (k := ?_)
  refine JL_q (q_pickT) (k := ?_)
  refine JL_q (q_assign) (k := ?_)
  refine JL_nil ?_
  refine JX_seq ?_
  refine J_ret ?_
  refine JX_ret Tryz.results41 (Res.tmp rfl Res.nil) (fun w1 hw1 => ?_)
  exact ⟨(by rw [((hF.t hq1)).eq] <;> first | rfl | (simp only [List.length_set] <;> rfl)), hw1.ext_out⟩

theorem rlRight_ok (w : World) {l_a : Option Addr} {l_c : Nat} {l : List Rule} (h_l : Sl w eRule 5 l_a l) (n_l : l.length ≤ 1001) : Val Tryz.prog 21 [(Value.slice (l_a) (l.length) (l_c))] w (Value.bool ((rlRight l))) := by
  have hF := Is.refl (rlRight l)
  refine enter Tryz.func21 Tryz.ntmps21 (h := ?_)
  refine J_seq ?_
  refine J_reg ?_
  refine JL_q (q_assign) (k := ?_)
  refine JL_nil ?_
  refine JX_seq ?_
  refine J_seq ?_
  refine J_seq ?_
  refine J_reg ?_
  refine JL_q (q_assign) (k := ?_)
  refine JL_nil ?_
  refine JX_seq ?_
  refine J_block ?_
  refine J_loop2 (σ1 := Nat) (σ2 := Nat) (fun n_2 i_1 => []) (fun n_2 i_1 => [(0, (Value.slice (l_a) (l.length) (l_c))), (2, (Value.bool (false))), (3, (Value.int .i64 (((i_1 : Nat) : Int))))]) (fun n_2 i_1 => l.length - i_1 < n_2 ∧ Is (rlRight_l0 l (l.length + 1) 0) (rlRight_l0 l n_2 i_1) ∧ i_1 ≤ l.length) (fun n_2 i_1 => n_2) (l.length + 1) 0 ?_ se (List.Perm.refl _) ?_
  · exact ⟨Nat.lt_succ_self _, Is.refl _, (by first | omega | rfl | (simp; done))⟩
  · rintro (_ | n_2) i_1 ⟨hm4, hF3, hi5⟩
    · omega
    refine J_seq ?_
    refine J_seq ?_
    refine J_reg ?_
    refine JL_q (q_move) (k := ?_)
    refine JL_q (q_move) (k := ?_)
    refine JL_q (q_lenS Tryz.runUnderlying36) (k := ?_)
    refine JL_q (q_lss) (k := ?_)
    refine JL_nil ?_
    refine JX_seq ?_
    refine J_dec rfl (fun hq1 => ?_) (fun hq1 => ?_)
    rotate_left
    · refine J_exit ?_
      refine JX_seq_exit ?_
      refine JX_inv_exit ?_
      refine JX_block_hit ?_
      refine JX_seq ?_
      refine J_seq ?_
      refine J_reg ?_
      refine JL_q (q_move) (k := ?_)
      refine JL_q (q_lenS Tryz.runUnderlying36) (k := ?_)
      refine JL_q (q_leq) (k := ?_)
      refine JL_q (q_assign) (k := ?_)
      refine JL_nil ?_
      refine JX_seq ?_
      refine J_ret ?_
      refine JX_ret Tryz.results21 (Res.tmp rfl Res.nil) (fun w1 hw1 => ?_)
      exact ⟨(by rw [((hF.ok1 (hF3.neg hq1))).eq] <;> first | rfl | (simp only [List.length_set] <;> rfl)), hw1.ext_out⟩
    refine J_skip ?_
    refine JX_seq ?_
    refine J_seq ?_
    refine J_block ?_
    refine J_seq ?_
    refine J_reg ?_
    refine JL_q (q_move) (k := ?_)
    refine JL_q (q_move) (k := ?_)
    refine JL_q (q_idx (n := l.length) Tryz.runUnderlying36 Tryz.sizeOf27 i_1 (SlJ.of_base h_l) (gD (by first | exact ix)) (by first | rfl | simp)) (k := ?_)
    refine JL_q (q_loadEA Tryz.isAgg27 Tryz.sizeOf27 i_1 (SlJ.of_base h_l) (gD (by first | exact ix))) (k := ?_)
    refine JL_v (args := [(Value.agg [(Value.bool (((l.getD i_1 default).allow))), (Value.int .i64 (((l.getD i_1 default).pfx.addr))), (Value.int .i64 (((l.getD i_1 default).pfx.bits))), (Value.int .i64 (((l.getD i_1 default).prt.lo))), (Value.int .i64 (((l.getD i_1 default).prt.hi)))].toArray)]) (c_callA Tryz.call41) (fun w1 hw1 => rlOne_ok w1 (r := (l.getD i_1 default))) (k := ?_)
    refine JL_q (q_not) (k := ?_)
    refine JL_nil ?_
    refine JX_seq ?_
    refine J_cond rfl (fun hq2 => ?_) (fun hq2 => ?_)
    rotate_left
    · refine J_skip ?_
      refine JX_block ?_
      refine JX_seq ?_
      refine J_reg ?_
      refine JL_q (q_move) (k := ?_)
      refine JL_q (q_add) (k := ?_)
      refine JL_q (q_assign) (k := ?_)
      refine JL_nil ?_
      exact JX_inv2 n_2 (i_1 + 1) ⟨by omega, ((hF3.pos hq1).f hq2), (by omega)⟩ (Nat.lt_succ_self _) se (List.Perm.refl _)
    refine J_seq ?_
    refine J_reg ?_
    refine JL_q (q_assign) (k := ?_)
    refine JL_nil ?_
    refine JX_seq ?_
    refine J_ret ?_
    refine JX_block_ret ?_
    refine JX_seq_ret ?_
    refine JX_inv_ret ?_
    refine JX_block_ret ?_
    refine JX_seq_ret ?_
    refine JX_ret Tryz.results21 (Res.tmp rfl Res.nil) (fun w1 hw1 => ?_)
    exact ⟨(by rw [((hF.er1 ((hF3.pos hq1).t hq2))).eq] <;> first | rfl | (simp only [List.length_set] <;> rfl)), hw1.ext_out⟩

theorem rlPrint_ok (w : World) {r : Rule} : Val Tryz.prog 19 [(Value.agg [(Value.bool (r.allow)), (Value.int .i64 (r.pfx.addr)), (Value.int .i64 (r.pfx.bits)), (Value.int .i64 (r.prt.lo)), (Value.int .i64 (r.prt.hi))].toArray)] w (Value.tuple [(Value.string (bs ((rlPrint r).1))), (Value.int .i64 (((rlPrint r).2)))].toArray) := by
  have hF := Is.refl (rlPrint r)
  refine enter Tryz.func19 Tryz.ntmps19 (h := ?_)
  refine J_seq ?_
  refine J_reg ?_
  refine JL_a noMk (a_box (l := [_, _, _, _, _])) (k := fun r1 hr1 => ?_)
  refine JL_q (q_assign) (k := ?_)
  refine JL_q (q_assign) (k := ?_)
  refine JL_nil ?_
  refine JX_seq ?_
  refine J_seq ?_
  refine J_seq ?_
  refine J_reg ?_
  refine JL_q (q_loadA Tryz.isAgg27 Tryz.sizeOf27) (k := ?_)
  refine JL_v (args := [(Value.agg [(Value.bool (r.allow)), (Value.int .i64 (r.pfx.addr)), (Value.int .i64 (r.pfx.bits)), (Value.int .i64 (r.prt.lo)), (Value.int .i64 (r.prt.hi))].toArray)]) (c_callA Tryz.call41) (fun w1 hw1 => rlOne_ok w1 (r := r)) (k := ?_)
  refine JL_q (q_not) (k := ?_)
  refine JL_nil ?_
  refine JX_seq ?_
  refine J_cond rfl (fun hq1 => ?_) (fun hq1 => ?_)
  · refine J_seq ?_
    refine J_reg ?_
    refine JL_q (q_assign) (k := ?_)
    refine JL_q (q_assign) (k := ?_)
    refine JL_nil ?_
    refine JX_seq ?_
    refine J_ret ?_
    refine JX_seq_ret ?_
    refine JX_ret Tryz.results19 (Res.tmp rfl (Res.tmp rfl Res.nil)) (fun w1 hw1 => ?_)
    exact ⟨(by rw [((hF.t hq1)).eq] <;> first | rfl | (simp only [List.length_set] <;> rfl)), hw1.ext_out⟩
  refine J_skip ?_
  refine JX_seq ?_
  refine J_seq ?_
  refine J_reg ?_
  refine JL_q (q_assign) (k := ?_)
  refine JL_nil ?_
  refine JX_seq ?_
  refine J_seq ?_
  refine J_seq ?_
  refine J_reg ?_
  refine JL_q (q_fld FO_27_0) (k := ?_)
  refine JL_q (q_load Tryz.isAgg4) (k := ?_)
  refine JL_nil ?_
  refine JX_seq ?_
  refine J_cond rfl (fun hq2 => ?_) (fun hq2 => ?_)
  rotate_left
  · refine J_skip ?_
    refine JX_seq ?_
    refine J_seq ?_
    refine J_reg ?_
    refine JL_q (q_fld FO_27_1) (k := ?_)
    refine JL_q (q_loadA Tryz.isAgg23 Tryz.sizeOf23) (k := ?_)
    refine JL_v (args := [(Value.agg [(Value.int .i64 (r.pfx.addr)), (Value.int .i64 (r.pfx.bits))].toArray)]) (c_callA Tryz.call42) (fun w1 hw1 => rPrintPrefix_ok w1 (p := r.pfx)) (k := ?_)
    have hrx_95628 := rPrintPrefix_len8 r.pfx
    refine JL_q (q_move) (k := ?_)
    refine JL_q (q_ext) (k := ?_)
    refine JL_q (q_ext) (k := ?_)
    refine JL_q (q_assign) (k := ?_)
    refine JL_q (q_assign) (k := ?_)
    refine JL_nil ?_
    refine JX_seq ?_
    refine J_seq ?_
    refine J_reg ?_
    refine JL_q (q_fld FO_27_2) (k := ?_)
    refine JL_q (q_loadA Tryz.isAgg25 Tryz.sizeOf25) (k := ?_)
    refine JL_v (args := [(Value.agg [(Value.int .i64 (r.prt.lo)), (Value.int .i64 (r.prt.hi))].toArray)]) (c_callA Tryz.call43) (fun w1 hw1 => rPPrint_ok w1 (p := r.prt)) (k := ?_)
    have hry_752 := rPPrint_len8 r.prt
    refine JL_q (q_move) (k := ?_)
    refine JL_q (q_ext) (k := ?_)
    refine JL_q (q_ext) (k := ?_)
    refine JL_q (q_assign) (k := ?_)
    refine JL_q (q_assign) (k := ?_)
    refine JL_nil ?_
    refine JX_seq ?_
    refine J_seq ?_
    refine J_reg ?_
    refine JL_q (q_move) (k := ?_)
    refine JL_q (q_addT (s := ([100, 101, 110, 121] : Str)) (s' := ([32] : Str)) (h := by first | exact lb)) (k := ?_)
    have hsa5 : (([100, 101, 110, 121] : Str) ++ ([32] : Str)).length = 4 + 1 := by simp only [List.length_append, List.length_cons, List.length_nil, Nat.zero_add]
    refine JL_q (q_move) (k := ?_)
    refine JL_q (q_addT (s := (([100, 101, 110, 121] : Str) ++ ([32] : Str))) (s' := ((rPrintPrefix r.pfx).1)) (h := by first | exact lb)) (k := ?_)
    have hsa6 : ((([100, 101, 110, 121] : Str) ++ ([32] : Str)) ++ ((rPrintPrefix r.pfx).1)).length = (([100, 101, 110, 121] : Str) ++ ([32] : Str)).length + ((rPrintPrefix r.pfx).1).length := by simp only [List.length_append, List.length_cons, List.length_nil, Nat.zero_add]
    refine JL_q (q_addT (s := ((([100, 101, 110, 121] : Str) ++ ([32] : Str)) ++ ((rPrintPrefix r.pfx).1))) (s' := ([32] : Str)) (h := by first | exact lb)) (k := ?_)
    have hsa7 : (((([100, 101, 110, 121] : Str) ++ ([32] : Str)) ++ ((rPrintPrefix r.pfx).1)) ++ ([32] : Str)).length = ((([100, 101, 110, 121] : Str) ++ ([32] : Str)) ++ ((rPrintPrefix r.pfx).1)).length + 1 := by simp only [List.length_append, List.length_cons, List.length_nil, Nat.zero_add]
    refine JL_q (q_move) (k := ?_)
    refine JL_q (q_addT (s := (((([100, 101, 110, 121] : Str) ++ ([32] : Str)) ++ ((rPrintPrefix r.pfx).1)) ++ ([32] : Str))) (s' := ((rPPrint r.prt).1)) (h := by first | exact lb)) (k := ?_)
    have hsa8 : ((((([100, 101, 110, 121] : Str) ++ ([32] : Str)) ++ ((rPrintPrefix r.pfx).1)) ++ ([32] : Str)) ++ ((rPPrint r.prt).1)).length = (((([100, 101, 110, 121] : Str) ++ ([32] : Str)) ++ ((rPrintPrefix r.pfx).1)) ++ ([32] : Str)).length + ((rPPrint r.prt).1).length := by simp only [List.length_append, List.length_cons, List.length_nil, Nat.zero_add]
    refine JL_q (q_assign) (k := ?_)
    refine JL_q (q_assign) (k := ?_)
    refine JL_nil ?_
    refine JX_seq ?_
    refine J_ret ?_
    refine JX_ret Tryz.results19 (Res.tmp rfl (Res.tmp rfl Res.nil)) (fun w1 hw1 => ?_)
    exact ⟨(by rw [(((hF.f hq1).f hq2)).eq] <;> first | rfl | (simp only [List.length_set] <;> rfl)), hw1.ext_out⟩
  refine J_reg ?_
  refine JL_q (q_assign) (k := ?_)
  refine JL_nil ?_
  refine JX_seq ?_
  refine J_seq ?_
  refine J_reg ?_
  refine JL_q (q_fld FO_27_1) (k := ?_)
  refine JL_q (q_loadA Tryz.isAgg23 Tryz.sizeOf23) (k := ?_)
  refine JL_v (args := [(Value.agg [(Value.int .i64 (r.pfx.addr)), (Value.int .i64 (r.pfx.bits))].toArray)]) (c_callA Tryz.call42) (fun w1 hw1 => rPrintPrefix_ok w1 (p := r.pfx)) (k := ?_)
  have hrx_95628 := rPrintPrefix_len8 r.pfx
  refine JL_q (q_move) (k := ?_)
  refine JL_q (q_ext) (k := ?_)
  refine JL_q (q_ext) (k := ?_)
  refine JL_q (q_assign) (k := ?_)
  refine JL_q (q_assign) (k := ?_)
  refine JL_nil ?_
  refine JX_seq ?_
  refine J_seq ?_
  refine J_reg ?_
  refine JL_q (q_fld FO_27_2) (k := ?_)
  refine JL_q (q_loadA Tryz.isAgg25 Tryz.sizeOf25) (k := ?_)
  refine JL_v (args := [(Value.agg [(Value.int .i64 (r.prt.lo)), (Value.int .i64 (r.prt.hi))].toArray)]) (c_callA Tryz.call43) (fun w1 hw1 => rPPrint_ok w1 (p := r.prt)) (k := ?_)
  have hry_752 := rPPrint_len8 r.prt
  refine JL_q (q_move) (k := ?_)
  refine JL_q (q_ext) (k := ?_)
  refine JL_q (q_ext) (k := ?_)
  refine JL_q (q_assign) (k := ?_)
  refine JL_q (q_assign) (k := ?_)
  refine JL_nil ?_
  refine JX_seq ?_
  refine J_seq ?_
  refine J_reg ?_
  refine JL_q (q_move) (k := ?_)
  refine JL_q (q_addT (s := ([97, 108, 108, 111, 119] : Str)) (s' := ([32] : Str)) (h := by first | exact lb)) (k := ?_)
  have hsa1 : (([97, 108, 108, 111, 119] : Str) ++ ([32] : Str)).length = 5 + 1 := by simp only [List.length_append, List.length_cons, List.length_nil, Nat.zero_add]
  refine JL_q (q_move) (k := ?_)
  refine JL_q (q_addT (s := (([97, 108, 108, 111, 119] : Str) ++ ([32] : Str))) (s' := ((rPrintPrefix r.pfx).1)) (h := by first | exact lb)) (k := ?_)
  have hsa2 : ((([97, 108, 108, 111, 119] : Str) ++ ([32] : Str)) ++ ((rPrintPrefix r.pfx).1)).length = (([97, 108, 108, 111, 119] : Str) ++ ([32] : Str)).length + ((rPrintPrefix r.pfx).1).length := by simp only [List.length_append, List.length_cons, List.length_nil, Nat.zero_add]
  refine JL_q (q_addT (s := ((([97, 108, 108, 111, 119] : Str) ++ ([32] : Str)) ++ ((rPrintPrefix r.pfx).1))) (s' := ([32] : Str)) (h := by first | exact lb)) (k := ?_)
  have hsa3 : (((([97, 108, 108, 111, 119] : Str) ++ ([32] : Str)) ++ ((rPrintPrefix r.pfx).1)) ++ ([32] : Str)).length = ((([97, 108, 108, 111, 119] : Str) ++ ([32] : Str)) ++ ((rPrintPrefix r.pfx).1)).length + 1 := by simp only [List.length_append, List.length_cons, List.length_nil, Nat.zero_add]
  refine JL_q (q_move) (k := ?_)
  refine JL_q (q_addT (s := (((([97, 108, 108, 111, 119] : Str) ++ ([32] : Str)) ++ ((rPrintPrefix r.pfx).1)) ++ ([32] : Str))) (s' := ((rPPrint r.prt).1)) (h := by first | exact lb)) (k := ?_)
  have hsa4 : ((((([97, 108, 108, 111, 119] : Str) ++ ([32] : Str)) ++ ((rPrintPrefix r.pfx).1)) ++ ([32] : Str)) ++ ((rPPrint r.prt).1)).length = (((([97, 108, 108, 111, 119] : Str) ++ ([32] : Str)) ++ ((rPrintPrefix r.pfx).1)) ++ ([32] : Str)).length + ((rPPrint r.prt).1).length := by simp only [List.length_append, List.length_cons, List.length_nil, Nat.zero_add]
  refine JL_q (q_assign) (k := ?_)
  refine JL_q (q_assign) (k := ?_)
  refine JL_nil ?_
  refine JX_seq ?_
  refine J_ret ?_
  refine JX_ret Tryz.results19 (Res.tmp rfl (Res.tmp rfl Res.nil)) (fun w1 hw1 => ?_)
  exact ⟨(by rw [(((hF.f hq1).t hq2)).eq] <;> first | rfl | (simp only [List.length_set] <;> rfl)), hw1.ext_out⟩

theorem rlParse_ok (w : World) {s : Str} (n_s : s.length ≤ 1000000) : Val Tryz.prog 20 [(Value.string (bs s))] w (Value.tuple [(Value.agg [(Value.bool (((rlParse s).1.allow))), (Value.int .i64 (((rlParse s).1.pfx.addr))), (Value.int .i64 (((rlParse s).1.pfx.bits))), (Value.int .i64 (((rlParse s).1.prt.lo))), (Value.int .i64 (((rlParse s).1.prt.hi)))].toArray), (Value.int .i64 (((rlParse s).2)))].toArray) := by
  have hF := Is.refl (rlParse s)
  refine enter Tryz.func20 Tryz.ntmps20 (h := ?_)
  refine J_seq ?_
  refine J_reg ?_
  refine JL_a noMk (a_alloc (l := [_, _, _, _, _]) Tryz.zeroValue27) (k := fun r1 hr1 => ?_)
  refine JL_q (q_assign) (k := ?_)
  refine JL_nil ?_
  refine JX_seq ?_
  refine J_seq ?_
  refine J_reg ?_
  refine JL_q (q_move) (k := ?_)
  refine JL_v (args := [(Value.string (bs s)), (Value.int .u8 (32))]) (c_callA Tryz.call44) (fun w1 hw1 => rCut_ok w1 (s := s) (c := 32) (n_s := by first | exact lb | decide)) (k := ?_)
  have hct_46038 := rCut_len s 32
  refine JL_q (q_move) (k := ?_)
  refine JL_q (q_ext) (k := ?_)
  refine JL_q (q_ext) (k := ?_)
  refine JL_q (q_ext) (k := ?_)
  refine JL_q (q_assign) (k := ?_)
  refine JL_q (q_assign) (k := ?_)
  refine JL_q (q_assign) (k := ?_)
  refine JL_nil ?_
  refine JX_seq ?_
  refine J_seq ?_
  refine J_reg ?_
  refine JL_q (q_move) (k := ?_)
  refine JL_v (args := [(Value.string (bs ((rCut s 32).2.1))), (Value.int .u8 (32))]) (c_callA Tryz.call44) (fun w1 hw1 => rCut_ok w1 (s := ((rCut s 32).2.1)) (c := 32) (n_s := by first | exact lb | decide)) (k := ?_)
  have hct_37488 := rCut_len ((rCut s 32).2.1) 32
  refine JL_q (q_move) (k := ?_)
  refine JL_q (q_ext) (k := ?_)
  refine JL_q (q_ext) (k := ?_)
  refine JL_q (q_ext) (k := ?_)
  refine JL_q (q_assign) (k := ?_)
  refine JL_q (q_assign) (k := ?_)
  refine JL_q (q_assign) (k := ?_)
  refine JL_nil ?_
  refine JX_seq ?_
  refine J_seq ?_
  refine J_reg ?_
  refine JL_q (q_move) (k := ?_)
  refine JL_q (q_eqT) (k := ?_)
  refine JL_q (q_build (cs := [_, _, _, _, _]) Tryz.zeroValue27 PL_27) (k := ?_)
  refine JL_a noMk (a_alloc (l := [_, _, _, _, _]) Tryz.zeroValue27) (k := fun r2 hr2 => ?_)
  refine JL_s (w_store (l' := [_, _, _, _, _]) Tryz.sizeOf27) (k := ?_)
  refine JL_nil ?_
  refine JX_seq ?_
  refine J_seq ?_
  refine J_reg ?_
  refine JL_q (q_move) (k := ?_)
  refine JL_v (args := [(Value.string (bs ((rCut ((rCut s 32).2.1) 32).1)))]) (c_callA Tryz.call45) (fun w1 hw1 => rParsePrefix_ok w1 (s := ((rCut ((rCut s 32).2.1) 32).1)) (n_s := by first | exact lb | decide)) (k := ?_)
  refine JL_q (q_move) (k := ?_)
  refine JL_q (q_ext) (k := ?_)
  refine JL_q (q_ext) (k := ?_)
  refine JL_q (q_fld FO_27_1) (k := ?_)
  refine JL_s (w_store (l' := [_, _, _, _, _]) Tryz.sizeOf23) (k := ?_)
  refine JL_nil ?_
  refine JX_seq ?_
  refine J_seq ?_
  refine J_reg ?_
  refine JL_q (q_move) (k := ?_)
  refine JL_v (args := [(Value.string (bs ((rCut ((rCut s 32).2.1) 32).2.1)))]) (c_callA Tryz.call46) (fun w1 hw1 => rPParse_ok w1 (s := ((rCut ((rCut s 32).2.1) 32).2.1)) (n_s := by first | exact lb | decide)) (k := ?_)
  refine JL_q (q_move) (k := ?_)
  refine JL_q (q_ext) (k := ?_)
  refine JL_q (q_ext) (k := ?_)
  refine JL_q (q_fld FO_27_2) (k := ?_)
  refine JL_s (w_store (l' := [_, _, _, _, _]) Tryz.sizeOf25) (k := ?_)
  refine JL_nil ?_
  refine JX_seq ?_
  refine J_seq ?_
  refine J_reg ?_
  refine JL_q (q_loadA Tryz.isAgg27 Tryz.sizeOf27) (k := ?_)
  refine JL_v (args := [(Value.agg [(Value.bool (decide (((rCut s 32).1) = ([97, 108, 108, 111, 119] : Str)))), (Value.int .i64 (((rParsePrefix ((rCut ((rCut s 32).2.1) 32).1)).1.addr))), (Value.int .i64 (((rParsePrefix ((rCut ((rCut s 32).2.1) 32).1)).1.bits))), (Value.int .i64 (((rPParse ((rCut ((rCut s 32).2.1) 32).2.1)).1.lo))), (Value.int .i64 (((rPParse ((rCut ((rCut s 32).2.1) 32).2.1)).1.hi)))].toArray)]) (c_callA Tryz.call19) (fun w1 hw1 => rlPrint_ok w1 (r := (Rule.mk (decide (((rCut s 32).1) = ([97, 108, 108, 111, 119] : Str))) ((rParsePrefix ((rCut ((rCut s 32).2.1) 32).1)).1) ((rPParse ((rCut ((rCut s 32).2.1) 32).2.1)).1)))) (k := ?_)
  have hrp_64332 := rlPrint_len (Rule.mk (decide (((rCut s 32).1) = ([97, 108, 108, 111, 119] : Str))) ((rParsePrefix ((rCut ((rCut s 32).2.1) 32).1)).1) ((rPParse ((rCut ((rCut s 32).2.1) 32).2.1)).1))
  refine JL_q (q_move) (k := ?_)
  refine JL_q (q_ext) (k := ?_)
  refine JL_q (q_ext) (k := ?_)
  refine JL_q (q_assign) (k := ?_)
  refine JL_q (q_assign) (k := ?_)
  refine JL_nil ?_
  refine JX_seq ?_
  refine J_seq ?_
  refine J_seq ?_
  refine J_reg ?_
  refine JL_q (q_move) (k := ?_)
  refine JL_q (q_neq) (k := ?_)
  refine JL_q (q_move) (k := ?_)
  refine JL_dec 47 rfl (fun hq1 => ?_) (fun hq1 => ?_)
  · refine JL_skips 3 rfl ?_
    refine JL_q (q_pickT) (k := ?_)
    refine JL_nil ?_
    refine JX_seq ?_
    refine J_true rfl ?_
    refine J_seq ?_
    refine J_reg ?_
    refine JL_q (q_build (cs := [_, _, _, _, _]) Tryz.zeroValue27 PL_27) (k := ?_)
    refine JL_s (w_store (l' := [_, _, _, _, _]) Tryz.sizeOf27) (k := ?_)
    refine JL_q (q_assign) (k := ?_)
    refine JL_nil ?_
    refine JX_seq ?_
    refine J_ret ?_
    refine JX_seq_ret ?_
    refine JX_ret Tryz.results20 (Res.agg Tryz.isAgg27 Tryz.sizeOf27 rfl me rfl (Res.tmp rfl Res.nil)) (fun w1 hw1 => ?_)
    exact ⟨(by rw [((hF.pos hq1)).eq] <;> first | rfl | (simp only [List.length_set] <;> rfl)), hw1.ext_out⟩
  refine JL_qg (q_move) (k := ?_)
  refine JL_qg (q_move) (k := ?_)
  refine JL_qg (q_neT) (k := ?_)
  refine JL_q (q_pickF) (k := ?_)
  refine JL_nil ?_
  refine JX_seq ?_
  refine J_dec rfl (fun hq2 => ?_) (fun hq2 => ?_)
  · refine J_seq ?_
    refine J_reg ?_
    refine JL_q (q_build (cs := [_, _, _, _, _]) Tryz.zeroValue27 PL_27) (k := ?_)
    refine JL_s (w_store (l' := [_, _, _, _, _]) Tryz.sizeOf27) (k := ?_)
    refine JL_q (q_assign) (k := ?_)
    refine JL_nil ?_
    refine JX_seq ?_
    refine J_ret ?_
    refine JX_seq_ret ?_
    refine JX_ret Tryz.results20 (Res.agg Tryz.isAgg27 Tryz.sizeOf27 rfl me rfl (Res.tmp rfl Res.nil)) (fun w1 hw1 => ?_)
    exact ⟨(by rw [(((hF.neg hq1).pos hq2)).eq] <;> first | rfl | (simp only [List.length_set] <;> rfl)), hw1.ext_out⟩
  refine J_skip ?_
  refine JX_seq ?_
  refine J_seq ?_
  refine J_reg ?_
  refine JL_q (q_loadA Tryz.isAgg27 Tryz.sizeOf27) (k := ?_)
  refine JL_s (w_store (l' := [_, _, _, _, _]) Tryz.sizeOf27) (k := ?_)
  refine JL_q (q_assign) (k := ?_)
  refine JL_nil ?_
  refine JX_seq ?_
  refine J_ret ?_
  refine JX_ret Tryz.results20 (Res.agg Tryz.isAgg27 Tryz.sizeOf27 rfl me rfl (Res.tmp rfl Res.nil)) (fun w1 hw1 => ?_)
  exact ⟨(by rw [(((hF.neg hq1).neg hq2)).eq] <;> first | rfl | (simp only [List.length_set] <;> rfl)), hw1.ext_out⟩

theorem rlFits_ok (w : World) {r : Rule} {t : Target} : Val Tryz.prog 23 [(Value.agg [(Value.bool (r.allow)), (Value.int .i64 (r.pfx.addr)), (Value.int .i64 (r.pfx.bits)), (Value.int .i64 (r.prt.lo)), (Value.int .i64 (r.prt.hi))].toArray), (Value.agg [(Value.int .i64 (t.addr)), (Value.int .i64 (t.port))].toArray)] w (Value.bool ((rlFits r t))) := by
  have hF := Is.refl (rlFits r t)
  refine enter Tryz.func23 Tryz.ntmps23 (h := ?_)
  refine J_seq ?_
  refine J_reg ?_
  refine JL_a noMk (a_box (l := [_, _, _, _, _])) (k := fun r1 hr1 => ?_)
  refine JL_a noMk (a_box (l := [_, _])) (k := fun r2 hr2 => ?_)
  refine JL_q (q_assign) (k := ?_)
  refine JL_nil ?_
  refine JX_seq ?_
  refine J_seq ?_
  refine J_reg ?_
  refine JL_q (q_loadA Tryz.isAgg27 Tryz.sizeOf27) (k := ?_)
  refine JL_v (args := [(Value.agg [(Value.bool (r.allow)), (Value.int .i64 (r.pfx.addr)), (Value.int .i64 (r.pfx.bits)), (Value.int .i64 (r.prt.lo)), (Value.int .i64 (r.prt.hi))].toArray)]) (c_callA Tryz.call41) (fun w1 hw1 => rlOne_ok w1 (r := r)) (k := ?_)
  refine JL_q (q_move) (k := ?_)
  refine JL_bool 7 rfl (fun hq1 => ?_) (fun hq1 => ?_)
  rotate_left
  · refine JL_skips 2 rfl ?_
    refine JL_q (q_pickF) (k := ?_)
    refine JL_q (q_move) (k := ?_)
    refine JL_skips 5 rfl ?_
    refine JL_q (q_pickF) (k := ?_)
    refine JL_q (q_move) (k := ?_)
    refine JL_skips 5 rfl ?_
    refine JL_q (q_pickF) (k := ?_)
    refine JL_q (q_assign) (k := ?_)
    refine JL_nil ?_
    refine JX_seq ?_
    refine J_ret ?_
    refine JX_ret Tryz.results23 (Res.tmp rfl Res.nil) (fun w1 hw1 => ?_)
    exact ⟨(by rw [((hF.f hq1)).eq] <;> first | rfl | (simp only [List.length_set] <;> rfl)), hw1.ext_out⟩
  refine JL_qg (q_loadA Tryz.isAgg39 Tryz.sizeOf39) (k := ?_)
  refine JL_inlg (args := [(Value.agg [(Value.int .i64 (t.addr)), (Value.int .i64 (t.port))].toArray)]) (c_callA Tryz.call48) Tryz.func48 Tryz.ntmps48 ?_
  refine J_seq ?_
  refine J_reg ?_
  refine JL_a noMk (a_box (l := [_, _])) (k := fun r3 hr3 => ?_)
  refine JL_q (q_assign) (k := ?_)
  refine JL_nil ?_
  refine JX_seq ?_
  refine J_seq ?_
  refine J_reg ?_
  refine JL_q (q_loadA Tryz.isAgg39 Tryz.sizeOf39) (k := ?_)
  refine JL_v (args := [(Value.agg [(Value.int .i64 (t.addr)), (Value.int .i64 (t.port))].toArray)]) (c_callA Tryz.call79) (fun w1 hw1 => rTPrint_ok w1 (t := t)) (k := ?_)
  refine JL_q (q_move) (k := ?_)
  refine JL_q (q_ext) (k := ?_)
  refine JL_q (q_ext) (k := ?_)
  refine JL_q (q_assign) (k := ?_)
  refine JL_q (q_assign) (k := ?_)
  refine JL_nil ?_
  refine JX_seq ?_
  refine J_seq ?_
  refine J_reg ?_
  refine JL_q (q_move) (k := ?_)
  refine JL_q (q_eql) (k := ?_)
  refine JL_q (q_assign) (k := ?_)
  refine JL_nil ?_
  refine JX_seq ?_
  refine J_ret ?_
  refine JX_retI Tryz.results48 (Res.tmp rfl Res.nil) ?_
  refine JL_q (q_pickT) (k := ?_)
  refine JL_q (q_move) (k := ?_)
  refine JL_dec 11 rfl (fun hq2 => ?_) (fun hq2 => ?_)
  rotate_left
  · refine JL_skips 5 rfl ?_
    refine JL_q (q_pickF) (k := ?_)
    refine JL_q (q_move) (k := ?_)
    refine JL_skips 5 rfl ?_
    refine JL_q (q_pickF) (k := ?_)
    refine JL_q (q_assign) (k := ?_)
    refine JL_nil ?_
    refine JX_seq ?_
    refine J_ret ?_
    refine JX_ret Tryz.results23 (Res.tmp rfl Res.nil) (fun w1 hw1 => ?_)
    exact ⟨(by rw [(((hF.t hq1).neg hq2)).eq] <;> first | rfl | (simp only [List.length_set] <;> rfl)), hw1.ext_out⟩
  refine JL_qg (q_fld FO_27_1) (k := ?_)
  refine JL_qg (q_loadA Tryz.isAgg23 Tryz.sizeOf23) (k := ?_)
  refine JL_qg (q_fld FO_39_0) (k := ?_)
  refine JL_qg (q_load Tryz.isAgg3) (k := ?_)
  refine JL_vg (args := [(Value.agg [(Value.int .i64 (r.pfx.addr)), (Value.int .i64 (r.pfx.bits))].toArray), (Value.int .i64 (t.addr))]) (c_callA Tryz.call49) (fun w1 hw1 => rHas_ok w1 (p := r.pfx) (a := t.addr)) (k := ?_)
  refine JL_q (q_pickT) (k := ?_)
  refine JL_q (q_move) (k := ?_)
  refine JL_bool 18 rfl (fun hq3 => ?_) (fun hq3 => ?_)
  rotate_left
  · refine JL_skips 5 rfl ?_
    refine JL_q (q_pickF) (k := ?_)
    refine JL_q (q_assign) (k := ?_)
    refine JL_nil ?_
    refine JX_seq ?_
    refine J_ret ?_
    refine JX_ret Tryz.results23 (Res.tmp rfl Res.nil) (fun w1 hw1 => ?_)
    exact ⟨(by rw [((((hF.t hq1).pos hq2).f hq3)).eq] <;> first | rfl | (simp only [List.length_set] <;> rfl)), hw1.ext_out⟩
  refine JL_qg (q_fld FO_27_2) (k := ?_)
  refine JL_qg (q_loadA Tryz.isAgg25 Tryz.sizeOf25) (k := ?_)
  refine JL_qg (q_fld FO_39_1) (k := ?_)
  refine JL_qg (q_load Tryz.isAgg3) (k := ?_)
  refine JL_vg (args := [(Value.agg [(Value.int .i64 (r.prt.lo)), (Value.int .i64 (r.prt.hi))].toArray), (Value.int .i64 (t.port))]) (c_callA Tryz.call50) (fun w1 hw1 => rPHas_ok w1 (p := r.prt) (n_ := t.port)) (k := ?_)
  refine JL_q (q_pickT) (k := ?_)
  refine JL_q (q_assign) (k := ?_)
  refine JL_nil ?_
  refine JX_seq ?_
  refine J_ret ?_
  refine JX_ret Tryz.results23 (Res.tmp rfl Res.nil) (fun w1 hw1 => ?_)
  exact ⟨(by rw [((((hF.t hq1).pos hq2).t hq3)).eq] <;> first | rfl | (simp only [List.length_set] <;> rfl)), hw1.ext_out⟩

theorem rlDecide_ok (w : World) {l_a : Option Addr} {l_c : Nat} {l : List Rule} {t : Target} (h_l : Sl w eRule 5 l_a l) (n_l : l.length ≤ 1000) : Val Tryz.prog 24 [(Value.slice (l_a) (l.length) (l_c)), (Value.agg [(Value.int .i64 (t.addr)), (Value.int .i64 (t.port))].toArray)] w (Value.tuple [(Value.bool (((rlDecide l t).1))), (Value.int .i64 (((rlDecide l t).2.1))), (Value.int .i64 (((rlDecide l t).2.2)))].toArray) := by
  have hF := Is.refl (rlDecide l t)
  refine enter Tryz.func24 Tryz.ntmps24 (h := ?_)
  refine J_seq ?_
  refine J_reg ?_
  refine JL_a noMk (a_box (l := [_, _])) (k := fun r1 hr1 => ?_)
  refine JL_q (q_assign) (k := ?_)
  refine JL_q (q_assign) (k := ?_)
  refine JL_q (q_assign) (k := ?_)
  refine JL_nil ?_
  refine JX_seq ?_
  refine J_seq ?_
  refine J_seq ?_
  refine J_reg ?_
  refine JL_q (q_move) (k := ?_)
  refine JL_v (args := [(Value.slice (l_a) (l.length) (l_c))]) (c_callA Tryz.call21) (fun w1 hw1 => rlRight_ok w1 (l := l) (h_l := (SlJ.of_base h_l) w1 hw1) (n_l := by first | exact lb | decide)) (k := ?_)
  refine JL_q (q_not) (k := ?_)
  refine JL_nil ?_
  refine JX_seq ?_
  refine J_cond rfl (fun hq1 => ?_) (fun hq1 => ?_)
  · refine J_seq ?_
    refine J_reg ?_
    refine JL_q (q_assign) (k := ?_)
    refine JL_q (q_assign) (k := ?_)
    refine JL_q (q_assign) (k := ?_)
    refine JL_nil ?_
    refine JX_seq ?_
    refine J_ret ?_
    refine JX_seq_ret ?_
    refine JX_ret Tryz.results24 (Res.tmp rfl (Res.tmp rfl (Res.tmp rfl Res.nil))) (fun w1 hw1 => ?_)
    exact ⟨(by rw [((hF.t hq1)).eq] <;> first | rfl | (simp only [List.length_set] <;> rfl)), hw1.ext_out⟩
  refine J_skip ?_
  refine JX_seq ?_
  refine J_seq ?_
  refine J_seq ?_
  refine J_reg ?_
  refine JL_q (q_loadA Tryz.isAgg39 Tryz.sizeOf39) (k := ?_)
  refine JL_inl (args := [(Value.agg [(Value.int .i64 (t.addr)), (Value.int .i64 (t.port))].toArray)]) (c_callA Tryz.call48) Tryz.func48 Tryz.ntmps48 ?_
  refine J_seq ?_
  refine J_reg ?_
  refine JL_a noMk (a_box (l := [_, _])) (k := fun r2 hr2 => ?_)
  refine JL_q (q_assign) (k := ?_)
  refine JL_nil ?_
  refine JX_seq ?_
  refine J_seq ?_
  refine J_reg ?_
  refine JL_q (q_loadA Tryz.isAgg39 Tryz.sizeOf39) (k := ?_)
  refine JL_v (args := [(Value.agg [(Value.int .i64 (t.addr)), (Value.int .i64 (t.port))].toArray)]) (c_callA Tryz.call79) (fun w1 hw1 => rTPrint_ok w1 (t := t)) (k := ?_)
  refine JL_q (q_move) (k := ?_)
  refine JL_q (q_ext) (k := ?_)
  refine JL_q (q_ext) (k := ?_)
  refine JL_q (q_assign) (k := ?_)
  refine JL_q (q_assign) (k := ?_)
  refine JL_nil ?_
  refine JX_seq ?_
  refine J_seq ?_
  refine J_reg ?_
  refine JL_q (q_move) (k := ?_)
  refine JL_q (q_eql) (k := ?_)
  refine JL_q (q_assign) (k := ?_)
  refine JL_nil ?_
  refine JX_seq ?_
  refine J_ret ?_
  refine JX_retI Tryz.results48 (Res.tmp rfl Res.nil) ?_
  refine JL_q (q_notD) (k := ?_)
  refine JL_nil ?_
  refine JX_seq ?_
  refine J_dec rfl (fun hq2 => ?_) (fun hq2 => ?_)
  · refine J_seq ?_
    refine J_reg ?_
    refine JL_q (q_assign) (k := ?_)
    refine JL_q (q_assign) (k := ?_)
    refine JL_q (q_assign) (k := ?_)
    refine JL_nil ?_
    refine JX_seq ?_
    refine J_ret ?_
    refine JX_seq_ret ?_
    refine JX_ret Tryz.results24 (Res.tmp rfl (Res.tmp rfl (Res.tmp rfl Res.nil))) (fun w1 hw1 => ?_)
    exact ⟨(by rw [(((hF.f hq1).pos hq2)).eq] <;> first | rfl | (simp only [List.length_set] <;> rfl)), hw1.ext_out⟩
  refine J_skip ?_
  refine JX_seq ?_
  refine J_seq ?_
  refine J_seq ?_
  refine J_reg ?_
  refine JL_q (q_assign) (k := ?_)
  refine JL_nil ?_
  refine JX_seq ?_
  refine J_block ?_
  refine J_loop2 (σ1 := Nat) (σ2 := Nat) (fun n_2 i_1 => ((r2, Obj.cells [(Value.int .i64 (t.addr)), (Value.int .i64 (t.port))].toArray 39) :: ((r1, Obj.cells [(Value.int .i64 (t.addr)), (Value.int .i64 (t.port))].toArray 39) :: []))) (fun n_2 i_1 => [(0, (Value.slice (l_a) (l.length) (l_c))), (3, (Value.pointer (some ⟨r1, 0, none⟩))), (4, (Value.bool (false))), (5, (Value.int .i64 (0))), (6, (Value.int .i64 (0))), (7, (Value.int .i64 (((i_1 : Nat) : Int))))]) (fun n_2 i_1 => l.length - i_1 < n_2 ∧ Is (rlDecide_l0 l t (l.length + 1) 0) (rlDecide_l0 l t n_2 i_1) ∧ i_1 ≤ l.length) (fun n_2 i_1 => n_2) (l.length + 1) 0 ?_ se (List.Perm.refl _) ?_
  · exact ⟨Nat.lt_succ_self _, Is.refl _, (by first | omega | rfl | (simp; done))⟩
  · rintro (_ | n_2) i_1 ⟨hm4, hF3, hi5⟩
    · omega
    refine J_seq ?_
    refine J_seq ?_
    refine J_reg ?_
    refine JL_q (q_move) (k := ?_)
    refine JL_q (q_move) (k := ?_)
    refine JL_q (q_lenS Tryz.runUnderlying36) (k := ?_)
    refine JL_q (q_lss) (k := ?_)
    refine JL_nil ?_
    refine JX_seq ?_
    refine J_dec rfl (fun hq3 => ?_) (fun hq3 => ?_)
    rotate_left
    · refine J_exit ?_
      refine JX_seq_exit ?_
      refine JX_inv_exit ?_
      refine JX_block_hit ?_
      refine JX_seq ?_
      refine J_seq ?_
      refine J_reg ?_
      refine JL_q (q_assign) (k := ?_)
      refine JL_q (q_assign) (k := ?_)
      refine JL_q (q_assign) (k := ?_)
      refine JL_nil ?_
      refine JX_seq ?_
      refine J_ret ?_
      refine JX_ret Tryz.results24 (Res.tmp rfl (Res.tmp rfl (Res.tmp rfl Res.nil))) (fun w1 hw1 => ?_)
      exact ⟨(by rw [((((hF.f hq1).neg hq2).ok1 (hF3.neg hq3))).eq] <;> first | rfl | (simp only [List.length_set] <;> rfl)), hw1.ext_out⟩
    refine J_skip ?_
    refine JX_seq ?_
    refine J_seq ?_
    refine J_block ?_
    refine J_seq ?_
    refine J_plan mixed 6 [(true, 0), (true, 1), (true, 2), (true, 3), (true, 4), (false, 5)] (by kernel_rfl) ?_
    refine JD_q (q_move) (k := ?_)
    refine JD_q (q_move) (k := ?_)
    refine JD_q (q_idx (n := l.length) Tryz.runUnderlying36 Tryz.sizeOf27 i_1 (SlJ.of_base h_l) (gD (by first | exact ix)) (by first | rfl | simp)) (k := ?_)
    refine JD_q (q_loadEA Tryz.isAgg27 Tryz.sizeOf27 i_1 (SlJ.of_base h_l) (gD (by first | exact ix))) (k := ?_)
    refine JD_q (q_loadA Tryz.isAgg39 Tryz.sizeOf39) (k := ?_)
    refine JD_v (args := [(Value.agg [(Value.bool (((l.getD i_1 default).allow))), (Value.int .i64 (((l.getD i_1 default).pfx.addr))), (Value.int .i64 (((l.getD i_1 default).pfx.bits))), (Value.int .i64 (((l.getD i_1 default).prt.lo))), (Value.int .i64 (((l.getD i_1 default).prt.hi)))].toArray), (Value.agg [(Value.int .i64 (t.addr)), (Value.int .i64 (t.port))].toArray)]) (c_callA Tryz.call23) (fun w1 hw1 => rlFits_ok w1 (r := (l.getD i_1 default)) (t := t)) (k := ?_)
    refine JD_nil0 ?_
    refine JL_nil ?_
    refine JX_seq ?_
    refine J_cond rfl (fun hq4 => ?_) (fun hq4 => ?_)
    rotate_left
    · refine J_skip ?_
      refine JX_block ?_
      refine JX_seq ?_
      refine J_reg ?_
      refine JL_q (q_move) (k := ?_)
      refine JL_q (q_add) (k := ?_)
      refine JL_q (q_assign) (k := ?_)
      refine JL_nil ?_
      exact JX_inv2 n_2 (i_1 + 1) ⟨by omega, ((hF3.pos hq3).f hq4), (by omega)⟩ (Nat.lt_succ_self _) se (List.Perm.refl _)
    refine J_seq ?_
    refine J_reg ?_
    refine JL_q (q_move) (k := ?_)
    refine JL_q (q_move) (k := ?_)
    refine JL_q (q_idx (n := l.length) Tryz.runUnderlying36 Tryz.sizeOf27 i_1 (SlJ.of_base h_l) (gD (by first | exact ix)) (by first | rfl | simp)) (k := ?_)
    refine JL_q (q_fldE FO_27_0) (k := ?_)
    refine JL_q (q_loadE Tryz.isAgg4 i_1 0 (SlJ.of_base h_l) (gD (by first | exact ix))) (k := ?_)
    refine JL_q (q_move) (k := ?_)
    refine JL_q (q_assign) (k := ?_)
    refine JL_q (q_assign) (k := ?_)
    refine JL_q (q_assign) (k := ?_)
    refine JL_nil ?_
    refine JX_seq ?_
    refine J_ret ?_
    refine JX_block_ret ?_
    refine JX_seq_ret ?_
    refine JX_inv_ret ?_
    refine JX_block_ret ?_
    refine JX_seq_ret ?_
    refine JX_ret Tryz.results24 (Res.tmp rfl (Res.tmp rfl (Res.tmp rfl Res.nil))) (fun w1 hw1 => ?_)
    exact ⟨(by rw [((((hF.f hq1).neg hq2).er1 ((hF3.pos hq3).t hq4))).eq] <;> first | rfl | (simp only [List.length_set] <;> rfl)), hw1.ext_out⟩

theorem rlInsert_ok (w : World) {l_a : Option Addr} {l_c : Nat} {l : List Rule} {at_ : Int} {r : Rule} (h_l : Sl w eRule 5 l_a l) (n_l : l.length ≤ 1000) (k_l : l.length ≤ l_c) : Calls Tryz.prog 25 (List.toArray [(Value.slice (l_a) (l.length) (l_c)), (Value.int .i64 (at_)), (Value.agg [(Value.bool (r.allow)), (Value.int .i64 (r.pfx.addr)), (Value.int .i64 (r.pfx.bits)), (Value.int .i64 (r.prt.lo)), (Value.int .i64 (r.prt.hi))].toArray)]) w fun e w2 => ∃ a1 : Option Addr, ∃ c1 : Nat, ∃ B1 : Heap, e = .returned (Value.tuple [(Value.slice (a1) ((rlInsert l at_ r).1.length) (c1)), (Value.int .i64 (((rlInsert l at_ r).2)))].toArray) ∧ Fresh w w2 B1 ∧ OwnB eRule 5 27 a1 c1 B1 (rlInsert l at_ r).1 ∧ (rlInsert l at_ r).1.length ≤ 1000 := by
  have hF := Is.refl (rlInsert l at_ r)
  refine enter Tryz.func25 Tryz.ntmps25 (h := ?_)
  refine J_seq ?_
  refine J_reg ?_
  refine JL_a noMk (a_box (l := [_, _, _, _, _])) (k := fun r1 hr1 => ?_)
  refine JL_q (q_assign) (k := ?_)
  refine JL_q (q_assign) (k := ?_)
  refine JL_nil ?_
  refine JX_seq ?_
  refine J_seq ?_
  refine J_block ?_
  refine J_seq ?_
  refine J_reg ?_
  refine JL_q (q_move) (k := ?_)
  refine JL_v (args := [(Value.slice (l_a) (l.length) (l_c))]) (c_callA Tryz.call21) (fun w1 hw1 => rlRight_ok w1 (l := l) (h_l := (SlJ.of_base h_l) w1 hw1) (n_l := by first | exact lb | decide)) (k := ?_)
  refine JL_q (q_not) (k := ?_)
  refine JL_q (q_assign) (k := ?_)
  refine JL_nil ?_
  refine JX_seq ?_
  refine J_cond rfl (fun hq1 => ?_) (fun hq1 => ?_)
  · refine J_seq ?_
    refine J_reg ?_
    refine JL_q (q_assign) (k := ?_)
    refine JL_q (q_assign) (k := ?_)
    refine JL_nil ?_
    refine JX_seq ?_
    refine J_ret ?_
    refine JX_block_ret ?_
    refine JX_seq_ret ?_
    refine JX_ret Tryz.results25 (Res.tmp rfl (Res.tmp rfl Res.nil)) (fun w1 hw1 => ?_)
    exact ⟨none, 0, [], (by rw [((hF.t hq1)).eq] <;> first | rfl | (simp only [List.length_set] <;> rfl)), (hw1.fresh_out.sub (List.nil_sublist _)), (by rw [((hF.t hq1)).eq]; exact OwnB.nil), (by rw [((hF.t hq1)).eq]; first | exact lb)⟩
  refine J_seq ?_
  refine J_reg ?_
  refine JL_q (q_loadA Tryz.isAgg27 Tryz.sizeOf27) (k := ?_)
  refine JL_v (args := [(Value.agg [(Value.bool (r.allow)), (Value.int .i64 (r.pfx.addr)), (Value.int .i64 (r.pfx.bits)), (Value.int .i64 (r.prt.lo)), (Value.int .i64 (r.prt.hi))].toArray)]) (c_callA Tryz.call41) (fun w1 hw1 => rlOne_ok w1 (r := r)) (k := ?_)
  refine JL_q (q_not) (k := ?_)
  refine JL_q (q_assign) (k := ?_)
  refine JL_nil ?_
  refine JX_seq ?_
  refine J_cond rfl (fun hq2 => ?_) (fun hq2 => ?_)
  · refine J_seq ?_
    refine J_reg ?_
    refine JL_q (q_assign) (k := ?_)
    refine JL_q (q_assign) (k := ?_)
    refine JL_nil ?_
    refine JX_seq ?_
    refine J_ret ?_
    refine JX_block_ret ?_
    refine JX_seq_ret ?_
    refine JX_ret Tryz.results25 (Res.tmp rfl (Res.tmp rfl Res.nil)) (fun w1 hw1 => ?_)
    exact ⟨none, 0, [], (by rw [(((hF.f hq1).t hq2)).eq] <;> first | rfl | (simp only [List.length_set] <;> rfl)), (hw1.fresh_out.sub (List.nil_sublist _)), (by rw [(((hF.f hq1).t hq2)).eq]; exact OwnB.nil), (by rw [(((hF.f hq1).t hq2)).eq]; first | exact lb)⟩
  refine J_seq ?_
  refine J_reg ?_
  refine JL_q (q_move) (k := ?_)
  refine JL_q (q_lss) (k := ?_)
  refine JL_q (q_move) (k := ?_)
  refine JL_dec 20 rfl (fun hq3 => ?_) (fun hq3 => ?_)
  · refine JL_skips 4 rfl ?_
    refine JL_q (q_pickT) (k := ?_)
    refine JL_q (q_move) (k := ?_)
    refine JL_skips 3 rfl ?_
    refine JL_q (q_pickT) (k := ?_)
    refine JL_q (q_assign) (k := ?_)
    refine JL_nil ?_
    refine JX_seq ?_
    refine J_true rfl ?_
    refine J_seq ?_
    refine J_reg ?_
    refine JL_q (q_assign) (k := ?_)
    refine JL_q (q_assign) (k := ?_)
    refine JL_nil ?_
    refine JX_seq ?_
    refine J_ret ?_
    refine JX_block_ret ?_
    refine JX_seq_ret ?_
    refine JX_ret Tryz.results25 (Res.tmp rfl (Res.tmp rfl Res.nil)) (fun w1 hw1 => ?_)
    exact ⟨none, 0, [], (by rw [((((hF.f hq1).f hq2).pos hq3)).eq] <;> first | rfl | (simp only [List.length_set] <;> rfl)), (hw1.fresh_out.sub (List.nil_sublist _)), (by rw [((((hF.f hq1).f hq2).pos hq3)).eq]; exact OwnB.nil), (by rw [((((hF.f hq1).f hq2).pos hq3)).eq]; first | exact lb)⟩
  refine JL_qg (q_move) (k := ?_)
  refine JL_qg (q_move) (k := ?_)
  refine JL_qg (q_lenS Tryz.runUnderlying36) (k := ?_)
  refine JL_qg (q_gtr) (k := ?_)
  refine JL_q (q_pickF) (k := ?_)
  refine JL_q (q_move) (k := ?_)
  refine JL_dec 26 rfl (fun hq4 => ?_) (fun hq4 => ?_)
  · refine JL_skips 3 rfl ?_
    refine JL_q (q_pickT) (k := ?_)
    refine JL_q (q_assign) (k := ?_)
    refine JL_nil ?_
    refine JX_seq ?_
    refine J_true rfl ?_
    refine J_seq ?_
    refine J_reg ?_
    refine JL_q (q_assign) (k := ?_)
    refine JL_q (q_assign) (k := ?_)
    refine JL_nil ?_
    refine JX_seq ?_
    refine J_ret ?_
    refine JX_block_ret ?_
    refine JX_seq_ret ?_
    refine JX_ret Tryz.results25 (Res.tmp rfl (Res.tmp rfl Res.nil)) (fun w1 hw1 => ?_)
    exact ⟨none, 0, [], (by rw [(((((hF.f hq1).f hq2).neg hq3).pos hq4)).eq] <;> first | rfl | (simp only [List.length_set] <;> rfl)), (hw1.fresh_out.sub (List.nil_sublist _)), (by rw [(((((hF.f hq1).f hq2).neg hq3).pos hq4)).eq]; exact OwnB.nil), (by rw [(((((hF.f hq1).f hq2).neg hq3).pos hq4)).eq]; first | exact lb)⟩
  refine JL_qg (q_move) (k := ?_)
  refine JL_qg (q_lenS Tryz.runUnderlying36) (k := ?_)
  refine JL_qg (q_geq) (k := ?_)
  refine JL_q (q_pickF) (k := ?_)
  refine JL_q (q_assign) (k := ?_)
  refine JL_nil ?_
  refine JX_seq ?_
  refine J_dec rfl (fun hq5 => ?_) (fun hq5 => ?_)
  · refine J_seq ?_
    refine J_reg ?_
    refine JL_q (q_assign) (k := ?_)
    refine JL_q (q_assign) (k := ?_)
    refine JL_nil ?_
    refine JX_seq ?_
    refine J_ret ?_
    refine JX_block_ret ?_
    refine JX_seq_ret ?_
    refine JX_ret Tryz.results25 (Res.tmp rfl (Res.tmp rfl Res.nil)) (fun w1 hw1 => ?_)
    exact ⟨none, 0, [], (by rw [((((((hF.f hq1).f hq2).neg hq3).neg hq4).pos hq5)).eq] <;> first | rfl | (simp only [List.length_set] <;> rfl)), (hw1.fresh_out.sub (List.nil_sublist _)), (by rw [((((((hF.f hq1).f hq2).neg hq3).neg hq4).pos hq5)).eq]; exact OwnB.nil), (by rw [((((((hF.f hq1).f hq2).neg hq3).neg hq4).pos hq5)).eq]; first | exact lb)⟩
  refine J_skip ?_
  refine JX_block ?_
  refine JX_seq ?_
  refine J_seq ?_
  refine J_reg ?_
  refine JL_q (q_assign) (k := ?_)
  refine JL_nil ?_
  refine JX_seq ?_
  refine J_seq ?_
  refine J_any (V := []) mixed 9 (by kernel_rfl) ?_
  refine JG_q 0 rfl (by kernel_rfl) (q_move) (k := ?_)
  refine JG_q 1 rfl (by kernel_rfl) (q_move) (k := ?_)
  refine JG_q 2 rfl (by kernel_rfl) (q_move) (k := ?_)
  have hl6 : (l.take ((at_).toNat)).length = (at_).toNat := by rw [List.length_take]; omega
  refine JG_q 3 rfl (by kernel_rfl) (q_sliceHi' (l.take ((at_).toNat)).length Tryz.runUnderlying36 (fun w => ⟨_, Tryz.sizeOf27 w⟩) (hm := by omega) (hi := by omega)) (k := ?_)
  refine JG_q 5 rfl (by kernel_rfl) (q_loadA Tryz.isAgg27 Tryz.sizeOf27) (k := ?_)
  refine JG_br [4, 6] (by kernel_rfl) rfl (List.forall_mem_cons.2 ⟨?_, (List.forall_mem_cons.2 ⟨?_, nofun⟩)⟩)
  · skip
    refine JO_appendV rfl (l.take ((at_).toNat)) (List.nil_append _) TY_27 Tryz.underlying36 eRule_ok OwnB.nil (List.Perm.refl _) ((SlJ.of_base h_l).take ((at_).toNat)) ⟨by omega, by omega⟩ (n := 0) (m := (l.take ((at_).toNat)).length) (k := fun ax101 cx101 Bx101 hox101 => ?_)
    refine JG_br [6] (by kernel_rfl) rfl (List.forall_mem_cons.2 ⟨?_, nofun⟩)
    · skip
      refine JO_a rfl noMk (a_bslice (l := [_, _, _, _, _]) Tryz.runUnderlying36 Tryz.sizeOf27 Tryz.zeroValue27) (k := fun r142 hr142 => ?_)
      refine JG_br [7] (by kernel_rfl) rfl (List.forall_mem_cons.2 ⟨?_, nofun⟩)
      · skip
        refine JO_appendV rfl ((l.take ((at_).toNat)) ++ ([r] : List Rule)) rfl TY_27 Tryz.underlying36 eRule_ok hox101 (List.Perm.refl _) (SlJ.lit (xs := ([r] : List Rule)) eRule_ok) ⟨by omega, by omega⟩ (n := (l.take ((at_).toNat)).length) (m := 1) (k := fun ax161 cx161 Bx161 hox161 => ?_)
        have hal161 : ((l.take ((at_).toNat)) ++ ([r] : List Rule)).length = (l.take ((at_).toNat)).length + 1 := by first | rfl | exact List.length_append | simp
        refine JG_q 8 rfl (by kernel_rfl) (q_assign) (k := ?_)
        refine JG_nil (by kernel_rfl) _ ?_
        refine JL_eqL (L' := (Bx161 ++ ((r142, Obj.cells [(Value.bool (r.allow)), (Value.int .i64 (r.pfx.addr)), (Value.int .i64 (r.pfx.bits)), (Value.int .i64 (r.prt.lo)), (Value.int .i64 (r.prt.hi))].toArray 27) :: ((r1, Obj.cells [(Value.bool (r.allow)), (Value.int .i64 (r.pfx.addr)), (Value.int .i64 (r.pfx.bits)), (Value.int .i64 (r.prt.lo)), (Value.int .i64 (r.prt.hi))].toArray 27) :: [])))) (by simp only [List.append_nil, List.append_assoc, List.cons_append, List.nil_append]) ?_
        refine JL_nil ?_
        refine JX_seq ?_
        refine J_seq ?_
        refine J_reg ?_
        refine JL_q (q_move) (k := ?_)
        refine JL_q (q_move) (k := ?_)
        refine JL_q (q_move) (k := ?_)
        have hld7 : (l.drop ((at_).toNat)).length = l.length - ((at_).toNat) := List.length_drop
        refine JL_q (q_sliceLo (n := l.length) (c := l_c) (i := at_) ((at_).toNat) (l.drop ((at_).toNat)).length Tryz.runUnderlying36 Tryz.sizeOf27 (hlo := by first | exact ix) (hnc := by first | omega | exact Nat.le_refl _) (hm := by first | rfl | (simp; done) | (simp only [List.length_append, List.length_take, List.length_drop, List.length_set, List.length_replicate, List.length_cons, List.length_nil, List.length_map, toS_length, toI_length]; omega))) (k := ?_)
        refine JL_append (((l.take ((at_).toNat)) ++ ([r] : List Rule)) ++ (l.drop ((at_).toNat))) rfl TY_27 Tryz.underlying36 eRule_ok hox161 q0 (SlJ.off (SlJ.of_base h_l) ((at_).toNat) l_c (by first | omega | exact Nat.le_refl _)) ⟨by omega, by omega⟩ (n := ((l.take ((at_).toNat)) ++ ([r] : List Rule)).length) (m := (l.drop ((at_).toNat)).length) (k := fun ax201 cx201 Bx201 hox201 => ?_)
        have hal201 : (((l.take ((at_).toNat)) ++ ([r] : List Rule)) ++ (l.drop ((at_).toNat))).length = ((l.take ((at_).toNat)) ++ ([r] : List Rule)).length + (l.drop ((at_).toNat)).length := by first | rfl | exact List.length_append | simp
        refine JL_q (q_assign) (k := ?_)
        refine JL_q (q_assign) (k := ?_)
        refine JL_nil ?_
        refine JX_seq ?_
        refine J_ret ?_
        refine JX_ret Tryz.results25 (Res.tmp rfl (Res.tmp rfl Res.nil)) (fun w1 hw1 => ?_)
        exact ⟨ax201, cx201, Bx201, (by rw [((((((hF.f hq1).f hq2).neg hq3).neg hq4).neg hq5)).eq] <;> first | rfl | (simp only [List.length_set] <;> rfl)), (fresh_segs (L := Bx201) (R := ((r142, Obj.cells [(Value.bool (r.allow)), (Value.int .i64 (r.pfx.addr)), (Value.int .i64 (r.pfx.bits)), (Value.int .i64 (r.prt.lo)), (Value.int .i64 (r.prt.hi))].toArray 27) :: ((r1, Obj.cells [(Value.bool (r.allow)), (Value.int .i64 (r.pfx.addr)), (Value.int .i64 (r.pfx.bits)), (Value.int .i64 (r.prt.lo)), (Value.int .i64 (r.prt.hi))].toArray 27) :: []))) (hw1.perm (List.Perm.refl _)) (by simp)), (by rw [((((((hF.f hq1).f hq2).neg hq3).neg hq4).neg hq5)).eq]; exact hox201), (by rw [((((((hF.f hq1).f hq2).neg hq3).neg hq4).neg hq5)).eq]; first | exact lb)⟩
  · skip
    refine JO_a rfl noMk (a_bslice (l := [_, _, _, _, _]) Tryz.runUnderlying36 Tryz.sizeOf27 Tryz.zeroValue27) (k := fun r142 hr142 => ?_)
    refine JG_br [4] (by kernel_rfl) rfl (List.forall_mem_cons.2 ⟨?_, nofun⟩)
    · skip
      refine JO_appendV rfl (l.take ((at_).toNat)) (List.nil_append _) TY_27 Tryz.underlying36 eRule_ok OwnB.nil (List.Perm.refl _) ((SlJ.of_base h_l).take ((at_).toNat)) ⟨by omega, by omega⟩ (n := 0) (m := (l.take ((at_).toNat)).length) (k := fun ax101 cx101 Bx101 hox101 => ?_)
      refine JG_br [7] (by kernel_rfl) rfl (List.forall_mem_cons.2 ⟨?_, nofun⟩)
      · skip
        refine JO_appendV rfl ((l.take ((at_).toNat)) ++ ([r] : List Rule)) rfl TY_27 Tryz.underlying36 eRule_ok hox101 (List.Perm.refl _) (SlJ.lit (xs := ([r] : List Rule)) eRule_ok) ⟨by omega, by omega⟩ (n := (l.take ((at_).toNat)).length) (m := 1) (k := fun ax161 cx161 Bx161 hox161 => ?_)
        have hal161 : ((l.take ((at_).toNat)) ++ ([r] : List Rule)).length = (l.take ((at_).toNat)).length + 1 := by first | rfl | exact List.length_append | simp
        refine JG_q 8 rfl (by kernel_rfl) (q_assign) (k := ?_)
        refine JG_nil (by kernel_rfl) _ ?_
        refine JL_eqL (L' := (Bx161 ++ ((r142, Obj.cells [(Value.bool (r.allow)), (Value.int .i64 (r.pfx.addr)), (Value.int .i64 (r.pfx.bits)), (Value.int .i64 (r.prt.lo)), (Value.int .i64 (r.prt.hi))].toArray 27) :: ((r1, Obj.cells [(Value.bool (r.allow)), (Value.int .i64 (r.pfx.addr)), (Value.int .i64 (r.pfx.bits)), (Value.int .i64 (r.prt.lo)), (Value.int .i64 (r.prt.hi))].toArray 27) :: [])))) (by simp only [List.append_nil, List.append_assoc, List.cons_append, List.nil_append]) ?_
        refine JL_nil ?_
        refine JX_seq ?_
        refine J_seq ?_
        refine J_reg ?_
        refine JL_q (q_move) (k := ?_)
        refine JL_q (q_move) (k := ?_)
        refine JL_q (q_move) (k := ?_)
        have hld8 : (l.drop ((at_).toNat)).length = l.length - ((at_).toNat) := List.length_drop
        refine JL_q (q_sliceLo (n := l.length) (c := l_c) (i := at_) ((at_).toNat) (l.drop ((at_).toNat)).length Tryz.runUnderlying36 Tryz.sizeOf27 (hlo := by first | exact ix) (hnc := by first | omega | exact Nat.le_refl _) (hm := by first | rfl | (simp; done) | (simp only [List.length_append, List.length_take, List.length_drop, List.length_set, List.length_replicate, List.length_cons, List.length_nil, List.length_map, toS_length, toI_length]; omega))) (k := ?_)
        refine JL_append (((l.take ((at_).toNat)) ++ ([r] : List Rule)) ++ (l.drop ((at_).toNat))) rfl TY_27 Tryz.underlying36 eRule_ok hox161 q0 (SlJ.off (SlJ.of_base h_l) ((at_).toNat) l_c (by first | omega | exact Nat.le_refl _)) ⟨by omega, by omega⟩ (n := ((l.take ((at_).toNat)) ++ ([r] : List Rule)).length) (m := (l.drop ((at_).toNat)).length) (k := fun ax201 cx201 Bx201 hox201 => ?_)
        have hal201 : (((l.take ((at_).toNat)) ++ ([r] : List Rule)) ++ (l.drop ((at_).toNat))).length = ((l.take ((at_).toNat)) ++ ([r] : List Rule)).length + (l.drop ((at_).toNat)).length := by first | rfl | exact List.length_append | simp
        refine JL_q (q_assign) (k := ?_)
        refine JL_q (q_assign) (k := ?_)
        refine JL_nil ?_
        refine JX_seq ?_
        refine J_ret ?_
        refine JX_ret Tryz.results25 (Res.tmp rfl (Res.tmp rfl Res.nil)) (fun w1 hw1 => ?_)
        exact ⟨ax201, cx201, Bx201, (by rw [((((((hF.f hq1).f hq2).neg hq3).neg hq4).neg hq5)).eq] <;> first | rfl | (simp only [List.length_set] <;> rfl)), (fresh_segs (L := Bx201) (R := ((r142, Obj.cells [(Value.bool (r.allow)), (Value.int .i64 (r.pfx.addr)), (Value.int .i64 (r.pfx.bits)), (Value.int .i64 (r.prt.lo)), (Value.int .i64 (r.prt.hi))].toArray 27) :: ((r1, Obj.cells [(Value.bool (r.allow)), (Value.int .i64 (r.pfx.addr)), (Value.int .i64 (r.pfx.bits)), (Value.int .i64 (r.prt.lo)), (Value.int .i64 (r.prt.hi))].toArray 27) :: []))) (hw1.perm (List.Perm.refl _)) (by simp)), (by rw [((((((hF.f hq1).f hq2).neg hq3).neg hq4).neg hq5)).eq]; exact hox201), (by rw [((((((hF.f hq1).f hq2).neg hq3).neg hq4).neg hq5)).eq]; first | exact lb)⟩

theorem rlRemove_ok (w : World) {l_a : Option Addr} {l_c : Nat} {l : List Rule} {at_ : Int} (h_l : Sl w eRule 5 l_a l) (n_l : l.length ≤ 1000) (k_l : l.length ≤ l_c) : Calls Tryz.prog 27 (List.toArray [(Value.slice (l_a) (l.length) (l_c)), (Value.int .i64 (at_))]) w fun e w2 => ∃ a1 : Option Addr, ∃ c1 : Nat, ∃ B1 : Heap, e = .returned (Value.tuple [(Value.slice (a1) ((rlRemove l at_).1.length) (c1)), (Value.int .i64 (((rlRemove l at_).2)))].toArray) ∧ Fresh w w2 B1 ∧ OwnB eRule 5 27 a1 c1 B1 (rlRemove l at_).1 ∧ (rlRemove l at_).1.length ≤ 1000 := by
  have hF := Is.refl (rlRemove l at_)
  refine enter Tryz.func27 Tryz.ntmps27 (h := ?_)
  refine J_seq ?_
  refine J_reg ?_
  refine JL_q (q_assign) (k := ?_)
  refine JL_q (q_assign) (k := ?_)
  refine JL_nil ?_
  refine JX_seq ?_
  refine J_seq ?_
  refine J_block ?_
  refine J_seq ?_
  refine J_reg ?_
  refine JL_q (q_move) (k := ?_)
  refine JL_v (args := [(Value.slice (l_a) (l.length) (l_c))]) (c_callA Tryz.call21) (fun w1 hw1 => rlRight_ok w1 (l := l) (h_l := (SlJ.of_base h_l) w1 hw1) (n_l := by first | exact lb | decide)) (k := ?_)
  refine JL_q (q_not) (k := ?_)
  refine JL_q (q_assign) (k := ?_)
  refine JL_nil ?_
  refine JX_seq ?_
  refine J_cond rfl (fun hq1 => ?_) (fun hq1 => ?_)
  · refine J_seq ?_
    refine J_reg ?_
    refine JL_q (q_assign) (k := ?_)
    refine JL_q (q_assign) (k := ?_)
    refine JL_nil ?_
    refine JX_seq ?_
    refine J_ret ?_
    refine JX_block_ret ?_
    refine JX_seq_ret ?_
    refine JX_ret Tryz.results27 (Res.tmp rfl (Res.tmp rfl Res.nil)) (fun w1 hw1 => ?_)
    exact ⟨none, 0, [], (by rw [((hF.t hq1)).eq] <;> first | rfl | (simp only [List.length_set] <;> rfl)), (hw1.fresh_out.sub (List.nil_sublist _)), (by rw [((hF.t hq1)).eq]; exact OwnB.nil), (by rw [((hF.t hq1)).eq]; first | exact lb)⟩
  refine J_seq ?_
  refine J_reg ?_
  refine JL_q (q_move) (k := ?_)
  refine JL_q (q_lss) (k := ?_)
  refine JL_q (q_move) (k := ?_)
  refine JL_dec 14 rfl (fun hq2 => ?_) (fun hq2 => ?_)
  · refine JL_skips 4 rfl ?_
    refine JL_q (q_pickT) (k := ?_)
    refine JL_q (q_assign) (k := ?_)
    refine JL_nil ?_
    refine JX_seq ?_
    refine J_true rfl ?_
    refine J_seq ?_
    refine J_reg ?_
    refine JL_q (q_assign) (k := ?_)
    refine JL_q (q_assign) (k := ?_)
    refine JL_nil ?_
    refine JX_seq ?_
    refine J_ret ?_
    refine JX_block_ret ?_
    refine JX_seq_ret ?_
    refine JX_ret Tryz.results27 (Res.tmp rfl (Res.tmp rfl Res.nil)) (fun w1 hw1 => ?_)
    exact ⟨none, 0, [], (by rw [(((hF.f hq1).pos hq2)).eq] <;> first | rfl | (simp only [List.length_set] <;> rfl)), (hw1.fresh_out.sub (List.nil_sublist _)), (by rw [(((hF.f hq1).pos hq2)).eq]; exact OwnB.nil), (by rw [(((hF.f hq1).pos hq2)).eq]; first | exact lb)⟩
  refine JL_qg (q_move) (k := ?_)
  refine JL_qg (q_move) (k := ?_)
  refine JL_qg (q_lenS Tryz.runUnderlying36) (k := ?_)
  refine JL_qg (q_geq) (k := ?_)
  refine JL_q (q_pickF) (k := ?_)
  refine JL_q (q_assign) (k := ?_)
  refine JL_nil ?_
  refine JX_seq ?_
  refine J_dec rfl (fun hq3 => ?_) (fun hq3 => ?_)
  · refine J_seq ?_
    refine J_reg ?_
    refine JL_q (q_assign) (k := ?_)
    refine JL_q (q_assign) (k := ?_)
    refine JL_nil ?_
    refine JX_seq ?_
    refine J_ret ?_
    refine JX_block_ret ?_
    refine JX_seq_ret ?_
    refine JX_ret Tryz.results27 (Res.tmp rfl (Res.tmp rfl Res.nil)) (fun w1 hw1 => ?_)
    exact ⟨none, 0, [], (by rw [((((hF.f hq1).neg hq2).pos hq3)).eq] <;> first | rfl | (simp only [List.length_set] <;> rfl)), (hw1.fresh_out.sub (List.nil_sublist _)), (by rw [((((hF.f hq1).neg hq2).pos hq3)).eq]; exact OwnB.nil), (by rw [((((hF.f hq1).neg hq2).pos hq3)).eq]; first | exact lb)⟩
  refine J_skip ?_
  refine JX_block ?_
  refine JX_seq ?_
  refine J_seq ?_
  refine J_reg ?_
  refine JL_q (q_assign) (k := ?_)
  refine JL_nil ?_
  refine JX_seq ?_
  refine J_seq ?_
  refine J_plan mixed 12 [(true, 0), (true, 1), (true, 2), (true, 3), (true, 5), (true, 6), (true, 7), (true, 8), (false, 4), (false, 9), (true, 10), (true, 11)] (by kernel_rfl) ?_
  refine JD_q (q_move) (k := ?_)
  refine JD_q (q_move) (k := ?_)
  refine JD_q (q_move) (k := ?_)
  have hl4 : (l.take ((at_).toNat)).length = (at_).toNat := by rw [List.length_take]; omega
  refine JD_q (q_sliceHi' (l.take ((at_).toNat)).length Tryz.runUnderlying36 (fun w => ⟨_, Tryz.sizeOf27 w⟩) (hm := by omega) (hi := by omega)) (k := ?_)
  refine JD_q (q_move) (k := ?_)
  refine JD_q (q_move) (k := ?_)
  refine JD_q (q_add) (k := ?_)
  have hld5 : (l.drop (((at_ + 1)).toNat)).length = l.length - (((at_ + 1)).toNat) := List.length_drop
  refine JD_q (q_sliceLo (n := l.length) (c := l_c) (i := (at_ + 1)) (((at_ + 1)).toNat) (l.drop (((at_ + 1)).toNat)).length Tryz.runUnderlying36 Tryz.sizeOf27 (hlo := by first | exact ix) (hnc := by first | omega | exact Nat.le_refl _) (hm := by first | rfl | (simp; done) | (simp only [List.length_append, List.length_take, List.length_drop, List.length_set, List.length_replicate, List.length_cons, List.length_nil, List.length_map, toS_length, toI_length]; omega))) (k := ?_)
  refine JD_append (l.take ((at_).toNat)) (List.nil_append _) TY_27 Tryz.underlying36 eRule_ok OwnB.nil (List.Perm.refl _) ((SlJ.of_base h_l).take ((at_).toNat)) ⟨by omega, by omega⟩ (n := 0) (m := (l.take ((at_).toNat)).length) (k := fun ax1 cx1 Bx1 hox1 => ?_)
  refine JD_append ((l.take ((at_).toNat)) ++ (l.drop (((at_ + 1)).toNat))) rfl TY_27 Tryz.underlying36 eRule_ok hox1 q0 (SlJ.off (SlJ.of_base h_l) (((at_ + 1)).toNat) l_c (by first | omega | exact Nat.le_refl _)) ⟨by omega, by omega⟩ (n := (l.take ((at_).toNat)).length) (m := (l.drop (((at_ + 1)).toNat)).length) (k := fun ax2 cx2 Bx2 hox2 => ?_)
  have hal2 : ((l.take ((at_).toNat)) ++ (l.drop (((at_ + 1)).toNat))).length = (l.take ((at_).toNat)).length + (l.drop (((at_ + 1)).toNat)).length := by first | rfl | exact List.length_append | simp
  refine JD_q (q_assign) (k := ?_)
  refine JD_q (q_assign) (k := ?_)
  refine JD_nil ?_
  refine JL_eqL (L' := (Bx2 ++ [])) (by simp only [List.append_nil, List.append_assoc, List.cons_append, List.nil_append]) ?_
  refine JL_nil ?_
  refine JX_seq ?_
  refine J_ret ?_
  refine JX_ret Tryz.results27 (Res.tmp rfl (Res.tmp rfl Res.nil)) (fun w1 hw1 => ?_)
  exact ⟨ax2, cx2, Bx2, (by rw [((((hF.f hq1).neg hq2).neg hq3)).eq] <;> first | rfl | (simp only [List.length_set] <;> rfl)), (fresh_segs (L := Bx2) (R := []) (hw1.perm (List.Perm.refl _)) (by simp)), (by rw [((((hF.f hq1).neg hq2).neg hq3)).eq]; exact hox2), (by rw [((((hF.f hq1).neg hq2).neg hq3)).eq]; first | exact lb)⟩

theorem rlSame_ok (w : World) {a_a : Option Addr} {a_c : Nat} {b_a : Option Addr} {b_c : Nat} {a : List Rule} {b : List Rule} (h_a : Sl w eRule 5 a_a a) (n_a : a.length ≤ 1001) (h_b : Sl w eRule 5 b_a b) (n_b : b.length ≤ 1001) : Val Tryz.prog 28 [(Value.slice (a_a) (a.length) (a_c)), (Value.slice (b_a) (b.length) (b_c))] w (Value.bool ((rlSame a b))) := by
  have hF := Is.refl (rlSame a b)
  refine enter Tryz.func28 Tryz.ntmps28 (h := ?_)
  refine J_seq ?_
  refine J_reg ?_
  refine JL_q (q_assign) (k := ?_)
  refine JL_nil ?_
  refine JX_seq ?_
  refine J_seq ?_
  refine J_seq ?_
  refine J_reg ?_
  refine JL_q (q_move) (k := ?_)
  refine JL_q (q_lenS Tryz.runUnderlying36) (k := ?_)
  refine JL_q (q_move) (k := ?_)
  refine JL_q (q_lenS Tryz.runUnderlying36) (k := ?_)
  refine JL_q (q_neq) (k := ?_)
  refine JL_nil ?_
  refine JX_seq ?_
  refine J_dec rfl (fun hq1 => ?_) (fun hq1 => ?_)
  · refine J_seq ?_
    refine J_reg ?_
    refine JL_q (q_assign) (k := ?_)
    refine JL_nil ?_
    refine JX_seq ?_
    refine J_ret ?_
    refine JX_seq_ret ?_
    refine JX_ret Tryz.results28 (Res.tmp rfl Res.nil) (fun w1 hw1 => ?_)
    exact ⟨(by rw [((hF.pos hq1)).eq] <;> first | rfl | (simp only [List.length_set] <;> rfl)), hw1.ext_out⟩
  refine J_skip ?_
  refine JX_seq ?_
  refine J_seq ?_
  refine J_seq ?_
  refine J_reg ?_
  refine JL_q (q_assign) (k := ?_)
  refine JL_nil ?_
  refine JX_seq ?_
  refine J_block ?_
  refine J_loop2 (σ1 := Nat) (σ2 := Nat) (fun n_2 i_1 => []) (fun n_2 i_1 => [(0, (Value.slice (a_a) (a.length) (a_c))), (1, (Value.slice (b_a) (b.length) (b_c))), (4, (Value.bool (false))), (5, (Value.int .i64 (((i_1 : Nat) : Int))))]) (fun n_2 i_1 => a.length - i_1 < n_2 ∧ Is (rlSame_l0 a b (a.length + 1) 0) (rlSame_l0 a b n_2 i_1) ∧ i_1 ≤ a.length) (fun n_2 i_1 => n_2) (a.length + 1) 0 ?_ se (List.Perm.refl _) ?_
  · exact ⟨Nat.lt_succ_self _, Is.refl _, (by first | omega | rfl | (simp; done))⟩
  · rintro (_ | n_2) i_1 ⟨hm4, hF3, hi5⟩
    · omega
    refine J_seq ?_
    refine J_seq ?_
    refine J_reg ?_
    refine JL_q (q_move) (k := ?_)
    refine JL_q (q_move) (k := ?_)
    refine JL_q (q_lenS Tryz.runUnderlying36) (k := ?_)
    refine JL_q (q_lss) (k := ?_)
    refine JL_nil ?_
    refine JX_seq ?_
    refine J_dec rfl (fun hq2 => ?_) (fun hq2 => ?_)
    rotate_left
    · refine J_exit ?_
      refine JX_seq_exit ?_
      refine JX_inv_exit ?_
      refine JX_block_hit ?_
      refine JX_seq ?_
      refine J_seq ?_
      refine J_reg ?_
      refine JL_q (q_assign) (k := ?_)
      refine JL_nil ?_
      refine JX_seq ?_
      refine J_ret ?_
      refine JX_ret Tryz.results28 (Res.tmp rfl Res.nil) (fun w1 hw1 => ?_)
      exact ⟨(by rw [(((hF.neg hq1).ok1 (hF3.neg hq2))).eq] <;> first | rfl | (simp only [List.length_set] <;> rfl)), hw1.ext_out⟩
    refine J_skip ?_
    refine JX_seq ?_
    refine J_seq ?_
    refine J_block ?_
    refine J_seq ?_
    refine J_plan mixed 9 [(true, 0), (true, 1), (true, 2), (true, 3), (true, 4), (true, 5), (true, 6), (true, 7), (true, 8)] (by kernel_rfl) ?_
    refine JD_q (q_move) (k := ?_)
    refine JD_q (q_move) (k := ?_)
    refine JD_q (q_idx (n := a.length) Tryz.runUnderlying36 Tryz.sizeOf27 i_1 (SlJ.of_base h_a) (gD (by first | exact ix)) (by first | rfl | simp)) (k := ?_)
    refine JD_q (q_loadEA Tryz.isAgg27 Tryz.sizeOf27 i_1 (SlJ.of_base h_a) (gD (by first | exact ix))) (k := ?_)
    refine JD_q (q_move) (k := ?_)
    refine JD_q (q_move) (k := ?_)
    refine JD_q (q_idx (n := b.length) Tryz.runUnderlying36 Tryz.sizeOf27 i_1 (SlJ.of_base h_b) (gD (by first | exact ix)) (by first | rfl | simp)) (k := ?_)
    refine JD_q (q_loadEA Tryz.isAgg27 Tryz.sizeOf27 i_1 (SlJ.of_base h_b) (gD (by first | exact ix))) (k := ?_)
    refine JD_q (q_neS (NE_27 _ _ _ _ _ _ _ _ _ _ _ _)) (k := ?_)
    refine JD_nil0 ?_
    refine JL_nil ?_
    refine JX_seq ?_
    refine J_dec rfl (fun hq3 => ?_) (fun hq3 => ?_)
    rotate_left
    · refine J_skip ?_
      refine JX_block ?_
      refine JX_seq ?_
      refine J_reg ?_
      refine JL_q (q_move) (k := ?_)
      refine JL_q (q_add) (k := ?_)
      refine JL_q (q_assign) (k := ?_)
      refine JL_nil ?_
      exact JX_inv2 n_2 (i_1 + 1) ⟨by omega, ((hF3.pos hq2).neg hq3), (by omega)⟩ (Nat.lt_succ_self _) se (List.Perm.refl _)
    refine J_seq ?_
    refine J_reg ?_
    refine JL_q (q_assign) (k := ?_)
    refine JL_nil ?_
    refine JX_seq ?_
    refine J_ret ?_
    refine JX_block_ret ?_
    refine JX_seq_ret ?_
    refine JX_inv_ret ?_
    refine JX_block_ret ?_
    refine JX_seq_ret ?_
    refine JX_ret Tryz.results28 (Res.tmp rfl Res.nil) (fun w1 hw1 => ?_)
    exact ⟨(by rw [(((hF.neg hq1).er1 ((hF3.pos hq2).pos hq3))).eq] <;> first | rfl | (simp only [List.length_set] <;> rfl)), hw1.ext_out⟩

end Go.Proofs.YtnblakihpoacjaaGreatDoor.Jd

namespace Go.Proofs.YtnblakihpoacjaaGreatDoor
open Go.Proofs Go.Proofs.YtnblakihpoacjaaGreatDoor.Jd
open Go.ChangeShapes Go.WideShapes Go.ChangeAt Go.RowKit Go.ChangeMaps
set_option maxRecDepth 100000
set_option linter.unusedVariables false
set_option linter.unusedSimpArgs false
theorem laidOut : laidOutB Tryz.prog = true := by kernel_rfl
theorem own' : ownKnob Tryz.prog.godebug = none := by kernel_rfl
section
variable {H : Type} {enc : TypeId × Value → H} {W : World}
theorem open_4 {n : Nat} {cs : List Value} {y : DataW H × List MemPlace} (h : DataW.trod enc Tryz.prog W 0 (fun _ => true) true n 4 cs = some y) : ∃ v0 : Bool, cs = [Value.bool v0] := by
  obtain ⟨b, h1, _⟩ := DataW.trod_bool Tryz.underlying4 h
  exact ⟨b, h1⟩
theorem open_3 {n : Nat} {cs : List Value} {y : DataW H × List MemPlace} (h : DataW.trod enc Tryz.prog W 0 (fun _ => true) true n 3 cs = some y) : ∃ v0 : Int, cs = [Value.int .i64 v0] ∧ (-9223372036854775808 ≤ v0 ∧ v0 ≤ 9223372036854775807) := by
  obtain ⟨m, h1, _, h3⟩ := DataW.trod_int Tryz.underlying3 h
  exact ⟨m, h1, lit_i64 h3⟩
theorem open_23 {n : Nat} {cs : List Value} {y : DataW H × List MemPlace} (h : DataW.trod enc Tryz.prog W 0 (fun _ => true) true n 23 cs = some y) : ∃ v0 : Int, ∃ v1 : Int, cs = [Value.int .i64 v0, Value.int .i64 v1] ∧ (-9223372036854775808 ≤ v0 ∧ v0 ≤ 9223372036854775807) ∧ (-9223372036854775808 ≤ v1 ∧ v1 ≤ 9223372036854775807) := by
  obtain ⟨xs, m, _, _, hlen, hxl, hf⟩ := DataW.trod_struct Tryz.underlying23 h
  have hc : cs.length = 2 := Eq.trans hlen (by kernel_rfl)
  have hxl2 : xs.length = 2 := by simpa using hxl
  have e0 := hf 0 _ rfl
  rw [List.getElem?_eq_getElem (by omega)] at e0
  obtain ⟨v0_0, q0, f0_0⟩ := open_3 e0
  have q02 : (cs.drop 0).take 1 = [.int .i64 v0_0] := Eq.trans (congrArg (fun k => (cs.drop 0).take k) (show 1 = Tryz.prog.cellsOf 3 by kernel_rfl)) q0
  have e1 := hf 1 _ rfl
  rw [List.getElem?_eq_getElem (by omega)] at e1
  obtain ⟨v1_0, q1, f1_0⟩ := open_3 e1
  have q12 : (cs.drop 1).take 1 = [.int .i64 v1_0] := Eq.trans (congrArg (fun k => (cs.drop 1).take k) (show 1 = Tryz.prog.cellsOf 3 by kernel_rfl)) q1
  refine ⟨v0_0, v1_0, ?_, f0_0, f1_0⟩
  have h0 : cs = cs.drop 0 := rfl
  rw [h0, seg_split cs 0 1 1 rfl, q02, seg_split cs 1 1 2 rfl, q12, List.drop_of_length_le (by omega)]
  rfl
theorem open_25 {n : Nat} {cs : List Value} {y : DataW H × List MemPlace} (h : DataW.trod enc Tryz.prog W 0 (fun _ => true) true n 25 cs = some y) : ∃ v0 : Int, ∃ v1 : Int, cs = [Value.int .i64 v0, Value.int .i64 v1] ∧ (-9223372036854775808 ≤ v0 ∧ v0 ≤ 9223372036854775807) ∧ (-9223372036854775808 ≤ v1 ∧ v1 ≤ 9223372036854775807) := by
  obtain ⟨xs, m, _, _, hlen, hxl, hf⟩ := DataW.trod_struct Tryz.underlying25 h
  have hc : cs.length = 2 := Eq.trans hlen (by kernel_rfl)
  have hxl2 : xs.length = 2 := by simpa using hxl
  have e0 := hf 0 _ rfl
  rw [List.getElem?_eq_getElem (by omega)] at e0
  obtain ⟨v0_0, q0, f0_0⟩ := open_3 e0
  have q02 : (cs.drop 0).take 1 = [.int .i64 v0_0] := Eq.trans (congrArg (fun k => (cs.drop 0).take k) (show 1 = Tryz.prog.cellsOf 3 by kernel_rfl)) q0
  have e1 := hf 1 _ rfl
  rw [List.getElem?_eq_getElem (by omega)] at e1
  obtain ⟨v1_0, q1, f1_0⟩ := open_3 e1
  have q12 : (cs.drop 1).take 1 = [.int .i64 v1_0] := Eq.trans (congrArg (fun k => (cs.drop 1).take k) (show 1 = Tryz.prog.cellsOf 3 by kernel_rfl)) q1
  refine ⟨v0_0, v1_0, ?_, f0_0, f1_0⟩
  have h0 : cs = cs.drop 0 := rfl
  rw [h0, seg_split cs 0 1 1 rfl, q02, seg_split cs 1 1 2 rfl, q12, List.drop_of_length_le (by omega)]
  rfl
theorem open_27 {n : Nat} {cs : List Value} {y : DataW H × List MemPlace} (h : DataW.trod enc Tryz.prog W 0 (fun _ => true) true n 27 cs = some y) : ∃ v0 : Bool, ∃ v1 : Int, ∃ v2 : Int, ∃ v3 : Int, ∃ v4 : Int, cs = [Value.bool v0, Value.int .i64 v1, Value.int .i64 v2, Value.int .i64 v3, Value.int .i64 v4] ∧ (-9223372036854775808 ≤ v1 ∧ v1 ≤ 9223372036854775807) ∧ (-9223372036854775808 ≤ v2 ∧ v2 ≤ 9223372036854775807) ∧ (-9223372036854775808 ≤ v3 ∧ v3 ≤ 9223372036854775807) ∧ (-9223372036854775808 ≤ v4 ∧ v4 ≤ 9223372036854775807) := by
  obtain ⟨xs, m, _, _, hlen, hxl, hf⟩ := DataW.trod_struct Tryz.underlying27 h
  have hc : cs.length = 5 := Eq.trans hlen (by kernel_rfl)
  have hxl2 : xs.length = 3 := by simpa using hxl
  have e0 := hf 0 _ rfl
  rw [List.getElem?_eq_getElem (by omega)] at e0
  obtain ⟨v0_0, q0⟩ := open_4 e0
  have q02 : (cs.drop 0).take 1 = [.bool v0_0] := Eq.trans (congrArg (fun k => (cs.drop 0).take k) (show 1 = Tryz.prog.cellsOf 4 by kernel_rfl)) q0
  have e1 := hf 1 _ rfl
  rw [List.getElem?_eq_getElem (by omega)] at e1
  obtain ⟨v1_0, v1_1, q1, f1_0, f1_1⟩ := open_23 e1
  have q12 : (cs.drop 1).take 2 = [.int .i64 v1_0, .int .i64 v1_1] := Eq.trans (congrArg (fun k => (cs.drop 1).take k) (show 2 = Tryz.prog.cellsOf 23 by kernel_rfl)) q1
  have e2 := hf 2 _ rfl
  rw [List.getElem?_eq_getElem (by omega)] at e2
  obtain ⟨v2_0, v2_1, q2, f2_0, f2_1⟩ := open_25 e2
  have q22 : (cs.drop 3).take 2 = [.int .i64 v2_0, .int .i64 v2_1] := Eq.trans (congrArg (fun k => (cs.drop 3).take k) (show 2 = Tryz.prog.cellsOf 25 by kernel_rfl)) q2
  refine ⟨v0_0, v1_0, v1_1, v2_0, v2_1, ?_, f1_0, f1_1, f2_0, f2_1⟩
  have h0 : cs = cs.drop 0 := rfl
  rw [h0, seg_split cs 0 1 1 rfl, q02, seg_split cs 1 2 3 rfl, q12, seg_split cs 3 2 5 rfl, q22, List.drop_of_length_le (by omega)]
  rfl
theorem open_36 {n : Nat} {cs : List Value} {y : DataW H × List MemPlace} (h : DataW.trod enc Tryz.prog W 0 (fun _ => true) true n 36 cs = some y) : ∃ v0 : Option Addr, ∃ v1 : Nat, ∃ v2 : List Rule, cs = [Value.slice v0 v2.length v1] ∧ v2.length ≤ v1 ∧ Sl W eRule 5 v0 v2 := by
  obtain ⟨a, c, xs, h1, h2, h3⟩ := open_sl (enc := eRule) (k := 5) Tryz.underlying36 (by kernel_rfl) eRule_ok (fun n cs y h => by obtain ⟨v0, v1, v2, v3, v4, rfl, _, _, _, _⟩ := open_27 h; exact ⟨(Rule.mk v0 (Prefix.mk v1 v2) (PortsT.mk v3 v4)), rfl⟩) h
  exact ⟨a, c, xs, h1, h2, h3⟩
theorem open_39 {n : Nat} {cs : List Value} {y : DataW H × List MemPlace} (h : DataW.trod enc Tryz.prog W 0 (fun _ => true) true n 39 cs = some y) : ∃ v0 : Int, ∃ v1 : Int, cs = [Value.int .i64 v0, Value.int .i64 v1] ∧ (-9223372036854775808 ≤ v0 ∧ v0 ≤ 9223372036854775807) ∧ (-9223372036854775808 ≤ v1 ∧ v1 ≤ 9223372036854775807) := by
  obtain ⟨xs, m, _, _, hlen, hxl, hf⟩ := DataW.trod_struct Tryz.underlying39 h
  have hc : cs.length = 2 := Eq.trans hlen (by kernel_rfl)
  have hxl2 : xs.length = 2 := by simpa using hxl
  have e0 := hf 0 _ rfl
  rw [List.getElem?_eq_getElem (by omega)] at e0
  obtain ⟨v0_0, q0, f0_0⟩ := open_3 e0
  have q02 : (cs.drop 0).take 1 = [.int .i64 v0_0] := Eq.trans (congrArg (fun k => (cs.drop 0).take k) (show 1 = Tryz.prog.cellsOf 3 by kernel_rfl)) q0
  have e1 := hf 1 _ rfl
  rw [List.getElem?_eq_getElem (by omega)] at e1
  obtain ⟨v1_0, q1, f1_0⟩ := open_3 e1
  have q12 : (cs.drop 1).take 1 = [.int .i64 v1_0] := Eq.trans (congrArg (fun k => (cs.drop 1).take k) (show 1 = Tryz.prog.cellsOf 3 by kernel_rfl)) q1
  refine ⟨v0_0, v1_0, ?_, f0_0, f1_0⟩
  have h0 : cs = cs.drop 0 := rfl
  rw [h0, seg_split cs 0 1 1 rfl, q02, seg_split cs 1 1 2 rfl, q12, List.drop_of_length_le (by omega)]
  rfl
end
def laidD : List (String × DataW Unit) := [("math/bits.deBruijn32tab", Rows.laid_math_bits_deBruijn32tab), ("math/bits.deBruijn64tab", Rows.laid_math_bits_deBruijn64tab), ("internal/strconv.uint64pow10", Rows.laid_internal_strconv_uint64pow10), ("wicketgate/ports.errPorts", Rows.laid_wicketgate_ports_errPorts), ("wicketgate/ports.errTarget", Rows.laid_wicketgate_ports_errTarget), ("wicketgate/acl.errRules", Rows.laid_wicketgate_acl_errRules), ("wicketgate/acl.errRule", Rows.laid_wicketgate_acl_errRule), ("wicketgate/acl.errPlace", Rows.laid_wicketgate_acl_errPlace), ("wicketgate/acl.errTarget", Rows.laid_wicketgate_acl_errTarget)]
noncomputable def laidW0 (os : Os) : World := { World.holding Tryz.prog os ⟨#[], #[], []⟩ with heap := ((World.holding Tryz.prog os ⟨#[], #[], []⟩).heap.modify 6 fun
      | .cells _ t frozen => .cells #[.iface 175 (.agg #[.pointer (some ⟨11, 57, none⟩)])] t frozen
      | o => o) }
noncomputable def laidWorld (os : Os) : World := (laidW0 os).layVars Tryz.prog laidD
theorem ern0 : Tryz.prog.globalNamed "wicketgate/ports.errPorts" = some 4 := by kernel_rfl
theorem ert0 : (Tryz.prog.globals[4]?).map (·.type) = some 57 := by kernel_rfl
theorem ern1 : Tryz.prog.globalNamed "wicketgate/ports.errTarget" = some 5 := by kernel_rfl
theorem ert1 : (Tryz.prog.globals[5]?).map (·.type) = some 57 := by kernel_rfl
theorem ern2 : Tryz.prog.globalNamed "wicketgate/acl.errRules" = some 1 := by kernel_rfl
theorem ert2 : (Tryz.prog.globals[1]?).map (·.type) = some 57 := by kernel_rfl
theorem ern3 : Tryz.prog.globalNamed "wicketgate/acl.errRule" = some 0 := by kernel_rfl
theorem ert3 : (Tryz.prog.globals[0]?).map (·.type) = some 57 := by kernel_rfl
theorem ern4 : Tryz.prog.globalNamed "wicketgate/acl.errPlace" = some 2 := by kernel_rfl
theorem ert4 : (Tryz.prog.globals[2]?).map (·.type) = some 57 := by kernel_rfl
theorem ern5 : Tryz.prog.globalNamed "wicketgate/acl.errTarget" = some 3 := by kernel_rfl
theorem ert5 : (Tryz.prog.globals[3]?).map (·.type) = some 57 := by kernel_rfl
theorem er_star : "*" ++ "errors.errorString" = "*errors.errorString" := by decide
theorem er_row (u : TypeId) (h : Tryz.prog.typeName? 3 u = some "*errors.errorString") : u = 242 :=
  typeName_ptr_named (nm := "errors.errorString") (by rw [er_star]; kernel_rfl) (by kernel_rfl) (by decide) u (by rw [er_star]; exact h)

theorem er_c1 : Tryz.prog.cellsOf 261 = 1 := by kernel_rfl
theorem er_c2 : Tryz.prog.cellsOf 9 = 1 := by kernel_rfl
end Go.Proofs.YtnblakihpoacjaaGreatDoor

namespace Go.Proofs.YtnblakihpoacjaaGreatDoor.Jd
open Go.Proofs
open Go.RowKit (Below)
set_option maxRecDepth 100000
set_option maxHeartbeats 8000000
set_option linter.unusedVariables false
set_option linter.unusedSimpArgs false
theorem lcut8_ok (w : World) {s : Str} : Val Tryz.prog 12 [(Value.string (bs s))] w (Value.string (bs (lcut8 s))) := by
  have hF := Is.refl (lcut8 s)
  refine enter Tryz.func12 Tryz.ntmps12 (h := ?_)
  refine J_seq ?_
  refine J_reg ?_
  refine JL_q (q_assign) (k := ?_)
  refine JL_nil ?_
  refine JX_seq ?_
  refine J_seq ?_
  refine J_reg ?_
  refine JL_q (q_move) (k := ?_)
  refine JL_q (q_move) (k := ?_)
  refine JL_q (q_lenT Tryz.runUnderlying9) (k := ?_)
  refine JL_q (q_min) (k := ?_)
  refine JL_q (q_subThi (s := s) (min s.length 60) Tryz.runUnderlying9 (by first | (split <;> omega) | omega) (hj := by split <;> omega)) (k := ?_)
  have hsb1 : (s.take (min s.length 60)).length = (min s.length 60) := by first | omega | (simp only [List.length_take, List.length_drop, List.length_cons, List.length_nil] <;> omega)
  refine JL_q (q_assign) (k := ?_)
  refine JL_nil ?_
  refine JX_seq ?_
  refine J_ret ?_
  refine JX_ret Tryz.results12 (Res.tmp rfl Res.nil) (fun w1 hw1 => ?_)
  exact ⟨(by rw [(hF).eq] <;> first | rfl | (simp only [List.length_set] <;> rfl)), hw1.ext_out⟩

theorem lFew8_ok (w : World) {l_a : Option Addr} {l_c : Nat} {l : List Rule} (h_l : Sl w eRule 5 l_a l) (k_l : l.length ≤ l_c) : Calls Tryz.prog 16 (List.toArray [(Value.slice (l_a) (l.length) (l_c))]) w fun e w2 => ∃ a1 : Option Addr, ∃ c1 : Nat, ∃ B1 : Heap, e = .returned (Value.slice (a1) ((lFew8 l).length) (c1)) ∧ Fresh w w2 B1 ∧ OwnB eRule 5 27 a1 c1 B1 (lFew8 l) ∧ (lFew8 l).length ≤ 18 := by
  have hF := Is.refl (lFew8 l)
  refine enter Tryz.func16 Tryz.ntmps16 (h := ?_)
  refine J_seq ?_
  refine J_reg ?_
  refine JL_q (q_assign) (k := ?_)
  refine JL_nil ?_
  refine JX_seq ?_
  refine J_seq ?_
  refine J_reg ?_
  refine JL_q (q_move) (k := ?_)
  refine JL_q (q_move) (k := ?_)
  refine JL_q (q_lenS Tryz.runUnderlying36) (k := ?_)
  refine JL_q (q_min) (k := ?_)
  have hl1 : (l.take (min l.length 18)).length = (min l.length 18) := by rw [List.length_take]; first | (split <;> omega) | omega
  refine JL_q (q_sliceHi' (l.take (min l.length 18)).length Tryz.runUnderlying36 (fun w => ⟨_, Tryz.sizeOf27 w⟩) (hm := by omega) (hi := by first | (split <;> omega) | omega)) (k := ?_)
  refine JL_append (l.take (min l.length 18)) (List.nil_append _) TY_27 Tryz.underlying36 eRule_ok OwnB.nil (List.Perm.refl _) ((SlJ.of_base h_l).take (min l.length 18)) ⟨by omega, by omega⟩ (n := 0) (m := (l.take (min l.length 18)).length) (k := fun ax1 cx1 Bx1 hox1 => ?_)
  refine JL_q (q_assign) (k := ?_)
  refine JL_nil ?_
  refine JX_seq ?_
  refine J_ret ?_
  refine JX_ret Tryz.results16 (Res.tmp rfl Res.nil) (fun w1 hw1 => ?_)
  exact ⟨ax1, cx1, Bx1, (by rw [(hF).eq] <;> first | rfl | (simp only [List.length_set] <;> rfl)), (fresh_segs (L := Bx1) (R := []) (hw1.perm (List.Perm.refl _)) (by simp)), (by rw [(hF).eq]; exact hox1), (by rw [(hF).eq]; unfold lFew8; rw [List.length_take]; omega)⟩

theorem lShown8_ok (w : World) {ea0 : Addr} {ea1 : Addr} {ea2 : Addr} {ea3 : Addr} {ea4 : Addr} {ea5 : Addr} (hG : Gl w) (hE : Er w ea0 ea1 ea2 ea3 ea4 ea5) : Val Tryz.prog 11 [] w (Value.bool (lShown8)) := by
  have hF := Is.refl lShown8
  refine enter Tryz.func11 Tryz.ntmps11 (h := ?_)
  refine J_seq ?_
  refine J_reg ?_
  refine JL_q (q_assign) (k := ?_)
  refine JL_nil ?_
  refine JX_seq ?_
  refine J_seq ?_
  refine J_reg ?_
  refine JL_v (args := [(Value.string (bs ([100, 101, 110, 121, 32, 49, 48, 46, 48, 46, 48, 46, 48, 47, 56, 32, 50, 50] : Str)))]) (c_callA Tryz.call14) (fun w1 hw1 => aclParse_ok w1 (s := ([100, 101, 110, 121, 32, 49, 48, 46, 48, 46, 48, 46, 48, 47, 56, 32, 50, 50] : Str)) (n_s := by first | exact lb | decide) (hG := hG.ext hw1.ext_out) (hE := hE.ext hw1.ext_out)) (k := ?_)
  refine JL_q (q_move) (k := ?_)
  refine JL_q (q_ext) (k := ?_)
  refine JL_q (q_ext) (k := ?_)
  refine JL_a noMk (a_alloc (l := [_, _, _, _, _]) Tryz.zeroValue27) (k := fun r1 hr1 => ?_)
  refine JL_s (w_store (l' := [_, _, _, _, _]) Tryz.sizeOf27) (k := ?_)
  refine JL_q (q_assign) (k := ?_)
  refine JL_nil ?_
  refine JX_seq ?_
  refine J_seq ?_
  refine J_reg ?_
  refine JL_v (args := [(Value.string (bs ([97, 108, 108, 111, 119, 32, 49, 48, 46, 48, 46, 48, 46, 48, 47, 56, 32, 42] : Str)))]) (c_callA Tryz.call14) (fun w1 hw1 => aclParse_ok w1 (s := ([97, 108, 108, 111, 119, 32, 49, 48, 46, 48, 46, 48, 46, 48, 47, 56, 32, 42] : Str)) (n_s := by first | exact lb | decide) (hG := hG.ext hw1.ext_out) (hE := hE.ext hw1.ext_out)) (k := ?_)
  refine JL_q (q_move) (k := ?_)
  refine JL_q (q_ext) (k := ?_)
  refine JL_q (q_ext) (k := ?_)
  refine JL_a noMk (a_alloc (l := [_, _, _, _, _]) Tryz.zeroValue27) (k := fun r2 hr2 => ?_)
  refine JL_s (w_store (l' := [_, _, _, _, _]) Tryz.sizeOf27) (k := ?_)
  refine JL_q (q_assign) (k := ?_)
  refine JL_nil ?_
  refine JX_seq ?_
  refine J_seq ?_
  refine J_reg ?_
  refine JL_q (q_loadA Tryz.isAgg27 Tryz.sizeOf27) (k := ?_)
  refine JL_q (q_loadA Tryz.isAgg27 Tryz.sizeOf27) (k := ?_)
  refine JL_a noMk (a_bslice (l := [_, _, _, _, _, _, _, _, _, _]) Tryz.runUnderlying36 Tryz.sizeOf27 Tryz.zeroValue27) (k := fun r3 hr3 => ?_)
  refine JL_q (q_assign) (k := ?_)
  refine JL_nil ?_
  refine JX_seq ?_
  refine J_seq ?_
  refine J_reg ?_
  refine JL_q (q_move) (k := ?_)
  refine JL_q (q_build (cs := [_, _]) Tryz.zeroValue39 PL_39) (k := ?_)
  refine JL_v (args := [(Value.slice (some ⟨r3, 0, none⟩) (2) (2)), (Value.agg [(Value.int .i64 (167838211)), (Value.int .i64 (80))].toArray)]) (c_callA Tryz.call17) (fun w1 hw1 => aclDecide_ok w1 (l := ([(aclParse ([100, 101, 110, 121, 32, 49, 48, 46, 48, 46, 48, 46, 48, 47, 56, 32, 50, 50] : Str)).1, (aclParse ([97, 108, 108, 111, 119, 32, 49, 48, 46, 48, 46, 48, 46, 48, 47, 56, 32, 42] : Str)).1] : List Rule)) (t := (Target.mk 167838211 80)) (h_l := (SlJ.lit (xs := ([(aclParse ([100, 101, 110, 121, 32, 49, 48, 46, 48, 46, 48, 46, 48, 47, 56, 32, 50, 50] : Str)).1, (aclParse ([97, 108, 108, 111, 119, 32, 49, 48, 46, 48, 46, 48, 46, 48, 47, 56, 32, 42] : Str)).1] : List Rule)) eRule_ok) w1 hw1) (n_l := by first | exact lb | decide) (hG := hG.ext hw1.ext_out) (hE := hE.ext hw1.ext_out)) (k := ?_)
  have had_9794 := aclDecide_bd ([(aclParse ([100, 101, 110, 121, 32, 49, 48, 46, 48, 46, 48, 46, 48, 47, 56, 32, 50, 50] : Str)).1, (aclParse ([97, 108, 108, 111, 119, 32, 49, 48, 46, 48, 46, 48, 46, 48, 47, 56, 32, 42] : Str)).1] : List Rule) (Target.mk 167838211 80)
  refine JL_q (q_move) (k := ?_)
  refine JL_q (q_ext) (k := ?_)
  refine JL_q (q_ext) (k := ?_)
  refine JL_q (q_ext) (k := ?_)
  refine JL_q (q_assign) (k := ?_)
  refine JL_q (q_assign) (k := ?_)
  refine JL_q (q_assign) (k := ?_)
  refine JL_nil ?_
  refine JX_seq ?_
  refine J_seq ?_
  refine J_reg ?_
  refine JL_q (q_move) (k := ?_)
  refine JL_q (q_build (cs := [_, _]) Tryz.zeroValue39 PL_39) (k := ?_)
  refine JL_v (args := [(Value.slice (some ⟨r3, 0, none⟩) (2) (2)), (Value.agg [(Value.int .i64 (167838211)), (Value.int .i64 (22))].toArray)]) (c_callA Tryz.call17) (fun w1 hw1 => aclDecide_ok w1 (l := ([(aclParse ([100, 101, 110, 121, 32, 49, 48, 46, 48, 46, 48, 46, 48, 47, 56, 32, 50, 50] : Str)).1, (aclParse ([97, 108, 108, 111, 119, 32, 49, 48, 46, 48, 46, 48, 46, 48, 47, 56, 32, 42] : Str)).1] : List Rule)) (t := (Target.mk 167838211 22)) (h_l := (SlJ.lit (xs := ([(aclParse ([100, 101, 110, 121, 32, 49, 48, 46, 48, 46, 48, 46, 48, 47, 56, 32, 50, 50] : Str)).1, (aclParse ([97, 108, 108, 111, 119, 32, 49, 48, 46, 48, 46, 48, 46, 48, 47, 56, 32, 42] : Str)).1] : List Rule)) eRule_ok) w1 hw1) (n_l := by first | exact lb | decide) (hG := hG.ext hw1.ext_out) (hE := hE.ext hw1.ext_out)) (k := ?_)
  have had_7944 := aclDecide_bd ([(aclParse ([100, 101, 110, 121, 32, 49, 48, 46, 48, 46, 48, 46, 48, 47, 56, 32, 50, 50] : Str)).1, (aclParse ([97, 108, 108, 111, 119, 32, 49, 48, 46, 48, 46, 48, 46, 48, 47, 56, 32, 42] : Str)).1] : List Rule) (Target.mk 167838211 22)
  refine JL_q (q_move) (k := ?_)
  refine JL_q (q_ext) (k := ?_)
  refine JL_q (q_ext) (k := ?_)
  refine JL_q (q_ext) (k := ?_)
  refine JL_q (q_assign) (k := ?_)
  refine JL_q (q_assign) (k := ?_)
  refine JL_q (q_assign) (k := ?_)
  refine JL_nil ?_
  refine JX_seq ?_
  refine J_seq ?_
  refine J_reg ?_
  refine JL_q (q_move) (k := ?_)
  refine JL_q (q_build (cs := [_, _]) Tryz.zeroValue39 PL_39) (k := ?_)
  refine JL_v (args := [(Value.slice (some ⟨r3, 0, none⟩) (2) (2)), (Value.agg [(Value.int .i64 (184549376)), (Value.int .i64 (80))].toArray)]) (c_callA Tryz.call17) (fun w1 hw1 => aclDecide_ok w1 (l := ([(aclParse ([100, 101, 110, 121, 32, 49, 48, 46, 48, 46, 48, 46, 48, 47, 56, 32, 50, 50] : Str)).1, (aclParse ([97, 108, 108, 111, 119, 32, 49, 48, 46, 48, 46, 48, 46, 48, 47, 56, 32, 42] : Str)).1] : List Rule)) (t := (Target.mk 184549376 80)) (h_l := (SlJ.lit (xs := ([(aclParse ([100, 101, 110, 121, 32, 49, 48, 46, 48, 46, 48, 46, 48, 47, 56, 32, 50, 50] : Str)).1, (aclParse ([97, 108, 108, 111, 119, 32, 49, 48, 46, 48, 46, 48, 46, 48, 47, 56, 32, 42] : Str)).1] : List Rule)) eRule_ok) w1 hw1) (n_l := by first | exact lb | decide) (hG := hG.ext hw1.ext_out) (hE := hE.ext hw1.ext_out)) (k := ?_)
  have had_10371 := aclDecide_bd ([(aclParse ([100, 101, 110, 121, 32, 49, 48, 46, 48, 46, 48, 46, 48, 47, 56, 32, 50, 50] : Str)).1, (aclParse ([97, 108, 108, 111, 119, 32, 49, 48, 46, 48, 46, 48, 46, 48, 47, 56, 32, 42] : Str)).1] : List Rule) (Target.mk 184549376 80)
  refine JL_q (q_move) (k := ?_)
  refine JL_q (q_ext) (k := ?_)
  refine JL_q (q_ext) (k := ?_)
  refine JL_q (q_ext) (k := ?_)
  refine JL_q (q_assign) (k := ?_)
  refine JL_q (q_assign) (k := ?_)
  refine JL_q (q_assign) (k := ?_)
  refine JL_nil ?_
  refine JX_seq ?_
  refine J_seq ?_
  refine J_reg ?_
  refine JL_q (q_loadA Tryz.isAgg27 Tryz.sizeOf27) (k := ?_)
  refine JL_v (args := [(Value.agg [(Value.bool (((aclParse ([97, 108, 108, 111, 119, 32, 49, 48, 46, 48, 46, 48, 46, 48, 47, 56, 32, 42] : Str)).1.allow))), (Value.int .i64 (((aclParse ([97, 108, 108, 111, 119, 32, 49, 48, 46, 48, 46, 48, 46, 48, 47, 56, 32, 42] : Str)).1.pfx.addr))), (Value.int .i64 (((aclParse ([97, 108, 108, 111, 119, 32, 49, 48, 46, 48, 46, 48, 46, 48, 47, 56, 32, 42] : Str)).1.pfx.bits))), (Value.int .i64 (((aclParse ([97, 108, 108, 111, 119, 32, 49, 48, 46, 48, 46, 48, 46, 48, 47, 56, 32, 42] : Str)).1.prt.lo))), (Value.int .i64 (((aclParse ([97, 108, 108, 111, 119, 32, 49, 48, 46, 48, 46, 48, 46, 48, 47, 56, 32, 42] : Str)).1.prt.hi)))].toArray)]) (c_callA Tryz.call13) (fun w1 hw1 => aclPrint_ok w1 (r := ((aclParse ([97, 108, 108, 111, 119, 32, 49, 48, 46, 48, 46, 48, 46, 48, 47, 56, 32, 42] : Str)).1)) (hG := hG.ext hw1.ext_out) (hE := hE.ext hw1.ext_out)) (k := ?_)
  have hap_89688 := aclPrint_len ((aclParse ([97, 108, 108, 111, 119, 32, 49, 48, 46, 48, 46, 48, 46, 48, 47, 56, 32, 42] : Str)).1)
  refine JL_q (q_move) (k := ?_)
  refine JL_q (q_ext) (k := ?_)
  refine JL_q (q_ext) (k := ?_)
  refine JL_q (q_assign) (k := ?_)
  refine JL_q (q_assign) (k := ?_)
  refine JL_nil ?_
  refine JX_seq ?_
  refine J_seq ?_
  refine J_reg ?_
  refine JL_q (q_move) (k := ?_)
  refine JL_q (q_loadA Tryz.isAgg27 Tryz.sizeOf27) (k := ?_)
  refine JL_p (args := [(Value.slice (some ⟨r3, 0, none⟩) (2) (2)), (Value.int .i64 (3)), (Value.agg [(Value.bool (((aclParse ([100, 101, 110, 121, 32, 49, 48, 46, 48, 46, 48, 46, 48, 47, 56, 32, 50, 50] : Str)).1.allow))), (Value.int .i64 (((aclParse ([100, 101, 110, 121, 32, 49, 48, 46, 48, 46, 48, 46, 48, 47, 56, 32, 50, 50] : Str)).1.pfx.addr))), (Value.int .i64 (((aclParse ([100, 101, 110, 121, 32, 49, 48, 46, 48, 46, 48, 46, 48, 47, 56, 32, 50, 50] : Str)).1.pfx.bits))), (Value.int .i64 (((aclParse ([100, 101, 110, 121, 32, 49, 48, 46, 48, 46, 48, 46, 48, 47, 56, 32, 50, 50] : Str)).1.prt.lo))), (Value.int .i64 (((aclParse ([100, 101, 110, 121, 32, 49, 48, 46, 48, 46, 48, 46, 48, 47, 56, 32, 50, 50] : Str)).1.prt.hi)))].toArray)]) (c_callA Tryz.call18) (fun w1 hw1 => aclInsert_ok w1 (l := ([(aclParse ([100, 101, 110, 121, 32, 49, 48, 46, 48, 46, 48, 46, 48, 47, 56, 32, 50, 50] : Str)).1, (aclParse ([97, 108, 108, 111, 119, 32, 49, 48, 46, 48, 46, 48, 46, 48, 47, 56, 32, 42] : Str)).1] : List Rule)) (at_ := 3) (r := ((aclParse ([100, 101, 110, 121, 32, 49, 48, 46, 48, 46, 48, 46, 48, 47, 56, 32, 50, 50] : Str)).1)) (h_l := (SlJ.lit (xs := ([(aclParse ([100, 101, 110, 121, 32, 49, 48, 46, 48, 46, 48, 46, 48, 47, 56, 32, 50, 50] : Str)).1, (aclParse ([97, 108, 108, 111, 119, 32, 49, 48, 46, 48, 46, 48, 46, 48, 47, 56, 32, 42] : Str)).1] : List Rule)) eRule_ok) w1 hw1) (n_l := by first | exact lb | decide) (hG := hG.ext hw1.ext_out) (hE := hE.ext hw1.ext_out)) (k := ?_)
  rintro w1_1 e1_1 w2_1 hw1_1 ⟨a1_1, c1_1, B1_1, he_1, hf_1, ho1_1, hl1_1⟩
  refine ⟨_, (B1_1 ++ ((r3, Obj.cells [(Value.bool (((aclParse ([100, 101, 110, 121, 32, 49, 48, 46, 48, 46, 48, 46, 48, 47, 56, 32, 50, 50] : Str)).1.allow))), (Value.int .i64 (((aclParse ([100, 101, 110, 121, 32, 49, 48, 46, 48, 46, 48, 46, 48, 47, 56, 32, 50, 50] : Str)).1.pfx.addr))), (Value.int .i64 (((aclParse ([100, 101, 110, 121, 32, 49, 48, 46, 48, 46, 48, 46, 48, 47, 56, 32, 50, 50] : Str)).1.pfx.bits))), (Value.int .i64 (((aclParse ([100, 101, 110, 121, 32, 49, 48, 46, 48, 46, 48, 46, 48, 47, 56, 32, 50, 50] : Str)).1.prt.lo))), (Value.int .i64 (((aclParse ([100, 101, 110, 121, 32, 49, 48, 46, 48, 46, 48, 46, 48, 47, 56, 32, 50, 50] : Str)).1.prt.hi))), (Value.bool (((aclParse ([97, 108, 108, 111, 119, 32, 49, 48, 46, 48, 46, 48, 46, 48, 47, 56, 32, 42] : Str)).1.allow))), (Value.int .i64 (((aclParse ([97, 108, 108, 111, 119, 32, 49, 48, 46, 48, 46, 48, 46, 48, 47, 56, 32, 42] : Str)).1.pfx.addr))), (Value.int .i64 (((aclParse ([97, 108, 108, 111, 119, 32, 49, 48, 46, 48, 46, 48, 46, 48, 47, 56, 32, 42] : Str)).1.pfx.bits))), (Value.int .i64 (((aclParse ([97, 108, 108, 111, 119, 32, 49, 48, 46, 48, 46, 48, 46, 48, 47, 56, 32, 42] : Str)).1.prt.lo))), (Value.int .i64 (((aclParse ([97, 108, 108, 111, 119, 32, 49, 48, 46, 48, 46, 48, 46, 48, 47, 56, 32, 42] : Str)).1.prt.hi)))].toArray 27) :: ((r2, Obj.cells [(Value.bool (((aclParse ([97, 108, 108, 111, 119, 32, 49, 48, 46, 48, 46, 48, 46, 48, 47, 56, 32, 42] : Str)).1.allow))), (Value.int .i64 (((aclParse ([97, 108, 108, 111, 119, 32, 49, 48, 46, 48, 46, 48, 46, 48, 47, 56, 32, 42] : Str)).1.pfx.addr))), (Value.int .i64 (((aclParse ([97, 108, 108, 111, 119, 32, 49, 48, 46, 48, 46, 48, 46, 48, 47, 56, 32, 42] : Str)).1.pfx.bits))), (Value.int .i64 (((aclParse ([97, 108, 108, 111, 119, 32, 49, 48, 46, 48, 46, 48, 46, 48, 47, 56, 32, 42] : Str)).1.prt.lo))), (Value.int .i64 (((aclParse ([97, 108, 108, 111, 119, 32, 49, 48, 46, 48, 46, 48, 46, 48, 47, 56, 32, 42] : Str)).1.prt.hi)))].toArray 27) :: ((r1, Obj.cells [(Value.bool (((aclParse ([100, 101, 110, 121, 32, 49, 48, 46, 48, 46, 48, 46, 48, 47, 56, 32, 50, 50] : Str)).1.allow))), (Value.int .i64 (((aclParse ([100, 101, 110, 121, 32, 49, 48, 46, 48, 46, 48, 46, 48, 47, 56, 32, 50, 50] : Str)).1.pfx.addr))), (Value.int .i64 (((aclParse ([100, 101, 110, 121, 32, 49, 48, 46, 48, 46, 48, 46, 48, 47, 56, 32, 50, 50] : Str)).1.pfx.bits))), (Value.int .i64 (((aclParse ([100, 101, 110, 121, 32, 49, 48, 46, 48, 46, 48, 46, 48, 47, 56, 32, 50, 50] : Str)).1.prt.lo))), (Value.int .i64 (((aclParse ([100, 101, 110, 121, 32, 49, 48, 46, 48, 46, 48, 46, 48, 47, 56, 32, 50, 50] : Str)).1.prt.hi)))].toArray 27) :: [])))), he_1, hw1_1.fresh hf_1, ?_⟩
  refine JL_q (q_move) (k := ?_)
  refine JL_q (q_ext) (k := ?_)
  refine JL_q (q_ext) (k := ?_)
  refine JL_q (q_assign) (k := ?_)
  refine JL_q (q_assign) (k := ?_)
  refine JL_nil ?_
  refine JX_seq ?_
  refine J_seq ?_
  refine J_reg ?_
  refine JL_v (args := [(Value.string (bs ([97, 108, 108, 111, 119, 32, 49, 48, 46, 48, 46, 48, 46, 48, 47, 56] : Str)))]) (c_callA Tryz.call14) (fun w1 hw1 => aclParse_ok w1 (s := ([97, 108, 108, 111, 119, 32, 49, 48, 46, 48, 46, 48, 46, 48, 47, 56] : Str)) (n_s := by first | exact lb | decide) (hG := hG.ext hw1.ext_out) (hE := hE.ext hw1.ext_out)) (k := ?_)
  refine JL_q (q_move) (k := ?_)
  refine JL_q (q_ext) (k := ?_)
  refine JL_q (q_ext) (k := ?_)
  refine JL_a noMk (a_alloc (l := [_, _, _, _, _]) Tryz.zeroValue27) (k := fun r4 hr4 => ?_)
  refine JL_s (w_store (l' := [_, _, _, _, _]) Tryz.sizeOf27) (k := ?_)
  refine JL_q (q_assign) (k := ?_)
  refine JL_nil ?_
  refine JX_seq ?_
  refine J_seq ?_
  refine J_reg ?_
  refine JL_q (q_move) (k := ?_)
  refine JL_q (q_eql) (k := ?_)
  refine JL_q (q_move) (k := ?_)
  refine JL_dec 70 rfl (fun hq1 => ?_) (fun hq1 => ?_)
  rotate_left
  · refine JL_skips 2 rfl ?_
    refine JL_q (q_pickF) (k := ?_)
    refine JL_q (q_move) (k := ?_)
    refine JL_skip (k := ?_)
    refine JL_q (q_pickF) (k := ?_)
    refine JL_q (q_move) (k := ?_)
    refine JL_skips 2 rfl ?_
    refine JL_q (q_pickF) (k := ?_)
    refine JL_q (q_move) (k := ?_)
    refine JL_skips 2 rfl ?_
    refine JL_q (q_pickF) (k := ?_)
    refine JL_q (q_move) (k := ?_)
    refine JL_skips 2 rfl ?_
    refine JL_q (q_pickF) (k := ?_)
    refine JL_q (q_move) (k := ?_)
    refine JL_skips 2 rfl ?_
    refine JL_q (q_pickF) (k := ?_)
    refine JL_q (q_move) (k := ?_)
    refine JL_skips 2 rfl ?_
    refine JL_q (q_pickF) (k := ?_)
    refine JL_q (q_move) (k := ?_)
    refine JL_skips 2 rfl ?_
    refine JL_q (q_pickF) (k := ?_)
    refine JL_q (q_move) (k := ?_)
    refine JL_skips 2 rfl ?_
    refine JL_q (q_pickF) (k := ?_)
    refine JL_q (q_move) (k := ?_)
    refine JL_skips 2 rfl ?_
    refine JL_q (q_pickF) (k := ?_)
    refine JL_q (q_move) (k := ?_)
    refine JL_skips 2 rfl ?_
    refine JL_q (q_pickF) (k := ?_)
    refine JL_q (q_move) (k := ?_)
    refine JL_skips 2 rfl ?_
    refine JL_q (q_pickF) (k := ?_)
    refine JL_q (q_move) (k := ?_)
    refine JL_skips 2 rfl ?_
    refine JL_q (q_pickF) (k := ?_)
    refine JL_q (q_move) (k := ?_)
    refine JL_skips 2 rfl ?_
    refine JL_q (q_pickF) (k := ?_)
    refine JL_q (q_assign) (k := ?_)
    refine JL_nil ?_
    refine JX_seq ?_
    refine J_ret ?_
    refine JX_ret Tryz.results11 (Res.tmp rfl Res.nil) (fun w1 hw1 => ?_)
    exact ⟨(by rw [((hF.neg hq1)).eq] <;> first | rfl | (simp only [List.length_set] <;> rfl)), hw1.ext_out⟩
  refine JL_qg (q_move) (k := ?_)
  refine JL_qg (q_eql) (k := ?_)
  refine JL_q (q_pickT) (k := ?_)
  refine JL_q (q_move) (k := ?_)
  refine JL_dec 74 rfl (fun hq2 => ?_) (fun hq2 => ?_)
  rotate_left
  · refine JL_skip (k := ?_)
    refine JL_q (q_pickF) (k := ?_)
    refine JL_q (q_move) (k := ?_)
    refine JL_skips 2 rfl ?_
    refine JL_q (q_pickF) (k := ?_)
    refine JL_q (q_move) (k := ?_)
    refine JL_skips 2 rfl ?_
    refine JL_q (q_pickF) (k := ?_)
    refine JL_q (q_move) (k := ?_)
    refine JL_skips 2 rfl ?_
    refine JL_q (q_pickF) (k := ?_)
    refine JL_q (q_move) (k := ?_)
    refine JL_skips 2 rfl ?_
    refine JL_q (q_pickF) (k := ?_)
    refine JL_q (q_move) (k := ?_)
    refine JL_skips 2 rfl ?_
    refine JL_q (q_pickF) (k := ?_)
    refine JL_q (q_move) (k := ?_)
    refine JL_skips 2 rfl ?_
    refine JL_q (q_pickF) (k := ?_)
    refine JL_q (q_move) (k := ?_)
    refine JL_skips 2 rfl ?_
    refine JL_q (q_pickF) (k := ?_)
    refine JL_q (q_move) (k := ?_)
    refine JL_skips 2 rfl ?_
    refine JL_q (q_pickF) (k := ?_)
    refine JL_q (q_move) (k := ?_)
    refine JL_skips 2 rfl ?_
    refine JL_q (q_pickF) (k := ?_)
    refine JL_q (q_move) (k := ?_)
    refine JL_skips 2 rfl ?_
    refine JL_q (q_pickF) (k := ?_)
    refine JL_q (q_move) (k := ?_)
    refine JL_skips 2 rfl ?_
    refine JL_q (q_pickF) (k := ?_)
    refine JL_q (q_move) (k := ?_)
    refine JL_skips 2 rfl ?_
    refine JL_q (q_pickF) (k := ?_)
    refine JL_q (q_assign) (k := ?_)
    refine JL_nil ?_
    refine JX_seq ?_
    refine J_ret ?_
    refine JX_ret Tryz.results11 (Res.tmp rfl Res.nil) (fun w1 hw1 => ?_)
    exact ⟨(by rw [(((hF.pos hq1).neg hq2)).eq] <;> first | rfl | (simp only [List.length_set] <;> rfl)), hw1.ext_out⟩
  refine JL_qg (q_move) (k := ?_)
  refine JL_q (q_pickT) (k := ?_)
  refine JL_q (q_move) (k := ?_)
  refine JL_bool 77 rfl (fun hq3 => ?_) (fun hq3 => ?_)
  rotate_left
  · refine JL_skips 2 rfl ?_
    refine JL_q (q_pickF) (k := ?_)
    refine JL_q (q_move) (k := ?_)
    refine JL_skips 2 rfl ?_
    refine JL_q (q_pickF) (k := ?_)
    refine JL_q (q_move) (k := ?_)
    refine JL_skips 2 rfl ?_
    refine JL_q (q_pickF) (k := ?_)
    refine JL_q (q_move) (k := ?_)
    refine JL_skips 2 rfl ?_
    refine JL_q (q_pickF) (k := ?_)
    refine JL_q (q_move) (k := ?_)
    refine JL_skips 2 rfl ?_
    refine JL_q (q_pickF) (k := ?_)
    refine JL_q (q_move) (k := ?_)
    refine JL_skips 2 rfl ?_
    refine JL_q (q_pickF) (k := ?_)
    refine JL_q (q_move) (k := ?_)
    refine JL_skips 2 rfl ?_
    refine JL_q (q_pickF) (k := ?_)
    refine JL_q (q_move) (k := ?_)
    refine JL_skips 2 rfl ?_
    refine JL_q (q_pickF) (k := ?_)
    refine JL_q (q_move) (k := ?_)
    refine JL_skips 2 rfl ?_
    refine JL_q (q_pickF) (k := ?_)
    refine JL_q (q_move) (k := ?_)
    refine JL_skips 2 rfl ?_
    refine JL_q (q_pickF) (k := ?_)
    refine JL_q (q_move) (k := ?_)
    refine JL_skips 2 rfl ?_
    refine JL_q (q_pickF) (k := ?_)
    refine JL_q (q_move) (k := ?_)
    refine JL_skips 2 rfl ?_
    refine JL_q (q_pickF) (k := ?_)
    refine JL_q (q_assign) (k := ?_)
    refine JL_nil ?_
    refine JX_seq ?_
    refine J_ret ?_
    refine JX_ret Tryz.results11 (Res.tmp rfl Res.nil) (fun w1 hw1 => ?_)
    exact ⟨(by rw [((((hF.pos hq1).pos hq2).f hq3)).eq] <;> first | rfl | (simp only [List.length_set] <;> rfl)), hw1.ext_out⟩
  refine JL_qg (q_move) (k := ?_)
  refine JL_qg (q_eql) (k := ?_)
  refine JL_q (q_pickT) (k := ?_)
  refine JL_q (q_move) (k := ?_)
  refine JL_dec 81 rfl (fun hq4 => ?_) (fun hq4 => ?_)
  rotate_left
  · refine JL_skips 2 rfl ?_
    refine JL_q (q_pickF) (k := ?_)
    refine JL_q (q_move) (k := ?_)
    refine JL_skips 2 rfl ?_
    refine JL_q (q_pickF) (k := ?_)
    refine JL_q (q_move) (k := ?_)
    refine JL_skips 2 rfl ?_
    refine JL_q (q_pickF) (k := ?_)
    refine JL_q (q_move) (k := ?_)
    refine JL_skips 2 rfl ?_
    refine JL_q (q_pickF) (k := ?_)
    refine JL_q (q_move) (k := ?_)
    refine JL_skips 2 rfl ?_
    refine JL_q (q_pickF) (k := ?_)
    refine JL_q (q_move) (k := ?_)
    refine JL_skips 2 rfl ?_
    refine JL_q (q_pickF) (k := ?_)
    refine JL_q (q_move) (k := ?_)
    refine JL_skips 2 rfl ?_
    refine JL_q (q_pickF) (k := ?_)
    refine JL_q (q_move) (k := ?_)
    refine JL_skips 2 rfl ?_
    refine JL_q (q_pickF) (k := ?_)
    refine JL_q (q_move) (k := ?_)
    refine JL_skips 2 rfl ?_
    refine JL_q (q_pickF) (k := ?_)
    refine JL_q (q_move) (k := ?_)
    refine JL_skips 2 rfl ?_
    refine JL_q (q_pickF) (k := ?_)
    refine JL_q (q_move) (k := ?_)
    refine JL_skips 2 rfl ?_
    refine JL_q (q_pickF) (k := ?_)
    refine JL_q (q_assign) (k := ?_)
    refine JL_nil ?_
    refine JX_seq ?_
    refine J_ret ?_
    refine JX_ret Tryz.results11 (Res.tmp rfl Res.nil) (fun w1 hw1 => ?_)
    exact ⟨(by rw [(((((hF.pos hq1).pos hq2).t hq3).neg hq4)).eq] <;> first | rfl | (simp only [List.length_set] <;> rfl)), hw1.ext_out⟩
  refine JL_qg (q_move) (k := ?_)
  refine JL_qg (q_eql) (k := ?_)
  refine JL_q (q_pickT) (k := ?_)
  refine JL_q (q_move) (k := ?_)
  refine JL_dec 85 rfl (fun hq5 => ?_) (fun hq5 => ?_)
  rotate_left
  · refine JL_skips 2 rfl ?_
    refine JL_q (q_pickF) (k := ?_)
    refine JL_q (q_move) (k := ?_)
    refine JL_skips 2 rfl ?_
    refine JL_q (q_pickF) (k := ?_)
    refine JL_q (q_move) (k := ?_)
    refine JL_skips 2 rfl ?_
    refine JL_q (q_pickF) (k := ?_)
    refine JL_q (q_move) (k := ?_)
    refine JL_skips 2 rfl ?_
    refine JL_q (q_pickF) (k := ?_)
    refine JL_q (q_move) (k := ?_)
    refine JL_skips 2 rfl ?_
    refine JL_q (q_pickF) (k := ?_)
    refine JL_q (q_move) (k := ?_)
    refine JL_skips 2 rfl ?_
    refine JL_q (q_pickF) (k := ?_)
    refine JL_q (q_move) (k := ?_)
    refine JL_skips 2 rfl ?_
    refine JL_q (q_pickF) (k := ?_)
    refine JL_q (q_move) (k := ?_)
    refine JL_skips 2 rfl ?_
    refine JL_q (q_pickF) (k := ?_)
    refine JL_q (q_move) (k := ?_)
    refine JL_skips 2 rfl ?_
    refine JL_q (q_pickF) (k := ?_)
    refine JL_q (q_move) (k := ?_)
    refine JL_skips 2 rfl ?_
    refine JL_q (q_pickF) (k := ?_)
    refine JL_q (q_assign) (k := ?_)
    refine JL_nil ?_
    refine JX_seq ?_
    refine J_ret ?_
    refine JX_ret Tryz.results11 (Res.tmp rfl Res.nil) (fun w1 hw1 => ?_)
    exact ⟨(by rw [((((((hF.pos hq1).pos hq2).t hq3).pos hq4).neg hq5)).eq] <;> first | rfl | (simp only [List.length_set] <;> rfl)), hw1.ext_out⟩
  refine JL_qg (q_move) (k := ?_)
  refine JL_qg (q_not) (k := ?_)
  refine JL_q (q_pickT) (k := ?_)
  refine JL_q (q_move) (k := ?_)
  refine JL_bool 89 rfl (fun hq6 => ?_) (fun hq6 => ?_)
  rotate_left
  · refine JL_skips 2 rfl ?_
    refine JL_q (q_pickF) (k := ?_)
    refine JL_q (q_move) (k := ?_)
    refine JL_skips 2 rfl ?_
    refine JL_q (q_pickF) (k := ?_)
    refine JL_q (q_move) (k := ?_)
    refine JL_skips 2 rfl ?_
    refine JL_q (q_pickF) (k := ?_)
    refine JL_q (q_move) (k := ?_)
    refine JL_skips 2 rfl ?_
    refine JL_q (q_pickF) (k := ?_)
    refine JL_q (q_move) (k := ?_)
    refine JL_skips 2 rfl ?_
    refine JL_q (q_pickF) (k := ?_)
    refine JL_q (q_move) (k := ?_)
    refine JL_skips 2 rfl ?_
    refine JL_q (q_pickF) (k := ?_)
    refine JL_q (q_move) (k := ?_)
    refine JL_skips 2 rfl ?_
    refine JL_q (q_pickF) (k := ?_)
    refine JL_q (q_move) (k := ?_)
    refine JL_skips 2 rfl ?_
    refine JL_q (q_pickF) (k := ?_)
    refine JL_q (q_move) (k := ?_)
    refine JL_skips 2 rfl ?_
    refine JL_q (q_pickF) (k := ?_)
    refine JL_q (q_assign) (k := ?_)
    refine JL_nil ?_
    refine JX_seq ?_
    refine J_ret ?_
    refine JX_ret Tryz.results11 (Res.tmp rfl Res.nil) (fun w1 hw1 => ?_)
    exact ⟨(by rw [(((((((hF.pos hq1).pos hq2).t hq3).pos hq4).pos hq5).f hq6)).eq] <;> first | rfl | (simp only [List.length_set] <;> rfl)), hw1.ext_out⟩
  refine JL_qg (q_move) (k := ?_)
  refine JL_qg (q_eql) (k := ?_)
  refine JL_q (q_pickT) (k := ?_)
  refine JL_q (q_move) (k := ?_)
  refine JL_dec 93 rfl (fun hq7 => ?_) (fun hq7 => ?_)
  rotate_left
  · refine JL_skips 2 rfl ?_
    refine JL_q (q_pickF) (k := ?_)
    refine JL_q (q_move) (k := ?_)
    refine JL_skips 2 rfl ?_
    refine JL_q (q_pickF) (k := ?_)
    refine JL_q (q_move) (k := ?_)
    refine JL_skips 2 rfl ?_
    refine JL_q (q_pickF) (k := ?_)
    refine JL_q (q_move) (k := ?_)
    refine JL_skips 2 rfl ?_
    refine JL_q (q_pickF) (k := ?_)
    refine JL_q (q_move) (k := ?_)
    refine JL_skips 2 rfl ?_
    refine JL_q (q_pickF) (k := ?_)
    refine JL_q (q_move) (k := ?_)
    refine JL_skips 2 rfl ?_
    refine JL_q (q_pickF) (k := ?_)
    refine JL_q (q_move) (k := ?_)
    refine JL_skips 2 rfl ?_
    refine JL_q (q_pickF) (k := ?_)
    refine JL_q (q_move) (k := ?_)
    refine JL_skips 2 rfl ?_
    refine JL_q (q_pickF) (k := ?_)
    refine JL_q (q_assign) (k := ?_)
    refine JL_nil ?_
    refine JX_seq ?_
    refine J_ret ?_
    refine JX_ret Tryz.results11 (Res.tmp rfl Res.nil) (fun w1 hw1 => ?_)
    exact ⟨(by rw [((((((((hF.pos hq1).pos hq2).t hq3).pos hq4).pos hq5).t hq6).neg hq7)).eq] <;> first | rfl | (simp only [List.length_set] <;> rfl)), hw1.ext_out⟩
  refine JL_qg (q_move) (k := ?_)
  refine JL_qg (q_eql) (k := ?_)
  refine JL_q (q_pickT) (k := ?_)
  refine JL_q (q_move) (k := ?_)
  refine JL_dec 97 rfl (fun hq8 => ?_) (fun hq8 => ?_)
  rotate_left
  · refine JL_skips 2 rfl ?_
    refine JL_q (q_pickF) (k := ?_)
    refine JL_q (q_move) (k := ?_)
    refine JL_skips 2 rfl ?_
    refine JL_q (q_pickF) (k := ?_)
    refine JL_q (q_move) (k := ?_)
    refine JL_skips 2 rfl ?_
    refine JL_q (q_pickF) (k := ?_)
    refine JL_q (q_move) (k := ?_)
    refine JL_skips 2 rfl ?_
    refine JL_q (q_pickF) (k := ?_)
    refine JL_q (q_move) (k := ?_)
    refine JL_skips 2 rfl ?_
    refine JL_q (q_pickF) (k := ?_)
    refine JL_q (q_move) (k := ?_)
    refine JL_skips 2 rfl ?_
    refine JL_q (q_pickF) (k := ?_)
    refine JL_q (q_move) (k := ?_)
    refine JL_skips 2 rfl ?_
    refine JL_q (q_pickF) (k := ?_)
    refine JL_q (q_assign) (k := ?_)
    refine JL_nil ?_
    refine JX_seq ?_
    refine J_ret ?_
    refine JX_ret Tryz.results11 (Res.tmp rfl Res.nil) (fun w1 hw1 => ?_)
    exact ⟨(by rw [(((((((((hF.pos hq1).pos hq2).t hq3).pos hq4).pos hq5).t hq6).pos hq7).neg hq8)).eq] <;> first | rfl | (simp only [List.length_set] <;> rfl)), hw1.ext_out⟩
  refine JL_qg (q_move) (k := ?_)
  refine JL_qg (q_not) (k := ?_)
  refine JL_q (q_pickT) (k := ?_)
  refine JL_q (q_move) (k := ?_)
  refine JL_bool 101 rfl (fun hq9 => ?_) (fun hq9 => ?_)
  rotate_left
  · refine JL_skips 2 rfl ?_
    refine JL_q (q_pickF) (k := ?_)
    refine JL_q (q_move) (k := ?_)
    refine JL_skips 2 rfl ?_
    refine JL_q (q_pickF) (k := ?_)
    refine JL_q (q_move) (k := ?_)
    refine JL_skips 2 rfl ?_
    refine JL_q (q_pickF) (k := ?_)
    refine JL_q (q_move) (k := ?_)
    refine JL_skips 2 rfl ?_
    refine JL_q (q_pickF) (k := ?_)
    refine JL_q (q_move) (k := ?_)
    refine JL_skips 2 rfl ?_
    refine JL_q (q_pickF) (k := ?_)
    refine JL_q (q_move) (k := ?_)
    refine JL_skips 2 rfl ?_
    refine JL_q (q_pickF) (k := ?_)
    refine JL_q (q_assign) (k := ?_)
    refine JL_nil ?_
    refine JX_seq ?_
    refine J_ret ?_
    refine JX_ret Tryz.results11 (Res.tmp rfl Res.nil) (fun w1 hw1 => ?_)
    exact ⟨(by rw [((((((((((hF.pos hq1).pos hq2).t hq3).pos hq4).pos hq5).t hq6).pos hq7).pos hq8).f hq9)).eq] <;> first | rfl | (simp only [List.length_set] <;> rfl)), hw1.ext_out⟩
  refine JL_qg (q_move) (k := ?_)
  refine JL_qg (q_eql) (k := ?_)
  refine JL_q (q_pickT) (k := ?_)
  refine JL_q (q_move) (k := ?_)
  refine JL_dec 105 rfl (fun hq10 => ?_) (fun hq10 => ?_)
  rotate_left
  · refine JL_skips 2 rfl ?_
    refine JL_q (q_pickF) (k := ?_)
    refine JL_q (q_move) (k := ?_)
    refine JL_skips 2 rfl ?_
    refine JL_q (q_pickF) (k := ?_)
    refine JL_q (q_move) (k := ?_)
    refine JL_skips 2 rfl ?_
    refine JL_q (q_pickF) (k := ?_)
    refine JL_q (q_move) (k := ?_)
    refine JL_skips 2 rfl ?_
    refine JL_q (q_pickF) (k := ?_)
    refine JL_q (q_move) (k := ?_)
    refine JL_skips 2 rfl ?_
    refine JL_q (q_pickF) (k := ?_)
    refine JL_q (q_assign) (k := ?_)
    refine JL_nil ?_
    refine JX_seq ?_
    refine J_ret ?_
    refine JX_ret Tryz.results11 (Res.tmp rfl Res.nil) (fun w1 hw1 => ?_)
    exact ⟨(by rw [(((((((((((hF.pos hq1).pos hq2).t hq3).pos hq4).pos hq5).t hq6).pos hq7).pos hq8).t hq9).neg hq10)).eq] <;> first | rfl | (simp only [List.length_set] <;> rfl)), hw1.ext_out⟩
  refine JL_qg (q_move) (k := ?_)
  refine JL_qg (q_eql) (k := ?_)
  refine JL_q (q_pickT) (k := ?_)
  refine JL_q (q_move) (k := ?_)
  refine JL_dec 109 rfl (fun hq11 => ?_) (fun hq11 => ?_)
  rotate_left
  · refine JL_skips 2 rfl ?_
    refine JL_q (q_pickF) (k := ?_)
    refine JL_q (q_move) (k := ?_)
    refine JL_skips 2 rfl ?_
    refine JL_q (q_pickF) (k := ?_)
    refine JL_q (q_move) (k := ?_)
    refine JL_skips 2 rfl ?_
    refine JL_q (q_pickF) (k := ?_)
    refine JL_q (q_move) (k := ?_)
    refine JL_skips 2 rfl ?_
    refine JL_q (q_pickF) (k := ?_)
    refine JL_q (q_assign) (k := ?_)
    refine JL_nil ?_
    refine JX_seq ?_
    refine J_ret ?_
    refine JX_ret Tryz.results11 (Res.tmp rfl Res.nil) (fun w1 hw1 => ?_)
    exact ⟨(by rw [((((((((((((hF.pos hq1).pos hq2).t hq3).pos hq4).pos hq5).t hq6).pos hq7).pos hq8).t hq9).pos hq10).neg hq11)).eq] <;> first | rfl | (simp only [List.length_set] <;> rfl)), hw1.ext_out⟩
  refine JL_qg (q_move) (k := ?_)
  refine JL_qg (q_eqT) (k := ?_)
  refine JL_q (q_pickT) (k := ?_)
  refine JL_q (q_move) (k := ?_)
  refine JL_dec 113 rfl (fun hq12 => ?_) (fun hq12 => ?_)
  rotate_left
  · refine JL_skips 2 rfl ?_
    refine JL_q (q_pickF) (k := ?_)
    refine JL_q (q_move) (k := ?_)
    refine JL_skips 2 rfl ?_
    refine JL_q (q_pickF) (k := ?_)
    refine JL_q (q_move) (k := ?_)
    refine JL_skips 2 rfl ?_
    refine JL_q (q_pickF) (k := ?_)
    refine JL_q (q_assign) (k := ?_)
    refine JL_nil ?_
    refine JX_seq ?_
    refine J_ret ?_
    refine JX_ret Tryz.results11 (Res.tmp rfl Res.nil) (fun w1 hw1 => ?_)
    exact ⟨(by rw [(((((((((((((hF.pos hq1).pos hq2).t hq3).pos hq4).pos hq5).t hq6).pos hq7).pos hq8).t hq9).pos hq10).pos hq11).neg hq12)).eq] <;> first | rfl | (simp only [List.length_set] <;> rfl)), hw1.ext_out⟩
  refine JL_qg (q_move) (k := ?_)
  refine JL_qg (q_eql) (k := ?_)
  refine JL_q (q_pickT) (k := ?_)
  refine JL_q (q_move) (k := ?_)
  refine JL_dec 117 rfl (fun hq13 => ?_) (fun hq13 => ?_)
  rotate_left
  · refine JL_skips 2 rfl ?_
    refine JL_q (q_pickF) (k := ?_)
    refine JL_q (q_move) (k := ?_)
    refine JL_skips 2 rfl ?_
    refine JL_q (q_pickF) (k := ?_)
    refine JL_q (q_assign) (k := ?_)
    refine JL_nil ?_
    refine JX_seq ?_
    refine J_ret ?_
    refine JX_ret Tryz.results11 (Res.tmp rfl Res.nil) (fun w1 hw1 => ?_)
    exact ⟨(by rw [((((((((((((((hF.pos hq1).pos hq2).t hq3).pos hq4).pos hq5).t hq6).pos hq7).pos hq8).t hq9).pos hq10).pos hq11).pos hq12).neg hq13)).eq] <;> first | rfl | (simp only [List.length_set] <;> rfl)), hw1.ext_out⟩
  refine JL_qg (q_move) (k := ?_)
  refine JL_qg (q_eql) (k := ?_)
  refine JL_q (q_pickT) (k := ?_)
  refine JL_q (q_move) (k := ?_)
  refine JL_dec 121 rfl (fun hq14 => ?_) (fun hq14 => ?_)
  rotate_left
  · refine JL_skips 2 rfl ?_
    refine JL_q (q_pickF) (k := ?_)
    refine JL_q (q_assign) (k := ?_)
    refine JL_nil ?_
    refine JX_seq ?_
    refine J_ret ?_
    refine JX_ret Tryz.results11 (Res.tmp rfl Res.nil) (fun w1 hw1 => ?_)
    exact ⟨(by rw [(((((((((((((((hF.pos hq1).pos hq2).t hq3).pos hq4).pos hq5).t hq6).pos hq7).pos hq8).t hq9).pos hq10).pos hq11).pos hq12).pos hq13).neg hq14)).eq] <;> first | rfl | (simp only [List.length_set] <;> rfl)), hw1.ext_out⟩
  refine JL_qg (q_move) (k := ?_)
  refine JL_qg (q_eql) (k := ?_)
  refine JL_q (q_pickT) (k := ?_)
  refine JL_q (q_assign) (k := ?_)
  refine JL_nil ?_
  refine JX_seq ?_
  refine J_ret ?_
  refine JX_ret Tryz.results11 (Res.tmp rfl Res.nil) (fun w1 hw1 => ?_)
  exact ⟨(by rw [(((((((((((((((hF.pos hq1).pos hq2).t hq3).pos hq4).pos hq5).t hq6).pos hq7).pos hq8).t hq9).pos hq10).pos hq11).pos hq12).pos hq13).pos hq14)).eq] <;> first | rfl | (simp only [List.length_set] <;> rfl)), hw1.ext_out⟩

end Go.Proofs.YtnblakihpoacjaaGreatDoor.Jd

namespace Go.Proofs.YtnblakihpoacjaaGreatDoor.Jd
set_option linter.unusedVariables false
set_option linter.unusedSimpArgs false
theorem pback {p : PortsT} {s : Str} (h : pPrint p = (s, 0)) : pParse s = (p, 0) := by
  rw [pParse_eq, rPParse_u, uniq h, if_pos h]
theorem pr_right (p : PortsT) : decide ((pPrint p).2 = 0) = pRight p := by
  unfold pPrint
  cases pRight p
  · simp
  · simp only [Bool.not_true, Bool.false_eq_true, if_false]; split
    · simp
    · split <;> simp
end Go.Proofs.YtnblakihpoacjaaGreatDoor.Jd

namespace Go.Proofs.YtnblakihpoacjaaGreatDoor.Jd
set_option linter.unusedVariables false
set_option linter.unusedSimpArgs false
def Ok8 (b : UInt8) : Prop := 33 ≤ b.toNat ∧ b.toNat ≤ 126 ∧ b.toNat ≠ 34 ∧ b.toNat ≠ 92
theorem dig_ok {b : UInt8} (h : isDig b) : Ok8 b := by have := h.1; have := h.2; unfold Ok8; omega
theorem Ok8.ne {b : UInt8} (h : Ok8 b) : b ≠ 32 := fun e => by subst e; revert h; unfold Ok8; decide
theorem plain_l0 (s : Str) (h : ∀ b ∈ s, 32 ≤ b.toNat ∧ b.toNat ≤ 126) : ∀ n i, s.length < i + n → i ≤ s.length → wIsPlain_l0 s n i = .ok s.length
  | 0, i, h1, h2 => by omega
  | n + 1, i, h1, h2 => by
    unfold wIsPlain_l0
    by_cases hi : i < s.length
    · have hb := h _ (List.getElem_mem hi)
      have hg : s.getD i default = s[i] := by rw [List.getD_eq_getElem?_getD, List.getElem?_eq_getElem hi]; rfl
      rw [if_pos hi, dec_lo hi (by rw [hg]; omega), hg]
      rw [if_neg (by simp only; omega), if_neg (by simp only; omega)]
      exact plain_l0 s h n (i + 1) (by omega) (by omega)
    · rw [if_neg hi]
      congr 1
      omega
theorem plain_ok {s : Str} (h : ∀ b ∈ s, 32 ≤ b.toNat ∧ b.toNat ≤ 126) : wIsPlain s = true := by
  unfold wIsPlain
  rw [plain_l0 s h _ 0 (by omega) (by omega)]
  rfl
theorem drop_cons {s : Str} {i : Nat} {b : UInt8} {r : Str} (h : s.drop i = b :: r) : i < s.length ∧ s.getD i default = b ∧ s.drop (i + 1) = r := by
  have hi : i < s.length := by
    rcases Nat.lt_or_ge i s.length with h1 | h1
    · exact h1
    · rw [List.drop_eq_nil_of_le h1] at h; cases h
  rw [List.drop_eq_getElem_cons hi] at h
  injection h with h1 h2
  exact ⟨hi, by rw [List.getD_eq_getElem?_getD, List.getElem?_eq_getElem hi]; exact h1, h2⟩
theorem sp_word (s : Str) : ∀ (u r : Str) (n i : Nat) (done : List Str) (word : List Int), s.drop i = u ++ r → (∀ b ∈ u, Ok8 b) → word.length + u.length ≤ 64 → wSplit_l0 s (n + u.length) i done word 1 = wSplit_l0 s n (i + u.length) done (word ++ toI u) 1
  | [], r, n, i, done, word, _, _, _ => by simp [toI]
  | b :: u, r, n, i, done, word, h, hu, hl => by
    obtain ⟨h1, h2, h3⟩ := drop_cons h
    have hb := hu b List.mem_cons_self
    unfold Ok8 at hb
    have e0 : n + (b :: u).length = (n + u.length) + 1 := by simp; omega
    rw [e0]
    conv => lhs; unfold wSplit_l0
    rw [if_pos (by omega), if_neg (by omega), if_neg (by decide), if_pos rfl, h2, if_neg (by omega), if_neg (by omega), if_neg (by omega), if_neg (by simp at hl ⊢; omega)]
    rw [sp_word s u r n (i + 1) done (word ++ [(b.toNat : Int)]) h3 (fun c hc => hu c (List.mem_cons_of_mem _ hc)) (by simp at hl ⊢; omega)]
    rw [show i + 1 + u.length = i + (b :: u).length by simp; omega]
    congr 1
    simp [toI]
theorem sp_first {s : Str} {b : UInt8} {r : Str} {n i : Nat} {done : List Str} (h : s.drop i = b :: r) (hb : Ok8 b) (hd : done.length < 12) : wSplit_l0 s (n + 1) i done [] 0 = wSplit_l0 s n (i + 1) done (toI [b]) 1 := by
  obtain ⟨h1, h2, h3⟩ := drop_cons h
  unfold Ok8 at hb
  conv => lhs; unfold wSplit_l0
  rw [if_pos (by omega), if_neg (by omega), if_pos rfl, h2, if_neg (by omega), if_neg (by omega), if_neg (by omega), if_neg (by omega), if_neg (by omega), if_neg (by omega), if_neg (by simp)]
  rfl
theorem sp_space {s r : Str} {n i : Nat} {done : List Str} {word : List Int} (h : s.drop i = 32 :: r) : wSplit_l0 s (n + 1) i done word 1 = wSplit_l0 s n (i + 1) (done ++ [toS word]) [] 0 := by
  obtain ⟨h1, h2, h3⟩ := drop_cons h
  conv => lhs; unfold wSplit_l0
  rw [if_pos (by omega), if_neg (by omega), if_neg (by decide), if_pos rfl, h2, if_pos (by decide)]
theorem sp_end {s : Str} {n : Nat} {done : List Str} {word : List Int} : wSplit_l0 s (n + 1) s.length done word 1 = .ok (s.length, done ++ [toS word], [], 0) := by
  conv => lhs; unfold wSplit_l0
  rw [if_pos (by omega), if_pos rfl, if_neg (by decide), if_pos rfl]
theorem sp_whole {s u r : Str} {n i : Nat} {done : List Str} (h : s.drop i = u ++ r) (hu : ∀ b ∈ u, Ok8 b) (h0 : u ≠ []) (hl : u.length ≤ 64) (hd : done.length < 12) : wSplit_l0 s (n + u.length) i done [] 0 = wSplit_l0 s n (i + u.length) done (toI u) 1 := by
  cases u with
  | nil => exact absurd rfl h0
  | cons b u =>
    obtain ⟨h1, h2, h3⟩ := drop_cons h
    have e0 : n + (b :: u).length = (n + u.length) + 1 := by simp; omega
    rw [e0, sp_first h (hu b List.mem_cons_self) hd, sp_word s u r n (i + 1) done (toI [b]) h3 (fun c hc => hu c (List.mem_cons_of_mem _ hc)) (by simp [toI] at hl ⊢; omega)]
    rw [show i + 1 + u.length = i + (b :: u).length by simp; omega]
    congr 1
theorem drop_add {s u r : Str} {i : Nat} (h : s.drop i = u ++ r) : s.drop (i + u.length) = r := by
  rw [← List.drop_drop, h, List.drop_left]
theorem split3 {w p q : Str} (hw : ∀ b ∈ w, Ok8 b) (hp : ∀ b ∈ p, Ok8 b) (hq : ∀ b ∈ q, Ok8 b) (w0 : w ≠ []) (p0 : p ≠ []) (q0 : q ≠ []) (wl : w.length ≤ 64) (pl : p.length ≤ 64) (ql : q.length ≤ 64) :
    wSplit (w ++ [32] ++ p ++ [32] ++ q) = ([w, p, q], 0) := by
  have hlen : (w ++ [32] ++ p ++ [32] ++ q).length = w.length + 1 + p.length + 1 + q.length := by simp; omega
  obtain ⟨s, hs⟩ : ∃ s, s = w ++ [32] ++ p ++ [32] ++ q := ⟨_, rfl⟩
  rw [← hs] at hlen ⊢
  have hpl : wIsPlain s = true := plain_ok fun b hb => by
    rw [hs] at hb
    simp only [List.mem_append, List.mem_singleton] at hb
    have hok : ∀ c : UInt8, Ok8 c → 32 ≤ c.toNat ∧ c.toNat ≤ 126 := fun c hc => by unfold Ok8 at hc; omega
    rcases hb with (((hb | hb) | hb) | hb) | hb
    · exact hok b (hw b hb)
    · subst hb; decide
    · exact hok b (hp b hb)
    · subst hb; decide
    · exact hok b (hq b hb)
  unfold wSplit
  rw [if_neg (by omega), hpl, if_neg (by simp)]
  have d0 : s.drop 0 = w ++ (32 :: (p ++ (32 :: q))) := by rw [hs]; simp
  have d1 : s.drop (0 + w.length) = 32 :: (p ++ (32 :: q)) := drop_add d0
  have d2 : s.drop (0 + w.length + 1) = p ++ (32 :: q) := (drop_cons d1).2.2
  have d3 : s.drop (0 + w.length + 1 + p.length) = 32 :: q := drop_add d2
  have d4 : s.drop (0 + w.length + 1 + p.length + 1) = q ++ [] := by rw [(drop_cons d3).2.2]; simp
  have ef : s.length + 1 + 1 = ((((1 + 1) + q.length) + 1 + p.length) + 1) + w.length := by omega
  have key : wSplit_l0 s (s.length + 1 + 1) 0 [] [] 0 = .ok (s.length, [w, p, q], [], 0) := by
    rw [ef, sp_whole d0 hw w0 wl (by decide), sp_space d1, sp_whole d2 hp p0 pl (by simp), sp_space d3, sp_whole d4 hq q0 ql (by simp)]
    rw [show 0 + w.length + 1 + p.length + 1 + q.length = s.length by omega, sp_end, toS_toI, toS_toI, toS_toI]
    rfl
  rw [key]
  rfl
theorem itoa_ok {n : Int} (h : 0 ≤ n) : ∀ b ∈ Lib.itoa n, Ok8 b := fun b hb => dig_ok (itoa_dig h b hb)
theorem itoa_ne {n : Int} (h : 0 ≤ n ∧ n ≤ 65535) : Lib.itoa n ≠ [] := fun e => by
  have := number_itoa (n := n) (m := 65535) h
  rw [e, number_nil 65535 (by decide)] at this
  cases this
theorem prefix_ok {p : Prefix} (h : rRight p = true) : (∀ b ∈ (rPrintPrefix p).1, Ok8 b) ∧ (rPrintPrefix p).1 ≠ [] ∧ (rPrintPrefix p).1.length ≤ 64 := by
  have hg := rRight_iff.1 h
  have i1 := itoa_len (n := p.bits) (by have := hg.1; omega)
  have hb5 : ∀ b ∈ Lib.itoa p.bits, Ok8 b := itoa_ok hg.1.1
  have l1 : (Lib.itoa p.bits).length ≤ 2 := by
    have := hg.1
    have h2 := decDigits_len 1 p.bits.toNat (by omega)
    unfold Lib.itoa
    rw [if_neg (by omega)]
    exact h2
  have sh : ∀ n : Int, 0 ≤ n ∧ n ≤ 255 → (Lib.itoa n).length ≤ 3 := fun n hn => by
    have h2 := decDigits_len 2 n.toNat (by omega)
    unfold Lib.itoa
    rw [if_neg (by omega)]
    exact h2
  unfold rPrintPrefix
  rw [h]
  simp only [Bool.not_true, Bool.false_eq_true, if_false]
  unfold rPrint
  rw [← isAddr_eq, isAddr_iff.2 hg.2.1]
  simp only [Bool.not_true, Bool.false_eq_true, if_false]
  have ha := hg.2.1
  refine ⟨fun b hb => ?_, by simp, ?_⟩
  · simp only [List.mem_append, List.mem_singleton] at hb
    have c1 : Ok8 46 := by unfold Ok8; decide
    have c2 : Ok8 47 := by unfold Ok8; decide
    rcases hb with ((((((((hb | hb) | hb) | hb) | hb) | hb) | hb) | hb) | hb)
    · exact itoa_ok (by omega) b hb
    · subst hb; exact c1
    · exact itoa_ok (by omega) b hb
    · subst hb; exact c1
    · exact itoa_ok (by omega) b hb
    · subst hb; exact c1
    · exact itoa_ok (by omega) b hb
    · subst hb; exact c2
    · exact hb5 b hb
  · have j1 := sh (p.addr / 16777216) (by omega)
    have j2 := sh (p.addr / 65536 % 256) (by omega)
    have j3 := sh (p.addr / 256 % 256) (by omega)
    have j4 := sh (p.addr % 256) (by omega)
    simp only [List.length_append, List.length_cons, List.length_nil]
    omega
theorem ports_ok {p : PortsT} {s : Str} (h : pPrint p = (s, 0)) : (∀ b ∈ s, Ok8 b) ∧ s ≠ [] ∧ s.length ≤ 64 := by
  obtain ⟨hb, ⟨_, e⟩ | ⟨_, e⟩ | ⟨_, e⟩⟩ := print_cases h
  · subst e; refine ⟨fun b hb => ?_, by simp, by simp⟩
    rw [List.mem_singleton] at hb; subst hb; unfold Ok8; decide
  · have i1 := itoa_len (n := p.lo) (by omega)
    rw [e]; exact ⟨itoa_ok (by omega), itoa_ne (by omega), by omega⟩
  · have i1 := itoa_len (n := p.lo) (by omega)
    have i2 := itoa_len (n := p.hi) (by omega)
    rw [e]
    refine ⟨fun b hb => ?_, by simp, by simp only [List.length_append, List.length_cons, List.length_nil]; omega⟩
    simp only [List.mem_append, List.mem_singleton] at hb
    rcases hb with (hb | hb) | hb
    · exact itoa_ok (by omega) b hb
    · subst hb; unfold Ok8; decide
    · exact itoa_ok (by omega) b hb
theorem aclOne_iff {r : Rule} : aclOne r = true ↔ aRight r.pfx = true ∧ pRight r.prt = true := by
  unfold aclOne
  cases aRight r.pfx <;> simp
theorem rlOne_eq (r : Rule) : rlOne r = aclOne r := by
  unfold rlOne aclOne
  rw [← aRight_eq, rPRight_eq]
theorem rlPrint_eq (r : Rule) : rlPrint r = aclPrint r := by
  unfold rlPrint aclPrint
  rw [rlOne_eq, aPrintPrefix_eq, rPPrint_eq]
def word8 (b : Bool) : Str := if b then [97, 108, 108, 111, 119] else [100, 101, 110, 121]
theorem word8_ok (b : Bool) : (∀ c ∈ word8 b, Ok8 c) ∧ word8 b ≠ [] ∧ (word8 b).length ≤ 64 ∧ decide (word8 b = [97, 108, 108, 111, 119]) = b := by
  cases b
  · refine ⟨fun c hc => ?_, by decide, by decide, by decide⟩
    simp [word8] at hc; unfold Ok8; rcases hc with rfl | rfl | rfl | rfl <;> decide
  · refine ⟨fun c hc => ?_, by decide, by decide, by decide⟩
    simp [word8] at hc; unfold Ok8; rcases hc with rfl | rfl | rfl | rfl <;> decide
theorem pPrint_pair {p : PortsT} (h : pRight p = true) : pPrint p = ((pPrint p).1, 0) := by
  have := pr_right p
  rw [h, decide_eq_true_eq] at this
  exact Prod.ext rfl this
theorem aclPrint_good {r : Rule} (h : aclOne r = true) : aclPrint r = (word8 r.allow ++ [32] ++ (rPrintPrefix r.pfx).1 ++ [32] ++ (pPrint r.prt).1, 0) := by
  unfold aclPrint
  rw [h, aPrintPrefix_eq]
  rw [if_neg (by simp)]
  cases r.allow <;> rfl
theorem aclPrint_bad {r : Rule} (h : aclOne r = false) : aclPrint r = ([], 80) := by
  unfold aclPrint
  rw [h]; rfl
theorem aclPrint_cases {r : Rule} {s : Str} (h : aclPrint r = (s, 0)) : aclOne r = true ∧ s = word8 r.allow ++ [32] ++ (rPrintPrefix r.pfx).1 ++ [32] ++ (pPrint r.prt).1 := by
  cases hr : aclOne r with
  | false => rw [aclPrint_bad hr] at h; cases h
  | true => rw [aclPrint_good hr] at h; exact ⟨rfl, (congrArg Prod.fst h).symm⟩
def Z8 : Rule := Rule.mk false (Prefix.mk 0 0) (PortsT.mk 0 0)
def cand8 (s : Str) : Rule := Rule.mk (decide ((wSplit s).1.getD 0 default = [97, 108, 108, 111, 119])) (aParsePrefix ((wSplit s).1.getD 1 default)).1 (pParse ((wSplit s).1.getD 2 default)).1
def rcand8 (s : Str) : Rule := Rule.mk (decide ((rCut s 32).1 = [97, 108, 108, 111, 119])) (rParsePrefix (rCut (rCut s 32).2.1 32).1).1 (rPParse (rCut (rCut s 32).2.1 32).2.1).1
theorem cut32 (s : Str) : rCut s 32 = Lib.cut s [32] := rCut_eq s 32
theorem uniq8 {r : Rule} {s : Str} (h : aclPrint r = (s, 0)) : cand8 s = r ∧ rcand8 s = r ∧ (wSplit s).2 = 0 ∧ (wSplit s).1.length = 3 ∧ (aParsePrefix ((wSplit s).1.getD 1 default)).2 = 0 ∧ (pParse ((wSplit s).1.getD 2 default)).2 = 0 := by
  obtain ⟨hr, hs⟩ := aclPrint_cases h
  obtain ⟨h1, h2⟩ := aclOne_iff.1 hr
  rw [aRight_eq] at h1
  obtain ⟨p1, p2, p3⟩ := prefix_ok h1
  obtain ⟨q1, q2, q3⟩ := ports_ok (pPrint_pair h2)
  obtain ⟨w1, w2, w3, w4⟩ := word8_ok r.allow
  have hsp := split3 w1 p1 q1 w2 p2 q2 w3 p3 q3
  rw [← hs] at hsp
  have hpb := prefix_back h1
  have hqb := pback (pPrint_pair h2)
  have e0 : (wSplit s).1.getD 0 default = word8 r.allow := by rw [hsp]; rfl
  have e1 : (wSplit s).1.getD 1 default = (rPrintPrefix r.pfx).1 := by rw [hsp]; rfl
  have e2 : (wSplit s).1.getD 2 default = (pPrint r.prt).1 := by rw [hsp]; rfl
  have c1 : rCut s 32 = (word8 r.allow, (rPrintPrefix r.pfx).1 ++ [32] ++ (pPrint r.prt).1, true) := by
    rw [cut32, hs]
    have := cut_at (c := 32) (word8 r.allow) ((rPrintPrefix r.pfx).1 ++ [32] ++ (pPrint r.prt).1) (fun b hb => (w1 b hb).ne)
    rw [← this]; congr 1; simp
  have c2 : rCut ((rPrintPrefix r.pfx).1 ++ [32] ++ (pPrint r.prt).1) 32 = ((rPrintPrefix r.pfx).1, (pPrint r.prt).1, true) := by
    rw [cut32]
    exact cut_at (c := 32) _ _ (fun b hb => (p1 b hb).ne)
  refine ⟨?_, ?_, by rw [hsp], by rw [hsp]; rfl, by rw [e1, aParsePrefix_eq, hpb.1], by rw [e2, hqb]⟩
  · unfold cand8
    rw [e0, e1, e2, w4, aParsePrefix_eq, hpb.1, hqb]
  · unfold rcand8
    simp only [c1, c2]
    rw [w4, hpb.1, ← pParse_eq, hqb]
theorem aclParse_u (s : Str) : aclParse s = if aclPrint (cand8 s) = (s, 0) then (cand8 s, 0) else (Z8, 80) := by
  by_cases h : aclPrint (cand8 s) = (s, 0)
  · obtain ⟨_, _, h1, h2, h3, h4⟩ := uniq8 h
    have h5 := congrArg Prod.fst h
    have h6 := congrArg Prod.snd h
    rw [if_pos h]
    unfold aclParse
    unfold cand8 at h5 h6 ⊢
    rw [if_neg (by rw [h1]; simp), if_neg (by rw [h2]; simp), if_neg (by rw [h3]; simp), if_neg (by rw [h4]; simp), if_neg (by rw [h6]; simp), if_neg (by rw [h5]; simp)]
  · rw [if_neg h]
    unfold aclParse
    unfold cand8 at h
    split
    · rfl
    · split
      · rfl
      · split
        · rfl
        · split
          · rfl
          · split
            · rfl
            · split
              · rfl
              · rename_i a b
                exact absurd (Prod.ext (Decidable.not_not.1 b) (Decidable.not_not.1 a)) h
theorem rlParse_u (s : Str) : rlParse s = if aclPrint (rcand8 s) = (s, 0) then (rcand8 s, 0) else (Z8, 80) := by
  unfold rlParse
  simp only [rlPrint_eq]
  by_cases h : aclPrint (rcand8 s) = (s, 0)
  · have h5 := congrArg Prod.fst h
    have h6 := congrArg Prod.snd h
    rw [if_pos h]
    unfold rcand8 at h5 h6 ⊢
    rw [if_neg (by rw [h6]; simp), if_neg (by rw [h5]; simp)]
  · rw [if_neg h]
    unfold rcand8 at h
    split
    · rfl
    · split
      · rfl
      · rename_i a b
        exact absurd (Prod.ext (Decidable.not_not.1 b) (Decidable.not_not.1 a)) h
theorem aclParse_eq (s : Str) : aclParse s = rlParse s := by
  rw [aclParse_u, rlParse_u]
  by_cases h : aclPrint (cand8 s) = (s, 0)
  · have := (uniq8 h).2.1
    rw [if_pos h, this, if_pos h]
  · rw [if_neg h]
    by_cases h2 : aclPrint (rcand8 s) = (s, 0)
    · exact absurd ((uniq8 h2).1 ▸ h2) h
    · rw [if_neg h2]
theorem aback {r : Rule} {s : Str} (h : aclPrint r = (s, 0)) : aclParse s = (r, 0) := by
  have := (uniq8 h).1
  rw [aclParse_u, this, if_pos h]
theorem afound {s : Str} (h : (aclParse s).2 = 0) : aclPrint (aclParse s).1 = (s, 0) := by
  rw [aclParse_u] at h ⊢
  by_cases c : aclPrint (cand8 s) = (s, 0)
  · rw [if_pos c]; exact c
  · rw [if_neg c] at h; simp at h
theorem alost {s : Str} (h : (aclParse s).2 ≠ 0) : aclParse s = (Z8, 80) := by
  rw [aclParse_u] at h ⊢
  by_cases c : aclPrint (cand8 s) = (s, 0)
  · rw [if_pos c] at h; exact absurd rfl h
  · rw [if_neg c]
end Go.Proofs.YtnblakihpoacjaaGreatDoor.Jd

namespace Go.Proofs.YtnblakihpoacjaaGreatDoor.Jd
set_option linter.unusedVariables false
set_option linter.unusedSimpArgs false
theorem getD_mem' {α : Type} [Inhabited α] {xs : List α} {k : Nat} (h : k < xs.length) : xs.getD k default ∈ xs := by
  rw [List.getD_eq_getElem?_getD, List.getElem?_eq_getElem h]; exact List.getElem_mem h
theorem mem_getD' {α : Type} [Inhabited α] {xs : List α} {x : α} (h : x ∈ xs) : ∃ k, k < xs.length ∧ xs.getD k default = x := by
  obtain ⟨k, hk, rfl⟩ := List.getElem_of_mem h
  exact ⟨k, hk, by rw [List.getD_eq_getElem?_getD, List.getElem?_eq_getElem hk]; rfl⟩
theorem aclRight_l0_eq (l : List Rule) : ∀ n i, l.length < i + n → i ≤ l.length → (aclRight_l0 l n i = .ok l.length ∧ ∀ k, i ≤ k → k < l.length → aclOne (l.getD k default) = true) ∨ (aclRight_l0 l n i = .error false ∧ ∃ k, k < l.length ∧ aclOne (l.getD k default) = false)
  | 0, i, h1, h2 => by omega
  | n + 1, i, h1, h2 => by
    unfold aclRight_l0
    by_cases hi : i < l.length
    · rw [if_pos (by omega)]
      cases hr : aclOne (l.getD i default) with
      | false => exact .inr ⟨by simp, i, hi, hr⟩
      | true =>
        rw [if_neg (by simp)]
        rcases aclRight_l0_eq l n (i + 1) (by omega) (by omega) with ⟨h3, h4⟩ | ⟨h3, k, h4⟩
        · refine .inl ⟨h3, fun k h5 h6 => ?_⟩
          by_cases e : k = i
          · subst e; exact hr
          · exact h4 k (by omega) h6
        · exact .inr ⟨h3, k, h4⟩
    · rw [if_neg (by omega)]
      exact .inl ⟨by congr 1; omega, fun k h5 h6 => by omega⟩
theorem aclRight_iff {l : List Rule} : aclRight l = true ↔ l.length ≤ 16 ∧ ∀ r ∈ l, aclOne r = true := by
  unfold aclRight
  by_cases hl : l.length ≤ 16
  · rw [if_pos (by omega)]
    rcases aclRight_l0_eq l (l.length + 1) 0 (by omega) (by omega) with ⟨h3, h4⟩ | ⟨h3, k, h4, h5⟩
    · rw [h3]
      refine ⟨fun _ => ⟨hl, fun r hr => ?_⟩, fun _ => rfl⟩
      obtain ⟨k, hk, rfl⟩ := mem_getD' hr
      exact h4 k (Nat.zero_le _) hk
    · rw [h3]
      refine ⟨fun h => (by cases h), fun h => ?_⟩
      have := h.2 _ (getD_mem' h4)
      rw [h5] at this; cases this
  · rw [if_neg (by omega)]
    exact ⟨fun h => (by cases h), fun h => absurd h.1 hl⟩
theorem rlRight_l0_eq (l : List Rule) : ∀ n i, l.length < i + n → i ≤ l.length → (rlRight_l0 l n i = .ok l.length ∧ ∀ k, i ≤ k → k < l.length → aclOne (l.getD k default) = true) ∨ (rlRight_l0 l n i = .error false ∧ ∃ k, k < l.length ∧ aclOne (l.getD k default) = false)
  | 0, i, h1, h2 => by omega
  | n + 1, i, h1, h2 => by
    unfold rlRight_l0
    rw [rlOne_eq]
    by_cases hi : i < l.length
    · rw [if_pos (by omega)]
      cases hr : aclOne (l.getD i default) with
      | false => exact .inr ⟨by simp, i, hi, hr⟩
      | true =>
        rw [if_neg (by simp)]
        rcases rlRight_l0_eq l n (i + 1) (by omega) (by omega) with ⟨h3, h4⟩ | ⟨h3, k, h4⟩
        · refine .inl ⟨h3, fun k h5 h6 => ?_⟩
          by_cases e : k = i
          · subst e; exact hr
          · exact h4 k (by omega) h6
        · exact .inr ⟨h3, k, h4⟩
    · rw [if_neg (by omega)]
      exact .inl ⟨by congr 1; omega, fun k h5 h6 => by omega⟩
theorem rlRight_iff {l : List Rule} : rlRight l = true ↔ l.length ≤ 16 ∧ ∀ r ∈ l, aclOne r = true := by
  unfold rlRight
  rcases rlRight_l0_eq l (l.length + 1) 0 (by omega) (by omega) with ⟨h3, h4⟩ | ⟨h3, k, h4, h5⟩
  · rw [h3]
    show decide _ = true ↔ _
    rw [decide_eq_true_eq]
    refine ⟨fun h => ⟨by omega, fun r hr => ?_⟩, fun h => by omega⟩
    obtain ⟨k, hk, rfl⟩ := mem_getD' hr
    exact h4 k (Nat.zero_le _) hk
  · rw [h3]
    refine ⟨fun h => (by cases h), fun h => ?_⟩
    have := h.2 _ (getD_mem' h4)
    rw [h5] at this; cases this
theorem rlRight_eq (l : List Rule) : rlRight l = aclRight l := by rw [Bool.eq_iff_iff, rlRight_iff, aclRight_iff]
theorem rlFits_eq (r : Rule) (t : Target) : rlFits r t = aclFits r t := by
  unfold rlFits aclFits aclFitsR
  rw [rlOne_eq, rTPrint_eq]
  simp only [← aHas_eq, rPHas_eq]
  by_cases h : (tPrint t).2 = 0
  · simp [h]
  · simp [h]
theorem aclFits_at {r : Rule} {t : Target} (h : (tPrint t).2 = 0) : aclFits r t = aclFitsR r t := by unfold aclFits; rw [if_neg (by simp [h])]
theorem rl_l0 (l : List Rule) (t : Target) (ht : (tPrint t).2 = 0) : ∀ n i, l.length < i + n → i ≤ l.length → (∀ j, j < i → aclFitsR (l.getD j default) t = false) → outc1 (rlDecide_l0 l t n i) (fun r => r) (fun _ => (false, -1, 0)) = said l t
  | 0, i, h1, h2, _ => by omega
  | n + 1, i, h1, h2, h3 => by
    unfold rlDecide_l0
    rw [rlFits_eq, aclFits_at ht]
    by_cases hi : i < l.length
    · rw [if_pos (by omega)]
      by_cases hf : aclFitsR (l.getD i default) t = true
      · rw [if_pos hf]
        unfold said
        rw [firstFit_some hi hf h3]
        rfl
      · rw [if_neg hf]
        refine rl_l0 l t ht n (i + 1) (by omega) (by omega) fun j hj => ?_
        by_cases e : j = i
        · subst e; exact bool_not hf
        · exact h3 j (by omega)
    · rw [if_neg (by omega)]
      unfold said
      rw [firstFit_none (fun j hj => h3 j (by omega))]
      rfl
theorem rlDecide_eq (l : List Rule) (t : Target) : rlDecide l t = aclDecide l t := by
  rw [aclDecide_eq]
  unfold rlDecide
  rw [rlRight_eq, rTPrint_eq]
  cases hr : aclRight l with
  | false => simp
  | true =>
    by_cases h : (tPrint t).2 = 0
    · rw [if_neg (by simp), if_neg (by simp [h]), if_neg (by simp), if_neg (by simp [h])]
      exact rl_l0 l t h _ 0 (by omega) (by omega) (fun j hj => by omega)
    · rw [if_neg (by simp), if_pos h, if_neg (by simp), if_pos h]
theorem aclInsert_eq (l : List Rule) (a : Int) (r : Rule) : aclInsert l a r = rlInsert l a r := by
  unfold aclInsert rlInsert
  rw [rlRight_eq, rlOne_eq]
  simp [insL]
theorem aclRemove_eq (l : List Rule) (a : Int) : aclRemove l a = rlRemove l a := by
  unfold aclRemove rlRemove
  rw [rlRight_eq]
  simp [delL]
theorem rlSame_l0_self (l : List Rule) : ∀ n i, l.length < i + n → i ≤ l.length → rlSame_l0 l l n i = .ok l.length
  | 0, i, h1, h2 => by omega
  | n + 1, i, h1, h2 => by
    unfold rlSame_l0
    by_cases hi : i < l.length
    · rw [if_pos (by omega), if_neg (by simp)]; exact rlSame_l0_self l n (i + 1) (by omega) (by omega)
    · rw [if_neg (by omega)]; congr 1; omega
theorem rlSame_self (l : List Rule) : rlSame l l = true := by
  unfold rlSame
  rw [if_neg (by simp), rlSame_l0_self l _ 0 (by omega) (by omega)]
  rfl
def s81 : Rule := ⟨false, ⟨167772160, 8⟩, ⟨22, 22⟩⟩
def s82 : Rule := ⟨true, ⟨167772160, 8⟩, ⟨0, 65535⟩⟩
theorem sp1 : aclPrint s81 = ([100, 101, 110, 121, 32, 49, 48, 46, 48, 46, 48, 46, 48, 47, 56, 32, 50, 50], 0) := by unfold aclPrint aPrintPrefix aPrint pPrint; rw [itoaF_eq]; kernel_rfl
theorem sp2 : aclPrint s82 = ([97, 108, 108, 111, 119, 32, 49, 48, 46, 48, 46, 48, 46, 48, 47, 56, 32, 42], 0) := by unfold aclPrint aPrintPrefix aPrint pPrint; rw [itoaF_eq]; kernel_rfl
theorem sp3 : (aclParse [97, 108, 108, 111, 119, 32, 49, 48, 46, 48, 46, 48, 46, 48, 47, 56]).2 = 80 := by
  by_cases h : (aclParse [97, 108, 108, 111, 119, 32, 49, 48, 46, 48, 46, 48, 46, 48, 47, 56]).2 = 0
  · have h1 := (uniq8 (afound h)).2.2.2.1
    have h2 : (wSplit [97, 108, 108, 111, 119, 32, 49, 48, 46, 48, 46, 48, 46, 48, 47, 56]).1.length = 2 := by kernel_rfl
    rw [h2] at h1; cases h1
  · rw [alost h]
theorem sd1 : aclDecide [s81, s82] ⟨167838211, 80⟩ = (true, 1, 0) := by unfold aclDecide tPrint aPrint; rw [itoaF_eq]; kernel_rfl
theorem sd2 : aclDecide [s81, s82] ⟨167838211, 22⟩ = (false, 0, 0) := by unfold aclDecide tPrint aPrint; rw [itoaF_eq]; kernel_rfl
theorem sd3 : aclDecide [s81, s82] ⟨184549376, 80⟩ = (false, -1, 0) := by unfold aclDecide tPrint aPrint; rw [itoaF_eq]; kernel_rfl
theorem si1 : (aclInsert [s81, s82] 3 s81).2 = 82 := by kernel_rfl
theorem lShown8_true : lShown8 = true := by
  unfold lShown8
  simp only [aback sp1, aback sp2, sp2, sp3, sd1, sd2, sd3, si1]
  rfl
theorem lAclTexts_true (l : List Rule) (r : Rule) (s : Str) (t : Target) : lAclTexts l r s t = true := by
  unfold lAclTexts
  simp only [lShown8_true, rlRight_eq, rlPrint_eq, aclParse_eq, rlFits_eq, beq_self_eq_true, and_self, if_true]
theorem lAclDecides_true (l : List Rule) (t : Target) (a : Int) (r : Rule) : lAclDecides l t a r = true := by
  unfold lAclDecides
  simp only [lShown8_true, rlDecide_eq, aclInsert_eq, aclRemove_eq, rlSame_self, beq_self_eq_true, if_true, decide_true]
theorem one_right (r : Rule) : aclRight [r] = aclOne r := by
  rw [Bool.eq_iff_iff, aclRight_iff]
  simp
theorem lAclBack_true (r : Rule) (s : Str) : lAclBack r s = true := by
  unfold lAclBack
  rw [one_right]
  have tail : ∀ x : Str, (if (aclParse x).2 ≠ 0 then (if (aclParse x).1.allow = false ∧ (aclParse x).1.pfx.addr = 0 ∧ (aclParse x).1.pfx.bits = 0 ∧ (aclParse x).1.prt.lo = 0 ∧ (aclParse x).1.prt.hi = 0 then true else (if (aclParse x).2 = 0 then (if (aclPrint (aclParse x).1).2 = 0 then decide ((aclPrint (aclParse x).1).1 = x) else false) else false)) else (if (aclParse x).2 = 0 then (if (aclPrint (aclParse x).1).2 = 0 then decide ((aclPrint (aclParse x).1).1 = x) else false) else false)) = true := fun x => by
    by_cases h : (aclParse x).2 = 0
    · have := afound h
      rw [if_neg (by simp [h]), if_pos h, this]; simp
    · rw [if_pos h, alost h]; simp [Z8]
  cases hr : aclOne r with
  | false =>
    rw [aclPrint_bad hr]
    simp only [lShown8_true, if_true]
    rw [if_neg (by decide), if_pos (by decide)]
    exact tail _
  | true =>
    have hp := aclPrint_good hr
    have hb := aback hp
    have h0 : (aclPrint r).2 = 0 := by rw [hp]
    have hb' : aclParse (aclPrint r).1 = (r, 0) := by rw [hp]; exact hb
    rw [if_pos h0, hb', if_neg (by simp), if_neg (by simp), h0]
    simp only [lShown8_true, if_true]
    rw [if_pos (by decide)]
    exact tail _
theorem decide_cases (l : List Rule) (t : Target) : (aclDecide l t).2.2 ≠ 0 ∧ (aclDecide l t).1 = false ∧ (aclDecide l t).2.1 = 0 ∨ aclRight l = true ∧ (tPrint t).2 = 0 ∧ aclDecide l t = said l t := by
  rw [aclDecide_eq]
  cases hr : aclRight l with
  | false => simp
  | true =>
    by_cases h : (tPrint t).2 = 0
    · right; simp [h]
    · left; simp [h]
theorem said_none {l : List Rule} {t : Target} (h : firstFit l t = none) : said l t = (false, -1, 0) := by unfold said; rw [h]
theorem said_some {l : List Rule} {t : Target} {k : Nat} (h : firstFit l t = some k) : said l t = ((l.getD k default).allow, (k : Int), 0) := by unfold said; rw [h]
theorem first_l0 (l : List Rule) (t : Target) (h : ∀ j, j < (lFew8 l).length → aclFits ((lFew8 l).getD j default) t = false) : ∀ n i, (lFew8 l).length < i + n → i ≤ (lFew8 l).length → lAclFirst_l0 l t n i = .ok (lFew8 l).length
  | 0, i, h1, h2 => by omega
  | n + 1, i, h1, h2 => by
    unfold lAclFirst_l0
    by_cases hi : i < (lFew8 l).length
    · rw [if_pos (by omega), h i hi, if_neg (by simp)]; exact first_l0 l t h n (i + 1) (by omega) (by omega)
    · rw [if_neg (by omega)]; congr 1; omega
theorem first_l1 (l : List Rule) (t : Target) {k : Nat} (hk : (aclDecide (lFew8 l) t).2.1 = (k : Int)) (h : ∀ j, j < k → aclFits ((lFew8 l).getD j default) t = false) : ∀ n i, k < i + n → i ≤ k → lAclFirst_l1 l t n i = .ok k
  | 0, i, h1, h2 => by omega
  | n + 1, i, h1, h2 => by
    unfold lAclFirst_l1
    rw [hk]
    by_cases hi : i < k
    · rw [if_pos (by omega), h i hi, if_neg (by simp)]; exact first_l1 l t hk h n (i + 1) (by omega) (by omega)
    · rw [if_neg (by omega)]; congr 1; omega
theorem lAclFirst_true (l : List Rule) (t : Target) : lAclFirst l t = true := by
  unfold lAclFirst
  rcases decide_cases (lFew8 l) t with ⟨h1, h2, h3⟩ | ⟨h1, h2, h3⟩
  · rw [if_pos h1, h2, h3]; simp [lShown8_true]
  · cases hf : firstFit (lFew8 l) t with
    | none =>
      rw [said_none hf] at h3
      have hn := firstFit_no hf
      rw [first_l0 l t (fun j hj => by rw [aclFits_at h2]; exact hn j hj) _ 0 (by omega) (by omega), h3]
      simp [lShown8_true, outc1]
      omega
    | some k =>
      obtain ⟨f1, f2, f3⟩ := firstFit_at hf
      rw [said_some hf] at h3
      have hk : (aclDecide (lFew8 l) t).2.1 = (k : Int) := by rw [h3]
      rw [first_l1 l t hk (fun j hj => by rw [aclFits_at h2]; exact f3 j hj) _ 0 (by rw [hk]; omega) (by omega), h3]
      have c1 : ¬ ((k : Int) < -1) := by omega
      have c2 : ¬ (((lFew8 l).length : Int) ≤ (k : Int)) := by omega
      simp only [ne_eq, not_true_eq_false, if_false, c1, c2, outc1, lShown8_true, if_true, Int.toNat_natCast, aclFits_at h2, f2, beq_self_eq_true]
      rw [if_neg (by omega)]
      simp
theorem insL_getD {l : List Rule} {a k : Nat} {r : Rule} (ha : a ≤ l.length) : (insL l a r).getD k default = if k < a then l.getD k default else if k = a then r else l.getD (k - 1) default := by
  have e1 : (l.take a).length = a := by rw [List.length_take]; omega
  simp only [List.getD_eq_getElem?_getD, insL]
  by_cases h : k < a
  · rw [if_pos h, List.getElem?_append_left (by omega), List.getElem?_take, if_pos h]
  · rw [if_neg h, List.getElem?_append_right (by omega), e1]
    by_cases h2 : k = a
    · subst h2; simp
    · rw [if_neg h2, show k - a = (k - 1 - a) + 1 by omega, List.getElem?_cons_succ, List.getElem?_drop]
      congr 2; omega
theorem insert_cases (l : List Rule) (a : Int) (r : Rule) : ((aclInsert l a r).2 ≠ 0 ∧ (aclInsert l a r).1 = []) ∨ (aclRight l = true ∧ aclOne r = true ∧ 0 ≤ a ∧ a ≤ l.length ∧ l.length < 16 ∧ aclInsert l a r = (insL l a.toNat r, 0) ∧ aclRight (insL l a.toNat r) = true) := by
  unfold aclInsert
  cases hr : aclRight l with
  | false => left; simp
  | true =>
    cases ho : aclOne r with
    | false => left; simp
    | true =>
      by_cases h1 : a < 0
      · left; simp [h1]
      · by_cases h2 : (l.length : Int) < a
        · left; simp [h1, h2]
        · by_cases h3 : 16 ≤ (l.length : Int)
          · left; rw [if_neg (by simp), if_neg (by simp), if_neg h1, if_neg h2, if_pos h3]; simp
          · right
            refine ⟨rfl, rfl, by omega, by omega, by omega, by rw [if_neg (by simp), if_neg (by simp), if_neg h1, if_neg h2, if_neg h3], ?_⟩
            rw [aclRight_iff] at hr ⊢
            refine ⟨by rw [insL_length (by omega)]; omega, fun x hx => ?_⟩
            simp only [insL, List.mem_append, List.mem_cons] at hx
            rcases hx with hx | rfl | hx
            · exact hr.2 x (List.mem_of_mem_take hx)
            · exact ho
            · exact hr.2 x (List.mem_of_mem_drop hx)
theorem decide_said {l : List Rule} {t : Target} (h1 : aclRight l = true) (h2 : (tPrint t).2 = 0) : aclDecide l t = said l t := by
  rw [aclDecide_eq, h1]; simp [h2]
theorem first_ins_hit {l : List Rule} {t : Target} {a : Nat} {r : Rule} (ha : a ≤ l.length) (hr : aclFitsR r t = true) (h : ∀ j, j < a → aclFitsR (l.getD j default) t = false) : firstFit (insL l a r) t = some a :=
  firstFit_some (by rw [insL_length ha]; omega) (by rw [insL_getD ha, if_neg (by omega), if_pos rfl]; exact hr) (fun j hj => by rw [insL_getD ha, if_pos hj]; exact h j hj)
theorem first_ins_none {l : List Rule} {t : Target} {a : Nat} {r : Rule} (ha : a ≤ l.length) (hr : aclFitsR r t = false) (h : firstFit l t = none) : firstFit (insL l a r) t = none := by
  have hn := firstFit_no h
  refine firstFit_none fun j hj => ?_
  rw [insL_length ha] at hj
  rw [insL_getD ha]
  by_cases h1 : j < a
  · rw [if_pos h1]; exact hn j (by omega)
  · rw [if_neg h1]
    by_cases h2 : j = a
    · rw [if_pos h2]; exact hr
    · rw [if_neg h2]; exact hn _ (by omega)
theorem first_ins_up {l : List Rule} {t : Target} {a i : Nat} {r : Rule} (ha : a ≤ i) (hr : aclFitsR r t = false) (h : firstFit l t = some i) : firstFit (insL l a r) t = some (i + 1) := by
  obtain ⟨f1, f2, f3⟩ := firstFit_at h
  have hal : a ≤ l.length := by omega
  refine firstFit_some (by rw [insL_length hal]; omega) ?_ fun j hj => ?_
  · rw [insL_getD hal, if_neg (by omega), if_neg (by omega)]; exact f2
  · rw [insL_getD hal]
    by_cases h1 : j < a
    · rw [if_pos h1]; exact f3 j (by omega)
    · rw [if_neg h1]
      by_cases h2 : j = a
      · rw [if_pos h2]; exact hr
      · rw [if_neg h2]; exact f3 _ (by omega)
theorem first_ins_low {l : List Rule} {t : Target} {a i : Nat} {r : Rule} (hal : a ≤ l.length) (ha : i < a) (h : firstFit l t = some i) : firstFit (insL l a r) t = some i := by
  obtain ⟨f1, f2, f3⟩ := firstFit_at h
  refine firstFit_some (by rw [insL_length hal]; omega) ?_ fun j hj => ?_
  · rw [insL_getD hal, if_pos ha]; exact f2
  · rw [insL_getD hal, if_pos (by omega)]; exact f3 j hj
theorem lAclAhead_true (l : List Rule) (t : Target) (a : Int) (r : Rule) : lAclAhead l t a r = true := by
  unfold lAclAhead
  rcases decide_cases (lFew8 l) t with ⟨h1, _, _⟩ | ⟨h1, h2, h3⟩
  · rw [if_pos h1]; exact lShown8_true
  · rcases insert_cases (lFew8 l) a r with ⟨i1, _⟩ | ⟨_, i2, i3, i4, i5, i6, i7⟩
    · rw [if_pos i1, lShown8_true]; split <;> rfl
    · obtain ⟨n, rfl⟩ := Int.eq_ofNat_of_zero_le i3
      have hn : n ≤ (lFew8 l).length := by omega
      have hm := decide_said i7 h2
      simp only [Int.ofNat_eq_natCast, Int.toNat_natCast] at hm i6
      rw [i6, h3]
      simp only [Int.ofNat_eq_natCast]
      cases hf : firstFit (lFew8 l) t with
      | none =>
        have hno := firstFit_no hf
        rw [said_none hf]
        cases hr : aclFitsR r t with
        | true =>
          rw [first_ins_hit hn hr (fun j hj => hno j (by omega)) |> said_some] at hm
          rw [hm, insL_getD hn]
          simp [lShown8_true, aclFits_at h2, hr]
        | false =>
          rw [said_none (first_ins_none hn hr hf)] at hm
          rw [hm]
          simp [lShown8_true, aclFits_at h2, hr]
      | some i =>
        obtain ⟨f1, f2, f3⟩ := firstFit_at hf
        rw [said_some hf]
        have c0 : ¬ ((i : Int) < 0) := by omega
        by_cases hle : n ≤ i
        · have c1 : ((n : Int) ≤ (i : Int)) := by omega
          cases hr : aclFitsR r t with
          | true =>
            rw [said_some (first_ins_hit hn hr (fun j hj => f3 j (by omega)))] at hm
            rw [hm, insL_getD hn]
            simp [lShown8_true, aclFits_at h2, hr, c1, c0]
          | false =>
            have hg : (insL (lFew8 l) n r).getD (i + 1) default = (lFew8 l).getD i default := by rw [insL_getD hn, if_neg (by omega), if_neg (by omega)]; rfl
            rw [said_some (first_ins_up hle hr hf), hg] at hm
            rw [hm]
            simp [lShown8_true, aclFits_at h2, hr, c1, c0]
        · have c1 : ¬ ((n : Int) ≤ (i : Int)) := by omega
          have hg : (insL (lFew8 l) n r).getD i default = (lFew8 l).getD i default := by rw [insL_getD hn, if_pos (by omega)]
          rw [said_some (first_ins_low hn (by omega) hf), hg] at hm
          rw [hm]
          simp [lShown8_true, c1, c0]
theorem delL_insL {l : List Rule} {n : Nat} {r : Rule} (h : n ≤ l.length) : delL (insL l n r) n (n + 1) = l := by
  have e1 : (l.take n).length = n := by rw [List.length_take]; omega
  unfold delL insL
  rw [List.take_left' e1, show n + 1 = (l.take n).length + 1 by omega, List.drop_length_add_append]
  simp
theorem lAclTurns_true (l : List Rule) (a : Int) (r : Rule) : lAclTurns l a r = true := by
  unfold lAclTurns
  rcases insert_cases (lFew8 l) a r with ⟨i1, i2⟩ | ⟨_, i2, i3, i4, i5, i6, i7⟩
  · rw [if_pos i1, i2]; simp [lShown8_true]
  · obtain ⟨n, rfl⟩ := Int.eq_ofNat_of_zero_le i3
    have hn : n ≤ (lFew8 l).length := by omega
    simp only [Int.ofNat_eq_natCast, Int.toNat_natCast] at i6 i7 ⊢
    rw [i6]
    have hlen : (insL (lFew8 l) n r).length = (lFew8 l).length + 1 := insL_length hn
    have hrem : aclRemove (insL (lFew8 l) n r) (n : Int) = (lFew8 l, 0) := by
      unfold aclRemove
      rw [i7, if_neg (by simp), if_neg (by omega), if_neg (by rw [hlen]; omega)]
      simp only [Int.toNat_natCast, show ((n : Int) + 1).toNat = n + 1 by omega]
      rw [delL_insL hn]
    simp only [hrem, hlen, insL_getD hn, rlSame_self, i7, lShown8_true]
    rw [if_neg (by simp), if_neg (by omega), if_neg (by omega)]
    simp
theorem last_one (b : Bool) : aclOne ⟨b, ⟨0, 0⟩, ⟨0, 65535⟩⟩ = true := by cases b <;> kernel_rfl
theorem last_fits {b : Bool} {t : Target} (h : (tPrint t).2 = 0) : aclFitsR ⟨b, ⟨0, 0⟩, ⟨0, 65535⟩⟩ t = true := by
  obtain ⟨h1, h2, _⟩ := tprint_cases (s := (tPrint t).1) (Prod.ext rfl h)
  unfold aclFitsR
  rw [last_one, if_pos rfl]
  have ha : aHas ⟨0, 0⟩ t.addr = true := aHas_iff.2 ⟨⟨by decide, by decide, by rw [size0]; rfl⟩, h1, by simp only; omega, by simp only [size0]; omega⟩
  rw [ha, if_pos rfl, pHas_d]
  simp
  omega
theorem lAclLast_true (l : List Rule) (t : Target) (b : Bool) : lAclLast l t b = true := by
  unfold lAclLast
  rcases decide_cases (lFew8 l) t with ⟨h1, _, _⟩ | ⟨h1, h2, h3⟩
  · rw [if_pos h1]; exact lShown8_true
  · rcases insert_cases (lFew8 l) ((lFew8 l).length : Int) ⟨b, ⟨0, 0⟩, ⟨0, 65535⟩⟩ with ⟨i1, _⟩ | ⟨_, i2, i3, i4, i5, i6, i7⟩
    · rw [if_pos i1, lShown8_true]; split <;> rfl
    · have hm := decide_said i7 h2
      simp only [Int.toNat_natCast] at hm i6
      rw [i6, h3]
      have hr := last_fits (b := b) h2
      cases hf : firstFit (lFew8 l) t with
      | none =>
        have hno := firstFit_no hf
        rw [said_none hf]
        rw [said_some (first_ins_hit (Nat.le_refl _) hr hno)] at hm
        rw [hm, insL_getD (Nat.le_refl _)]
        simp [lShown8_true]
      | some i =>
        obtain ⟨f1, f2, f3⟩ := firstFit_at hf
        rw [said_some hf]
        have hg : ∀ r, (insL (lFew8 l) (lFew8 l).length r).getD i default = (lFew8 l).getD i default := fun r => by rw [insL_getD (Nat.le_refl _), if_pos f1]
        rw [said_some (first_ins_low (Nat.le_refl _) f1 hf), hg] at hm
        rw [hm]
        simp [lShown8_true]
theorem lAclNone_true (r : Rule) (t : Target) : lAclNone r t = true := by
  unfold lAclNone
  have e0 : aclRight [] = true := by kernel_rfl
  rw [one_right]
  by_cases ht : (tPrint t).2 = 0
  · have d0 : aclDecide [] t = (false, -1, 0) := by rw [decide_said e0 ht, said_none rfl]
    rw [d0, aclFits_at ht]
    cases hr : aclOne r with
    | false =>
      have d1 : aclDecide [r] t = (false, 0, 81) := by rw [aclDecide_eq, one_right, hr]; rfl
      rw [d1]; simp [lShown8_true]
    | true =>
      have d1 := decide_said (l := [r]) (by rw [one_right]; exact hr) ht
      cases hf : aclFitsR r t with
      | true =>
        rw [said_some (k := 0) (firstFit_some (by simp) (by simpa using hf) (fun j hj => by omega))] at d1
        rw [d1]; simp [lShown8_true]
      | false =>
        rw [said_none (firstFit_none (fun j hj => by
          have : j = 0 := by simp at hj; omega
          subst this; simpa using hf))] at d1
        rw [d1]; simp [lShown8_true]
  · have d0 : aclDecide [] t = (false, 0, 71) := by rw [aclDecide_eq, e0]; simp [ht]
    have d1 : (aclDecide [r] t).2.2 ≠ 0 ∧ (aclDecide [r] t).1 = false := by
      rcases decide_cases [r] t with ⟨h1, h2, _⟩ | ⟨_, h2, _⟩
      · exact ⟨h1, h2⟩
      · exact absurd h2 ht
    rw [d0, if_pos (by simp)]
    simp [lShown8_true, d1.1, d1.2]
end Go.Proofs.YtnblakihpoacjaaGreatDoor.Jd

