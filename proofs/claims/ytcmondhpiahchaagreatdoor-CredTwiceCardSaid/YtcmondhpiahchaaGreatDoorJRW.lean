/- Part of the proofs of this seat: walks and plain facts. No condition. -/
import Derived.Test.YtcmondhpiahchaaGreatDoorProg
import Derived.Test.YtcmondhpiahchaaGreatDoorJRM
import Derived.Test.YtcmondhpiahchaaGreatDoorJRN
import Derived.Test.YtcmondhpiahchaaGreatDoorJKW
namespace Go.Proofs.YtcmondhpiahchaaGreatDoor.Jd
open Go.Proofs
open Go.RowKit (Below)
set_option maxRecDepth 100000
set_option linter.unusedVariables false
set_option linter.unusedSimpArgs false

theorem rmRight_ok (w : World) {key : Str} : Val Tryz.prog 25 [(Value.string (bs key))] w (Value.bool ((rmRight key))) := by
  have hF := Is.refl (rmRight key)
  refine enter Tryz.func25 Tryz.ntmps25 (h := ?_)
  refine J_seq ?_
  refine J_reg ?_
  refine JL_q (q_assign) (k := ?_)
  refine JL_nil ?_
  refine JX_seq ?_
  refine J_seq ?_
  refine J_reg ?_
  refine JL_q (q_move) (k := ?_)
  refine JL_q (q_lenT Tryz.runUnderlying9) (k := ?_)
  refine JL_q (q_geq) (k := ?_)
  refine JL_q (q_move) (k := ?_)
  refine JL_dec 6 rfl (fun hq1 => ?_) (fun hq1 => ?_)
  rotate_left
  · refine JL_skips 3 rfl ?_
    refine JL_q (q_pickF) (k := ?_)
    refine JL_q (q_assign) (k := ?_)
    refine JL_nil ?_
    refine JX_seq ?_
    refine J_ret ?_
    refine JX_ret Tryz.results25 (Res.tmp rfl Res.nil) (fun w1 hw1 => ?_)
    exact ⟨(by rw [((hF.neg hq1)).eq] <;> first | rfl | (simp only [List.length_set] <;> rfl)), hw1.ext_out⟩
  refine JL_qg (q_move) (k := ?_)
  refine JL_qg (q_lenT Tryz.runUnderlying9) (k := ?_)
  refine JL_qg (q_leq) (k := ?_)
  refine JL_q (q_pickT) (k := ?_)
  refine JL_q (q_assign) (k := ?_)
  refine JL_nil ?_
  refine JX_seq ?_
  refine J_ret ?_
  refine JX_ret Tryz.results25 (Res.tmp rfl Res.nil) (fun w1 hw1 => ?_)
  exact ⟨(by rw [((hF.pos hq1)).eq] <;> first | rfl | (simp only [List.length_set] <;> rfl)), hw1.ext_out⟩

theorem rcRight_ok (w : World) {l_a : Option Addr} {l_c : Nat} {l : List Cred} (h_l : Sl w eCred 4 l_a l) (n_l : l.length ≤ 1000) : Val Tryz.prog 24 [(Value.slice (l_a) (l.length) (l_c))] w (Value.bool ((rcRight l))) := by
  have hF := Is.refl (rcRight l)
  refine enter Tryz.func24 Tryz.ntmps24 (h := ?_)
  refine J_seq ?_
  refine J_reg ?_
  refine JL_q (q_assign) (k := ?_)
  refine JL_nil ?_
  refine JX_seq ?_
  refine J_seq ?_
  refine J_seq ?_
  refine J_reg ?_
  refine JL_q (q_assign) (k := ?_)
  refine JL_nil ?_
  refine JX_seq ?_
  refine J_block ?_
  refine J_loop2 (σ1 := Nat) (σ2 := Nat) (fun n_2 i_1 => []) (fun n_2 i_1 => [(0, (Value.slice (l_a) (l.length) (l_c))), (2, (Value.bool (false))), (3, (Value.int .i64 (((i_1 : Nat) : Int))))]) (fun n_2 i_1 => l.length - i_1 < n_2 ∧ Is (rcRight_l0 l (l.length + 1) 0) (rcRight_l0 l n_2 i_1) ∧ i_1 ≤ l.length) (fun n_2 i_1 => n_2) (l.length + 1) 0 ?_ (by repeat (first | exact SubE.nil | refine SubE.cons rfl ?_)) (List.Perm.refl _) ?_
  · exact ⟨Nat.lt_succ_self _, Is.refl _, (by first | omega | rfl | (simp; done))⟩
  · rintro (_ | n_2) i_1 ⟨hm4, hF3, hi5⟩
    · omega
    refine J_seq ?_
    refine J_seq ?_
    refine J_reg ?_
    refine JL_q (q_move) (k := ?_)
    refine JL_q (q_move) (k := ?_)
    refine JL_q (q_lenS Tryz.runUnderlying22) (k := ?_)
    refine JL_q (q_lss) (k := ?_)
    refine JL_nil ?_
    refine JX_seq ?_
    refine J_dec rfl (fun hq1 => ?_) (fun hq1 => ?_)
    rotate_left
    · refine J_exit ?_
      refine JX_seq_exit ?_
      refine JX_inv_exit ?_
      refine JX_block_hit ?_
      refine JX_seq ?_
      refine J_seq ?_
      refine J_reg ?_
      refine JL_q (q_move) (k := ?_)
      refine JL_q (q_lenS Tryz.runUnderlying22) (k := ?_)
      refine JL_q (q_leq) (k := ?_)
      refine JL_q (q_assign) (k := ?_)
      refine JL_nil ?_
      refine JX_seq ?_
      refine J_ret ?_
      refine JX_ret Tryz.results24 (Res.tmp rfl Res.nil) (fun w1 hw1 => ?_)
      exact ⟨(by rw [((hF.ok1 (hF3.neg hq1))).eq] <;> first | rfl | (simp only [List.length_set] <;> rfl)), hw1.ext_out⟩
    refine J_skip ?_
    refine JX_seq ?_
    refine J_seq ?_
    refine J_block ?_
    refine J_seq ?_
    refine J_reg ?_
    refine JL_q (q_move) (k := ?_)
    refine JL_q (q_move) (k := ?_)
    refine JL_q (q_idx (n := l.length) Tryz.runUnderlying22 Tryz.sizeOf37 i_1 (SlJ.of_base h_l) (gD (by first | omega | (simp only [List.length_set]; omega) | (simp only [List.length_append, List.length_take, List.length_drop, List.length_set, List.length_replicate, List.length_cons, List.length_nil, List.length_map, toS_length, toI_length]; omega))) (by first | rfl | simp)) (k := ?_)
    refine JL_q (q_loadEA Tryz.isAgg37 Tryz.sizeOf37 i_1 (SlJ.of_base h_l) (gD (by first | omega | (simp only [List.length_set]; omega) | (simp only [List.length_append, List.length_take, List.length_drop, List.length_set, List.length_replicate, List.length_cons, List.length_nil, List.length_map, toS_length, toI_length]; omega)))) (k := ?_)
    refine JL_a noMk (a_alloc (l := [_, _, _, _]) Tryz.zeroValue37) (k := fun r1 hr1 => ?_)
    refine JL_s (w_store (l' := [_, _, _, _]) Tryz.sizeOf37) (k := ?_)
    refine JL_nil ?_
    refine JX_seq ?_
    refine J_seq ?_
    refine J_plan mixed 46 [(true, 0), (true, 1), (true, 2), (true, 3), (true, 4), (true, 5), (true, 6), (true, 7), (true, 8), (true, 9), (true, 10), (true, 11), (true, 12), (true, 13), (true, 14), (true, 15), (true, 16), (true, 17), (true, 18), (true, 19), (true, 20), (true, 21), (true, 22), (true, 23), (true, 24), (true, 25), (false, 26), (true, 27), (true, 28), (true, 29), (true, 30), (true, 31), (true, 32), (true, 33), (true, 34), (true, 35), (true, 36), (true, 37), (true, 38), (true, 39), (true, 40), (true, 41), (true, 42), (true, 43), (true, 44), (true, 45)] (by kernel_rfl) ?_
    refine JD_q (q_fld FO_37_0) (k := ?_)
    refine JD_q (q_load Tryz.isAgg3) (k := ?_)
    refine JD_q (q_lss) (k := ?_)
    refine JD_q (q_move) (k := ?_)
    refine JD_dec 18 rfl (fun hq2 => ?_) (fun hq2 => ?_)
    · refine JD_skips 3 rfl ?_
      refine JD_q (q_pickT) (k := ?_)
      refine JD_q (q_move) (k := ?_)
      refine JD_skips 13 rfl ?_
      refine JD_q (q_pickT) (k := ?_)
      refine JD_q (q_move) (k := ?_)
      refine JD_skips 4 rfl ?_
      refine JD_q (q_pickT) (k := ?_)
      refine JD_q (q_move) (k := ?_)
      refine JD_skips 3 rfl ?_
      refine JD_q (q_pickT) (k := ?_)
      refine JD_q (q_move) (k := ?_)
      refine JD_skips 5 rfl ?_
      refine JD_q (q_pickT) (k := ?_)
      refine JD_q (q_move) (k := ?_)
      refine JD_skips 3 rfl ?_
      refine JD_q (q_pickT) (k := ?_)
      refine JD_nil0 ?_
      refine JL_nil ?_
      refine JX_seq ?_
      refine J_true rfl ?_
      refine J_seq ?_
      refine J_reg ?_
      refine JL_q (q_assign) (k := ?_)
      refine JL_nil ?_
      refine JX_seq ?_
      refine J_ret ?_
      refine JX_block_ret ?_
      refine JX_seq_ret ?_
      refine JX_inv_ret ?_
      refine JX_block_ret ?_
      refine JX_seq_ret ?_
      refine JX_ret Tryz.results24 (Res.tmp rfl Res.nil) (fun w1 hw1 => ?_)
      exact ⟨(by rw [((hF.er1 ((hF3.pos hq1).pos hq2))).eq] <;> first | rfl | (simp only [List.length_set] <;> rfl)), hw1.ext_out⟩
    refine JD_qg (q_fld FO_37_0) (k := ?_)
    refine JD_qg (q_load Tryz.isAgg3) (k := ?_)
    refine JD_qg (q_gtr) (k := ?_)
    refine JD_q (q_pickF) (k := ?_)
    refine JD_q (q_move) (k := ?_)
    refine JD_dec 23 rfl (fun hq3 => ?_) (fun hq3 => ?_)
    · refine JD_skips 13 rfl ?_
      refine JD_q (q_pickT) (k := ?_)
      refine JD_q (q_move) (k := ?_)
      refine JD_skips 4 rfl ?_
      refine JD_q (q_pickT) (k := ?_)
      refine JD_q (q_move) (k := ?_)
      refine JD_skips 3 rfl ?_
      refine JD_q (q_pickT) (k := ?_)
      refine JD_q (q_move) (k := ?_)
      refine JD_skips 5 rfl ?_
      refine JD_q (q_pickT) (k := ?_)
      refine JD_q (q_move) (k := ?_)
      refine JD_skips 3 rfl ?_
      refine JD_q (q_pickT) (k := ?_)
      refine JD_nil0 ?_
      refine JL_nil ?_
      refine JX_seq ?_
      refine J_true rfl ?_
      refine J_seq ?_
      refine J_reg ?_
      refine JL_q (q_assign) (k := ?_)
      refine JL_nil ?_
      refine JX_seq ?_
      refine J_ret ?_
      refine JX_block_ret ?_
      refine JX_seq_ret ?_
      refine JX_inv_ret ?_
      refine JX_block_ret ?_
      refine JX_seq_ret ?_
      refine JX_ret Tryz.results24 (Res.tmp rfl Res.nil) (fun w1 hw1 => ?_)
      exact ⟨(by rw [((hF.er1 (((hF3.pos hq1).neg hq2).pos hq3))).eq] <;> first | rfl | (simp only [List.length_set] <;> rfl)), hw1.ext_out⟩
    refine JD_qg (q_move) (k := ?_)
    refine JD_qg (q_gtr) (k := ?_)
    refine JD_qg (q_move) (k := ?_)
    refine JD_dec 26 rfl (fun hq4 => ?_) (fun hq4 => ?_)
    rotate_left
    · refine JD_skips 9 rfl ?_
      refine JD_qg (q_pickF) (k := ?_)
      refine JD_q (q_pickF) (k := ?_)
      refine JD_q (q_move) (k := ?_)
      refine JD_qg (q_fld FO_37_1) (k := ?_)
      refine JD_qg (q_load Tryz.isAgg9) (k := ?_)
      refine JD_vg (args := [(Value.string (bs ((l.getD i_1 default).key)))]) (c_callA Tryz.call25) (fun w1 hw1 => rmRight_ok w1 (key := ((l.getD i_1 default).key))) (k := ?_)
      refine JD_qg (q_not) (k := ?_)
      refine JD_q (q_pickF) (k := ?_)
      refine JD_q (q_move) (k := ?_)
      refine JD_bool 44 rfl (fun hq10 => ?_) (fun hq10 => ?_)
      · refine JD_skips 3 rfl ?_
        refine JD_q (q_pickT) (k := ?_)
        refine JD_q (q_move) (k := ?_)
        refine JD_skips 5 rfl ?_
        refine JD_q (q_pickT) (k := ?_)
        refine JD_q (q_move) (k := ?_)
        refine JD_skips 3 rfl ?_
        refine JD_q (q_pickT) (k := ?_)
        refine JD_nil0 ?_
        refine JL_nil ?_
        refine JX_seq ?_
        refine J_true rfl ?_
        refine J_seq ?_
        refine J_reg ?_
        refine JL_q (q_assign) (k := ?_)
        refine JL_nil ?_
        refine JX_seq ?_
        refine J_ret ?_
        refine JX_block_ret ?_
        refine JX_seq_ret ?_
        refine JX_inv_ret ?_
        refine JX_block_ret ?_
        refine JX_seq_ret ?_
        refine JX_ret Tryz.results24 (Res.tmp rfl Res.nil) (fun w1 hw1 => ?_)
        exact ⟨(by rw [((hF.er1 (((((hF3.pos hq1).neg hq2).neg hq3).neg hq4).t hq10))).eq] <;> first | rfl | (simp only [List.length_set] <;> rfl)), hw1.ext_out⟩
      refine JD_qg (q_fld FO_37_2) (k := ?_)
      refine JD_qg (q_load Tryz.isAgg3) (k := ?_)
      refine JD_qg (q_lss) (k := ?_)
      refine JD_q (q_pickF) (k := ?_)
      refine JD_q (q_move) (k := ?_)
      refine JD_dec 49 rfl (fun hq11 => ?_) (fun hq11 => ?_)
      · refine JD_skips 5 rfl ?_
        refine JD_q (q_pickT) (k := ?_)
        refine JD_q (q_move) (k := ?_)
        refine JD_skips 3 rfl ?_
        refine JD_q (q_pickT) (k := ?_)
        refine JD_nil0 ?_
        refine JL_nil ?_
        refine JX_seq ?_
        refine J_true rfl ?_
        refine J_seq ?_
        refine J_reg ?_
        refine JL_q (q_assign) (k := ?_)
        refine JL_nil ?_
        refine JX_seq ?_
        refine J_ret ?_
        refine JX_block_ret ?_
        refine JX_seq_ret ?_
        refine JX_inv_ret ?_
        refine JX_block_ret ?_
        refine JX_seq_ret ?_
        refine JX_ret Tryz.results24 (Res.tmp rfl Res.nil) (fun w1 hw1 => ?_)
        exact ⟨(by rw [((hF.er1 ((((((hF3.pos hq1).neg hq2).neg hq3).neg hq4).f hq10).pos hq11))).eq] <;> first | rfl | (simp only [List.length_set] <;> rfl)), hw1.ext_out⟩
      refine JD_qg (q_fld FO_37_2) (k := ?_)
      refine JD_qg (q_load Tryz.isAgg3) (k := ?_)
      refine JD_qg (q_fld FO_37_3) (k := ?_)
      refine JD_qg (q_load Tryz.isAgg3) (k := ?_)
      refine JD_qg (q_geq) (k := ?_)
      refine JD_q (q_pickF) (k := ?_)
      refine JD_q (q_move) (k := ?_)
      refine JD_dec 56 rfl (fun hq12 => ?_) (fun hq12 => ?_)
      · refine JD_skips 3 rfl ?_
        refine JD_q (q_pickT) (k := ?_)
        refine JD_nil0 ?_
        refine JL_nil ?_
        refine JX_seq ?_
        refine J_true rfl ?_
        refine J_seq ?_
        refine J_reg ?_
        refine JL_q (q_assign) (k := ?_)
        refine JL_nil ?_
        refine JX_seq ?_
        refine J_ret ?_
        refine JX_block_ret ?_
        refine JX_seq_ret ?_
        refine JX_inv_ret ?_
        refine JX_block_ret ?_
        refine JX_seq_ret ?_
        refine JX_ret Tryz.results24 (Res.tmp rfl Res.nil) (fun w1 hw1 => ?_)
        exact ⟨(by rw [((hF.er1 (((((((hF3.pos hq1).neg hq2).neg hq3).neg hq4).f hq10).neg hq11).pos hq12))).eq] <;> first | rfl | (simp only [List.length_set] <;> rfl)), hw1.ext_out⟩
      refine JD_qg (q_fld FO_37_3) (k := ?_)
      refine JD_qg (q_load Tryz.isAgg3) (k := ?_)
      refine JD_qg (q_gtr) (k := ?_)
      refine JD_q (q_pickF) (k := ?_)
      refine JD_nil0 ?_
      refine JL_nil ?_
      refine JX_seq ?_
      refine J_dec rfl (fun hq13 => ?_) (fun hq13 => ?_)
      rotate_left
      · refine J_skip ?_
        refine JX_block ?_
        refine JX_seq ?_
        refine J_reg ?_
        refine JL_q (q_move) (k := ?_)
        refine JL_q (q_add) (k := ?_)
        refine JL_q (q_assign) (k := ?_)
        refine JL_nil ?_
        refine JX_subL [] (List.nil_sublist _) ?_
        exact JX_inv2 n_2 (i_1 + 1) ⟨by omega, ((((((((hF3.pos hq1).neg hq2).neg hq3).neg hq4).f hq10).neg hq11).neg hq12).neg hq13), (by omega)⟩ (Nat.lt_succ_self _) (by repeat (first | exact SubE.nil | refine SubE.cons rfl ?_)) (List.Perm.refl _)
      refine J_seq ?_
      refine J_reg ?_
      refine JL_q (q_assign) (k := ?_)
      refine JL_nil ?_
      refine JX_seq ?_
      refine J_ret ?_
      refine JX_block_ret ?_
      refine JX_seq_ret ?_
      refine JX_inv_ret ?_
      refine JX_block_ret ?_
      refine JX_seq_ret ?_
      refine JX_ret Tryz.results24 (Res.tmp rfl Res.nil) (fun w1 hw1 => ?_)
      exact ⟨(by rw [((hF.er1 ((((((((hF3.pos hq1).neg hq2).neg hq3).neg hq4).f hq10).neg hq11).neg hq12).pos hq13))).eq] <;> first | rfl | (simp only [List.length_set] <;> rfl)), hw1.ext_out⟩
    refine JD_qg (q_fld FO_37_0) (k := ?_)
    refine JD_qg (q_load Tryz.isAgg3) (k := ?_)
    refine JD_qg (q_move) (k := ?_)
    refine JD_qg (q_move) (k := ?_)
    refine JD_qg (q_sub) (k := ?_)
    refine JD_qg (q_idx (n := l.length) Tryz.runUnderlying22 Tryz.sizeOf37 (((((i_1 : Nat) : Int) - 1)).toNat) (SlJ.of_base h_l) (gD (by first | omega | (simp only [List.length_set]; omega) | (simp only [List.length_append, List.length_take, List.length_drop, List.length_set, List.length_replicate, List.length_cons, List.length_nil, List.length_map, toS_length, toI_length]; omega))) (by first | rfl | simp)) (k := ?_)
    refine JD_qg (q_fldE FO_37_0) (k := ?_)
    refine JD_qg (q_loadE Tryz.isAgg3 (((((i_1 : Nat) : Int) - 1)).toNat) 0 (SlJ.of_base h_l) (gD (by first | omega | (simp only [List.length_set]; omega) | (simp only [List.length_append, List.length_take, List.length_drop, List.length_set, List.length_replicate, List.length_cons, List.length_nil, List.length_map, toS_length, toI_length]; omega)))) (k := ?_)
    refine JD_qg (q_leq) (k := ?_)
    refine JD_qg (q_pickT) (k := ?_)
    refine JD_q (q_pickF) (k := ?_)
    refine JD_q (q_move) (k := ?_)
    refine JD_dec 38 rfl (fun hq5 => ?_) (fun hq5 => ?_)
    · refine JD_skips 4 rfl ?_
      refine JD_q (q_pickT) (k := ?_)
      refine JD_q (q_move) (k := ?_)
      refine JD_skips 3 rfl ?_
      refine JD_q (q_pickT) (k := ?_)
      refine JD_q (q_move) (k := ?_)
      refine JD_skips 5 rfl ?_
      refine JD_q (q_pickT) (k := ?_)
      refine JD_q (q_move) (k := ?_)
      refine JD_skips 3 rfl ?_
      refine JD_q (q_pickT) (k := ?_)
      refine JD_nil0 ?_
      refine JL_nil ?_
      refine JX_seq ?_
      refine J_true rfl ?_
      refine J_seq ?_
      refine J_reg ?_
      refine JL_q (q_assign) (k := ?_)
      refine JL_nil ?_
      refine JX_seq ?_
      refine J_ret ?_
      refine JX_block_ret ?_
      refine JX_seq_ret ?_
      refine JX_inv_ret ?_
      refine JX_block_ret ?_
      refine JX_seq_ret ?_
      refine JX_ret Tryz.results24 (Res.tmp rfl Res.nil) (fun w1 hw1 => ?_)
      exact ⟨(by rw [((hF.er1 (((((hF3.pos hq1).neg hq2).neg hq3).pos hq4).pos hq5))).eq] <;> first | rfl | (simp only [List.length_set] <;> rfl)), hw1.ext_out⟩
    refine JD_qg (q_fld FO_37_1) (k := ?_)
    refine JD_qg (q_load Tryz.isAgg9) (k := ?_)
    refine JD_vg (args := [(Value.string (bs ((l.getD i_1 default).key)))]) (c_callA Tryz.call25) (fun w1 hw1 => rmRight_ok w1 (key := ((l.getD i_1 default).key))) (k := ?_)
    refine JD_qg (q_not) (k := ?_)
    refine JD_q (q_pickF) (k := ?_)
    refine JD_q (q_move) (k := ?_)
    refine JD_bool 44 rfl (fun hq6 => ?_) (fun hq6 => ?_)
    · refine JD_skips 3 rfl ?_
      refine JD_q (q_pickT) (k := ?_)
      refine JD_q (q_move) (k := ?_)
      refine JD_skips 5 rfl ?_
      refine JD_q (q_pickT) (k := ?_)
      refine JD_q (q_move) (k := ?_)
      refine JD_skips 3 rfl ?_
      refine JD_q (q_pickT) (k := ?_)
      refine JD_nil0 ?_
      refine JL_nil ?_
      refine JX_seq ?_
      refine J_true rfl ?_
      refine J_seq ?_
      refine J_reg ?_
      refine JL_q (q_assign) (k := ?_)
      refine JL_nil ?_
      refine JX_seq ?_
      refine J_ret ?_
      refine JX_block_ret ?_
      refine JX_seq_ret ?_
      refine JX_inv_ret ?_
      refine JX_block_ret ?_
      refine JX_seq_ret ?_
      refine JX_ret Tryz.results24 (Res.tmp rfl Res.nil) (fun w1 hw1 => ?_)
      exact ⟨(by rw [((hF.er1 ((((((hF3.pos hq1).neg hq2).neg hq3).pos hq4).neg hq5).t hq6))).eq] <;> first | rfl | (simp only [List.length_set] <;> rfl)), hw1.ext_out⟩
    refine JD_qg (q_fld FO_37_2) (k := ?_)
    refine JD_qg (q_load Tryz.isAgg3) (k := ?_)
    refine JD_qg (q_lss) (k := ?_)
    refine JD_q (q_pickF) (k := ?_)
    refine JD_q (q_move) (k := ?_)
    refine JD_dec 49 rfl (fun hq7 => ?_) (fun hq7 => ?_)
    · refine JD_skips 5 rfl ?_
      refine JD_q (q_pickT) (k := ?_)
      refine JD_q (q_move) (k := ?_)
      refine JD_skips 3 rfl ?_
      refine JD_q (q_pickT) (k := ?_)
      refine JD_nil0 ?_
      refine JL_nil ?_
      refine JX_seq ?_
      refine J_true rfl ?_
      refine J_seq ?_
      refine J_reg ?_
      refine JL_q (q_assign) (k := ?_)
      refine JL_nil ?_
      refine JX_seq ?_
      refine J_ret ?_
      refine JX_block_ret ?_
      refine JX_seq_ret ?_
      refine JX_inv_ret ?_
      refine JX_block_ret ?_
      refine JX_seq_ret ?_
      refine JX_ret Tryz.results24 (Res.tmp rfl Res.nil) (fun w1 hw1 => ?_)
      exact ⟨(by rw [((hF.er1 (((((((hF3.pos hq1).neg hq2).neg hq3).pos hq4).neg hq5).f hq6).pos hq7))).eq] <;> first | rfl | (simp only [List.length_set] <;> rfl)), hw1.ext_out⟩
    refine JD_qg (q_fld FO_37_2) (k := ?_)
    refine JD_qg (q_load Tryz.isAgg3) (k := ?_)
    refine JD_qg (q_fld FO_37_3) (k := ?_)
    refine JD_qg (q_load Tryz.isAgg3) (k := ?_)
    refine JD_qg (q_geq) (k := ?_)
    refine JD_q (q_pickF) (k := ?_)
    refine JD_q (q_move) (k := ?_)
    refine JD_dec 56 rfl (fun hq8 => ?_) (fun hq8 => ?_)
    · refine JD_skips 3 rfl ?_
      refine JD_q (q_pickT) (k := ?_)
      refine JD_nil0 ?_
      refine JL_nil ?_
      refine JX_seq ?_
      refine J_true rfl ?_
      refine J_seq ?_
      refine J_reg ?_
      refine JL_q (q_assign) (k := ?_)
      refine JL_nil ?_
      refine JX_seq ?_
      refine J_ret ?_
      refine JX_block_ret ?_
      refine JX_seq_ret ?_
      refine JX_inv_ret ?_
      refine JX_block_ret ?_
      refine JX_seq_ret ?_
      refine JX_ret Tryz.results24 (Res.tmp rfl Res.nil) (fun w1 hw1 => ?_)
      exact ⟨(by rw [((hF.er1 ((((((((hF3.pos hq1).neg hq2).neg hq3).pos hq4).neg hq5).f hq6).neg hq7).pos hq8))).eq] <;> first | rfl | (simp only [List.length_set] <;> rfl)), hw1.ext_out⟩
    refine JD_qg (q_fld FO_37_3) (k := ?_)
    refine JD_qg (q_load Tryz.isAgg3) (k := ?_)
    refine JD_qg (q_gtr) (k := ?_)
    refine JD_q (q_pickF) (k := ?_)
    refine JD_nil0 ?_
    refine JL_nil ?_
    refine JX_seq ?_
    refine J_dec rfl (fun hq9 => ?_) (fun hq9 => ?_)
    rotate_left
    · refine J_skip ?_
      refine JX_block ?_
      refine JX_seq ?_
      refine J_reg ?_
      refine JL_q (q_move) (k := ?_)
      refine JL_q (q_add) (k := ?_)
      refine JL_q (q_assign) (k := ?_)
      refine JL_nil ?_
      refine JX_subL [] (List.nil_sublist _) ?_
      exact JX_inv2 n_2 (i_1 + 1) ⟨by omega, (((((((((hF3.pos hq1).neg hq2).neg hq3).pos hq4).neg hq5).f hq6).neg hq7).neg hq8).neg hq9), (by omega)⟩ (Nat.lt_succ_self _) (by repeat (first | exact SubE.nil | refine SubE.cons rfl ?_)) (List.Perm.refl _)
    refine J_seq ?_
    refine J_reg ?_
    refine JL_q (q_assign) (k := ?_)
    refine JL_nil ?_
    refine JX_seq ?_
    refine J_ret ?_
    refine JX_block_ret ?_
    refine JX_seq_ret ?_
    refine JX_inv_ret ?_
    refine JX_block_ret ?_
    refine JX_seq_ret ?_
    refine JX_ret Tryz.results24 (Res.tmp rfl Res.nil) (fun w1 hw1 => ?_)
    exact ⟨(by rw [((hF.er1 (((((((((hF3.pos hq1).neg hq2).neg hq3).pos hq4).neg hq5).f hq6).neg hq7).neg hq8).pos hq9))).eq] <;> first | rfl | (simp only [List.length_set] <;> rfl)), hw1.ext_out⟩

theorem rcHolds_ok (w : World) {c : Cred} {now : Int} : Val Tryz.prog 30 [(Value.agg [(Value.int .i64 (c.id)), (Value.string (bs c.key)), (Value.int .i64 (c.frm)), (Value.int .i64 (c.to))].toArray), (Value.int .i64 (now))] w (Value.bool ((rcHolds c now))) := by
  have hF := Is.refl (rcHolds c now)
  refine enter Tryz.func30 Tryz.ntmps30 (h := ?_)
  refine J_seq ?_
  refine J_reg ?_
  refine JL_a noMk (a_box (l := [_, _, _, _])) (k := fun r1 hr1 => ?_)
  refine JL_q (q_assign) (k := ?_)
  refine JL_nil ?_
  refine JX_seq ?_
  refine J_seq ?_
  refine J_reg ?_
  refine JL_q (q_fld FO_37_2) (k := ?_)
  refine JL_q (q_load Tryz.isAgg3) (k := ?_)
  refine JL_q (q_move) (k := ?_)
  refine JL_q (q_leq) (k := ?_)
  refine JL_q (q_move) (k := ?_)
  refine JL_dec 9 rfl (fun hq1 => ?_) (fun hq1 => ?_)
  rotate_left
  · refine JL_skips 4 rfl ?_
    refine JL_q (q_pickF) (k := ?_)
    refine JL_q (q_assign) (k := ?_)
    refine JL_nil ?_
    refine JX_seq ?_
    refine J_ret ?_
    refine JX_ret Tryz.results30 (Res.tmp rfl Res.nil) (fun w1 hw1 => ?_)
    exact ⟨(by rw [((hF.neg hq1)).eq] <;> first | rfl | (simp only [List.length_set] <;> rfl)), hw1.ext_out⟩
  refine JL_qg (q_move) (k := ?_)
  refine JL_qg (q_fld FO_37_3) (k := ?_)
  refine JL_qg (q_load Tryz.isAgg3) (k := ?_)
  refine JL_qg (q_lss) (k := ?_)
  refine JL_q (q_pickT) (k := ?_)
  refine JL_q (q_assign) (k := ?_)
  refine JL_nil ?_
  refine JX_seq ?_
  refine J_ret ?_
  refine JX_ret Tryz.results30 (Res.tmp rfl Res.nil) (fun w1 hw1 => ?_)
  exact ⟨(by rw [((hF.pos hq1)).eq] <;> first | rfl | (simp only [List.length_set] <;> rfl)), hw1.ext_out⟩

theorem rcRot_ok (w : World) {l_a : Option Addr} {l_c : Nat} {l : List Cred} {key : Str} {now : Int} {overlap : Int} {span : Int} (h_l : Sl w eCred 4 l_a l) (n_l : l.length ≤ 1000) : Calls Tryz.prog 12 (List.toArray [(Value.slice (l_a) (l.length) (l_c)), (Value.string (bs key)), (Value.int .i64 (now)), (Value.int .i64 (overlap)), (Value.int .i64 (span))]) w fun e w2 => ∃ a1 : Option Addr, ∃ c1 : Nat, ∃ B1 : Heap, e = .returned (Value.tuple [(Value.slice (a1) ((rcRot l key now overlap span).1.length) (c1)), (Value.int .i64 (((rcRot l key now overlap span).2.1))), (Value.int .i64 (((rcRot l key now overlap span).2.2)))].toArray) ∧ Fresh w w2 B1 ∧ OwnB eCred 4 37 a1 c1 B1 (rcRot l key now overlap span).1 ∧ (rcRot l key now overlap span).1.length ≤ 4 := by
  have hF := Is.refl (rcRot l key now overlap span)
  refine enter Tryz.func12 Tryz.ntmps12 (h := ?_)
  refine J_seq ?_
  refine J_reg ?_
  refine JL_q (q_assign) (k := ?_)
  refine JL_q (q_assign) (k := ?_)
  refine JL_q (q_assign) (k := ?_)
  refine JL_nil ?_
  refine JX_seq ?_
  refine J_seq ?_
  refine J_block ?_
  refine J_seq ?_
  refine J_reg ?_
  refine JL_q (q_move) (k := ?_)
  refine JL_v (args := [(Value.slice (l_a) (l.length) (l_c))]) (c_callA Tryz.call24) (fun w1 hw1 => rcRight_ok w1 (l := l) (h_l := (SlJ.of_base h_l) w1 hw1) (n_l := by first | omega | (simp only [List.length_append, List.length_take, List.length_drop, List.length_set, List.length_replicate, List.length_cons, List.length_nil, List.length_map, toS_length, toI_length]; omega) | (simp only [List.length_append, List.length_take, List.length_drop, List.length_set, List.length_replicate, List.length_cons, List.length_nil, List.length_map, toS_length, toI_length] at *; omega) | decide)) (k := ?_)
  refine JL_q (q_not) (k := ?_)
  refine JL_q (q_assign) (k := ?_)
  refine JL_nil ?_
  refine JX_seq ?_
  refine J_cond rfl (fun hq1 => ?_) (fun hq1 => ?_)
  · refine J_seq ?_
    refine J_reg ?_
    refine JL_q (q_assign) (k := ?_)
    refine JL_q (q_assign) (k := ?_)
    refine JL_q (q_assign) (k := ?_)
    refine JL_nil ?_
    refine JX_seq ?_
    refine J_ret ?_
    refine JX_block_ret ?_
    refine JX_seq_ret ?_
    refine JX_ret Tryz.results12 (Res.tmp rfl (Res.tmp rfl (Res.tmp rfl Res.nil))) (fun w1 hw1 => ?_)
    exact ⟨none, 0, [], (by rw [((hF.t hq1)).eq] <;> first | rfl | (simp only [List.length_set] <;> rfl)), (hw1.fresh_out.sub (List.nil_sublist _)), (by rw [((hF.t hq1)).eq]; exact OwnB.nil), (by rw [((hF.t hq1)).eq]; first | omega | (simp only [List.length_append, List.length_take, List.length_drop, List.length_set, List.length_replicate, List.length_cons, List.length_nil, List.length_map, toS_length, toI_length]; omega) | (simp only [List.length_append, List.length_take, List.length_drop, List.length_set, List.length_replicate, List.length_cons, List.length_nil, List.length_map, toS_length, toI_length] at *; omega))⟩
  have hfhq1 := rcRight_t (by simpa using hq1)
  refine J_seq ?_
  refine J_reg ?_
  refine JL_q (q_move) (k := ?_)
  refine JL_v (args := [(Value.string (bs key))]) (c_callA Tryz.call25) (fun w1 hw1 => rmRight_ok w1 (key := key)) (k := ?_)
  refine JL_q (q_not) (k := ?_)
  refine JL_q (q_assign) (k := ?_)
  refine JL_nil ?_
  refine JX_seq ?_
  refine J_cond rfl (fun hq2 => ?_) (fun hq2 => ?_)
  · refine J_seq ?_
    refine J_reg ?_
    refine JL_q (q_assign) (k := ?_)
    refine JL_q (q_assign) (k := ?_)
    refine JL_q (q_assign) (k := ?_)
    refine JL_nil ?_
    refine JX_seq ?_
    refine J_ret ?_
    refine JX_block_ret ?_
    refine JX_seq_ret ?_
    refine JX_ret Tryz.results12 (Res.tmp rfl (Res.tmp rfl (Res.tmp rfl Res.nil))) (fun w1 hw1 => ?_)
    exact ⟨none, 0, [], (by rw [(((hF.f hq1).t hq2)).eq] <;> first | rfl | (simp only [List.length_set] <;> rfl)), (hw1.fresh_out.sub (List.nil_sublist _)), (by rw [(((hF.f hq1).t hq2)).eq]; exact OwnB.nil), (by rw [(((hF.f hq1).t hq2)).eq]; first | omega | (simp only [List.length_append, List.length_take, List.length_drop, List.length_set, List.length_replicate, List.length_cons, List.length_nil, List.length_map, toS_length, toI_length]; omega) | (simp only [List.length_append, List.length_take, List.length_drop, List.length_set, List.length_replicate, List.length_cons, List.length_nil, List.length_map, toS_length, toI_length] at *; omega))⟩
  refine J_seq ?_
  refine J_reg ?_
  refine JL_q (q_move) (k := ?_)
  refine JL_q (q_lss) (k := ?_)
  refine JL_q (q_move) (k := ?_)
  refine JL_dec 28 rfl (fun hq3 => ?_) (fun hq3 => ?_)
  · refine JL_skips 2 rfl ?_
    refine JL_q (q_pickT) (k := ?_)
    refine JL_q (q_move) (k := ?_)
    refine JL_skips 2 rfl ?_
    refine JL_q (q_pickT) (k := ?_)
    refine JL_q (q_move) (k := ?_)
    refine JL_skips 2 rfl ?_
    refine JL_q (q_pickT) (k := ?_)
    refine JL_q (q_move) (k := ?_)
    refine JL_skips 2 rfl ?_
    refine JL_q (q_pickT) (k := ?_)
    refine JL_q (q_move) (k := ?_)
    refine JL_skips 2 rfl ?_
    refine JL_q (q_pickT) (k := ?_)
    refine JL_q (q_move) (k := ?_)
    refine JL_skips 4 rfl ?_
    refine JL_q (q_pickT) (k := ?_)
    refine JL_q (q_assign) (k := ?_)
    refine JL_nil ?_
    refine JX_seq ?_
    refine J_true rfl ?_
    refine J_seq ?_
    refine J_reg ?_
    refine JL_q (q_assign) (k := ?_)
    refine JL_q (q_assign) (k := ?_)
    refine JL_q (q_assign) (k := ?_)
    refine JL_nil ?_
    refine JX_seq ?_
    refine J_ret ?_
    refine JX_block_ret ?_
    refine JX_seq_ret ?_
    refine JX_ret Tryz.results12 (Res.tmp rfl (Res.tmp rfl (Res.tmp rfl Res.nil))) (fun w1 hw1 => ?_)
    exact ⟨none, 0, [], (by rw [((((hF.f hq1).f hq2).pos hq3)).eq] <;> first | rfl | (simp only [List.length_set] <;> rfl)), (hw1.fresh_out.sub (List.nil_sublist _)), (by rw [((((hF.f hq1).f hq2).pos hq3)).eq]; exact OwnB.nil), (by rw [((((hF.f hq1).f hq2).pos hq3)).eq]; first | omega | (simp only [List.length_append, List.length_take, List.length_drop, List.length_set, List.length_replicate, List.length_cons, List.length_nil, List.length_map, toS_length, toI_length]; omega) | (simp only [List.length_append, List.length_take, List.length_drop, List.length_set, List.length_replicate, List.length_cons, List.length_nil, List.length_map, toS_length, toI_length] at *; omega))⟩
  refine JL_qg (q_move) (k := ?_)
  refine JL_qg (q_gtr) (k := ?_)
  refine JL_q (q_pickF) (k := ?_)
  refine JL_q (q_move) (k := ?_)
  refine JL_dec 32 rfl (fun hq4 => ?_) (fun hq4 => ?_)
  · refine JL_skips 2 rfl ?_
    refine JL_q (q_pickT) (k := ?_)
    refine JL_q (q_move) (k := ?_)
    refine JL_skips 2 rfl ?_
    refine JL_q (q_pickT) (k := ?_)
    refine JL_q (q_move) (k := ?_)
    refine JL_skips 2 rfl ?_
    refine JL_q (q_pickT) (k := ?_)
    refine JL_q (q_move) (k := ?_)
    refine JL_skips 2 rfl ?_
    refine JL_q (q_pickT) (k := ?_)
    refine JL_q (q_move) (k := ?_)
    refine JL_skips 4 rfl ?_
    refine JL_q (q_pickT) (k := ?_)
    refine JL_q (q_assign) (k := ?_)
    refine JL_nil ?_
    refine JX_seq ?_
    refine J_true rfl ?_
    refine J_seq ?_
    refine J_reg ?_
    refine JL_q (q_assign) (k := ?_)
    refine JL_q (q_assign) (k := ?_)
    refine JL_q (q_assign) (k := ?_)
    refine JL_nil ?_
    refine JX_seq ?_
    refine J_ret ?_
    refine JX_block_ret ?_
    refine JX_seq_ret ?_
    refine JX_ret Tryz.results12 (Res.tmp rfl (Res.tmp rfl (Res.tmp rfl Res.nil))) (fun w1 hw1 => ?_)
    exact ⟨none, 0, [], (by rw [(((((hF.f hq1).f hq2).neg hq3).pos hq4)).eq] <;> first | rfl | (simp only [List.length_set] <;> rfl)), (hw1.fresh_out.sub (List.nil_sublist _)), (by rw [(((((hF.f hq1).f hq2).neg hq3).pos hq4)).eq]; exact OwnB.nil), (by rw [(((((hF.f hq1).f hq2).neg hq3).pos hq4)).eq]; first | omega | (simp only [List.length_append, List.length_take, List.length_drop, List.length_set, List.length_replicate, List.length_cons, List.length_nil, List.length_map, toS_length, toI_length]; omega) | (simp only [List.length_append, List.length_take, List.length_drop, List.length_set, List.length_replicate, List.length_cons, List.length_nil, List.length_map, toS_length, toI_length] at *; omega))⟩
  refine JL_qg (q_move) (k := ?_)
  refine JL_qg (q_lss) (k := ?_)
  refine JL_q (q_pickF) (k := ?_)
  refine JL_q (q_move) (k := ?_)
  refine JL_dec 36 rfl (fun hq5 => ?_) (fun hq5 => ?_)
  · refine JL_skips 2 rfl ?_
    refine JL_q (q_pickT) (k := ?_)
    refine JL_q (q_move) (k := ?_)
    refine JL_skips 2 rfl ?_
    refine JL_q (q_pickT) (k := ?_)
    refine JL_q (q_move) (k := ?_)
    refine JL_skips 2 rfl ?_
    refine JL_q (q_pickT) (k := ?_)
    refine JL_q (q_move) (k := ?_)
    refine JL_skips 4 rfl ?_
    refine JL_q (q_pickT) (k := ?_)
    refine JL_q (q_assign) (k := ?_)
    refine JL_nil ?_
    refine JX_seq ?_
    refine J_true rfl ?_
    refine J_seq ?_
    refine J_reg ?_
    refine JL_q (q_assign) (k := ?_)
    refine JL_q (q_assign) (k := ?_)
    refine JL_q (q_assign) (k := ?_)
    refine JL_nil ?_
    refine JX_seq ?_
    refine J_ret ?_
    refine JX_block_ret ?_
    refine JX_seq_ret ?_
    refine JX_ret Tryz.results12 (Res.tmp rfl (Res.tmp rfl (Res.tmp rfl Res.nil))) (fun w1 hw1 => ?_)
    exact ⟨none, 0, [], (by rw [((((((hF.f hq1).f hq2).neg hq3).neg hq4).pos hq5)).eq] <;> first | rfl | (simp only [List.length_set] <;> rfl)), (hw1.fresh_out.sub (List.nil_sublist _)), (by rw [((((((hF.f hq1).f hq2).neg hq3).neg hq4).pos hq5)).eq]; exact OwnB.nil), (by rw [((((((hF.f hq1).f hq2).neg hq3).neg hq4).pos hq5)).eq]; first | omega | (simp only [List.length_append, List.length_take, List.length_drop, List.length_set, List.length_replicate, List.length_cons, List.length_nil, List.length_map, toS_length, toI_length]; omega) | (simp only [List.length_append, List.length_take, List.length_drop, List.length_set, List.length_replicate, List.length_cons, List.length_nil, List.length_map, toS_length, toI_length] at *; omega))⟩
  refine JL_qg (q_move) (k := ?_)
  refine JL_qg (q_gtr) (k := ?_)
  refine JL_q (q_pickF) (k := ?_)
  refine JL_q (q_move) (k := ?_)
  refine JL_dec 40 rfl (fun hq6 => ?_) (fun hq6 => ?_)
  · refine JL_skips 2 rfl ?_
    refine JL_q (q_pickT) (k := ?_)
    refine JL_q (q_move) (k := ?_)
    refine JL_skips 2 rfl ?_
    refine JL_q (q_pickT) (k := ?_)
    refine JL_q (q_move) (k := ?_)
    refine JL_skips 4 rfl ?_
    refine JL_q (q_pickT) (k := ?_)
    refine JL_q (q_assign) (k := ?_)
    refine JL_nil ?_
    refine JX_seq ?_
    refine J_true rfl ?_
    refine J_seq ?_
    refine J_reg ?_
    refine JL_q (q_assign) (k := ?_)
    refine JL_q (q_assign) (k := ?_)
    refine JL_q (q_assign) (k := ?_)
    refine JL_nil ?_
    refine JX_seq ?_
    refine J_ret ?_
    refine JX_block_ret ?_
    refine JX_seq_ret ?_
    refine JX_ret Tryz.results12 (Res.tmp rfl (Res.tmp rfl (Res.tmp rfl Res.nil))) (fun w1 hw1 => ?_)
    exact ⟨none, 0, [], (by rw [(((((((hF.f hq1).f hq2).neg hq3).neg hq4).neg hq5).pos hq6)).eq] <;> first | rfl | (simp only [List.length_set] <;> rfl)), (hw1.fresh_out.sub (List.nil_sublist _)), (by rw [(((((((hF.f hq1).f hq2).neg hq3).neg hq4).neg hq5).pos hq6)).eq]; exact OwnB.nil), (by rw [(((((((hF.f hq1).f hq2).neg hq3).neg hq4).neg hq5).pos hq6)).eq]; first | omega | (simp only [List.length_append, List.length_take, List.length_drop, List.length_set, List.length_replicate, List.length_cons, List.length_nil, List.length_map, toS_length, toI_length]; omega) | (simp only [List.length_append, List.length_take, List.length_drop, List.length_set, List.length_replicate, List.length_cons, List.length_nil, List.length_map, toS_length, toI_length] at *; omega))⟩
  refine JL_qg (q_move) (k := ?_)
  refine JL_qg (q_lss) (k := ?_)
  refine JL_q (q_pickF) (k := ?_)
  refine JL_q (q_move) (k := ?_)
  refine JL_dec 44 rfl (fun hq7 => ?_) (fun hq7 => ?_)
  · refine JL_skips 2 rfl ?_
    refine JL_q (q_pickT) (k := ?_)
    refine JL_q (q_move) (k := ?_)
    refine JL_skips 4 rfl ?_
    refine JL_q (q_pickT) (k := ?_)
    refine JL_q (q_assign) (k := ?_)
    refine JL_nil ?_
    refine JX_seq ?_
    refine J_true rfl ?_
    refine J_seq ?_
    refine J_reg ?_
    refine JL_q (q_assign) (k := ?_)
    refine JL_q (q_assign) (k := ?_)
    refine JL_q (q_assign) (k := ?_)
    refine JL_nil ?_
    refine JX_seq ?_
    refine J_ret ?_
    refine JX_block_ret ?_
    refine JX_seq_ret ?_
    refine JX_ret Tryz.results12 (Res.tmp rfl (Res.tmp rfl (Res.tmp rfl Res.nil))) (fun w1 hw1 => ?_)
    exact ⟨none, 0, [], (by rw [((((((((hF.f hq1).f hq2).neg hq3).neg hq4).neg hq5).neg hq6).pos hq7)).eq] <;> first | rfl | (simp only [List.length_set] <;> rfl)), (hw1.fresh_out.sub (List.nil_sublist _)), (by rw [((((((((hF.f hq1).f hq2).neg hq3).neg hq4).neg hq5).neg hq6).pos hq7)).eq]; exact OwnB.nil), (by rw [((((((((hF.f hq1).f hq2).neg hq3).neg hq4).neg hq5).neg hq6).pos hq7)).eq]; first | omega | (simp only [List.length_append, List.length_take, List.length_drop, List.length_set, List.length_replicate, List.length_cons, List.length_nil, List.length_map, toS_length, toI_length]; omega) | (simp only [List.length_append, List.length_take, List.length_drop, List.length_set, List.length_replicate, List.length_cons, List.length_nil, List.length_map, toS_length, toI_length] at *; omega))⟩
  refine JL_qg (q_move) (k := ?_)
  refine JL_qg (q_gtr) (k := ?_)
  refine JL_q (q_pickF) (k := ?_)
  refine JL_q (q_move) (k := ?_)
  refine JL_dec 48 rfl (fun hq8 => ?_) (fun hq8 => ?_)
  · refine JL_skips 4 rfl ?_
    refine JL_q (q_pickT) (k := ?_)
    refine JL_q (q_assign) (k := ?_)
    refine JL_nil ?_
    refine JX_seq ?_
    refine J_true rfl ?_
    refine J_seq ?_
    refine J_reg ?_
    refine JL_q (q_assign) (k := ?_)
    refine JL_q (q_assign) (k := ?_)
    refine JL_q (q_assign) (k := ?_)
    refine JL_nil ?_
    refine JX_seq ?_
    refine J_ret ?_
    refine JX_block_ret ?_
    refine JX_seq_ret ?_
    refine JX_ret Tryz.results12 (Res.tmp rfl (Res.tmp rfl (Res.tmp rfl Res.nil))) (fun w1 hw1 => ?_)
    exact ⟨none, 0, [], (by rw [(((((((((hF.f hq1).f hq2).neg hq3).neg hq4).neg hq5).neg hq6).neg hq7).pos hq8)).eq] <;> first | rfl | (simp only [List.length_set] <;> rfl)), (hw1.fresh_out.sub (List.nil_sublist _)), (by rw [(((((((((hF.f hq1).f hq2).neg hq3).neg hq4).neg hq5).neg hq6).neg hq7).pos hq8)).eq]; exact OwnB.nil), (by rw [(((((((((hF.f hq1).f hq2).neg hq3).neg hq4).neg hq5).neg hq6).neg hq7).pos hq8)).eq]; first | omega | (simp only [List.length_append, List.length_take, List.length_drop, List.length_set, List.length_replicate, List.length_cons, List.length_nil, List.length_map, toS_length, toI_length]; omega) | (simp only [List.length_append, List.length_take, List.length_drop, List.length_set, List.length_replicate, List.length_cons, List.length_nil, List.length_map, toS_length, toI_length] at *; omega))⟩
  refine JL_qg (q_move) (k := ?_)
  refine JL_qg (q_move) (k := ?_)
  refine JL_qg (q_add) (k := ?_)
  refine JL_qg (q_gtr) (k := ?_)
  refine JL_q (q_pickF) (k := ?_)
  refine JL_q (q_assign) (k := ?_)
  refine JL_nil ?_
  refine JX_seq ?_
  refine J_dec rfl (fun hq9 => ?_) (fun hq9 => ?_)
  · refine J_seq ?_
    refine J_reg ?_
    refine JL_q (q_assign) (k := ?_)
    refine JL_q (q_assign) (k := ?_)
    refine JL_q (q_assign) (k := ?_)
    refine JL_nil ?_
    refine JX_seq ?_
    refine J_ret ?_
    refine JX_block_ret ?_
    refine JX_seq_ret ?_
    refine JX_ret Tryz.results12 (Res.tmp rfl (Res.tmp rfl (Res.tmp rfl Res.nil))) (fun w1 hw1 => ?_)
    exact ⟨none, 0, [], (by rw [((((((((((hF.f hq1).f hq2).neg hq3).neg hq4).neg hq5).neg hq6).neg hq7).neg hq8).pos hq9)).eq] <;> first | rfl | (simp only [List.length_set] <;> rfl)), (hw1.fresh_out.sub (List.nil_sublist _)), (by rw [((((((((((hF.f hq1).f hq2).neg hq3).neg hq4).neg hq5).neg hq6).neg hq7).neg hq8).pos hq9)).eq]; exact OwnB.nil), (by rw [((((((((((hF.f hq1).f hq2).neg hq3).neg hq4).neg hq5).neg hq6).neg hq7).neg hq8).pos hq9)).eq]; first | omega | (simp only [List.length_append, List.length_take, List.length_drop, List.length_set, List.length_replicate, List.length_cons, List.length_nil, List.length_map, toS_length, toI_length]; omega) | (simp only [List.length_append, List.length_take, List.length_drop, List.length_set, List.length_replicate, List.length_cons, List.length_nil, List.length_map, toS_length, toI_length] at *; omega))⟩
  refine J_skip ?_
  refine JX_block ?_
  refine JX_seq ?_
  refine J_seq ?_
  refine J_reg ?_
  refine JL_q (q_assign) (k := ?_)
  refine JL_nil ?_
  refine JX_seq ?_
  refine J_seq ?_
  refine J_reg ?_
  refine JL_q (q_assign) (k := ?_)
  refine JL_nil ?_
  refine JX_seq ?_
  refine J_seq ?_
  refine J_seq ?_
  refine J_reg ?_
  refine JL_q (q_assign) (k := ?_)
  refine JL_nil ?_
  refine JX_seq ?_
  refine J_block ?_
  refine J_loop7 (σ1 := Nat) (σ2 := List Cred) (σ3 := Option Addr) (σ4 := Nat) (σ5 := Heap) (σ6 := Int) (σ7 := Nat) (fun n_4 out_1 out_1a out_1c out_1B id_2 i_3 => (out_1B ++ [])) (fun n_4 out_1 out_1a out_1c out_1B id_2 i_3 => [(0, (Value.slice (l_a) (l.length) (l_c))), (1, (Value.string (bs key))), (2, (Value.int .i64 (now))), (3, (Value.int .i64 (overlap))), (4, (Value.int .i64 (span))), (10, (Value.slice (none) (0) (0))), (11, (Value.int .i64 (0))), (12, (Value.int .i64 (0))), (13, (Value.slice (out_1a) (out_1.length) (out_1c))), (14, (Value.int .i64 (id_2))), (15, (Value.int .i64 (((i_3 : Nat) : Int))))]) (fun n_4 out_1 out_1a out_1c out_1B id_2 i_3 => l.length - i_3 < n_4 ∧ Is (rcRot_l0 l key now overlap span (l.length + 1) [] 1 0) (rcRot_l0 l key now overlap span n_4 out_1 id_2 i_3) ∧ OwnB eCred 4 37 out_1a out_1c out_1B out_1 ∧ out_1.length ≤ i_3 ∧ i_3 ≤ l.length) (fun n_4 out_1 out_1a out_1c out_1B id_2 i_3 => n_4) (l.length + 1) ([]) none 0 ([]) 1 0 ?_ (by repeat (first | exact SubE.nil | refine SubE.cons rfl ?_)) (List.Perm.refl _) ?_
  · exact ⟨Nat.lt_succ_self _, Is.refl _, OwnB.nil, (by first | omega | rfl | (simp; done)), (by first | omega | rfl | (simp; done))⟩
  · rintro (_ | n_4) out_1 out_1a out_1c out_1B id_2 i_3 ⟨hm6, hF5, hout_1, hi7, hi8⟩
    · omega
    refine J_seq ?_
    refine J_seq ?_
    refine J_reg ?_
    refine JL_q (q_move) (k := ?_)
    refine JL_q (q_move) (k := ?_)
    refine JL_q (q_lenS Tryz.runUnderlying22) (k := ?_)
    refine JL_q (q_lss) (k := ?_)
    refine JL_nil ?_
    refine JX_seq ?_
    refine J_dec rfl (fun hq10 => ?_) (fun hq10 => ?_)
    rotate_left
    · refine J_exit ?_
      refine JX_seq_exit ?_
      refine JX_inv_exit ?_
      refine JX_block_hit ?_
      refine JX_seq ?_
      refine J_seq ?_
      refine J_reg ?_
      refine JL_q (q_move) (k := ?_)
      refine JL_q (q_move) (k := ?_)
      refine JL_q (q_move) (k := ?_)
      refine JL_q (q_move) (k := ?_)
      refine JL_q (q_move) (k := ?_)
      refine JL_q (q_move) (k := ?_)
      refine JL_q (q_add) (k := ?_)
      refine JL_q (q_build (cs := [_, _, _, _]) Tryz.zeroValue37 PL_37) (k := ?_)
      refine JL_a noMk (a_bslice (l := [_, _, _, _]) Tryz.runUnderlying22 Tryz.sizeOf37 Tryz.zeroValue37) (k := fun r3 hr3 => ?_)
      refine JL_append (out_1 ++ ([(Cred.mk id_2 key now (now + span))] : List Cred)) rfl TY_37 Tryz.underlying22 eCred_ok hout_1 ((List.Perm.cons _ (List.Perm.refl _)).trans List.perm_middle.symm) (SlJ.lit (xs := ([(Cred.mk id_2 key now (now + span))] : List Cred)) eCred_ok) ⟨by omega, by omega⟩ (n := out_1.length) (m := 1) (k := fun ax2 cx2 Bx2 hox2 => ?_)
      have hal2 : (out_1 ++ ([(Cred.mk id_2 key now (now + span))] : List Cred)).length = out_1.length + 1 := by first | rfl | simp
      refine JL_q (q_assign) (k := ?_)
      refine JL_nil ?_
      refine JX_seq ?_
      refine J_seq ?_
      refine J_seq ?_
      refine J_reg ?_
      refine JL_q (q_move) (k := ?_)
      refine JL_q (q_lenS Tryz.runUnderlying22) (k := ?_)
      refine JL_q (q_gtr) (k := ?_)
      refine JL_q (q_move) (k := ?_)
      refine JL_dec 105 rfl (fun hq13 => ?_) (fun hq13 => ?_)
      · refine JL_skips 2 rfl ?_
        refine JL_q (q_pickT) (k := ?_)
        refine JL_nil ?_
        refine JX_seq ?_
        refine J_true rfl ?_
        refine J_seq ?_
        refine J_reg ?_
        refine JL_q (q_assign) (k := ?_)
        refine JL_q (q_assign) (k := ?_)
        refine JL_q (q_assign) (k := ?_)
        refine JL_nil ?_
        refine JX_seq ?_
        refine J_ret ?_
        refine JX_seq_ret ?_
        refine JX_ret Tryz.results12 (Res.tmp rfl (Res.tmp rfl (Res.tmp rfl Res.nil))) (fun w1 hw1 => ?_)
        exact ⟨none, 0, [], (by rw [((((((((((((hF.f hq1).f hq2).neg hq3).neg hq4).neg hq5).neg hq6).neg hq7).neg hq8).neg hq9).rn3 (hF5.neg hq10)).pos hq13)).eq] <;> first | rfl | (simp only [List.length_set] <;> rfl)), (hw1.fresh_out.sub (List.nil_sublist _)), (by rw [((((((((((((hF.f hq1).f hq2).neg hq3).neg hq4).neg hq5).neg hq6).neg hq7).neg hq8).neg hq9).rn3 (hF5.neg hq10)).pos hq13)).eq]; exact OwnB.nil), (by rw [((((((((((((hF.f hq1).f hq2).neg hq3).neg hq4).neg hq5).neg hq6).neg hq7).neg hq8).neg hq9).rn3 (hF5.neg hq10)).pos hq13)).eq]; first | omega | (simp only [List.length_append, List.length_take, List.length_drop, List.length_set, List.length_replicate, List.length_cons, List.length_nil, List.length_map, toS_length, toI_length]; omega) | (simp only [List.length_append, List.length_take, List.length_drop, List.length_set, List.length_replicate, List.length_cons, List.length_nil, List.length_map, toS_length, toI_length] at *; omega))⟩
      refine JL_qg (q_move) (k := ?_)
      refine JL_qg (q_gtr) (k := ?_)
      refine JL_q (q_pickF) (k := ?_)
      refine JL_nil ?_
      refine JX_seq ?_
      refine J_dec rfl (fun hq14 => ?_) (fun hq14 => ?_)
      · refine J_seq ?_
        refine J_reg ?_
        refine JL_q (q_assign) (k := ?_)
        refine JL_q (q_assign) (k := ?_)
        refine JL_q (q_assign) (k := ?_)
        refine JL_nil ?_
        refine JX_seq ?_
        refine J_ret ?_
        refine JX_seq_ret ?_
        refine JX_ret Tryz.results12 (Res.tmp rfl (Res.tmp rfl (Res.tmp rfl Res.nil))) (fun w1 hw1 => ?_)
        exact ⟨none, 0, [], (by rw [(((((((((((((hF.f hq1).f hq2).neg hq3).neg hq4).neg hq5).neg hq6).neg hq7).neg hq8).neg hq9).rn3 (hF5.neg hq10)).neg hq13).pos hq14)).eq] <;> first | rfl | (simp only [List.length_set] <;> rfl)), (hw1.fresh_out.sub (List.nil_sublist _)), (by rw [(((((((((((((hF.f hq1).f hq2).neg hq3).neg hq4).neg hq5).neg hq6).neg hq7).neg hq8).neg hq9).rn3 (hF5.neg hq10)).neg hq13).pos hq14)).eq]; exact OwnB.nil), (by rw [(((((((((((((hF.f hq1).f hq2).neg hq3).neg hq4).neg hq5).neg hq6).neg hq7).neg hq8).neg hq9).rn3 (hF5.neg hq10)).neg hq13).pos hq14)).eq]; first | omega | (simp only [List.length_append, List.length_take, List.length_drop, List.length_set, List.length_replicate, List.length_cons, List.length_nil, List.length_map, toS_length, toI_length]; omega) | (simp only [List.length_append, List.length_take, List.length_drop, List.length_set, List.length_replicate, List.length_cons, List.length_nil, List.length_map, toS_length, toI_length] at *; omega))⟩
      refine J_skip ?_
      refine JX_seq ?_
      refine J_seq ?_
      refine J_reg ?_
      refine JL_q (q_move) (k := ?_)
      refine JL_q (q_move) (k := ?_)
      refine JL_q (q_assign) (k := ?_)
      refine JL_q (q_assign) (k := ?_)
      refine JL_q (q_assign) (k := ?_)
      refine JL_nil ?_
      refine JX_seq ?_
      refine J_ret ?_
      refine JX_ret Tryz.results12 (Res.tmp rfl (Res.tmp rfl (Res.tmp rfl Res.nil))) (fun w1 hw1 => ?_)
      exact ⟨ax2, cx2, Bx2, (by rw [(((((((((((((hF.f hq1).f hq2).neg hq3).neg hq4).neg hq5).neg hq6).neg hq7).neg hq8).neg hq9).rn3 (hF5.neg hq10)).neg hq13).neg hq14)).eq] <;> first | rfl | (simp only [List.length_set] <;> rfl)), (fresh_segs (L := Bx2) (R := ((r3, Obj.cells [(Value.int .i64 (id_2)), (Value.string (bs key)), (Value.int .i64 (now)), (Value.int .i64 ((now + span)))].toArray 37) :: [])) (hw1.perm (List.Perm.refl _)) (by simp)), (by rw [(((((((((((((hF.f hq1).f hq2).neg hq3).neg hq4).neg hq5).neg hq6).neg hq7).neg hq8).neg hq9).rn3 (hF5.neg hq10)).neg hq13).neg hq14)).eq]; exact hox2), (by rw [(((((((((((((hF.f hq1).f hq2).neg hq3).neg hq4).neg hq5).neg hq6).neg hq7).neg hq8).neg hq9).rn3 (hF5.neg hq10)).neg hq13).neg hq14)).eq]; first | omega | (simp only [List.length_append, List.length_take, List.length_drop, List.length_set, List.length_replicate, List.length_cons, List.length_nil, List.length_map, toS_length, toI_length]; omega) | (simp only [List.length_append, List.length_take, List.length_drop, List.length_set, List.length_replicate, List.length_cons, List.length_nil, List.length_map, toS_length, toI_length] at *; omega))⟩
    refine J_skip ?_
    refine JX_seq ?_
    refine J_seq ?_
    refine J_block ?_
    refine J_seq ?_
    refine J_reg ?_
    refine JL_q (q_move) (k := ?_)
    refine JL_q (q_move) (k := ?_)
    refine JL_q (q_idx (n := l.length) Tryz.runUnderlying22 Tryz.sizeOf37 i_3 (SlJ.of_base h_l) (gD (by first | omega | (simp only [List.length_set]; omega) | (simp only [List.length_append, List.length_take, List.length_drop, List.length_set, List.length_replicate, List.length_cons, List.length_nil, List.length_map, toS_length, toI_length]; omega))) (by first | rfl | simp)) (k := ?_)
    refine JL_q (q_loadEA Tryz.isAgg37 Tryz.sizeOf37 i_3 (SlJ.of_base h_l) (gD (by first | omega | (simp only [List.length_set]; omega) | (simp only [List.length_append, List.length_take, List.length_drop, List.length_set, List.length_replicate, List.length_cons, List.length_nil, List.length_map, toS_length, toI_length]; omega)))) (k := ?_)
    refine JL_a noMk (a_alloc (l := [_, _, _, _]) Tryz.zeroValue37) (k := fun r1 hr1 => ?_)
    refine JL_s (w_store (l' := [_, _, _, _]) Tryz.sizeOf37) (k := ?_)
    refine JL_nil ?_
    refine JX_seq ?_
    refine J_seq ?_
    refine J_reg ?_
    refine JL_q (q_fld FO_37_0) (k := ?_)
    refine JL_q (q_load Tryz.isAgg3) (k := ?_)
    have hid := RightC.id (l := l) (by assumption) i_3
    refine JL_q (q_add) (k := ?_)
    refine JL_q (q_assign) (k := ?_)
    refine JL_nil ?_
    refine JX_seq ?_
    refine J_seq ?_
    refine J_reg ?_
    refine JL_q (q_fld FO_37_3) (k := ?_)
    refine JL_q (q_load Tryz.isAgg3) (k := ?_)
    refine JL_q (q_move) (k := ?_)
    refine JL_q (q_move) (k := ?_)
    refine JL_q (q_add) (k := ?_)
    refine JL_q (q_min) (k := ?_)
    refine JL_q (q_fld FO_37_3) (k := ?_)
    refine JL_s (w_store (l' := [_, _, _, _]) Tryz.sizeOf3) (k := ?_)
    refine JL_nil ?_
    refine JX_seq ?_
    refine J_seq ?_
    refine J_reg ?_
    refine JL_q (q_move) (k := ?_)
    refine JL_q (q_move) (k := ?_)
    refine JL_q (q_idx (n := l.length) Tryz.runUnderlying22 Tryz.sizeOf37 i_3 (SlJ.of_base h_l) (gD (by first | omega | (simp only [List.length_set]; omega) | (simp only [List.length_append, List.length_take, List.length_drop, List.length_set, List.length_replicate, List.length_cons, List.length_nil, List.length_map, toS_length, toI_length]; omega))) (by first | rfl | simp)) (k := ?_)
    refine JL_q (q_fldE FO_37_3) (k := ?_)
    refine JL_q (q_loadE Tryz.isAgg3 i_3 3 (SlJ.of_base h_l) (gD (by first | omega | (simp only [List.length_set]; omega) | (simp only [List.length_append, List.length_take, List.length_drop, List.length_set, List.length_replicate, List.length_cons, List.length_nil, List.length_map, toS_length, toI_length]; omega)))) (k := ?_)
    refine JL_q (q_move) (k := ?_)
    refine JL_q (q_gtr) (k := ?_)
    refine JL_q (q_move) (k := ?_)
    refine JL_dec 81 rfl (fun hq11 => ?_) (fun hq11 => ?_)
    rotate_left
    · refine JL_skips 5 rfl ?_
      refine JL_q (q_pickF) (k := ?_)
      refine JL_nil ?_
      refine JX_seq ?_
      refine J_false rfl ?_
      refine J_skip ?_
      refine JX_block ?_
      refine JX_seq ?_
      refine J_reg ?_
      refine JL_q (q_move) (k := ?_)
      refine JL_q (q_add) (k := ?_)
      refine JL_q (q_assign) (k := ?_)
      refine JL_nil ?_
      refine JX_permL (out_1B ++ ((r1, Obj.cells [(Value.int .i64 (((l.getD i_3 default).id))), (Value.string (bs ((l.getD i_3 default).key))), (Value.int .i64 (((l.getD i_3 default).frm))), (Value.int .i64 ((if (now + overlap) < ((l.getD i_3 default).to) then (now + overlap) else ((l.getD i_3 default).to))))].toArray 37) :: [])) ((List.Perm.cons _ (List.Perm.refl _)).trans List.perm_middle.symm) ?_
      refine JX_subL (out_1B ++ []) (List.Sublist.append (List.Sublist.refl _) (List.nil_sublist _)) ?_
      exact JX_inv7 n_4 out_1 out_1a out_1c out_1B (((l.getD i_3 default).id) + 1) (i_3 + 1) ⟨by omega, ((hF5.pos hq10).neg hq11), hout_1, (by omega), (by omega)⟩ (Nat.lt_succ_self _) (by repeat (first | exact SubE.nil | refine SubE.cons rfl ?_)) (List.Perm.refl _)
    refine JL_qg (q_fld FO_37_2) (k := ?_)
    refine JL_qg (q_load Tryz.isAgg3) (k := ?_)
    refine JL_qg (q_fld FO_37_3) (k := ?_)
    refine JL_qg (q_load Tryz.isAgg3) (k := ?_)
    refine JL_qg (q_lss) (k := ?_)
    refine JL_q (q_pickT) (k := ?_)
    refine JL_nil ?_
    refine JX_seq ?_
    refine J_dec rfl (fun hq12 => ?_) (fun hq12 => ?_)
    rotate_left
    · refine J_skip ?_
      refine JX_block ?_
      refine JX_seq ?_
      refine J_reg ?_
      refine JL_q (q_move) (k := ?_)
      refine JL_q (q_add) (k := ?_)
      refine JL_q (q_assign) (k := ?_)
      refine JL_nil ?_
      refine JX_permL (out_1B ++ ((r1, Obj.cells [(Value.int .i64 (((l.getD i_3 default).id))), (Value.string (bs ((l.getD i_3 default).key))), (Value.int .i64 (((l.getD i_3 default).frm))), (Value.int .i64 ((if (now + overlap) < ((l.getD i_3 default).to) then (now + overlap) else ((l.getD i_3 default).to))))].toArray 37) :: [])) ((List.Perm.cons _ (List.Perm.refl _)).trans List.perm_middle.symm) ?_
      refine JX_subL (out_1B ++ []) (List.Sublist.append (List.Sublist.refl _) (List.nil_sublist _)) ?_
      exact JX_inv7 n_4 out_1 out_1a out_1c out_1B (((l.getD i_3 default).id) + 1) (i_3 + 1) ⟨by omega, (((hF5.pos hq10).pos hq11).neg hq12), hout_1, (by omega), (by omega)⟩ (Nat.lt_succ_self _) (by repeat (first | exact SubE.nil | refine SubE.cons rfl ?_)) (List.Perm.refl _)
    refine J_reg ?_
    refine JL_q (q_move) (k := ?_)
    refine JL_q (q_loadA Tryz.isAgg37 Tryz.sizeOf37) (k := ?_)
    refine JL_a noMk (a_bslice (l := [_, _, _, _]) Tryz.runUnderlying22 Tryz.sizeOf37 Tryz.zeroValue37) (k := fun r2 hr2 => ?_)
    refine JL_append (out_1 ++ ([(Cred.mk ((l.getD i_3 default).id) ((l.getD i_3 default).key) ((l.getD i_3 default).frm) (if (now + overlap) < ((l.getD i_3 default).to) then (now + overlap) else ((l.getD i_3 default).to)))] : List Cred)) rfl TY_37 Tryz.underlying22 eCred_ok hout_1 ((List.Perm.cons _ ((List.Perm.cons _ (List.Perm.refl _)).trans List.perm_middle.symm)).trans List.perm_middle.symm) (SlJ.lit (xs := ([(Cred.mk ((l.getD i_3 default).id) ((l.getD i_3 default).key) ((l.getD i_3 default).frm) (if (now + overlap) < ((l.getD i_3 default).to) then (now + overlap) else ((l.getD i_3 default).to)))] : List Cred)) eCred_ok) ⟨by omega, by omega⟩ (n := out_1.length) (m := 1) (k := fun ax1 cx1 Bx1 hox1 => ?_)
    have hal1 : (out_1 ++ ([(Cred.mk ((l.getD i_3 default).id) ((l.getD i_3 default).key) ((l.getD i_3 default).frm) (if (now + overlap) < ((l.getD i_3 default).to) then (now + overlap) else ((l.getD i_3 default).to)))] : List Cred)).length = out_1.length + 1 := by first | rfl | simp
    refine JL_q (q_assign) (k := ?_)
    refine JL_nil ?_
    refine JX_block ?_
    refine JX_seq ?_
    refine J_reg ?_
    refine JL_q (q_move) (k := ?_)
    refine JL_q (q_add) (k := ?_)
    refine JL_q (q_assign) (k := ?_)
    refine JL_nil ?_
    refine JX_subL (Bx1 ++ []) (List.Sublist.append (List.Sublist.refl _) (List.nil_sublist _)) ?_
    exact JX_inv7 n_4 (out_1 ++ ([(Cred.mk ((l.getD i_3 default).id) ((l.getD i_3 default).key) ((l.getD i_3 default).frm) (if (now + overlap) < ((l.getD i_3 default).to) then (now + overlap) else ((l.getD i_3 default).to)))] : List Cred)) ax1 cx1 Bx1 (((l.getD i_3 default).id) + 1) (i_3 + 1) ⟨by omega, (((hF5.pos hq10).pos hq11).pos hq12), hox1, (by omega), (by omega)⟩ (Nat.lt_succ_self _) (by repeat (first | exact SubE.nil | refine SubE.cons rfl ?_)) (List.Perm.refl _)

theorem rcEnd_ok (w : World) {l_a : Option Addr} {l_c : Nat} {l : List Cred} {id : Int} {now : Int} (h_l : Sl w eCred 4 l_a l) (n_l : l.length ≤ 1000) : Calls Tryz.prog 14 (List.toArray [(Value.slice (l_a) (l.length) (l_c)), (Value.int .i64 (id)), (Value.int .i64 (now))]) w fun e w2 => ∃ a1 : Option Addr, ∃ c1 : Nat, ∃ B1 : Heap, e = .returned (Value.tuple [(Value.slice (a1) ((rcEnd l id now).1.length) (c1)), (Value.int .i64 (((rcEnd l id now).2)))].toArray) ∧ Fresh w w2 B1 ∧ OwnB eCred 4 37 a1 c1 B1 (rcEnd l id now).1 ∧ (rcEnd l id now).1.length ≤ 1000 := by
  have hF := Is.refl (rcEnd l id now)
  refine enter Tryz.func14 Tryz.ntmps14 (h := ?_)
  refine J_seq ?_
  refine J_reg ?_
  refine JL_q (q_assign) (k := ?_)
  refine JL_q (q_assign) (k := ?_)
  refine JL_nil ?_
  refine JX_seq ?_
  refine J_seq ?_
  refine J_seq ?_
  refine J_reg ?_
  refine JL_q (q_move) (k := ?_)
  refine JL_v (args := [(Value.slice (l_a) (l.length) (l_c))]) (c_callA Tryz.call24) (fun w1 hw1 => rcRight_ok w1 (l := l) (h_l := (SlJ.of_base h_l) w1 hw1) (n_l := by first | omega | (simp only [List.length_append, List.length_take, List.length_drop, List.length_set, List.length_replicate, List.length_cons, List.length_nil, List.length_map, toS_length, toI_length]; omega) | (simp only [List.length_append, List.length_take, List.length_drop, List.length_set, List.length_replicate, List.length_cons, List.length_nil, List.length_map, toS_length, toI_length] at *; omega) | decide)) (k := ?_)
  refine JL_q (q_not) (k := ?_)
  refine JL_nil ?_
  refine JX_seq ?_
  refine J_cond rfl (fun hq1 => ?_) (fun hq1 => ?_)
  · refine J_seq ?_
    refine J_reg ?_
    refine JL_q (q_assign) (k := ?_)
    refine JL_q (q_assign) (k := ?_)
    refine JL_nil ?_
    refine JX_seq ?_
    refine J_ret ?_
    refine JX_seq_ret ?_
    refine JX_ret Tryz.results14 (Res.tmp rfl (Res.tmp rfl Res.nil)) (fun w1 hw1 => ?_)
    exact ⟨none, 0, [], (by rw [((hF.t hq1)).eq] <;> first | rfl | (simp only [List.length_set] <;> rfl)), (hw1.fresh_out.sub (List.nil_sublist _)), (by rw [((hF.t hq1)).eq]; exact OwnB.nil), (by rw [((hF.t hq1)).eq]; first | omega | (simp only [List.length_append, List.length_take, List.length_drop, List.length_set, List.length_replicate, List.length_cons, List.length_nil, List.length_map, toS_length, toI_length]; omega) | (simp only [List.length_append, List.length_take, List.length_drop, List.length_set, List.length_replicate, List.length_cons, List.length_nil, List.length_map, toS_length, toI_length] at *; omega))⟩
  have hfhq1 := rcRight_t (by simpa using hq1)
  refine J_skip ?_
  refine JX_seq ?_
  refine J_seq ?_
  refine J_seq ?_
  refine J_reg ?_
  refine JL_q (q_move) (k := ?_)
  refine JL_q (q_lss) (k := ?_)
  refine JL_q (q_move) (k := ?_)
  refine JL_dec 17 rfl (fun hq2 => ?_) (fun hq2 => ?_)
  · refine JL_skips 2 rfl ?_
    refine JL_q (q_pickT) (k := ?_)
    refine JL_nil ?_
    refine JX_seq ?_
    refine J_true rfl ?_
    refine J_seq ?_
    refine J_reg ?_
    refine JL_q (q_assign) (k := ?_)
    refine JL_q (q_assign) (k := ?_)
    refine JL_nil ?_
    refine JX_seq ?_
    refine J_ret ?_
    refine JX_seq_ret ?_
    refine JX_ret Tryz.results14 (Res.tmp rfl (Res.tmp rfl Res.nil)) (fun w1 hw1 => ?_)
    exact ⟨none, 0, [], (by rw [(((hF.f hq1).pos hq2)).eq] <;> first | rfl | (simp only [List.length_set] <;> rfl)), (hw1.fresh_out.sub (List.nil_sublist _)), (by rw [(((hF.f hq1).pos hq2)).eq]; exact OwnB.nil), (by rw [(((hF.f hq1).pos hq2)).eq]; first | omega | (simp only [List.length_append, List.length_take, List.length_drop, List.length_set, List.length_replicate, List.length_cons, List.length_nil, List.length_map, toS_length, toI_length]; omega) | (simp only [List.length_append, List.length_take, List.length_drop, List.length_set, List.length_replicate, List.length_cons, List.length_nil, List.length_map, toS_length, toI_length] at *; omega))⟩
  refine JL_qg (q_move) (k := ?_)
  refine JL_qg (q_gtr) (k := ?_)
  refine JL_q (q_pickF) (k := ?_)
  refine JL_nil ?_
  refine JX_seq ?_
  refine J_dec rfl (fun hq3 => ?_) (fun hq3 => ?_)
  · refine J_seq ?_
    refine J_reg ?_
    refine JL_q (q_assign) (k := ?_)
    refine JL_q (q_assign) (k := ?_)
    refine JL_nil ?_
    refine JX_seq ?_
    refine J_ret ?_
    refine JX_seq_ret ?_
    refine JX_ret Tryz.results14 (Res.tmp rfl (Res.tmp rfl Res.nil)) (fun w1 hw1 => ?_)
    exact ⟨none, 0, [], (by rw [((((hF.f hq1).neg hq2).pos hq3)).eq] <;> first | rfl | (simp only [List.length_set] <;> rfl)), (hw1.fresh_out.sub (List.nil_sublist _)), (by rw [((((hF.f hq1).neg hq2).pos hq3)).eq]; exact OwnB.nil), (by rw [((((hF.f hq1).neg hq2).pos hq3)).eq]; first | omega | (simp only [List.length_append, List.length_take, List.length_drop, List.length_set, List.length_replicate, List.length_cons, List.length_nil, List.length_map, toS_length, toI_length]; omega) | (simp only [List.length_append, List.length_take, List.length_drop, List.length_set, List.length_replicate, List.length_cons, List.length_nil, List.length_map, toS_length, toI_length] at *; omega))⟩
  refine J_skip ?_
  refine JX_seq ?_
  refine J_seq ?_
  refine J_reg ?_
  refine JL_q (q_assign) (k := ?_)
  refine JL_nil ?_
  refine JX_seq ?_
  refine J_seq ?_
  refine J_reg ?_
  refine JL_q (q_assign) (k := ?_)
  refine JL_nil ?_
  refine JX_seq ?_
  refine J_seq ?_
  refine J_seq ?_
  refine J_reg ?_
  refine JL_q (q_assign) (k := ?_)
  refine JL_nil ?_
  refine JX_seq ?_
  refine J_block ?_
  refine J_loop7 (σ1 := Nat) (σ2 := Nat) (σ3 := List Cred) (σ4 := Option Addr) (σ5 := Nat) (σ6 := Heap) (σ7 := Bool) (fun n_4 i_1 out_2 out_2a out_2c out_2B found_3 => (out_2B ++ [])) (fun n_4 i_1 out_2 out_2a out_2c out_2B found_3 => [(0, (Value.slice (l_a) (l.length) (l_c))), (1, (Value.int .i64 (id))), (2, (Value.int .i64 (now))), (6, (Value.slice (none) (0) (0))), (7, (Value.int .i64 (0))), (8, (Value.slice (out_2a) (out_2.length) (out_2c))), (9, (Value.bool (found_3))), (10, (Value.int .i64 (((i_1 : Nat) : Int))))]) (fun n_4 i_1 out_2 out_2a out_2c out_2B found_3 => l.length - i_1 < n_4 ∧ Is (rcEnd_l0 l id now (l.length + 1) 0 [] false) (rcEnd_l0 l id now n_4 i_1 out_2 found_3) ∧ OwnB eCred 4 37 out_2a out_2c out_2B out_2 ∧ out_2.length ≤ i_1 ∧ i_1 ≤ l.length) (fun n_4 i_1 out_2 out_2a out_2c out_2B found_3 => n_4) (l.length + 1) 0 ([]) none 0 ([]) false ?_ (by repeat (first | exact SubE.nil | refine SubE.cons rfl ?_)) (List.Perm.refl _) ?_
  · exact ⟨Nat.lt_succ_self _, Is.refl _, OwnB.nil, (by first | omega | rfl | (simp; done)), (by first | omega | rfl | (simp; done))⟩
  · rintro (_ | n_4) i_1 out_2 out_2a out_2c out_2B found_3 ⟨hm6, hF5, hout_2, hi7, hi8⟩
    · omega
    refine J_seq ?_
    refine J_seq ?_
    refine J_reg ?_
    refine JL_q (q_move) (k := ?_)
    refine JL_q (q_move) (k := ?_)
    refine JL_q (q_lenS Tryz.runUnderlying22) (k := ?_)
    refine JL_q (q_lss) (k := ?_)
    refine JL_nil ?_
    refine JX_seq ?_
    refine J_dec rfl (fun hq4 => ?_) (fun hq4 => ?_)
    rotate_left
    · refine J_exit ?_
      refine JX_seq_exit ?_
      refine JX_inv_exit ?_
      refine JX_block_hit ?_
      refine JX_seq ?_
      refine J_seq ?_
      refine J_seq ?_
      refine J_reg ?_
      refine JL_q (q_move) (k := ?_)
      refine JL_q (q_not) (k := ?_)
      refine JL_nil ?_
      refine JX_seq ?_
      refine J_cond rfl (fun hq10 => ?_) (fun hq10 => ?_)
      · refine J_seq ?_
        refine J_reg ?_
        refine JL_q (q_assign) (k := ?_)
        refine JL_q (q_assign) (k := ?_)
        refine JL_nil ?_
        refine JX_seq ?_
        refine J_ret ?_
        refine JX_seq_ret ?_
        refine JX_ret Tryz.results14 (Res.tmp rfl (Res.tmp rfl Res.nil)) (fun w1 hw1 => ?_)
        exact ⟨none, 0, [], (by rw [((((((hF.f hq1).neg hq2).neg hq3).rn3 (hF5.neg hq4)).t hq10)).eq] <;> first | rfl | (simp only [List.length_set] <;> rfl)), (hw1.fresh_out.sub (List.nil_sublist _)), (by rw [((((((hF.f hq1).neg hq2).neg hq3).rn3 (hF5.neg hq4)).t hq10)).eq]; exact OwnB.nil), (by rw [((((((hF.f hq1).neg hq2).neg hq3).rn3 (hF5.neg hq4)).t hq10)).eq]; first | omega | (simp only [List.length_append, List.length_take, List.length_drop, List.length_set, List.length_replicate, List.length_cons, List.length_nil, List.length_map, toS_length, toI_length]; omega) | (simp only [List.length_append, List.length_take, List.length_drop, List.length_set, List.length_replicate, List.length_cons, List.length_nil, List.length_map, toS_length, toI_length] at *; omega))⟩
      refine J_skip ?_
      refine JX_seq ?_
      refine J_seq ?_
      refine J_reg ?_
      refine JL_q (q_move) (k := ?_)
      refine JL_q (q_assign) (k := ?_)
      refine JL_q (q_assign) (k := ?_)
      refine JL_nil ?_
      refine JX_seq ?_
      refine J_ret ?_
      refine JX_ret Tryz.results14 (Res.tmp rfl (Res.tmp rfl Res.nil)) (fun w1 hw1 => ?_)
      exact ⟨out_2a, out_2c, out_2B, (by rw [((((((hF.f hq1).neg hq2).neg hq3).rn3 (hF5.neg hq4)).f hq10)).eq] <;> first | rfl | (simp only [List.length_set] <;> rfl)), (fresh_segs (L := out_2B) (R := []) (hw1.perm (List.Perm.refl _)) (by simp)), (by rw [((((((hF.f hq1).neg hq2).neg hq3).rn3 (hF5.neg hq4)).f hq10)).eq]; exact hout_2), (by rw [((((((hF.f hq1).neg hq2).neg hq3).rn3 (hF5.neg hq4)).f hq10)).eq]; first | omega | (simp only [List.length_append, List.length_take, List.length_drop, List.length_set, List.length_replicate, List.length_cons, List.length_nil, List.length_map, toS_length, toI_length]; omega) | (simp only [List.length_append, List.length_take, List.length_drop, List.length_set, List.length_replicate, List.length_cons, List.length_nil, List.length_map, toS_length, toI_length] at *; omega))⟩
    refine J_skip ?_
    refine JX_seq ?_
    refine J_seq ?_
    refine J_block ?_
    refine J_seq ?_
    refine J_reg ?_
    refine JL_q (q_move) (k := ?_)
    refine JL_q (q_move) (k := ?_)
    refine JL_q (q_idx (n := l.length) Tryz.runUnderlying22 Tryz.sizeOf37 i_1 (SlJ.of_base h_l) (gD (by first | omega | (simp only [List.length_set]; omega) | (simp only [List.length_append, List.length_take, List.length_drop, List.length_set, List.length_replicate, List.length_cons, List.length_nil, List.length_map, toS_length, toI_length]; omega))) (by first | rfl | simp)) (k := ?_)
    refine JL_q (q_loadEA Tryz.isAgg37 Tryz.sizeOf37 i_1 (SlJ.of_base h_l) (gD (by first | omega | (simp only [List.length_set]; omega) | (simp only [List.length_append, List.length_take, List.length_drop, List.length_set, List.length_replicate, List.length_cons, List.length_nil, List.length_map, toS_length, toI_length]; omega)))) (k := ?_)
    refine JL_a noMk (a_alloc (l := [_, _, _, _]) Tryz.zeroValue37) (k := fun r1 hr1 => ?_)
    refine JL_s (w_store (l' := [_, _, _, _]) Tryz.sizeOf37) (k := ?_)
    refine JL_nil ?_
    refine JX_seq ?_
    refine J_seq ?_
    refine J_seq ?_
    refine J_reg ?_
    refine JL_q (q_fld FO_37_0) (k := ?_)
    refine JL_q (q_load Tryz.isAgg3) (k := ?_)
    refine JL_q (q_move) (k := ?_)
    refine JL_q (q_eql) (k := ?_)
    refine JL_q (q_move) (k := ?_)
    refine JL_dec 35 rfl (fun hq5 => ?_) (fun hq5 => ?_)
    rotate_left
    · refine JL_skips 3 rfl ?_
      refine JL_q (q_pickF) (k := ?_)
      refine JL_nil ?_
      refine JX_seq ?_
      refine J_false rfl ?_
      refine J_skip ?_
      refine JX_seq ?_
      refine J_seq ?_
      refine J_reg ?_
      refine JL_q (q_fld FO_37_2) (k := ?_)
      refine JL_q (q_load Tryz.isAgg3) (k := ?_)
      refine JL_q (q_fld FO_37_3) (k := ?_)
      refine JL_q (q_load Tryz.isAgg3) (k := ?_)
      refine JL_q (q_lss) (k := ?_)
      refine JL_nil ?_
      refine JX_seq ?_
      refine J_dec rfl (fun hq9 => ?_) (fun hq9 => ?_)
      rotate_left
      · refine J_skip ?_
        refine JX_block ?_
        refine JX_seq ?_
        refine J_reg ?_
        refine JL_q (q_move) (k := ?_)
        refine JL_q (q_add) (k := ?_)
        refine JL_q (q_assign) (k := ?_)
        refine JL_nil ?_
        refine JX_permL (out_2B ++ ((r1, Obj.cells [(Value.int .i64 (((l.getD i_1 default).id))), (Value.string (bs ((l.getD i_1 default).key))), (Value.int .i64 (((l.getD i_1 default).frm))), (Value.int .i64 (((l.getD i_1 default).to)))].toArray 37) :: [])) ((List.Perm.cons _ (List.Perm.refl _)).trans List.perm_middle.symm) ?_
        refine JX_subL (out_2B ++ []) (List.Sublist.append (List.Sublist.refl _) (List.nil_sublist _)) ?_
        exact JX_inv7 n_4 (i_1 + 1) out_2 out_2a out_2c out_2B found_3 ⟨by omega, (((hF5.pos hq4).neg hq5).neg hq9), hout_2, (by omega), (by omega)⟩ (Nat.lt_succ_self _) (by repeat (first | exact SubE.nil | refine SubE.cons rfl ?_)) (List.Perm.refl _)
      refine J_reg ?_
      refine JL_q (q_move) (k := ?_)
      refine JL_q (q_loadA Tryz.isAgg37 Tryz.sizeOf37) (k := ?_)
      refine JL_a noMk (a_bslice (l := [_, _, _, _]) Tryz.runUnderlying22 Tryz.sizeOf37 Tryz.zeroValue37) (k := fun r4 hr4 => ?_)
      refine JL_append (out_2 ++ ([(l.getD i_1 default)] : List Cred)) rfl TY_37 Tryz.underlying22 eCred_ok hout_2 ((List.Perm.cons _ ((List.Perm.cons _ (List.Perm.refl _)).trans List.perm_middle.symm)).trans List.perm_middle.symm) (SlJ.lit (xs := ([(l.getD i_1 default)] : List Cred)) eCred_ok) ⟨by omega, by omega⟩ (n := out_2.length) (m := 1) (k := fun ax3 cx3 Bx3 hox3 => ?_)
      have hal3 : (out_2 ++ ([(l.getD i_1 default)] : List Cred)).length = out_2.length + 1 := by first | rfl | simp
      refine JL_q (q_assign) (k := ?_)
      refine JL_nil ?_
      refine JX_block ?_
      refine JX_seq ?_
      refine J_reg ?_
      refine JL_q (q_move) (k := ?_)
      refine JL_q (q_add) (k := ?_)
      refine JL_q (q_assign) (k := ?_)
      refine JL_nil ?_
      refine JX_subL (Bx3 ++ []) (List.Sublist.append (List.Sublist.refl _) (List.nil_sublist _)) ?_
      exact JX_inv7 n_4 (i_1 + 1) (out_2 ++ ([(l.getD i_1 default)] : List Cred)) ax3 cx3 Bx3 found_3 ⟨by omega, (((hF5.pos hq4).neg hq5).pos hq9), hox3, (by omega), (by omega)⟩ (Nat.lt_succ_self _) (by repeat (first | exact SubE.nil | refine SubE.cons rfl ?_)) (List.Perm.refl _)
    refine JL_qg (q_loadA Tryz.isAgg37 Tryz.sizeOf37) (k := ?_)
    refine JL_qg (q_move) (k := ?_)
    refine JL_vg (args := [(Value.agg [(Value.int .i64 (((l.getD i_1 default).id))), (Value.string (bs ((l.getD i_1 default).key))), (Value.int .i64 (((l.getD i_1 default).frm))), (Value.int .i64 (((l.getD i_1 default).to)))].toArray), (Value.int .i64 (now))]) (c_callA Tryz.call30) (fun w1 hw1 => rcHolds_ok w1 (c := (l.getD i_1 default)) (now := now)) (k := ?_)
    refine JL_q (q_pickT) (k := ?_)
    refine JL_nil ?_
    refine JX_seq ?_
    refine J_cond rfl (fun hq6 => ?_) (fun hq6 => ?_)
    rotate_left
    · refine J_skip ?_
      refine JX_seq ?_
      refine J_seq ?_
      refine J_reg ?_
      refine JL_q (q_fld FO_37_2) (k := ?_)
      refine JL_q (q_load Tryz.isAgg3) (k := ?_)
      refine JL_q (q_fld FO_37_3) (k := ?_)
      refine JL_q (q_load Tryz.isAgg3) (k := ?_)
      refine JL_q (q_lss) (k := ?_)
      refine JL_nil ?_
      refine JX_seq ?_
      refine J_dec rfl (fun hq8 => ?_) (fun hq8 => ?_)
      rotate_left
      · refine J_skip ?_
        refine JX_block ?_
        refine JX_seq ?_
        refine J_reg ?_
        refine JL_q (q_move) (k := ?_)
        refine JL_q (q_add) (k := ?_)
        refine JL_q (q_assign) (k := ?_)
        refine JL_nil ?_
        refine JX_permL (out_2B ++ ((r1, Obj.cells [(Value.int .i64 (((l.getD i_1 default).id))), (Value.string (bs ((l.getD i_1 default).key))), (Value.int .i64 (((l.getD i_1 default).frm))), (Value.int .i64 (((l.getD i_1 default).to)))].toArray 37) :: [])) ((List.Perm.cons _ (List.Perm.refl _)).trans List.perm_middle.symm) ?_
        refine JX_subL (out_2B ++ []) (List.Sublist.append (List.Sublist.refl _) (List.nil_sublist _)) ?_
        exact JX_inv7 n_4 (i_1 + 1) out_2 out_2a out_2c out_2B found_3 ⟨by omega, ((((hF5.pos hq4).pos hq5).f hq6).neg hq8), hout_2, (by omega), (by omega)⟩ (Nat.lt_succ_self _) (by repeat (first | exact SubE.nil | refine SubE.cons rfl ?_)) (List.Perm.refl _)
      refine J_reg ?_
      refine JL_q (q_move) (k := ?_)
      refine JL_q (q_loadA Tryz.isAgg37 Tryz.sizeOf37) (k := ?_)
      refine JL_a noMk (a_bslice (l := [_, _, _, _]) Tryz.runUnderlying22 Tryz.sizeOf37 Tryz.zeroValue37) (k := fun r3 hr3 => ?_)
      refine JL_append (out_2 ++ ([(l.getD i_1 default)] : List Cred)) rfl TY_37 Tryz.underlying22 eCred_ok hout_2 ((List.Perm.cons _ ((List.Perm.cons _ (List.Perm.refl _)).trans List.perm_middle.symm)).trans List.perm_middle.symm) (SlJ.lit (xs := ([(l.getD i_1 default)] : List Cred)) eCred_ok) ⟨by omega, by omega⟩ (n := out_2.length) (m := 1) (k := fun ax2 cx2 Bx2 hox2 => ?_)
      have hal2 : (out_2 ++ ([(l.getD i_1 default)] : List Cred)).length = out_2.length + 1 := by first | rfl | simp
      refine JL_q (q_assign) (k := ?_)
      refine JL_nil ?_
      refine JX_block ?_
      refine JX_seq ?_
      refine J_reg ?_
      refine JL_q (q_move) (k := ?_)
      refine JL_q (q_add) (k := ?_)
      refine JL_q (q_assign) (k := ?_)
      refine JL_nil ?_
      refine JX_subL (Bx2 ++ []) (List.Sublist.append (List.Sublist.refl _) (List.nil_sublist _)) ?_
      exact JX_inv7 n_4 (i_1 + 1) (out_2 ++ ([(l.getD i_1 default)] : List Cred)) ax2 cx2 Bx2 found_3 ⟨by omega, ((((hF5.pos hq4).pos hq5).f hq6).pos hq8), hox2, (by omega), (by omega)⟩ (Nat.lt_succ_self _) (by repeat (first | exact SubE.nil | refine SubE.cons rfl ?_)) (List.Perm.refl _)
    refine J_seq ?_
    refine J_reg ?_
    refine JL_q (q_assign) (k := ?_)
    refine JL_nil ?_
    refine JX_seq ?_
    refine J_reg ?_
    refine JL_q (q_move) (k := ?_)
    refine JL_q (q_fld FO_37_3) (k := ?_)
    refine JL_s (w_store (l' := [_, _, _, _]) Tryz.sizeOf3) (k := ?_)
    refine JL_nil ?_
    refine JX_seq ?_
    refine J_seq ?_
    refine J_reg ?_
    refine JL_q (q_fld FO_37_2) (k := ?_)
    refine JL_q (q_load Tryz.isAgg3) (k := ?_)
    refine JL_q (q_fld FO_37_3) (k := ?_)
    refine JL_q (q_load Tryz.isAgg3) (k := ?_)
    refine JL_q (q_lss) (k := ?_)
    refine JL_nil ?_
    refine JX_seq ?_
    refine J_dec rfl (fun hq7 => ?_) (fun hq7 => ?_)
    rotate_left
    · refine J_skip ?_
      refine JX_block ?_
      refine JX_seq ?_
      refine J_reg ?_
      refine JL_q (q_move) (k := ?_)
      refine JL_q (q_add) (k := ?_)
      refine JL_q (q_assign) (k := ?_)
      refine JL_nil ?_
      refine JX_permL (out_2B ++ ((r1, Obj.cells [(Value.int .i64 (((l.getD i_1 default).id))), (Value.string (bs ((l.getD i_1 default).key))), (Value.int .i64 (((l.getD i_1 default).frm))), (Value.int .i64 (now))].toArray 37) :: [])) ((List.Perm.cons _ (List.Perm.refl _)).trans List.perm_middle.symm) ?_
      refine JX_subL (out_2B ++ []) (List.Sublist.append (List.Sublist.refl _) (List.nil_sublist _)) ?_
      exact JX_inv7 n_4 (i_1 + 1) out_2 out_2a out_2c out_2B true ⟨by omega, ((((hF5.pos hq4).pos hq5).t hq6).neg hq7), hout_2, (by omega), (by omega)⟩ (Nat.lt_succ_self _) (by repeat (first | exact SubE.nil | refine SubE.cons rfl ?_)) (List.Perm.refl _)
    refine J_reg ?_
    refine JL_q (q_move) (k := ?_)
    refine JL_q (q_loadA Tryz.isAgg37 Tryz.sizeOf37) (k := ?_)
    refine JL_a noMk (a_bslice (l := [_, _, _, _]) Tryz.runUnderlying22 Tryz.sizeOf37 Tryz.zeroValue37) (k := fun r2 hr2 => ?_)
    refine JL_append (out_2 ++ ([(Cred.mk ((l.getD i_1 default).id) ((l.getD i_1 default).key) ((l.getD i_1 default).frm) now)] : List Cred)) rfl TY_37 Tryz.underlying22 eCred_ok hout_2 ((List.Perm.cons _ ((List.Perm.cons _ (List.Perm.refl _)).trans List.perm_middle.symm)).trans List.perm_middle.symm) (SlJ.lit (xs := ([(Cred.mk ((l.getD i_1 default).id) ((l.getD i_1 default).key) ((l.getD i_1 default).frm) now)] : List Cred)) eCred_ok) ⟨by omega, by omega⟩ (n := out_2.length) (m := 1) (k := fun ax1 cx1 Bx1 hox1 => ?_)
    have hal1 : (out_2 ++ ([(Cred.mk ((l.getD i_1 default).id) ((l.getD i_1 default).key) ((l.getD i_1 default).frm) now)] : List Cred)).length = out_2.length + 1 := by first | rfl | simp
    refine JL_q (q_assign) (k := ?_)
    refine JL_nil ?_
    refine JX_block ?_
    refine JX_seq ?_
    refine J_reg ?_
    refine JL_q (q_move) (k := ?_)
    refine JL_q (q_add) (k := ?_)
    refine JL_q (q_assign) (k := ?_)
    refine JL_nil ?_
    refine JX_subL (Bx1 ++ []) (List.Sublist.append (List.Sublist.refl _) (List.nil_sublist _)) ?_
    exact JX_inv7 n_4 (i_1 + 1) (out_2 ++ ([(Cred.mk ((l.getD i_1 default).id) ((l.getD i_1 default).key) ((l.getD i_1 default).frm) now)] : List Cred)) ax1 cx1 Bx1 true ⟨by omega, ((((hF5.pos hq4).pos hq5).t hq6).pos hq7), hox1, (by omega), (by omega)⟩ (Nat.lt_succ_self _) (by repeat (first | exact SubE.nil | refine SubE.cons rfl ?_)) (List.Perm.refl _)

theorem rcSame_ok (w : World) {a_a : Option Addr} {a_c : Nat} {b_a : Option Addr} {b_c : Nat} {a : List Cred} {b : List Cred} (h_a : Sl w eCred 4 a_a a) (n_a : a.length ≤ 1001) (h_b : Sl w eCred 4 b_a b) (n_b : b.length ≤ 1001) : Val Tryz.prog 15 [(Value.slice (a_a) (a.length) (a_c)), (Value.slice (b_a) (b.length) (b_c))] w (Value.bool ((rcSame a b))) := by
  have hF := Is.refl (rcSame a b)
  refine enter Tryz.func15 Tryz.ntmps15 (h := ?_)
  refine J_seq ?_
  refine J_reg ?_
  refine JL_q (q_assign) (k := ?_)
  refine JL_nil ?_
  refine JX_seq ?_
  refine J_seq ?_
  refine J_seq ?_
  refine J_reg ?_
  refine JL_q (q_move) (k := ?_)
  refine JL_q (q_lenS Tryz.runUnderlying22) (k := ?_)
  refine JL_q (q_move) (k := ?_)
  refine JL_q (q_lenS Tryz.runUnderlying22) (k := ?_)
  refine JL_q (q_neq) (k := ?_)
  refine JL_nil ?_
  refine JX_seq ?_
  refine J_dec rfl (fun hq1 => ?_) (fun hq1 => ?_)
  · refine J_seq ?_
    refine J_reg ?_
    refine JL_q (q_assign) (k := ?_)
    refine JL_nil ?_
    refine JX_seq ?_
    refine J_ret ?_
    refine JX_seq_ret ?_
    refine JX_ret Tryz.results15 (Res.tmp rfl Res.nil) (fun w1 hw1 => ?_)
    exact ⟨(by rw [((hF.pos hq1)).eq] <;> first | rfl | (simp only [List.length_set] <;> rfl)), hw1.ext_out⟩
  refine J_skip ?_
  refine JX_seq ?_
  refine J_seq ?_
  refine J_seq ?_
  refine J_reg ?_
  refine JL_q (q_assign) (k := ?_)
  refine JL_nil ?_
  refine JX_seq ?_
  refine J_block ?_
  refine J_loop2 (σ1 := Nat) (σ2 := Nat) (fun n_2 i_1 => []) (fun n_2 i_1 => [(0, (Value.slice (a_a) (a.length) (a_c))), (1, (Value.slice (b_a) (b.length) (b_c))), (4, (Value.bool (false))), (5, (Value.int .i64 (((i_1 : Nat) : Int))))]) (fun n_2 i_1 => a.length - i_1 < n_2 ∧ Is (rcSame_l0 a b (a.length + 1) 0) (rcSame_l0 a b n_2 i_1) ∧ i_1 ≤ a.length) (fun n_2 i_1 => n_2) (a.length + 1) 0 ?_ (by repeat (first | exact SubE.nil | refine SubE.cons rfl ?_)) (List.Perm.refl _) ?_
  · exact ⟨Nat.lt_succ_self _, Is.refl _, (by first | omega | rfl | (simp; done))⟩
  · rintro (_ | n_2) i_1 ⟨hm4, hF3, hi5⟩
    · omega
    refine J_seq ?_
    refine J_seq ?_
    refine J_reg ?_
    refine JL_q (q_move) (k := ?_)
    refine JL_q (q_move) (k := ?_)
    refine JL_q (q_lenS Tryz.runUnderlying22) (k := ?_)
    refine JL_q (q_lss) (k := ?_)
    refine JL_nil ?_
    refine JX_seq ?_
    refine J_dec rfl (fun hq2 => ?_) (fun hq2 => ?_)
    rotate_left
    · refine J_exit ?_
      refine JX_seq_exit ?_
      refine JX_inv_exit ?_
      refine JX_block_hit ?_
      refine JX_seq ?_
      refine J_seq ?_
      refine J_reg ?_
      refine JL_q (q_assign) (k := ?_)
      refine JL_nil ?_
      refine JX_seq ?_
      refine J_ret ?_
      refine JX_ret Tryz.results15 (Res.tmp rfl Res.nil) (fun w1 hw1 => ?_)
      exact ⟨(by rw [(((hF.neg hq1).ok1 (hF3.neg hq2))).eq] <;> first | rfl | (simp only [List.length_set] <;> rfl)), hw1.ext_out⟩
    refine J_skip ?_
    refine JX_seq ?_
    refine J_seq ?_
    refine J_block ?_
    refine J_seq ?_
    refine J_plan mixed 9 [(true, 0), (true, 1), (true, 2), (true, 3), (true, 4), (true, 5), (true, 6), (true, 7), (true, 8)] (by kernel_rfl) ?_
    refine JD_q (q_move) (k := ?_)
    refine JD_q (q_move) (k := ?_)
    refine JD_q (q_idx (n := a.length) Tryz.runUnderlying22 Tryz.sizeOf37 i_1 (SlJ.of_base h_a) (gD (by first | omega | (simp only [List.length_set]; omega) | (simp only [List.length_append, List.length_take, List.length_drop, List.length_set, List.length_replicate, List.length_cons, List.length_nil, List.length_map, toS_length, toI_length]; omega))) (by first | rfl | simp)) (k := ?_)
    refine JD_q (q_loadEA Tryz.isAgg37 Tryz.sizeOf37 i_1 (SlJ.of_base h_a) (gD (by first | omega | (simp only [List.length_set]; omega) | (simp only [List.length_append, List.length_take, List.length_drop, List.length_set, List.length_replicate, List.length_cons, List.length_nil, List.length_map, toS_length, toI_length]; omega)))) (k := ?_)
    refine JD_q (q_move) (k := ?_)
    refine JD_q (q_move) (k := ?_)
    refine JD_q (q_idx (n := b.length) Tryz.runUnderlying22 Tryz.sizeOf37 i_1 (SlJ.of_base h_b) (gD (by first | omega | (simp only [List.length_set]; omega) | (simp only [List.length_append, List.length_take, List.length_drop, List.length_set, List.length_replicate, List.length_cons, List.length_nil, List.length_map, toS_length, toI_length]; omega))) (by first | rfl | simp)) (k := ?_)
    refine JD_q (q_loadEA Tryz.isAgg37 Tryz.sizeOf37 i_1 (SlJ.of_base h_b) (gD (by first | omega | (simp only [List.length_set]; omega) | (simp only [List.length_append, List.length_take, List.length_drop, List.length_set, List.length_replicate, List.length_cons, List.length_nil, List.length_map, toS_length, toI_length]; omega)))) (k := ?_)
    refine JD_q (q_neS (NE_37 _ _ _ _ _ _ _ _ _ _)) (k := ?_)
    refine JD_nil0 ?_
    refine JL_nil ?_
    refine JX_seq ?_
    refine J_dec rfl (fun hq3 => ?_) (fun hq3 => ?_)
    rotate_left
    · refine J_skip ?_
      refine JX_block ?_
      refine JX_seq ?_
      refine J_reg ?_
      refine JL_q (q_move) (k := ?_)
      refine JL_q (q_add) (k := ?_)
      refine JL_q (q_assign) (k := ?_)
      refine JL_nil ?_
      exact JX_inv2 n_2 (i_1 + 1) ⟨by omega, ((hF3.pos hq2).neg hq3), (by omega)⟩ (Nat.lt_succ_self _) (by repeat (first | exact SubE.nil | refine SubE.cons rfl ?_)) (List.Perm.refl _)
    refine J_seq ?_
    refine J_reg ?_
    refine JL_q (q_assign) (k := ?_)
    refine JL_nil ?_
    refine JX_seq ?_
    refine J_ret ?_
    refine JX_block_ret ?_
    refine JX_seq_ret ?_
    refine JX_inv_ret ?_
    refine JX_block_ret ?_
    refine JX_seq_ret ?_
    refine JX_ret Tryz.results15 (Res.tmp rfl Res.nil) (fun w1 hw1 => ?_)
    exact ⟨(by rw [(((hF.neg hq1).er1 ((hF3.pos hq2).pos hq3))).eq] <;> first | rfl | (simp only [List.length_set] <;> rfl)), hw1.ext_out⟩

end Go.Proofs.YtcmondhpiahchaaGreatDoor.Jd
