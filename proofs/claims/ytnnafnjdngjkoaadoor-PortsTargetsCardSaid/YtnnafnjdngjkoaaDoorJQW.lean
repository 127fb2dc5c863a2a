/- Part of the proofs of this seat: walks and plain facts. No condition. -/
import Derived.Test.YtnnafnjdngjkoaaDoorProg
import Derived.Test.YtnnafnjdngjkoaaDoorJQM
import Derived.Test.YtnnafnjdngjkoaaDoorJQO
import Derived.Test.YtnnafnjdngjkoaaDoorJQA
namespace Go.Proofs.YtnnafnjdngjkoaaDoor.Jd
open Go.Proofs
open Go.RowKit (Below)
set_option maxRecDepth 100000
set_option linter.unusedVariables false
set_option linter.unusedSimpArgs false

theorem rPRight_ok (w : World) {p : PortsT} : Val Tryd.prog 17 [(Value.agg [(Value.int .i64 (p.lo)), (Value.int .i64 (p.hi))].toArray)] w (Value.bool ((rPRight p))) := by
  have hF := Is.refl (rPRight p)
  refine enter Tryd.func17 Tryd.ntmps17 (h := ?_)
  refine J_seq ?_
  refine J_reg ?_
  refine JL_a noMk (a_box (l := [_, _])) (k := fun r1 hr1 => ?_)
  refine JL_q (q_assign) (k := ?_)
  refine JL_nil ?_
  refine JX_seq ?_
  refine J_seq ?_
  refine J_reg ?_
  refine JL_q (q_fld FO_23_0) (k := ?_)
  refine JL_q (q_load Tryd.isAgg3) (k := ?_)
  refine JL_q (q_geq) (k := ?_)
  refine JL_q (q_move) (k := ?_)
  refine JL_dec 6 rfl (fun hq1 => ?_) (fun hq1 => ?_)
  rotate_left
  · refine JL_skips 5 rfl ?_
    refine JL_q (q_pickF) (k := ?_)
    refine JL_q (q_move) (k := ?_)
    refine JL_skips 3 rfl ?_
    refine JL_q (q_pickF) (k := ?_)
    refine JL_q (q_assign) (k := ?_)
    refine JL_nil ?_
    refine JX_seq ?_
    refine J_ret ?_
    refine JX_ret Tryd.results17 (Res.tmp rfl Res.nil) (fun w1 hw1 => ?_)
    exact ⟨(by rw [((hF.neg hq1)).eq] <;> first | rfl | (simp only [List.length_set] <;> rfl)), hw1.ext_out⟩
  refine JL_qg (q_fld FO_23_0) (k := ?_)
  refine JL_qg (q_load Tryd.isAgg3) (k := ?_)
  refine JL_qg (q_fld FO_23_1) (k := ?_)
  refine JL_qg (q_load Tryd.isAgg3) (k := ?_)
  refine JL_qg (q_leq) (k := ?_)
  refine JL_q (q_pickT) (k := ?_)
  refine JL_q (q_move) (k := ?_)
  refine JL_dec 13 rfl (fun hq2 => ?_) (fun hq2 => ?_)
  rotate_left
  · refine JL_skips 3 rfl ?_
    refine JL_q (q_pickF) (k := ?_)
    refine JL_q (q_assign) (k := ?_)
    refine JL_nil ?_
    refine JX_seq ?_
    refine J_ret ?_
    refine JX_ret Tryd.results17 (Res.tmp rfl Res.nil) (fun w1 hw1 => ?_)
    exact ⟨(by rw [(((hF.pos hq1).neg hq2)).eq] <;> first | rfl | (simp only [List.length_set] <;> rfl)), hw1.ext_out⟩
  refine JL_qg (q_fld FO_23_1) (k := ?_)
  refine JL_qg (q_load Tryd.isAgg3) (k := ?_)
  refine JL_qg (q_leq) (k := ?_)
  refine JL_q (q_pickT) (k := ?_)
  refine JL_q (q_assign) (k := ?_)
  refine JL_nil ?_
  refine JX_seq ?_
  refine J_ret ?_
  refine JX_ret Tryd.results17 (Res.tmp rfl Res.nil) (fun w1 hw1 => ?_)
  exact ⟨(by rw [(((hF.pos hq1).pos hq2)).eq] <;> first | rfl | (simp only [List.length_set] <;> rfl)), hw1.ext_out⟩

theorem rPPrint_ok (w : World) {p : PortsT} : Val Tryd.prog 11 [(Value.agg [(Value.int .i64 (p.lo)), (Value.int .i64 (p.hi))].toArray)] w (Value.tuple [(Value.string (bs ((rPPrint p).1))), (Value.int .i64 (((rPPrint p).2)))].toArray) := by
  have hF := Is.refl (rPPrint p)
  refine enter Tryd.func11 Tryd.ntmps11 (h := ?_)
  refine J_seq ?_
  refine J_reg ?_
  refine JL_a noMk (a_box (l := [_, _])) (k := fun r1 hr1 => ?_)
  refine JL_q (q_assign) (k := ?_)
  refine JL_q (q_assign) (k := ?_)
  refine JL_nil ?_
  refine JX_seq ?_
  refine J_seq ?_
  refine J_seq ?_
  refine J_reg ?_
  refine JL_q (q_loadA Tryd.isAgg23 Tryd.sizeOf23) (k := ?_)
  refine JL_v (args := [(Value.agg [(Value.int .i64 (p.lo)), (Value.int .i64 (p.hi))].toArray)]) (c_callA Tryd.call17) (fun w1 hw1 => rPRight_ok w1 (p := p)) (k := ?_)
  refine JL_q (q_not) (k := ?_)
  refine JL_nil ?_
  refine JX_seq ?_
  refine J_cond rfl (fun hq1 => ?_) (fun hq1 => ?_)
  · refine J_seq ?_
    refine J_reg ?_
    refine JL_q (q_assign) (k := ?_)
    refine JL_q (q_assign) (k := ?_)
    refine JL_nil ?_
    refine JX_seq ?_
    refine J_ret ?_
    refine JX_seq_ret ?_
    refine JX_ret Tryd.results11 (Res.tmp rfl (Res.tmp rfl Res.nil)) (fun w1 hw1 => ?_)
    exact ⟨(by rw [((hF.t hq1)).eq] <;> first | rfl | (simp only [List.length_set] <;> rfl)), hw1.ext_out⟩
  have hfhq1 := rPRight_t (by simpa using hq1)
  refine J_skip ?_
  refine JX_seq ?_
  refine J_seq ?_
  refine J_block ?_
  refine J_seq ?_
  refine J_reg ?_
  refine JL_q (q_fld FO_23_0) (k := ?_)
  refine JL_q (q_load Tryd.isAgg3) (k := ?_)
  refine JL_q (q_eql) (k := ?_)
  refine JL_q (q_move) (k := ?_)
  refine JL_dec 11 rfl (fun hq2 => ?_) (fun hq2 => ?_)
  rotate_left
  · refine JL_skips 3 rfl ?_
    refine JL_q (q_pickF) (k := ?_)
    refine JL_q (q_assign) (k := ?_)
    refine JL_nil ?_
    refine JX_seq ?_
    refine J_false rfl ?_
    refine J_seq ?_
    refine J_reg ?_
    refine JL_q (q_fld FO_23_0) (k := ?_)
    refine JL_q (q_load Tryd.isAgg3) (k := ?_)
    refine JL_q (q_fld FO_23_1) (k := ?_)
    refine JL_q (q_load Tryd.isAgg3) (k := ?_)
    refine JL_q (q_eql) (k := ?_)
    refine JL_q (q_assign) (k := ?_)
    refine JL_nil ?_
    refine JX_seq ?_
    refine J_dec rfl (fun hq5 => ?_) (fun hq5 => ?_)
    · refine J_seq ?_
      refine J_reg ?_
      refine JL_q (q_fld FO_23_0) (k := ?_)
      refine JL_q (q_load Tryd.isAgg3) (k := ?_)
      refine JL_v (args := [(Value.int .i64 (p.lo))]) (c_callA Tryd.call27) (fun w1 hw1 => rNum_ok w1 (n_ := p.lo) (hn := by first | omega | (simp only [List.length_append, List.length_take, List.length_drop, List.length_set, List.length_replicate, List.length_cons, List.length_nil, List.length_map]; omega) | (simp only [List.length_append, List.length_take, List.length_drop, List.length_set, List.length_replicate, List.length_cons, List.length_nil, List.length_map] at *; omega) | decide)) (k := ?_)
      have hil_90824 := itoa_len (n := p.lo) (by omega)
      refine JL_q (q_assign) (k := ?_)
      refine JL_q (q_assign) (k := ?_)
      refine JL_nil ?_
      refine JX_seq ?_
      refine J_ret ?_
      refine JX_block_ret ?_
      refine JX_seq_ret ?_
      refine JX_ret Tryd.results11 (Res.tmp rfl (Res.tmp rfl Res.nil)) (fun w1 hw1 => ?_)
      exact ⟨(by rw [((((hF.f hq1).neg hq2).pos hq5)).eq] <;> first | rfl | (simp only [List.length_set] <;> rfl)), hw1.ext_out⟩
    refine J_skip ?_
    refine JX_block ?_
    refine JX_seq ?_
    refine J_seq ?_
    refine J_plan mixed 10 [(true, 0), (true, 1), (true, 4), (true, 5), (false, 2), (true, 3), (false, 6), (true, 7), (true, 8), (true, 9)] (by kernel_rfl) ?_
    refine JD_q (q_fld FO_23_0) (k := ?_)
    refine JD_q (q_load Tryd.isAgg3) (k := ?_)
    refine JD_q (q_fld FO_23_1) (k := ?_)
    refine JD_q (q_load Tryd.isAgg3) (k := ?_)
    refine JD_v (args := [(Value.int .i64 (p.lo))]) (c_callA Tryd.call27) (fun w1 hw1 => rNum_ok w1 (n_ := p.lo) (hn := by first | omega | (simp only [List.length_append, List.length_take, List.length_drop, List.length_set, List.length_replicate, List.length_cons, List.length_nil, List.length_map]; omega) | (simp only [List.length_append, List.length_take, List.length_drop, List.length_set, List.length_replicate, List.length_cons, List.length_nil, List.length_map] at *; omega) | decide)) (k := ?_)
    have hil_90824 := itoa_len (n := p.lo) (by omega)
    refine JD_q (q_addT (s := (Lib.itoa p.lo)) (s' := ([45] : Str)) (h := by first | omega | (simp only [List.length_append, List.length_take, List.length_drop, List.length_set, List.length_replicate, List.length_cons, List.length_nil, List.length_map]; omega) | (simp only [List.length_append, List.length_take, List.length_drop, List.length_set, List.length_replicate, List.length_cons, List.length_nil, List.length_map] at *; omega))) (k := ?_)
    refine JD_v (args := [(Value.int .i64 (p.hi))]) (c_callA Tryd.call27) (fun w1 hw1 => rNum_ok w1 (n_ := p.hi) (hn := by first | omega | (simp only [List.length_append, List.length_take, List.length_drop, List.length_set, List.length_replicate, List.length_cons, List.length_nil, List.length_map]; omega) | (simp only [List.length_append, List.length_take, List.length_drop, List.length_set, List.length_replicate, List.length_cons, List.length_nil, List.length_map] at *; omega) | decide)) (k := ?_)
    have hil_96057 := itoa_len (n := p.hi) (by omega)
    refine JD_q (q_addT (s := ((Lib.itoa p.lo) ++ ([45] : Str))) (s' := (Lib.itoa p.hi)) (h := by first | omega | (simp only [List.length_append, List.length_take, List.length_drop, List.length_set, List.length_replicate, List.length_cons, List.length_nil, List.length_map]; omega) | (simp only [List.length_append, List.length_take, List.length_drop, List.length_set, List.length_replicate, List.length_cons, List.length_nil, List.length_map] at *; omega))) (k := ?_)
    refine JD_q (q_assign) (k := ?_)
    refine JD_q (q_assign) (k := ?_)
    refine JD_nil ?_
    refine JL_nil ?_
    refine JX_seq ?_
    refine J_ret ?_
    refine JX_ret Tryd.results11 (Res.tmp rfl (Res.tmp rfl Res.nil)) (fun w1 hw1 => ?_)
    exact ⟨(by rw [((((hF.f hq1).neg hq2).neg hq5)).eq] <;> first | rfl | (simp only [List.length_set] <;> rfl)), hw1.ext_out⟩
  refine JL_qg (q_fld FO_23_1) (k := ?_)
  refine JL_qg (q_load Tryd.isAgg3) (k := ?_)
  refine JL_qg (q_eql) (k := ?_)
  refine JL_q (q_pickT) (k := ?_)
  refine JL_q (q_assign) (k := ?_)
  refine JL_nil ?_
  refine JX_seq ?_
  refine J_dec rfl (fun hq3 => ?_) (fun hq3 => ?_)
  · refine J_seq ?_
    refine J_reg ?_
    refine JL_q (q_assign) (k := ?_)
    refine JL_q (q_assign) (k := ?_)
    refine JL_nil ?_
    refine JX_seq ?_
    refine J_ret ?_
    refine JX_block_ret ?_
    refine JX_seq_ret ?_
    refine JX_ret Tryd.results11 (Res.tmp rfl (Res.tmp rfl Res.nil)) (fun w1 hw1 => ?_)
    exact ⟨(by rw [((((hF.f hq1).pos hq2).pos hq3)).eq] <;> first | rfl | (simp only [List.length_set] <;> rfl)), hw1.ext_out⟩
  refine J_seq ?_
  refine J_reg ?_
  refine JL_q (q_fld FO_23_0) (k := ?_)
  refine JL_q (q_load Tryd.isAgg3) (k := ?_)
  refine JL_q (q_fld FO_23_1) (k := ?_)
  refine JL_q (q_load Tryd.isAgg3) (k := ?_)
  refine JL_q (q_eql) (k := ?_)
  refine JL_q (q_assign) (k := ?_)
  refine JL_nil ?_
  refine JX_seq ?_
  refine J_dec rfl (fun hq4 => ?_) (fun hq4 => ?_)
  · refine J_seq ?_
    refine J_reg ?_
    refine JL_q (q_fld FO_23_0) (k := ?_)
    refine JL_q (q_load Tryd.isAgg3) (k := ?_)
    refine JL_v (args := [(Value.int .i64 (p.lo))]) (c_callA Tryd.call27) (fun w1 hw1 => rNum_ok w1 (n_ := p.lo) (hn := by first | omega | (simp only [List.length_append, List.length_take, List.length_drop, List.length_set, List.length_replicate, List.length_cons, List.length_nil, List.length_map]; omega) | (simp only [List.length_append, List.length_take, List.length_drop, List.length_set, List.length_replicate, List.length_cons, List.length_nil, List.length_map] at *; omega) | decide)) (k := ?_)
    have hil_90824 := itoa_len (n := p.lo) (by omega)
    refine JL_q (q_assign) (k := ?_)
    refine JL_q (q_assign) (k := ?_)
    refine JL_nil ?_
    refine JX_seq ?_
    refine J_ret ?_
    refine JX_block_ret ?_
    refine JX_seq_ret ?_
    refine JX_ret Tryd.results11 (Res.tmp rfl (Res.tmp rfl Res.nil)) (fun w1 hw1 => ?_)
    exact ⟨(by rw [(((((hF.f hq1).pos hq2).neg hq3).pos hq4)).eq] <;> first | rfl | (simp only [List.length_set] <;> rfl)), hw1.ext_out⟩
  refine J_skip ?_
  refine JX_block ?_
  refine JX_seq ?_
  refine J_seq ?_
  refine J_plan mixed 10 [(true, 0), (true, 1), (true, 4), (true, 5), (false, 2), (true, 3), (false, 6), (true, 7), (true, 8), (true, 9)] (by kernel_rfl) ?_
  refine JD_q (q_fld FO_23_0) (k := ?_)
  refine JD_q (q_load Tryd.isAgg3) (k := ?_)
  refine JD_q (q_fld FO_23_1) (k := ?_)
  refine JD_q (q_load Tryd.isAgg3) (k := ?_)
  refine JD_v (args := [(Value.int .i64 (p.lo))]) (c_callA Tryd.call27) (fun w1 hw1 => rNum_ok w1 (n_ := p.lo) (hn := by first | omega | (simp only [List.length_append, List.length_take, List.length_drop, List.length_set, List.length_replicate, List.length_cons, List.length_nil, List.length_map]; omega) | (simp only [List.length_append, List.length_take, List.length_drop, List.length_set, List.length_replicate, List.length_cons, List.length_nil, List.length_map] at *; omega) | decide)) (k := ?_)
  have hil_90824 := itoa_len (n := p.lo) (by omega)
  refine JD_q (q_addT (s := (Lib.itoa p.lo)) (s' := ([45] : Str)) (h := by first | omega | (simp only [List.length_append, List.length_take, List.length_drop, List.length_set, List.length_replicate, List.length_cons, List.length_nil, List.length_map]; omega) | (simp only [List.length_append, List.length_take, List.length_drop, List.length_set, List.length_replicate, List.length_cons, List.length_nil, List.length_map] at *; omega))) (k := ?_)
  refine JD_v (args := [(Value.int .i64 (p.hi))]) (c_callA Tryd.call27) (fun w1 hw1 => rNum_ok w1 (n_ := p.hi) (hn := by first | omega | (simp only [List.length_append, List.length_take, List.length_drop, List.length_set, List.length_replicate, List.length_cons, List.length_nil, List.length_map]; omega) | (simp only [List.length_append, List.length_take, List.length_drop, List.length_set, List.length_replicate, List.length_cons, List.length_nil, List.length_map] at *; omega) | decide)) (k := ?_)
  have hil_96057 := itoa_len (n := p.hi) (by omega)
  refine JD_q (q_addT (s := ((Lib.itoa p.lo) ++ ([45] : Str))) (s' := (Lib.itoa p.hi)) (h := by first | omega | (simp only [List.length_append, List.length_take, List.length_drop, List.length_set, List.length_replicate, List.length_cons, List.length_nil, List.length_map]; omega) | (simp only [List.length_append, List.length_take, List.length_drop, List.length_set, List.length_replicate, List.length_cons, List.length_nil, List.length_map] at *; omega))) (k := ?_)
  refine JD_q (q_assign) (k := ?_)
  refine JD_q (q_assign) (k := ?_)
  refine JD_nil ?_
  refine JL_nil ?_
  refine JX_seq ?_
  refine J_ret ?_
  refine JX_ret Tryd.results11 (Res.tmp rfl (Res.tmp rfl Res.nil)) (fun w1 hw1 => ?_)
  exact ⟨(by rw [(((((hF.f hq1).pos hq2).neg hq3).neg hq4)).eq] <;> first | rfl | (simp only [List.length_set] <;> rfl)), hw1.ext_out⟩

theorem rPParse_ok (w : World) {s : Str} (n_s : s.length ≤ 1000000) : Val Tryd.prog 13 [(Value.string (bs s))] w (Value.tuple [(Value.agg [(Value.int .i64 (((rPParse s).1.lo))), (Value.int .i64 (((rPParse s).1.hi)))].toArray), (Value.int .i64 (((rPParse s).2)))].toArray) := by
  have hF := Is.refl (rPParse s)
  refine enter Tryd.func13 Tryd.ntmps13 (h := ?_)
  refine J_seq ?_
  refine J_reg ?_
  refine JL_a noMk (a_alloc (l := [_, _]) Tryd.zeroValue23) (k := fun r1 hr1 => ?_)
  refine JL_q (q_assign) (k := ?_)
  refine JL_nil ?_
  refine JX_seq ?_
  refine J_seq ?_
  refine J_reg ?_
  refine JL_q (q_build (cs := [_, _]) Tryd.zeroValue23 PL_23) (k := ?_)
  refine JL_a noMk (a_alloc (l := [_, _]) Tryd.zeroValue23) (k := fun r2 hr2 => ?_)
  refine JL_s (w_store (l' := [_, _]) Tryd.sizeOf23) (k := ?_)
  refine JL_nil ?_
  refine JX_seq ?_
  refine J_seq ?_
  refine J_seq ?_
  refine J_reg ?_
  refine JL_q (q_move) (k := ?_)
  refine JL_q (q_neT) (k := ?_)
  refine JL_nil ?_
  refine JX_seq ?_
  refine J_dec rfl (fun hq1 => ?_) (fun hq1 => ?_)
  rotate_left
  · refine J_skip ?_
    refine JX_seq ?_
    refine J_seq ?_
    refine J_reg ?_
    refine JL_q (q_loadA Tryd.isAgg23 Tryd.sizeOf23) (k := ?_)
    refine JL_v (args := [(Value.agg [(Value.int .i64 (0)), (Value.int .i64 (65535))].toArray)]) (c_callA Tryd.call11) (fun w1 hw1 => rPPrint_ok w1 (p := (PortsT.mk 0 65535))) (k := ?_)
    refine JL_q (q_move) (k := ?_)
    refine JL_q (q_ext) (k := ?_)
    refine JL_q (q_ext) (k := ?_)
    refine JL_q (q_assign) (k := ?_)
    refine JL_q (q_assign) (k := ?_)
    refine JL_nil ?_
    refine JX_seq ?_
    refine J_seq ?_
    refine J_seq ?_
    refine J_reg ?_
    refine JL_q (q_move) (k := ?_)
    refine JL_q (q_neq) (k := ?_)
    refine JL_q (q_move) (k := ?_)
    refine JL_dec 42 rfl (fun hq7 => ?_) (fun hq7 => ?_)
    · refine JL_skips 3 rfl ?_
      refine JL_q (q_pickT) (k := ?_)
      refine JL_nil ?_
      refine JX_seq ?_
      refine J_true rfl ?_
      refine J_seq ?_
      refine J_reg ?_
      refine JL_q (q_build (cs := [_, _]) Tryd.zeroValue23 PL_23) (k := ?_)
      refine JL_s (w_store (l' := [_, _]) Tryd.sizeOf23) (k := ?_)
      refine JL_q (q_assign) (k := ?_)
      refine JL_nil ?_
      refine JX_seq ?_
      refine J_ret ?_
      refine JX_seq_ret ?_
      refine JX_ret Tryd.results13 (Res.agg Tryd.isAgg23 Tryd.sizeOf23 rfl (by repeat (first | exact List.mem_cons_self | apply List.mem_cons_of_mem | apply List.mem_append_right)) rfl (Res.tmp rfl Res.nil)) (fun w1 hw1 => ?_)
      exact ⟨(by rw [(((hF.neg hq1).pos hq7)).eq] <;> first | rfl | (simp only [List.length_set] <;> rfl)), hw1.ext_out⟩
    refine JL_qg (q_move) (k := ?_)
    refine JL_qg (q_move) (k := ?_)
    refine JL_qg (q_neT) (k := ?_)
    refine JL_q (q_pickF) (k := ?_)
    refine JL_nil ?_
    refine JX_seq ?_
    refine J_dec rfl (fun hq8 => ?_) (fun hq8 => ?_)
    · refine J_seq ?_
      refine J_reg ?_
      refine JL_q (q_build (cs := [_, _]) Tryd.zeroValue23 PL_23) (k := ?_)
      refine JL_s (w_store (l' := [_, _]) Tryd.sizeOf23) (k := ?_)
      refine JL_q (q_assign) (k := ?_)
      refine JL_nil ?_
      refine JX_seq ?_
      refine J_ret ?_
      refine JX_seq_ret ?_
      refine JX_ret Tryd.results13 (Res.agg Tryd.isAgg23 Tryd.sizeOf23 rfl (by repeat (first | exact List.mem_cons_self | apply List.mem_cons_of_mem | apply List.mem_append_right)) rfl (Res.tmp rfl Res.nil)) (fun w1 hw1 => ?_)
      exact ⟨(by rw [((((hF.neg hq1).neg hq7).pos hq8)).eq] <;> first | rfl | (simp only [List.length_set] <;> rfl)), hw1.ext_out⟩
    refine J_skip ?_
    refine JX_seq ?_
    refine J_seq ?_
    refine J_reg ?_
    refine JL_q (q_loadA Tryd.isAgg23 Tryd.sizeOf23) (k := ?_)
    refine JL_s (w_store (l' := [_, _]) Tryd.sizeOf23) (k := ?_)
    refine JL_q (q_assign) (k := ?_)
    refine JL_nil ?_
    refine JX_seq ?_
    refine J_ret ?_
    refine JX_ret Tryd.results13 (Res.agg Tryd.isAgg23 Tryd.sizeOf23 rfl (by repeat (first | exact List.mem_cons_self | apply List.mem_cons_of_mem | apply List.mem_append_right)) rfl (Res.tmp rfl Res.nil)) (fun w1 hw1 => ?_)
    exact ⟨(by rw [((((hF.neg hq1).neg hq7).neg hq8)).eq] <;> first | rfl | (simp only [List.length_set] <;> rfl)), hw1.ext_out⟩
  refine J_seq ?_
  refine J_reg ?_
  refine JL_q (q_move) (k := ?_)
  refine JL_v (args := [(Value.string (bs s)), (Value.int .u8 (45))]) (c_callA Tryd.call29) (fun w1 hw1 => rCut_ok w1 (s := s) (c := 45) (n_s := by first | omega | (simp only [List.length_append, List.length_take, List.length_drop, List.length_set, List.length_replicate, List.length_cons, List.length_nil, List.length_map]; omega) | (simp only [List.length_append, List.length_take, List.length_drop, List.length_set, List.length_replicate, List.length_cons, List.length_nil, List.length_map] at *; omega) | decide)) (k := ?_)
  have hct_31028 := rCut_len s 45
  refine JL_q (q_move) (k := ?_)
  refine JL_q (q_ext) (k := ?_)
  refine JL_q (q_ext) (k := ?_)
  refine JL_q (q_ext) (k := ?_)
  refine JL_q (q_assign) (k := ?_)
  refine JL_q (q_assign) (k := ?_)
  refine JL_q (q_assign) (k := ?_)
  refine JL_nil ?_
  refine JX_seq ?_
  refine J_seq ?_
  refine J_reg ?_
  refine JL_q (q_move) (k := ?_)
  refine JL_v (args := [(Value.string (bs ((rCut s 45).1))), (Value.int .i64 (65535))]) (c_callA Tryd.call30) (fun w1 hw1 => rNumber_ok w1 (s := ((rCut s 45).1)) (most := 65535) (n_s := by first | omega | (simp only [List.length_append, List.length_take, List.length_drop, List.length_set, List.length_replicate, List.length_cons, List.length_nil, List.length_map]; omega) | (simp only [List.length_append, List.length_take, List.length_drop, List.length_set, List.length_replicate, List.length_cons, List.length_nil, List.length_map] at *; omega) | decide) (hm := by first | omega | (simp only [List.length_append, List.length_take, List.length_drop, List.length_set, List.length_replicate, List.length_cons, List.length_nil, List.length_map]; omega) | (simp only [List.length_append, List.length_take, List.length_drop, List.length_set, List.length_replicate, List.length_cons, List.length_nil, List.length_map] at *; omega) | decide)) (k := ?_)
  refine JL_q (q_move) (k := ?_)
  refine JL_q (q_ext) (k := ?_)
  refine JL_q (q_ext) (k := ?_)
  refine JL_q (q_fld FO_23_0) (k := ?_)
  refine JL_s (w_store (l' := [_, _]) Tryd.sizeOf3) (k := ?_)
  refine JL_nil ?_
  refine JX_seq ?_
  refine J_seq ?_
  refine J_reg ?_
  refine JL_q (q_fld FO_23_0) (k := ?_)
  refine JL_q (q_load Tryd.isAgg3) (k := ?_)
  refine JL_q (q_fld FO_23_1) (k := ?_)
  refine JL_s (w_store (l' := [_, _]) Tryd.sizeOf3) (k := ?_)
  refine JL_nil ?_
  refine JX_seq ?_
  refine J_seq ?_
  refine J_reg ?_
  refine JL_q (q_move) (k := ?_)
  refine JL_nil ?_
  refine JX_seq ?_
  refine J_cond rfl (fun hq2 => ?_) (fun hq2 => ?_)
  rotate_left
  · refine J_skip ?_
    refine JX_seq ?_
    refine J_seq ?_
    refine J_reg ?_
    refine JL_q (q_loadA Tryd.isAgg23 Tryd.sizeOf23) (k := ?_)
    refine JL_v (args := [(Value.agg [(Value.int .i64 (((rNumber ((rCut s 45).1) 65535).1))), (Value.int .i64 (((rNumber ((rCut s 45).1) 65535).1)))].toArray)]) (c_callA Tryd.call11) (fun w1 hw1 => rPPrint_ok w1 (p := (PortsT.mk ((rNumber ((rCut s 45).1) 65535).1) ((rNumber ((rCut s 45).1) 65535).1)))) (k := ?_)
    refine JL_q (q_move) (k := ?_)
    refine JL_q (q_ext) (k := ?_)
    refine JL_q (q_ext) (k := ?_)
    refine JL_q (q_assign) (k := ?_)
    refine JL_q (q_assign) (k := ?_)
    refine JL_nil ?_
    refine JX_seq ?_
    refine J_seq ?_
    refine J_seq ?_
    refine J_reg ?_
    refine JL_q (q_move) (k := ?_)
    refine JL_q (q_neq) (k := ?_)
    refine JL_q (q_move) (k := ?_)
    refine JL_dec 42 rfl (fun hq5 => ?_) (fun hq5 => ?_)
    · refine JL_skips 3 rfl ?_
      refine JL_q (q_pickT) (k := ?_)
      refine JL_nil ?_
      refine JX_seq ?_
      refine J_true rfl ?_
      refine J_seq ?_
      refine J_reg ?_
      refine JL_q (q_build (cs := [_, _]) Tryd.zeroValue23 PL_23) (k := ?_)
      refine JL_s (w_store (l' := [_, _]) Tryd.sizeOf23) (k := ?_)
      refine JL_q (q_assign) (k := ?_)
      refine JL_nil ?_
      refine JX_seq ?_
      refine J_ret ?_
      refine JX_seq_ret ?_
      refine JX_ret Tryd.results13 (Res.agg Tryd.isAgg23 Tryd.sizeOf23 rfl (by repeat (first | exact List.mem_cons_self | apply List.mem_cons_of_mem | apply List.mem_append_right)) rfl (Res.tmp rfl Res.nil)) (fun w1 hw1 => ?_)
      exact ⟨(by rw [((((hF.pos hq1).f hq2).pos hq5)).eq] <;> first | rfl | (simp only [List.length_set] <;> rfl)), hw1.ext_out⟩
    refine JL_qg (q_move) (k := ?_)
    refine JL_qg (q_move) (k := ?_)
    refine JL_qg (q_neT) (k := ?_)
    refine JL_q (q_pickF) (k := ?_)
    refine JL_nil ?_
    refine JX_seq ?_
    refine J_dec rfl (fun hq6 => ?_) (fun hq6 => ?_)
    · refine J_seq ?_
      refine J_reg ?_
      refine JL_q (q_build (cs := [_, _]) Tryd.zeroValue23 PL_23) (k := ?_)
      refine JL_s (w_store (l' := [_, _]) Tryd.sizeOf23) (k := ?_)
      refine JL_q (q_assign) (k := ?_)
      refine JL_nil ?_
      refine JX_seq ?_
      refine J_ret ?_
      refine JX_seq_ret ?_
      refine JX_ret Tryd.results13 (Res.agg Tryd.isAgg23 Tryd.sizeOf23 rfl (by repeat (first | exact List.mem_cons_self | apply List.mem_cons_of_mem | apply List.mem_append_right)) rfl (Res.tmp rfl Res.nil)) (fun w1 hw1 => ?_)
      exact ⟨(by rw [(((((hF.pos hq1).f hq2).neg hq5).pos hq6)).eq] <;> first | rfl | (simp only [List.length_set] <;> rfl)), hw1.ext_out⟩
    refine J_skip ?_
    refine JX_seq ?_
    refine J_seq ?_
    refine J_reg ?_
    refine JL_q (q_loadA Tryd.isAgg23 Tryd.sizeOf23) (k := ?_)
    refine JL_s (w_store (l' := [_, _]) Tryd.sizeOf23) (k := ?_)
    refine JL_q (q_assign) (k := ?_)
    refine JL_nil ?_
    refine JX_seq ?_
    refine J_ret ?_
    refine JX_ret Tryd.results13 (Res.agg Tryd.isAgg23 Tryd.sizeOf23 rfl (by repeat (first | exact List.mem_cons_self | apply List.mem_cons_of_mem | apply List.mem_append_right)) rfl (Res.tmp rfl Res.nil)) (fun w1 hw1 => ?_)
    exact ⟨(by rw [(((((hF.pos hq1).f hq2).neg hq5).neg hq6)).eq] <;> first | rfl | (simp only [List.length_set] <;> rfl)), hw1.ext_out⟩
  refine J_reg ?_
  refine JL_q (q_move) (k := ?_)
  refine JL_v (args := [(Value.string (bs ((rCut s 45).2.1))), (Value.int .i64 (65535))]) (c_callA Tryd.call30) (fun w1 hw1 => rNumber_ok w1 (s := ((rCut s 45).2.1)) (most := 65535) (n_s := by first | omega | (simp only [List.length_append, List.length_take, List.length_drop, List.length_set, List.length_replicate, List.length_cons, List.length_nil, List.length_map]; omega) | (simp only [List.length_append, List.length_take, List.length_drop, List.length_set, List.length_replicate, List.length_cons, List.length_nil, List.length_map] at *; omega) | decide) (hm := by first | omega | (simp only [List.length_append, List.length_take, List.length_drop, List.length_set, List.length_replicate, List.length_cons, List.length_nil, List.length_map]; omega) | (simp only [List.length_append, List.length_take, List.length_drop, List.length_set, List.length_replicate, List.length_cons, List.length_nil, List.length_map] at *; omega) | decide)) (k := ?_)
  refine JL_q (q_move) (k := ?_)
  refine JL_q (q_ext) (k := ?_)
  refine JL_q (q_ext) (k := ?_)
  refine JL_q (q_fld FO_23_1) (k := ?_)
  refine JL_s (w_store (l' := [_, _]) Tryd.sizeOf3) (k := ?_)
  refine JL_nil ?_
  refine JX_seq ?_
  refine J_seq ?_
  refine J_reg ?_
  refine JL_q (q_loadA Tryd.isAgg23 Tryd.sizeOf23) (k := ?_)
  refine JL_v (args := [(Value.agg [(Value.int .i64 (((rNumber ((rCut s 45).1) 65535).1))), (Value.int .i64 (((rNumber ((rCut s 45).2.1) 65535).1)))].toArray)]) (c_callA Tryd.call11) (fun w1 hw1 => rPPrint_ok w1 (p := (PortsT.mk ((rNumber ((rCut s 45).1) 65535).1) ((rNumber ((rCut s 45).2.1) 65535).1)))) (k := ?_)
  refine JL_q (q_move) (k := ?_)
  refine JL_q (q_ext) (k := ?_)
  refine JL_q (q_ext) (k := ?_)
  refine JL_q (q_assign) (k := ?_)
  refine JL_q (q_assign) (k := ?_)
  refine JL_nil ?_
  refine JX_seq ?_
  refine J_seq ?_
  refine J_seq ?_
  refine J_reg ?_
  refine JL_q (q_move) (k := ?_)
  refine JL_q (q_neq) (k := ?_)
  refine JL_q (q_move) (k := ?_)
  refine JL_dec 42 rfl (fun hq3 => ?_) (fun hq3 => ?_)
  · refine JL_skips 3 rfl ?_
    refine JL_q (q_pickT) (k := ?_)
    refine JL_nil ?_
    refine JX_seq ?_
    refine J_true rfl ?_
    refine J_seq ?_
    refine J_reg ?_
    refine JL_q (q_build (cs := [_, _]) Tryd.zeroValue23 PL_23) (k := ?_)
    refine JL_s (w_store (l' := [_, _]) Tryd.sizeOf23) (k := ?_)
    refine JL_q (q_assign) (k := ?_)
    refine JL_nil ?_
    refine JX_seq ?_
    refine J_ret ?_
    refine JX_seq_ret ?_
    refine JX_ret Tryd.results13 (Res.agg Tryd.isAgg23 Tryd.sizeOf23 rfl (by repeat (first | exact List.mem_cons_self | apply List.mem_cons_of_mem | apply List.mem_append_right)) rfl (Res.tmp rfl Res.nil)) (fun w1 hw1 => ?_)
    exact ⟨(by rw [((((hF.pos hq1).t hq2).pos hq3)).eq] <;> first | rfl | (simp only [List.length_set] <;> rfl)), hw1.ext_out⟩
  refine JL_qg (q_move) (k := ?_)
  refine JL_qg (q_move) (k := ?_)
  refine JL_qg (q_neT) (k := ?_)
  refine JL_q (q_pickF) (k := ?_)
  refine JL_nil ?_
  refine JX_seq ?_
  refine J_dec rfl (fun hq4 => ?_) (fun hq4 => ?_)
  · refine J_seq ?_
    refine J_reg ?_
    refine JL_q (q_build (cs := [_, _]) Tryd.zeroValue23 PL_23) (k := ?_)
    refine JL_s (w_store (l' := [_, _]) Tryd.sizeOf23) (k := ?_)
    refine JL_q (q_assign) (k := ?_)
    refine JL_nil ?_
    refine JX_seq ?_
    refine J_ret ?_
    refine JX_seq_ret ?_
    refine JX_ret Tryd.results13 (Res.agg Tryd.isAgg23 Tryd.sizeOf23 rfl (by repeat (first | exact List.mem_cons_self | apply List.mem_cons_of_mem | apply List.mem_append_right)) rfl (Res.tmp rfl Res.nil)) (fun w1 hw1 => ?_)
    exact ⟨(by rw [(((((hF.pos hq1).t hq2).neg hq3).pos hq4)).eq] <;> first | rfl | (simp only [List.length_set] <;> rfl)), hw1.ext_out⟩
  refine J_skip ?_
  refine JX_seq ?_
  refine J_seq ?_
  refine J_reg ?_
  refine JL_q (q_loadA Tryd.isAgg23 Tryd.sizeOf23) (k := ?_)
  refine JL_s (w_store (l' := [_, _]) Tryd.sizeOf23) (k := ?_)
  refine JL_q (q_assign) (k := ?_)
  refine JL_nil ?_
  refine JX_seq ?_
  refine J_ret ?_
  refine JX_ret Tryd.results13 (Res.agg Tryd.isAgg23 Tryd.sizeOf23 rfl (by repeat (first | exact List.mem_cons_self | apply List.mem_cons_of_mem | apply List.mem_append_right)) rfl (Res.tmp rfl Res.nil)) (fun w1 hw1 => ?_)
  exact ⟨(by rw [(((((hF.pos hq1).t hq2).neg hq3).neg hq4)).eq] <;> first | rfl | (simp only [List.length_set] <;> rfl)), hw1.ext_out⟩

theorem rPHas_ok (w : World) {p : PortsT} {n_ : Int} : Val Tryd.prog 19 [(Value.agg [(Value.int .i64 (p.lo)), (Value.int .i64 (p.hi))].toArray), (Value.int .i64 (n_))] w (Value.bool ((rPHas p n_))) := by
  have hF := Is.refl (rPHas p n_)
  refine enter Tryd.func19 Tryd.ntmps19 (h := ?_)
  refine J_seq ?_
  refine J_reg ?_
  refine JL_a noMk (a_box (l := [_, _])) (k := fun r1 hr1 => ?_)
  refine JL_q (q_assign) (k := ?_)
  refine JL_nil ?_
  refine JX_seq ?_
  refine J_seq ?_
  refine J_reg ?_
  refine JL_q (q_loadA Tryd.isAgg23 Tryd.sizeOf23) (k := ?_)
  refine JL_v (args := [(Value.agg [(Value.int .i64 (p.lo)), (Value.int .i64 (p.hi))].toArray)]) (c_callA Tryd.call17) (fun w1 hw1 => rPRight_ok w1 (p := p)) (k := ?_)
  refine JL_q (q_move) (k := ?_)
  refine JL_bool 7 rfl (fun hq1 => ?_) (fun hq1 => ?_)
  rotate_left
  · refine JL_skips 4 rfl ?_
    refine JL_q (q_pickF) (k := ?_)
    refine JL_q (q_move) (k := ?_)
    refine JL_skips 4 rfl ?_
    refine JL_q (q_pickF) (k := ?_)
    refine JL_q (q_assign) (k := ?_)
    refine JL_nil ?_
    refine JX_seq ?_
    refine J_ret ?_
    refine JX_ret Tryd.results19 (Res.tmp rfl Res.nil) (fun w1 hw1 => ?_)
    exact ⟨(by rw [((hF.f hq1)).eq] <;> first | rfl | (simp only [List.length_set] <;> rfl)), hw1.ext_out⟩
  have hfhq1 := rPRight_t hq1
  refine JL_qg (q_move) (k := ?_)
  refine JL_qg (q_fld FO_23_0) (k := ?_)
  refine JL_qg (q_load Tryd.isAgg3) (k := ?_)
  refine JL_qg (q_geq) (k := ?_)
  refine JL_q (q_pickT) (k := ?_)
  refine JL_q (q_move) (k := ?_)
  refine JL_dec 13 rfl (fun hq2 => ?_) (fun hq2 => ?_)
  rotate_left
  · refine JL_skips 4 rfl ?_
    refine JL_q (q_pickF) (k := ?_)
    refine JL_q (q_assign) (k := ?_)
    refine JL_nil ?_
    refine JX_seq ?_
    refine J_ret ?_
    refine JX_ret Tryd.results19 (Res.tmp rfl Res.nil) (fun w1 hw1 => ?_)
    exact ⟨(by rw [(((hF.t hq1).neg hq2)).eq] <;> first | rfl | (simp only [List.length_set] <;> rfl)), hw1.ext_out⟩
  refine JL_qg (q_move) (k := ?_)
  refine JL_qg (q_fld FO_23_1) (k := ?_)
  refine JL_qg (q_load Tryd.isAgg3) (k := ?_)
  refine JL_qg (q_leq) (k := ?_)
  refine JL_q (q_pickT) (k := ?_)
  refine JL_q (q_assign) (k := ?_)
  refine JL_nil ?_
  refine JX_seq ?_
  refine J_ret ?_
  refine JX_ret Tryd.results19 (Res.tmp rfl Res.nil) (fun w1 hw1 => ?_)
  exact ⟨(by rw [(((hF.t hq1).pos hq2)).eq] <;> first | rfl | (simp only [List.length_set] <;> rfl)), hw1.ext_out⟩

theorem rPMeet_ok (w : World) {p : PortsT} {q : PortsT} : Val Tryd.prog 15 [(Value.agg [(Value.int .i64 (p.lo)), (Value.int .i64 (p.hi))].toArray), (Value.agg [(Value.int .i64 (q.lo)), (Value.int .i64 (q.hi))].toArray)] w (Value.tuple [(Value.agg [(Value.int .i64 (((rPMeet p q).1.lo))), (Value.int .i64 (((rPMeet p q).1.hi)))].toArray), (Value.bool (((rPMeet p q).2)))].toArray) := by
  have hF := Is.refl (rPMeet p q)
  refine enter Tryd.func15 Tryd.ntmps15 (h := ?_)
  refine J_seq ?_
  refine J_reg ?_
  refine JL_a noMk (a_box (l := [_, _])) (k := fun r1 hr1 => ?_)
  refine JL_a noMk (a_box (l := [_, _])) (k := fun r2 hr2 => ?_)
  refine JL_a noMk (a_alloc (l := [_, _]) Tryd.zeroValue23) (k := fun r3 hr3 => ?_)
  refine JL_q (q_assign) (k := ?_)
  refine JL_nil ?_
  refine JX_seq ?_
  refine J_seq ?_
  refine J_reg ?_
  refine JL_q (q_fld FO_23_0) (k := ?_)
  refine JL_q (q_load Tryd.isAgg3) (k := ?_)
  refine JL_q (q_fld FO_23_0) (k := ?_)
  refine JL_q (q_load Tryd.isAgg3) (k := ?_)
  refine JL_q (q_max) (k := ?_)
  refine JL_q (q_fld FO_23_1) (k := ?_)
  refine JL_q (q_load Tryd.isAgg3) (k := ?_)
  refine JL_q (q_fld FO_23_1) (k := ?_)
  refine JL_q (q_load Tryd.isAgg3) (k := ?_)
  refine JL_q (q_min) (k := ?_)
  refine JL_q (q_build (cs := [_, _]) Tryd.zeroValue23 PL_23) (k := ?_)
  refine JL_a noMk (a_alloc (l := [_, _]) Tryd.zeroValue23) (k := fun r4 hr4 => ?_)
  refine JL_s (w_store (l' := [_, _]) Tryd.sizeOf23) (k := ?_)
  refine JL_nil ?_
  refine JX_seq ?_
  refine J_seq ?_
  refine J_seq ?_
  refine J_reg ?_
  refine JL_q (q_loadA Tryd.isAgg23 Tryd.sizeOf23) (k := ?_)
  refine JL_v (args := [(Value.agg [(Value.int .i64 (p.lo)), (Value.int .i64 (p.hi))].toArray)]) (c_callA Tryd.call17) (fun w1 hw1 => rPRight_ok w1 (p := p)) (k := ?_)
  refine JL_q (q_not) (k := ?_)
  refine JL_q (q_move) (k := ?_)
  refine JL_bool 21 rfl (fun hq1 => ?_) (fun hq1 => ?_)
  · refine JL_skips 3 rfl ?_
    refine JL_q (q_pickT) (k := ?_)
    refine JL_q (q_move) (k := ?_)
    refine JL_skips 5 rfl ?_
    refine JL_q (q_pickT) (k := ?_)
    refine JL_nil ?_
    refine JX_seq ?_
    refine J_true rfl ?_
    refine J_seq ?_
    refine J_reg ?_
    refine JL_q (q_build (cs := [_, _]) Tryd.zeroValue23 PL_23) (k := ?_)
    refine JL_s (w_store (l' := [_, _]) Tryd.sizeOf23) (k := ?_)
    refine JL_q (q_assign) (k := ?_)
    refine JL_nil ?_
    refine JX_seq ?_
    refine J_ret ?_
    refine JX_seq_ret ?_
    refine JX_ret Tryd.results15 (Res.agg Tryd.isAgg23 Tryd.sizeOf23 rfl (by repeat (first | exact List.mem_cons_self | apply List.mem_cons_of_mem | apply List.mem_append_right)) rfl (Res.tmp rfl Res.nil)) (fun w1 hw1 => ?_)
    exact ⟨(by rw [((hF.t hq1)).eq] <;> first | rfl | (simp only [List.length_set] <;> rfl)), hw1.ext_out⟩
  have hfhq1 := rPRight_t (by simpa using hq1)
  refine JL_qg (q_loadA Tryd.isAgg23 Tryd.sizeOf23) (k := ?_)
  refine JL_vg (args := [(Value.agg [(Value.int .i64 (q.lo)), (Value.int .i64 (q.hi))].toArray)]) (c_callA Tryd.call17) (fun w1 hw1 => rPRight_ok w1 (p := q)) (k := ?_)
  refine JL_qg (q_not) (k := ?_)
  refine JL_q (q_pickF) (k := ?_)
  refine JL_q (q_move) (k := ?_)
  refine JL_bool 26 rfl (fun hq2 => ?_) (fun hq2 => ?_)
  · refine JL_skips 5 rfl ?_
    refine JL_q (q_pickT) (k := ?_)
    refine JL_nil ?_
    refine JX_seq ?_
    refine J_true rfl ?_
    refine J_seq ?_
    refine J_reg ?_
    refine JL_q (q_build (cs := [_, _]) Tryd.zeroValue23 PL_23) (k := ?_)
    refine JL_s (w_store (l' := [_, _]) Tryd.sizeOf23) (k := ?_)
    refine JL_q (q_assign) (k := ?_)
    refine JL_nil ?_
    refine JX_seq ?_
    refine J_ret ?_
    refine JX_seq_ret ?_
    refine JX_ret Tryd.results15 (Res.agg Tryd.isAgg23 Tryd.sizeOf23 rfl (by repeat (first | exact List.mem_cons_self | apply List.mem_cons_of_mem | apply List.mem_append_right)) rfl (Res.tmp rfl Res.nil)) (fun w1 hw1 => ?_)
    exact ⟨(by rw [(((hF.f hq1).t hq2)).eq] <;> first | rfl | (simp only [List.length_set] <;> rfl)), hw1.ext_out⟩
  have hfhq2 := rPRight_t (by simpa using hq2)
  refine JL_qg (q_fld FO_23_0) (k := ?_)
  refine JL_qg (q_load Tryd.isAgg3) (k := ?_)
  refine JL_qg (q_fld FO_23_1) (k := ?_)
  refine JL_qg (q_load Tryd.isAgg3) (k := ?_)
  refine JL_qg (q_gtr) (k := ?_)
  refine JL_q (q_pickF) (k := ?_)
  refine JL_nil ?_
  refine JX_seq ?_
  refine J_dec rfl (fun hq3 => ?_) (fun hq3 => ?_)
  · refine J_seq ?_
    refine J_reg ?_
    refine JL_q (q_build (cs := [_, _]) Tryd.zeroValue23 PL_23) (k := ?_)
    refine JL_s (w_store (l' := [_, _]) Tryd.sizeOf23) (k := ?_)
    refine JL_q (q_assign) (k := ?_)
    refine JL_nil ?_
    refine JX_seq ?_
    refine J_ret ?_
    refine JX_seq_ret ?_
    refine JX_ret Tryd.results15 (Res.agg Tryd.isAgg23 Tryd.sizeOf23 rfl (by repeat (first | exact List.mem_cons_self | apply List.mem_cons_of_mem | apply List.mem_append_right)) rfl (Res.tmp rfl Res.nil)) (fun w1 hw1 => ?_)
    exact ⟨(by rw [((((hF.f hq1).f hq2).pos hq3)).eq] <;> first | rfl | (simp only [List.length_set] <;> rfl)), hw1.ext_out⟩
  refine J_skip ?_
  refine JX_seq ?_
  refine J_seq ?_
  refine J_reg ?_
  refine JL_q (q_loadA Tryd.isAgg23 Tryd.sizeOf23) (k := ?_)
  refine JL_s (w_store (l' := [_, _]) Tryd.sizeOf23) (k := ?_)
  refine JL_q (q_assign) (k := ?_)
  refine JL_nil ?_
  refine JX_seq ?_
  refine J_ret ?_
  refine JX_ret Tryd.results15 (Res.agg Tryd.isAgg23 Tryd.sizeOf23 rfl (by repeat (first | exact List.mem_cons_self | apply List.mem_cons_of_mem | apply List.mem_append_right)) rfl (Res.tmp rfl Res.nil)) (fun w1 hw1 => ?_)
  exact ⟨(by rw [((((hF.f hq1).f hq2).neg hq3)).eq] <;> first | rfl | (simp only [List.length_set] <;> rfl)), hw1.ext_out⟩

theorem rTPrint_ok (w : World) {t : Target} : Val Tryd.prog 21 [(Value.agg [(Value.int .i64 (t.addr)), (Value.int .i64 (t.port))].toArray)] w (Value.tuple [(Value.string (bs ((rTPrint t).1))), (Value.int .i64 (((rTPrint t).2)))].toArray) := by
  have hF := Is.refl (rTPrint t)
  refine enter Tryd.func21 Tryd.ntmps21 (h := ?_)
  refine J_seq ?_
  refine J_reg ?_
  refine JL_a noMk (a_box (l := [_, _])) (k := fun r1 hr1 => ?_)
  refine JL_q (q_assign) (k := ?_)
  refine JL_q (q_assign) (k := ?_)
  refine JL_nil ?_
  refine JX_seq ?_
  refine J_seq ?_
  refine J_reg ?_
  refine JL_q (q_fld FO_37_0) (k := ?_)
  refine JL_q (q_load Tryd.isAgg3) (k := ?_)
  refine JL_v (args := [(Value.int .i64 (t.addr))]) (c_callA Tryd.call36) (fun w1 hw1 => rPrint_ok w1 (a := t.addr)) (k := ?_)
  have hpl_70744 := rPrint_len t.addr
  refine JL_q (q_move) (k := ?_)
  refine JL_q (q_ext) (k := ?_)
  refine JL_q (q_ext) (k := ?_)
  refine JL_q (q_assign) (k := ?_)
  refine JL_q (q_assign) (k := ?_)
  refine JL_nil ?_
  refine JX_seq ?_
  refine J_seq ?_
  refine J_seq ?_
  refine J_reg ?_
  refine JL_q (q_move) (k := ?_)
  refine JL_q (q_neq) (k := ?_)
  refine JL_q (q_move) (k := ?_)
  refine JL_dec 14 rfl (fun hq1 => ?_) (fun hq1 => ?_)
  · refine JL_skips 3 rfl ?_
    refine JL_q (q_pickT) (k := ?_)
    refine JL_q (q_move) (k := ?_)
    refine JL_skips 3 rfl ?_
    refine JL_q (q_pickT) (k := ?_)
    refine JL_nil ?_
    refine JX_seq ?_
    refine J_true rfl ?_
    refine J_seq ?_
    refine J_reg ?_
    refine JL_q (q_assign) (k := ?_)
    refine JL_q (q_assign) (k := ?_)
    refine JL_nil ?_
    refine JX_seq ?_
    refine J_ret ?_
    refine JX_seq_ret ?_
    refine JX_ret Tryd.results21 (Res.tmp rfl (Res.tmp rfl Res.nil)) (fun w1 hw1 => ?_)
    exact ⟨(by rw [((hF.pos hq1)).eq] <;> first | rfl | (simp only [List.length_set] <;> rfl)), hw1.ext_out⟩
  refine JL_qg (q_fld FO_37_1) (k := ?_)
  refine JL_qg (q_load Tryd.isAgg3) (k := ?_)
  refine JL_qg (q_lss) (k := ?_)
  refine JL_q (q_pickF) (k := ?_)
  refine JL_q (q_move) (k := ?_)
  refine JL_dec 19 rfl (fun hq2 => ?_) (fun hq2 => ?_)
  · refine JL_skips 3 rfl ?_
    refine JL_q (q_pickT) (k := ?_)
    refine JL_nil ?_
    refine JX_seq ?_
    refine J_true rfl ?_
    refine J_seq ?_
    refine J_reg ?_
    refine JL_q (q_assign) (k := ?_)
    refine JL_q (q_assign) (k := ?_)
    refine JL_nil ?_
    refine JX_seq ?_
    refine J_ret ?_
    refine JX_seq_ret ?_
    refine JX_ret Tryd.results21 (Res.tmp rfl (Res.tmp rfl Res.nil)) (fun w1 hw1 => ?_)
    exact ⟨(by rw [(((hF.neg hq1).pos hq2)).eq] <;> first | rfl | (simp only [List.length_set] <;> rfl)), hw1.ext_out⟩
  refine JL_qg (q_fld FO_37_1) (k := ?_)
  refine JL_qg (q_load Tryd.isAgg3) (k := ?_)
  refine JL_qg (q_gtr) (k := ?_)
  refine JL_q (q_pickF) (k := ?_)
  refine JL_nil ?_
  refine JX_seq ?_
  refine J_dec rfl (fun hq3 => ?_) (fun hq3 => ?_)
  · refine J_seq ?_
    refine J_reg ?_
    refine JL_q (q_assign) (k := ?_)
    refine JL_q (q_assign) (k := ?_)
    refine JL_nil ?_
    refine JX_seq ?_
    refine J_ret ?_
    refine JX_seq_ret ?_
    refine JX_ret Tryd.results21 (Res.tmp rfl (Res.tmp rfl Res.nil)) (fun w1 hw1 => ?_)
    exact ⟨(by rw [((((hF.neg hq1).neg hq2).pos hq3)).eq] <;> first | rfl | (simp only [List.length_set] <;> rfl)), hw1.ext_out⟩
  refine J_skip ?_
  refine JX_seq ?_
  refine J_seq ?_
  refine J_reg ?_
  refine JL_q (q_move) (k := ?_)
  refine JL_q (q_addT (s := ((rPrint t.addr).1)) (s' := ([58] : Str)) (h := by first | omega | (simp only [List.length_append, List.length_take, List.length_drop, List.length_set, List.length_replicate, List.length_cons, List.length_nil, List.length_map]; omega) | (simp only [List.length_append, List.length_take, List.length_drop, List.length_set, List.length_replicate, List.length_cons, List.length_nil, List.length_map] at *; omega))) (k := ?_)
  refine JL_q (q_fld FO_37_1) (k := ?_)
  refine JL_q (q_load Tryd.isAgg3) (k := ?_)
  refine JL_v (args := [(Value.int .i64 (t.port))]) (c_callA Tryd.call27) (fun w1 hw1 => rNum_ok w1 (n_ := t.port) (hn := by first | omega | (simp only [List.length_append, List.length_take, List.length_drop, List.length_set, List.length_replicate, List.length_cons, List.length_nil, List.length_map]; omega) | (simp only [List.length_append, List.length_take, List.length_drop, List.length_set, List.length_replicate, List.length_cons, List.length_nil, List.length_map] at *; omega) | decide)) (k := ?_)
  have hil_45697 := itoa_len (n := t.port) (by omega)
  refine JL_q (q_addT (s := (((rPrint t.addr).1) ++ ([58] : Str))) (s' := (Lib.itoa t.port)) (h := by first | omega | (simp only [List.length_append, List.length_take, List.length_drop, List.length_set, List.length_replicate, List.length_cons, List.length_nil, List.length_map]; omega) | (simp only [List.length_append, List.length_take, List.length_drop, List.length_set, List.length_replicate, List.length_cons, List.length_nil, List.length_map] at *; omega))) (k := ?_)
  refine JL_q (q_assign) (k := ?_)
  refine JL_q (q_assign) (k := ?_)
  refine JL_nil ?_
  refine JX_seq ?_
  refine J_ret ?_
  refine JX_ret Tryd.results21 (Res.tmp rfl (Res.tmp rfl Res.nil)) (fun w1 hw1 => ?_)
  exact ⟨(by rw [((((hF.neg hq1).neg hq2).neg hq3)).eq] <;> first | rfl | (simp only [List.length_set] <;> rfl)), hw1.ext_out⟩

theorem rTParse_ok (w : World) {s : Str} (n_s : s.length ≤ 1000000) : Val Tryd.prog 23 [(Value.string (bs s))] w (Value.tuple [(Value.agg [(Value.int .i64 (((rTParse s).1.addr))), (Value.int .i64 (((rTParse s).1.port)))].toArray), (Value.int .i64 (((rTParse s).2)))].toArray) := by
  have hF := Is.refl (rTParse s)
  refine enter Tryd.func23 Tryd.ntmps23 (h := ?_)
  refine J_seq ?_
  refine J_reg ?_
  refine JL_a noMk (a_alloc (l := [_, _]) Tryd.zeroValue37) (k := fun r1 hr1 => ?_)
  refine JL_q (q_assign) (k := ?_)
  refine JL_nil ?_
  refine JX_seq ?_
  refine J_seq ?_
  refine J_reg ?_
  refine JL_q (q_move) (k := ?_)
  refine JL_v (args := [(Value.string (bs s)), (Value.int .u8 (58))]) (c_callA Tryd.call29) (fun w1 hw1 => rCut_ok w1 (s := s) (c := 58) (n_s := by first | omega | (simp only [List.length_append, List.length_take, List.length_drop, List.length_set, List.length_replicate, List.length_cons, List.length_nil, List.length_map]; omega) | (simp only [List.length_append, List.length_take, List.length_drop, List.length_set, List.length_replicate, List.length_cons, List.length_nil, List.length_map] at *; omega) | decide)) (k := ?_)
  have hct_62222 := rCut_len s 58
  refine JL_q (q_move) (k := ?_)
  refine JL_q (q_ext) (k := ?_)
  refine JL_q (q_ext) (k := ?_)
  refine JL_q (q_ext) (k := ?_)
  refine JL_q (q_assign) (k := ?_)
  refine JL_q (q_assign) (k := ?_)
  refine JL_q (q_assign) (k := ?_)
  refine JL_nil ?_
  refine JX_seq ?_
  refine J_seq ?_
  refine J_reg ?_
  refine JL_q (q_build (cs := [_, _]) Tryd.zeroValue37 PL_37) (k := ?_)
  refine JL_a noMk (a_alloc (l := [_, _]) Tryd.zeroValue37) (k := fun r2 hr2 => ?_)
  refine JL_s (w_store (l' := [_, _]) Tryd.sizeOf37) (k := ?_)
  refine JL_nil ?_
  refine JX_seq ?_
  refine J_seq ?_
  refine J_reg ?_
  refine JL_q (q_move) (k := ?_)
  refine JL_v (args := [(Value.string (bs ((rCut s 58).1)))]) (c_callA Tryd.call40) (fun w1 hw1 => rParse_ok w1 (s := ((rCut s 58).1)) (n_s := by first | omega | (simp only [List.length_append, List.length_take, List.length_drop, List.length_set, List.length_replicate, List.length_cons, List.length_nil, List.length_map]; omega) | (simp only [List.length_append, List.length_take, List.length_drop, List.length_set, List.length_replicate, List.length_cons, List.length_nil, List.length_map] at *; omega) | decide)) (k := ?_)
  refine JL_q (q_move) (k := ?_)
  refine JL_q (q_ext) (k := ?_)
  refine JL_q (q_ext) (k := ?_)
  refine JL_q (q_fld FO_37_0) (k := ?_)
  refine JL_s (w_store (l' := [_, _]) Tryd.sizeOf3) (k := ?_)
  refine JL_nil ?_
  refine JX_seq ?_
  refine J_seq ?_
  refine J_reg ?_
  refine JL_q (q_move) (k := ?_)
  refine JL_v (args := [(Value.string (bs ((rCut s 58).2.1))), (Value.int .i64 (65535))]) (c_callA Tryd.call30) (fun w1 hw1 => rNumber_ok w1 (s := ((rCut s 58).2.1)) (most := 65535) (n_s := by first | omega | (simp only [List.length_append, List.length_take, List.length_drop, List.length_set, List.length_replicate, List.length_cons, List.length_nil, List.length_map]; omega) | (simp only [List.length_append, List.length_take, List.length_drop, List.length_set, List.length_replicate, List.length_cons, List.length_nil, List.length_map] at *; omega) | decide) (hm := by first | omega | (simp only [List.length_append, List.length_take, List.length_drop, List.length_set, List.length_replicate, List.length_cons, List.length_nil, List.length_map]; omega) | (simp only [List.length_append, List.length_take, List.length_drop, List.length_set, List.length_replicate, List.length_cons, List.length_nil, List.length_map] at *; omega) | decide)) (k := ?_)
  refine JL_q (q_move) (k := ?_)
  refine JL_q (q_ext) (k := ?_)
  refine JL_q (q_ext) (k := ?_)
  refine JL_q (q_fld FO_37_1) (k := ?_)
  refine JL_s (w_store (l' := [_, _]) Tryd.sizeOf3) (k := ?_)
  refine JL_nil ?_
  refine JX_seq ?_
  refine J_seq ?_
  refine J_reg ?_
  refine JL_q (q_loadA Tryd.isAgg37 Tryd.sizeOf37) (k := ?_)
  refine JL_v (args := [(Value.agg [(Value.int .i64 (((rParse ((rCut s 58).1)).1))), (Value.int .i64 (((rNumber ((rCut s 58).2.1) 65535).1)))].toArray)]) (c_callA Tryd.call21) (fun w1 hw1 => rTPrint_ok w1 (t := (Target.mk ((rParse ((rCut s 58).1)).1) ((rNumber ((rCut s 58).2.1) 65535).1)))) (k := ?_)
  refine JL_q (q_move) (k := ?_)
  refine JL_q (q_ext) (k := ?_)
  refine JL_q (q_ext) (k := ?_)
  refine JL_q (q_assign) (k := ?_)
  refine JL_q (q_assign) (k := ?_)
  refine JL_nil ?_
  refine JX_seq ?_
  refine J_seq ?_
  refine J_seq ?_
  refine J_reg ?_
  refine JL_q (q_move) (k := ?_)
  refine JL_q (q_neq) (k := ?_)
  refine JL_q (q_move) (k := ?_)
  refine JL_dec 36 rfl (fun hq1 => ?_) (fun hq1 => ?_)
  · refine JL_skips 3 rfl ?_
    refine JL_q (q_pickT) (k := ?_)
    refine JL_nil ?_
    refine JX_seq ?_
    refine J_true rfl ?_
    refine J_seq ?_
    refine J_reg ?_
    refine JL_q (q_build (cs := [_, _]) Tryd.zeroValue37 PL_37) (k := ?_)
    refine JL_s (w_store (l' := [_, _]) Tryd.sizeOf37) (k := ?_)
    refine JL_q (q_assign) (k := ?_)
    refine JL_nil ?_
    refine JX_seq ?_
    refine J_ret ?_
    refine JX_seq_ret ?_
    refine JX_ret Tryd.results23 (Res.agg Tryd.isAgg37 Tryd.sizeOf37 rfl (by repeat (first | exact List.mem_cons_self | apply List.mem_cons_of_mem | apply List.mem_append_right)) rfl (Res.tmp rfl Res.nil)) (fun w1 hw1 => ?_)
    exact ⟨(by rw [((hF.pos hq1)).eq] <;> first | rfl | (simp only [List.length_set] <;> rfl)), hw1.ext_out⟩
  refine JL_qg (q_move) (k := ?_)
  refine JL_qg (q_move) (k := ?_)
  refine JL_qg (q_neT) (k := ?_)
  refine JL_q (q_pickF) (k := ?_)
  refine JL_nil ?_
  refine JX_seq ?_
  refine J_dec rfl (fun hq2 => ?_) (fun hq2 => ?_)
  · refine J_seq ?_
    refine J_reg ?_
    refine JL_q (q_build (cs := [_, _]) Tryd.zeroValue37 PL_37) (k := ?_)
    refine JL_s (w_store (l' := [_, _]) Tryd.sizeOf37) (k := ?_)
    refine JL_q (q_assign) (k := ?_)
    refine JL_nil ?_
    refine JX_seq ?_
    refine J_ret ?_
    refine JX_seq_ret ?_
    refine JX_ret Tryd.results23 (Res.agg Tryd.isAgg37 Tryd.sizeOf37 rfl (by repeat (first | exact List.mem_cons_self | apply List.mem_cons_of_mem | apply List.mem_append_right)) rfl (Res.tmp rfl Res.nil)) (fun w1 hw1 => ?_)
    exact ⟨(by rw [(((hF.neg hq1).pos hq2)).eq] <;> first | rfl | (simp only [List.length_set] <;> rfl)), hw1.ext_out⟩
  refine J_skip ?_
  refine JX_seq ?_
  refine J_seq ?_
  refine J_reg ?_
  refine JL_q (q_loadA Tryd.isAgg37 Tryd.sizeOf37) (k := ?_)
  refine JL_s (w_store (l' := [_, _]) Tryd.sizeOf37) (k := ?_)
  refine JL_q (q_assign) (k := ?_)
  refine JL_nil ?_
  refine JX_seq ?_
  refine J_ret ?_
  refine JX_ret Tryd.results23 (Res.agg Tryd.isAgg37 Tryd.sizeOf37 rfl (by repeat (first | exact List.mem_cons_self | apply List.mem_cons_of_mem | apply List.mem_append_right)) rfl (Res.tmp rfl Res.nil)) (fun w1 hw1 => ?_)
  exact ⟨(by rw [(((hF.neg hq1).neg hq2)).eq] <;> first | rfl | (simp only [List.length_set] <;> rfl)), hw1.ext_out⟩

theorem pRight_ok (w : World) {p : PortsT} : Val Tryd.prog 16 [(Value.agg [(Value.int .i64 (p.lo)), (Value.int .i64 (p.hi))].toArray)] w (Value.bool ((pRight p))) := by
  have hF := Is.refl (pRight p)
  refine enter Tryd.func16 Tryd.ntmps16 (h := ?_)
  refine J_seq ?_
  refine J_reg ?_
  refine JL_a noMk (a_box (l := [_, _])) (k := fun r1 hr1 => ?_)
  refine JL_q (q_assign) (k := ?_)
  refine JL_nil ?_
  refine JX_seq ?_
  refine J_seq ?_
  refine J_reg ?_
  refine JL_q (q_loadA Tryd.isAgg23 Tryd.sizeOf23) (k := ?_)
  refine JL_a noMk (a_bslice (l := [_, _, _]) Tryd.runUnderlying71 Tryd.sizeOf57 Tryd.zeroValue57) (k := fun r2 hr2 => ?_)
  refine JL_inl (args := [(Value.agg [(Value.int .i64 (p.lo)), (Value.int .i64 (p.hi))].toArray), (Value.slice (some ⟨r2, 0, none⟩) (3) (3))]) (c_callA Tryd.call31) Tryd.func31 Tryd.ntmps31 ?_
  refine J_seq ?_
  refine J_reg ?_
  refine JL_a noMk (a_box (l := [_, _])) (k := fun r3 hr3 => ?_)
  refine JL_q (q_assign) (k := ?_)
  refine JL_nil ?_
  refine JX_seq ?_
  refine J_seq ?_
  refine J_seq ?_
  refine J_reg ?_
  refine JL_q (q_move) (k := ?_)
  refine JL_q (q_lenS Tryd.runUnderlying71) (k := ?_)
  refine JL_q (q_move) (k := ?_)
  refine JL_nil ?_
  refine JX_seq ?_
  refine J_block ?_
  refine J_unroll ?_
  refine J_seq ?_
  refine J_reg ?_
  refine JL_q (q_lss) (k := ?_)
  refine JL_nil ?_
  refine JX_seq ?_
  refine J_seq ?_
  refine J_true rfl ?_
  refine J_skip ?_
  refine JX_seq ?_
  refine J_seq ?_
  refine J_block ?_
  refine J_seq ?_
  refine J_reg ?_
  refine JL_q (q_idxO Tryd.runUnderlying71 Tryd.sizeOf57 0) (k := ?_)
  refine JL_q (q_load Tryd.isAgg57) (k := ?_)
  refine JL_q (q_assign) (k := ?_)
  refine JL_nil ?_
  refine JX_seq ?_
  refine J_seq ?_
  refine J_reg ?_
  refine JL_q (q_move) (k := ?_)
  refine JL_q (q_loadA Tryd.isAgg23 Tryd.sizeOf23) (k := ?_)
  refine JL_q (q_build (cs := [_, _]) Tryd.zeroValue59 PL_59) (k := ?_)
  refine JL_inl (args := [(Value.agg [(Value.int .i64 (p.lo)), (Value.int .i64 (p.hi))].toArray)]) (c_callA Tryd.call32) Tryd.func32 Tryd.ntmps32 ?_
  refine J_seq ?_
  refine J_reg ?_
  refine JL_a noMk (a_box (l := [_, _])) (k := fun r4 hr4 => ?_)
  refine JL_q (q_assign) (k := ?_)
  refine JL_nil ?_
  refine JX_seq ?_
  refine J_seq ?_
  refine J_reg ?_
  refine JL_q (q_fld FO_59_0) (k := ?_)
  refine JL_q (q_fld FO_23_0) (k := ?_)
  refine JL_q (q_load Tryd.isAgg3) (k := ?_)
  refine JL_q (q_fld FO_59_0) (k := ?_)
  refine JL_q (q_fld FO_23_1) (k := ?_)
  refine JL_q (q_load Tryd.isAgg3) (k := ?_)
  refine JL_q (q_leq) (k := ?_)
  refine JL_q (q_assign) (k := ?_)
  refine JL_nil ?_
  refine JX_seq ?_
  refine J_ret ?_
  refine JX_retI Tryd.results32 (Res.tmp rfl Res.nil) ?_
  refine JL_q (q_notD) (k := ?_)
  refine JL_nil ?_
  refine JX_seq ?_
  refine J_dec rfl (fun hq1 => ?_) (fun hq1 => ?_)
  · refine J_seq ?_
    refine J_reg ?_
    refine JL_q (q_assign) (k := ?_)
    refine JL_nil ?_
    refine JX_seq ?_
    refine J_ret ?_
    refine JX_block_ret ?_
    refine JX_seq_ret ?_
    refine JX_inv_ret ?_
    refine JX_block_ret ?_
    refine JX_seq_ret ?_
    refine JX_retI Tryd.results31 (Res.tmp rfl Res.nil) ?_
    refine JL_q (q_assign) (k := ?_)
    refine JL_nil ?_
    refine JX_seq ?_
    refine J_ret ?_
    refine JX_ret Tryd.results16 (Res.tmp rfl Res.nil) (fun w1 hw1 => ?_)
    exact ⟨(by rw [((hF.pos hq1)).eq] <;> first | rfl | (simp only [List.length_set] <;> rfl)), hw1.ext_out⟩
  refine J_skip ?_
  refine JX_block ?_
  refine JX_seq ?_
  refine J_reg ?_
  refine JL_q (q_add) (k := ?_)
  refine JL_q (q_move) (k := ?_)
  refine JL_nil ?_
  refine JX_again ?_
  refine J_seq ?_
  refine J_reg ?_
  refine JL_q (q_lss) (k := ?_)
  refine JL_nil ?_
  refine JX_seq ?_
  refine J_seq ?_
  refine J_true rfl ?_
  refine J_skip ?_
  refine JX_seq ?_
  refine J_seq ?_
  refine J_block ?_
  refine J_seq ?_
  refine J_reg ?_
  refine JL_q (q_idxO Tryd.runUnderlying71 Tryd.sizeOf57 1) (k := ?_)
  refine JL_q (q_load Tryd.isAgg57) (k := ?_)
  refine JL_q (q_assign) (k := ?_)
  refine JL_nil ?_
  refine JX_seq ?_
  refine J_seq ?_
  refine J_reg ?_
  refine JL_q (q_move) (k := ?_)
  refine JL_q (q_loadA Tryd.isAgg23 Tryd.sizeOf23) (k := ?_)
  refine JL_q (q_build (cs := [_, _]) Tryd.zeroValue59 PL_59) (k := ?_)
  refine JL_inl (args := [(Value.agg [(Value.int .i64 (p.lo)), (Value.int .i64 (p.hi))].toArray)]) (c_callA Tryd.call33) Tryd.func33 Tryd.ntmps33 ?_
  refine J_seq ?_
  refine J_reg ?_
  refine JL_a noMk (a_box (l := [_, _])) (k := fun r5 hr5 => ?_)
  refine JL_q (q_assign) (k := ?_)
  refine JL_nil ?_
  refine JX_seq ?_
  refine J_seq ?_
  refine J_reg ?_
  refine JL_q (q_fld FO_59_0) (k := ?_)
  refine JL_q (q_fld FO_23_0) (k := ?_)
  refine JL_q (q_load Tryd.isAgg3) (k := ?_)
  refine JL_q (q_geq) (k := ?_)
  refine JL_q (q_assign) (k := ?_)
  refine JL_nil ?_
  refine JX_seq ?_
  refine J_ret ?_
  refine JX_retI Tryd.results33 (Res.tmp rfl Res.nil) ?_
  refine JL_q (q_notD) (k := ?_)
  refine JL_nil ?_
  refine JX_seq ?_
  refine J_dec rfl (fun hq2 => ?_) (fun hq2 => ?_)
  · refine J_seq ?_
    refine J_reg ?_
    refine JL_q (q_assign) (k := ?_)
    refine JL_nil ?_
    refine JX_seq ?_
    refine J_ret ?_
    refine JX_block_ret ?_
    refine JX_seq_ret ?_
    refine JX_inv_ret ?_
    refine JX_block_ret ?_
    refine JX_seq_ret ?_
    refine JX_retI Tryd.results31 (Res.tmp rfl Res.nil) ?_
    refine JL_q (q_assign) (k := ?_)
    refine JL_nil ?_
    refine JX_seq ?_
    refine J_ret ?_
    refine JX_ret Tryd.results16 (Res.tmp rfl Res.nil) (fun w1 hw1 => ?_)
    exact ⟨(by rw [(((hF.neg hq1).pos hq2)).eq] <;> first | rfl | (simp only [List.length_set] <;> rfl)), hw1.ext_out⟩
  refine J_skip ?_
  refine JX_block ?_
  refine JX_seq ?_
  refine J_reg ?_
  refine JL_q (q_add) (k := ?_)
  refine JL_q (q_move) (k := ?_)
  refine JL_nil ?_
  refine JX_again ?_
  refine J_seq ?_
  refine J_reg ?_
  refine JL_q (q_lss) (k := ?_)
  refine JL_nil ?_
  refine JX_seq ?_
  refine J_seq ?_
  refine J_true rfl ?_
  refine J_skip ?_
  refine JX_seq ?_
  refine J_seq ?_
  refine J_block ?_
  refine J_seq ?_
  refine J_reg ?_
  refine JL_q (q_idxO Tryd.runUnderlying71 Tryd.sizeOf57 2) (k := ?_)
  refine JL_q (q_load Tryd.isAgg57) (k := ?_)
  refine JL_q (q_assign) (k := ?_)
  refine JL_nil ?_
  refine JX_seq ?_
  refine J_seq ?_
  refine J_reg ?_
  refine JL_q (q_move) (k := ?_)
  refine JL_q (q_loadA Tryd.isAgg23 Tryd.sizeOf23) (k := ?_)
  refine JL_q (q_build (cs := [_, _]) Tryd.zeroValue59 PL_59) (k := ?_)
  refine JL_inl (args := [(Value.agg [(Value.int .i64 (p.lo)), (Value.int .i64 (p.hi))].toArray)]) (c_callA Tryd.call34) Tryd.func34 Tryd.ntmps34 ?_
  refine J_seq ?_
  refine J_reg ?_
  refine JL_a noMk (a_box (l := [_, _])) (k := fun r6 hr6 => ?_)
  refine JL_q (q_assign) (k := ?_)
  refine JL_nil ?_
  refine JX_seq ?_
  refine J_seq ?_
  refine J_reg ?_
  refine JL_q (q_fld FO_59_0) (k := ?_)
  refine JL_q (q_fld FO_23_1) (k := ?_)
  refine JL_q (q_load Tryd.isAgg3) (k := ?_)
  refine JL_q (q_leq) (k := ?_)
  refine JL_q (q_assign) (k := ?_)
  refine JL_nil ?_
  refine JX_seq ?_
  refine J_ret ?_
  refine JX_retI Tryd.results34 (Res.tmp rfl Res.nil) ?_
  refine JL_q (q_notD) (k := ?_)
  refine JL_nil ?_
  refine JX_seq ?_
  refine J_dec rfl (fun hq3 => ?_) (fun hq3 => ?_)
  · refine J_seq ?_
    refine J_reg ?_
    refine JL_q (q_assign) (k := ?_)
    refine JL_nil ?_
    refine JX_seq ?_
    refine J_ret ?_
    refine JX_block_ret ?_
    refine JX_seq_ret ?_
    refine JX_inv_ret ?_
    refine JX_block_ret ?_
    refine JX_seq_ret ?_
    refine JX_retI Tryd.results31 (Res.tmp rfl Res.nil) ?_
    refine JL_q (q_assign) (k := ?_)
    refine JL_nil ?_
    refine JX_seq ?_
    refine J_ret ?_
    refine JX_ret Tryd.results16 (Res.tmp rfl Res.nil) (fun w1 hw1 => ?_)
    exact ⟨(by rw [((((hF.neg hq1).neg hq2).pos hq3)).eq] <;> first | rfl | (simp only [List.length_set] <;> rfl)), hw1.ext_out⟩
  refine J_skip ?_
  refine JX_block ?_
  refine JX_seq ?_
  refine J_reg ?_
  refine JL_q (q_add) (k := ?_)
  refine JL_q (q_move) (k := ?_)
  refine JL_nil ?_
  refine JX_again ?_
  refine J_seq ?_
  refine J_reg ?_
  refine JL_q (q_lss) (k := ?_)
  refine JL_nil ?_
  refine JX_seq ?_
  refine J_seq ?_
  refine J_false rfl ?_
  refine J_exit ?_
  refine JX_seq_exit ?_
  refine JX_inv_exit ?_
  refine JX_block_hit ?_
  refine JX_seq ?_
  refine J_seq ?_
  refine J_reg ?_
  refine JL_q (q_assign) (k := ?_)
  refine JL_nil ?_
  refine JX_seq ?_
  refine J_ret ?_
  refine JX_retI Tryd.results31 (Res.tmp rfl Res.nil) ?_
  refine JL_q (q_assign) (k := ?_)
  refine JL_nil ?_
  refine JX_seq ?_
  refine J_ret ?_
  refine JX_ret Tryd.results16 (Res.tmp rfl Res.nil) (fun w1 hw1 => ?_)
  exact ⟨(by rw [((((hF.neg hq1).neg hq2).neg hq3)).eq] <;> first | rfl | (simp only [List.length_set] <;> rfl)), hw1.ext_out⟩

theorem pPrint_ok (w : World) {ea0 : Addr} {ea1 : Addr} {p : PortsT} (hG : Gl w) (hE : Er w ea0 ea1) : Val Tryd.prog 10 [(Value.agg [(Value.int .i64 (p.lo)), (Value.int .i64 (p.hi))].toArray)] w (Value.tuple [(Value.string (bs ((pPrint p).1))), (Value.int .i64 (((pPrint p).2)))].toArray) := by
  have hF := Is.refl (pPrint p)
  refine enter Tryd.func10 Tryd.ntmps10 (h := ?_)
  refine J_seq ?_
  refine J_reg ?_
  refine JL_a noMk (a_box (l := [_, _])) (k := fun r1 hr1 => ?_)
  refine JL_q (q_assign) (k := ?_)
  refine JL_q (q_assign) (k := ?_)
  refine JL_nil ?_
  refine JX_seq ?_
  refine J_seq ?_
  refine J_block ?_
  refine J_seq ?_
  refine J_reg ?_
  refine JL_q (q_loadA Tryd.isAgg23 Tryd.sizeOf23) (k := ?_)
  refine JL_v (args := [(Value.agg [(Value.int .i64 (p.lo)), (Value.int .i64 (p.hi))].toArray)]) (c_callA Tryd.call16) (fun w1 hw1 => pRight_ok w1 (p := p)) (k := ?_)
  refine JL_q (q_not) (k := ?_)
  refine JL_q (q_assign) (k := ?_)
  refine JL_nil ?_
  refine JX_seq ?_
  refine J_cond rfl (fun hq1 => ?_) (fun hq1 => ?_)
  · refine J_seq ?_
    refine J_reg ?_
    obtain ⟨Thgl2, fhgl2, hgl2⟩ := hE.v0
    refine JL_q (q_loadB Tryd.isAgg46 hgl2) (k := ?_)
    refine JL_inl (args := [(Value.iface 135 (.pointer (some ea0)))]) (c_callA Tryd.call24) Tryd.func24 Tryd.ntmps24 ?_
    refine J_seq ?_
    refine J_reg ?_
    refine JL_q (q_assign) (k := ?_)
    refine JL_nil ?_
    refine JX_seq ?_
    refine J_seq ?_
    refine J_block ?_
    refine J_seq ?_
    refine J_reg ?_
    refine JL_q (q_move) (k := ?_)
    obtain ⟨Thgl3, fhgl3, hgl3⟩ := hE.v0
    refine JL_q (q_loadB Tryd.isAgg46 hgl3) (k := ?_)
    refine JL_v (args := [(Value.iface 135 (.pointer (some ea0))), (Value.iface 135 (.pointer (some ea0)))]) (c_callA Tryd.call41) (fun w1 hw1 => is_same_v w1) (k := ?_)
    refine JL_q (q_assign) (k := ?_)
    refine JL_nil ?_
    refine JX_seq ?_
    refine J_true rfl ?_
    refine J_seq ?_
    refine J_reg ?_
    refine JL_q (q_assign) (k := ?_)
    refine JL_nil ?_
    refine JX_seq ?_
    refine J_ret ?_
    refine JX_block_ret ?_
    refine JX_seq_ret ?_
    refine JX_retI Tryd.results24 (Res.tmp rfl Res.nil) ?_
    refine JL_q (q_assign) (k := ?_)
    refine JL_q (q_assign) (k := ?_)
    refine JL_nil ?_
    refine JX_seq ?_
    refine J_ret ?_
    refine JX_block_ret ?_
    refine JX_seq_ret ?_
    refine JX_ret Tryd.results10 (Res.tmp rfl (Res.tmp rfl Res.nil)) (fun w1 hw1 => ?_)
    exact ⟨(by rw [((hF.t hq1)).eq] <;> first | rfl | (simp only [List.length_set] <;> rfl)), hw1.ext_out⟩
  have hfhq1 := pRight_t (by simpa using hq1)
  refine J_seq ?_
  refine J_plan mixed 4 [(true, 0), (false, 1), (true, 2), (true, 3)] (by kernel_rfl) ?_
  refine JD_q (q_loadA Tryd.isAgg23 Tryd.sizeOf23) (k := ?_)
  refine JD_inl (args := []) (c_callA Tryd.call25) Tryd.func25 Tryd.ntmps25 ?_
  refine J_seq ?_
  refine J_reg ?_
  refine JL_a noMk (a_alloc (l := [_, _]) Tryd.zeroValue23) (k := fun r2 hr2 => ?_)
  refine JL_nil ?_
  refine JX_seq ?_
  refine J_seq ?_
  refine J_reg ?_
  refine JL_q (q_build (cs := [_, _]) Tryd.zeroValue23 PL_23) (k := ?_)
  refine JL_s (w_store (l' := [_, _]) Tryd.sizeOf23) (k := ?_)
  refine JL_nil ?_
  refine JX_seq ?_
  refine J_ret ?_
  refine JX_retID ((r2, Obj.cells [(Value.int .i64 (0)), (Value.int .i64 (65535))].toArray 23) :: ((r1, Obj.cells [(Value.int .i64 (p.lo)), (Value.int .i64 (p.hi))].toArray 23) :: [])) [] Tryd.results25 (Res.agg Tryd.isAgg23 Tryd.sizeOf23 rfl (by repeat (first | exact List.mem_cons_self | apply List.mem_cons_of_mem | apply List.mem_append_right)) rfl Res.nil) (List.Perm.trans (List.Perm.refl _) (List.Perm.of_eq (by first | rfl | (simp only [List.cons_append, List.nil_append, List.append_assoc, List.append_nil]; done) | (simp only [List.cons_append, List.nil_append, List.append_assoc, List.append_nil]; rfl)))) (List.Sublist.cons _ (List.Sublist.refl _)) ?_
  refine JD_q (q_eqS (EQ_23 _ _ _ _ _ _)) (k := ?_)
  refine JD_q (q_assign) (k := ?_)
  refine JD_nil ?_
  refine JL_nil ?_
  refine JX_seq ?_
  refine J_dec rfl (fun hq4 => ?_) (fun hq4 => ?_)
  · refine J_seq ?_
    refine J_reg ?_
    refine JL_q (q_assign) (k := ?_)
    refine JL_q (q_assign) (k := ?_)
    refine JL_nil ?_
    refine JX_seq ?_
    refine J_ret ?_
    refine JX_block_ret ?_
    refine JX_seq_ret ?_
    refine JX_ret Tryd.results10 (Res.tmp rfl (Res.tmp rfl Res.nil)) (fun w1 hw1 => ?_)
    exact ⟨(by rw [(((hF.f hq1).pos hq4)).eq] <;> first | rfl | (simp only [List.length_set] <;> rfl)), hw1.ext_out⟩
  refine J_seq ?_
  refine J_reg ?_
  refine JL_q (q_fld FO_23_0) (k := ?_)
  refine JL_q (q_load Tryd.isAgg3) (k := ?_)
  refine JL_q (q_fld FO_23_1) (k := ?_)
  refine JL_q (q_load Tryd.isAgg3) (k := ?_)
  refine JL_q (q_eql) (k := ?_)
  refine JL_q (q_assign) (k := ?_)
  refine JL_nil ?_
  refine JX_seq ?_
  refine J_dec rfl (fun hq5 => ?_) (fun hq5 => ?_)
  · refine J_seq ?_
    refine J_reg ?_
    refine JL_q (q_fld FO_23_0) (k := ?_)
    refine JL_q (q_load Tryd.isAgg3) (k := ?_)
    refine JL_v (args := [(Value.int .i64 (p.lo))]) (c_callA Tryd.call26) (fun w1 hw1 => Itoa_ok w1 (n := p.lo) (hG := hG.ext hw1.ext_out) (hn := by first | omega | (simp only [List.length_append, List.length_take, List.length_drop, List.length_set, List.length_replicate, List.length_cons, List.length_nil, List.length_map]; omega) | (simp only [List.length_append, List.length_take, List.length_drop, List.length_set, List.length_replicate, List.length_cons, List.length_nil, List.length_map] at *; omega))) (k := ?_)
    have hil_90824 := itoa_len (n := p.lo) (by omega)
    refine JL_q (q_assign) (k := ?_)
    refine JL_q (q_assign) (k := ?_)
    refine JL_nil ?_
    refine JX_seq ?_
    refine J_ret ?_
    refine JX_block_ret ?_
    refine JX_seq_ret ?_
    refine JX_ret Tryd.results10 (Res.tmp rfl (Res.tmp rfl Res.nil)) (fun w1 hw1 => ?_)
    exact ⟨(by rw [((((hF.f hq1).neg hq4).pos hq5)).eq] <;> first | rfl | (simp only [List.length_set] <;> rfl)), hw1.ext_out⟩
  refine J_skip ?_
  refine JX_block ?_
  refine JX_seq ?_
  refine J_seq ?_
  refine J_plan mixed 10 [(true, 0), (true, 1), (true, 4), (true, 5), (false, 2), (true, 3), (false, 6), (true, 7), (true, 8), (true, 9)] (by kernel_rfl) ?_
  refine JD_q (q_fld FO_23_0) (k := ?_)
  refine JD_q (q_load Tryd.isAgg3) (k := ?_)
  refine JD_q (q_fld FO_23_1) (k := ?_)
  refine JD_q (q_load Tryd.isAgg3) (k := ?_)
  refine JD_v (args := [(Value.int .i64 (p.lo))]) (c_callA Tryd.call26) (fun w1 hw1 => Itoa_ok w1 (n := p.lo) (hG := hG.ext hw1.ext_out) (hn := by first | omega | (simp only [List.length_append, List.length_take, List.length_drop, List.length_set, List.length_replicate, List.length_cons, List.length_nil, List.length_map]; omega) | (simp only [List.length_append, List.length_take, List.length_drop, List.length_set, List.length_replicate, List.length_cons, List.length_nil, List.length_map] at *; omega))) (k := ?_)
  have hil_90824 := itoa_len (n := p.lo) (by omega)
  refine JD_q (q_addT (s := (Lib.itoa p.lo)) (s' := ([45] : Str)) (h := by first | omega | (simp only [List.length_append, List.length_take, List.length_drop, List.length_set, List.length_replicate, List.length_cons, List.length_nil, List.length_map]; omega) | (simp only [List.length_append, List.length_take, List.length_drop, List.length_set, List.length_replicate, List.length_cons, List.length_nil, List.length_map] at *; omega))) (k := ?_)
  refine JD_v (args := [(Value.int .i64 (p.hi))]) (c_callA Tryd.call26) (fun w1 hw1 => Itoa_ok w1 (n := p.hi) (hG := hG.ext hw1.ext_out) (hn := by first | omega | (simp only [List.length_append, List.length_take, List.length_drop, List.length_set, List.length_replicate, List.length_cons, List.length_nil, List.length_map]; omega) | (simp only [List.length_append, List.length_take, List.length_drop, List.length_set, List.length_replicate, List.length_cons, List.length_nil, List.length_map] at *; omega))) (k := ?_)
  have hil_96057 := itoa_len (n := p.hi) (by omega)
  refine JD_q (q_addT (s := ((Lib.itoa p.lo) ++ ([45] : Str))) (s' := (Lib.itoa p.hi)) (h := by first | omega | (simp only [List.length_append, List.length_take, List.length_drop, List.length_set, List.length_replicate, List.length_cons, List.length_nil, List.length_map]; omega) | (simp only [List.length_append, List.length_take, List.length_drop, List.length_set, List.length_replicate, List.length_cons, List.length_nil, List.length_map] at *; omega))) (k := ?_)
  refine JD_q (q_assign) (k := ?_)
  refine JD_q (q_assign) (k := ?_)
  refine JD_nil ?_
  refine JL_nil ?_
  refine JX_seq ?_
  refine J_ret ?_
  refine JX_ret Tryd.results10 (Res.tmp rfl (Res.tmp rfl Res.nil)) (fun w1 hw1 => ?_)
  exact ⟨(by rw [((((hF.f hq1).neg hq4).neg hq5)).eq] <;> first | rfl | (simp only [List.length_set] <;> rfl)), hw1.ext_out⟩

theorem pNumber_ok (w : World) {t : Str} (n_t : t.length ≤ 1000000) : Val Tryd.prog 39 [(Value.agg [(Value.string (bs t))].toArray)] w (Value.int .i64 ((pNumber t))) := by
  have hF := Is.refl (pNumber t)
  refine enter Tryd.func39 Tryd.ntmps39 (h := ?_)
  refine J_seq ?_
  refine J_reg ?_
  refine JL_a noMk (a_box (l := [_])) (k := fun r1 hr1 => ?_)
  refine JL_q (q_assign) (k := ?_)
  refine JL_nil ?_
  refine JX_seq ?_
  refine J_seq ?_
  refine J_reg ?_
  refine JL_q (q_assign) (k := ?_)
  refine JL_nil ?_
  refine JX_seq ?_
  refine J_seq ?_
  refine J_seq ?_
  refine J_reg ?_
  refine JL_q (q_fld FO_65_0) (k := ?_)
  refine JL_q (q_load Tryd.isAgg9) (k := ?_)
  refine JL_a noMk (a_rangeT Tryd.runUnderlying9) (k := fun r2 hr2 => ?_)
  refine JL_nil ?_
  refine JX_seq ?_
  refine J_block ?_
  refine J_loop3 (σ1 := Nat) (σ2 := Int) (σ3 := Nat) (fun n_3 n_1 x_2 => ((r2, Obj.stringIter (bs t) x_2) :: ((r1, Obj.cells [(Value.string (bs t))].toArray 65) :: []))) (fun n_3 n_1 x_2 => [(2, (Value.int .i64 (0))), (3, (Value.int .i64 (n_1))), (8, (Value.pointer (some ⟨r2, 0, none⟩)))]) (fun n_3 n_1 x_2 => t.length - x_2 < n_3 ∧ Is (pNumber_l0 t (t.length + 1) 0 0) (pNumber_l0 t n_3 n_1 x_2) ∧ 0 ≤ n_1 ∧ n_1 ≤ 65535) (fun n_3 n_1 x_2 => n_3) (t.length + 1) 0 0 ?_ (by repeat (first | exact SubE.nil | refine SubE.cons rfl ?_)) (List.Perm.refl _) ?_
  · exact ⟨Nat.lt_succ_self _, Is.refl _, (by omega)⟩
  · rintro (_ | n_3) n_1 x_2 ⟨hm5, hF4, hi6⟩
    · omega
    refine J_seq ?_
    refine J_reg ?_
    refine JL_next (List.Perm.refl _) (fun hq1 => ?_) (fun hq1 => ?_)
    rotate_left
    · refine JL_q (q_ext) (k := ?_)
      refine JL_nil ?_
      refine JX_seq ?_
      refine J_seq ?_
      refine J_false rfl ?_
      refine J_exit ?_
      refine JX_seq_exit ?_
      refine JX_inv_exit ?_
      refine JX_block_hit ?_
      refine JX_seq ?_
      refine J_seq ?_
      refine J_reg ?_
      refine JL_q (q_move) (k := ?_)
      refine JL_q (q_assign) (k := ?_)
      refine JL_nil ?_
      refine JX_seq ?_
      refine J_ret ?_
      refine JX_ret Tryd.results39 (Res.tmp rfl Res.nil) (fun w1 hw1 => ?_)
      exact ⟨(by rw [((hF.ok2 (hF4.neg hq1))).eq] <;> first | rfl | (simp only [List.length_set] <;> rfl)), hw1.ext_out⟩
    have hrhq1 := dec_bd t x_2
    have hphq1 := dec_pos t x_2
    refine JL_q (q_ext) (k := ?_)
    refine JL_nil ?_
    refine JX_seq ?_
    refine J_seq ?_
    refine J_true rfl ?_
    refine J_skip ?_
    refine JX_seq ?_
    refine J_block ?_
    refine J_seq ?_
    refine J_reg ?_
    refine JL_q (q_ext) (k := ?_)
    refine JL_q (q_assign) (k := ?_)
    refine JL_nil ?_
    refine JX_seq ?_
    refine J_seq ?_
    refine J_reg ?_
    refine JL_q (q_move) (k := ?_)
    refine JL_q (q_mul) (k := ?_)
    refine JL_q (q_move) (k := ?_)
    refine JL_q (q_subK (p := (((dec t x_2).1 : Nat) : Int)) (q := 48) (wrap_i32 (by omega))) (k := ?_)
    refine JL_q (q_conv (r := ((((dec t x_2).1 : Nat) : Int) - 48)) (wrap_i64 (by omega)) Tryd.runUnderlying21 Tryd.runUnderlying3) (k := ?_)
    refine JL_q (q_add) (k := ?_)
    refine JL_q (q_assign) (k := ?_)
    refine JL_nil ?_
    refine JX_seq ?_
    refine J_seq ?_
    refine J_reg ?_
    refine JL_q (q_move) (k := ?_)
    refine JL_q (q_lss) (k := ?_)
    refine JL_q (q_move) (k := ?_)
    refine JL_dec 20 rfl (fun hq2 => ?_) (fun hq2 => ?_)
    · refine JL_skips 2 rfl ?_
      refine JL_q (q_pickT) (k := ?_)
      refine JL_nil ?_
      refine JX_seq ?_
      refine J_true rfl ?_
      refine J_seq ?_
      refine J_reg ?_
      refine JL_q (q_assign) (k := ?_)
      refine JL_nil ?_
      refine JX_seq ?_
      refine J_ret ?_
      refine JX_block_ret ?_
      refine JX_inv_ret ?_
      refine JX_block_ret ?_
      refine JX_seq_ret ?_
      refine JX_ret Tryd.results39 (Res.tmp rfl Res.nil) (fun w1 hw1 => ?_)
      exact ⟨(by rw [((hF.er2 ((hF4.pos hq1).pos hq2))).eq] <;> first | rfl | (simp only [List.length_set] <;> rfl)), hw1.ext_out⟩
    refine JL_qg (q_move) (k := ?_)
    refine JL_qg (q_gtr) (k := ?_)
    refine JL_q (q_pickF) (k := ?_)
    refine JL_nil ?_
    refine JX_seq ?_
    refine J_dec rfl (fun hq3 => ?_) (fun hq3 => ?_)
    rotate_left
    · refine J_skip ?_
      refine JX_block ?_
      exact JX_inv3 n_3 ((n_1 * 10) + ((((dec t x_2).1 : Nat) : Int) - 48)) (x_2 + (dec t x_2).2) ⟨by omega, (((hF4.pos hq1).neg hq2).neg hq3), (by omega)⟩ (Nat.lt_succ_self _) (by repeat (first | exact SubE.nil | refine SubE.cons rfl ?_)) (List.Perm.refl _)
    refine J_seq ?_
    refine J_reg ?_
    refine JL_q (q_assign) (k := ?_)
    refine JL_nil ?_
    refine JX_seq ?_
    refine J_ret ?_
    refine JX_block_ret ?_
    refine JX_inv_ret ?_
    refine JX_block_ret ?_
    refine JX_seq_ret ?_
    refine JX_ret Tryd.results39 (Res.tmp rfl Res.nil) (fun w1 hw1 => ?_)
    exact ⟨(by rw [((hF.er2 (((hF4.pos hq1).neg hq2).pos hq3))).eq] <;> first | rfl | (simp only [List.length_set] <;> rfl)), hw1.ext_out⟩

theorem pParse_ok (w : World) {ea0 : Addr} {ea1 : Addr} {s : Str} (n_s : s.length ≤ 1000000) (hG : Gl w) (hE : Er w ea0 ea1) : Val Tryd.prog 12 [(Value.string (bs s))] w (Value.tuple [(Value.agg [(Value.int .i64 (((pParse s).1.lo))), (Value.int .i64 (((pParse s).1.hi)))].toArray), (Value.int .i64 (((pParse s).2)))].toArray) := by
  have hF := Is.refl (pParse s)
  refine enterD Tryd.func12 Tryd.ntmps12 (h := ?_)
  refine J_seq ?_
  refine J_reg ?_
  refine JL_a noMk (a_box (l := [_])) (k := fun r1 hr1 => ?_)
  refine JL_a noMk (a_alloc (l := [_, _]) Tryd.zeroValue23) (k := fun r2 hr2 => ?_)
  refine JL_a noMk (a_alloc (l := [_]) Tryd.zeroValue26) (k := fun r3 hr3 => ?_)
  refine JL_nil ?_
  refine JX_seq ?_
  refine J_seq ?_
  refine J_seq ?_
  refine J_reg ?_
  refine JL_q (q_load Tryd.isAgg9) (k := ?_)
  refine JL_inl (args := [(Value.string (bs s))]) (c_callA Tryd.call28) Tryd.func28 Tryd.ntmps28 ?_
  refine J_seq ?_
  refine J_reg ?_
  refine JL_q (q_assign) (k := ?_)
  refine JL_nil ?_
  refine JX_seq ?_
  refine J_seq ?_
  refine J_reg ?_
  refine JL_q (q_move) (k := ?_)
  refine JL_q (q_build (cs := [_]) Tryd.zeroValue65 PL_65) (k := ?_)
  refine JL_q (q_build (cs := [_]) Tryd.zeroValue69 PL_69) (k := ?_)
  refine JL_a noMk (a_alloc (l := [_]) Tryd.zeroValue69) (k := fun r4 hr4 => ?_)
  refine JL_s (w_store (l' := [_]) Tryd.sizeOf69) (k := ?_)
  refine JL_nil ?_
  refine JX_seq ?_
  refine J_seq ?_
  refine J_reg ?_
  refine JL_q (q_func) (k := ?_)
  refine JL_q (q_assign) (k := ?_)
  refine JL_nil ?_
  refine JX_seq ?_
  refine J_ret ?_
  refine JX_retI Tryd.results28 (Res.tmp rfl Res.nil) ?_
  refine JL_nil ?_
  refine JX_seq ?_
  refine J_block ?_
  refine J_rangeI noMk rfl Tryd.call43 Tryd.func43 Tryd.ntmps43 (fun l5 rD5 rr5 hl5 => ?_)
  refine J_scope ?_
  refine J_seq ?_
  refine J_label ?_
  refine JX_seq ?_
  refine J_seq ?_
  refine J_reg ?_
  refine JL_q (q_loadA Tryd.isAgg69 Tryd.sizeOf69) (k := ?_)
  refine JL_q (q_func) (k := ?_)
  refine JL_q (q_loadA Tryd.isAgg69 Tryd.sizeOf69) (k := ?_)
  refine JL_q (q_func) (k := ?_)
  refine JL_q (q_loadA Tryd.isAgg69 Tryd.sizeOf69) (k := ?_)
  refine JL_q (q_func) (k := ?_)
  refine JL_a noMk (a_bslice (l := [_, _, _]) Tryd.runUnderlying70 Tryd.sizeOf47 Tryd.zeroValue47) (k := fun r6 hr6 => ?_)
  refine JL_q (q_lenS Tryd.runUnderlying70) (k := ?_)
  refine JL_q (q_move) (k := ?_)
  refine JL_nil ?_
  refine JX_seq ?_
  refine J_block ?_
  refine J_unroll ?_
  refine J_seq ?_
  refine J_reg ?_
  refine JL_q (q_lss) (k := ?_)
  refine JL_nil ?_
  refine JX_seq ?_
  refine J_seq ?_
  refine J_true rfl ?_
  refine J_skip ?_
  refine JX_seq ?_
  refine J_seq ?_
  refine J_block ?_
  refine J_seq ?_
  refine J_reg ?_
  refine JL_q (q_idxO Tryd.runUnderlying70 Tryd.sizeOf47 0) (k := ?_)
  refine JL_q (q_load Tryd.isAgg47) (k := ?_)
  refine JL_q (q_assign) (k := ?_)
  refine JL_nil ?_
  refine JX_seq ?_
  refine J_seq ?_
  refine J_reg ?_
  refine JL_q (q_move) (k := ?_)
  refine JL_q (q_move) (k := ?_)
  refine JL_inl (args := [(Value.agg [(Value.string (bs s))].toArray)]) (c_callA Tryd.call44) Tryd.func44 Tryd.ntmps44 ?_
  refine J_seq ?_
  refine J_reg ?_
  refine JL_a noMk (a_box (l := [_])) (k := fun r7 hr7 => ?_)
  refine JL_a noMk (a_alloc (l := [_, _]) Tryd.zeroValue23) (k := fun r8 hr8 => ?_)
  refine JL_nil ?_
  refine JX_seq ?_
  refine J_seq ?_
  refine J_reg ?_
  refine JL_inl (args := []) (c_callA Tryd.call25) Tryd.func25 Tryd.ntmps25 ?_
  refine J_seq ?_
  refine J_reg ?_
  refine JL_a noMk (a_alloc (l := [_, _]) Tryd.zeroValue23) (k := fun r9 hr9 => ?_)
  refine JL_nil ?_
  refine JX_seq ?_
  refine J_seq ?_
  refine J_reg ?_
  refine JL_q (q_build (cs := [_, _]) Tryd.zeroValue23 PL_23) (k := ?_)
  refine JL_s (w_store (l' := [_, _]) Tryd.sizeOf23) (k := ?_)
  refine JL_nil ?_
  refine JX_seq ?_
  refine J_ret ?_
  refine JX_retI Tryd.results25 (Res.agg Tryd.isAgg23 Tryd.sizeOf23 rfl (by repeat (first | exact List.mem_cons_self | apply List.mem_cons_of_mem | apply List.mem_append_right)) rfl Res.nil) ?_
  refine JL_s (w_store (l' := [_, _]) Tryd.sizeOf23) (k := ?_)
  refine JL_nil ?_
  refine JX_seq ?_
  refine J_ret ?_
  refine JX_retI Tryd.results44 (Res.agg Tryd.isAgg23 Tryd.sizeOf23 rfl (by repeat (first | exact List.mem_cons_self | apply List.mem_cons_of_mem | apply List.mem_append_right)) rfl Res.nil) ?_
  refine JL_yIn (vs := [(Value.agg [(Value.int .i64 (0)), (Value.int .i64 (65535))].toArray)]) hl5 ((List.Perm.cons _ ((List.Perm.cons _ ((List.Perm.cons _ ((List.Perm.cons _ (List.Perm.refl _)).trans (List.Perm.swap _ _ _))).trans (List.Perm.swap _ _ _))).trans (List.Perm.swap _ _ _))).trans (List.Perm.swap _ _ _)) y_call ?_
  refine J_reg ?_
  refine JL_a noMk (a_alloc (l := [_, _]) Tryd.zeroValue23) (k := fun r10 hr10 => ?_)
  refine JL_s (w_store (l' := [_, _]) Tryd.sizeOf23) (k := ?_)
  refine JL_nil ?_
  refine JX_begin ((List.Perm.cons _ (List.Perm.refl _)).trans (List.Perm.swap _ _ _)) ?_
  refine J_block ?_
  refine J_seq ?_
  refine J_reg ?_
  refine JL_q (q_loadA Tryd.isAgg23 Tryd.sizeOf23) (k := ?_)
  refine JL_v (args := [(Value.agg [(Value.int .i64 (0)), (Value.int .i64 (65535))].toArray)]) (c_callA Tryd.call10) (fun w1 hw1 => pPrint_ok w1 (p := (PortsT.mk 0 65535)) (hG := hG.ext hw1.ext_out) (hE := hE.ext hw1.ext_out)) (k := ?_)
  refine JL_q (q_move) (k := ?_)
  refine JL_q (q_ext) (k := ?_)
  refine JL_q (q_ext) (k := ?_)
  refine JL_q (q_assign) (k := ?_)
  refine JL_q (q_assign) (k := ?_)
  refine JL_nil ?_
  refine JX_seq ?_
  refine J_seq ?_
  refine J_reg ?_
  refine JL_q (q_move) (k := ?_)
  refine JL_q (q_eql) (k := ?_)
  refine JL_q (q_move) (k := ?_)
  refine JL_dec 17 rfl (fun hq1 => ?_) (fun hq1 => ?_)
  rotate_left
  · refine JL_skips 3 rfl ?_
    refine JL_q (q_pickF) (k := ?_)
    refine JL_nil ?_
    refine JX_seq ?_
    refine J_false rfl ?_
    refine J_skip ?_
    refine JX_block ?_
    refine JX_roundI (List.Perm.refl _) ?_
    refine JL_q (q_not) (k := ?_)
    refine JL_nil ?_
    refine JX_seq ?_
    refine J_false rfl ?_
    refine J_skip ?_
    refine JX_block ?_
    refine JX_seq ?_
    refine J_reg ?_
    refine JL_q (q_add) (k := ?_)
    refine JL_q (q_move) (k := ?_)
    refine JL_nil ?_
    refine JX_again ?_
    refine J_seq ?_
    refine J_reg ?_
    refine JL_q (q_lss) (k := ?_)
    refine JL_nil ?_
    refine JX_seq ?_
    refine J_seq ?_
    refine J_true rfl ?_
    refine J_skip ?_
    refine JX_seq ?_
    refine J_seq ?_
    refine J_block ?_
    refine J_seq ?_
    refine J_reg ?_
    refine JL_q (q_idxO Tryd.runUnderlying70 Tryd.sizeOf47 1) (k := ?_)
    refine JL_q (q_load Tryd.isAgg47) (k := ?_)
    refine JL_q (q_assign) (k := ?_)
    refine JL_nil ?_
    refine JX_seq ?_
    refine J_seq ?_
    refine J_reg ?_
    refine JL_q (q_move) (k := ?_)
    refine JL_q (q_move) (k := ?_)
    refine JL_inl (args := [(Value.agg [(Value.string (bs s))].toArray)]) (c_callA Tryd.call45) Tryd.func45 Tryd.ntmps45 ?_
    refine J_seq ?_
    refine J_reg ?_
    refine JL_a noMk (a_box (l := [_])) (k := fun r20 hr20 => ?_)
    refine JL_a noMk (a_alloc (l := [_, _]) Tryd.zeroValue23) (k := fun r21 hr21 => ?_)
    refine JL_nil ?_
    refine JX_seq ?_
    refine J_seq ?_
    refine J_plan mixed 7 [(true, 0), (true, 1), (true, 3), (true, 4), (false, 2), (false, 5), (true, 6)] (by kernel_rfl) ?_
    refine JD_q (q_fld FO_69_0) (k := ?_)
    refine JD_q (q_loadA Tryd.isAgg65 Tryd.sizeOf65) (k := ?_)
    refine JD_q (q_fld FO_69_0) (k := ?_)
    refine JD_q (q_loadA Tryd.isAgg65 Tryd.sizeOf65) (k := ?_)
    refine JD_v (args := [(Value.agg [(Value.string (bs s))].toArray)]) (c_callA Tryd.call39) (fun w1 hw1 => pNumber_ok w1 (t := s) (n_t := by first | omega | (simp only [List.length_append, List.length_take, List.length_drop, List.length_set, List.length_replicate, List.length_cons, List.length_nil, List.length_map]; omega) | (simp only [List.length_append, List.length_take, List.length_drop, List.length_set, List.length_replicate, List.length_cons, List.length_nil, List.length_map] at *; omega) | decide)) (k := ?_)
    refine JD_v (args := [(Value.agg [(Value.string (bs s))].toArray)]) (c_callA Tryd.call39) (fun w1 hw1 => pNumber_ok w1 (t := s) (n_t := by first | omega | (simp only [List.length_append, List.length_take, List.length_drop, List.length_set, List.length_replicate, List.length_cons, List.length_nil, List.length_map]; omega) | (simp only [List.length_append, List.length_take, List.length_drop, List.length_set, List.length_replicate, List.length_cons, List.length_nil, List.length_map] at *; omega) | decide)) (k := ?_)
    refine JD_q (q_build (cs := [_, _]) Tryd.zeroValue23 PL_23) (k := ?_)
    refine JD_nil ?_
    refine JL_s (w_store (l' := [_, _]) Tryd.sizeOf23) (k := ?_)
    refine JL_nil ?_
    refine JX_seq ?_
    refine J_ret ?_
    refine JX_retI Tryd.results45 (Res.agg Tryd.isAgg23 Tryd.sizeOf23 rfl (by repeat (first | exact List.mem_cons_self | apply List.mem_cons_of_mem | apply List.mem_append_right)) rfl Res.nil) ?_
    refine JL_yIn (vs := [(Value.agg [(Value.int .i64 ((pNumber s))), (Value.int .i64 ((pNumber s)))].toArray)]) hl5 ((List.Perm.cons _ ((List.Perm.cons _ (List.Perm.refl _)).trans (List.Perm.swap _ _ _))).trans (List.Perm.swap _ _ _)) y_call ?_
    refine J_reg ?_
    refine JL_a noMk (a_alloc (l := [_, _]) Tryd.zeroValue23) (k := fun r22 hr22 => ?_)
    refine JL_s (w_store (l' := [_, _]) Tryd.sizeOf23) (k := ?_)
    refine JL_nil ?_
    refine JX_begin ((List.Perm.cons _ (List.Perm.refl _)).trans (List.Perm.swap _ _ _)) ?_
    refine J_block ?_
    refine J_seq ?_
    refine J_reg ?_
    refine JL_q (q_loadA Tryd.isAgg23 Tryd.sizeOf23) (k := ?_)
    refine JL_v (args := [(Value.agg [(Value.int .i64 ((pNumber s))), (Value.int .i64 ((pNumber s)))].toArray)]) (c_callA Tryd.call10) (fun w1 hw1 => pPrint_ok w1 (p := (PortsT.mk (pNumber s) (pNumber s))) (hG := hG.ext hw1.ext_out) (hE := hE.ext hw1.ext_out)) (k := ?_)
    refine JL_q (q_move) (k := ?_)
    refine JL_q (q_ext) (k := ?_)
    refine JL_q (q_ext) (k := ?_)
    refine JL_q (q_assign) (k := ?_)
    refine JL_q (q_assign) (k := ?_)
    refine JL_nil ?_
    refine JX_seq ?_
    refine J_seq ?_
    refine J_reg ?_
    refine JL_q (q_move) (k := ?_)
    refine JL_q (q_eql) (k := ?_)
    refine JL_q (q_move) (k := ?_)
    refine JL_dec 17 rfl (fun hq17 => ?_) (fun hq17 => ?_)
    rotate_left
    · refine JL_skips 3 rfl ?_
      refine JL_q (q_pickF) (k := ?_)
      refine JL_nil ?_
      refine JX_seq ?_
      refine J_false rfl ?_
      refine J_skip ?_
      refine JX_block ?_
      refine JX_roundI (List.Perm.refl _) ?_
      refine JL_q (q_not) (k := ?_)
      refine JL_nil ?_
      refine JX_seq ?_
      refine J_false rfl ?_
      refine J_skip ?_
      refine JX_block ?_
      refine JX_seq ?_
      refine J_reg ?_
      refine JL_q (q_add) (k := ?_)
      refine JL_q (q_move) (k := ?_)
      refine JL_nil ?_
      refine JX_again ?_
      refine J_seq ?_
      refine J_reg ?_
      refine JL_q (q_lss) (k := ?_)
      refine JL_nil ?_
      refine JX_seq ?_
      refine J_seq ?_
      refine J_true rfl ?_
      refine J_skip ?_
      refine JX_seq ?_
      refine J_seq ?_
      refine J_block ?_
      refine J_seq ?_
      refine J_reg ?_
      refine JL_q (q_idxO Tryd.runUnderlying70 Tryd.sizeOf47 2) (k := ?_)
      refine JL_q (q_load Tryd.isAgg47) (k := ?_)
      refine JL_q (q_assign) (k := ?_)
      refine JL_nil ?_
      refine JX_seq ?_
      refine J_seq ?_
      refine J_reg ?_
      refine JL_q (q_move) (k := ?_)
      refine JL_q (q_move) (k := ?_)
      refine JL_inl (args := [(Value.agg [(Value.string (bs s))].toArray)]) (c_callA Tryd.call46) Tryd.func46 Tryd.ntmps46 ?_
      refine J_seq ?_
      refine J_reg ?_
      refine JL_a noMk (a_box (l := [_])) (k := fun r26 hr26 => ?_)
      refine JL_a noMk (a_alloc (l := [_, _]) Tryd.zeroValue23) (k := fun r27 hr27 => ?_)
      refine JL_nil ?_
      refine JX_seq ?_
      refine J_seq ?_
      refine J_reg ?_
      refine JL_q (q_fld FO_69_0) (k := ?_)
      refine JL_q (q_fld FO_65_0) (k := ?_)
      refine JL_q (q_load Tryd.isAgg9) (k := ?_)
      refine JL_v (args := [(Value.string (bs s)), (Value.string (bs ([45] : Str)))]) (c_callA Tryd.call37) (fun w1 hw1 => Cut_ok w1 (s := s) (sep := ([45] : Str)) (hG := hG.ext hw1.ext_out) (hn := by first | omega | (simp only [List.length_append, List.length_take, List.length_drop, List.length_set, List.length_replicate, List.length_cons, List.length_nil, List.length_map]; omega) | (simp only [List.length_append, List.length_take, List.length_drop, List.length_set, List.length_replicate, List.length_cons, List.length_nil, List.length_map] at *; omega))) (k := ?_)
      have hct_7533 := cut_len s ([45] : Str)
      refine JL_q (q_move) (k := ?_)
      refine JL_q (q_ext) (k := ?_)
      refine JL_q (q_ext) (k := ?_)
      refine JL_q (q_ext) (k := ?_)
      refine JL_q (q_assign) (k := ?_)
      refine JL_q (q_assign) (k := ?_)
      refine JL_q (q_assign) (k := ?_)
      refine JL_nil ?_
      refine JX_seq ?_
      refine J_seq ?_
      refine J_reg ?_
      refine JL_q (q_move) (k := ?_)
      refine JL_q (q_build (cs := [_]) Tryd.zeroValue65 PL_65) (k := ?_)
      refine JL_v (args := [(Value.agg [(Value.string (bs ((Lib.cut s ([45] : Str)).1)))].toArray)]) (c_callA Tryd.call39) (fun w1 hw1 => pNumber_ok w1 (t := ((Lib.cut s ([45] : Str)).1)) (n_t := by first | omega | (simp only [List.length_append, List.length_take, List.length_drop, List.length_set, List.length_replicate, List.length_cons, List.length_nil, List.length_map]; omega) | (simp only [List.length_append, List.length_take, List.length_drop, List.length_set, List.length_replicate, List.length_cons, List.length_nil, List.length_map] at *; omega) | decide)) (k := ?_)
      refine JL_q (q_move) (k := ?_)
      refine JL_q (q_build (cs := [_]) Tryd.zeroValue65 PL_65) (k := ?_)
      refine JL_v (args := [(Value.agg [(Value.string (bs ((Lib.cut s ([45] : Str)).2.1)))].toArray)]) (c_callA Tryd.call39) (fun w1 hw1 => pNumber_ok w1 (t := ((Lib.cut s ([45] : Str)).2.1)) (n_t := by first | omega | (simp only [List.length_append, List.length_take, List.length_drop, List.length_set, List.length_replicate, List.length_cons, List.length_nil, List.length_map]; omega) | (simp only [List.length_append, List.length_take, List.length_drop, List.length_set, List.length_replicate, List.length_cons, List.length_nil, List.length_map] at *; omega) | decide)) (k := ?_)
      refine JL_q (q_build (cs := [_, _]) Tryd.zeroValue23 PL_23) (k := ?_)
      refine JL_s (w_store (l' := [_, _]) Tryd.sizeOf23) (k := ?_)
      refine JL_nil ?_
      refine JX_seq ?_
      refine J_ret ?_
      refine JX_retI Tryd.results46 (Res.agg Tryd.isAgg23 Tryd.sizeOf23 rfl (by repeat (first | exact List.mem_cons_self | apply List.mem_cons_of_mem | apply List.mem_append_right)) rfl Res.nil) ?_
      refine JL_yIn (vs := [(Value.agg [(Value.int .i64 ((pNumber ((Lib.cut s ([45] : Str)).1)))), (Value.int .i64 ((pNumber ((Lib.cut s ([45] : Str)).2.1))))].toArray)]) hl5 ((List.Perm.cons _ ((List.Perm.cons _ (List.Perm.refl _)).trans (List.Perm.swap _ _ _))).trans (List.Perm.swap _ _ _)) y_call ?_
      refine J_reg ?_
      refine JL_a noMk (a_alloc (l := [_, _]) Tryd.zeroValue23) (k := fun r28 hr28 => ?_)
      refine JL_s (w_store (l' := [_, _]) Tryd.sizeOf23) (k := ?_)
      refine JL_nil ?_
      refine JX_begin ((List.Perm.cons _ (List.Perm.refl _)).trans (List.Perm.swap _ _ _)) ?_
      refine J_block ?_
      refine J_seq ?_
      refine J_reg ?_
      refine JL_q (q_loadA Tryd.isAgg23 Tryd.sizeOf23) (k := ?_)
      refine JL_v (args := [(Value.agg [(Value.int .i64 ((pNumber ((Lib.cut s ([45] : Str)).1)))), (Value.int .i64 ((pNumber ((Lib.cut s ([45] : Str)).2.1))))].toArray)]) (c_callA Tryd.call10) (fun w1 hw1 => pPrint_ok w1 (p := (PortsT.mk (pNumber ((Lib.cut s ([45] : Str)).1)) (pNumber ((Lib.cut s ([45] : Str)).2.1)))) (hG := hG.ext hw1.ext_out) (hE := hE.ext hw1.ext_out)) (k := ?_)
      refine JL_q (q_move) (k := ?_)
      refine JL_q (q_ext) (k := ?_)
      refine JL_q (q_ext) (k := ?_)
      refine JL_q (q_assign) (k := ?_)
      refine JL_q (q_assign) (k := ?_)
      refine JL_nil ?_
      refine JX_seq ?_
      refine J_seq ?_
      refine J_reg ?_
      refine JL_q (q_move) (k := ?_)
      refine JL_q (q_eql) (k := ?_)
      refine JL_q (q_move) (k := ?_)
      refine JL_dec 17 rfl (fun hq25 => ?_) (fun hq25 => ?_)
      rotate_left
      · refine JL_skips 3 rfl ?_
        refine JL_q (q_pickF) (k := ?_)
        refine JL_nil ?_
        refine JX_seq ?_
        refine J_false rfl ?_
        refine J_skip ?_
        refine JX_block ?_
        refine JX_roundI (List.Perm.refl _) ?_
        refine JL_q (q_not) (k := ?_)
        refine JL_nil ?_
        refine JX_seq ?_
        refine J_false rfl ?_
        refine J_skip ?_
        refine JX_block ?_
        refine JX_seq ?_
        refine J_reg ?_
        refine JL_q (q_add) (k := ?_)
        refine JL_q (q_move) (k := ?_)
        refine JL_nil ?_
        refine JX_again ?_
        refine J_seq ?_
        refine J_reg ?_
        refine JL_q (q_lss) (k := ?_)
        refine JL_nil ?_
        refine JX_seq ?_
        refine J_seq ?_
        refine J_false rfl ?_
        refine J_exit ?_
        refine JX_seq_exit ?_
        refine JX_inv_exit ?_
        refine JX_block_hit ?_
        refine JX_scope ?_
        refine JX_it0 (.inr rfl) Tryd.results43 (List.Perm.refl _) ?_
        refine JX_block ?_
        refine JX_seq ?_
        refine J_seq ?_
        refine J_reg ?_
        refine JL_q (q_build (cs := [_, _]) Tryd.zeroValue23 PL_23) (k := ?_)
        obtain ⟨Thgl29, fhgl29, hgl29⟩ := hE.v0
        refine JL_q (q_loadB Tryd.isAgg46 hgl29) (k := ?_)
        refine JL_inl (args := [(Value.iface 135 (.pointer (some ea0)))]) (c_callA Tryd.call24) Tryd.func24 Tryd.ntmps24 ?_
        refine J_seq ?_
        refine J_reg ?_
        refine JL_q (q_assign) (k := ?_)
        refine JL_nil ?_
        refine JX_seq ?_
        refine J_seq ?_
        refine J_block ?_
        refine J_seq ?_
        refine J_reg ?_
        refine JL_q (q_move) (k := ?_)
        obtain ⟨Thgl30, fhgl30, hgl30⟩ := hE.v0
        refine JL_q (q_loadB Tryd.isAgg46 hgl30) (k := ?_)
        refine JL_v (args := [(Value.iface 135 (.pointer (some ea0))), (Value.iface 135 (.pointer (some ea0)))]) (c_callA Tryd.call41) (fun w1 hw1 => is_same_v w1) (k := ?_)
        refine JL_q (q_assign) (k := ?_)
        refine JL_nil ?_
        refine JX_seq ?_
        refine J_true rfl ?_
        refine J_seq ?_
        refine J_reg ?_
        refine JL_q (q_assign) (k := ?_)
        refine JL_nil ?_
        refine JX_seq ?_
        refine J_ret ?_
        refine JX_block_ret ?_
        refine JX_seq_ret ?_
        refine JX_retI Tryd.results24 (Res.tmp rfl Res.nil) ?_
        refine JL_s (w_store (l' := [_, _]) Tryd.sizeOf23) (k := ?_)
        refine JL_s (w_store (l' := [_]) Tryd.sizeOf26) (k := ?_)
        refine JL_nil ?_
        refine JX_seq ?_
        refine J_ret ?_
        refine JX_retD [rD5] ((List.Perm.cons _ ((List.Perm.cons _ ((List.Perm.cons _ ((List.Perm.cons _ ((List.Perm.cons _ ((List.Perm.cons _ ((List.Perm.cons _ ((List.Perm.cons _ ((List.Perm.cons _ ((List.Perm.cons _ ((List.Perm.cons _ ((List.Perm.cons _ (List.Perm.refl _)).trans (List.Perm.swap _ _ _))).trans (List.Perm.swap _ _ _))).trans (List.Perm.swap _ _ _))).trans (List.Perm.swap _ _ _))).trans (List.Perm.swap _ _ _))).trans (List.Perm.swap _ _ _))).trans (List.Perm.swap _ _ _))).trans (List.Perm.swap _ _ _))).trans (List.Perm.swap _ _ _))).trans (List.Perm.swap _ _ _))).trans (List.Perm.swap _ _ _))).trans (List.Perm.swap _ _ _)) Tryd.results12 (Res.agg Tryd.isAgg23 Tryd.sizeOf23 rfl (by repeat (first | exact List.mem_cons_self | apply List.mem_cons_of_mem | apply List.mem_append_right)) rfl (Res.word Tryd.isAgg26 rfl (by repeat (first | exact List.mem_cons_self | apply List.mem_cons_of_mem | apply List.mem_append_right)) rfl Res.nil)) (fun w1 hw1 => ?_)
        exact ⟨(by rw [((((hF.neg hq1).neg hq17).neg hq25)).eq] <;> first | rfl | (simp only [List.length_set] <;> rfl)), hw1.ext_out⟩
      refine JL_qg (q_move) (k := ?_)
      refine JL_qg (q_load Tryd.isAgg9) (k := ?_)
      refine JL_qg (q_eqT) (k := ?_)
      refine JL_q (q_pickT) (k := ?_)
      refine JL_nil ?_
      refine JX_seq ?_
      refine J_dec rfl (fun hq26 => ?_) (fun hq26 => ?_)
      · refine J_seq ?_
        refine J_reg ?_
        refine JL_q (q_loadA Tryd.isAgg23 Tryd.sizeOf23) (k := ?_)
        refine JL_s (w_store (l' := [_, _]) Tryd.sizeOf23) (k := ?_)
        refine JL_s (w_store (l' := [_]) Tryd.sizeOf26) (k := ?_)
        refine JL_nil ?_
        refine JX_seq ?_
        refine J_ret ?_
        refine JX_block_ret ?_
        refine JX_roundI_ret (List.Perm.refl _) ?_
        refine JL_q (q_not) (k := ?_)
        refine JL_nil ?_
        refine JX_seq ?_
        refine J_true rfl ?_
        refine J_exit ?_
        refine JX_block_miss rfl ?_
        refine JX_seq_exit ?_
        refine JX_inv_exit ?_
        refine JX_block_hit ?_
        refine JX_scope ?_
        refine JX_it1 (.inr rfl) Tryd.results43 (List.Perm.refl _) ?_
        refine J_ret ?_
        refine JX_block_ret ?_
        refine JX_seq_ret ?_
        refine JX_retD [rD5] ((List.Perm.cons _ ((List.Perm.cons _ ((List.Perm.cons _ ((List.Perm.cons _ ((List.Perm.cons _ ((List.Perm.cons _ ((List.Perm.cons _ ((List.Perm.cons _ ((List.Perm.cons _ ((List.Perm.cons _ ((List.Perm.cons _ ((List.Perm.cons _ (List.Perm.refl _)).trans (List.Perm.swap _ _ _))).trans (List.Perm.swap _ _ _))).trans (List.Perm.swap _ _ _))).trans (List.Perm.swap _ _ _))).trans (List.Perm.swap _ _ _))).trans (List.Perm.swap _ _ _))).trans (List.Perm.swap _ _ _))).trans (List.Perm.swap _ _ _))).trans (List.Perm.swap _ _ _))).trans (List.Perm.swap _ _ _))).trans (List.Perm.swap _ _ _))).trans (List.Perm.swap _ _ _)) Tryd.results12 (Res.agg Tryd.isAgg23 Tryd.sizeOf23 rfl (by repeat (first | exact List.mem_cons_self | apply List.mem_cons_of_mem | apply List.mem_append_right)) rfl (Res.word Tryd.isAgg26 rfl (by repeat (first | exact List.mem_cons_self | apply List.mem_cons_of_mem | apply List.mem_append_right)) rfl Res.nil)) (fun w1 hw1 => ?_)
        exact ⟨(by rw [(((((hF.neg hq1).neg hq17).pos hq25).pos hq26)).eq] <;> first | rfl | (simp only [List.length_set] <;> rfl)), hw1.ext_out⟩
      refine J_skip ?_
      refine JX_block ?_
      refine JX_roundI (List.Perm.refl _) ?_
      refine JL_q (q_not) (k := ?_)
      refine JL_nil ?_
      refine JX_seq ?_
      refine J_false rfl ?_
      refine J_skip ?_
      refine JX_block ?_
      refine JX_seq ?_
      refine J_reg ?_
      refine JL_q (q_add) (k := ?_)
      refine JL_q (q_move) (k := ?_)
      refine JL_nil ?_
      refine JX_again ?_
      refine J_seq ?_
      refine J_reg ?_
      refine JL_q (q_lss) (k := ?_)
      refine JL_nil ?_
      refine JX_seq ?_
      refine J_seq ?_
      refine J_false rfl ?_
      refine J_exit ?_
      refine JX_seq_exit ?_
      refine JX_inv_exit ?_
      refine JX_block_hit ?_
      refine JX_scope ?_
      refine JX_it0 (.inr rfl) Tryd.results43 (List.Perm.refl _) ?_
      refine JX_block ?_
      refine JX_seq ?_
      refine J_seq ?_
      refine J_reg ?_
      refine JL_q (q_build (cs := [_, _]) Tryd.zeroValue23 PL_23) (k := ?_)
      obtain ⟨Thgl27, fhgl27, hgl27⟩ := hE.v0
      refine JL_q (q_loadB Tryd.isAgg46 hgl27) (k := ?_)
      refine JL_inl (args := [(Value.iface 135 (.pointer (some ea0)))]) (c_callA Tryd.call24) Tryd.func24 Tryd.ntmps24 ?_
      refine J_seq ?_
      refine J_reg ?_
      refine JL_q (q_assign) (k := ?_)
      refine JL_nil ?_
      refine JX_seq ?_
      refine J_seq ?_
      refine J_block ?_
      refine J_seq ?_
      refine J_reg ?_
      refine JL_q (q_move) (k := ?_)
      obtain ⟨Thgl28, fhgl28, hgl28⟩ := hE.v0
      refine JL_q (q_loadB Tryd.isAgg46 hgl28) (k := ?_)
      refine JL_v (args := [(Value.iface 135 (.pointer (some ea0))), (Value.iface 135 (.pointer (some ea0)))]) (c_callA Tryd.call41) (fun w1 hw1 => is_same_v w1) (k := ?_)
      refine JL_q (q_assign) (k := ?_)
      refine JL_nil ?_
      refine JX_seq ?_
      refine J_true rfl ?_
      refine J_seq ?_
      refine J_reg ?_
      refine JL_q (q_assign) (k := ?_)
      refine JL_nil ?_
      refine JX_seq ?_
      refine J_ret ?_
      refine JX_block_ret ?_
      refine JX_seq_ret ?_
      refine JX_retI Tryd.results24 (Res.tmp rfl Res.nil) ?_
      refine JL_s (w_store (l' := [_, _]) Tryd.sizeOf23) (k := ?_)
      refine JL_s (w_store (l' := [_]) Tryd.sizeOf26) (k := ?_)
      refine JL_nil ?_
      refine JX_seq ?_
      refine J_ret ?_
      refine JX_retD [rD5] ((List.Perm.cons _ ((List.Perm.cons _ ((List.Perm.cons _ ((List.Perm.cons _ ((List.Perm.cons _ ((List.Perm.cons _ ((List.Perm.cons _ ((List.Perm.cons _ ((List.Perm.cons _ ((List.Perm.cons _ ((List.Perm.cons _ ((List.Perm.cons _ (List.Perm.refl _)).trans (List.Perm.swap _ _ _))).trans (List.Perm.swap _ _ _))).trans (List.Perm.swap _ _ _))).trans (List.Perm.swap _ _ _))).trans (List.Perm.swap _ _ _))).trans (List.Perm.swap _ _ _))).trans (List.Perm.swap _ _ _))).trans (List.Perm.swap _ _ _))).trans (List.Perm.swap _ _ _))).trans (List.Perm.swap _ _ _))).trans (List.Perm.swap _ _ _))).trans (List.Perm.swap _ _ _)) Tryd.results12 (Res.agg Tryd.isAgg23 Tryd.sizeOf23 rfl (by repeat (first | exact List.mem_cons_self | apply List.mem_cons_of_mem | apply List.mem_append_right)) rfl (Res.word Tryd.isAgg26 rfl (by repeat (first | exact List.mem_cons_self | apply List.mem_cons_of_mem | apply List.mem_append_right)) rfl Res.nil)) (fun w1 hw1 => ?_)
      exact ⟨(by rw [(((((hF.neg hq1).neg hq17).pos hq25).neg hq26)).eq] <;> first | rfl | (simp only [List.length_set] <;> rfl)), hw1.ext_out⟩
    refine JL_qg (q_move) (k := ?_)
    refine JL_qg (q_load Tryd.isAgg9) (k := ?_)
    refine JL_qg (q_eqT) (k := ?_)
    refine JL_q (q_pickT) (k := ?_)
    refine JL_nil ?_
    refine JX_seq ?_
    refine J_dec rfl (fun hq18 => ?_) (fun hq18 => ?_)
    · refine J_seq ?_
      refine J_reg ?_
      refine JL_q (q_loadA Tryd.isAgg23 Tryd.sizeOf23) (k := ?_)
      refine JL_s (w_store (l' := [_, _]) Tryd.sizeOf23) (k := ?_)
      refine JL_s (w_store (l' := [_]) Tryd.sizeOf26) (k := ?_)
      refine JL_nil ?_
      refine JX_seq ?_
      refine J_ret ?_
      refine JX_block_ret ?_
      refine JX_roundI_ret (List.Perm.refl _) ?_
      refine JL_q (q_not) (k := ?_)
      refine JL_nil ?_
      refine JX_seq ?_
      refine J_true rfl ?_
      refine J_exit ?_
      refine JX_block_miss rfl ?_
      refine JX_seq_exit ?_
      refine JX_inv_exit ?_
      refine JX_block_hit ?_
      refine JX_scope ?_
      refine JX_it1 (.inr rfl) Tryd.results43 (List.Perm.refl _) ?_
      refine J_ret ?_
      refine JX_block_ret ?_
      refine JX_seq_ret ?_
      refine JX_retD [rD5] ((List.Perm.cons _ ((List.Perm.cons _ ((List.Perm.cons _ ((List.Perm.cons _ ((List.Perm.cons _ ((List.Perm.cons _ ((List.Perm.cons _ ((List.Perm.cons _ ((List.Perm.cons _ (List.Perm.refl _)).trans (List.Perm.swap _ _ _))).trans (List.Perm.swap _ _ _))).trans (List.Perm.swap _ _ _))).trans (List.Perm.swap _ _ _))).trans (List.Perm.swap _ _ _))).trans (List.Perm.swap _ _ _))).trans (List.Perm.swap _ _ _))).trans (List.Perm.swap _ _ _))).trans (List.Perm.swap _ _ _)) Tryd.results12 (Res.agg Tryd.isAgg23 Tryd.sizeOf23 rfl (by repeat (first | exact List.mem_cons_self | apply List.mem_cons_of_mem | apply List.mem_append_right)) rfl (Res.word Tryd.isAgg26 rfl (by repeat (first | exact List.mem_cons_self | apply List.mem_cons_of_mem | apply List.mem_append_right)) rfl Res.nil)) (fun w1 hw1 => ?_)
      exact ⟨(by rw [((((hF.neg hq1).pos hq17).pos hq18)).eq] <;> first | rfl | (simp only [List.length_set] <;> rfl)), hw1.ext_out⟩
    refine J_skip ?_
    refine JX_block ?_
    refine JX_roundI (List.Perm.refl _) ?_
    refine JL_q (q_not) (k := ?_)
    refine JL_nil ?_
    refine JX_seq ?_
    refine J_false rfl ?_
    refine J_skip ?_
    refine JX_block ?_
    refine JX_seq ?_
    refine J_reg ?_
    refine JL_q (q_add) (k := ?_)
    refine JL_q (q_move) (k := ?_)
    refine JL_nil ?_
    refine JX_again ?_
    refine J_seq ?_
    refine J_reg ?_
    refine JL_q (q_lss) (k := ?_)
    refine JL_nil ?_
    refine JX_seq ?_
    refine J_seq ?_
    refine J_true rfl ?_
    refine J_skip ?_
    refine JX_seq ?_
    refine J_seq ?_
    refine J_block ?_
    refine J_seq ?_
    refine J_reg ?_
    refine JL_q (q_idxO Tryd.runUnderlying70 Tryd.sizeOf47 2) (k := ?_)
    refine JL_q (q_load Tryd.isAgg47) (k := ?_)
    refine JL_q (q_assign) (k := ?_)
    refine JL_nil ?_
    refine JX_seq ?_
    refine J_seq ?_
    refine J_reg ?_
    refine JL_q (q_move) (k := ?_)
    refine JL_q (q_move) (k := ?_)
    refine JL_inl (args := [(Value.agg [(Value.string (bs s))].toArray)]) (c_callA Tryd.call46) Tryd.func46 Tryd.ntmps46 ?_
    refine J_seq ?_
    refine J_reg ?_
    refine JL_a noMk (a_box (l := [_])) (k := fun r23 hr23 => ?_)
    refine JL_a noMk (a_alloc (l := [_, _]) Tryd.zeroValue23) (k := fun r24 hr24 => ?_)
    refine JL_nil ?_
    refine JX_seq ?_
    refine J_seq ?_
    refine J_reg ?_
    refine JL_q (q_fld FO_69_0) (k := ?_)
    refine JL_q (q_fld FO_65_0) (k := ?_)
    refine JL_q (q_load Tryd.isAgg9) (k := ?_)
    refine JL_v (args := [(Value.string (bs s)), (Value.string (bs ([45] : Str)))]) (c_callA Tryd.call37) (fun w1 hw1 => Cut_ok w1 (s := s) (sep := ([45] : Str)) (hG := hG.ext hw1.ext_out) (hn := by first | omega | (simp only [List.length_append, List.length_take, List.length_drop, List.length_set, List.length_replicate, List.length_cons, List.length_nil, List.length_map]; omega) | (simp only [List.length_append, List.length_take, List.length_drop, List.length_set, List.length_replicate, List.length_cons, List.length_nil, List.length_map] at *; omega))) (k := ?_)
    have hct_7533 := cut_len s ([45] : Str)
    refine JL_q (q_move) (k := ?_)
    refine JL_q (q_ext) (k := ?_)
    refine JL_q (q_ext) (k := ?_)
    refine JL_q (q_ext) (k := ?_)
    refine JL_q (q_assign) (k := ?_)
    refine JL_q (q_assign) (k := ?_)
    refine JL_q (q_assign) (k := ?_)
    refine JL_nil ?_
    refine JX_seq ?_
    refine J_seq ?_
    refine J_reg ?_
    refine JL_q (q_move) (k := ?_)
    refine JL_q (q_build (cs := [_]) Tryd.zeroValue65 PL_65) (k := ?_)
    refine JL_v (args := [(Value.agg [(Value.string (bs ((Lib.cut s ([45] : Str)).1)))].toArray)]) (c_callA Tryd.call39) (fun w1 hw1 => pNumber_ok w1 (t := ((Lib.cut s ([45] : Str)).1)) (n_t := by first | omega | (simp only [List.length_append, List.length_take, List.length_drop, List.length_set, List.length_replicate, List.length_cons, List.length_nil, List.length_map]; omega) | (simp only [List.length_append, List.length_take, List.length_drop, List.length_set, List.length_replicate, List.length_cons, List.length_nil, List.length_map] at *; omega) | decide)) (k := ?_)
    refine JL_q (q_move) (k := ?_)
    refine JL_q (q_build (cs := [_]) Tryd.zeroValue65 PL_65) (k := ?_)
    refine JL_v (args := [(Value.agg [(Value.string (bs ((Lib.cut s ([45] : Str)).2.1)))].toArray)]) (c_callA Tryd.call39) (fun w1 hw1 => pNumber_ok w1 (t := ((Lib.cut s ([45] : Str)).2.1)) (n_t := by first | omega | (simp only [List.length_append, List.length_take, List.length_drop, List.length_set, List.length_replicate, List.length_cons, List.length_nil, List.length_map]; omega) | (simp only [List.length_append, List.length_take, List.length_drop, List.length_set, List.length_replicate, List.length_cons, List.length_nil, List.length_map] at *; omega) | decide)) (k := ?_)
    refine JL_q (q_build (cs := [_, _]) Tryd.zeroValue23 PL_23) (k := ?_)
    refine JL_s (w_store (l' := [_, _]) Tryd.sizeOf23) (k := ?_)
    refine JL_nil ?_
    refine JX_seq ?_
    refine J_ret ?_
    refine JX_retI Tryd.results46 (Res.agg Tryd.isAgg23 Tryd.sizeOf23 rfl (by repeat (first | exact List.mem_cons_self | apply List.mem_cons_of_mem | apply List.mem_append_right)) rfl Res.nil) ?_
    refine JL_yIn (vs := [(Value.agg [(Value.int .i64 ((pNumber ((Lib.cut s ([45] : Str)).1)))), (Value.int .i64 ((pNumber ((Lib.cut s ([45] : Str)).2.1))))].toArray)]) hl5 ((List.Perm.cons _ ((List.Perm.cons _ (List.Perm.refl _)).trans (List.Perm.swap _ _ _))).trans (List.Perm.swap _ _ _)) y_call ?_
    refine J_reg ?_
    refine JL_a noMk (a_alloc (l := [_, _]) Tryd.zeroValue23) (k := fun r25 hr25 => ?_)
    refine JL_s (w_store (l' := [_, _]) Tryd.sizeOf23) (k := ?_)
    refine JL_nil ?_
    refine JX_begin ((List.Perm.cons _ (List.Perm.refl _)).trans (List.Perm.swap _ _ _)) ?_
    refine J_block ?_
    refine J_seq ?_
    refine J_reg ?_
    refine JL_q (q_loadA Tryd.isAgg23 Tryd.sizeOf23) (k := ?_)
    refine JL_v (args := [(Value.agg [(Value.int .i64 ((pNumber ((Lib.cut s ([45] : Str)).1)))), (Value.int .i64 ((pNumber ((Lib.cut s ([45] : Str)).2.1))))].toArray)]) (c_callA Tryd.call10) (fun w1 hw1 => pPrint_ok w1 (p := (PortsT.mk (pNumber ((Lib.cut s ([45] : Str)).1)) (pNumber ((Lib.cut s ([45] : Str)).2.1)))) (hG := hG.ext hw1.ext_out) (hE := hE.ext hw1.ext_out)) (k := ?_)
    refine JL_q (q_move) (k := ?_)
    refine JL_q (q_ext) (k := ?_)
    refine JL_q (q_ext) (k := ?_)
    refine JL_q (q_assign) (k := ?_)
    refine JL_q (q_assign) (k := ?_)
    refine JL_nil ?_
    refine JX_seq ?_
    refine J_seq ?_
    refine J_reg ?_
    refine JL_q (q_move) (k := ?_)
    refine JL_q (q_eql) (k := ?_)
    refine JL_q (q_move) (k := ?_)
    refine JL_dec 17 rfl (fun hq19 => ?_) (fun hq19 => ?_)
    rotate_left
    · refine JL_skips 3 rfl ?_
      refine JL_q (q_pickF) (k := ?_)
      refine JL_nil ?_
      refine JX_seq ?_
      refine J_false rfl ?_
      refine J_skip ?_
      refine JX_block ?_
      refine JX_roundI (List.Perm.refl _) ?_
      refine JL_q (q_not) (k := ?_)
      refine JL_nil ?_
      refine JX_seq ?_
      refine J_false rfl ?_
      refine J_skip ?_
      refine JX_block ?_
      refine JX_seq ?_
      refine J_reg ?_
      refine JL_q (q_add) (k := ?_)
      refine JL_q (q_move) (k := ?_)
      refine JL_nil ?_
      refine JX_again ?_
      refine J_seq ?_
      refine J_reg ?_
      refine JL_q (q_lss) (k := ?_)
      refine JL_nil ?_
      refine JX_seq ?_
      refine J_seq ?_
      refine J_false rfl ?_
      refine J_exit ?_
      refine JX_seq_exit ?_
      refine JX_inv_exit ?_
      refine JX_block_hit ?_
      refine JX_scope ?_
      refine JX_it0 (.inr rfl) Tryd.results43 (List.Perm.refl _) ?_
      refine JX_block ?_
      refine JX_seq ?_
      refine J_seq ?_
      refine J_reg ?_
      refine JL_q (q_build (cs := [_, _]) Tryd.zeroValue23 PL_23) (k := ?_)
      obtain ⟨Thgl23, fhgl23, hgl23⟩ := hE.v0
      refine JL_q (q_loadB Tryd.isAgg46 hgl23) (k := ?_)
      refine JL_inl (args := [(Value.iface 135 (.pointer (some ea0)))]) (c_callA Tryd.call24) Tryd.func24 Tryd.ntmps24 ?_
      refine J_seq ?_
      refine J_reg ?_
      refine JL_q (q_assign) (k := ?_)
      refine JL_nil ?_
      refine JX_seq ?_
      refine J_seq ?_
      refine J_block ?_
      refine J_seq ?_
      refine J_reg ?_
      refine JL_q (q_move) (k := ?_)
      obtain ⟨Thgl24, fhgl24, hgl24⟩ := hE.v0
      refine JL_q (q_loadB Tryd.isAgg46 hgl24) (k := ?_)
      refine JL_v (args := [(Value.iface 135 (.pointer (some ea0))), (Value.iface 135 (.pointer (some ea0)))]) (c_callA Tryd.call41) (fun w1 hw1 => is_same_v w1) (k := ?_)
      refine JL_q (q_assign) (k := ?_)
      refine JL_nil ?_
      refine JX_seq ?_
      refine J_true rfl ?_
      refine J_seq ?_
      refine J_reg ?_
      refine JL_q (q_assign) (k := ?_)
      refine JL_nil ?_
      refine JX_seq ?_
      refine J_ret ?_
      refine JX_block_ret ?_
      refine JX_seq_ret ?_
      refine JX_retI Tryd.results24 (Res.tmp rfl Res.nil) ?_
      refine JL_s (w_store (l' := [_, _]) Tryd.sizeOf23) (k := ?_)
      refine JL_s (w_store (l' := [_]) Tryd.sizeOf26) (k := ?_)
      refine JL_nil ?_
      refine JX_seq ?_
      refine J_ret ?_
      refine JX_retD [rD5] ((List.Perm.cons _ ((List.Perm.cons _ ((List.Perm.cons _ ((List.Perm.cons _ ((List.Perm.cons _ ((List.Perm.cons _ ((List.Perm.cons _ ((List.Perm.cons _ ((List.Perm.cons _ ((List.Perm.cons _ ((List.Perm.cons _ ((List.Perm.cons _ (List.Perm.refl _)).trans (List.Perm.swap _ _ _))).trans (List.Perm.swap _ _ _))).trans (List.Perm.swap _ _ _))).trans (List.Perm.swap _ _ _))).trans (List.Perm.swap _ _ _))).trans (List.Perm.swap _ _ _))).trans (List.Perm.swap _ _ _))).trans (List.Perm.swap _ _ _))).trans (List.Perm.swap _ _ _))).trans (List.Perm.swap _ _ _))).trans (List.Perm.swap _ _ _))).trans (List.Perm.swap _ _ _)) Tryd.results12 (Res.agg Tryd.isAgg23 Tryd.sizeOf23 rfl (by repeat (first | exact List.mem_cons_self | apply List.mem_cons_of_mem | apply List.mem_append_right)) rfl (Res.word Tryd.isAgg26 rfl (by repeat (first | exact List.mem_cons_self | apply List.mem_cons_of_mem | apply List.mem_append_right)) rfl Res.nil)) (fun w1 hw1 => ?_)
      exact ⟨(by rw [(((((hF.neg hq1).pos hq17).neg hq18).neg hq19)).eq] <;> first | rfl | (simp only [List.length_set] <;> rfl)), hw1.ext_out⟩
    refine JL_qg (q_move) (k := ?_)
    refine JL_qg (q_load Tryd.isAgg9) (k := ?_)
    refine JL_qg (q_eqT) (k := ?_)
    refine JL_q (q_pickT) (k := ?_)
    refine JL_nil ?_
    refine JX_seq ?_
    refine J_dec rfl (fun hq20 => ?_) (fun hq20 => ?_)
    · refine J_seq ?_
      refine J_reg ?_
      refine JL_q (q_loadA Tryd.isAgg23 Tryd.sizeOf23) (k := ?_)
      refine JL_s (w_store (l' := [_, _]) Tryd.sizeOf23) (k := ?_)
      refine JL_s (w_store (l' := [_]) Tryd.sizeOf26) (k := ?_)
      refine JL_nil ?_
      refine JX_seq ?_
      refine J_ret ?_
      refine JX_block_ret ?_
      refine JX_roundI_ret (List.Perm.refl _) ?_
      refine JL_q (q_not) (k := ?_)
      refine JL_nil ?_
      refine JX_seq ?_
      refine J_true rfl ?_
      refine J_exit ?_
      refine JX_block_miss rfl ?_
      refine JX_seq_exit ?_
      refine JX_inv_exit ?_
      refine JX_block_hit ?_
      refine JX_scope ?_
      refine JX_it1 (.inr rfl) Tryd.results43 (List.Perm.refl _) ?_
      refine J_ret ?_
      refine JX_block_ret ?_
      refine JX_seq_ret ?_
      refine JX_retD [rD5] ((List.Perm.cons _ ((List.Perm.cons _ ((List.Perm.cons _ ((List.Perm.cons _ ((List.Perm.cons _ ((List.Perm.cons _ ((List.Perm.cons _ ((List.Perm.cons _ ((List.Perm.cons _ ((List.Perm.cons _ ((List.Perm.cons _ ((List.Perm.cons _ (List.Perm.refl _)).trans (List.Perm.swap _ _ _))).trans (List.Perm.swap _ _ _))).trans (List.Perm.swap _ _ _))).trans (List.Perm.swap _ _ _))).trans (List.Perm.swap _ _ _))).trans (List.Perm.swap _ _ _))).trans (List.Perm.swap _ _ _))).trans (List.Perm.swap _ _ _))).trans (List.Perm.swap _ _ _))).trans (List.Perm.swap _ _ _))).trans (List.Perm.swap _ _ _))).trans (List.Perm.swap _ _ _)) Tryd.results12 (Res.agg Tryd.isAgg23 Tryd.sizeOf23 rfl (by repeat (first | exact List.mem_cons_self | apply List.mem_cons_of_mem | apply List.mem_append_right)) rfl (Res.word Tryd.isAgg26 rfl (by repeat (first | exact List.mem_cons_self | apply List.mem_cons_of_mem | apply List.mem_append_right)) rfl Res.nil)) (fun w1 hw1 => ?_)
      exact ⟨(by rw [((((((hF.neg hq1).pos hq17).neg hq18).pos hq19).pos hq20)).eq] <;> first | rfl | (simp only [List.length_set] <;> rfl)), hw1.ext_out⟩
    refine J_skip ?_
    refine JX_block ?_
    refine JX_roundI (List.Perm.refl _) ?_
    refine JL_q (q_not) (k := ?_)
    refine JL_nil ?_
    refine JX_seq ?_
    refine J_false rfl ?_
    refine J_skip ?_
    refine JX_block ?_
    refine JX_seq ?_
    refine J_reg ?_
    refine JL_q (q_add) (k := ?_)
    refine JL_q (q_move) (k := ?_)
    refine JL_nil ?_
    refine JX_again ?_
    refine J_seq ?_
    refine J_reg ?_
    refine JL_q (q_lss) (k := ?_)
    refine JL_nil ?_
    refine JX_seq ?_
    refine J_seq ?_
    refine J_false rfl ?_
    refine J_exit ?_
    refine JX_seq_exit ?_
    refine JX_inv_exit ?_
    refine JX_block_hit ?_
    refine JX_scope ?_
    refine JX_it0 (.inr rfl) Tryd.results43 (List.Perm.refl _) ?_
    refine JX_block ?_
    refine JX_seq ?_
    refine J_seq ?_
    refine J_reg ?_
    refine JL_q (q_build (cs := [_, _]) Tryd.zeroValue23 PL_23) (k := ?_)
    obtain ⟨Thgl21, fhgl21, hgl21⟩ := hE.v0
    refine JL_q (q_loadB Tryd.isAgg46 hgl21) (k := ?_)
    refine JL_inl (args := [(Value.iface 135 (.pointer (some ea0)))]) (c_callA Tryd.call24) Tryd.func24 Tryd.ntmps24 ?_
    refine J_seq ?_
    refine J_reg ?_
    refine JL_q (q_assign) (k := ?_)
    refine JL_nil ?_
    refine JX_seq ?_
    refine J_seq ?_
    refine J_block ?_
    refine J_seq ?_
    refine J_reg ?_
    refine JL_q (q_move) (k := ?_)
    obtain ⟨Thgl22, fhgl22, hgl22⟩ := hE.v0
    refine JL_q (q_loadB Tryd.isAgg46 hgl22) (k := ?_)
    refine JL_v (args := [(Value.iface 135 (.pointer (some ea0))), (Value.iface 135 (.pointer (some ea0)))]) (c_callA Tryd.call41) (fun w1 hw1 => is_same_v w1) (k := ?_)
    refine JL_q (q_assign) (k := ?_)
    refine JL_nil ?_
    refine JX_seq ?_
    refine J_true rfl ?_
    refine J_seq ?_
    refine J_reg ?_
    refine JL_q (q_assign) (k := ?_)
    refine JL_nil ?_
    refine JX_seq ?_
    refine J_ret ?_
    refine JX_block_ret ?_
    refine JX_seq_ret ?_
    refine JX_retI Tryd.results24 (Res.tmp rfl Res.nil) ?_
    refine JL_s (w_store (l' := [_, _]) Tryd.sizeOf23) (k := ?_)
    refine JL_s (w_store (l' := [_]) Tryd.sizeOf26) (k := ?_)
    refine JL_nil ?_
    refine JX_seq ?_
    refine J_ret ?_
    refine JX_retD [rD5] ((List.Perm.cons _ ((List.Perm.cons _ ((List.Perm.cons _ ((List.Perm.cons _ ((List.Perm.cons _ ((List.Perm.cons _ ((List.Perm.cons _ ((List.Perm.cons _ ((List.Perm.cons _ ((List.Perm.cons _ ((List.Perm.cons _ ((List.Perm.cons _ (List.Perm.refl _)).trans (List.Perm.swap _ _ _))).trans (List.Perm.swap _ _ _))).trans (List.Perm.swap _ _ _))).trans (List.Perm.swap _ _ _))).trans (List.Perm.swap _ _ _))).trans (List.Perm.swap _ _ _))).trans (List.Perm.swap _ _ _))).trans (List.Perm.swap _ _ _))).trans (List.Perm.swap _ _ _))).trans (List.Perm.swap _ _ _))).trans (List.Perm.swap _ _ _))).trans (List.Perm.swap _ _ _)) Tryd.results12 (Res.agg Tryd.isAgg23 Tryd.sizeOf23 rfl (by repeat (first | exact List.mem_cons_self | apply List.mem_cons_of_mem | apply List.mem_append_right)) rfl (Res.word Tryd.isAgg26 rfl (by repeat (first | exact List.mem_cons_self | apply List.mem_cons_of_mem | apply List.mem_append_right)) rfl Res.nil)) (fun w1 hw1 => ?_)
    exact ⟨(by rw [((((((hF.neg hq1).pos hq17).neg hq18).pos hq19).neg hq20)).eq] <;> first | rfl | (simp only [List.length_set] <;> rfl)), hw1.ext_out⟩
  refine JL_qg (q_move) (k := ?_)
  refine JL_qg (q_load Tryd.isAgg9) (k := ?_)
  refine JL_qg (q_eqT) (k := ?_)
  refine JL_q (q_pickT) (k := ?_)
  refine JL_nil ?_
  refine JX_seq ?_
  refine J_dec rfl (fun hq2 => ?_) (fun hq2 => ?_)
  · refine J_seq ?_
    refine J_reg ?_
    refine JL_q (q_loadA Tryd.isAgg23 Tryd.sizeOf23) (k := ?_)
    refine JL_s (w_store (l' := [_, _]) Tryd.sizeOf23) (k := ?_)
    refine JL_s (w_store (l' := [_]) Tryd.sizeOf26) (k := ?_)
    refine JL_nil ?_
    refine JX_seq ?_
    refine J_ret ?_
    refine JX_block_ret ?_
    refine JX_roundI_ret (List.Perm.refl _) ?_
    refine JL_q (q_not) (k := ?_)
    refine JL_nil ?_
    refine JX_seq ?_
    refine J_true rfl ?_
    refine J_exit ?_
    refine JX_block_miss rfl ?_
    refine JX_seq_exit ?_
    refine JX_inv_exit ?_
    refine JX_block_hit ?_
    refine JX_scope ?_
    refine JX_it1 (.inr rfl) Tryd.results43 (List.Perm.refl _) ?_
    refine J_ret ?_
    refine JX_block_ret ?_
    refine JX_seq_ret ?_
    refine JX_retD [rD5] ((List.Perm.cons _ ((List.Perm.cons _ ((List.Perm.cons _ ((List.Perm.cons _ ((List.Perm.cons _ ((List.Perm.cons _ (List.Perm.refl _)).trans (List.Perm.swap _ _ _))).trans (List.Perm.swap _ _ _))).trans (List.Perm.swap _ _ _))).trans (List.Perm.swap _ _ _))).trans (List.Perm.swap _ _ _))).trans (List.Perm.swap _ _ _)) Tryd.results12 (Res.agg Tryd.isAgg23 Tryd.sizeOf23 rfl (by repeat (first | exact List.mem_cons_self | apply List.mem_cons_of_mem | apply List.mem_append_right)) rfl (Res.word Tryd.isAgg26 rfl (by repeat (first | exact List.mem_cons_self | apply List.mem_cons_of_mem | apply List.mem_append_right)) rfl Res.nil)) (fun w1 hw1 => ?_)
    exact ⟨(by rw [(((hF.pos hq1).pos hq2)).eq] <;> first | rfl | (simp only [List.length_set] <;> rfl)), hw1.ext_out⟩
  refine J_skip ?_
  refine JX_block ?_
  refine JX_roundI (List.Perm.refl _) ?_
  refine JL_q (q_not) (k := ?_)
  refine JL_nil ?_
  refine JX_seq ?_
  refine J_false rfl ?_
  refine J_skip ?_
  refine JX_block ?_
  refine JX_seq ?_
  refine J_reg ?_
  refine JL_q (q_add) (k := ?_)
  refine JL_q (q_move) (k := ?_)
  refine JL_nil ?_
  refine JX_again ?_
  refine J_seq ?_
  refine J_reg ?_
  refine JL_q (q_lss) (k := ?_)
  refine JL_nil ?_
  refine JX_seq ?_
  refine J_seq ?_
  refine J_true rfl ?_
  refine J_skip ?_
  refine JX_seq ?_
  refine J_seq ?_
  refine J_block ?_
  refine J_seq ?_
  refine J_reg ?_
  refine JL_q (q_idxO Tryd.runUnderlying70 Tryd.sizeOf47 1) (k := ?_)
  refine JL_q (q_load Tryd.isAgg47) (k := ?_)
  refine JL_q (q_assign) (k := ?_)
  refine JL_nil ?_
  refine JX_seq ?_
  refine J_seq ?_
  refine J_reg ?_
  refine JL_q (q_move) (k := ?_)
  refine JL_q (q_move) (k := ?_)
  refine JL_inl (args := [(Value.agg [(Value.string (bs s))].toArray)]) (c_callA Tryd.call45) Tryd.func45 Tryd.ntmps45 ?_
  refine J_seq ?_
  refine J_reg ?_
  refine JL_a noMk (a_box (l := [_])) (k := fun r11 hr11 => ?_)
  refine JL_a noMk (a_alloc (l := [_, _]) Tryd.zeroValue23) (k := fun r12 hr12 => ?_)
  refine JL_nil ?_
  refine JX_seq ?_
  refine J_seq ?_
  refine J_plan mixed 7 [(true, 0), (true, 1), (true, 3), (true, 4), (false, 2), (false, 5), (true, 6)] (by kernel_rfl) ?_
  refine JD_q (q_fld FO_69_0) (k := ?_)
  refine JD_q (q_loadA Tryd.isAgg65 Tryd.sizeOf65) (k := ?_)
  refine JD_q (q_fld FO_69_0) (k := ?_)
  refine JD_q (q_loadA Tryd.isAgg65 Tryd.sizeOf65) (k := ?_)
  refine JD_v (args := [(Value.agg [(Value.string (bs s))].toArray)]) (c_callA Tryd.call39) (fun w1 hw1 => pNumber_ok w1 (t := s) (n_t := by first | omega | (simp only [List.length_append, List.length_take, List.length_drop, List.length_set, List.length_replicate, List.length_cons, List.length_nil, List.length_map]; omega) | (simp only [List.length_append, List.length_take, List.length_drop, List.length_set, List.length_replicate, List.length_cons, List.length_nil, List.length_map] at *; omega) | decide)) (k := ?_)
  refine JD_v (args := [(Value.agg [(Value.string (bs s))].toArray)]) (c_callA Tryd.call39) (fun w1 hw1 => pNumber_ok w1 (t := s) (n_t := by first | omega | (simp only [List.length_append, List.length_take, List.length_drop, List.length_set, List.length_replicate, List.length_cons, List.length_nil, List.length_map]; omega) | (simp only [List.length_append, List.length_take, List.length_drop, List.length_set, List.length_replicate, List.length_cons, List.length_nil, List.length_map] at *; omega) | decide)) (k := ?_)
  refine JD_q (q_build (cs := [_, _]) Tryd.zeroValue23 PL_23) (k := ?_)
  refine JD_nil ?_
  refine JL_s (w_store (l' := [_, _]) Tryd.sizeOf23) (k := ?_)
  refine JL_nil ?_
  refine JX_seq ?_
  refine J_ret ?_
  refine JX_retI Tryd.results45 (Res.agg Tryd.isAgg23 Tryd.sizeOf23 rfl (by repeat (first | exact List.mem_cons_self | apply List.mem_cons_of_mem | apply List.mem_append_right)) rfl Res.nil) ?_
  refine JL_yIn (vs := [(Value.agg [(Value.int .i64 ((pNumber s))), (Value.int .i64 ((pNumber s)))].toArray)]) hl5 ((List.Perm.cons _ ((List.Perm.cons _ (List.Perm.refl _)).trans (List.Perm.swap _ _ _))).trans (List.Perm.swap _ _ _)) y_call ?_
  refine J_reg ?_
  refine JL_a noMk (a_alloc (l := [_, _]) Tryd.zeroValue23) (k := fun r13 hr13 => ?_)
  refine JL_s (w_store (l' := [_, _]) Tryd.sizeOf23) (k := ?_)
  refine JL_nil ?_
  refine JX_begin ((List.Perm.cons _ (List.Perm.refl _)).trans (List.Perm.swap _ _ _)) ?_
  refine J_block ?_
  refine J_seq ?_
  refine J_reg ?_
  refine JL_q (q_loadA Tryd.isAgg23 Tryd.sizeOf23) (k := ?_)
  refine JL_v (args := [(Value.agg [(Value.int .i64 ((pNumber s))), (Value.int .i64 ((pNumber s)))].toArray)]) (c_callA Tryd.call10) (fun w1 hw1 => pPrint_ok w1 (p := (PortsT.mk (pNumber s) (pNumber s))) (hG := hG.ext hw1.ext_out) (hE := hE.ext hw1.ext_out)) (k := ?_)
  refine JL_q (q_move) (k := ?_)
  refine JL_q (q_ext) (k := ?_)
  refine JL_q (q_ext) (k := ?_)
  refine JL_q (q_assign) (k := ?_)
  refine JL_q (q_assign) (k := ?_)
  refine JL_nil ?_
  refine JX_seq ?_
  refine J_seq ?_
  refine J_reg ?_
  refine JL_q (q_move) (k := ?_)
  refine JL_q (q_eql) (k := ?_)
  refine JL_q (q_move) (k := ?_)
  refine JL_dec 17 rfl (fun hq3 => ?_) (fun hq3 => ?_)
  rotate_left
  · refine JL_skips 3 rfl ?_
    refine JL_q (q_pickF) (k := ?_)
    refine JL_nil ?_
    refine JX_seq ?_
    refine J_false rfl ?_
    refine J_skip ?_
    refine JX_block ?_
    refine JX_roundI (List.Perm.refl _) ?_
    refine JL_q (q_not) (k := ?_)
    refine JL_nil ?_
    refine JX_seq ?_
    refine J_false rfl ?_
    refine J_skip ?_
    refine JX_block ?_
    refine JX_seq ?_
    refine J_reg ?_
    refine JL_q (q_add) (k := ?_)
    refine JL_q (q_move) (k := ?_)
    refine JL_nil ?_
    refine JX_again ?_
    refine J_seq ?_
    refine J_reg ?_
    refine JL_q (q_lss) (k := ?_)
    refine JL_nil ?_
    refine JX_seq ?_
    refine J_seq ?_
    refine J_true rfl ?_
    refine J_skip ?_
    refine JX_seq ?_
    refine J_seq ?_
    refine J_block ?_
    refine J_seq ?_
    refine J_reg ?_
    refine JL_q (q_idxO Tryd.runUnderlying70 Tryd.sizeOf47 2) (k := ?_)
    refine JL_q (q_load Tryd.isAgg47) (k := ?_)
    refine JL_q (q_assign) (k := ?_)
    refine JL_nil ?_
    refine JX_seq ?_
    refine J_seq ?_
    refine J_reg ?_
    refine JL_q (q_move) (k := ?_)
    refine JL_q (q_move) (k := ?_)
    refine JL_inl (args := [(Value.agg [(Value.string (bs s))].toArray)]) (c_callA Tryd.call46) Tryd.func46 Tryd.ntmps46 ?_
    refine J_seq ?_
    refine J_reg ?_
    refine JL_a noMk (a_box (l := [_])) (k := fun r17 hr17 => ?_)
    refine JL_a noMk (a_alloc (l := [_, _]) Tryd.zeroValue23) (k := fun r18 hr18 => ?_)
    refine JL_nil ?_
    refine JX_seq ?_
    refine J_seq ?_
    refine J_reg ?_
    refine JL_q (q_fld FO_69_0) (k := ?_)
    refine JL_q (q_fld FO_65_0) (k := ?_)
    refine JL_q (q_load Tryd.isAgg9) (k := ?_)
    refine JL_v (args := [(Value.string (bs s)), (Value.string (bs ([45] : Str)))]) (c_callA Tryd.call37) (fun w1 hw1 => Cut_ok w1 (s := s) (sep := ([45] : Str)) (hG := hG.ext hw1.ext_out) (hn := by first | omega | (simp only [List.length_append, List.length_take, List.length_drop, List.length_set, List.length_replicate, List.length_cons, List.length_nil, List.length_map]; omega) | (simp only [List.length_append, List.length_take, List.length_drop, List.length_set, List.length_replicate, List.length_cons, List.length_nil, List.length_map] at *; omega))) (k := ?_)
    have hct_7533 := cut_len s ([45] : Str)
    refine JL_q (q_move) (k := ?_)
    refine JL_q (q_ext) (k := ?_)
    refine JL_q (q_ext) (k := ?_)
    refine JL_q (q_ext) (k := ?_)
    refine JL_q (q_assign) (k := ?_)
    refine JL_q (q_assign) (k := ?_)
    refine JL_q (q_assign) (k := ?_)
    refine JL_nil ?_
    refine JX_seq ?_
    refine J_seq ?_
    refine J_reg ?_
    refine JL_q (q_move) (k := ?_)
    refine JL_q (q_build (cs := [_]) Tryd.zeroValue65 PL_65) (k := ?_)
    refine JL_v (args := [(Value.agg [(Value.string (bs ((Lib.cut s ([45] : Str)).1)))].toArray)]) (c_callA Tryd.call39) (fun w1 hw1 => pNumber_ok w1 (t := ((Lib.cut s ([45] : Str)).1)) (n_t := by first | omega | (simp only [List.length_append, List.length_take, List.length_drop, List.length_set, List.length_replicate, List.length_cons, List.length_nil, List.length_map]; omega) | (simp only [List.length_append, List.length_take, List.length_drop, List.length_set, List.length_replicate, List.length_cons, List.length_nil, List.length_map] at *; omega) | decide)) (k := ?_)
    refine JL_q (q_move) (k := ?_)
    refine JL_q (q_build (cs := [_]) Tryd.zeroValue65 PL_65) (k := ?_)
    refine JL_v (args := [(Value.agg [(Value.string (bs ((Lib.cut s ([45] : Str)).2.1)))].toArray)]) (c_callA Tryd.call39) (fun w1 hw1 => pNumber_ok w1 (t := ((Lib.cut s ([45] : Str)).2.1)) (n_t := by first | omega | (simp only [List.length_append, List.length_take, List.length_drop, List.length_set, List.length_replicate, List.length_cons, List.length_nil, List.length_map]; omega) | (simp only [List.length_append, List.length_take, List.length_drop, List.length_set, List.length_replicate, List.length_cons, List.length_nil, List.length_map] at *; omega) | decide)) (k := ?_)
    refine JL_q (q_build (cs := [_, _]) Tryd.zeroValue23 PL_23) (k := ?_)
    refine JL_s (w_store (l' := [_, _]) Tryd.sizeOf23) (k := ?_)
    refine JL_nil ?_
    refine JX_seq ?_
    refine J_ret ?_
    refine JX_retI Tryd.results46 (Res.agg Tryd.isAgg23 Tryd.sizeOf23 rfl (by repeat (first | exact List.mem_cons_self | apply List.mem_cons_of_mem | apply List.mem_append_right)) rfl Res.nil) ?_
    refine JL_yIn (vs := [(Value.agg [(Value.int .i64 ((pNumber ((Lib.cut s ([45] : Str)).1)))), (Value.int .i64 ((pNumber ((Lib.cut s ([45] : Str)).2.1))))].toArray)]) hl5 ((List.Perm.cons _ ((List.Perm.cons _ (List.Perm.refl _)).trans (List.Perm.swap _ _ _))).trans (List.Perm.swap _ _ _)) y_call ?_
    refine J_reg ?_
    refine JL_a noMk (a_alloc (l := [_, _]) Tryd.zeroValue23) (k := fun r19 hr19 => ?_)
    refine JL_s (w_store (l' := [_, _]) Tryd.sizeOf23) (k := ?_)
    refine JL_nil ?_
    refine JX_begin ((List.Perm.cons _ (List.Perm.refl _)).trans (List.Perm.swap _ _ _)) ?_
    refine J_block ?_
    refine J_seq ?_
    refine J_reg ?_
    refine JL_q (q_loadA Tryd.isAgg23 Tryd.sizeOf23) (k := ?_)
    refine JL_v (args := [(Value.agg [(Value.int .i64 ((pNumber ((Lib.cut s ([45] : Str)).1)))), (Value.int .i64 ((pNumber ((Lib.cut s ([45] : Str)).2.1))))].toArray)]) (c_callA Tryd.call10) (fun w1 hw1 => pPrint_ok w1 (p := (PortsT.mk (pNumber ((Lib.cut s ([45] : Str)).1)) (pNumber ((Lib.cut s ([45] : Str)).2.1)))) (hG := hG.ext hw1.ext_out) (hE := hE.ext hw1.ext_out)) (k := ?_)
    refine JL_q (q_move) (k := ?_)
    refine JL_q (q_ext) (k := ?_)
    refine JL_q (q_ext) (k := ?_)
    refine JL_q (q_assign) (k := ?_)
    refine JL_q (q_assign) (k := ?_)
    refine JL_nil ?_
    refine JX_seq ?_
    refine J_seq ?_
    refine J_reg ?_
    refine JL_q (q_move) (k := ?_)
    refine JL_q (q_eql) (k := ?_)
    refine JL_q (q_move) (k := ?_)
    refine JL_dec 17 rfl (fun hq11 => ?_) (fun hq11 => ?_)
    rotate_left
    · refine JL_skips 3 rfl ?_
      refine JL_q (q_pickF) (k := ?_)
      refine JL_nil ?_
      refine JX_seq ?_
      refine J_false rfl ?_
      refine J_skip ?_
      refine JX_block ?_
      refine JX_roundI (List.Perm.refl _) ?_
      refine JL_q (q_not) (k := ?_)
      refine JL_nil ?_
      refine JX_seq ?_
      refine J_false rfl ?_
      refine J_skip ?_
      refine JX_block ?_
      refine JX_seq ?_
      refine J_reg ?_
      refine JL_q (q_add) (k := ?_)
      refine JL_q (q_move) (k := ?_)
      refine JL_nil ?_
      refine JX_again ?_
      refine J_seq ?_
      refine J_reg ?_
      refine JL_q (q_lss) (k := ?_)
      refine JL_nil ?_
      refine JX_seq ?_
      refine J_seq ?_
      refine J_false rfl ?_
      refine J_exit ?_
      refine JX_seq_exit ?_
      refine JX_inv_exit ?_
      refine JX_block_hit ?_
      refine JX_scope ?_
      refine JX_it0 (.inr rfl) Tryd.results43 (List.Perm.refl _) ?_
      refine JX_block ?_
      refine JX_seq ?_
      refine J_seq ?_
      refine J_reg ?_
      refine JL_q (q_build (cs := [_, _]) Tryd.zeroValue23 PL_23) (k := ?_)
      obtain ⟨Thgl15, fhgl15, hgl15⟩ := hE.v0
      refine JL_q (q_loadB Tryd.isAgg46 hgl15) (k := ?_)
      refine JL_inl (args := [(Value.iface 135 (.pointer (some ea0)))]) (c_callA Tryd.call24) Tryd.func24 Tryd.ntmps24 ?_
      refine J_seq ?_
      refine J_reg ?_
      refine JL_q (q_assign) (k := ?_)
      refine JL_nil ?_
      refine JX_seq ?_
      refine J_seq ?_
      refine J_block ?_
      refine J_seq ?_
      refine J_reg ?_
      refine JL_q (q_move) (k := ?_)
      obtain ⟨Thgl16, fhgl16, hgl16⟩ := hE.v0
      refine JL_q (q_loadB Tryd.isAgg46 hgl16) (k := ?_)
      refine JL_v (args := [(Value.iface 135 (.pointer (some ea0))), (Value.iface 135 (.pointer (some ea0)))]) (c_callA Tryd.call41) (fun w1 hw1 => is_same_v w1) (k := ?_)
      refine JL_q (q_assign) (k := ?_)
      refine JL_nil ?_
      refine JX_seq ?_
      refine J_true rfl ?_
      refine J_seq ?_
      refine J_reg ?_
      refine JL_q (q_assign) (k := ?_)
      refine JL_nil ?_
      refine JX_seq ?_
      refine J_ret ?_
      refine JX_block_ret ?_
      refine JX_seq_ret ?_
      refine JX_retI Tryd.results24 (Res.tmp rfl Res.nil) ?_
      refine JL_s (w_store (l' := [_, _]) Tryd.sizeOf23) (k := ?_)
      refine JL_s (w_store (l' := [_]) Tryd.sizeOf26) (k := ?_)
      refine JL_nil ?_
      refine JX_seq ?_
      refine J_ret ?_
      refine JX_retD [rD5] ((List.Perm.cons _ ((List.Perm.cons _ ((List.Perm.cons _ ((List.Perm.cons _ ((List.Perm.cons _ ((List.Perm.cons _ ((List.Perm.cons _ ((List.Perm.cons _ ((List.Perm.cons _ ((List.Perm.cons _ ((List.Perm.cons _ ((List.Perm.cons _ (List.Perm.refl _)).trans (List.Perm.swap _ _ _))).trans (List.Perm.swap _ _ _))).trans (List.Perm.swap _ _ _))).trans (List.Perm.swap _ _ _))).trans (List.Perm.swap _ _ _))).trans (List.Perm.swap _ _ _))).trans (List.Perm.swap _ _ _))).trans (List.Perm.swap _ _ _))).trans (List.Perm.swap _ _ _))).trans (List.Perm.swap _ _ _))).trans (List.Perm.swap _ _ _))).trans (List.Perm.swap _ _ _)) Tryd.results12 (Res.agg Tryd.isAgg23 Tryd.sizeOf23 rfl (by repeat (first | exact List.mem_cons_self | apply List.mem_cons_of_mem | apply List.mem_append_right)) rfl (Res.word Tryd.isAgg26 rfl (by repeat (first | exact List.mem_cons_self | apply List.mem_cons_of_mem | apply List.mem_append_right)) rfl Res.nil)) (fun w1 hw1 => ?_)
      exact ⟨(by rw [(((((hF.pos hq1).neg hq2).neg hq3).neg hq11)).eq] <;> first | rfl | (simp only [List.length_set] <;> rfl)), hw1.ext_out⟩
    refine JL_qg (q_move) (k := ?_)
    refine JL_qg (q_load Tryd.isAgg9) (k := ?_)
    refine JL_qg (q_eqT) (k := ?_)
    refine JL_q (q_pickT) (k := ?_)
    refine JL_nil ?_
    refine JX_seq ?_
    refine J_dec rfl (fun hq12 => ?_) (fun hq12 => ?_)
    · refine J_seq ?_
      refine J_reg ?_
      refine JL_q (q_loadA Tryd.isAgg23 Tryd.sizeOf23) (k := ?_)
      refine JL_s (w_store (l' := [_, _]) Tryd.sizeOf23) (k := ?_)
      refine JL_s (w_store (l' := [_]) Tryd.sizeOf26) (k := ?_)
      refine JL_nil ?_
      refine JX_seq ?_
      refine J_ret ?_
      refine JX_block_ret ?_
      refine JX_roundI_ret (List.Perm.refl _) ?_
      refine JL_q (q_not) (k := ?_)
      refine JL_nil ?_
      refine JX_seq ?_
      refine J_true rfl ?_
      refine J_exit ?_
      refine JX_block_miss rfl ?_
      refine JX_seq_exit ?_
      refine JX_inv_exit ?_
      refine JX_block_hit ?_
      refine JX_scope ?_
      refine JX_it1 (.inr rfl) Tryd.results43 (List.Perm.refl _) ?_
      refine J_ret ?_
      refine JX_block_ret ?_
      refine JX_seq_ret ?_
      refine JX_retD [rD5] ((List.Perm.cons _ ((List.Perm.cons _ ((List.Perm.cons _ ((List.Perm.cons _ ((List.Perm.cons _ ((List.Perm.cons _ ((List.Perm.cons _ ((List.Perm.cons _ ((List.Perm.cons _ ((List.Perm.cons _ ((List.Perm.cons _ ((List.Perm.cons _ (List.Perm.refl _)).trans (List.Perm.swap _ _ _))).trans (List.Perm.swap _ _ _))).trans (List.Perm.swap _ _ _))).trans (List.Perm.swap _ _ _))).trans (List.Perm.swap _ _ _))).trans (List.Perm.swap _ _ _))).trans (List.Perm.swap _ _ _))).trans (List.Perm.swap _ _ _))).trans (List.Perm.swap _ _ _))).trans (List.Perm.swap _ _ _))).trans (List.Perm.swap _ _ _))).trans (List.Perm.swap _ _ _)) Tryd.results12 (Res.agg Tryd.isAgg23 Tryd.sizeOf23 rfl (by repeat (first | exact List.mem_cons_self | apply List.mem_cons_of_mem | apply List.mem_append_right)) rfl (Res.word Tryd.isAgg26 rfl (by repeat (first | exact List.mem_cons_self | apply List.mem_cons_of_mem | apply List.mem_append_right)) rfl Res.nil)) (fun w1 hw1 => ?_)
      exact ⟨(by rw [((((((hF.pos hq1).neg hq2).neg hq3).pos hq11).pos hq12)).eq] <;> first | rfl | (simp only [List.length_set] <;> rfl)), hw1.ext_out⟩
    refine J_skip ?_
    refine JX_block ?_
    refine JX_roundI (List.Perm.refl _) ?_
    refine JL_q (q_not) (k := ?_)
    refine JL_nil ?_
    refine JX_seq ?_
    refine J_false rfl ?_
    refine J_skip ?_
    refine JX_block ?_
    refine JX_seq ?_
    refine J_reg ?_
    refine JL_q (q_add) (k := ?_)
    refine JL_q (q_move) (k := ?_)
    refine JL_nil ?_
    refine JX_again ?_
    refine J_seq ?_
    refine J_reg ?_
    refine JL_q (q_lss) (k := ?_)
    refine JL_nil ?_
    refine JX_seq ?_
    refine J_seq ?_
    refine J_false rfl ?_
    refine J_exit ?_
    refine JX_seq_exit ?_
    refine JX_inv_exit ?_
    refine JX_block_hit ?_
    refine JX_scope ?_
    refine JX_it0 (.inr rfl) Tryd.results43 (List.Perm.refl _) ?_
    refine JX_block ?_
    refine JX_seq ?_
    refine J_seq ?_
    refine J_reg ?_
    refine JL_q (q_build (cs := [_, _]) Tryd.zeroValue23 PL_23) (k := ?_)
    obtain ⟨Thgl13, fhgl13, hgl13⟩ := hE.v0
    refine JL_q (q_loadB Tryd.isAgg46 hgl13) (k := ?_)
    refine JL_inl (args := [(Value.iface 135 (.pointer (some ea0)))]) (c_callA Tryd.call24) Tryd.func24 Tryd.ntmps24 ?_
    refine J_seq ?_
    refine J_reg ?_
    refine JL_q (q_assign) (k := ?_)
    refine JL_nil ?_
    refine JX_seq ?_
    refine J_seq ?_
    refine J_block ?_
    refine J_seq ?_
    refine J_reg ?_
    refine JL_q (q_move) (k := ?_)
    obtain ⟨Thgl14, fhgl14, hgl14⟩ := hE.v0
    refine JL_q (q_loadB Tryd.isAgg46 hgl14) (k := ?_)
    refine JL_v (args := [(Value.iface 135 (.pointer (some ea0))), (Value.iface 135 (.pointer (some ea0)))]) (c_callA Tryd.call41) (fun w1 hw1 => is_same_v w1) (k := ?_)
    refine JL_q (q_assign) (k := ?_)
    refine JL_nil ?_
    refine JX_seq ?_
    refine J_true rfl ?_
    refine J_seq ?_
    refine J_reg ?_
    refine JL_q (q_assign) (k := ?_)
    refine JL_nil ?_
    refine JX_seq ?_
    refine J_ret ?_
    refine JX_block_ret ?_
    refine JX_seq_ret ?_
    refine JX_retI Tryd.results24 (Res.tmp rfl Res.nil) ?_
    refine JL_s (w_store (l' := [_, _]) Tryd.sizeOf23) (k := ?_)
    refine JL_s (w_store (l' := [_]) Tryd.sizeOf26) (k := ?_)
    refine JL_nil ?_
    refine JX_seq ?_
    refine J_ret ?_
    refine JX_retD [rD5] ((List.Perm.cons _ ((List.Perm.cons _ ((List.Perm.cons _ ((List.Perm.cons _ ((List.Perm.cons _ ((List.Perm.cons _ ((List.Perm.cons _ ((List.Perm.cons _ ((List.Perm.cons _ ((List.Perm.cons _ ((List.Perm.cons _ ((List.Perm.cons _ (List.Perm.refl _)).trans (List.Perm.swap _ _ _))).trans (List.Perm.swap _ _ _))).trans (List.Perm.swap _ _ _))).trans (List.Perm.swap _ _ _))).trans (List.Perm.swap _ _ _))).trans (List.Perm.swap _ _ _))).trans (List.Perm.swap _ _ _))).trans (List.Perm.swap _ _ _))).trans (List.Perm.swap _ _ _))).trans (List.Perm.swap _ _ _))).trans (List.Perm.swap _ _ _))).trans (List.Perm.swap _ _ _)) Tryd.results12 (Res.agg Tryd.isAgg23 Tryd.sizeOf23 rfl (by repeat (first | exact List.mem_cons_self | apply List.mem_cons_of_mem | apply List.mem_append_right)) rfl (Res.word Tryd.isAgg26 rfl (by repeat (first | exact List.mem_cons_self | apply List.mem_cons_of_mem | apply List.mem_append_right)) rfl Res.nil)) (fun w1 hw1 => ?_)
    exact ⟨(by rw [((((((hF.pos hq1).neg hq2).neg hq3).pos hq11).neg hq12)).eq] <;> first | rfl | (simp only [List.length_set] <;> rfl)), hw1.ext_out⟩
  refine JL_qg (q_move) (k := ?_)
  refine JL_qg (q_load Tryd.isAgg9) (k := ?_)
  refine JL_qg (q_eqT) (k := ?_)
  refine JL_q (q_pickT) (k := ?_)
  refine JL_nil ?_
  refine JX_seq ?_
  refine J_dec rfl (fun hq4 => ?_) (fun hq4 => ?_)
  · refine J_seq ?_
    refine J_reg ?_
    refine JL_q (q_loadA Tryd.isAgg23 Tryd.sizeOf23) (k := ?_)
    refine JL_s (w_store (l' := [_, _]) Tryd.sizeOf23) (k := ?_)
    refine JL_s (w_store (l' := [_]) Tryd.sizeOf26) (k := ?_)
    refine JL_nil ?_
    refine JX_seq ?_
    refine J_ret ?_
    refine JX_block_ret ?_
    refine JX_roundI_ret (List.Perm.refl _) ?_
    refine JL_q (q_not) (k := ?_)
    refine JL_nil ?_
    refine JX_seq ?_
    refine J_true rfl ?_
    refine J_exit ?_
    refine JX_block_miss rfl ?_
    refine JX_seq_exit ?_
    refine JX_inv_exit ?_
    refine JX_block_hit ?_
    refine JX_scope ?_
    refine JX_it1 (.inr rfl) Tryd.results43 (List.Perm.refl _) ?_
    refine J_ret ?_
    refine JX_block_ret ?_
    refine JX_seq_ret ?_
    refine JX_retD [rD5] ((List.Perm.cons _ ((List.Perm.cons _ ((List.Perm.cons _ ((List.Perm.cons _ ((List.Perm.cons _ ((List.Perm.cons _ ((List.Perm.cons _ ((List.Perm.cons _ ((List.Perm.cons _ (List.Perm.refl _)).trans (List.Perm.swap _ _ _))).trans (List.Perm.swap _ _ _))).trans (List.Perm.swap _ _ _))).trans (List.Perm.swap _ _ _))).trans (List.Perm.swap _ _ _))).trans (List.Perm.swap _ _ _))).trans (List.Perm.swap _ _ _))).trans (List.Perm.swap _ _ _))).trans (List.Perm.swap _ _ _)) Tryd.results12 (Res.agg Tryd.isAgg23 Tryd.sizeOf23 rfl (by repeat (first | exact List.mem_cons_self | apply List.mem_cons_of_mem | apply List.mem_append_right)) rfl (Res.word Tryd.isAgg26 rfl (by repeat (first | exact List.mem_cons_self | apply List.mem_cons_of_mem | apply List.mem_append_right)) rfl Res.nil)) (fun w1 hw1 => ?_)
    exact ⟨(by rw [(((((hF.pos hq1).neg hq2).pos hq3).pos hq4)).eq] <;> first | rfl | (simp only [List.length_set] <;> rfl)), hw1.ext_out⟩
  refine J_skip ?_
  refine JX_block ?_
  refine JX_roundI (List.Perm.refl _) ?_
  refine JL_q (q_not) (k := ?_)
  refine JL_nil ?_
  refine JX_seq ?_
  refine J_false rfl ?_
  refine J_skip ?_
  refine JX_block ?_
  refine JX_seq ?_
  refine J_reg ?_
  refine JL_q (q_add) (k := ?_)
  refine JL_q (q_move) (k := ?_)
  refine JL_nil ?_
  refine JX_again ?_
  refine J_seq ?_
  refine J_reg ?_
  refine JL_q (q_lss) (k := ?_)
  refine JL_nil ?_
  refine JX_seq ?_
  refine J_seq ?_
  refine J_true rfl ?_
  refine J_skip ?_
  refine JX_seq ?_
  refine J_seq ?_
  refine J_block ?_
  refine J_seq ?_
  refine J_reg ?_
  refine JL_q (q_idxO Tryd.runUnderlying70 Tryd.sizeOf47 2) (k := ?_)
  refine JL_q (q_load Tryd.isAgg47) (k := ?_)
  refine JL_q (q_assign) (k := ?_)
  refine JL_nil ?_
  refine JX_seq ?_
  refine J_seq ?_
  refine J_reg ?_
  refine JL_q (q_move) (k := ?_)
  refine JL_q (q_move) (k := ?_)
  refine JL_inl (args := [(Value.agg [(Value.string (bs s))].toArray)]) (c_callA Tryd.call46) Tryd.func46 Tryd.ntmps46 ?_
  refine J_seq ?_
  refine J_reg ?_
  refine JL_a noMk (a_box (l := [_])) (k := fun r14 hr14 => ?_)
  refine JL_a noMk (a_alloc (l := [_, _]) Tryd.zeroValue23) (k := fun r15 hr15 => ?_)
  refine JL_nil ?_
  refine JX_seq ?_
  refine J_seq ?_
  refine J_reg ?_
  refine JL_q (q_fld FO_69_0) (k := ?_)
  refine JL_q (q_fld FO_65_0) (k := ?_)
  refine JL_q (q_load Tryd.isAgg9) (k := ?_)
  refine JL_v (args := [(Value.string (bs s)), (Value.string (bs ([45] : Str)))]) (c_callA Tryd.call37) (fun w1 hw1 => Cut_ok w1 (s := s) (sep := ([45] : Str)) (hG := hG.ext hw1.ext_out) (hn := by first | omega | (simp only [List.length_append, List.length_take, List.length_drop, List.length_set, List.length_replicate, List.length_cons, List.length_nil, List.length_map]; omega) | (simp only [List.length_append, List.length_take, List.length_drop, List.length_set, List.length_replicate, List.length_cons, List.length_nil, List.length_map] at *; omega))) (k := ?_)
  have hct_7533 := cut_len s ([45] : Str)
  refine JL_q (q_move) (k := ?_)
  refine JL_q (q_ext) (k := ?_)
  refine JL_q (q_ext) (k := ?_)
  refine JL_q (q_ext) (k := ?_)
  refine JL_q (q_assign) (k := ?_)
  refine JL_q (q_assign) (k := ?_)
  refine JL_q (q_assign) (k := ?_)
  refine JL_nil ?_
  refine JX_seq ?_
  refine J_seq ?_
  refine J_reg ?_
  refine JL_q (q_move) (k := ?_)
  refine JL_q (q_build (cs := [_]) Tryd.zeroValue65 PL_65) (k := ?_)
  refine JL_v (args := [(Value.agg [(Value.string (bs ((Lib.cut s ([45] : Str)).1)))].toArray)]) (c_callA Tryd.call39) (fun w1 hw1 => pNumber_ok w1 (t := ((Lib.cut s ([45] : Str)).1)) (n_t := by first | omega | (simp only [List.length_append, List.length_take, List.length_drop, List.length_set, List.length_replicate, List.length_cons, List.length_nil, List.length_map]; omega) | (simp only [List.length_append, List.length_take, List.length_drop, List.length_set, List.length_replicate, List.length_cons, List.length_nil, List.length_map] at *; omega) | decide)) (k := ?_)
  refine JL_q (q_move) (k := ?_)
  refine JL_q (q_build (cs := [_]) Tryd.zeroValue65 PL_65) (k := ?_)
  refine JL_v (args := [(Value.agg [(Value.string (bs ((Lib.cut s ([45] : Str)).2.1)))].toArray)]) (c_callA Tryd.call39) (fun w1 hw1 => pNumber_ok w1 (t := ((Lib.cut s ([45] : Str)).2.1)) (n_t := by first | omega | (simp only [List.length_append, List.length_take, List.length_drop, List.length_set, List.length_replicate, List.length_cons, List.length_nil, List.length_map]; omega) | (simp only [List.length_append, List.length_take, List.length_drop, List.length_set, List.length_replicate, List.length_cons, List.length_nil, List.length_map] at *; omega) | decide)) (k := ?_)
  refine JL_q (q_build (cs := [_, _]) Tryd.zeroValue23 PL_23) (k := ?_)
  refine JL_s (w_store (l' := [_, _]) Tryd.sizeOf23) (k := ?_)
  refine JL_nil ?_
  refine JX_seq ?_
  refine J_ret ?_
  refine JX_retI Tryd.results46 (Res.agg Tryd.isAgg23 Tryd.sizeOf23 rfl (by repeat (first | exact List.mem_cons_self | apply List.mem_cons_of_mem | apply List.mem_append_right)) rfl Res.nil) ?_
  refine JL_yIn (vs := [(Value.agg [(Value.int .i64 ((pNumber ((Lib.cut s ([45] : Str)).1)))), (Value.int .i64 ((pNumber ((Lib.cut s ([45] : Str)).2.1))))].toArray)]) hl5 ((List.Perm.cons _ ((List.Perm.cons _ (List.Perm.refl _)).trans (List.Perm.swap _ _ _))).trans (List.Perm.swap _ _ _)) y_call ?_
  refine J_reg ?_
  refine JL_a noMk (a_alloc (l := [_, _]) Tryd.zeroValue23) (k := fun r16 hr16 => ?_)
  refine JL_s (w_store (l' := [_, _]) Tryd.sizeOf23) (k := ?_)
  refine JL_nil ?_
  refine JX_begin ((List.Perm.cons _ (List.Perm.refl _)).trans (List.Perm.swap _ _ _)) ?_
  refine J_block ?_
  refine J_seq ?_
  refine J_reg ?_
  refine JL_q (q_loadA Tryd.isAgg23 Tryd.sizeOf23) (k := ?_)
  refine JL_v (args := [(Value.agg [(Value.int .i64 ((pNumber ((Lib.cut s ([45] : Str)).1)))), (Value.int .i64 ((pNumber ((Lib.cut s ([45] : Str)).2.1))))].toArray)]) (c_callA Tryd.call10) (fun w1 hw1 => pPrint_ok w1 (p := (PortsT.mk (pNumber ((Lib.cut s ([45] : Str)).1)) (pNumber ((Lib.cut s ([45] : Str)).2.1)))) (hG := hG.ext hw1.ext_out) (hE := hE.ext hw1.ext_out)) (k := ?_)
  refine JL_q (q_move) (k := ?_)
  refine JL_q (q_ext) (k := ?_)
  refine JL_q (q_ext) (k := ?_)
  refine JL_q (q_assign) (k := ?_)
  refine JL_q (q_assign) (k := ?_)
  refine JL_nil ?_
  refine JX_seq ?_
  refine J_seq ?_
  refine J_reg ?_
  refine JL_q (q_move) (k := ?_)
  refine JL_q (q_eql) (k := ?_)
  refine JL_q (q_move) (k := ?_)
  refine JL_dec 17 rfl (fun hq5 => ?_) (fun hq5 => ?_)
  rotate_left
  · refine JL_skips 3 rfl ?_
    refine JL_q (q_pickF) (k := ?_)
    refine JL_nil ?_
    refine JX_seq ?_
    refine J_false rfl ?_
    refine J_skip ?_
    refine JX_block ?_
    refine JX_roundI (List.Perm.refl _) ?_
    refine JL_q (q_not) (k := ?_)
    refine JL_nil ?_
    refine JX_seq ?_
    refine J_false rfl ?_
    refine J_skip ?_
    refine JX_block ?_
    refine JX_seq ?_
    refine J_reg ?_
    refine JL_q (q_add) (k := ?_)
    refine JL_q (q_move) (k := ?_)
    refine JL_nil ?_
    refine JX_again ?_
    refine J_seq ?_
    refine J_reg ?_
    refine JL_q (q_lss) (k := ?_)
    refine JL_nil ?_
    refine JX_seq ?_
    refine J_seq ?_
    refine J_false rfl ?_
    refine J_exit ?_
    refine JX_seq_exit ?_
    refine JX_inv_exit ?_
    refine JX_block_hit ?_
    refine JX_scope ?_
    refine JX_it0 (.inr rfl) Tryd.results43 (List.Perm.refl _) ?_
    refine JX_block ?_
    refine JX_seq ?_
    refine J_seq ?_
    refine J_reg ?_
    refine JL_q (q_build (cs := [_, _]) Tryd.zeroValue23 PL_23) (k := ?_)
    obtain ⟨Thgl9, fhgl9, hgl9⟩ := hE.v0
    refine JL_q (q_loadB Tryd.isAgg46 hgl9) (k := ?_)
    refine JL_inl (args := [(Value.iface 135 (.pointer (some ea0)))]) (c_callA Tryd.call24) Tryd.func24 Tryd.ntmps24 ?_
    refine J_seq ?_
    refine J_reg ?_
    refine JL_q (q_assign) (k := ?_)
    refine JL_nil ?_
    refine JX_seq ?_
    refine J_seq ?_
    refine J_block ?_
    refine J_seq ?_
    refine J_reg ?_
    refine JL_q (q_move) (k := ?_)
    obtain ⟨Thgl10, fhgl10, hgl10⟩ := hE.v0
    refine JL_q (q_loadB Tryd.isAgg46 hgl10) (k := ?_)
    refine JL_v (args := [(Value.iface 135 (.pointer (some ea0))), (Value.iface 135 (.pointer (some ea0)))]) (c_callA Tryd.call41) (fun w1 hw1 => is_same_v w1) (k := ?_)
    refine JL_q (q_assign) (k := ?_)
    refine JL_nil ?_
    refine JX_seq ?_
    refine J_true rfl ?_
    refine J_seq ?_
    refine J_reg ?_
    refine JL_q (q_assign) (k := ?_)
    refine JL_nil ?_
    refine JX_seq ?_
    refine J_ret ?_
    refine JX_block_ret ?_
    refine JX_seq_ret ?_
    refine JX_retI Tryd.results24 (Res.tmp rfl Res.nil) ?_
    refine JL_s (w_store (l' := [_, _]) Tryd.sizeOf23) (k := ?_)
    refine JL_s (w_store (l' := [_]) Tryd.sizeOf26) (k := ?_)
    refine JL_nil ?_
    refine JX_seq ?_
    refine J_ret ?_
    refine JX_retD [rD5] ((List.Perm.cons _ ((List.Perm.cons _ ((List.Perm.cons _ ((List.Perm.cons _ ((List.Perm.cons _ ((List.Perm.cons _ ((List.Perm.cons _ ((List.Perm.cons _ ((List.Perm.cons _ ((List.Perm.cons _ ((List.Perm.cons _ ((List.Perm.cons _ (List.Perm.refl _)).trans (List.Perm.swap _ _ _))).trans (List.Perm.swap _ _ _))).trans (List.Perm.swap _ _ _))).trans (List.Perm.swap _ _ _))).trans (List.Perm.swap _ _ _))).trans (List.Perm.swap _ _ _))).trans (List.Perm.swap _ _ _))).trans (List.Perm.swap _ _ _))).trans (List.Perm.swap _ _ _))).trans (List.Perm.swap _ _ _))).trans (List.Perm.swap _ _ _))).trans (List.Perm.swap _ _ _)) Tryd.results12 (Res.agg Tryd.isAgg23 Tryd.sizeOf23 rfl (by repeat (first | exact List.mem_cons_self | apply List.mem_cons_of_mem | apply List.mem_append_right)) rfl (Res.word Tryd.isAgg26 rfl (by repeat (first | exact List.mem_cons_self | apply List.mem_cons_of_mem | apply List.mem_append_right)) rfl Res.nil)) (fun w1 hw1 => ?_)
    exact ⟨(by rw [((((((hF.pos hq1).neg hq2).pos hq3).neg hq4).neg hq5)).eq] <;> first | rfl | (simp only [List.length_set] <;> rfl)), hw1.ext_out⟩
  refine JL_qg (q_move) (k := ?_)
  refine JL_qg (q_load Tryd.isAgg9) (k := ?_)
  refine JL_qg (q_eqT) (k := ?_)
  refine JL_q (q_pickT) (k := ?_)
  refine JL_nil ?_
  refine JX_seq ?_
  refine J_dec rfl (fun hq6 => ?_) (fun hq6 => ?_)
  · refine J_seq ?_
    refine J_reg ?_
    refine JL_q (q_loadA Tryd.isAgg23 Tryd.sizeOf23) (k := ?_)
    refine JL_s (w_store (l' := [_, _]) Tryd.sizeOf23) (k := ?_)
    refine JL_s (w_store (l' := [_]) Tryd.sizeOf26) (k := ?_)
    refine JL_nil ?_
    refine JX_seq ?_
    refine J_ret ?_
    refine JX_block_ret ?_
    refine JX_roundI_ret (List.Perm.refl _) ?_
    refine JL_q (q_not) (k := ?_)
    refine JL_nil ?_
    refine JX_seq ?_
    refine J_true rfl ?_
    refine J_exit ?_
    refine JX_block_miss rfl ?_
    refine JX_seq_exit ?_
    refine JX_inv_exit ?_
    refine JX_block_hit ?_
    refine JX_scope ?_
    refine JX_it1 (.inr rfl) Tryd.results43 (List.Perm.refl _) ?_
    refine J_ret ?_
    refine JX_block_ret ?_
    refine JX_seq_ret ?_
    refine JX_retD [rD5] ((List.Perm.cons _ ((List.Perm.cons _ ((List.Perm.cons _ ((List.Perm.cons _ ((List.Perm.cons _ ((List.Perm.cons _ ((List.Perm.cons _ ((List.Perm.cons _ ((List.Perm.cons _ ((List.Perm.cons _ ((List.Perm.cons _ ((List.Perm.cons _ (List.Perm.refl _)).trans (List.Perm.swap _ _ _))).trans (List.Perm.swap _ _ _))).trans (List.Perm.swap _ _ _))).trans (List.Perm.swap _ _ _))).trans (List.Perm.swap _ _ _))).trans (List.Perm.swap _ _ _))).trans (List.Perm.swap _ _ _))).trans (List.Perm.swap _ _ _))).trans (List.Perm.swap _ _ _))).trans (List.Perm.swap _ _ _))).trans (List.Perm.swap _ _ _))).trans (List.Perm.swap _ _ _)) Tryd.results12 (Res.agg Tryd.isAgg23 Tryd.sizeOf23 rfl (by repeat (first | exact List.mem_cons_self | apply List.mem_cons_of_mem | apply List.mem_append_right)) rfl (Res.word Tryd.isAgg26 rfl (by repeat (first | exact List.mem_cons_self | apply List.mem_cons_of_mem | apply List.mem_append_right)) rfl Res.nil)) (fun w1 hw1 => ?_)
    exact ⟨(by rw [(((((((hF.pos hq1).neg hq2).pos hq3).neg hq4).pos hq5).pos hq6)).eq] <;> first | rfl | (simp only [List.length_set] <;> rfl)), hw1.ext_out⟩
  refine J_skip ?_
  refine JX_block ?_
  refine JX_roundI (List.Perm.refl _) ?_
  refine JL_q (q_not) (k := ?_)
  refine JL_nil ?_
  refine JX_seq ?_
  refine J_false rfl ?_
  refine J_skip ?_
  refine JX_block ?_
  refine JX_seq ?_
  refine J_reg ?_
  refine JL_q (q_add) (k := ?_)
  refine JL_q (q_move) (k := ?_)
  refine JL_nil ?_
  refine JX_again ?_
  refine J_seq ?_
  refine J_reg ?_
  refine JL_q (q_lss) (k := ?_)
  refine JL_nil ?_
  refine JX_seq ?_
  refine J_seq ?_
  refine J_false rfl ?_
  refine J_exit ?_
  refine JX_seq_exit ?_
  refine JX_inv_exit ?_
  refine JX_block_hit ?_
  refine JX_scope ?_
  refine JX_it0 (.inr rfl) Tryd.results43 (List.Perm.refl _) ?_
  refine JX_block ?_
  refine JX_seq ?_
  refine J_seq ?_
  refine J_reg ?_
  refine JL_q (q_build (cs := [_, _]) Tryd.zeroValue23 PL_23) (k := ?_)
  obtain ⟨Thgl7, fhgl7, hgl7⟩ := hE.v0
  refine JL_q (q_loadB Tryd.isAgg46 hgl7) (k := ?_)
  refine JL_inl (args := [(Value.iface 135 (.pointer (some ea0)))]) (c_callA Tryd.call24) Tryd.func24 Tryd.ntmps24 ?_
  refine J_seq ?_
  refine J_reg ?_
  refine JL_q (q_assign) (k := ?_)
  refine JL_nil ?_
  refine JX_seq ?_
  refine J_seq ?_
  refine J_block ?_
  refine J_seq ?_
  refine J_reg ?_
  refine JL_q (q_move) (k := ?_)
  obtain ⟨Thgl8, fhgl8, hgl8⟩ := hE.v0
  refine JL_q (q_loadB Tryd.isAgg46 hgl8) (k := ?_)
  refine JL_v (args := [(Value.iface 135 (.pointer (some ea0))), (Value.iface 135 (.pointer (some ea0)))]) (c_callA Tryd.call41) (fun w1 hw1 => is_same_v w1) (k := ?_)
  refine JL_q (q_assign) (k := ?_)
  refine JL_nil ?_
  refine JX_seq ?_
  refine J_true rfl ?_
  refine J_seq ?_
  refine J_reg ?_
  refine JL_q (q_assign) (k := ?_)
  refine JL_nil ?_
  refine JX_seq ?_
  refine J_ret ?_
  refine JX_block_ret ?_
  refine JX_seq_ret ?_
  refine JX_retI Tryd.results24 (Res.tmp rfl Res.nil) ?_
  refine JL_s (w_store (l' := [_, _]) Tryd.sizeOf23) (k := ?_)
  refine JL_s (w_store (l' := [_]) Tryd.sizeOf26) (k := ?_)
  refine JL_nil ?_
  refine JX_seq ?_
  refine J_ret ?_
  refine JX_retD [rD5] ((List.Perm.cons _ ((List.Perm.cons _ ((List.Perm.cons _ ((List.Perm.cons _ ((List.Perm.cons _ ((List.Perm.cons _ ((List.Perm.cons _ ((List.Perm.cons _ ((List.Perm.cons _ ((List.Perm.cons _ ((List.Perm.cons _ ((List.Perm.cons _ (List.Perm.refl _)).trans (List.Perm.swap _ _ _))).trans (List.Perm.swap _ _ _))).trans (List.Perm.swap _ _ _))).trans (List.Perm.swap _ _ _))).trans (List.Perm.swap _ _ _))).trans (List.Perm.swap _ _ _))).trans (List.Perm.swap _ _ _))).trans (List.Perm.swap _ _ _))).trans (List.Perm.swap _ _ _))).trans (List.Perm.swap _ _ _))).trans (List.Perm.swap _ _ _))).trans (List.Perm.swap _ _ _)) Tryd.results12 (Res.agg Tryd.isAgg23 Tryd.sizeOf23 rfl (by repeat (first | exact List.mem_cons_self | apply List.mem_cons_of_mem | apply List.mem_append_right)) rfl (Res.word Tryd.isAgg26 rfl (by repeat (first | exact List.mem_cons_self | apply List.mem_cons_of_mem | apply List.mem_append_right)) rfl Res.nil)) (fun w1 hw1 => ?_)
  exact ⟨(by rw [(((((((hF.pos hq1).neg hq2).pos hq3).neg hq4).pos hq5).neg hq6)).eq] <;> first | rfl | (simp only [List.length_set] <;> rfl)), hw1.ext_out⟩

theorem pHas_ok (w : World) {p : PortsT} {n_ : Int} : Val Tryd.prog 18 [(Value.agg [(Value.int .i64 (p.lo)), (Value.int .i64 (p.hi))].toArray), (Value.int .i64 (n_))] w (Value.bool ((pHas p n_))) := by
  have hF := Is.refl (pHas p n_)
  refine enter Tryd.func18 Tryd.ntmps18 (h := ?_)
  refine J_seq ?_
  refine J_reg ?_
  refine JL_a noMk (a_box (l := [_, _])) (k := fun r1 hr1 => ?_)
  refine JL_q (q_assign) (k := ?_)
  refine JL_nil ?_
  refine JX_seq ?_
  refine J_seq ?_
  refine J_reg ?_
  refine JL_q (q_loadA Tryd.isAgg23 Tryd.sizeOf23) (k := ?_)
  refine JL_v (args := [(Value.agg [(Value.int .i64 (p.lo)), (Value.int .i64 (p.hi))].toArray)]) (c_callA Tryd.call16) (fun w1 hw1 => pRight_ok w1 (p := p)) (k := ?_)
  refine JL_q (q_move) (k := ?_)
  refine JL_bool 7 rfl (fun hq1 => ?_) (fun hq1 => ?_)
  rotate_left
  · refine JL_skips 4 rfl ?_
    refine JL_q (q_pickF) (k := ?_)
    refine JL_q (q_move) (k := ?_)
    refine JL_skips 4 rfl ?_
    refine JL_q (q_pickF) (k := ?_)
    refine JL_q (q_assign) (k := ?_)
    refine JL_nil ?_
    refine JX_seq ?_
    refine J_ret ?_
    refine JX_ret Tryd.results18 (Res.tmp rfl Res.nil) (fun w1 hw1 => ?_)
    exact ⟨(by rw [((hF.f hq1)).eq] <;> first | rfl | (simp only [List.length_set] <;> rfl)), hw1.ext_out⟩
  have hfhq1 := pRight_t hq1
  refine JL_qg (q_move) (k := ?_)
  refine JL_qg (q_fld FO_23_0) (k := ?_)
  refine JL_qg (q_load Tryd.isAgg3) (k := ?_)
  refine JL_qg (q_geq) (k := ?_)
  refine JL_q (q_pickT) (k := ?_)
  refine JL_q (q_move) (k := ?_)
  refine JL_dec 13 rfl (fun hq2 => ?_) (fun hq2 => ?_)
  rotate_left
  · refine JL_skips 4 rfl ?_
    refine JL_q (q_pickF) (k := ?_)
    refine JL_q (q_assign) (k := ?_)
    refine JL_nil ?_
    refine JX_seq ?_
    refine J_ret ?_
    refine JX_ret Tryd.results18 (Res.tmp rfl Res.nil) (fun w1 hw1 => ?_)
    exact ⟨(by rw [(((hF.t hq1).neg hq2)).eq] <;> first | rfl | (simp only [List.length_set] <;> rfl)), hw1.ext_out⟩
  refine JL_qg (q_move) (k := ?_)
  refine JL_qg (q_fld FO_23_1) (k := ?_)
  refine JL_qg (q_load Tryd.isAgg3) (k := ?_)
  refine JL_qg (q_leq) (k := ?_)
  refine JL_q (q_pickT) (k := ?_)
  refine JL_q (q_assign) (k := ?_)
  refine JL_nil ?_
  refine JX_seq ?_
  refine J_ret ?_
  refine JX_ret Tryd.results18 (Res.tmp rfl Res.nil) (fun w1 hw1 => ?_)
  exact ⟨(by rw [(((hF.t hq1).pos hq2)).eq] <;> first | rfl | (simp only [List.length_set] <;> rfl)), hw1.ext_out⟩

theorem pMeet_ok (w : World) {p : PortsT} {q : PortsT} : Val Tryd.prog 14 [(Value.agg [(Value.int .i64 (p.lo)), (Value.int .i64 (p.hi))].toArray), (Value.agg [(Value.int .i64 (q.lo)), (Value.int .i64 (q.hi))].toArray)] w (Value.tuple [(Value.agg [(Value.int .i64 (((pMeet p q).1.lo))), (Value.int .i64 (((pMeet p q).1.hi)))].toArray), (Value.bool (((pMeet p q).2)))].toArray) := by
  have hF := Is.refl (pMeet p q)
  refine enter Tryd.func14 Tryd.ntmps14 (h := ?_)
  refine J_seq ?_
  refine J_reg ?_
  refine JL_a noMk (a_box (l := [_, _])) (k := fun r1 hr1 => ?_)
  refine JL_a noMk (a_box (l := [_, _])) (k := fun r2 hr2 => ?_)
  refine JL_a noMk (a_alloc (l := [_, _]) Tryd.zeroValue23) (k := fun r3 hr3 => ?_)
  refine JL_q (q_assign) (k := ?_)
  refine JL_nil ?_
  refine JX_seq ?_
  refine J_seq ?_
  refine J_reg ?_
  refine JL_q (q_fld FO_23_0) (k := ?_)
  refine JL_q (q_load Tryd.isAgg3) (k := ?_)
  refine JL_q (q_fld FO_23_0) (k := ?_)
  refine JL_q (q_load Tryd.isAgg3) (k := ?_)
  refine JL_q (q_max) (k := ?_)
  refine JL_q (q_fld FO_23_1) (k := ?_)
  refine JL_q (q_load Tryd.isAgg3) (k := ?_)
  refine JL_q (q_fld FO_23_1) (k := ?_)
  refine JL_q (q_load Tryd.isAgg3) (k := ?_)
  refine JL_q (q_min) (k := ?_)
  refine JL_q (q_build (cs := [_, _]) Tryd.zeroValue23 PL_23) (k := ?_)
  refine JL_a noMk (a_alloc (l := [_, _]) Tryd.zeroValue23) (k := fun r4 hr4 => ?_)
  refine JL_s (w_store (l' := [_, _]) Tryd.sizeOf23) (k := ?_)
  refine JL_nil ?_
  refine JX_seq ?_
  refine J_seq ?_
  refine J_seq ?_
  refine J_reg ?_
  refine JL_q (q_loadA Tryd.isAgg23 Tryd.sizeOf23) (k := ?_)
  refine JL_v (args := [(Value.agg [(Value.int .i64 (p.lo)), (Value.int .i64 (p.hi))].toArray)]) (c_callA Tryd.call16) (fun w1 hw1 => pRight_ok w1 (p := p)) (k := ?_)
  refine JL_q (q_not) (k := ?_)
  refine JL_q (q_move) (k := ?_)
  refine JL_bool 21 rfl (fun hq1 => ?_) (fun hq1 => ?_)
  · refine JL_skips 3 rfl ?_
    refine JL_q (q_pickT) (k := ?_)
    refine JL_q (q_move) (k := ?_)
    refine JL_skips 3 rfl ?_
    refine JL_q (q_pickT) (k := ?_)
    refine JL_nil ?_
    refine JX_seq ?_
    refine J_true rfl ?_
    refine J_seq ?_
    refine J_reg ?_
    refine JL_q (q_build (cs := [_, _]) Tryd.zeroValue23 PL_23) (k := ?_)
    refine JL_s (w_store (l' := [_, _]) Tryd.sizeOf23) (k := ?_)
    refine JL_q (q_assign) (k := ?_)
    refine JL_nil ?_
    refine JX_seq ?_
    refine J_ret ?_
    refine JX_seq_ret ?_
    refine JX_ret Tryd.results14 (Res.agg Tryd.isAgg23 Tryd.sizeOf23 rfl (by repeat (first | exact List.mem_cons_self | apply List.mem_cons_of_mem | apply List.mem_append_right)) rfl (Res.tmp rfl Res.nil)) (fun w1 hw1 => ?_)
    exact ⟨(by rw [((hF.t hq1)).eq] <;> first | rfl | (simp only [List.length_set] <;> rfl)), hw1.ext_out⟩
  have hfhq1 := pRight_t (by simpa using hq1)
  refine JL_qg (q_loadA Tryd.isAgg23 Tryd.sizeOf23) (k := ?_)
  refine JL_vg (args := [(Value.agg [(Value.int .i64 (q.lo)), (Value.int .i64 (q.hi))].toArray)]) (c_callA Tryd.call16) (fun w1 hw1 => pRight_ok w1 (p := q)) (k := ?_)
  refine JL_qg (q_not) (k := ?_)
  refine JL_q (q_pickF) (k := ?_)
  refine JL_q (q_move) (k := ?_)
  refine JL_bool 26 rfl (fun hq2 => ?_) (fun hq2 => ?_)
  · refine JL_skips 3 rfl ?_
    refine JL_q (q_pickT) (k := ?_)
    refine JL_nil ?_
    refine JX_seq ?_
    refine J_true rfl ?_
    refine J_seq ?_
    refine J_reg ?_
    refine JL_q (q_build (cs := [_, _]) Tryd.zeroValue23 PL_23) (k := ?_)
    refine JL_s (w_store (l' := [_, _]) Tryd.sizeOf23) (k := ?_)
    refine JL_q (q_assign) (k := ?_)
    refine JL_nil ?_
    refine JX_seq ?_
    refine J_ret ?_
    refine JX_seq_ret ?_
    refine JX_ret Tryd.results14 (Res.agg Tryd.isAgg23 Tryd.sizeOf23 rfl (by repeat (first | exact List.mem_cons_self | apply List.mem_cons_of_mem | apply List.mem_append_right)) rfl (Res.tmp rfl Res.nil)) (fun w1 hw1 => ?_)
    exact ⟨(by rw [(((hF.f hq1).t hq2)).eq] <;> first | rfl | (simp only [List.length_set] <;> rfl)), hw1.ext_out⟩
  have hfhq2 := pRight_t (by simpa using hq2)
  refine JL_qg (q_loadA Tryd.isAgg23 Tryd.sizeOf23) (k := ?_)
  refine JL_vg (args := [(Value.agg [(Value.int .i64 ((if p.lo < q.lo then q.lo else p.lo))), (Value.int .i64 ((if q.hi < p.hi then q.hi else p.hi)))].toArray)]) (c_callA Tryd.call16) (fun w1 hw1 => pRight_ok w1 (p := (PortsT.mk (if p.lo < q.lo then q.lo else p.lo) (if q.hi < p.hi then q.hi else p.hi)))) (k := ?_)
  refine JL_qg (q_not) (k := ?_)
  refine JL_q (q_pickF) (k := ?_)
  refine JL_nil ?_
  refine JX_seq ?_
  refine J_cond rfl (fun hq3 => ?_) (fun hq3 => ?_)
  · refine J_seq ?_
    refine J_reg ?_
    refine JL_q (q_build (cs := [_, _]) Tryd.zeroValue23 PL_23) (k := ?_)
    refine JL_s (w_store (l' := [_, _]) Tryd.sizeOf23) (k := ?_)
    refine JL_q (q_assign) (k := ?_)
    refine JL_nil ?_
    refine JX_seq ?_
    refine J_ret ?_
    refine JX_seq_ret ?_
    refine JX_ret Tryd.results14 (Res.agg Tryd.isAgg23 Tryd.sizeOf23 rfl (by repeat (first | exact List.mem_cons_self | apply List.mem_cons_of_mem | apply List.mem_append_right)) rfl (Res.tmp rfl Res.nil)) (fun w1 hw1 => ?_)
    exact ⟨(by rw [((((hF.f hq1).f hq2).t hq3)).eq] <;> first | rfl | (simp only [List.length_set] <;> rfl)), hw1.ext_out⟩
  have hfhq3 := pRight_t (by simpa using hq3)
  refine J_skip ?_
  refine JX_seq ?_
  refine J_seq ?_
  refine J_reg ?_
  refine JL_q (q_loadA Tryd.isAgg23 Tryd.sizeOf23) (k := ?_)
  refine JL_s (w_store (l' := [_, _]) Tryd.sizeOf23) (k := ?_)
  refine JL_q (q_assign) (k := ?_)
  refine JL_nil ?_
  refine JX_seq ?_
  refine J_ret ?_
  refine JX_ret Tryd.results14 (Res.agg Tryd.isAgg23 Tryd.sizeOf23 rfl (by repeat (first | exact List.mem_cons_self | apply List.mem_cons_of_mem | apply List.mem_append_right)) rfl (Res.tmp rfl Res.nil)) (fun w1 hw1 => ?_)
  exact ⟨(by rw [((((hF.f hq1).f hq2).f hq3)).eq] <;> first | rfl | (simp only [List.length_set] <;> rfl)), hw1.ext_out⟩

theorem tPrint_ok (w : World) {ea0 : Addr} {ea1 : Addr} {t : Target} (hG : Gl w) (hE : Er w ea0 ea1) : Val Tryd.prog 20 [(Value.agg [(Value.int .i64 (t.addr)), (Value.int .i64 (t.port))].toArray)] w (Value.tuple [(Value.string (bs ((tPrint t).1))), (Value.int .i64 (((tPrint t).2)))].toArray) := by
  have hF := Is.refl (tPrint t)
  refine enter Tryd.func20 Tryd.ntmps20 (h := ?_)
  refine J_seq ?_
  refine J_reg ?_
  refine JL_a noMk (a_box (l := [_, _])) (k := fun r1 hr1 => ?_)
  refine JL_q (q_assign) (k := ?_)
  refine JL_q (q_assign) (k := ?_)
  refine JL_nil ?_
  refine JX_seq ?_
  refine J_seq ?_
  refine J_reg ?_
  refine JL_q (q_fld FO_37_0) (k := ?_)
  refine JL_q (q_load Tryd.isAgg3) (k := ?_)
  refine JL_v (args := [(Value.int .i64 (t.addr))]) (c_callA Tryd.call35) (fun w1 hw1 => aPrint_ok w1 (a := t.addr) (hG := hG.ext hw1.ext_out) (hE := hE.ext hw1.ext_out)) (k := ?_)
  have hpl_70744 := aPrint_len t.addr
  refine JL_q (q_move) (k := ?_)
  refine JL_q (q_ext) (k := ?_)
  refine JL_q (q_ext) (k := ?_)
  refine JL_q (q_assign) (k := ?_)
  refine JL_q (q_assign) (k := ?_)
  refine JL_nil ?_
  refine JX_seq ?_
  refine J_seq ?_
  refine J_seq ?_
  refine J_reg ?_
  refine JL_q (q_move) (k := ?_)
  refine JL_q (q_neq) (k := ?_)
  refine JL_q (q_move) (k := ?_)
  refine JL_dec 14 rfl (fun hq1 => ?_) (fun hq1 => ?_)
  · refine JL_skips 3 rfl ?_
    refine JL_q (q_pickT) (k := ?_)
    refine JL_q (q_move) (k := ?_)
    refine JL_skips 3 rfl ?_
    refine JL_q (q_pickT) (k := ?_)
    refine JL_nil ?_
    refine JX_seq ?_
    refine J_true rfl ?_
    refine J_seq ?_
    refine J_reg ?_
    obtain ⟨Thgl2, fhgl2, hgl2⟩ := hE.v1
    refine JL_q (q_loadB Tryd.isAgg46 hgl2) (k := ?_)
    refine JL_inl (args := [(Value.iface 135 (.pointer (some ea1)))]) (c_callA Tryd.call24) Tryd.func24 Tryd.ntmps24 ?_
    refine J_seq ?_
    refine J_reg ?_
    refine JL_q (q_assign) (k := ?_)
    refine JL_nil ?_
    refine JX_seq ?_
    refine J_seq ?_
    refine J_block ?_
    refine J_seq ?_
    refine J_reg ?_
    refine JL_q (q_move) (k := ?_)
    obtain ⟨Thgl3, fhgl3, hgl3⟩ := hE.v0
    refine JL_q (q_loadB Tryd.isAgg46 hgl3) (k := ?_)
    refine JL_v (args := [(Value.iface 135 (.pointer (some ea1))), (Value.iface 135 (.pointer (some ea0)))]) (c_callA Tryd.call41) (fun w1 hw1 => is_other_v w1 hE.n1_0 (hE.ext hw1.ext_out).b1 (hE.ext hw1.ext_out).b0) (k := ?_)
    refine JL_q (q_assign) (k := ?_)
    refine JL_nil ?_
    refine JX_seq ?_
    refine J_false rfl ?_
    refine J_seq ?_
    refine J_reg ?_
    refine JL_q (q_move) (k := ?_)
    obtain ⟨Thgl4, fhgl4, hgl4⟩ := hE.v1
    refine JL_q (q_loadB Tryd.isAgg46 hgl4) (k := ?_)
    refine JL_v (args := [(Value.iface 135 (.pointer (some ea1))), (Value.iface 135 (.pointer (some ea1)))]) (c_callA Tryd.call41) (fun w1 hw1 => is_same_v w1) (k := ?_)
    refine JL_q (q_assign) (k := ?_)
    refine JL_nil ?_
    refine JX_seq ?_
    refine J_true rfl ?_
    refine J_seq ?_
    refine J_reg ?_
    refine JL_q (q_assign) (k := ?_)
    refine JL_nil ?_
    refine JX_seq ?_
    refine J_ret ?_
    refine JX_block_ret ?_
    refine JX_seq_ret ?_
    refine JX_retI Tryd.results24 (Res.tmp rfl Res.nil) ?_
    refine JL_q (q_assign) (k := ?_)
    refine JL_q (q_assign) (k := ?_)
    refine JL_nil ?_
    refine JX_seq ?_
    refine J_ret ?_
    refine JX_seq_ret ?_
    refine JX_ret Tryd.results20 (Res.tmp rfl (Res.tmp rfl Res.nil)) (fun w1 hw1 => ?_)
    exact ⟨(by rw [((hF.pos hq1)).eq] <;> first | rfl | (simp only [List.length_set] <;> rfl)), hw1.ext_out⟩
  refine JL_qg (q_fld FO_37_1) (k := ?_)
  refine JL_qg (q_load Tryd.isAgg3) (k := ?_)
  refine JL_qg (q_lss) (k := ?_)
  refine JL_q (q_pickF) (k := ?_)
  refine JL_q (q_move) (k := ?_)
  refine JL_dec 19 rfl (fun hq5 => ?_) (fun hq5 => ?_)
  · refine JL_skips 3 rfl ?_
    refine JL_q (q_pickT) (k := ?_)
    refine JL_nil ?_
    refine JX_seq ?_
    refine J_true rfl ?_
    refine J_seq ?_
    refine J_reg ?_
    obtain ⟨Thgl6, fhgl6, hgl6⟩ := hE.v1
    refine JL_q (q_loadB Tryd.isAgg46 hgl6) (k := ?_)
    refine JL_inl (args := [(Value.iface 135 (.pointer (some ea1)))]) (c_callA Tryd.call24) Tryd.func24 Tryd.ntmps24 ?_
    refine J_seq ?_
    refine J_reg ?_
    refine JL_q (q_assign) (k := ?_)
    refine JL_nil ?_
    refine JX_seq ?_
    refine J_seq ?_
    refine J_block ?_
    refine J_seq ?_
    refine J_reg ?_
    refine JL_q (q_move) (k := ?_)
    obtain ⟨Thgl7, fhgl7, hgl7⟩ := hE.v0
    refine JL_q (q_loadB Tryd.isAgg46 hgl7) (k := ?_)
    refine JL_v (args := [(Value.iface 135 (.pointer (some ea1))), (Value.iface 135 (.pointer (some ea0)))]) (c_callA Tryd.call41) (fun w1 hw1 => is_other_v w1 hE.n1_0 (hE.ext hw1.ext_out).b1 (hE.ext hw1.ext_out).b0) (k := ?_)
    refine JL_q (q_assign) (k := ?_)
    refine JL_nil ?_
    refine JX_seq ?_
    refine J_false rfl ?_
    refine J_seq ?_
    refine J_reg ?_
    refine JL_q (q_move) (k := ?_)
    obtain ⟨Thgl8, fhgl8, hgl8⟩ := hE.v1
    refine JL_q (q_loadB Tryd.isAgg46 hgl8) (k := ?_)
    refine JL_v (args := [(Value.iface 135 (.pointer (some ea1))), (Value.iface 135 (.pointer (some ea1)))]) (c_callA Tryd.call41) (fun w1 hw1 => is_same_v w1) (k := ?_)
    refine JL_q (q_assign) (k := ?_)
    refine JL_nil ?_
    refine JX_seq ?_
    refine J_true rfl ?_
    refine J_seq ?_
    refine J_reg ?_
    refine JL_q (q_assign) (k := ?_)
    refine JL_nil ?_
    refine JX_seq ?_
    refine J_ret ?_
    refine JX_block_ret ?_
    refine JX_seq_ret ?_
    refine JX_retI Tryd.results24 (Res.tmp rfl Res.nil) ?_
    refine JL_q (q_assign) (k := ?_)
    refine JL_q (q_assign) (k := ?_)
    refine JL_nil ?_
    refine JX_seq ?_
    refine J_ret ?_
    refine JX_seq_ret ?_
    refine JX_ret Tryd.results20 (Res.tmp rfl (Res.tmp rfl Res.nil)) (fun w1 hw1 => ?_)
    exact ⟨(by rw [(((hF.neg hq1).pos hq5)).eq] <;> first | rfl | (simp only [List.length_set] <;> rfl)), hw1.ext_out⟩
  refine JL_qg (q_fld FO_37_1) (k := ?_)
  refine JL_qg (q_load Tryd.isAgg3) (k := ?_)
  refine JL_qg (q_gtr) (k := ?_)
  refine JL_q (q_pickF) (k := ?_)
  refine JL_nil ?_
  refine JX_seq ?_
  refine J_dec rfl (fun hq9 => ?_) (fun hq9 => ?_)
  rotate_left
  · refine J_skip ?_
    refine JX_seq ?_
    refine J_seq ?_
    refine J_reg ?_
    refine JL_q (q_move) (k := ?_)
    refine JL_q (q_addT (s := ((aPrint t.addr).1)) (s' := ([58] : Str)) (h := by first | omega | (simp only [List.length_append, List.length_take, List.length_drop, List.length_set, List.length_replicate, List.length_cons, List.length_nil, List.length_map]; omega) | (simp only [List.length_append, List.length_take, List.length_drop, List.length_set, List.length_replicate, List.length_cons, List.length_nil, List.length_map] at *; omega))) (k := ?_)
    refine JL_q (q_fld FO_37_1) (k := ?_)
    refine JL_q (q_load Tryd.isAgg3) (k := ?_)
    refine JL_v (args := [(Value.int .i64 (t.port))]) (c_callA Tryd.call26) (fun w1 hw1 => Itoa_ok w1 (n := t.port) (hG := hG.ext hw1.ext_out) (hn := by first | omega | (simp only [List.length_append, List.length_take, List.length_drop, List.length_set, List.length_replicate, List.length_cons, List.length_nil, List.length_map]; omega) | (simp only [List.length_append, List.length_take, List.length_drop, List.length_set, List.length_replicate, List.length_cons, List.length_nil, List.length_map] at *; omega))) (k := ?_)
    have hil_45697 := itoa_len (n := t.port) (by omega)
    refine JL_q (q_addT (s := (((aPrint t.addr).1) ++ ([58] : Str))) (s' := (Lib.itoa t.port)) (h := by first | omega | (simp only [List.length_append, List.length_take, List.length_drop, List.length_set, List.length_replicate, List.length_cons, List.length_nil, List.length_map]; omega) | (simp only [List.length_append, List.length_take, List.length_drop, List.length_set, List.length_replicate, List.length_cons, List.length_nil, List.length_map] at *; omega))) (k := ?_)
    refine JL_q (q_assign) (k := ?_)
    refine JL_q (q_assign) (k := ?_)
    refine JL_nil ?_
    refine JX_seq ?_
    refine J_ret ?_
    refine JX_ret Tryd.results20 (Res.tmp rfl (Res.tmp rfl Res.nil)) (fun w1 hw1 => ?_)
    exact ⟨(by rw [((((hF.neg hq1).neg hq5).neg hq9)).eq] <;> first | rfl | (simp only [List.length_set] <;> rfl)), hw1.ext_out⟩
  refine J_seq ?_
  refine J_reg ?_
  obtain ⟨Thgl10, fhgl10, hgl10⟩ := hE.v1
  refine JL_q (q_loadB Tryd.isAgg46 hgl10) (k := ?_)
  refine JL_inl (args := [(Value.iface 135 (.pointer (some ea1)))]) (c_callA Tryd.call24) Tryd.func24 Tryd.ntmps24 ?_
  refine J_seq ?_
  refine J_reg ?_
  refine JL_q (q_assign) (k := ?_)
  refine JL_nil ?_
  refine JX_seq ?_
  refine J_seq ?_
  refine J_block ?_
  refine J_seq ?_
  refine J_reg ?_
  refine JL_q (q_move) (k := ?_)
  obtain ⟨Thgl11, fhgl11, hgl11⟩ := hE.v0
  refine JL_q (q_loadB Tryd.isAgg46 hgl11) (k := ?_)
  refine JL_v (args := [(Value.iface 135 (.pointer (some ea1))), (Value.iface 135 (.pointer (some ea0)))]) (c_callA Tryd.call41) (fun w1 hw1 => is_other_v w1 hE.n1_0 (hE.ext hw1.ext_out).b1 (hE.ext hw1.ext_out).b0) (k := ?_)
  refine JL_q (q_assign) (k := ?_)
  refine JL_nil ?_
  refine JX_seq ?_
  refine J_false rfl ?_
  refine J_seq ?_
  refine J_reg ?_
  refine JL_q (q_move) (k := ?_)
  obtain ⟨Thgl12, fhgl12, hgl12⟩ := hE.v1
  refine JL_q (q_loadB Tryd.isAgg46 hgl12) (k := ?_)
  refine JL_v (args := [(Value.iface 135 (.pointer (some ea1))), (Value.iface 135 (.pointer (some ea1)))]) (c_callA Tryd.call41) (fun w1 hw1 => is_same_v w1) (k := ?_)
  refine JL_q (q_assign) (k := ?_)
  refine JL_nil ?_
  refine JX_seq ?_
  refine J_true rfl ?_
  refine J_seq ?_
  refine J_reg ?_
  refine JL_q (q_assign) (k := ?_)
  refine JL_nil ?_
  refine JX_seq ?_
  refine J_ret ?_
  refine JX_block_ret ?_
  refine JX_seq_ret ?_
  refine JX_retI Tryd.results24 (Res.tmp rfl Res.nil) ?_
  refine JL_q (q_assign) (k := ?_)
  refine JL_q (q_assign) (k := ?_)
  refine JL_nil ?_
  refine JX_seq ?_
  refine J_ret ?_
  refine JX_seq_ret ?_
  refine JX_ret Tryd.results20 (Res.tmp rfl (Res.tmp rfl Res.nil)) (fun w1 hw1 => ?_)
  exact ⟨(by rw [((((hF.neg hq1).neg hq5).pos hq9)).eq] <;> first | rfl | (simp only [List.length_set] <;> rfl)), hw1.ext_out⟩

theorem tParse_ok (w : World) {ea0 : Addr} {ea1 : Addr} {s : Str} (n_s : s.length ≤ 1000000) (hG : Gl w) (hE : Er w ea0 ea1) : Val Tryd.prog 22 [(Value.string (bs s))] w (Value.tuple [(Value.agg [(Value.int .i64 (((tParse s).1.addr))), (Value.int .i64 (((tParse s).1.port)))].toArray), (Value.int .i64 (((tParse s).2)))].toArray) := by
  have hF := Is.refl (tParse s)
  refine enter Tryd.func22 Tryd.ntmps22 (h := ?_)
  refine J_seq ?_
  refine J_reg ?_
  refine JL_a noMk (a_alloc (l := [_, _]) Tryd.zeroValue37) (k := fun r1 hr1 => ?_)
  refine JL_q (q_assign) (k := ?_)
  refine JL_nil ?_
  refine JX_seq ?_
  refine J_seq ?_
  refine J_reg ?_
  refine JL_q (q_move) (k := ?_)
  refine JL_v (args := [(Value.string (bs s)), (Value.string (bs ([58] : Str)))]) (c_callA Tryd.call37) (fun w1 hw1 => Cut_ok w1 (s := s) (sep := ([58] : Str)) (hG := hG.ext hw1.ext_out) (hn := by first | omega | (simp only [List.length_append, List.length_take, List.length_drop, List.length_set, List.length_replicate, List.length_cons, List.length_nil, List.length_map]; omega) | (simp only [List.length_append, List.length_take, List.length_drop, List.length_set, List.length_replicate, List.length_cons, List.length_nil, List.length_map] at *; omega))) (k := ?_)
  have hct_62884 := cut_len s ([58] : Str)
  refine JL_q (q_move) (k := ?_)
  refine JL_q (q_ext) (k := ?_)
  refine JL_q (q_ext) (k := ?_)
  refine JL_q (q_ext) (k := ?_)
  refine JL_q (q_assign) (k := ?_)
  refine JL_q (q_assign) (k := ?_)
  refine JL_q (q_assign) (k := ?_)
  refine JL_nil ?_
  refine JX_seq ?_
  refine J_seq ?_
  refine J_reg ?_
  refine JL_q (q_move) (k := ?_)
  refine JL_v (args := [(Value.string (bs ((Lib.cut s ([58] : Str)).1)))]) (c_callA Tryd.call38) (fun w1 hw1 => aParse_ok w1 (s := ((Lib.cut s ([58] : Str)).1)) (n_s := by first | omega | (simp only [List.length_append, List.length_take, List.length_drop, List.length_set, List.length_replicate, List.length_cons, List.length_nil, List.length_map]; omega) | (simp only [List.length_append, List.length_take, List.length_drop, List.length_set, List.length_replicate, List.length_cons, List.length_nil, List.length_map] at *; omega) | decide) (hG := hG.ext hw1.ext_out) (hE := hE.ext hw1.ext_out)) (k := ?_)
  refine JL_q (q_move) (k := ?_)
  refine JL_q (q_ext) (k := ?_)
  refine JL_q (q_ext) (k := ?_)
  refine JL_q (q_assign) (k := ?_)
  refine JL_q (q_assign) (k := ?_)
  refine JL_nil ?_
  refine JX_seq ?_
  refine J_seq ?_
  refine J_reg ?_
  refine JL_q (q_move) (k := ?_)
  refine JL_q (q_move) (k := ?_)
  refine JL_q (q_build (cs := [_]) Tryd.zeroValue65 PL_65) (k := ?_)
  refine JL_v (args := [(Value.agg [(Value.string (bs ((Lib.cut s ([58] : Str)).2.1)))].toArray)]) (c_callA Tryd.call39) (fun w1 hw1 => pNumber_ok w1 (t := ((Lib.cut s ([58] : Str)).2.1)) (n_t := by first | omega | (simp only [List.length_append, List.length_take, List.length_drop, List.length_set, List.length_replicate, List.length_cons, List.length_nil, List.length_map]; omega) | (simp only [List.length_append, List.length_take, List.length_drop, List.length_set, List.length_replicate, List.length_cons, List.length_nil, List.length_map] at *; omega) | decide)) (k := ?_)
  refine JL_q (q_build (cs := [_, _]) Tryd.zeroValue37 PL_37) (k := ?_)
  refine JL_a noMk (a_alloc (l := [_, _]) Tryd.zeroValue37) (k := fun r2 hr2 => ?_)
  refine JL_s (w_store (l' := [_, _]) Tryd.sizeOf37) (k := ?_)
  refine JL_nil ?_
  refine JX_seq ?_
  refine J_seq ?_
  refine J_seq ?_
  refine J_reg ?_
  refine JL_q (q_loadA Tryd.isAgg37 Tryd.sizeOf37) (k := ?_)
  refine JL_v (args := [(Value.agg [(Value.int .i64 (((aParse ((Lib.cut s ([58] : Str)).1)).1))), (Value.int .i64 ((pNumber ((Lib.cut s ([58] : Str)).2.1))))].toArray)]) (c_callA Tryd.call20) (fun w1 hw1 => tPrint_ok w1 (t := (Target.mk ((aParse ((Lib.cut s ([58] : Str)).1)).1) (pNumber ((Lib.cut s ([58] : Str)).2.1)))) (hG := hG.ext hw1.ext_out) (hE := hE.ext hw1.ext_out)) (k := ?_)
  refine JL_q (q_move) (k := ?_)
  refine JL_q (q_ext) (k := ?_)
  refine JL_q (q_ext) (k := ?_)
  refine JL_q (q_assign) (k := ?_)
  refine JL_q (q_assign) (k := ?_)
  refine JL_nil ?_
  refine JX_seq ?_
  refine J_seq ?_
  refine J_reg ?_
  refine JL_q (q_move) (k := ?_)
  refine JL_q (q_neq) (k := ?_)
  refine JL_q (q_move) (k := ?_)
  refine JL_dec 35 rfl (fun hq1 => ?_) (fun hq1 => ?_)
  · refine JL_skips 2 rfl ?_
    refine JL_q (q_pickT) (k := ?_)
    refine JL_q (q_move) (k := ?_)
    refine JL_skips 3 rfl ?_
    refine JL_q (q_pickT) (k := ?_)
    refine JL_nil ?_
    refine JX_seq ?_
    refine J_true rfl ?_
    refine J_seq ?_
    refine J_reg ?_
    refine JL_q (q_build (cs := [_, _]) Tryd.zeroValue37 PL_37) (k := ?_)
    obtain ⟨Thgl2, fhgl2, hgl2⟩ := hE.v1
    refine JL_q (q_loadB Tryd.isAgg46 hgl2) (k := ?_)
    refine JL_inl (args := [(Value.iface 135 (.pointer (some ea1)))]) (c_callA Tryd.call24) Tryd.func24 Tryd.ntmps24 ?_
    refine J_seq ?_
    refine J_reg ?_
    refine JL_q (q_assign) (k := ?_)
    refine JL_nil ?_
    refine JX_seq ?_
    refine J_seq ?_
    refine J_block ?_
    refine J_seq ?_
    refine J_reg ?_
    refine JL_q (q_move) (k := ?_)
    obtain ⟨Thgl3, fhgl3, hgl3⟩ := hE.v0
    refine JL_q (q_loadB Tryd.isAgg46 hgl3) (k := ?_)
    refine JL_v (args := [(Value.iface 135 (.pointer (some ea1))), (Value.iface 135 (.pointer (some ea0)))]) (c_callA Tryd.call41) (fun w1 hw1 => is_other_v w1 hE.n1_0 (hE.ext hw1.ext_out).b1 (hE.ext hw1.ext_out).b0) (k := ?_)
    refine JL_q (q_assign) (k := ?_)
    refine JL_nil ?_
    refine JX_seq ?_
    refine J_false rfl ?_
    refine J_seq ?_
    refine J_reg ?_
    refine JL_q (q_move) (k := ?_)
    obtain ⟨Thgl4, fhgl4, hgl4⟩ := hE.v1
    refine JL_q (q_loadB Tryd.isAgg46 hgl4) (k := ?_)
    refine JL_v (args := [(Value.iface 135 (.pointer (some ea1))), (Value.iface 135 (.pointer (some ea1)))]) (c_callA Tryd.call41) (fun w1 hw1 => is_same_v w1) (k := ?_)
    refine JL_q (q_assign) (k := ?_)
    refine JL_nil ?_
    refine JX_seq ?_
    refine J_true rfl ?_
    refine J_seq ?_
    refine J_reg ?_
    refine JL_q (q_assign) (k := ?_)
    refine JL_nil ?_
    refine JX_seq ?_
    refine J_ret ?_
    refine JX_block_ret ?_
    refine JX_seq_ret ?_
    refine JX_retI Tryd.results24 (Res.tmp rfl Res.nil) ?_
    refine JL_s (w_store (l' := [_, _]) Tryd.sizeOf37) (k := ?_)
    refine JL_q (q_assign) (k := ?_)
    refine JL_nil ?_
    refine JX_seq ?_
    refine J_ret ?_
    refine JX_seq_ret ?_
    refine JX_ret Tryd.results22 (Res.agg Tryd.isAgg37 Tryd.sizeOf37 rfl (by repeat (first | exact List.mem_cons_self | apply List.mem_cons_of_mem | apply List.mem_append_right)) rfl (Res.tmp rfl Res.nil)) (fun w1 hw1 => ?_)
    exact ⟨(by rw [((hF.pos hq1)).eq] <;> first | rfl | (simp only [List.length_set] <;> rfl)), hw1.ext_out⟩
  refine JL_qg (q_move) (k := ?_)
  refine JL_qg (q_neq) (k := ?_)
  refine JL_q (q_pickF) (k := ?_)
  refine JL_q (q_move) (k := ?_)
  refine JL_dec 39 rfl (fun hq5 => ?_) (fun hq5 => ?_)
  · refine JL_skips 3 rfl ?_
    refine JL_q (q_pickT) (k := ?_)
    refine JL_nil ?_
    refine JX_seq ?_
    refine J_true rfl ?_
    refine J_seq ?_
    refine J_reg ?_
    refine JL_q (q_build (cs := [_, _]) Tryd.zeroValue37 PL_37) (k := ?_)
    obtain ⟨Thgl6, fhgl6, hgl6⟩ := hE.v1
    refine JL_q (q_loadB Tryd.isAgg46 hgl6) (k := ?_)
    refine JL_inl (args := [(Value.iface 135 (.pointer (some ea1)))]) (c_callA Tryd.call24) Tryd.func24 Tryd.ntmps24 ?_
    refine J_seq ?_
    refine J_reg ?_
    refine JL_q (q_assign) (k := ?_)
    refine JL_nil ?_
    refine JX_seq ?_
    refine J_seq ?_
    refine J_block ?_
    refine J_seq ?_
    refine J_reg ?_
    refine JL_q (q_move) (k := ?_)
    obtain ⟨Thgl7, fhgl7, hgl7⟩ := hE.v0
    refine JL_q (q_loadB Tryd.isAgg46 hgl7) (k := ?_)
    refine JL_v (args := [(Value.iface 135 (.pointer (some ea1))), (Value.iface 135 (.pointer (some ea0)))]) (c_callA Tryd.call41) (fun w1 hw1 => is_other_v w1 hE.n1_0 (hE.ext hw1.ext_out).b1 (hE.ext hw1.ext_out).b0) (k := ?_)
    refine JL_q (q_assign) (k := ?_)
    refine JL_nil ?_
    refine JX_seq ?_
    refine J_false rfl ?_
    refine J_seq ?_
    refine J_reg ?_
    refine JL_q (q_move) (k := ?_)
    obtain ⟨Thgl8, fhgl8, hgl8⟩ := hE.v1
    refine JL_q (q_loadB Tryd.isAgg46 hgl8) (k := ?_)
    refine JL_v (args := [(Value.iface 135 (.pointer (some ea1))), (Value.iface 135 (.pointer (some ea1)))]) (c_callA Tryd.call41) (fun w1 hw1 => is_same_v w1) (k := ?_)
    refine JL_q (q_assign) (k := ?_)
    refine JL_nil ?_
    refine JX_seq ?_
    refine J_true rfl ?_
    refine J_seq ?_
    refine J_reg ?_
    refine JL_q (q_assign) (k := ?_)
    refine JL_nil ?_
    refine JX_seq ?_
    refine J_ret ?_
    refine JX_block_ret ?_
    refine JX_seq_ret ?_
    refine JX_retI Tryd.results24 (Res.tmp rfl Res.nil) ?_
    refine JL_s (w_store (l' := [_, _]) Tryd.sizeOf37) (k := ?_)
    refine JL_q (q_assign) (k := ?_)
    refine JL_nil ?_
    refine JX_seq ?_
    refine J_ret ?_
    refine JX_seq_ret ?_
    refine JX_ret Tryd.results22 (Res.agg Tryd.isAgg37 Tryd.sizeOf37 rfl (by repeat (first | exact List.mem_cons_self | apply List.mem_cons_of_mem | apply List.mem_append_right)) rfl (Res.tmp rfl Res.nil)) (fun w1 hw1 => ?_)
    exact ⟨(by rw [(((hF.neg hq1).pos hq5)).eq] <;> first | rfl | (simp only [List.length_set] <;> rfl)), hw1.ext_out⟩
  refine JL_qg (q_move) (k := ?_)
  refine JL_qg (q_move) (k := ?_)
  refine JL_qg (q_neT) (k := ?_)
  refine JL_q (q_pickF) (k := ?_)
  refine JL_nil ?_
  refine JX_seq ?_
  refine J_dec rfl (fun hq9 => ?_) (fun hq9 => ?_)
  rotate_left
  · refine J_skip ?_
    refine JX_seq ?_
    refine J_seq ?_
    refine J_reg ?_
    refine JL_q (q_loadA Tryd.isAgg37 Tryd.sizeOf37) (k := ?_)
    refine JL_s (w_store (l' := [_, _]) Tryd.sizeOf37) (k := ?_)
    refine JL_q (q_assign) (k := ?_)
    refine JL_nil ?_
    refine JX_seq ?_
    refine J_ret ?_
    refine JX_ret Tryd.results22 (Res.agg Tryd.isAgg37 Tryd.sizeOf37 rfl (by repeat (first | exact List.mem_cons_self | apply List.mem_cons_of_mem | apply List.mem_append_right)) rfl (Res.tmp rfl Res.nil)) (fun w1 hw1 => ?_)
    exact ⟨(by rw [((((hF.neg hq1).neg hq5).neg hq9)).eq] <;> first | rfl | (simp only [List.length_set] <;> rfl)), hw1.ext_out⟩
  refine J_seq ?_
  refine J_reg ?_
  refine JL_q (q_build (cs := [_, _]) Tryd.zeroValue37 PL_37) (k := ?_)
  obtain ⟨Thgl10, fhgl10, hgl10⟩ := hE.v1
  refine JL_q (q_loadB Tryd.isAgg46 hgl10) (k := ?_)
  refine JL_inl (args := [(Value.iface 135 (.pointer (some ea1)))]) (c_callA Tryd.call24) Tryd.func24 Tryd.ntmps24 ?_
  refine J_seq ?_
  refine J_reg ?_
  refine JL_q (q_assign) (k := ?_)
  refine JL_nil ?_
  refine JX_seq ?_
  refine J_seq ?_
  refine J_block ?_
  refine J_seq ?_
  refine J_reg ?_
  refine JL_q (q_move) (k := ?_)
  obtain ⟨Thgl11, fhgl11, hgl11⟩ := hE.v0
  refine JL_q (q_loadB Tryd.isAgg46 hgl11) (k := ?_)
  refine JL_v (args := [(Value.iface 135 (.pointer (some ea1))), (Value.iface 135 (.pointer (some ea0)))]) (c_callA Tryd.call41) (fun w1 hw1 => is_other_v w1 hE.n1_0 (hE.ext hw1.ext_out).b1 (hE.ext hw1.ext_out).b0) (k := ?_)
  refine JL_q (q_assign) (k := ?_)
  refine JL_nil ?_
  refine JX_seq ?_
  refine J_false rfl ?_
  refine J_seq ?_
  refine J_reg ?_
  refine JL_q (q_move) (k := ?_)
  obtain ⟨Thgl12, fhgl12, hgl12⟩ := hE.v1
  refine JL_q (q_loadB Tryd.isAgg46 hgl12) (k := ?_)
  refine JL_v (args := [(Value.iface 135 (.pointer (some ea1))), (Value.iface 135 (.pointer (some ea1)))]) (c_callA Tryd.call41) (fun w1 hw1 => is_same_v w1) (k := ?_)
  refine JL_q (q_assign) (k := ?_)
  refine JL_nil ?_
  refine JX_seq ?_
  refine J_true rfl ?_
  refine J_seq ?_
  refine J_reg ?_
  refine JL_q (q_assign) (k := ?_)
  refine JL_nil ?_
  refine JX_seq ?_
  refine J_ret ?_
  refine JX_block_ret ?_
  refine JX_seq_ret ?_
  refine JX_retI Tryd.results24 (Res.tmp rfl Res.nil) ?_
  refine JL_s (w_store (l' := [_, _]) Tryd.sizeOf37) (k := ?_)
  refine JL_q (q_assign) (k := ?_)
  refine JL_nil ?_
  refine JX_seq ?_
  refine J_ret ?_
  refine JX_seq_ret ?_
  refine JX_ret Tryd.results22 (Res.agg Tryd.isAgg37 Tryd.sizeOf37 rfl (by repeat (first | exact List.mem_cons_self | apply List.mem_cons_of_mem | apply List.mem_append_right)) rfl (Res.tmp rfl Res.nil)) (fun w1 hw1 => ?_)
  exact ⟨(by rw [((((hF.neg hq1).neg hq5).pos hq9)).eq] <;> first | rfl | (simp only [List.length_set] <;> rfl)), hw1.ext_out⟩

end Go.Proofs.YtnnafnjdngjkoaaDoor.Jd
