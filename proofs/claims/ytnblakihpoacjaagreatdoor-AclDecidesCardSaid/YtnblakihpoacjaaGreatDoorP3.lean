/- Part of the proofs of this seat: walks and plain facts. No condition. -/
import Derived.Test.YtnblakihpoacjaaGreatDoorProg
import Derived.Test.YtnblakihpoacjaaGreatDoorChecked
import Derived.WalkKit
import Derived.LaidEql
import Derived.Stop.Asserts
import Derived.RowKitTokens
import Derived.Test.YtnblakihpoacjaaGreatDoorP2
import Derived.Test.YtnblakihpoacjaaGreatDoorP1
namespace Go.Proofs.YtnblakihpoacjaaGreatDoor.Jd
open Go.Proofs
open Go.RowKit (Below)
set_option maxRecDepth 100000
set_option maxHeartbeats 8000000
set_option linter.unusedVariables false
set_option linter.unusedSimpArgs false
theorem rPRight_ok (w : World) {p : PortsT} : Val Tryz.prog 72 [(Value.agg [(Value.int .i64 (p.lo)), (Value.int .i64 (p.hi))].toArray)] w (Value.bool ((rPRight p))) := by
  have hF := Is.refl (rPRight p)
  refine enter Tryz.func72 Tryz.ntmps72 (h := ?_)
  refine J_seq ?_
  refine J_reg ?_
  refine JL_a noMk (a_box (l := [_, _])) (k := fun r1 hr1 => ?_)
  refine JL_q (q_assign) (k := ?_)
  refine JL_nil ?_
  refine JX_seq ?_
  refine J_seq ?_
  refine J_reg ?_
  refine JL_q (q_fld FO_25_0) (k := ?_)
  refine JL_q (q_load Tryz.isAgg3) (k := ?_)
  refine JL_q (q_geq) (k := ?_)
  refine JL_q (q_move) (k := ?_)
  refine JL_dec 6 rfl (fun hq1 => ?_) (fun hq1 => ?_)
  rotate_left
  · refine JL_skips 5 rfl ?_
    refine JL_q (q_pickF) (k := ?_)
    refine JL_q (q_move) (k := ?_)
    refine JL_skips 3 rfl ?_
    refine JL_q (q_pickF) (k := ?_)
    refine JL_q (q_assign) (k := ?_)
    refine JL_nil ?_
    refine JX_seq ?_
    refine J_ret ?_
    refine JX_ret Tryz.results72 (Res.tmp rfl Res.nil) (fun w1 hw1 => ?_)
    exact ⟨(by rw [((hF.neg hq1)).eq] <;> first | rfl | (simp only [List.length_set] <;> rfl)), hw1.ext_out⟩
  refine JL_qg (q_fld FO_25_0) (k := ?_)
  refine JL_qg (q_load Tryz.isAgg3) (k := ?_)
  refine JL_qg (q_fld FO_25_1) (k := ?_)
  refine JL_qg (q_load Tryz.isAgg3) (k := ?_)
  refine JL_qg (q_leq) (k := ?_)
  refine JL_q (q_pickT) (k := ?_)
  refine JL_q (q_move) (k := ?_)
  refine JL_dec 13 rfl (fun hq2 => ?_) (fun hq2 => ?_)
  rotate_left
  · refine JL_skips 3 rfl ?_
    refine JL_q (q_pickF) (k := ?_)
    refine JL_q (q_assign) (k := ?_)
    refine JL_nil ?_
    refine JX_seq ?_
    refine J_ret ?_
    refine JX_ret Tryz.results72 (Res.tmp rfl Res.nil) (fun w1 hw1 => ?_)
    exact ⟨(by rw [(((hF.pos hq1).neg hq2)).eq] <;> first | rfl | (simp only [List.length_set] <;> rfl)), hw1.ext_out⟩
  refine JL_qg (q_fld FO_25_1) (k := ?_)
  refine JL_qg (q_load Tryz.isAgg3) (k := ?_)
  refine JL_qg (q_leq) (k := ?_)
  refine JL_q (q_pickT) (k := ?_)
  refine JL_q (q_assign) (k := ?_)
  refine JL_nil ?_
  refine JX_seq ?_
  refine J_ret ?_
  refine JX_ret Tryz.results72 (Res.tmp rfl Res.nil) (fun w1 hw1 => ?_)
  exact ⟨(by rw [(((hF.pos hq1).pos hq2)).eq] <;> first | rfl | (simp only [List.length_set] <;> rfl)), hw1.ext_out⟩

theorem rPPrint_ok (w : World) {p : PortsT} : Val Tryz.prog 43 [(Value.agg [(Value.int .i64 (p.lo)), (Value.int .i64 (p.hi))].toArray)] w (Value.tuple [(Value.string (bs ((rPPrint p).1))), (Value.int .i64 (((rPPrint p).2)))].toArray) := by
  have hF := Is.refl (rPPrint p)
  refine enter Tryz.func43 Tryz.ntmps43 (h := ?_)
  refine J_seq ?_
  refine J_reg ?_
  refine JL_a noMk (a_box (l := [_, _])) (k := fun r1 hr1 => ?_)
  refine JL_q (q_assign) (k := ?_)
  refine JL_q (q_assign) (k := ?_)
  refine JL_nil ?_
  refine JX_seq ?_
  refine J_seq ?_
  refine J_seq ?_
  refine J_reg ?_
  refine JL_q (q_loadA Tryz.isAgg25 Tryz.sizeOf25) (k := ?_)
  refine JL_v (args := [(Value.agg [(Value.int .i64 (p.lo)), (Value.int .i64 (p.hi))].toArray)]) (c_callA Tryz.call72) (fun w1 hw1 => rPRight_ok w1 (p := p)) (k := ?_)
  refine JL_q (q_not) (k := ?_)
  refine JL_nil ?_
  refine JX_seq ?_
  refine J_cond rfl (fun hq1 => ?_) (fun hq1 => ?_)
  · refine J_seq ?_
    refine J_reg ?_
    refine JL_q (q_assign) (k := ?_)
    refine JL_q (q_assign) (k := ?_)
    refine JL_nil ?_
    refine JX_seq ?_
    refine J_ret ?_
    refine JX_seq_ret ?_
    refine JX_ret Tryz.results43 (Res.tmp rfl (Res.tmp rfl Res.nil)) (fun w1 hw1 => ?_)
    exact ⟨(by rw [((hF.t hq1)).eq] <;> first | rfl | (simp only [List.length_set] <;> rfl)), hw1.ext_out⟩
  have hfhq1 := rPRight_t (by simpa using hq1)
  refine J_skip ?_
  refine JX_seq ?_
  refine J_seq ?_
  refine J_block ?_
  refine J_seq ?_
  refine J_reg ?_
  refine JL_q (q_fld FO_25_0) (k := ?_)
  refine JL_q (q_load Tryz.isAgg3) (k := ?_)
  refine JL_q (q_eql) (k := ?_)
  refine JL_q (q_move) (k := ?_)
  refine JL_dec 11 rfl (fun hq2 => ?_) (fun hq2 => ?_)
  rotate_left
  · refine JL_skips 3 rfl ?_
    refine JL_q (q_pickF) (k := ?_)
    refine JL_q (q_assign) (k := ?_)
    refine JL_nil ?_
    refine JX_seq ?_
    refine J_false rfl ?_
    refine J_seq ?_
    refine J_reg ?_
    refine JL_q (q_fld FO_25_0) (k := ?_)
    refine JL_q (q_load Tryz.isAgg3) (k := ?_)
    refine JL_q (q_fld FO_25_1) (k := ?_)
    refine JL_q (q_load Tryz.isAgg3) (k := ?_)
    refine JL_q (q_eql) (k := ?_)
    refine JL_q (q_assign) (k := ?_)
    refine JL_nil ?_
    refine JX_seq ?_
    refine J_dec rfl (fun hq5 => ?_) (fun hq5 => ?_)
    · refine J_seq ?_
      refine J_reg ?_
      refine JL_q (q_fld FO_25_0) (k := ?_)
      refine JL_q (q_load Tryz.isAgg3) (k := ?_)
      refine JL_v (args := [(Value.int .i64 (p.lo))]) (c_callA Tryz.call74) (fun w1 hw1 => rNum_ok w1 (n_ := p.lo) (hn := by first | exact lb | decide)) (k := ?_)
      have hil_90824 := itoa_len (n := p.lo) (by omega)
      refine JL_q (q_assign) (k := ?_)
      refine JL_q (q_assign) (k := ?_)
      refine JL_nil ?_
      refine JX_seq ?_
      refine J_ret ?_
      refine JX_block_ret ?_
      refine JX_seq_ret ?_
      refine JX_ret Tryz.results43 (Res.tmp rfl (Res.tmp rfl Res.nil)) (fun w1 hw1 => ?_)
      exact ⟨(by rw [((((hF.f hq1).neg hq2).pos hq5)).eq] <;> first | rfl | (simp only [List.length_set] <;> rfl)), hw1.ext_out⟩
    refine J_skip ?_
    refine JX_block ?_
    refine JX_seq ?_
    refine J_seq ?_
    refine J_plan mixed 10 [(true, 0), (true, 1), (true, 4), (true, 5), (false, 2), (true, 3), (false, 6), (true, 7), (true, 8), (true, 9)] (by kernel_rfl) ?_
    refine JD_q (q_fld FO_25_0) (k := ?_)
    refine JD_q (q_load Tryz.isAgg3) (k := ?_)
    refine JD_q (q_fld FO_25_1) (k := ?_)
    refine JD_q (q_load Tryz.isAgg3) (k := ?_)
    refine JD_v (args := [(Value.int .i64 (p.lo))]) (c_callA Tryz.call74) (fun w1 hw1 => rNum_ok w1 (n_ := p.lo) (hn := by first | exact lb | decide)) (k := ?_)
    have hil_90824 := itoa_len (n := p.lo) (by omega)
    refine JD_q (q_addT (s := (Lib.itoa p.lo)) (s' := ([45] : Str)) (h := by first | exact lb)) (k := ?_)
    have hsa3 : ((Lib.itoa p.lo) ++ ([45] : Str)).length = (Lib.itoa p.lo).length + 1 := by simp only [List.length_append, List.length_cons, List.length_nil, Nat.zero_add]
    refine JD_v (args := [(Value.int .i64 (p.hi))]) (c_callA Tryz.call74) (fun w1 hw1 => rNum_ok w1 (n_ := p.hi) (hn := by first | exact lb | decide)) (k := ?_)
    have hil_96057 := itoa_len (n := p.hi) (by omega)
    refine JD_q (q_addT (s := ((Lib.itoa p.lo) ++ ([45] : Str))) (s' := (Lib.itoa p.hi)) (h := by first | exact lb)) (k := ?_)
    have hsa4 : (((Lib.itoa p.lo) ++ ([45] : Str)) ++ (Lib.itoa p.hi)).length = ((Lib.itoa p.lo) ++ ([45] : Str)).length + (Lib.itoa p.hi).length := by simp only [List.length_append, List.length_cons, List.length_nil, Nat.zero_add]
    refine JD_q (q_assign) (k := ?_)
    refine JD_q (q_assign) (k := ?_)
    refine JD_nil0 ?_
    refine JL_nil ?_
    refine JX_seq ?_
    refine J_ret ?_
    refine JX_ret Tryz.results43 (Res.tmp rfl (Res.tmp rfl Res.nil)) (fun w1 hw1 => ?_)
    exact ⟨(by rw [((((hF.f hq1).neg hq2).neg hq5)).eq] <;> first | rfl | (simp only [List.length_set] <;> rfl)), hw1.ext_out⟩
  refine JL_qg (q_fld FO_25_1) (k := ?_)
  refine JL_qg (q_load Tryz.isAgg3) (k := ?_)
  refine JL_qg (q_eql) (k := ?_)
  refine JL_q (q_pickT) (k := ?_)
  refine JL_q (q_assign) (k := ?_)
  refine JL_nil ?_
  refine JX_seq ?_
  refine J_dec rfl (fun hq3 => ?_) (fun hq3 => ?_)
  · refine J_seq ?_
    refine J_reg ?_
    refine JL_q (q_assign) (k := ?_)
    refine JL_q (q_assign) (k := ?_)
    refine JL_nil ?_
    refine JX_seq ?_
    refine J_ret ?_
    refine JX_block_ret ?_
    refine JX_seq_ret ?_
    refine JX_ret Tryz.results43 (Res.tmp rfl (Res.tmp rfl Res.nil)) (fun w1 hw1 => ?_)
    exact ⟨(by rw [((((hF.f hq1).pos hq2).pos hq3)).eq] <;> first | rfl | (simp only [List.length_set] <;> rfl)), hw1.ext_out⟩
  refine J_seq ?_
  refine J_reg ?_
  refine JL_q (q_fld FO_25_0) (k := ?_)
  refine JL_q (q_load Tryz.isAgg3) (k := ?_)
  refine JL_q (q_fld FO_25_1) (k := ?_)
  refine JL_q (q_load Tryz.isAgg3) (k := ?_)
  refine JL_q (q_eql) (k := ?_)
  refine JL_q (q_assign) (k := ?_)
  refine JL_nil ?_
  refine JX_seq ?_
  refine J_dec rfl (fun hq4 => ?_) (fun hq4 => ?_)
  · refine J_seq ?_
    refine J_reg ?_
    refine JL_q (q_fld FO_25_0) (k := ?_)
    refine JL_q (q_load Tryz.isAgg3) (k := ?_)
    refine JL_v (args := [(Value.int .i64 (p.lo))]) (c_callA Tryz.call74) (fun w1 hw1 => rNum_ok w1 (n_ := p.lo) (hn := by first | exact lb | decide)) (k := ?_)
    have hil_90824 := itoa_len (n := p.lo) (by omega)
    refine JL_q (q_assign) (k := ?_)
    refine JL_q (q_assign) (k := ?_)
    refine JL_nil ?_
    refine JX_seq ?_
    refine J_ret ?_
    refine JX_block_ret ?_
    refine JX_seq_ret ?_
    refine JX_ret Tryz.results43 (Res.tmp rfl (Res.tmp rfl Res.nil)) (fun w1 hw1 => ?_)
    exact ⟨(by rw [(((((hF.f hq1).pos hq2).neg hq3).pos hq4)).eq] <;> first | rfl | (simp only [List.length_set] <;> rfl)), hw1.ext_out⟩
  refine J_skip ?_
  refine JX_block ?_
  refine JX_seq ?_
  refine J_seq ?_
  refine J_plan mixed 10 [(true, 0), (true, 1), (true, 4), (true, 5), (false, 2), (true, 3), (false, 6), (true, 7), (true, 8), (true, 9)] (by kernel_rfl) ?_
  refine JD_q (q_fld FO_25_0) (k := ?_)
  refine JD_q (q_load Tryz.isAgg3) (k := ?_)
  refine JD_q (q_fld FO_25_1) (k := ?_)
  refine JD_q (q_load Tryz.isAgg3) (k := ?_)
  refine JD_v (args := [(Value.int .i64 (p.lo))]) (c_callA Tryz.call74) (fun w1 hw1 => rNum_ok w1 (n_ := p.lo) (hn := by first | exact lb | decide)) (k := ?_)
  have hil_90824 := itoa_len (n := p.lo) (by omega)
  refine JD_q (q_addT (s := (Lib.itoa p.lo)) (s' := ([45] : Str)) (h := by first | exact lb)) (k := ?_)
  have hsa1 : ((Lib.itoa p.lo) ++ ([45] : Str)).length = (Lib.itoa p.lo).length + 1 := by simp only [List.length_append, List.length_cons, List.length_nil, Nat.zero_add]
  refine JD_v (args := [(Value.int .i64 (p.hi))]) (c_callA Tryz.call74) (fun w1 hw1 => rNum_ok w1 (n_ := p.hi) (hn := by first | exact lb | decide)) (k := ?_)
  have hil_96057 := itoa_len (n := p.hi) (by omega)
  refine JD_q (q_addT (s := ((Lib.itoa p.lo) ++ ([45] : Str))) (s' := (Lib.itoa p.hi)) (h := by first | exact lb)) (k := ?_)
  have hsa2 : (((Lib.itoa p.lo) ++ ([45] : Str)) ++ (Lib.itoa p.hi)).length = ((Lib.itoa p.lo) ++ ([45] : Str)).length + (Lib.itoa p.hi).length := by simp only [List.length_append, List.length_cons, List.length_nil, Nat.zero_add]
  refine JD_q (q_assign) (k := ?_)
  refine JD_q (q_assign) (k := ?_)
  refine JD_nil0 ?_
  refine JL_nil ?_
  refine JX_seq ?_
  refine J_ret ?_
  refine JX_ret Tryz.results43 (Res.tmp rfl (Res.tmp rfl Res.nil)) (fun w1 hw1 => ?_)
  exact ⟨(by rw [(((((hF.f hq1).pos hq2).neg hq3).neg hq4)).eq] <;> first | rfl | (simp only [List.length_set] <;> rfl)), hw1.ext_out⟩

theorem rPParse_ok (w : World) {s : Str} (n_s : s.length ≤ 1000000) : Val Tryz.prog 46 [(Value.string (bs s))] w (Value.tuple [(Value.agg [(Value.int .i64 (((rPParse s).1.lo))), (Value.int .i64 (((rPParse s).1.hi)))].toArray), (Value.int .i64 (((rPParse s).2)))].toArray) := by
  have hF := Is.refl (rPParse s)
  refine enter Tryz.func46 Tryz.ntmps46 (h := ?_)
  refine J_seq ?_
  refine J_reg ?_
  refine JL_a noMk (a_alloc (l := [_, _]) Tryz.zeroValue25) (k := fun r1 hr1 => ?_)
  refine JL_q (q_assign) (k := ?_)
  refine JL_nil ?_
  refine JX_seq ?_
  refine J_seq ?_
  refine J_reg ?_
  refine JL_q (q_build (cs := [_, _]) Tryz.zeroValue25 PL_25) (k := ?_)
  refine JL_a noMk (a_alloc (l := [_, _]) Tryz.zeroValue25) (k := fun r2 hr2 => ?_)
  refine JL_s (w_store (l' := [_, _]) Tryz.sizeOf25) (k := ?_)
  refine JL_nil ?_
  refine JX_seq ?_
  refine J_seq ?_
  refine J_seq ?_
  refine J_reg ?_
  refine JL_q (q_move) (k := ?_)
  refine JL_q (q_neT) (k := ?_)
  refine JL_nil ?_
  refine JX_seq ?_
  refine J_dec rfl (fun hq1 => ?_) (fun hq1 => ?_)
  rotate_left
  · refine J_skip ?_
    refine JX_seq ?_
    refine J_seq ?_
    refine J_reg ?_
    refine JL_q (q_loadA Tryz.isAgg25 Tryz.sizeOf25) (k := ?_)
    refine JL_v (args := [(Value.agg [(Value.int .i64 (0)), (Value.int .i64 (65535))].toArray)]) (c_callA Tryz.call43) (fun w1 hw1 => rPPrint_ok w1 (p := (PortsT.mk 0 65535))) (k := ?_)
    refine JL_q (q_move) (k := ?_)
    refine JL_q (q_ext) (k := ?_)
    refine JL_q (q_ext) (k := ?_)
    refine JL_q (q_assign) (k := ?_)
    refine JL_q (q_assign) (k := ?_)
    refine JL_nil ?_
    refine JX_seq ?_
    refine J_seq ?_
    refine J_seq ?_
    refine J_reg ?_
    refine JL_q (q_move) (k := ?_)
    refine JL_q (q_neq) (k := ?_)
    refine JL_q (q_move) (k := ?_)
    refine JL_dec 42 rfl (fun hq7 => ?_) (fun hq7 => ?_)
    · refine JL_skips 3 rfl ?_
      refine JL_q (q_pickT) (k := ?_)
      refine JL_nil ?_
      refine JX_seq ?_
      refine J_true rfl ?_
      refine J_seq ?_
      refine J_reg ?_
      refine JL_q (q_build (cs := [_, _]) Tryz.zeroValue25 PL_25) (k := ?_)
      refine JL_s (w_store (l' := [_, _]) Tryz.sizeOf25) (k := ?_)
      refine JL_q (q_assign) (k := ?_)
      refine JL_nil ?_
      refine JX_seq ?_
      refine J_ret ?_
      refine JX_seq_ret ?_
      refine JX_ret Tryz.results46 (Res.agg Tryz.isAgg25 Tryz.sizeOf25 rfl me rfl (Res.tmp rfl Res.nil)) (fun w1 hw1 => ?_)
      exact ⟨(by rw [(((hF.neg hq1).pos hq7)).eq] <;> first | rfl | (simp only [List.length_set] <;> rfl)), hw1.ext_out⟩
    refine JL_qg (q_move) (k := ?_)
    refine JL_qg (q_move) (k := ?_)
    refine JL_qg (q_neT) (k := ?_)
    refine JL_q (q_pickF) (k := ?_)
    refine JL_nil ?_
    refine JX_seq ?_
    refine J_dec rfl (fun hq8 => ?_) (fun hq8 => ?_)
    · refine J_seq ?_
      refine J_reg ?_
      refine JL_q (q_build (cs := [_, _]) Tryz.zeroValue25 PL_25) (k := ?_)
      refine JL_s (w_store (l' := [_, _]) Tryz.sizeOf25) (k := ?_)
      refine JL_q (q_assign) (k := ?_)
      refine JL_nil ?_
      refine JX_seq ?_
      refine J_ret ?_
      refine JX_seq_ret ?_
      refine JX_ret Tryz.results46 (Res.agg Tryz.isAgg25 Tryz.sizeOf25 rfl me rfl (Res.tmp rfl Res.nil)) (fun w1 hw1 => ?_)
      exact ⟨(by rw [((((hF.neg hq1).neg hq7).pos hq8)).eq] <;> first | rfl | (simp only [List.length_set] <;> rfl)), hw1.ext_out⟩
    refine J_skip ?_
    refine JX_seq ?_
    refine J_seq ?_
    refine J_reg ?_
    refine JL_q (q_loadA Tryz.isAgg25 Tryz.sizeOf25) (k := ?_)
    refine JL_s (w_store (l' := [_, _]) Tryz.sizeOf25) (k := ?_)
    refine JL_q (q_assign) (k := ?_)
    refine JL_nil ?_
    refine JX_seq ?_
    refine J_ret ?_
    refine JX_ret Tryz.results46 (Res.agg Tryz.isAgg25 Tryz.sizeOf25 rfl me rfl (Res.tmp rfl Res.nil)) (fun w1 hw1 => ?_)
    exact ⟨(by rw [((((hF.neg hq1).neg hq7).neg hq8)).eq] <;> first | rfl | (simp only [List.length_set] <;> rfl)), hw1.ext_out⟩
  refine J_seq ?_
  refine J_reg ?_
  refine JL_q (q_move) (k := ?_)
  refine JL_v (args := [(Value.string (bs s)), (Value.int .u8 (45))]) (c_callA Tryz.call44) (fun w1 hw1 => rCut_ok w1 (s := s) (c := 45) (n_s := by first | exact lb | decide)) (k := ?_)
  have hct_31028 := rCut_len s 45
  refine JL_q (q_move) (k := ?_)
  refine JL_q (q_ext) (k := ?_)
  refine JL_q (q_ext) (k := ?_)
  refine JL_q (q_ext) (k := ?_)
  refine JL_q (q_assign) (k := ?_)
  refine JL_q (q_assign) (k := ?_)
  refine JL_q (q_assign) (k := ?_)
  refine JL_nil ?_
  refine JX_seq ?_
  refine J_seq ?_
  refine J_reg ?_
  refine JL_q (q_move) (k := ?_)
  refine JL_v (args := [(Value.string (bs ((rCut s 45).1))), (Value.int .i64 (65535))]) (c_callA Tryz.call76) (fun w1 hw1 => rNumber_ok w1 (s := ((rCut s 45).1)) (most := 65535) (n_s := by first | exact lb | decide) (hm := by first | exact lb | decide)) (k := ?_)
  refine JL_q (q_move) (k := ?_)
  refine JL_q (q_ext) (k := ?_)
  refine JL_q (q_ext) (k := ?_)
  refine JL_q (q_fld FO_25_0) (k := ?_)
  refine JL_s (w_store (l' := [_, _]) Tryz.sizeOf3) (k := ?_)
  refine JL_nil ?_
  refine JX_seq ?_
  refine J_seq ?_
  refine J_reg ?_
  refine JL_q (q_fld FO_25_0) (k := ?_)
  refine JL_q (q_load Tryz.isAgg3) (k := ?_)
  refine JL_q (q_fld FO_25_1) (k := ?_)
  refine JL_s (w_store (l' := [_, _]) Tryz.sizeOf3) (k := ?_)
  refine JL_nil ?_
  refine JX_seq ?_
  refine J_seq ?_
  refine J_reg ?_
  refine JL_q (q_move) (k := ?_)
  refine JL_nil ?_
  refine JX_seq ?_
  refine J_cond rfl (fun hq2 => ?_) (fun hq2 => ?_)
  rotate_left
  · refine J_skip ?_
    refine JX_seq ?_
    refine J_seq ?_
    refine J_reg ?_
    refine JL_q (q_loadA Tryz.isAgg25 Tryz.sizeOf25) (k := ?_)
    refine JL_v (args := [(Value.agg [(Value.int .i64 (((rNumber ((rCut s 45).1) 65535).1))), (Value.int .i64 (((rNumber ((rCut s 45).1) 65535).1)))].toArray)]) (c_callA Tryz.call43) (fun w1 hw1 => rPPrint_ok w1 (p := (PortsT.mk ((rNumber ((rCut s 45).1) 65535).1) ((rNumber ((rCut s 45).1) 65535).1)))) (k := ?_)
    refine JL_q (q_move) (k := ?_)
    refine JL_q (q_ext) (k := ?_)
    refine JL_q (q_ext) (k := ?_)
    refine JL_q (q_assign) (k := ?_)
    refine JL_q (q_assign) (k := ?_)
    refine JL_nil ?_
    refine JX_seq ?_
    refine J_seq ?_
    refine J_seq ?_
    refine J_reg ?_
    refine JL_q (q_move) (k := ?_)
    refine JL_q (q_neq) (k := ?_)
    refine JL_q (q_move) (k := ?_)
    refine JL_dec 42 rfl (fun hq5 => ?_) (fun hq5 => ?_)
    · refine JL_skips 3 rfl ?_
      refine JL_q (q_pickT) (k := ?_)
      refine JL_nil ?_
      refine JX_seq ?_
      refine J_true rfl ?_
      refine J_seq ?_
      refine J_reg ?_
      refine JL_q (q_build (cs := [_, _]) Tryz.zeroValue25 PL_25) (k := ?_)
      refine JL_s (w_store (l' := [_, _]) Tryz.sizeOf25) (k := ?_)
      refine JL_q (q_assign) (k := ?_)
      refine JL_nil ?_
      refine JX_seq ?_
      refine J_ret ?_
      refine JX_seq_ret ?_
      refine JX_ret Tryz.results46 (Res.agg Tryz.isAgg25 Tryz.sizeOf25 rfl me rfl (Res.tmp rfl Res.nil)) (fun w1 hw1 => ?_)
      exact ⟨(by rw [((((hF.pos hq1).f hq2).pos hq5)).eq] <;> first | rfl | (simp only [List.length_set] <;> rfl)), hw1.ext_out⟩
    refine JL_qg (q_move) (k := ?_)
    refine JL_qg (q_move) (k := ?_)
    refine JL_qg (q_neT) (k := ?_)
    refine JL_q (q_pickF) (k := ?_)
    refine JL_nil ?_
    refine JX_seq ?_
    refine J_dec rfl (fun hq6 => ?_) (fun hq6 => ?_)
    · refine J_seq ?_
      refine J_reg ?_
      refine JL_q (q_build (cs := [_, _]) Tryz.zeroValue25 PL_25) (k := ?_)
      refine JL_s (w_store (l' := [_, _]) Tryz.sizeOf25) (k := ?_)
      refine JL_q (q_assign) (k := ?_)
      refine JL_nil ?_
      refine JX_seq ?_
      refine J_ret ?_
      refine JX_seq_ret ?_
      refine JX_ret Tryz.results46 (Res.agg Tryz.isAgg25 Tryz.sizeOf25 rfl me rfl (Res.tmp rfl Res.nil)) (fun w1 hw1 => ?_)
      exact ⟨(by rw [(((((hF.pos hq1).f hq2).neg hq5).pos hq6)).eq] <;> first | rfl | (simp only [List.length_set] <;> rfl)), hw1.ext_out⟩
    refine J_skip ?_
    refine JX_seq ?_
    refine J_seq ?_
    refine J_reg ?_
    refine JL_q (q_loadA Tryz.isAgg25 Tryz.sizeOf25) (k := ?_)
    refine JL_s (w_store (l' := [_, _]) Tryz.sizeOf25) (k := ?_)
    refine JL_q (q_assign) (k := ?_)
    refine JL_nil ?_
    refine JX_seq ?_
    refine J_ret ?_
    refine JX_ret Tryz.results46 (Res.agg Tryz.isAgg25 Tryz.sizeOf25 rfl me rfl (Res.tmp rfl Res.nil)) (fun w1 hw1 => ?_)
    exact ⟨(by rw [(((((hF.pos hq1).f hq2).neg hq5).neg hq6)).eq] <;> first | rfl | (simp only [List.length_set] <;> rfl)), hw1.ext_out⟩
  refine J_reg ?_
  refine JL_q (q_move) (k := ?_)
  refine JL_v (args := [(Value.string (bs ((rCut s 45).2.1))), (Value.int .i64 (65535))]) (c_callA Tryz.call76) (fun w1 hw1 => rNumber_ok w1 (s := ((rCut s 45).2.1)) (most := 65535) (n_s := by first | exact lb | decide) (hm := by first | exact lb | decide)) (k := ?_)
  refine JL_q (q_move) (k := ?_)
  refine JL_q (q_ext) (k := ?_)
  refine JL_q (q_ext) (k := ?_)
  refine JL_q (q_fld FO_25_1) (k := ?_)
  refine JL_s (w_store (l' := [_, _]) Tryz.sizeOf3) (k := ?_)
  refine JL_nil ?_
  refine JX_seq ?_
  refine J_seq ?_
  refine J_reg ?_
  refine JL_q (q_loadA Tryz.isAgg25 Tryz.sizeOf25) (k := ?_)
  refine JL_v (args := [(Value.agg [(Value.int .i64 (((rNumber ((rCut s 45).1) 65535).1))), (Value.int .i64 (((rNumber ((rCut s 45).2.1) 65535).1)))].toArray)]) (c_callA Tryz.call43) (fun w1 hw1 => rPPrint_ok w1 (p := (PortsT.mk ((rNumber ((rCut s 45).1) 65535).1) ((rNumber ((rCut s 45).2.1) 65535).1)))) (k := ?_)
  refine JL_q (q_move) (k := ?_)
  refine JL_q (q_ext) (k := ?_)
  refine JL_q (q_ext) (k := ?_)
  refine JL_q (q_assign) (k := ?_)
  refine JL_q (q_assign) (k := ?_)
  refine JL_nil ?_
  refine JX_seq ?_
  refine J_seq ?_
  refine J_seq ?_
  refine J_reg ?_
  refine JL_q (q_move) (k := ?_)
  refine JL_q (q_neq) (k := ?_)
  refine JL_q (q_move) (k := ?_)
  refine JL_dec 42 rfl (fun hq3 => ?_) (fun hq3 => ?_)
  · refine JL_skips 3 rfl ?_
    refine JL_q (q_pickT) (k := ?_)
    refine JL_nil ?_
    refine JX_seq ?_
    refine J_true rfl ?_
    refine J_seq ?_
    refine J_reg ?_
    refine JL_q (q_build (cs := [_, _]) Tryz.zeroValue25 PL_25) (k := ?_)
    refine JL_s (w_store (l' := [_, _]) Tryz.sizeOf25) (k := ?_)
    refine JL_q (q_assign) (k := ?_)
    refine JL_nil ?_
    refine JX_seq ?_
    refine J_ret ?_
    refine JX_seq_ret ?_
    refine JX_ret Tryz.results46 (Res.agg Tryz.isAgg25 Tryz.sizeOf25 rfl me rfl (Res.tmp rfl Res.nil)) (fun w1 hw1 => ?_)
    exact ⟨(by rw [((((hF.pos hq1).t hq2).pos hq3)).eq] <;> first | rfl | (simp only [List.length_set] <;> rfl)), hw1.ext_out⟩
  refine JL_qg (q_move) (k := ?_)
  refine JL_qg (q_move) (k := ?_)
  refine JL_qg (q_neT) (k := ?_)
  refine JL_q (q_pickF) (k := ?_)
  refine JL_nil ?_
  refine JX_seq ?_
  refine J_dec rfl (fun hq4 => ?_) (fun hq4 => ?_)
  · refine J_seq ?_
    refine J_reg ?_
    refine JL_q (q_build (cs := [_, _]) Tryz.zeroValue25 PL_25) (k := ?_)
    refine JL_s (w_store (l' := [_, _]) Tryz.sizeOf25) (k := ?_)
    refine JL_q (q_assign) (k := ?_)
    refine JL_nil ?_
    refine JX_seq ?_
    refine J_ret ?_
    refine JX_seq_ret ?_
    refine JX_ret Tryz.results46 (Res.agg Tryz.isAgg25 Tryz.sizeOf25 rfl me rfl (Res.tmp rfl Res.nil)) (fun w1 hw1 => ?_)
    exact ⟨(by rw [(((((hF.pos hq1).t hq2).neg hq3).pos hq4)).eq] <;> first | rfl | (simp only [List.length_set] <;> rfl)), hw1.ext_out⟩
  refine J_skip ?_
  refine JX_seq ?_
  refine J_seq ?_
  refine J_reg ?_
  refine JL_q (q_loadA Tryz.isAgg25 Tryz.sizeOf25) (k := ?_)
  refine JL_s (w_store (l' := [_, _]) Tryz.sizeOf25) (k := ?_)
  refine JL_q (q_assign) (k := ?_)
  refine JL_nil ?_
  refine JX_seq ?_
  refine J_ret ?_
  refine JX_ret Tryz.results46 (Res.agg Tryz.isAgg25 Tryz.sizeOf25 rfl me rfl (Res.tmp rfl Res.nil)) (fun w1 hw1 => ?_)
  exact ⟨(by rw [(((((hF.pos hq1).t hq2).neg hq3).neg hq4)).eq] <;> first | rfl | (simp only [List.length_set] <;> rfl)), hw1.ext_out⟩

theorem rPHas_ok (w : World) {p : PortsT} {n_ : Int} : Val Tryz.prog 50 [(Value.agg [(Value.int .i64 (p.lo)), (Value.int .i64 (p.hi))].toArray), (Value.int .i64 (n_))] w (Value.bool ((rPHas p n_))) := by
  have hF := Is.refl (rPHas p n_)
  refine enter Tryz.func50 Tryz.ntmps50 (h := ?_)
  refine J_seq ?_
  refine J_reg ?_
  refine JL_a noMk (a_box (l := [_, _])) (k := fun r1 hr1 => ?_)
  refine JL_q (q_assign) (k := ?_)
  refine JL_nil ?_
  refine JX_seq ?_
  refine J_seq ?_
  refine J_reg ?_
  refine JL_q (q_loadA Tryz.isAgg25 Tryz.sizeOf25) (k := ?_)
  refine JL_v (args := [(Value.agg [(Value.int .i64 (p.lo)), (Value.int .i64 (p.hi))].toArray)]) (c_callA Tryz.call72) (fun w1 hw1 => rPRight_ok w1 (p := p)) (k := ?_)
  refine JL_q (q_move) (k := ?_)
  refine JL_bool 7 rfl (fun hq1 => ?_) (fun hq1 => ?_)
  rotate_left
  · refine JL_skips 4 rfl ?_
    refine JL_q (q_pickF) (k := ?_)
    refine JL_q (q_move) (k := ?_)
    refine JL_skips 4 rfl ?_
    refine JL_q (q_pickF) (k := ?_)
    refine JL_q (q_assign) (k := ?_)
    refine JL_nil ?_
    refine JX_seq ?_
    refine J_ret ?_
    refine JX_ret Tryz.results50 (Res.tmp rfl Res.nil) (fun w1 hw1 => ?_)
    exact ⟨(by rw [((hF.f hq1)).eq] <;> first | rfl | (simp only [List.length_set] <;> rfl)), hw1.ext_out⟩
  have hfhq1 := rPRight_t hq1
  refine JL_qg (q_move) (k := ?_)
  refine JL_qg (q_fld FO_25_0) (k := ?_)
  refine JL_qg (q_load Tryz.isAgg3) (k := ?_)
  refine JL_qg (q_geq) (k := ?_)
  refine JL_q (q_pickT) (k := ?_)
  refine JL_q (q_move) (k := ?_)
  refine JL_dec 13 rfl (fun hq2 => ?_) (fun hq2 => ?_)
  rotate_left
  · refine JL_skips 4 rfl ?_
    refine JL_q (q_pickF) (k := ?_)
    refine JL_q (q_assign) (k := ?_)
    refine JL_nil ?_
    refine JX_seq ?_
    refine J_ret ?_
    refine JX_ret Tryz.results50 (Res.tmp rfl Res.nil) (fun w1 hw1 => ?_)
    exact ⟨(by rw [(((hF.t hq1).neg hq2)).eq] <;> first | rfl | (simp only [List.length_set] <;> rfl)), hw1.ext_out⟩
  refine JL_qg (q_move) (k := ?_)
  refine JL_qg (q_fld FO_25_1) (k := ?_)
  refine JL_qg (q_load Tryz.isAgg3) (k := ?_)
  refine JL_qg (q_leq) (k := ?_)
  refine JL_q (q_pickT) (k := ?_)
  refine JL_q (q_assign) (k := ?_)
  refine JL_nil ?_
  refine JX_seq ?_
  refine J_ret ?_
  refine JX_ret Tryz.results50 (Res.tmp rfl Res.nil) (fun w1 hw1 => ?_)
  exact ⟨(by rw [(((hF.t hq1).pos hq2)).eq] <;> first | rfl | (simp only [List.length_set] <;> rfl)), hw1.ext_out⟩

theorem rTPrint_ok (w : World) {t : Target} : Val Tryz.prog 79 [(Value.agg [(Value.int .i64 (t.addr)), (Value.int .i64 (t.port))].toArray)] w (Value.tuple [(Value.string (bs ((rTPrint t).1))), (Value.int .i64 (((rTPrint t).2)))].toArray) := by
  have hF := Is.refl (rTPrint t)
  refine enter Tryz.func79 Tryz.ntmps79 (h := ?_)
  refine J_seq ?_
  refine J_reg ?_
  refine JL_a noMk (a_box (l := [_, _])) (k := fun r1 hr1 => ?_)
  refine JL_q (q_assign) (k := ?_)
  refine JL_q (q_assign) (k := ?_)
  refine JL_nil ?_
  refine JX_seq ?_
  refine J_seq ?_
  refine J_reg ?_
  refine JL_q (q_fld FO_39_0) (k := ?_)
  refine JL_q (q_load Tryz.isAgg3) (k := ?_)
  refine JL_v (args := [(Value.int .i64 (t.addr))]) (c_callA Tryz.call73) (fun w1 hw1 => rPrint_ok w1 (a := t.addr)) (k := ?_)
  have hpl_70744 := rPrint_len t.addr
  refine JL_q (q_move) (k := ?_)
  refine JL_q (q_ext) (k := ?_)
  refine JL_q (q_ext) (k := ?_)
  refine JL_q (q_assign) (k := ?_)
  refine JL_q (q_assign) (k := ?_)
  refine JL_nil ?_
  refine JX_seq ?_
  refine J_seq ?_
  refine J_seq ?_
  refine J_reg ?_
  refine JL_q (q_move) (k := ?_)
  refine JL_q (q_neq) (k := ?_)
  refine JL_q (q_move) (k := ?_)
  refine JL_dec 14 rfl (fun hq1 => ?_) (fun hq1 => ?_)
  · refine JL_skips 3 rfl ?_
    refine JL_q (q_pickT) (k := ?_)
    refine JL_q (q_move) (k := ?_)
    refine JL_skips 3 rfl ?_
    refine JL_q (q_pickT) (k := ?_)
    refine JL_nil ?_
    refine JX_seq ?_
    refine J_true rfl ?_
    refine J_seq ?_
    refine J_reg ?_
    refine JL_q (q_assign) (k := ?_)
    refine JL_q (q_assign) (k := ?_)
    refine JL_nil ?_
    refine JX_seq ?_
    refine J_ret ?_
    refine JX_seq_ret ?_
    refine JX_ret Tryz.results79 (Res.tmp rfl (Res.tmp rfl Res.nil)) (fun w1 hw1 => ?_)
    exact ⟨(by rw [((hF.pos hq1)).eq] <;> first | rfl | (simp only [List.length_set] <;> rfl)), hw1.ext_out⟩
  refine JL_qg (q_fld FO_39_1) (k := ?_)
  refine JL_qg (q_load Tryz.isAgg3) (k := ?_)
  refine JL_qg (q_lss) (k := ?_)
  refine JL_q (q_pickF) (k := ?_)
  refine JL_q (q_move) (k := ?_)
  refine JL_dec 19 rfl (fun hq2 => ?_) (fun hq2 => ?_)
  · refine JL_skips 3 rfl ?_
    refine JL_q (q_pickT) (k := ?_)
    refine JL_nil ?_
    refine JX_seq ?_
    refine J_true rfl ?_
    refine J_seq ?_
    refine J_reg ?_
    refine JL_q (q_assign) (k := ?_)
    refine JL_q (q_assign) (k := ?_)
    refine JL_nil ?_
    refine JX_seq ?_
    refine J_ret ?_
    refine JX_seq_ret ?_
    refine JX_ret Tryz.results79 (Res.tmp rfl (Res.tmp rfl Res.nil)) (fun w1 hw1 => ?_)
    exact ⟨(by rw [(((hF.neg hq1).pos hq2)).eq] <;> first | rfl | (simp only [List.length_set] <;> rfl)), hw1.ext_out⟩
  refine JL_qg (q_fld FO_39_1) (k := ?_)
  refine JL_qg (q_load Tryz.isAgg3) (k := ?_)
  refine JL_qg (q_gtr) (k := ?_)
  refine JL_q (q_pickF) (k := ?_)
  refine JL_nil ?_
  refine JX_seq ?_
  refine J_dec rfl (fun hq3 => ?_) (fun hq3 => ?_)
  · refine J_seq ?_
    refine J_reg ?_
    refine JL_q (q_assign) (k := ?_)
    refine JL_q (q_assign) (k := ?_)
    refine JL_nil ?_
    refine JX_seq ?_
    refine J_ret ?_
    refine JX_seq_ret ?_
    refine JX_ret Tryz.results79 (Res.tmp rfl (Res.tmp rfl Res.nil)) (fun w1 hw1 => ?_)
    exact ⟨(by rw [((((hF.neg hq1).neg hq2).pos hq3)).eq] <;> first | rfl | (simp only [List.length_set] <;> rfl)), hw1.ext_out⟩
  refine J_skip ?_
  refine JX_seq ?_
  refine J_seq ?_
  refine J_reg ?_
  refine JL_q (q_move) (k := ?_)
  refine JL_q (q_addT (s := ((rPrint t.addr).1)) (s' := ([58] : Str)) (h := by first | exact lb)) (k := ?_)
  have hsa1 : (((rPrint t.addr).1) ++ ([58] : Str)).length = ((rPrint t.addr).1).length + 1 := by simp only [List.length_append, List.length_cons, List.length_nil, Nat.zero_add]
  refine JL_q (q_fld FO_39_1) (k := ?_)
  refine JL_q (q_load Tryz.isAgg3) (k := ?_)
  refine JL_v (args := [(Value.int .i64 (t.port))]) (c_callA Tryz.call74) (fun w1 hw1 => rNum_ok w1 (n_ := t.port) (hn := by first | exact lb | decide)) (k := ?_)
  have hil_45697 := itoa_len (n := t.port) (by omega)
  refine JL_q (q_addT (s := (((rPrint t.addr).1) ++ ([58] : Str))) (s' := (Lib.itoa t.port)) (h := by first | exact lb)) (k := ?_)
  have hsa2 : ((((rPrint t.addr).1) ++ ([58] : Str)) ++ (Lib.itoa t.port)).length = (((rPrint t.addr).1) ++ ([58] : Str)).length + (Lib.itoa t.port).length := by simp only [List.length_append, List.length_cons, List.length_nil, Nat.zero_add]
  refine JL_q (q_assign) (k := ?_)
  refine JL_q (q_assign) (k := ?_)
  refine JL_nil ?_
  refine JX_seq ?_
  refine J_ret ?_
  refine JX_ret Tryz.results79 (Res.tmp rfl (Res.tmp rfl Res.nil)) (fun w1 hw1 => ?_)
  exact ⟨(by rw [((((hF.neg hq1).neg hq2).neg hq3)).eq] <;> first | rfl | (simp only [List.length_set] <;> rfl)), hw1.ext_out⟩

theorem pRight_ok (w : World) {p : PortsT} : Val Tryz.prog 53 [(Value.agg [(Value.int .i64 (p.lo)), (Value.int .i64 (p.hi))].toArray)] w (Value.bool ((pRight p))) := by
  have hF := Is.refl (pRight p)
  refine enter Tryz.func53 Tryz.ntmps53 (h := ?_)
  refine J_seq ?_
  refine J_reg ?_
  refine JL_a noMk (a_box (l := [_, _])) (k := fun r1 hr1 => ?_)
  refine JL_q (q_assign) (k := ?_)
  refine JL_nil ?_
  refine JX_seq ?_
  refine J_seq ?_
  refine J_reg ?_
  refine JL_q (q_loadA Tryz.isAgg25 Tryz.sizeOf25) (k := ?_)
  refine JL_a noMk (a_bslice (l := [_, _, _]) Tryz.runUnderlying173 Tryz.sizeOf126 Tryz.zeroValue126) (k := fun r2 hr2 => ?_)
  refine JL_inl (args := [(Value.agg [(Value.int .i64 (p.lo)), (Value.int .i64 (p.hi))].toArray), (Value.slice (some ⟨r2, 0, none⟩) (3) (3))]) (c_callA Tryz.call84) Tryz.func84 Tryz.ntmps84 ?_
  refine J_seq ?_
  refine J_reg ?_
  refine JL_a noMk (a_box (l := [_, _])) (k := fun r3 hr3 => ?_)
  refine JL_q (q_assign) (k := ?_)
  refine JL_nil ?_
  refine JX_seq ?_
  refine J_seq ?_
  refine J_seq ?_
  refine J_reg ?_
  refine JL_q (q_move) (k := ?_)
  refine JL_q (q_lenS Tryz.runUnderlying173) (k := ?_)
  refine JL_q (q_move) (k := ?_)
  refine JL_nil ?_
  refine JX_seq ?_
  refine J_block ?_
  refine J_unroll ?_
  refine J_seq ?_
  refine J_reg ?_
  refine JL_q (q_lss) (k := ?_)
  refine JL_nil ?_
  refine JX_seq ?_
  refine J_seq ?_
  refine J_true rfl ?_
  refine J_skip ?_
  refine JX_seq ?_
  refine J_seq ?_
  refine J_block ?_
  refine J_seq ?_
  refine J_reg ?_
  refine JL_q (q_idxO Tryz.runUnderlying173 Tryz.sizeOf126 0) (k := ?_)
  refine JL_q (q_load Tryz.isAgg126) (k := ?_)
  refine JL_q (q_assign) (k := ?_)
  refine JL_nil ?_
  refine JX_seq ?_
  refine J_seq ?_
  refine J_reg ?_
  refine JL_q (q_move) (k := ?_)
  refine JL_q (q_loadA Tryz.isAgg25 Tryz.sizeOf25) (k := ?_)
  refine JL_q (q_build (cs := [_, _]) Tryz.zeroValue128 PL_128) (k := ?_)
  refine JL_inl (args := [(Value.agg [(Value.int .i64 (p.lo)), (Value.int .i64 (p.hi))].toArray)]) (c_callA Tryz.call85) Tryz.func85 Tryz.ntmps85 ?_
  refine J_seq ?_
  refine J_reg ?_
  refine JL_a noMk (a_box (l := [_, _])) (k := fun r4 hr4 => ?_)
  refine JL_q (q_assign) (k := ?_)
  refine JL_nil ?_
  refine JX_seq ?_
  refine J_seq ?_
  refine J_reg ?_
  refine JL_q (q_fld FO_128_0) (k := ?_)
  refine JL_q (q_fld FO_25_0) (k := ?_)
  refine JL_q (q_load Tryz.isAgg3) (k := ?_)
  refine JL_q (q_fld FO_128_0) (k := ?_)
  refine JL_q (q_fld FO_25_1) (k := ?_)
  refine JL_q (q_load Tryz.isAgg3) (k := ?_)
  refine JL_q (q_leq) (k := ?_)
  refine JL_q (q_assign) (k := ?_)
  refine JL_nil ?_
  refine JX_seq ?_
  refine J_ret ?_
  refine JX_retI Tryz.results85 (Res.tmp rfl Res.nil) ?_
  refine JL_q (q_notD) (k := ?_)
  refine JL_nil ?_
  refine JX_seq ?_
  refine J_dec rfl (fun hq1 => ?_) (fun hq1 => ?_)
  · refine J_seq ?_
    refine J_reg ?_
    refine JL_q (q_assign) (k := ?_)
    refine JL_nil ?_
    refine JX_seq ?_
    refine J_ret ?_
    refine JX_block_ret ?_
    refine JX_seq_ret ?_
    refine JX_inv_ret ?_
    refine JX_block_ret ?_
    refine JX_seq_ret ?_
    refine JX_retI Tryz.results84 (Res.tmp rfl Res.nil) ?_
    refine JL_q (q_assign) (k := ?_)
    refine JL_nil ?_
    refine JX_seq ?_
    refine J_ret ?_
    refine JX_ret Tryz.results53 (Res.tmp rfl Res.nil) (fun w1 hw1 => ?_)
    exact ⟨(by rw [((hF.pos hq1)).eq] <;> first | rfl | (simp only [List.length_set] <;> rfl)), hw1.ext_out⟩
  refine J_skip ?_
  refine JX_block ?_
  refine JX_seq ?_
  refine J_reg ?_
  refine JL_q (q_add) (k := ?_)
  refine JL_q (q_move) (k := ?_)
  refine JL_nil ?_
  refine JX_again ?_
  refine J_seq ?_
  refine J_reg ?_
  refine JL_q (q_lss) (k := ?_)
  refine JL_nil ?_
  refine JX_seq ?_
  refine J_seq ?_
  refine J_true rfl ?_
  refine J_skip ?_
  refine JX_seq ?_
  refine J_seq ?_
  refine J_block ?_
  refine J_seq ?_
  refine J_reg ?_
  refine JL_q (q_idxO Tryz.runUnderlying173 Tryz.sizeOf126 1) (k := ?_)
  refine JL_q (q_load Tryz.isAgg126) (k := ?_)
  refine JL_q (q_assign) (k := ?_)
  refine JL_nil ?_
  refine JX_seq ?_
  refine J_seq ?_
  refine J_reg ?_
  refine JL_q (q_move) (k := ?_)
  refine JL_q (q_loadA Tryz.isAgg25 Tryz.sizeOf25) (k := ?_)
  refine JL_q (q_build (cs := [_, _]) Tryz.zeroValue128 PL_128) (k := ?_)
  refine JL_inl (args := [(Value.agg [(Value.int .i64 (p.lo)), (Value.int .i64 (p.hi))].toArray)]) (c_callA Tryz.call86) Tryz.func86 Tryz.ntmps86 ?_
  refine J_seq ?_
  refine J_reg ?_
  refine JL_a noMk (a_box (l := [_, _])) (k := fun r5 hr5 => ?_)
  refine JL_q (q_assign) (k := ?_)
  refine JL_nil ?_
  refine JX_seq ?_
  refine J_seq ?_
  refine J_reg ?_
  refine JL_q (q_fld FO_128_0) (k := ?_)
  refine JL_q (q_fld FO_25_0) (k := ?_)
  refine JL_q (q_load Tryz.isAgg3) (k := ?_)
  refine JL_q (q_geq) (k := ?_)
  refine JL_q (q_assign) (k := ?_)
  refine JL_nil ?_
  refine JX_seq ?_
  refine J_ret ?_
  refine JX_retI Tryz.results86 (Res.tmp rfl Res.nil) ?_
  refine JL_q (q_notD) (k := ?_)
  refine JL_nil ?_
  refine JX_seq ?_
  refine J_dec rfl (fun hq2 => ?_) (fun hq2 => ?_)
  · refine J_seq ?_
    refine J_reg ?_
    refine JL_q (q_assign) (k := ?_)
    refine JL_nil ?_
    refine JX_seq ?_
    refine J_ret ?_
    refine JX_block_ret ?_
    refine JX_seq_ret ?_
    refine JX_inv_ret ?_
    refine JX_block_ret ?_
    refine JX_seq_ret ?_
    refine JX_retI Tryz.results84 (Res.tmp rfl Res.nil) ?_
    refine JL_q (q_assign) (k := ?_)
    refine JL_nil ?_
    refine JX_seq ?_
    refine J_ret ?_
    refine JX_ret Tryz.results53 (Res.tmp rfl Res.nil) (fun w1 hw1 => ?_)
    exact ⟨(by rw [(((hF.neg hq1).pos hq2)).eq] <;> first | rfl | (simp only [List.length_set] <;> rfl)), hw1.ext_out⟩
  refine J_skip ?_
  refine JX_block ?_
  refine JX_seq ?_
  refine J_reg ?_
  refine JL_q (q_add) (k := ?_)
  refine JL_q (q_move) (k := ?_)
  refine JL_nil ?_
  refine JX_again ?_
  refine J_seq ?_
  refine J_reg ?_
  refine JL_q (q_lss) (k := ?_)
  refine JL_nil ?_
  refine JX_seq ?_
  refine J_seq ?_
  refine J_true rfl ?_
  refine J_skip ?_
  refine JX_seq ?_
  refine J_seq ?_
  refine J_block ?_
  refine J_seq ?_
  refine J_reg ?_
  refine JL_q (q_idxO Tryz.runUnderlying173 Tryz.sizeOf126 2) (k := ?_)
  refine JL_q (q_load Tryz.isAgg126) (k := ?_)
  refine JL_q (q_assign) (k := ?_)
  refine JL_nil ?_
  refine JX_seq ?_
  refine J_seq ?_
  refine J_reg ?_
  refine JL_q (q_move) (k := ?_)
  refine JL_q (q_loadA Tryz.isAgg25 Tryz.sizeOf25) (k := ?_)
  refine JL_q (q_build (cs := [_, _]) Tryz.zeroValue128 PL_128) (k := ?_)
  refine JL_inl (args := [(Value.agg [(Value.int .i64 (p.lo)), (Value.int .i64 (p.hi))].toArray)]) (c_callA Tryz.call87) Tryz.func87 Tryz.ntmps87 ?_
  refine J_seq ?_
  refine J_reg ?_
  refine JL_a noMk (a_box (l := [_, _])) (k := fun r6 hr6 => ?_)
  refine JL_q (q_assign) (k := ?_)
  refine JL_nil ?_
  refine JX_seq ?_
  refine J_seq ?_
  refine J_reg ?_
  refine JL_q (q_fld FO_128_0) (k := ?_)
  refine JL_q (q_fld FO_25_1) (k := ?_)
  refine JL_q (q_load Tryz.isAgg3) (k := ?_)
  refine JL_q (q_leq) (k := ?_)
  refine JL_q (q_assign) (k := ?_)
  refine JL_nil ?_
  refine JX_seq ?_
  refine J_ret ?_
  refine JX_retI Tryz.results87 (Res.tmp rfl Res.nil) ?_
  refine JL_q (q_notD) (k := ?_)
  refine JL_nil ?_
  refine JX_seq ?_
  refine J_dec rfl (fun hq3 => ?_) (fun hq3 => ?_)
  · refine J_seq ?_
    refine J_reg ?_
    refine JL_q (q_assign) (k := ?_)
    refine JL_nil ?_
    refine JX_seq ?_
    refine J_ret ?_
    refine JX_block_ret ?_
    refine JX_seq_ret ?_
    refine JX_inv_ret ?_
    refine JX_block_ret ?_
    refine JX_seq_ret ?_
    refine JX_retI Tryz.results84 (Res.tmp rfl Res.nil) ?_
    refine JL_q (q_assign) (k := ?_)
    refine JL_nil ?_
    refine JX_seq ?_
    refine J_ret ?_
    refine JX_ret Tryz.results53 (Res.tmp rfl Res.nil) (fun w1 hw1 => ?_)
    exact ⟨(by rw [((((hF.neg hq1).neg hq2).pos hq3)).eq] <;> first | rfl | (simp only [List.length_set] <;> rfl)), hw1.ext_out⟩
  refine J_skip ?_
  refine JX_block ?_
  refine JX_seq ?_
  refine J_reg ?_
  refine JL_q (q_add) (k := ?_)
  refine JL_q (q_move) (k := ?_)
  refine JL_nil ?_
  refine JX_again ?_
  refine J_seq ?_
  refine J_reg ?_
  refine JL_q (q_lss) (k := ?_)
  refine JL_nil ?_
  refine JX_seq ?_
  refine J_seq ?_
  refine J_false rfl ?_
  refine J_exit ?_
  refine JX_seq_exit ?_
  refine JX_inv_exit ?_
  refine JX_block_hit ?_
  refine JX_seq ?_
  refine J_seq ?_
  refine J_reg ?_
  refine JL_q (q_assign) (k := ?_)
  refine JL_nil ?_
  refine JX_seq ?_
  refine J_ret ?_
  refine JX_retI Tryz.results84 (Res.tmp rfl Res.nil) ?_
  refine JL_q (q_assign) (k := ?_)
  refine JL_nil ?_
  refine JX_seq ?_
  refine J_ret ?_
  refine JX_ret Tryz.results53 (Res.tmp rfl Res.nil) (fun w1 hw1 => ?_)
  exact ⟨(by rw [((((hF.neg hq1).neg hq2).neg hq3)).eq] <;> first | rfl | (simp only [List.length_set] <;> rfl)), hw1.ext_out⟩

theorem pPrint_ok (w : World) {ea0 : Addr} {ea1 : Addr} {ea2 : Addr} {ea3 : Addr} {ea4 : Addr} {ea5 : Addr} {p : PortsT} (hG : Gl w) (hE : Er w ea0 ea1 ea2 ea3 ea4 ea5) : Val Tryz.prog 32 [(Value.agg [(Value.int .i64 (p.lo)), (Value.int .i64 (p.hi))].toArray)] w (Value.tuple [(Value.string (bs ((pPrint p).1))), (Value.int .i64 (((pPrint p).2)))].toArray) := by
  have hF := Is.refl (pPrint p)
  refine enter Tryz.func32 Tryz.ntmps32 (h := ?_)
  refine J_seq ?_
  refine J_reg ?_
  refine JL_a noMk (a_box (l := [_, _])) (k := fun r1 hr1 => ?_)
  refine JL_q (q_assign) (k := ?_)
  refine JL_q (q_assign) (k := ?_)
  refine JL_nil ?_
  refine JX_seq ?_
  refine J_seq ?_
  refine J_block ?_
  refine J_seq ?_
  refine J_reg ?_
  refine JL_q (q_loadA Tryz.isAgg25 Tryz.sizeOf25) (k := ?_)
  refine JL_v (args := [(Value.agg [(Value.int .i64 (p.lo)), (Value.int .i64 (p.hi))].toArray)]) (c_callA Tryz.call53) (fun w1 hw1 => pRight_ok w1 (p := p)) (k := ?_)
  refine JL_q (q_not) (k := ?_)
  refine JL_q (q_assign) (k := ?_)
  refine JL_nil ?_
  refine JX_seq ?_
  refine J_cond rfl (fun hq1 => ?_) (fun hq1 => ?_)
  · refine J_seq ?_
    refine J_reg ?_
    obtain ⟨Thgl2, fhgl2, hgl2⟩ := hE.v0
    refine JL_q (q_loadB Tryz.isAgg57 hgl2) (k := ?_)
    refine JL_inl (args := [(Value.iface 242 (.pointer (some ea0)))]) (c_callA Tryz.call57) Tryz.func57 Tryz.ntmps57 ?_
    refine J_seq ?_
    refine J_reg ?_
    refine JL_q (q_assign) (k := ?_)
    refine JL_nil ?_
    refine JX_seq ?_
    refine J_seq ?_
    refine J_block ?_
    refine J_seq ?_
    refine J_reg ?_
    refine JL_q (q_move) (k := ?_)
    obtain ⟨Thgl3, fhgl3, hgl3⟩ := hE.v0
    refine JL_q (q_loadB Tryz.isAgg57 hgl3) (k := ?_)
    refine JL_v (args := [(Value.iface 242 (.pointer (some ea0))), (Value.iface 242 (.pointer (some ea0)))]) (c_callA Tryz.call54) (fun w1 hw1 => is_same_v w1) (k := ?_)
    refine JL_q (q_assign) (k := ?_)
    refine JL_nil ?_
    refine JX_seq ?_
    refine J_true rfl ?_
    refine J_seq ?_
    refine J_reg ?_
    refine JL_q (q_assign) (k := ?_)
    refine JL_nil ?_
    refine JX_seq ?_
    refine J_ret ?_
    refine JX_block_ret ?_
    refine JX_seq_ret ?_
    refine JX_retI Tryz.results57 (Res.tmp rfl Res.nil) ?_
    refine JL_q (q_assign) (k := ?_)
    refine JL_q (q_assign) (k := ?_)
    refine JL_nil ?_
    refine JX_seq ?_
    refine J_ret ?_
    refine JX_block_ret ?_
    refine JX_seq_ret ?_
    refine JX_ret Tryz.results32 (Res.tmp rfl (Res.tmp rfl Res.nil)) (fun w1 hw1 => ?_)
    exact ⟨(by rw [((hF.t hq1)).eq] <;> first | rfl | (simp only [List.length_set] <;> rfl)), hw1.ext_out⟩
  have hfhq1 := pRight_t (by simpa using hq1)
  refine J_seq ?_
  refine J_plan mixed 4 [(true, 0), (false, 1), (true, 2), (true, 3)] (by kernel_rfl) ?_
  refine JD_q (q_loadA Tryz.isAgg25 Tryz.sizeOf25) (k := ?_)
  refine JD_inl (args := []) (c_callA Tryz.call58) Tryz.func58 Tryz.ntmps58 ?_
  refine J_seq ?_
  refine J_reg ?_
  refine JL_a noMk (a_alloc (l := [_, _]) Tryz.zeroValue25) (k := fun r2 hr2 => ?_)
  refine JL_nil ?_
  refine JX_seq ?_
  refine J_seq ?_
  refine J_reg ?_
  refine JL_q (q_build (cs := [_, _]) Tryz.zeroValue25 PL_25) (k := ?_)
  refine JL_s (w_store (l' := [_, _]) Tryz.sizeOf25) (k := ?_)
  refine JL_nil ?_
  refine JX_seq ?_
  refine J_ret ?_
  refine JX_retID ((r2, Obj.cells [(Value.int .i64 (0)), (Value.int .i64 (65535))].toArray 25) :: ((r1, Obj.cells [(Value.int .i64 (p.lo)), (Value.int .i64 (p.hi))].toArray 25) :: [])) [] Tryz.results58 (Res.agg Tryz.isAgg25 Tryz.sizeOf25 rfl me rfl Res.nil) (List.Perm.trans (List.Perm.refl _) (List.Perm.of_eq (by first | rfl | (simp only [List.cons_append, List.nil_append, List.append_assoc, List.append_nil]; done) | (simp only [List.cons_append, List.nil_append, List.append_assoc, List.append_nil]; rfl)))) (List.Sublist.cons _ (List.Sublist.refl _)) ?_
  refine JD_q (q_eqS (EQ_25 _ _ _ _ _ _)) (k := ?_)
  refine JD_q (q_assign) (k := ?_)
  refine JD_nil0 ?_
  refine JL_nil ?_
  refine JX_seq ?_
  refine J_dec rfl (fun hq4 => ?_) (fun hq4 => ?_)
  · refine J_seq ?_
    refine J_reg ?_
    refine JL_q (q_assign) (k := ?_)
    refine JL_q (q_assign) (k := ?_)
    refine JL_nil ?_
    refine JX_seq ?_
    refine J_ret ?_
    refine JX_block_ret ?_
    refine JX_seq_ret ?_
    refine JX_ret Tryz.results32 (Res.tmp rfl (Res.tmp rfl Res.nil)) (fun w1 hw1 => ?_)
    exact ⟨(by rw [(((hF.f hq1).pos hq4)).eq] <;> first | rfl | (simp only [List.length_set] <;> rfl)), hw1.ext_out⟩
  refine J_seq ?_
  refine J_reg ?_
  refine JL_q (q_fld FO_25_0) (k := ?_)
  refine JL_q (q_load Tryz.isAgg3) (k := ?_)
  refine JL_q (q_fld FO_25_1) (k := ?_)
  refine JL_q (q_load Tryz.isAgg3) (k := ?_)
  refine JL_q (q_eql) (k := ?_)
  refine JL_q (q_assign) (k := ?_)
  refine JL_nil ?_
  refine JX_seq ?_
  refine J_dec rfl (fun hq5 => ?_) (fun hq5 => ?_)
  · refine J_seq ?_
    refine J_reg ?_
    refine JL_q (q_fld FO_25_0) (k := ?_)
    refine JL_q (q_load Tryz.isAgg3) (k := ?_)
    refine JL_v (args := [(Value.int .i64 (p.lo))]) (c_callA Tryz.call56) (fun w1 hw1 => Itoa_ok w1 (n := p.lo) (hG := hG.ext hw1.ext_out) (hn := by first | exact lb)) (k := ?_)
    have hil_90824 := itoa_len (n := p.lo) (by omega)
    refine JL_q (q_assign) (k := ?_)
    refine JL_q (q_assign) (k := ?_)
    refine JL_nil ?_
    refine JX_seq ?_
    refine J_ret ?_
    refine JX_block_ret ?_
    refine JX_seq_ret ?_
    refine JX_ret Tryz.results32 (Res.tmp rfl (Res.tmp rfl Res.nil)) (fun w1 hw1 => ?_)
    exact ⟨(by rw [((((hF.f hq1).neg hq4).pos hq5)).eq] <;> first | rfl | (simp only [List.length_set] <;> rfl)), hw1.ext_out⟩
  refine J_skip ?_
  refine JX_block ?_
  refine JX_seq ?_
  refine J_seq ?_
  refine J_plan mixed 10 [(true, 0), (true, 1), (true, 4), (true, 5), (false, 2), (true, 3), (false, 6), (true, 7), (true, 8), (true, 9)] (by kernel_rfl) ?_
  refine JD_q (q_fld FO_25_0) (k := ?_)
  refine JD_q (q_load Tryz.isAgg3) (k := ?_)
  refine JD_q (q_fld FO_25_1) (k := ?_)
  refine JD_q (q_load Tryz.isAgg3) (k := ?_)
  refine JD_v (args := [(Value.int .i64 (p.lo))]) (c_callA Tryz.call56) (fun w1 hw1 => Itoa_ok w1 (n := p.lo) (hG := hG.ext hw1.ext_out) (hn := by first | exact lb)) (k := ?_)
  have hil_90824 := itoa_len (n := p.lo) (by omega)
  refine JD_q (q_addT (s := (Lib.itoa p.lo)) (s' := ([45] : Str)) (h := by first | exact lb)) (k := ?_)
  have hsa1 : ((Lib.itoa p.lo) ++ ([45] : Str)).length = (Lib.itoa p.lo).length + 1 := by simp only [List.length_append, List.length_cons, List.length_nil, Nat.zero_add]
  refine JD_v (args := [(Value.int .i64 (p.hi))]) (c_callA Tryz.call56) (fun w1 hw1 => Itoa_ok w1 (n := p.hi) (hG := hG.ext hw1.ext_out) (hn := by first | exact lb)) (k := ?_)
  have hil_96057 := itoa_len (n := p.hi) (by omega)
  refine JD_q (q_addT (s := ((Lib.itoa p.lo) ++ ([45] : Str))) (s' := (Lib.itoa p.hi)) (h := by first | exact lb)) (k := ?_)
  have hsa2 : (((Lib.itoa p.lo) ++ ([45] : Str)) ++ (Lib.itoa p.hi)).length = ((Lib.itoa p.lo) ++ ([45] : Str)).length + (Lib.itoa p.hi).length := by simp only [List.length_append, List.length_cons, List.length_nil, Nat.zero_add]
  refine JD_q (q_assign) (k := ?_)
  refine JD_q (q_assign) (k := ?_)
  refine JD_nil0 ?_
  refine JL_nil ?_
  refine JX_seq ?_
  refine J_ret ?_
  refine JX_ret Tryz.results32 (Res.tmp rfl (Res.tmp rfl Res.nil)) (fun w1 hw1 => ?_)
  exact ⟨(by rw [((((hF.f hq1).neg hq4).neg hq5)).eq] <;> first | rfl | (simp only [List.length_set] <;> rfl)), hw1.ext_out⟩

theorem pNumber_ok (w : World) {t : Str} (n_t : t.length ≤ 1000000) : Val Tryz.prog 125 [(Value.agg [(Value.string (bs t))].toArray)] w (Value.int .i64 ((pNumber t))) := by
  have hF := Is.refl (pNumber t)
  refine enter Tryz.func125 Tryz.ntmps125 (h := ?_)
  refine J_seq ?_
  refine J_reg ?_
  refine JL_a noMk (a_box (l := [_])) (k := fun r1 hr1 => ?_)
  refine JL_q (q_assign) (k := ?_)
  refine JL_nil ?_
  refine JX_seq ?_
  refine J_seq ?_
  refine J_reg ?_
  refine JL_q (q_assign) (k := ?_)
  refine JL_nil ?_
  refine JX_seq ?_
  refine J_seq ?_
  refine J_seq ?_
  refine J_reg ?_
  refine JL_q (q_fld FO_162_0) (k := ?_)
  refine JL_q (q_load Tryz.isAgg9) (k := ?_)
  refine JL_a noMk (a_rangeT Tryz.runUnderlying9) (k := fun r2 hr2 => ?_)
  refine JL_nil ?_
  refine JX_seq ?_
  refine J_block ?_
  refine J_loop3 (σ1 := Nat) (σ2 := Int) (σ3 := Nat) (fun n_3 n_1 x_2 => ((r2, Obj.stringIter (bs t) x_2) :: ((r1, Obj.cells [(Value.string (bs t))].toArray 162) :: []))) (fun n_3 n_1 x_2 => [(2, (Value.int .i64 (0))), (3, (Value.int .i64 (n_1))), (8, (Value.pointer (some ⟨r2, 0, none⟩)))]) (fun n_3 n_1 x_2 => t.length - x_2 < n_3 ∧ Is (pNumber_l0 t (t.length + 1) 0 0) (pNumber_l0 t n_3 n_1 x_2) ∧ 0 ≤ n_1 ∧ n_1 ≤ 65535) (fun n_3 n_1 x_2 => n_3) (t.length + 1) 0 0 ?_ se (List.Perm.refl _) ?_
  · exact ⟨Nat.lt_succ_self _, Is.refl _, (by first | omega | rfl | (simp; done))⟩
  · rintro (_ | n_3) n_1 x_2 ⟨hm5, hF4, hi6⟩
    · omega
    refine J_seq ?_
    refine J_reg ?_
    refine JL_next q0 (fun hq1 => ?_) (fun hq1 => ?_)
    rotate_left
    · refine JL_q (q_ext) (k := ?_)
      refine JL_nil ?_
      refine JX_seq ?_
      refine J_seq ?_
      refine J_false rfl ?_
      refine J_exit ?_
      refine JX_seq_exit ?_
      refine JX_inv_exit ?_
      refine JX_block_hit ?_
      refine JX_seq ?_
      refine J_seq ?_
      refine J_reg ?_
      refine JL_q (q_move) (k := ?_)
      refine JL_q (q_assign) (k := ?_)
      refine JL_nil ?_
      refine JX_seq ?_
      refine J_ret ?_
      refine JX_ret Tryz.results125 (Res.tmp rfl Res.nil) (fun w1 hw1 => ?_)
      exact ⟨(by rw [((hF.ok2 (hF4.neg hq1))).eq] <;> first | rfl | (simp only [List.length_set] <;> rfl)), hw1.ext_out⟩
    have hrhq1 := dec_bd t x_2
    have hphq1 := dec_pos t x_2
    refine JL_q (q_ext) (k := ?_)
    refine JL_nil ?_
    refine JX_seq ?_
    refine J_seq ?_
    refine J_true rfl ?_
    refine J_skip ?_
    refine JX_seq ?_
    refine J_block ?_
    refine J_seq ?_
    refine J_reg ?_
    refine JL_q (q_ext) (k := ?_)
    refine JL_q (q_assign) (k := ?_)
    refine JL_nil ?_
    refine JX_seq ?_
    refine J_seq ?_
    refine J_reg ?_
    refine JL_q (q_move) (k := ?_)
    refine JL_q (q_mul) (k := ?_)
    refine JL_q (q_move) (k := ?_)
    refine JL_q (q_subK (p := (((dec t x_2).1 : Nat) : Int)) (q := 48) (wrap_i32 (by omega))) (k := ?_)
    refine JL_q (q_conv (r := ((((dec t x_2).1 : Nat) : Int) - 48)) (wrap_i64 (by first | omega | exact xorI_u8_i64 _ _)) Tryz.runUnderlying21 Tryz.runUnderlying3) (k := ?_)
    refine JL_q (q_add) (k := ?_)
    refine JL_q (q_assign) (k := ?_)
    refine JL_nil ?_
    refine JX_seq ?_
    refine J_seq ?_
    refine J_reg ?_
    refine JL_q (q_move) (k := ?_)
    refine JL_q (q_lss) (k := ?_)
    refine JL_q (q_move) (k := ?_)
    refine JL_dec 20 rfl (fun hq2 => ?_) (fun hq2 => ?_)
    · refine JL_skips 2 rfl ?_
      refine JL_q (q_pickT) (k := ?_)
      refine JL_nil ?_
      refine JX_seq ?_
      refine J_true rfl ?_
      refine J_seq ?_
      refine J_reg ?_
      refine JL_q (q_assign) (k := ?_)
      refine JL_nil ?_
      refine JX_seq ?_
      refine J_ret ?_
      refine JX_block_ret ?_
      refine JX_inv_ret ?_
      refine JX_block_ret ?_
      refine JX_seq_ret ?_
      refine JX_ret Tryz.results125 (Res.tmp rfl Res.nil) (fun w1 hw1 => ?_)
      exact ⟨(by rw [((hF.er2 ((hF4.pos hq1).pos hq2))).eq] <;> first | rfl | (simp only [List.length_set] <;> rfl)), hw1.ext_out⟩
    refine JL_qg (q_move) (k := ?_)
    refine JL_qg (q_gtr) (k := ?_)
    refine JL_q (q_pickF) (k := ?_)
    refine JL_nil ?_
    refine JX_seq ?_
    refine J_dec rfl (fun hq3 => ?_) (fun hq3 => ?_)
    rotate_left
    · refine J_skip ?_
      refine JX_block ?_
      exact JX_inv3 n_3 ((n_1 * 10) + ((((dec t x_2).1 : Nat) : Int) - 48)) (x_2 + (dec t x_2).2) ⟨by omega, (((hF4.pos hq1).neg hq2).neg hq3), (by omega)⟩ (Nat.lt_succ_self _) se (List.Perm.refl _)
    refine J_seq ?_
    refine J_reg ?_
    refine JL_q (q_assign) (k := ?_)
    refine JL_nil ?_
    refine JX_seq ?_
    refine J_ret ?_
    refine JX_block_ret ?_
    refine JX_inv_ret ?_
    refine JX_block_ret ?_
    refine JX_seq_ret ?_
    refine JX_ret Tryz.results125 (Res.tmp rfl Res.nil) (fun w1 hw1 => ?_)
    exact ⟨(by rw [((hF.er2 (((hF4.pos hq1).neg hq2).pos hq3))).eq] <;> first | rfl | (simp only [List.length_set] <;> rfl)), hw1.ext_out⟩

theorem pParse_ok (w : World) {ea0 : Addr} {ea1 : Addr} {ea2 : Addr} {ea3 : Addr} {ea4 : Addr} {ea5 : Addr} {s : Str} (n_s : s.length ≤ 1000000) (hG : Gl w) (hE : Er w ea0 ea1 ea2 ea3 ea4 ea5) : Val Tryz.prog 35 [(Value.string (bs s))] w (Value.tuple [(Value.agg [(Value.int .i64 (((pParse s).1.lo))), (Value.int .i64 (((pParse s).1.hi)))].toArray), (Value.int .i64 (((pParse s).2)))].toArray) := by
  have hF := Is.refl (pParse s)
  refine enterD Tryz.func35 Tryz.ntmps35 (h := ?_)
  refine J_seq ?_
  refine J_reg ?_
  refine JL_a noMk (a_box (l := [_])) (k := fun r1 hr1 => ?_)
  refine JL_a noMk (a_alloc (l := [_, _]) Tryz.zeroValue25) (k := fun r2 hr2 => ?_)
  refine JL_a noMk (a_alloc (l := [_]) Tryz.zeroValue30) (k := fun r3 hr3 => ?_)
  refine JL_nil ?_
  refine JX_seq ?_
  refine J_seq ?_
  refine J_seq ?_
  refine J_reg ?_
  refine JL_q (q_load Tryz.isAgg9) (k := ?_)
  refine JL_inl (args := [(Value.string (bs s))]) (c_callA Tryz.call64) Tryz.func64 Tryz.ntmps64 ?_
  refine J_seq ?_
  refine J_reg ?_
  refine JL_q (q_assign) (k := ?_)
  refine JL_nil ?_
  refine JX_seq ?_
  refine J_seq ?_
  refine J_reg ?_
  refine JL_q (q_move) (k := ?_)
  refine JL_q (q_build (cs := [_]) Tryz.zeroValue162 PL_162) (k := ?_)
  refine JL_q (q_build (cs := [_]) Tryz.zeroValue164 PL_164) (k := ?_)
  refine JL_a noMk (a_alloc (l := [_]) Tryz.zeroValue164) (k := fun r4 hr4 => ?_)
  refine JL_s (w_store (l' := [_]) Tryz.sizeOf164) (k := ?_)
  refine JL_nil ?_
  refine JX_seq ?_
  refine J_seq ?_
  refine J_reg ?_
  refine JL_q (q_func) (k := ?_)
  refine JL_q (q_assign) (k := ?_)
  refine JL_nil ?_
  refine JX_seq ?_
  refine J_ret ?_
  refine JX_retI Tryz.results64 (Res.tmp rfl Res.nil) ?_
  refine JL_nil ?_
  refine JX_seq ?_
  refine J_block ?_
  refine J_rangeI noMk rfl Tryz.call102 Tryz.func102 Tryz.ntmps102 (fun l5 rD5 rr5 hl5 => ?_)
  refine J_scope ?_
  refine J_seq ?_
  refine J_label ?_
  refine JX_seq ?_
  refine J_seq ?_
  refine J_reg ?_
  refine JL_q (q_loadA Tryz.isAgg164 Tryz.sizeOf164) (k := ?_)
  refine JL_q (q_func) (k := ?_)
  refine JL_q (q_loadA Tryz.isAgg164 Tryz.sizeOf164) (k := ?_)
  refine JL_q (q_func) (k := ?_)
  refine JL_q (q_loadA Tryz.isAgg164 Tryz.sizeOf164) (k := ?_)
  refine JL_q (q_func) (k := ?_)
  refine JL_a noMk (a_bslice (l := [_, _, _]) Tryz.runUnderlying165 Tryz.sizeOf88 Tryz.zeroValue88) (k := fun r6 hr6 => ?_)
  refine JL_q (q_lenS Tryz.runUnderlying165) (k := ?_)
  refine JL_q (q_move) (k := ?_)
  refine JL_nil ?_
  refine JX_seq ?_
  refine J_block ?_
  refine J_unroll ?_
  refine J_seq ?_
  refine J_reg ?_
  refine JL_q (q_lss) (k := ?_)
  refine JL_nil ?_
  refine JX_seq ?_
  refine J_seq ?_
  refine J_true rfl ?_
  refine J_skip ?_
  refine JX_seq ?_
  refine J_seq ?_
  refine J_block ?_
  refine J_seq ?_
  refine J_reg ?_
  refine JL_q (q_idxO Tryz.runUnderlying165 Tryz.sizeOf88 0) (k := ?_)
  refine JL_q (q_load Tryz.isAgg88) (k := ?_)
  refine JL_q (q_assign) (k := ?_)
  refine JL_nil ?_
  refine JX_seq ?_
  refine J_seq ?_
  refine J_reg ?_
  refine JL_q (q_move) (k := ?_)
  refine JL_q (q_move) (k := ?_)
  refine JL_inl (args := [(Value.agg [(Value.string (bs s))].toArray)]) (c_callA Tryz.call103) Tryz.func103 Tryz.ntmps103 ?_
  refine J_seq ?_
  refine J_reg ?_
  refine JL_a noMk (a_box (l := [_])) (k := fun r7 hr7 => ?_)
  refine JL_a noMk (a_alloc (l := [_, _]) Tryz.zeroValue25) (k := fun r8 hr8 => ?_)
  refine JL_nil ?_
  refine JX_seq ?_
  refine J_seq ?_
  refine J_reg ?_
  refine JL_inl (args := []) (c_callA Tryz.call58) Tryz.func58 Tryz.ntmps58 ?_
  refine J_seq ?_
  refine J_reg ?_
  refine JL_a noMk (a_alloc (l := [_, _]) Tryz.zeroValue25) (k := fun r9 hr9 => ?_)
  refine JL_nil ?_
  refine JX_seq ?_
  refine J_seq ?_
  refine J_reg ?_
  refine JL_q (q_build (cs := [_, _]) Tryz.zeroValue25 PL_25) (k := ?_)
  refine JL_s (w_store (l' := [_, _]) Tryz.sizeOf25) (k := ?_)
  refine JL_nil ?_
  refine JX_seq ?_
  refine J_ret ?_
  refine JX_retI Tryz.results58 (Res.agg Tryz.isAgg25 Tryz.sizeOf25 rfl me rfl Res.nil) ?_
  refine JL_s (w_store (l' := [_, _]) Tryz.sizeOf25) (k := ?_)
  refine JL_nil ?_
  refine JX_seq ?_
  refine J_ret ?_
  refine JX_retI Tryz.results103 (Res.agg Tryz.isAgg25 Tryz.sizeOf25 rfl me rfl Res.nil) ?_
  refine JL_yIn (vs := [(Value.agg [(Value.int .i64 (0)), (Value.int .i64 (65535))].toArray)]) hl5 (qa (qa (qa (qa q0)))) y_call ?_
  refine J_reg ?_
  refine JL_a noMk (a_alloc (l := [_, _]) Tryz.zeroValue25) (k := fun r10 hr10 => ?_)
  refine JL_s (w_store (l' := [_, _]) Tryz.sizeOf25) (k := ?_)
  refine JL_nil ?_
  refine JX_begin (qa q0) ?_
  refine J_block ?_
  refine J_seq ?_
  refine J_reg ?_
  refine JL_q (q_loadA Tryz.isAgg25 Tryz.sizeOf25) (k := ?_)
  refine JL_v (args := [(Value.agg [(Value.int .i64 (0)), (Value.int .i64 (65535))].toArray)]) (c_callA Tryz.call32) (fun w1 hw1 => pPrint_ok w1 (p := (PortsT.mk 0 65535)) (hG := hG.ext hw1.ext_out) (hE := hE.ext hw1.ext_out)) (k := ?_)
  refine JL_q (q_move) (k := ?_)
  refine JL_q (q_ext) (k := ?_)
  refine JL_q (q_ext) (k := ?_)
  refine JL_q (q_assign) (k := ?_)
  refine JL_q (q_assign) (k := ?_)
  refine JL_nil ?_
  refine JX_seq ?_
  refine J_seq ?_
  refine J_reg ?_
  refine JL_q (q_move) (k := ?_)
  refine JL_q (q_eql) (k := ?_)
  refine JL_q (q_move) (k := ?_)
  refine JL_dec 17 rfl (fun hq1 => ?_) (fun hq1 => ?_)
  rotate_left
  · refine JL_skips 3 rfl ?_
    refine JL_q (q_pickF) (k := ?_)
    refine JL_nil ?_
    refine JX_seq ?_
    refine J_false rfl ?_
    refine J_skip ?_
    refine JX_block ?_
    refine JX_roundI q0 ?_
    refine JL_q (q_not) (k := ?_)
    refine JL_nil ?_
    refine JX_seq ?_
    refine J_false rfl ?_
    refine J_skip ?_
    refine JX_block ?_
    refine JX_seq ?_
    refine J_reg ?_
    refine JL_q (q_add) (k := ?_)
    refine JL_q (q_move) (k := ?_)
    refine JL_nil ?_
    refine JX_again ?_
    refine J_seq ?_
    refine J_reg ?_
    refine JL_q (q_lss) (k := ?_)
    refine JL_nil ?_
    refine JX_seq ?_
    refine J_seq ?_
    refine J_true rfl ?_
    refine J_skip ?_
    refine JX_seq ?_
    refine J_seq ?_
    refine J_block ?_
    refine J_seq ?_
    refine J_reg ?_
    refine JL_q (q_idxO Tryz.runUnderlying165 Tryz.sizeOf88 1) (k := ?_)
    refine JL_q (q_load Tryz.isAgg88) (k := ?_)
    refine JL_q (q_assign) (k := ?_)
    refine JL_nil ?_
    refine JX_seq ?_
    refine J_seq ?_
    refine J_reg ?_
    refine JL_q (q_move) (k := ?_)
    refine JL_q (q_move) (k := ?_)
    refine JL_inl (args := [(Value.agg [(Value.string (bs s))].toArray)]) (c_callA Tryz.call104) Tryz.func104 Tryz.ntmps104 ?_
    refine J_seq ?_
    refine J_reg ?_
    refine JL_a noMk (a_box (l := [_])) (k := fun r20 hr20 => ?_)
    refine JL_a noMk (a_alloc (l := [_, _]) Tryz.zeroValue25) (k := fun r21 hr21 => ?_)
    refine JL_nil ?_
    refine JX_seq ?_
    refine J_seq ?_
    refine J_plan mixed 7 [(true, 0), (true, 1), (true, 3), (true, 4), (false, 2), (false, 5), (true, 6)] (by kernel_rfl) ?_
    refine JD_q (q_fld FO_164_0) (k := ?_)
    refine JD_q (q_loadA Tryz.isAgg162 Tryz.sizeOf162) (k := ?_)
    refine JD_q (q_fld FO_164_0) (k := ?_)
    refine JD_q (q_loadA Tryz.isAgg162 Tryz.sizeOf162) (k := ?_)
    refine JD_v (args := [(Value.agg [(Value.string (bs s))].toArray)]) (c_callA Tryz.call125) (fun w1 hw1 => pNumber_ok w1 (t := s) (n_t := by first | exact lb | decide)) (k := ?_)
    refine JD_v (args := [(Value.agg [(Value.string (bs s))].toArray)]) (c_callA Tryz.call125) (fun w1 hw1 => pNumber_ok w1 (t := s) (n_t := by first | exact lb | decide)) (k := ?_)
    refine JD_q (q_build (cs := [_, _]) Tryz.zeroValue25 PL_25) (k := ?_)
    refine JD_nil0 ?_
    refine JL_s (w_store (l' := [_, _]) Tryz.sizeOf25) (k := ?_)
    refine JL_nil ?_
    refine JX_seq ?_
    refine J_ret ?_
    refine JX_retI Tryz.results104 (Res.agg Tryz.isAgg25 Tryz.sizeOf25 rfl me rfl Res.nil) ?_
    refine JL_yIn (vs := [(Value.agg [(Value.int .i64 ((pNumber s))), (Value.int .i64 ((pNumber s)))].toArray)]) hl5 (qa (qa q0)) y_call ?_
    refine J_reg ?_
    refine JL_a noMk (a_alloc (l := [_, _]) Tryz.zeroValue25) (k := fun r22 hr22 => ?_)
    refine JL_s (w_store (l' := [_, _]) Tryz.sizeOf25) (k := ?_)
    refine JL_nil ?_
    refine JX_begin (qa q0) ?_
    refine J_block ?_
    refine J_seq ?_
    refine J_reg ?_
    refine JL_q (q_loadA Tryz.isAgg25 Tryz.sizeOf25) (k := ?_)
    refine JL_v (args := [(Value.agg [(Value.int .i64 ((pNumber s))), (Value.int .i64 ((pNumber s)))].toArray)]) (c_callA Tryz.call32) (fun w1 hw1 => pPrint_ok w1 (p := (PortsT.mk (pNumber s) (pNumber s))) (hG := hG.ext hw1.ext_out) (hE := hE.ext hw1.ext_out)) (k := ?_)
    refine JL_q (q_move) (k := ?_)
    refine JL_q (q_ext) (k := ?_)
    refine JL_q (q_ext) (k := ?_)
    refine JL_q (q_assign) (k := ?_)
    refine JL_q (q_assign) (k := ?_)
    refine JL_nil ?_
    refine JX_seq ?_
    refine J_seq ?_
    refine J_reg ?_
    refine JL_q (q_move) (k := ?_)
    refine JL_q (q_eql) (k := ?_)
    refine JL_q (q_move) (k := ?_)
    refine JL_dec 17 rfl (fun hq17 => ?_) (fun hq17 => ?_)
    rotate_left
    · refine JL_skips 3 rfl ?_
      refine JL_q (q_pickF) (k := ?_)
      refine JL_nil ?_
      refine JX_seq ?_
      refine J_false rfl ?_
      refine J_skip ?_
      refine JX_block ?_
      refine JX_roundI q0 ?_
      refine JL_q (q_not) (k := ?_)
      refine JL_nil ?_
      refine JX_seq ?_
      refine J_false rfl ?_
      refine J_skip ?_
      refine JX_block ?_
      refine JX_seq ?_
      refine J_reg ?_
      refine JL_q (q_add) (k := ?_)
      refine JL_q (q_move) (k := ?_)
      refine JL_nil ?_
      refine JX_again ?_
      refine J_seq ?_
      refine J_reg ?_
      refine JL_q (q_lss) (k := ?_)
      refine JL_nil ?_
      refine JX_seq ?_
      refine J_seq ?_
      refine J_true rfl ?_
      refine J_skip ?_
      refine JX_seq ?_
      refine J_seq ?_
      refine J_block ?_
      refine J_seq ?_
      refine J_reg ?_
      refine JL_q (q_idxO Tryz.runUnderlying165 Tryz.sizeOf88 2) (k := ?_)
      refine JL_q (q_load Tryz.isAgg88) (k := ?_)
      refine JL_q (q_assign) (k := ?_)
      refine JL_nil ?_
      refine JX_seq ?_
      refine J_seq ?_
      refine J_reg ?_
      refine JL_q (q_move) (k := ?_)
      refine JL_q (q_move) (k := ?_)
      refine JL_inl (args := [(Value.agg [(Value.string (bs s))].toArray)]) (c_callA Tryz.call105) Tryz.func105 Tryz.ntmps105 ?_
      refine J_seq ?_
      refine J_reg ?_
      refine JL_a noMk (a_box (l := [_])) (k := fun r26 hr26 => ?_)
      refine JL_a noMk (a_alloc (l := [_, _]) Tryz.zeroValue25) (k := fun r27 hr27 => ?_)
      refine JL_nil ?_
      refine JX_seq ?_
      refine J_seq ?_
      refine J_reg ?_
      refine JL_q (q_fld FO_164_0) (k := ?_)
      refine JL_q (q_fld FO_162_0) (k := ?_)
      refine JL_q (q_load Tryz.isAgg9) (k := ?_)
      refine JL_v (args := [(Value.string (bs s)), (Value.string (bs ([45] : Str)))]) (c_callA Tryz.call61) (fun w1 hw1 => Cut_ok w1 (s := s) (sep := ([45] : Str)) (hG := hG.ext hw1.ext_out) (hn := by first | exact lb)) (k := ?_)
      have hct_7533 := cut_len s ([45] : Str)
      refine JL_q (q_move) (k := ?_)
      refine JL_q (q_ext) (k := ?_)
      refine JL_q (q_ext) (k := ?_)
      refine JL_q (q_ext) (k := ?_)
      refine JL_q (q_assign) (k := ?_)
      refine JL_q (q_assign) (k := ?_)
      refine JL_q (q_assign) (k := ?_)
      refine JL_nil ?_
      refine JX_seq ?_
      refine J_seq ?_
      refine J_reg ?_
      refine JL_q (q_move) (k := ?_)
      refine JL_q (q_build (cs := [_]) Tryz.zeroValue162 PL_162) (k := ?_)
      refine JL_v (args := [(Value.agg [(Value.string (bs ((Lib.cut s ([45] : Str)).1)))].toArray)]) (c_callA Tryz.call125) (fun w1 hw1 => pNumber_ok w1 (t := ((Lib.cut s ([45] : Str)).1)) (n_t := by first | exact lb | decide)) (k := ?_)
      refine JL_q (q_move) (k := ?_)
      refine JL_q (q_build (cs := [_]) Tryz.zeroValue162 PL_162) (k := ?_)
      refine JL_v (args := [(Value.agg [(Value.string (bs ((Lib.cut s ([45] : Str)).2.1)))].toArray)]) (c_callA Tryz.call125) (fun w1 hw1 => pNumber_ok w1 (t := ((Lib.cut s ([45] : Str)).2.1)) (n_t := by first | exact lb | decide)) (k := ?_)
      refine JL_q (q_build (cs := [_, _]) Tryz.zeroValue25 PL_25) (k := ?_)
      refine JL_s (w_store (l' := [_, _]) Tryz.sizeOf25) (k := ?_)
      refine JL_nil ?_
      refine JX_seq ?_
      refine J_ret ?_
      refine JX_retI Tryz.results105 (Res.agg Tryz.isAgg25 Tryz.sizeOf25 rfl me rfl Res.nil) ?_
      refine JL_yIn (vs := [(Value.agg [(Value.int .i64 ((pNumber ((Lib.cut s ([45] : Str)).1)))), (Value.int .i64 ((pNumber ((Lib.cut s ([45] : Str)).2.1))))].toArray)]) hl5 (qa (qa q0)) y_call ?_
      refine J_reg ?_
      refine JL_a noMk (a_alloc (l := [_, _]) Tryz.zeroValue25) (k := fun r28 hr28 => ?_)
      refine JL_s (w_store (l' := [_, _]) Tryz.sizeOf25) (k := ?_)
      refine JL_nil ?_
      refine JX_begin (qa q0) ?_
      refine J_block ?_
      refine J_seq ?_
      refine J_reg ?_
      refine JL_q (q_loadA Tryz.isAgg25 Tryz.sizeOf25) (k := ?_)
      refine JL_v (args := [(Value.agg [(Value.int .i64 ((pNumber ((Lib.cut s ([45] : Str)).1)))), (Value.int .i64 ((pNumber ((Lib.cut s ([45] : Str)).2.1))))].toArray)]) (c_callA Tryz.call32) (fun w1 hw1 => pPrint_ok w1 (p := (PortsT.mk (pNumber ((Lib.cut s ([45] : Str)).1)) (pNumber ((Lib.cut s ([45] : Str)).2.1)))) (hG := hG.ext hw1.ext_out) (hE := hE.ext hw1.ext_out)) (k := ?_)
      refine JL_q (q_move) (k := ?_)
      refine JL_q (q_ext) (k := ?_)
      refine JL_q (q_ext) (k := ?_)
      refine JL_q (q_assign) (k := ?_)
      refine JL_q (q_assign) (k := ?_)
      refine JL_nil ?_
      refine JX_seq ?_
      refine J_seq ?_
      refine J_reg ?_
      refine JL_q (q_move) (k := ?_)
      refine JL_q (q_eql) (k := ?_)
      refine JL_q (q_move) (k := ?_)
      refine JL_dec 17 rfl (fun hq25 => ?_) (fun hq25 => ?_)
      rotate_left
      · refine JL_skips 3 rfl ?_
        refine JL_q (q_pickF) (k := ?_)
        refine JL_nil ?_
        refine JX_seq ?_
        refine J_false rfl ?_
        refine J_skip ?_
        refine JX_block ?_
        refine JX_roundI q0 ?_
        refine JL_q (q_not) (k := ?_)
        refine JL_nil ?_
        refine JX_seq ?_
        refine J_false rfl ?_
        refine J_skip ?_
        refine JX_block ?_
        refine JX_seq ?_
        refine J_reg ?_
        refine JL_q (q_add) (k := ?_)
        refine JL_q (q_move) (k := ?_)
        refine JL_nil ?_
        refine JX_again ?_
        refine J_seq ?_
        refine J_reg ?_
        refine JL_q (q_lss) (k := ?_)
        refine JL_nil ?_
        refine JX_seq ?_
        refine J_seq ?_
        refine J_false rfl ?_
        refine J_exit ?_
        refine JX_seq_exit ?_
        refine JX_inv_exit ?_
        refine JX_block_hit ?_
        refine JX_scope ?_
        refine JX_it0 (.inr rfl) Tryz.results102 q0 ?_
        refine JX_block ?_
        refine JX_seq ?_
        refine J_seq ?_
        refine J_reg ?_
        refine JL_q (q_build (cs := [_, _]) Tryz.zeroValue25 PL_25) (k := ?_)
        obtain ⟨Thgl29, fhgl29, hgl29⟩ := hE.v0
        refine JL_q (q_loadB Tryz.isAgg57 hgl29) (k := ?_)
        refine JL_inl (args := [(Value.iface 242 (.pointer (some ea0)))]) (c_callA Tryz.call57) Tryz.func57 Tryz.ntmps57 ?_
        refine J_seq ?_
        refine J_reg ?_
        refine JL_q (q_assign) (k := ?_)
        refine JL_nil ?_
        refine JX_seq ?_
        refine J_seq ?_
        refine J_block ?_
        refine J_seq ?_
        refine J_reg ?_
        refine JL_q (q_move) (k := ?_)
        obtain ⟨Thgl30, fhgl30, hgl30⟩ := hE.v0
        refine JL_q (q_loadB Tryz.isAgg57 hgl30) (k := ?_)
        refine JL_v (args := [(Value.iface 242 (.pointer (some ea0))), (Value.iface 242 (.pointer (some ea0)))]) (c_callA Tryz.call54) (fun w1 hw1 => is_same_v w1) (k := ?_)
        refine JL_q (q_assign) (k := ?_)
        refine JL_nil ?_
        refine JX_seq ?_
        refine J_true rfl ?_
        refine J_seq ?_
        refine J_reg ?_
        refine JL_q (q_assign) (k := ?_)
        refine JL_nil ?_
        refine JX_seq ?_
        refine J_ret ?_
        refine JX_block_ret ?_
        refine JX_seq_ret ?_
        refine JX_retI Tryz.results57 (Res.tmp rfl Res.nil) ?_
        refine JL_s (w_store (l' := [_, _]) Tryz.sizeOf25) (k := ?_)
        refine JL_s (w_store (l' := [_]) Tryz.sizeOf30) (k := ?_)
        refine JL_nil ?_
        refine JX_seq ?_
        refine J_ret ?_
        refine JX_retD [rD5] (qa (qa (qa (qa (qa (qa (qa (qa (qa (qa (qa (qa q0)))))))))))) Tryz.results35 (Res.agg Tryz.isAgg25 Tryz.sizeOf25 rfl me rfl (Res.word Tryz.isAgg30 rfl me rfl Res.nil)) (fun w1 hw1 => ?_)
        exact ⟨(by rw [((((hF.neg hq1).neg hq17).neg hq25)).eq] <;> first | rfl | (simp only [List.length_set] <;> rfl)), hw1.ext_out⟩
      refine JL_qg (q_move) (k := ?_)
      refine JL_qg (q_load Tryz.isAgg9) (k := ?_)
      refine JL_qg (q_eqT) (k := ?_)
      refine JL_q (q_pickT) (k := ?_)
      refine JL_nil ?_
      refine JX_seq ?_
      refine J_dec rfl (fun hq26 => ?_) (fun hq26 => ?_)
      · refine J_seq ?_
        refine J_reg ?_
        refine JL_q (q_loadA Tryz.isAgg25 Tryz.sizeOf25) (k := ?_)
        refine JL_s (w_store (l' := [_, _]) Tryz.sizeOf25) (k := ?_)
        refine JL_s (w_store (l' := [_]) Tryz.sizeOf30) (k := ?_)
        refine JL_nil ?_
        refine JX_seq ?_
        refine J_ret ?_
        refine JX_block_ret ?_
        refine JX_roundI_ret q0 ?_
        refine JL_q (q_not) (k := ?_)
        refine JL_nil ?_
        refine JX_seq ?_
        refine J_true rfl ?_
        refine J_exit ?_
        refine JX_block_miss rfl ?_
        refine JX_seq_exit ?_
        refine JX_inv_exit ?_
        refine JX_block_hit ?_
        refine JX_scope ?_
        refine JX_it1 (.inr rfl) Tryz.results102 q0 ?_
        refine J_ret ?_
        refine JX_block_ret ?_
        refine JX_seq_ret ?_
        refine JX_retD [rD5] (qa (qa (qa (qa (qa (qa (qa (qa (qa (qa (qa (qa q0)))))))))))) Tryz.results35 (Res.agg Tryz.isAgg25 Tryz.sizeOf25 rfl me rfl (Res.word Tryz.isAgg30 rfl me rfl Res.nil)) (fun w1 hw1 => ?_)
        exact ⟨(by rw [(((((hF.neg hq1).neg hq17).pos hq25).pos hq26)).eq] <;> first | rfl | (simp only [List.length_set] <;> rfl)), hw1.ext_out⟩
      refine J_skip ?_
      refine JX_block ?_
      refine JX_roundI q0 ?_
      refine JL_q (q_not) (k := ?_)
      refine JL_nil ?_
      refine JX_seq ?_
      refine J_false rfl ?_
      refine J_skip ?_
      refine JX_block ?_
      refine JX_seq ?_
      refine J_reg ?_
      refine JL_q (q_add) (k := ?_)
      refine JL_q (q_move) (k := ?_)
      refine JL_nil ?_
      refine JX_again ?_
      refine J_seq ?_
      refine J_reg ?_
      refine JL_q (q_lss) (k := ?_)
      refine JL_nil ?_
      refine JX_seq ?_
      refine J_seq ?_
      refine J_false rfl ?_
      refine J_exit ?_
      refine JX_seq_exit ?_
      refine JX_inv_exit ?_
      refine JX_block_hit ?_
      refine JX_scope ?_
      refine JX_it0 (.inr rfl) Tryz.results102 q0 ?_
      refine JX_block ?_
      refine JX_seq ?_
      refine J_seq ?_
      refine J_reg ?_
      refine JL_q (q_build (cs := [_, _]) Tryz.zeroValue25 PL_25) (k := ?_)
      obtain ⟨Thgl27, fhgl27, hgl27⟩ := hE.v0
      refine JL_q (q_loadB Tryz.isAgg57 hgl27) (k := ?_)
      refine JL_inl (args := [(Value.iface 242 (.pointer (some ea0)))]) (c_callA Tryz.call57) Tryz.func57 Tryz.ntmps57 ?_
      refine J_seq ?_
      refine J_reg ?_
      refine JL_q (q_assign) (k := ?_)
      refine JL_nil ?_
      refine JX_seq ?_
      refine J_seq ?_
      refine J_block ?_
      refine J_seq ?_
      refine J_reg ?_
      refine JL_q (q_move) (k := ?_)
      obtain ⟨Thgl28, fhgl28, hgl28⟩ := hE.v0
      refine JL_q (q_loadB Tryz.isAgg57 hgl28) (k := ?_)
      refine JL_v (args := [(Value.iface 242 (.pointer (some ea0))), (Value.iface 242 (.pointer (some ea0)))]) (c_callA Tryz.call54) (fun w1 hw1 => is_same_v w1) (k := ?_)
      refine JL_q (q_assign) (k := ?_)
      refine JL_nil ?_
      refine JX_seq ?_
      refine J_true rfl ?_
      refine J_seq ?_
      refine J_reg ?_
      refine JL_q (q_assign) (k := ?_)
      refine JL_nil ?_
      refine JX_seq ?_
      refine J_ret ?_
      refine JX_block_ret ?_
      refine JX_seq_ret ?_
      refine JX_retI Tryz.results57 (Res.tmp rfl Res.nil) ?_
      refine JL_s (w_store (l' := [_, _]) Tryz.sizeOf25) (k := ?_)
      refine JL_s (w_store (l' := [_]) Tryz.sizeOf30) (k := ?_)
      refine JL_nil ?_
      refine JX_seq ?_
      refine J_ret ?_
      refine JX_retD [rD5] (qa (qa (qa (qa (qa (qa (qa (qa (qa (qa (qa (qa q0)))))))))))) Tryz.results35 (Res.agg Tryz.isAgg25 Tryz.sizeOf25 rfl me rfl (Res.word Tryz.isAgg30 rfl me rfl Res.nil)) (fun w1 hw1 => ?_)
      exact ⟨(by rw [(((((hF.neg hq1).neg hq17).pos hq25).neg hq26)).eq] <;> first | rfl | (simp only [List.length_set] <;> rfl)), hw1.ext_out⟩
    refine JL_qg (q_move) (k := ?_)
    refine JL_qg (q_load Tryz.isAgg9) (k := ?_)
    refine JL_qg (q_eqT) (k := ?_)
    refine JL_q (q_pickT) (k := ?_)
    refine JL_nil ?_
    refine JX_seq ?_
    refine J_dec rfl (fun hq18 => ?_) (fun hq18 => ?_)
    · refine J_seq ?_
      refine J_reg ?_
      refine JL_q (q_loadA Tryz.isAgg25 Tryz.sizeOf25) (k := ?_)
      refine JL_s (w_store (l' := [_, _]) Tryz.sizeOf25) (k := ?_)
      refine JL_s (w_store (l' := [_]) Tryz.sizeOf30) (k := ?_)
      refine JL_nil ?_
      refine JX_seq ?_
      refine J_ret ?_
      refine JX_block_ret ?_
      refine JX_roundI_ret q0 ?_
      refine JL_q (q_not) (k := ?_)
      refine JL_nil ?_
      refine JX_seq ?_
      refine J_true rfl ?_
      refine J_exit ?_
      refine JX_block_miss rfl ?_
      refine JX_seq_exit ?_
      refine JX_inv_exit ?_
      refine JX_block_hit ?_
      refine JX_scope ?_
      refine JX_it1 (.inr rfl) Tryz.results102 q0 ?_
      refine J_ret ?_
      refine JX_block_ret ?_
      refine JX_seq_ret ?_
      refine JX_retD [rD5] (qa (qa (qa (qa (qa (qa (qa (qa (qa q0))))))))) Tryz.results35 (Res.agg Tryz.isAgg25 Tryz.sizeOf25 rfl me rfl (Res.word Tryz.isAgg30 rfl me rfl Res.nil)) (fun w1 hw1 => ?_)
      exact ⟨(by rw [((((hF.neg hq1).pos hq17).pos hq18)).eq] <;> first | rfl | (simp only [List.length_set] <;> rfl)), hw1.ext_out⟩
    refine J_skip ?_
    refine JX_block ?_
    refine JX_roundI q0 ?_
    refine JL_q (q_not) (k := ?_)
    refine JL_nil ?_
    refine JX_seq ?_
    refine J_false rfl ?_
    refine J_skip ?_
    refine JX_block ?_
    refine JX_seq ?_
    refine J_reg ?_
    refine JL_q (q_add) (k := ?_)
    refine JL_q (q_move) (k := ?_)
    refine JL_nil ?_
    refine JX_again ?_
    refine J_seq ?_
    refine J_reg ?_
    refine JL_q (q_lss) (k := ?_)
    refine JL_nil ?_
    refine JX_seq ?_
    refine J_seq ?_
    refine J_true rfl ?_
    refine J_skip ?_
    refine JX_seq ?_
    refine J_seq ?_
    refine J_block ?_
    refine J_seq ?_
    refine J_reg ?_
    refine JL_q (q_idxO Tryz.runUnderlying165 Tryz.sizeOf88 2) (k := ?_)
    refine JL_q (q_load Tryz.isAgg88) (k := ?_)
    refine JL_q (q_assign) (k := ?_)
    refine JL_nil ?_
    refine JX_seq ?_
    refine J_seq ?_
    refine J_reg ?_
    refine JL_q (q_move) (k := ?_)
    refine JL_q (q_move) (k := ?_)
    refine JL_inl (args := [(Value.agg [(Value.string (bs s))].toArray)]) (c_callA Tryz.call105) Tryz.func105 Tryz.ntmps105 ?_
    refine J_seq ?_
    refine J_reg ?_
    refine JL_a noMk (a_box (l := [_])) (k := fun r23 hr23 => ?_)
    refine JL_a noMk (a_alloc (l := [_, _]) Tryz.zeroValue25) (k := fun r24 hr24 => ?_)
    refine JL_nil ?_
    refine JX_seq ?_
    refine J_seq ?_
    refine J_reg ?_
    refine JL_q (q_fld FO_164_0) (k := ?_)
    refine JL_q (q_fld FO_162_0) (k := ?_)
    refine JL_q (q_load Tryz.isAgg9) (k := ?_)
    refine JL_v (args := [(Value.string (bs s)), (Value.string (bs ([45] : Str)))]) (c_callA Tryz.call61) (fun w1 hw1 => Cut_ok w1 (s := s) (sep := ([45] : Str)) (hG := hG.ext hw1.ext_out) (hn := by first | exact lb)) (k := ?_)
    have hct_7533 := cut_len s ([45] : Str)
    refine JL_q (q_move) (k := ?_)
    refine JL_q (q_ext) (k := ?_)
    refine JL_q (q_ext) (k := ?_)
    refine JL_q (q_ext) (k := ?_)
    refine JL_q (q_assign) (k := ?_)
    refine JL_q (q_assign) (k := ?_)
    refine JL_q (q_assign) (k := ?_)
    refine JL_nil ?_
    refine JX_seq ?_
    refine J_seq ?_
    refine J_reg ?_
    refine JL_q (q_move) (k := ?_)
    refine JL_q (q_build (cs := [_]) Tryz.zeroValue162 PL_162) (k := ?_)
    refine JL_v (args := [(Value.agg [(Value.string (bs ((Lib.cut s ([45] : Str)).1)))].toArray)]) (c_callA Tryz.call125) (fun w1 hw1 => pNumber_ok w1 (t := ((Lib.cut s ([45] : Str)).1)) (n_t := by first | exact lb | decide)) (k := ?_)
    refine JL_q (q_move) (k := ?_)
    refine JL_q (q_build (cs := [_]) Tryz.zeroValue162 PL_162) (k := ?_)
    refine JL_v (args := [(Value.agg [(Value.string (bs ((Lib.cut s ([45] : Str)).2.1)))].toArray)]) (c_callA Tryz.call125) (fun w1 hw1 => pNumber_ok w1 (t := ((Lib.cut s ([45] : Str)).2.1)) (n_t := by first | exact lb | decide)) (k := ?_)
    refine JL_q (q_build (cs := [_, _]) Tryz.zeroValue25 PL_25) (k := ?_)
    refine JL_s (w_store (l' := [_, _]) Tryz.sizeOf25) (k := ?_)
    refine JL_nil ?_
    refine JX_seq ?_
    refine J_ret ?_
    refine JX_retI Tryz.results105 (Res.agg Tryz.isAgg25 Tryz.sizeOf25 rfl me rfl Res.nil) ?_
    refine JL_yIn (vs := [(Value.agg [(Value.int .i64 ((pNumber ((Lib.cut s ([45] : Str)).1)))), (Value.int .i64 ((pNumber ((Lib.cut s ([45] : Str)).2.1))))].toArray)]) hl5 (qa (qa q0)) y_call ?_
    refine J_reg ?_
    refine JL_a noMk (a_alloc (l := [_, _]) Tryz.zeroValue25) (k := fun r25 hr25 => ?_)
    refine JL_s (w_store (l' := [_, _]) Tryz.sizeOf25) (k := ?_)
    refine JL_nil ?_
    refine JX_begin (qa q0) ?_
    refine J_block ?_
    refine J_seq ?_
    refine J_reg ?_
    refine JL_q (q_loadA Tryz.isAgg25 Tryz.sizeOf25) (k := ?_)
    refine JL_v (args := [(Value.agg [(Value.int .i64 ((pNumber ((Lib.cut s ([45] : Str)).1)))), (Value.int .i64 ((pNumber ((Lib.cut s ([45] : Str)).2.1))))].toArray)]) (c_callA Tryz.call32) (fun w1 hw1 => pPrint_ok w1 (p := (PortsT.mk (pNumber ((Lib.cut s ([45] : Str)).1)) (pNumber ((Lib.cut s ([45] : Str)).2.1)))) (hG := hG.ext hw1.ext_out) (hE := hE.ext hw1.ext_out)) (k := ?_)
    refine JL_q (q_move) (k := ?_)
    refine JL_q (q_ext) (k := ?_)
    refine JL_q (q_ext) (k := ?_)
    refine JL_q (q_assign) (k := ?_)
    refine JL_q (q_assign) (k := ?_)
    refine JL_nil ?_
    refine JX_seq ?_
    refine J_seq ?_
    refine J_reg ?_
    refine JL_q (q_move) (k := ?_)
    refine JL_q (q_eql) (k := ?_)
    refine JL_q (q_move) (k := ?_)
    refine JL_dec 17 rfl (fun hq19 => ?_) (fun hq19 => ?_)
    rotate_left
    · refine JL_skips 3 rfl ?_
      refine JL_q (q_pickF) (k := ?_)
      refine JL_nil ?_
      refine JX_seq ?_
      refine J_false rfl ?_
      refine J_skip ?_
      refine JX_block ?_
      refine JX_roundI q0 ?_
      refine JL_q (q_not) (k := ?_)
      refine JL_nil ?_
      refine JX_seq ?_
      refine J_false rfl ?_
      refine J_skip ?_
      refine JX_block ?_
      refine JX_seq ?_
      refine J_reg ?_
      refine JL_q (q_add) (k := ?_)
      refine JL_q (q_move) (k := ?_)
      refine JL_nil ?_
      refine JX_again ?_
      refine J_seq ?_
      refine J_reg ?_
      refine JL_q (q_lss) (k := ?_)
      refine JL_nil ?_
      refine JX_seq ?_
      refine J_seq ?_
      refine J_false rfl ?_
      refine J_exit ?_
      refine JX_seq_exit ?_
      refine JX_inv_exit ?_
      refine JX_block_hit ?_
      refine JX_scope ?_
      refine JX_it0 (.inr rfl) Tryz.results102 q0 ?_
      refine JX_block ?_
      refine JX_seq ?_
      refine J_seq ?_
      refine J_reg ?_
      refine JL_q (q_build (cs := [_, _]) Tryz.zeroValue25 PL_25) (k := ?_)
      obtain ⟨Thgl23, fhgl23, hgl23⟩ := hE.v0
      refine JL_q (q_loadB Tryz.isAgg57 hgl23) (k := ?_)
      refine JL_inl (args := [(Value.iface 242 (.pointer (some ea0)))]) (c_callA Tryz.call57) Tryz.func57 Tryz.ntmps57 ?_
      refine J_seq ?_
      refine J_reg ?_
      refine JL_q (q_assign) (k := ?_)
      refine JL_nil ?_
      refine JX_seq ?_
      refine J_seq ?_
      refine J_block ?_
      refine J_seq ?_
      refine J_reg ?_
      refine JL_q (q_move) (k := ?_)
      obtain ⟨Thgl24, fhgl24, hgl24⟩ := hE.v0
      refine JL_q (q_loadB Tryz.isAgg57 hgl24) (k := ?_)
      refine JL_v (args := [(Value.iface 242 (.pointer (some ea0))), (Value.iface 242 (.pointer (some ea0)))]) (c_callA Tryz.call54) (fun w1 hw1 => is_same_v w1) (k := ?_)
      refine JL_q (q_assign) (k := ?_)
      refine JL_nil ?_
      refine JX_seq ?_
      refine J_true rfl ?_
      refine J_seq ?_
      refine J_reg ?_
      refine JL_q (q_assign) (k := ?_)
      refine JL_nil ?_
      refine JX_seq ?_
      refine J_ret ?_
      refine JX_block_ret ?_
      refine JX_seq_ret ?_
      refine JX_retI Tryz.results57 (Res.tmp rfl Res.nil) ?_
      refine JL_s (w_store (l' := [_, _]) Tryz.sizeOf25) (k := ?_)
      refine JL_s (w_store (l' := [_]) Tryz.sizeOf30) (k := ?_)
      refine JL_nil ?_
      refine JX_seq ?_
      refine J_ret ?_
      refine JX_retD [rD5] (qa (qa (qa (qa (qa (qa (qa (qa (qa (qa (qa (qa q0)))))))))))) Tryz.results35 (Res.agg Tryz.isAgg25 Tryz.sizeOf25 rfl me rfl (Res.word Tryz.isAgg30 rfl me rfl Res.nil)) (fun w1 hw1 => ?_)
      exact ⟨(by rw [(((((hF.neg hq1).pos hq17).neg hq18).neg hq19)).eq] <;> first | rfl | (simp only [List.length_set] <;> rfl)), hw1.ext_out⟩
    refine JL_qg (q_move) (k := ?_)
    refine JL_qg (q_load Tryz.isAgg9) (k := ?_)
    refine JL_qg (q_eqT) (k := ?_)
    refine JL_q (q_pickT) (k := ?_)
    refine JL_nil ?_
    refine JX_seq ?_
    refine J_dec rfl (fun hq20 => ?_) (fun hq20 => ?_)
    · refine J_seq ?_
      refine J_reg ?_
      refine JL_q (q_loadA Tryz.isAgg25 Tryz.sizeOf25) (k := ?_)
      refine JL_s (w_store (l' := [_, _]) Tryz.sizeOf25) (k := ?_)
      refine JL_s (w_store (l' := [_]) Tryz.sizeOf30) (k := ?_)
      refine JL_nil ?_
      refine JX_seq ?_
      refine J_ret ?_
      refine JX_block_ret ?_
      refine JX_roundI_ret q0 ?_
      refine JL_q (q_not) (k := ?_)
      refine JL_nil ?_
      refine JX_seq ?_
      refine J_true rfl ?_
      refine J_exit ?_
      refine JX_block_miss rfl ?_
      refine JX_seq_exit ?_
      refine JX_inv_exit ?_
      refine JX_block_hit ?_
      refine JX_scope ?_
      refine JX_it1 (.inr rfl) Tryz.results102 q0 ?_
      refine J_ret ?_
      refine JX_block_ret ?_
      refine JX_seq_ret ?_
      refine JX_retD [rD5] (qa (qa (qa (qa (qa (qa (qa (qa (qa (qa (qa (qa q0)))))))))))) Tryz.results35 (Res.agg Tryz.isAgg25 Tryz.sizeOf25 rfl me rfl (Res.word Tryz.isAgg30 rfl me rfl Res.nil)) (fun w1 hw1 => ?_)
      exact ⟨(by rw [((((((hF.neg hq1).pos hq17).neg hq18).pos hq19).pos hq20)).eq] <;> first | rfl | (simp only [List.length_set] <;> rfl)), hw1.ext_out⟩
    refine J_skip ?_
    refine JX_block ?_
    refine JX_roundI q0 ?_
    refine JL_q (q_not) (k := ?_)
    refine JL_nil ?_
    refine JX_seq ?_
    refine J_false rfl ?_
    refine J_skip ?_
    refine JX_block ?_
    refine JX_seq ?_
    refine J_reg ?_
    refine JL_q (q_add) (k := ?_)
    refine JL_q (q_move) (k := ?_)
    refine JL_nil ?_
    refine JX_again ?_
    refine J_seq ?_
    refine J_reg ?_
    refine JL_q (q_lss) (k := ?_)
    refine JL_nil ?_
    refine JX_seq ?_
    refine J_seq ?_
    refine J_false rfl ?_
    refine J_exit ?_
    refine JX_seq_exit ?_
    refine JX_inv_exit ?_
    refine JX_block_hit ?_
    refine JX_scope ?_
    refine JX_it0 (.inr rfl) Tryz.results102 q0 ?_
    refine JX_block ?_
    refine JX_seq ?_
    refine J_seq ?_
    refine J_reg ?_
    refine JL_q (q_build (cs := [_, _]) Tryz.zeroValue25 PL_25) (k := ?_)
    obtain ⟨Thgl21, fhgl21, hgl21⟩ := hE.v0
    refine JL_q (q_loadB Tryz.isAgg57 hgl21) (k := ?_)
    refine JL_inl (args := [(Value.iface 242 (.pointer (some ea0)))]) (c_callA Tryz.call57) Tryz.func57 Tryz.ntmps57 ?_
    refine J_seq ?_
    refine J_reg ?_
    refine JL_q (q_assign) (k := ?_)
    refine JL_nil ?_
    refine JX_seq ?_
    refine J_seq ?_
    refine J_block ?_
    refine J_seq ?_
    refine J_reg ?_
    refine JL_q (q_move) (k := ?_)
    obtain ⟨Thgl22, fhgl22, hgl22⟩ := hE.v0
    refine JL_q (q_loadB Tryz.isAgg57 hgl22) (k := ?_)
    refine JL_v (args := [(Value.iface 242 (.pointer (some ea0))), (Value.iface 242 (.pointer (some ea0)))]) (c_callA Tryz.call54) (fun w1 hw1 => is_same_v w1) (k := ?_)
    refine JL_q (q_assign) (k := ?_)
    refine JL_nil ?_
    refine JX_seq ?_
    refine J_true rfl ?_
    refine J_seq ?_
    refine J_reg ?_
    refine JL_q (q_assign) (k := ?_)
    refine JL_nil ?_
    refine JX_seq ?_
    refine J_ret ?_
    refine JX_block_ret ?_
    refine JX_seq_ret ?_
    refine JX_retI Tryz.results57 (Res.tmp rfl Res.nil) ?_
    refine JL_s (w_store (l' := [_, _]) Tryz.sizeOf25) (k := ?_)
    refine JL_s (w_store (l' := [_]) Tryz.sizeOf30) (k := ?_)
    refine JL_nil ?_
    refine JX_seq ?_
    refine J_ret ?_
    refine JX_retD [rD5] (qa (qa (qa (qa (qa (qa (qa (qa (qa (qa (qa (qa q0)))))))))))) Tryz.results35 (Res.agg Tryz.isAgg25 Tryz.sizeOf25 rfl me rfl (Res.word Tryz.isAgg30 rfl me rfl Res.nil)) (fun w1 hw1 => ?_)
    exact ⟨(by rw [((((((hF.neg hq1).pos hq17).neg hq18).pos hq19).neg hq20)).eq] <;> first | rfl | (simp only [List.length_set] <;> rfl)), hw1.ext_out⟩
  refine JL_qg (q_move) (k := ?_)
  refine JL_qg (q_load Tryz.isAgg9) (k := ?_)
  refine JL_qg (q_eqT) (k := ?_)
  refine JL_q (q_pickT) (k := ?_)
  refine JL_nil ?_
  refine JX_seq ?_
  refine J_dec rfl (fun hq2 => ?_) (fun hq2 => ?_)
  · refine J_seq ?_
    refine J_reg ?_
    refine JL_q (q_loadA Tryz.isAgg25 Tryz.sizeOf25) (k := ?_)
    refine JL_s (w_store (l' := [_, _]) Tryz.sizeOf25) (k := ?_)
    refine JL_s (w_store (l' := [_]) Tryz.sizeOf30) (k := ?_)
    refine JL_nil ?_
    refine JX_seq ?_
    refine J_ret ?_
    refine JX_block_ret ?_
    refine JX_roundI_ret q0 ?_
    refine JL_q (q_not) (k := ?_)
    refine JL_nil ?_
    refine JX_seq ?_
    refine J_true rfl ?_
    refine J_exit ?_
    refine JX_block_miss rfl ?_
    refine JX_seq_exit ?_
    refine JX_inv_exit ?_
    refine JX_block_hit ?_
    refine JX_scope ?_
    refine JX_it1 (.inr rfl) Tryz.results102 q0 ?_
    refine J_ret ?_
    refine JX_block_ret ?_
    refine JX_seq_ret ?_
    refine JX_retD [rD5] (qa (qa (qa (qa (qa (qa q0)))))) Tryz.results35 (Res.agg Tryz.isAgg25 Tryz.sizeOf25 rfl me rfl (Res.word Tryz.isAgg30 rfl me rfl Res.nil)) (fun w1 hw1 => ?_)
    exact ⟨(by rw [(((hF.pos hq1).pos hq2)).eq] <;> first | rfl | (simp only [List.length_set] <;> rfl)), hw1.ext_out⟩
  refine J_skip ?_
  refine JX_block ?_
  refine JX_roundI q0 ?_
  refine JL_q (q_not) (k := ?_)
  refine JL_nil ?_
  refine JX_seq ?_
  refine J_false rfl ?_
  refine J_skip ?_
  refine JX_block ?_
  refine JX_seq ?_
  refine J_reg ?_
  refine JL_q (q_add) (k := ?_)
  refine JL_q (q_move) (k := ?_)
  refine JL_nil ?_
  refine JX_again ?_
  refine J_seq ?_
  refine J_reg ?_
  refine JL_q (q_lss) (k := ?_)
  refine JL_nil ?_
  refine JX_seq ?_
  refine J_seq ?_
  refine J_true rfl ?_
  refine J_skip ?_
  refine JX_seq ?_
  refine J_seq ?_
  refine J_block ?_
  refine J_seq ?_
  refine J_reg ?_
  refine JL_q (q_idxO Tryz.runUnderlying165 Tryz.sizeOf88 1) (k := ?_)
  refine JL_q (q_load Tryz.isAgg88) (k := ?_)
  refine JL_q (q_assign) (k := ?_)
  refine JL_nil ?_
  refine JX_seq ?_
  refine J_seq ?_
  refine J_reg ?_
  refine JL_q (q_move) (k := ?_)
  refine JL_q (q_move) (k := ?_)
  refine JL_inl (args := [(Value.agg [(Value.string (bs s))].toArray)]) (c_callA Tryz.call104) Tryz.func104 Tryz.ntmps104 ?_
  refine J_seq ?_
  refine J_reg ?_
  refine JL_a noMk (a_box (l := [_])) (k := fun r11 hr11 => ?_)
  refine JL_a noMk (a_alloc (l := [_, _]) Tryz.zeroValue25) (k := fun r12 hr12 => ?_)
  refine JL_nil ?_
  refine JX_seq ?_
  refine J_seq ?_
  refine J_plan mixed 7 [(true, 0), (true, 1), (true, 3), (true, 4), (false, 2), (false, 5), (true, 6)] (by kernel_rfl) ?_
  refine JD_q (q_fld FO_164_0) (k := ?_)
  refine JD_q (q_loadA Tryz.isAgg162 Tryz.sizeOf162) (k := ?_)
  refine JD_q (q_fld FO_164_0) (k := ?_)
  refine JD_q (q_loadA Tryz.isAgg162 Tryz.sizeOf162) (k := ?_)
  refine JD_v (args := [(Value.agg [(Value.string (bs s))].toArray)]) (c_callA Tryz.call125) (fun w1 hw1 => pNumber_ok w1 (t := s) (n_t := by first | exact lb | decide)) (k := ?_)
  refine JD_v (args := [(Value.agg [(Value.string (bs s))].toArray)]) (c_callA Tryz.call125) (fun w1 hw1 => pNumber_ok w1 (t := s) (n_t := by first | exact lb | decide)) (k := ?_)
  refine JD_q (q_build (cs := [_, _]) Tryz.zeroValue25 PL_25) (k := ?_)
  refine JD_nil0 ?_
  refine JL_s (w_store (l' := [_, _]) Tryz.sizeOf25) (k := ?_)
  refine JL_nil ?_
  refine JX_seq ?_
  refine J_ret ?_
  refine JX_retI Tryz.results104 (Res.agg Tryz.isAgg25 Tryz.sizeOf25 rfl me rfl Res.nil) ?_
  refine JL_yIn (vs := [(Value.agg [(Value.int .i64 ((pNumber s))), (Value.int .i64 ((pNumber s)))].toArray)]) hl5 (qa (qa q0)) y_call ?_
  refine J_reg ?_
  refine JL_a noMk (a_alloc (l := [_, _]) Tryz.zeroValue25) (k := fun r13 hr13 => ?_)
  refine JL_s (w_store (l' := [_, _]) Tryz.sizeOf25) (k := ?_)
  refine JL_nil ?_
  refine JX_begin (qa q0) ?_
  refine J_block ?_
  refine J_seq ?_
  refine J_reg ?_
  refine JL_q (q_loadA Tryz.isAgg25 Tryz.sizeOf25) (k := ?_)
  refine JL_v (args := [(Value.agg [(Value.int .i64 ((pNumber s))), (Value.int .i64 ((pNumber s)))].toArray)]) (c_callA Tryz.call32) (fun w1 hw1 => pPrint_ok w1 (p := (PortsT.mk (pNumber s) (pNumber s))) (hG := hG.ext hw1.ext_out) (hE := hE.ext hw1.ext_out)) (k := ?_)
  refine JL_q (q_move) (k := ?_)
  refine JL_q (q_ext) (k := ?_)
  refine JL_q (q_ext) (k := ?_)
  refine JL_q (q_assign) (k := ?_)
  refine JL_q (q_assign) (k := ?_)
  refine JL_nil ?_
  refine JX_seq ?_
  refine J_seq ?_
  refine J_reg ?_
  refine JL_q (q_move) (k := ?_)
  refine JL_q (q_eql) (k := ?_)
  refine JL_q (q_move) (k := ?_)
  refine JL_dec 17 rfl (fun hq3 => ?_) (fun hq3 => ?_)
  rotate_left
  · refine JL_skips 3 rfl ?_
    refine JL_q (q_pickF) (k := ?_)
    refine JL_nil ?_
    refine JX_seq ?_
    refine J_false rfl ?_
    refine J_skip ?_
    refine JX_block ?_
    refine JX_roundI q0 ?_
    refine JL_q (q_not) (k := ?_)
    refine JL_nil ?_
    refine JX_seq ?_
    refine J_false rfl ?_
    refine J_skip ?_
    refine JX_block ?_
    refine JX_seq ?_
    refine J_reg ?_
    refine JL_q (q_add) (k := ?_)
    refine JL_q (q_move) (k := ?_)
    refine JL_nil ?_
    refine JX_again ?_
    refine J_seq ?_
    refine J_reg ?_
    refine JL_q (q_lss) (k := ?_)
    refine JL_nil ?_
    refine JX_seq ?_
    refine J_seq ?_
    refine J_true rfl ?_
    refine J_skip ?_
    refine JX_seq ?_
    refine J_seq ?_
    refine J_block ?_
    refine J_seq ?_
    refine J_reg ?_
    refine JL_q (q_idxO Tryz.runUnderlying165 Tryz.sizeOf88 2) (k := ?_)
    refine JL_q (q_load Tryz.isAgg88) (k := ?_)
    refine JL_q (q_assign) (k := ?_)
    refine JL_nil ?_
    refine JX_seq ?_
    refine J_seq ?_
    refine J_reg ?_
    refine JL_q (q_move) (k := ?_)
    refine JL_q (q_move) (k := ?_)
    refine JL_inl (args := [(Value.agg [(Value.string (bs s))].toArray)]) (c_callA Tryz.call105) Tryz.func105 Tryz.ntmps105 ?_
    refine J_seq ?_
    refine J_reg ?_
    refine JL_a noMk (a_box (l := [_])) (k := fun r17 hr17 => ?_)
    refine JL_a noMk (a_alloc (l := [_, _]) Tryz.zeroValue25) (k := fun r18 hr18 => ?_)
    refine JL_nil ?_
    refine JX_seq ?_
    refine J_seq ?_
    refine J_reg ?_
    refine JL_q (q_fld FO_164_0) (k := ?_)
    refine JL_q (q_fld FO_162_0) (k := ?_)
    refine JL_q (q_load Tryz.isAgg9) (k := ?_)
    refine JL_v (args := [(Value.string (bs s)), (Value.string (bs ([45] : Str)))]) (c_callA Tryz.call61) (fun w1 hw1 => Cut_ok w1 (s := s) (sep := ([45] : Str)) (hG := hG.ext hw1.ext_out) (hn := by first | exact lb)) (k := ?_)
    have hct_7533 := cut_len s ([45] : Str)
    refine JL_q (q_move) (k := ?_)
    refine JL_q (q_ext) (k := ?_)
    refine JL_q (q_ext) (k := ?_)
    refine JL_q (q_ext) (k := ?_)
    refine JL_q (q_assign) (k := ?_)
    refine JL_q (q_assign) (k := ?_)
    refine JL_q (q_assign) (k := ?_)
    refine JL_nil ?_
    refine JX_seq ?_
    refine J_seq ?_
    refine J_reg ?_
    refine JL_q (q_move) (k := ?_)
    refine JL_q (q_build (cs := [_]) Tryz.zeroValue162 PL_162) (k := ?_)
    refine JL_v (args := [(Value.agg [(Value.string (bs ((Lib.cut s ([45] : Str)).1)))].toArray)]) (c_callA Tryz.call125) (fun w1 hw1 => pNumber_ok w1 (t := ((Lib.cut s ([45] : Str)).1)) (n_t := by first | exact lb | decide)) (k := ?_)
    refine JL_q (q_move) (k := ?_)
    refine JL_q (q_build (cs := [_]) Tryz.zeroValue162 PL_162) (k := ?_)
    refine JL_v (args := [(Value.agg [(Value.string (bs ((Lib.cut s ([45] : Str)).2.1)))].toArray)]) (c_callA Tryz.call125) (fun w1 hw1 => pNumber_ok w1 (t := ((Lib.cut s ([45] : Str)).2.1)) (n_t := by first | exact lb | decide)) (k := ?_)
    refine JL_q (q_build (cs := [_, _]) Tryz.zeroValue25 PL_25) (k := ?_)
    refine JL_s (w_store (l' := [_, _]) Tryz.sizeOf25) (k := ?_)
    refine JL_nil ?_
    refine JX_seq ?_
    refine J_ret ?_
    refine JX_retI Tryz.results105 (Res.agg Tryz.isAgg25 Tryz.sizeOf25 rfl me rfl Res.nil) ?_
    refine JL_yIn (vs := [(Value.agg [(Value.int .i64 ((pNumber ((Lib.cut s ([45] : Str)).1)))), (Value.int .i64 ((pNumber ((Lib.cut s ([45] : Str)).2.1))))].toArray)]) hl5 (qa (qa q0)) y_call ?_
    refine J_reg ?_
    refine JL_a noMk (a_alloc (l := [_, _]) Tryz.zeroValue25) (k := fun r19 hr19 => ?_)
    refine JL_s (w_store (l' := [_, _]) Tryz.sizeOf25) (k := ?_)
    refine JL_nil ?_
    refine JX_begin (qa q0) ?_
    refine J_block ?_
    refine J_seq ?_
    refine J_reg ?_
    refine JL_q (q_loadA Tryz.isAgg25 Tryz.sizeOf25) (k := ?_)
    refine JL_v (args := [(Value.agg [(Value.int .i64 ((pNumber ((Lib.cut s ([45] : Str)).1)))), (Value.int .i64 ((pNumber ((Lib.cut s ([45] : Str)).2.1))))].toArray)]) (c_callA Tryz.call32) (fun w1 hw1 => pPrint_ok w1 (p := (PortsT.mk (pNumber ((Lib.cut s ([45] : Str)).1)) (pNumber ((Lib.cut s ([45] : Str)).2.1)))) (hG := hG.ext hw1.ext_out) (hE := hE.ext hw1.ext_out)) (k := ?_)
    refine JL_q (q_move) (k := ?_)
    refine JL_q (q_ext) (k := ?_)
    refine JL_q (q_ext) (k := ?_)
    refine JL_q (q_assign) (k := ?_)
    refine JL_q (q_assign) (k := ?_)
    refine JL_nil ?_
    refine JX_seq ?_
    refine J_seq ?_
    refine J_reg ?_
    refine JL_q (q_move) (k := ?_)
    refine JL_q (q_eql) (k := ?_)
    refine JL_q (q_move) (k := ?_)
    refine JL_dec 17 rfl (fun hq11 => ?_) (fun hq11 => ?_)
    rotate_left
    · refine JL_skips 3 rfl ?_
      refine JL_q (q_pickF) (k := ?_)
      refine JL_nil ?_
      refine JX_seq ?_
      refine J_false rfl ?_
      refine J_skip ?_
      refine JX_block ?_
      refine JX_roundI q0 ?_
      refine JL_q (q_not) (k := ?_)
      refine JL_nil ?_
      refine JX_seq ?_
      refine J_false rfl ?_
      refine J_skip ?_
      refine JX_block ?_
      refine JX_seq ?_
      refine J_reg ?_
      refine JL_q (q_add) (k := ?_)
      refine JL_q (q_move) (k := ?_)
      refine JL_nil ?_
      refine JX_again ?_
      refine J_seq ?_
      refine J_reg ?_
      refine JL_q (q_lss) (k := ?_)
      refine JL_nil ?_
      refine JX_seq ?_
      refine J_seq ?_
      refine J_false rfl ?_
      refine J_exit ?_
      refine JX_seq_exit ?_
      refine JX_inv_exit ?_
      refine JX_block_hit ?_
      refine JX_scope ?_
      refine JX_it0 (.inr rfl) Tryz.results102 q0 ?_
      refine JX_block ?_
      refine JX_seq ?_
      refine J_seq ?_
      refine J_reg ?_
      refine JL_q (q_build (cs := [_, _]) Tryz.zeroValue25 PL_25) (k := ?_)
      obtain ⟨Thgl15, fhgl15, hgl15⟩ := hE.v0
      refine JL_q (q_loadB Tryz.isAgg57 hgl15) (k := ?_)
      refine JL_inl (args := [(Value.iface 242 (.pointer (some ea0)))]) (c_callA Tryz.call57) Tryz.func57 Tryz.ntmps57 ?_
      refine J_seq ?_
      refine J_reg ?_
      refine JL_q (q_assign) (k := ?_)
      refine JL_nil ?_
      refine JX_seq ?_
      refine J_seq ?_
      refine J_block ?_
      refine J_seq ?_
      refine J_reg ?_
      refine JL_q (q_move) (k := ?_)
      obtain ⟨Thgl16, fhgl16, hgl16⟩ := hE.v0
      refine JL_q (q_loadB Tryz.isAgg57 hgl16) (k := ?_)
      refine JL_v (args := [(Value.iface 242 (.pointer (some ea0))), (Value.iface 242 (.pointer (some ea0)))]) (c_callA Tryz.call54) (fun w1 hw1 => is_same_v w1) (k := ?_)
      refine JL_q (q_assign) (k := ?_)
      refine JL_nil ?_
      refine JX_seq ?_
      refine J_true rfl ?_
      refine J_seq ?_
      refine J_reg ?_
      refine JL_q (q_assign) (k := ?_)
      refine JL_nil ?_
      refine JX_seq ?_
      refine J_ret ?_
      refine JX_block_ret ?_
      refine JX_seq_ret ?_
      refine JX_retI Tryz.results57 (Res.tmp rfl Res.nil) ?_
      refine JL_s (w_store (l' := [_, _]) Tryz.sizeOf25) (k := ?_)
      refine JL_s (w_store (l' := [_]) Tryz.sizeOf30) (k := ?_)
      refine JL_nil ?_
      refine JX_seq ?_
      refine J_ret ?_
      refine JX_retD [rD5] (qa (qa (qa (qa (qa (qa (qa (qa (qa (qa (qa (qa q0)))))))))))) Tryz.results35 (Res.agg Tryz.isAgg25 Tryz.sizeOf25 rfl me rfl (Res.word Tryz.isAgg30 rfl me rfl Res.nil)) (fun w1 hw1 => ?_)
      exact ⟨(by rw [(((((hF.pos hq1).neg hq2).neg hq3).neg hq11)).eq] <;> first | rfl | (simp only [List.length_set] <;> rfl)), hw1.ext_out⟩
    refine JL_qg (q_move) (k := ?_)
    refine JL_qg (q_load Tryz.isAgg9) (k := ?_)
    refine JL_qg (q_eqT) (k := ?_)
    refine JL_q (q_pickT) (k := ?_)
    refine JL_nil ?_
    refine JX_seq ?_
    refine J_dec rfl (fun hq12 => ?_) (fun hq12 => ?_)
    · refine J_seq ?_
      refine J_reg ?_
      refine JL_q (q_loadA Tryz.isAgg25 Tryz.sizeOf25) (k := ?_)
      refine JL_s (w_store (l' := [_, _]) Tryz.sizeOf25) (k := ?_)
      refine JL_s (w_store (l' := [_]) Tryz.sizeOf30) (k := ?_)
      refine JL_nil ?_
      refine JX_seq ?_
      refine J_ret ?_
      refine JX_block_ret ?_
      refine JX_roundI_ret q0 ?_
      refine JL_q (q_not) (k := ?_)
      refine JL_nil ?_
      refine JX_seq ?_
      refine J_true rfl ?_
      refine J_exit ?_
      refine JX_block_miss rfl ?_
      refine JX_seq_exit ?_
      refine JX_inv_exit ?_
      refine JX_block_hit ?_
      refine JX_scope ?_
      refine JX_it1 (.inr rfl) Tryz.results102 q0 ?_
      refine J_ret ?_
      refine JX_block_ret ?_
      refine JX_seq_ret ?_
      refine JX_retD [rD5] (qa (qa (qa (qa (qa (qa (qa (qa (qa (qa (qa (qa q0)))))))))))) Tryz.results35 (Res.agg Tryz.isAgg25 Tryz.sizeOf25 rfl me rfl (Res.word Tryz.isAgg30 rfl me rfl Res.nil)) (fun w1 hw1 => ?_)
      exact ⟨(by rw [((((((hF.pos hq1).neg hq2).neg hq3).pos hq11).pos hq12)).eq] <;> first | rfl | (simp only [List.length_set] <;> rfl)), hw1.ext_out⟩
    refine J_skip ?_
    refine JX_block ?_
    refine JX_roundI q0 ?_
    refine JL_q (q_not) (k := ?_)
    refine JL_nil ?_
    refine JX_seq ?_
    refine J_false rfl ?_
    refine J_skip ?_
    refine JX_block ?_
    refine JX_seq ?_
    refine J_reg ?_
    refine JL_q (q_add) (k := ?_)
    refine JL_q (q_move) (k := ?_)
    refine JL_nil ?_
    refine JX_again ?_
    refine J_seq ?_
    refine J_reg ?_
    refine JL_q (q_lss) (k := ?_)
    refine JL_nil ?_
    refine JX_seq ?_
    refine J_seq ?_
    refine J_false rfl ?_
    refine J_exit ?_
    refine JX_seq_exit ?_
    refine JX_inv_exit ?_
    refine JX_block_hit ?_
    refine JX_scope ?_
    refine JX_it0 (.inr rfl) Tryz.results102 q0 ?_
    refine JX_block ?_
    refine JX_seq ?_
    refine J_seq ?_
    refine J_reg ?_
    refine JL_q (q_build (cs := [_, _]) Tryz.zeroValue25 PL_25) (k := ?_)
    obtain ⟨Thgl13, fhgl13, hgl13⟩ := hE.v0
    refine JL_q (q_loadB Tryz.isAgg57 hgl13) (k := ?_)
    refine JL_inl (args := [(Value.iface 242 (.pointer (some ea0)))]) (c_callA Tryz.call57) Tryz.func57 Tryz.ntmps57 ?_
    refine J_seq ?_
    refine J_reg ?_
    refine JL_q (q_assign) (k := ?_)
    refine JL_nil ?_
    refine JX_seq ?_
    refine J_seq ?_
    refine J_block ?_
    refine J_seq ?_
    refine J_reg ?_
    refine JL_q (q_move) (k := ?_)
    obtain ⟨Thgl14, fhgl14, hgl14⟩ := hE.v0
    refine JL_q (q_loadB Tryz.isAgg57 hgl14) (k := ?_)
    refine JL_v (args := [(Value.iface 242 (.pointer (some ea0))), (Value.iface 242 (.pointer (some ea0)))]) (c_callA Tryz.call54) (fun w1 hw1 => is_same_v w1) (k := ?_)
    refine JL_q (q_assign) (k := ?_)
    refine JL_nil ?_
    refine JX_seq ?_
    refine J_true rfl ?_
    refine J_seq ?_
    refine J_reg ?_
    refine JL_q (q_assign) (k := ?_)
    refine JL_nil ?_
    refine JX_seq ?_
    refine J_ret ?_
    refine JX_block_ret ?_
    refine JX_seq_ret ?_
    refine JX_retI Tryz.results57 (Res.tmp rfl Res.nil) ?_
    refine JL_s (w_store (l' := [_, _]) Tryz.sizeOf25) (k := ?_)
    refine JL_s (w_store (l' := [_]) Tryz.sizeOf30) (k := ?_)
    refine JL_nil ?_
    refine JX_seq ?_
    refine J_ret ?_
    refine JX_retD [rD5] (qa (qa (qa (qa (qa (qa (qa (qa (qa (qa (qa (qa q0)))))))))))) Tryz.results35 (Res.agg Tryz.isAgg25 Tryz.sizeOf25 rfl me rfl (Res.word Tryz.isAgg30 rfl me rfl Res.nil)) (fun w1 hw1 => ?_)
    exact ⟨(by rw [((((((hF.pos hq1).neg hq2).neg hq3).pos hq11).neg hq12)).eq] <;> first | rfl | (simp only [List.length_set] <;> rfl)), hw1.ext_out⟩
  refine JL_qg (q_move) (k := ?_)
  refine JL_qg (q_load Tryz.isAgg9) (k := ?_)
  refine JL_qg (q_eqT) (k := ?_)
  refine JL_q (q_pickT) (k := ?_)
  refine JL_nil ?_
  refine JX_seq ?_
  refine J_dec rfl (fun hq4 => ?_) (fun hq4 => ?_)
  · refine J_seq ?_
    refine J_reg ?_
    refine JL_q (q_loadA Tryz.isAgg25 Tryz.sizeOf25) (k := ?_)
    refine JL_s (w_store (l' := [_, _]) Tryz.sizeOf25) (k := ?_)
    refine JL_s (w_store (l' := [_]) Tryz.sizeOf30) (k := ?_)
    refine JL_nil ?_
    refine JX_seq ?_
    refine J_ret ?_
    refine JX_block_ret ?_
    refine JX_roundI_ret q0 ?_
    refine JL_q (q_not) (k := ?_)
    refine JL_nil ?_
    refine JX_seq ?_
    refine J_true rfl ?_
    refine J_exit ?_
    refine JX_block_miss rfl ?_
    refine JX_seq_exit ?_
    refine JX_inv_exit ?_
    refine JX_block_hit ?_
    refine JX_scope ?_
    refine JX_it1 (.inr rfl) Tryz.results102 q0 ?_
    refine J_ret ?_
    refine JX_block_ret ?_
    refine JX_seq_ret ?_
    refine JX_retD [rD5] (qa (qa (qa (qa (qa (qa (qa (qa (qa q0))))))))) Tryz.results35 (Res.agg Tryz.isAgg25 Tryz.sizeOf25 rfl me rfl (Res.word Tryz.isAgg30 rfl me rfl Res.nil)) (fun w1 hw1 => ?_)
    exact ⟨(by rw [(((((hF.pos hq1).neg hq2).pos hq3).pos hq4)).eq] <;> first | rfl | (simp only [List.length_set] <;> rfl)), hw1.ext_out⟩
  refine J_skip ?_
  refine JX_block ?_
  refine JX_roundI q0 ?_
  refine JL_q (q_not) (k := ?_)
  refine JL_nil ?_
  refine JX_seq ?_
  refine J_false rfl ?_
  refine J_skip ?_
  refine JX_block ?_
  refine JX_seq ?_
  refine J_reg ?_
  refine JL_q (q_add) (k := ?_)
  refine JL_q (q_move) (k := ?_)
  refine JL_nil ?_
  refine JX_again ?_
  refine J_seq ?_
  refine J_reg ?_
  refine JL_q (q_lss) (k := ?_)
  refine JL_nil ?_
  refine JX_seq ?_
  refine J_seq ?_
  refine J_true rfl ?_
  refine J_skip ?_
  refine JX_seq ?_
  refine J_seq ?_
  refine J_block ?_
  refine J_seq ?_
  refine J_reg ?_
  refine JL_q (q_idxO Tryz.runUnderlying165 Tryz.sizeOf88 2) (k := ?_)
  refine JL_q (q_load Tryz.isAgg88) (k := ?_)
  refine JL_q (q_assign) (k := ?_)
  refine JL_nil ?_
  refine JX_seq ?_
  refine J_seq ?_
  refine J_reg ?_
  refine JL_q (q_move) (k := ?_)
  refine JL_q (q_move) (k := ?_)
  refine JL_inl (args := [(Value.agg [(Value.string (bs s))].toArray)]) (c_callA Tryz.call105) Tryz.func105 Tryz.ntmps105 ?_
  refine J_seq ?_
  refine J_reg ?_
  refine JL_a noMk (a_box (l := [_])) (k := fun r14 hr14 => ?_)
  refine JL_a noMk (a_alloc (l := [_, _]) Tryz.zeroValue25) (k := fun r15 hr15 => ?_)
  refine JL_nil ?_
  refine JX_seq ?_
  refine J_seq ?_
  refine J_reg ?_
  refine JL_q (q_fld FO_164_0) (k := ?_)
  refine JL_q (q_fld FO_162_0) (k := ?_)
  refine JL_q (q_load Tryz.isAgg9) (k := ?_)
  refine JL_v (args := [(Value.string (bs s)), (Value.string (bs ([45] : Str)))]) (c_callA Tryz.call61) (fun w1 hw1 => Cut_ok w1 (s := s) (sep := ([45] : Str)) (hG := hG.ext hw1.ext_out) (hn := by first | exact lb)) (k := ?_)
  have hct_7533 := cut_len s ([45] : Str)
  refine JL_q (q_move) (k := ?_)
  refine JL_q (q_ext) (k := ?_)
  refine JL_q (q_ext) (k := ?_)
  refine JL_q (q_ext) (k := ?_)
  refine JL_q (q_assign) (k := ?_)
  refine JL_q (q_assign) (k := ?_)
  refine JL_q (q_assign) (k := ?_)
  refine JL_nil ?_
  refine JX_seq ?_
  refine J_seq ?_
  refine J_reg ?_
  refine JL_q (q_move) (k := ?_)
  refine JL_q (q_build (cs := [_]) Tryz.zeroValue162 PL_162) (k := ?_)
  refine JL_v (args := [(Value.agg [(Value.string (bs ((Lib.cut s ([45] : Str)).1)))].toArray)]) (c_callA Tryz.call125) (fun w1 hw1 => pNumber_ok w1 (t := ((Lib.cut s ([45] : Str)).1)) (n_t := by first | exact lb | decide)) (k := ?_)
  refine JL_q (q_move) (k := ?_)
  refine JL_q (q_build (cs := [_]) Tryz.zeroValue162 PL_162) (k := ?_)
  refine JL_v (args := [(Value.agg [(Value.string (bs ((Lib.cut s ([45] : Str)).2.1)))].toArray)]) (c_callA Tryz.call125) (fun w1 hw1 => pNumber_ok w1 (t := ((Lib.cut s ([45] : Str)).2.1)) (n_t := by first | exact lb | decide)) (k := ?_)
  refine JL_q (q_build (cs := [_, _]) Tryz.zeroValue25 PL_25) (k := ?_)
  refine JL_s (w_store (l' := [_, _]) Tryz.sizeOf25) (k := ?_)
  refine JL_nil ?_
  refine JX_seq ?_
  refine J_ret ?_
  refine JX_retI Tryz.results105 (Res.agg Tryz.isAgg25 Tryz.sizeOf25 rfl me rfl Res.nil) ?_
  refine JL_yIn (vs := [(Value.agg [(Value.int .i64 ((pNumber ((Lib.cut s ([45] : Str)).1)))), (Value.int .i64 ((pNumber ((Lib.cut s ([45] : Str)).2.1))))].toArray)]) hl5 (qa (qa q0)) y_call ?_
  refine J_reg ?_
  refine JL_a noMk (a_alloc (l := [_, _]) Tryz.zeroValue25) (k := fun r16 hr16 => ?_)
  refine JL_s (w_store (l' := [_, _]) Tryz.sizeOf25) (k := ?_)
  refine JL_nil ?_
  refine JX_begin (qa q0) ?_
  refine J_block ?_
  refine J_seq ?_
  refine J_reg ?_
  refine JL_q (q_loadA Tryz.isAgg25 Tryz.sizeOf25) (k := ?_)
  refine JL_v (args := [(Value.agg [(Value.int .i64 ((pNumber ((Lib.cut s ([45] : Str)).1)))), (Value.int .i64 ((pNumber ((Lib.cut s ([45] : Str)).2.1))))].toArray)]) (c_callA Tryz.call32) (fun w1 hw1 => pPrint_ok w1 (p := (PortsT.mk (pNumber ((Lib.cut s ([45] : Str)).1)) (pNumber ((Lib.cut s ([45] : Str)).2.1)))) (hG := hG.ext hw1.ext_out) (hE := hE.ext hw1.ext_out)) (k := ?_)
  refine JL_q (q_move) (k := ?_)
  refine JL_q (q_ext) (k := ?_)
  refine JL_q (q_ext) (k := ?_)
  refine JL_q (q_assign) (k := ?_)
  refine JL_q (q_assign) (k := ?_)
  refine JL_nil ?_
  refine JX_seq ?_
  refine J_seq ?_
  refine J_reg ?_
  refine JL_q (q_move) (k := ?_)
  refine JL_q (q_eql) (k := ?_)
  refine JL_q (q_move) (k := ?_)
  refine JL_dec 17 rfl (fun hq5 => ?_) (fun hq5 => ?_)
  rotate_left
  · refine JL_skips 3 rfl ?_
    refine JL_q (q_pickF) (k := ?_)
    refine JL_nil ?_
    refine JX_seq ?_
    refine J_false rfl ?_
    refine J_skip ?_
    refine JX_block ?_
    refine JX_roundI q0 ?_
    refine JL_q (q_not) (k := ?_)
    refine JL_nil ?_
    refine JX_seq ?_
    refine J_false rfl ?_
    refine J_skip ?_
    refine JX_block ?_
    refine JX_seq ?_
    refine J_reg ?_
    refine JL_q (q_add) (k := ?_)
    refine JL_q (q_move) (k := ?_)
    refine JL_nil ?_
    refine JX_again ?_
    refine J_seq ?_
    refine J_reg ?_
    refine JL_q (q_lss) (k := ?_)
    refine JL_nil ?_
    refine JX_seq ?_
    refine J_seq ?_
    refine J_false rfl ?_
    refine J_exit ?_
    refine JX_seq_exit ?_
    refine JX_inv_exit ?_
    refine JX_block_hit ?_
    refine JX_scope ?_
    refine JX_it0 (.inr rfl) Tryz.results102 q0 ?_
    refine JX_block ?_
    refine JX_seq ?_
    refine J_seq ?_
    refine J_reg ?_
    refine JL_q (q_build (cs := [_, _]) Tryz.zeroValue25 PL_25) (k := ?_)
    obtain ⟨Thgl9, fhgl9, hgl9⟩ := hE.v0
    refine JL_q (q_loadB Tryz.isAgg57 hgl9) (k := ?_)
    refine JL_inl (args := [(Value.iface 242 (.pointer (some ea0)))]) (c_callA Tryz.call57) Tryz.func57 Tryz.ntmps57 ?_
    refine J_seq ?_
    refine J_reg ?_
    refine JL_q (q_assign) (k := ?_)
    refine JL_nil ?_
    refine JX_seq ?_
    refine J_seq ?_
    refine J_block ?_
    refine J_seq ?_
    refine J_reg ?_
    refine JL_q (q_move) (k := ?_)
    obtain ⟨Thgl10, fhgl10, hgl10⟩ := hE.v0
    refine JL_q (q_loadB Tryz.isAgg57 hgl10) (k := ?_)
    refine JL_v (args := [(Value.iface 242 (.pointer (some ea0))), (Value.iface 242 (.pointer (some ea0)))]) (c_callA Tryz.call54) (fun w1 hw1 => is_same_v w1) (k := ?_)
    refine JL_q (q_assign) (k := ?_)
    refine JL_nil ?_
    refine JX_seq ?_
    refine J_true rfl ?_
    refine J_seq ?_
    refine J_reg ?_
    refine JL_q (q_assign) (k := ?_)
    refine JL_nil ?_
    refine JX_seq ?_
    refine J_ret ?_
    refine JX_block_ret ?_
    refine JX_seq_ret ?_
    refine JX_retI Tryz.results57 (Res.tmp rfl Res.nil) ?_
    refine JL_s (w_store (l' := [_, _]) Tryz.sizeOf25) (k := ?_)
    refine JL_s (w_store (l' := [_]) Tryz.sizeOf30) (k := ?_)
    refine JL_nil ?_
    refine JX_seq ?_
    refine J_ret ?_
    refine JX_retD [rD5] (qa (qa (qa (qa (qa (qa (qa (qa (qa (qa (qa (qa q0)))))))))))) Tryz.results35 (Res.agg Tryz.isAgg25 Tryz.sizeOf25 rfl me rfl (Res.word Tryz.isAgg30 rfl me rfl Res.nil)) (fun w1 hw1 => ?_)
    exact ⟨(by rw [((((((hF.pos hq1).neg hq2).pos hq3).neg hq4).neg hq5)).eq] <;> first | rfl | (simp only [List.length_set] <;> rfl)), hw1.ext_out⟩
  refine JL_qg (q_move) (k := ?_)
  refine JL_qg (q_load Tryz.isAgg9) (k := ?_)
  refine JL_qg (q_eqT) (k := ?_)
  refine JL_q (q_pickT) (k := ?_)
  refine JL_nil ?_
  refine JX_seq ?_
  refine J_dec rfl (fun hq6 => ?_) (fun hq6 => ?_)
  · refine J_seq ?_
    refine J_reg ?_
    refine JL_q (q_loadA Tryz.isAgg25 Tryz.sizeOf25) (k := ?_)
    refine JL_s (w_store (l' := [_, _]) Tryz.sizeOf25) (k := ?_)
    refine JL_s (w_store (l' := [_]) Tryz.sizeOf30) (k := ?_)
    refine JL_nil ?_
    refine JX_seq ?_
    refine J_ret ?_
    refine JX_block_ret ?_
    refine JX_roundI_ret q0 ?_
    refine JL_q (q_not) (k := ?_)
    refine JL_nil ?_
    refine JX_seq ?_
    refine J_true rfl ?_
    refine J_exit ?_
    refine JX_block_miss rfl ?_
    refine JX_seq_exit ?_
    refine JX_inv_exit ?_
    refine JX_block_hit ?_
    refine JX_scope ?_
    refine JX_it1 (.inr rfl) Tryz.results102 q0 ?_
    refine J_ret ?_
    refine JX_block_ret ?_
    refine JX_seq_ret ?_
    refine JX_retD [rD5] (qa (qa (qa (qa (qa (qa (qa (qa (qa (qa (qa (qa q0)))))))))))) Tryz.results35 (Res.agg Tryz.isAgg25 Tryz.sizeOf25 rfl me rfl (Res.word Tryz.isAgg30 rfl me rfl Res.nil)) (fun w1 hw1 => ?_)
    exact ⟨(by rw [(((((((hF.pos hq1).neg hq2).pos hq3).neg hq4).pos hq5).pos hq6)).eq] <;> first | rfl | (simp only [List.length_set] <;> rfl)), hw1.ext_out⟩
  refine J_skip ?_
  refine JX_block ?_
  refine JX_roundI q0 ?_
  refine JL_q (q_not) (k := ?_)
  refine JL_nil ?_
  refine JX_seq ?_
  refine J_false rfl ?_
  refine J_skip ?_
  refine JX_block ?_
  refine JX_seq ?_
  refine J_reg ?_
  refine JL_q (q_add) (k := ?_)
  refine JL_q (q_move) (k := ?_)
  refine JL_nil ?_
  refine JX_again ?_
  refine J_seq ?_
  refine J_reg ?_
  refine JL_q (q_lss) (k := ?_)
  refine JL_nil ?_
  refine JX_seq ?_
  refine J_seq ?_
  refine J_false rfl ?_
  refine J_exit ?_
  refine JX_seq_exit ?_
  refine JX_inv_exit ?_
  refine JX_block_hit ?_
  refine JX_scope ?_
  refine JX_it0 (.inr rfl) Tryz.results102 q0 ?_
  refine JX_block ?_
  refine JX_seq ?_
  refine J_seq ?_
  refine J_reg ?_
  refine JL_q (q_build (cs := [_, _]) Tryz.zeroValue25 PL_25) (k := ?_)
  obtain ⟨Thgl7, fhgl7, hgl7⟩ := hE.v0
  refine JL_q (q_loadB Tryz.isAgg57 hgl7) (k := ?_)
  refine JL_inl (args := [(Value.iface 242 (.pointer (some ea0)))]) (c_callA Tryz.call57) Tryz.func57 Tryz.ntmps57 ?_
  refine J_seq ?_
  refine J_reg ?_
  refine JL_q (q_assign) (k := ?_)
  refine JL_nil ?_
  refine JX_seq ?_
  refine J_seq ?_
  refine J_block ?_
  refine J_seq ?_
  refine J_reg ?_
  refine JL_q (q_move) (k := ?_)
  obtain ⟨Thgl8, fhgl8, hgl8⟩ := hE.v0
  refine JL_q (q_loadB Tryz.isAgg57 hgl8) (k := ?_)
  refine JL_v (args := [(Value.iface 242 (.pointer (some ea0))), (Value.iface 242 (.pointer (some ea0)))]) (c_callA Tryz.call54) (fun w1 hw1 => is_same_v w1) (k := ?_)
  refine JL_q (q_assign) (k := ?_)
  refine JL_nil ?_
  refine JX_seq ?_
  refine J_true rfl ?_
  refine J_seq ?_
  refine J_reg ?_
  refine JL_q (q_assign) (k := ?_)
  refine JL_nil ?_
  refine JX_seq ?_
  refine J_ret ?_
  refine JX_block_ret ?_
  refine JX_seq_ret ?_
  refine JX_retI Tryz.results57 (Res.tmp rfl Res.nil) ?_
  refine JL_s (w_store (l' := [_, _]) Tryz.sizeOf25) (k := ?_)
  refine JL_s (w_store (l' := [_]) Tryz.sizeOf30) (k := ?_)
  refine JL_nil ?_
  refine JX_seq ?_
  refine J_ret ?_
  refine JX_retD [rD5] (qa (qa (qa (qa (qa (qa (qa (qa (qa (qa (qa (qa q0)))))))))))) Tryz.results35 (Res.agg Tryz.isAgg25 Tryz.sizeOf25 rfl me rfl (Res.word Tryz.isAgg30 rfl me rfl Res.nil)) (fun w1 hw1 => ?_)
  exact ⟨(by rw [(((((((hF.pos hq1).neg hq2).pos hq3).neg hq4).pos hq5).neg hq6)).eq] <;> first | rfl | (simp only [List.length_set] <;> rfl)), hw1.ext_out⟩

theorem pHas_ok (w : World) {p : PortsT} {n_ : Int} : Val Tryz.prog 78 [(Value.agg [(Value.int .i64 (p.lo)), (Value.int .i64 (p.hi))].toArray), (Value.int .i64 (n_))] w (Value.bool ((pHas p n_))) := by
  have hF := Is.refl (pHas p n_)
  refine enter Tryz.func78 Tryz.ntmps78 (h := ?_)
  refine J_seq ?_
  refine J_reg ?_
  refine JL_a noMk (a_box (l := [_, _])) (k := fun r1 hr1 => ?_)
  refine JL_q (q_assign) (k := ?_)
  refine JL_nil ?_
  refine JX_seq ?_
  refine J_seq ?_
  refine J_reg ?_
  refine JL_q (q_loadA Tryz.isAgg25 Tryz.sizeOf25) (k := ?_)
  refine JL_v (args := [(Value.agg [(Value.int .i64 (p.lo)), (Value.int .i64 (p.hi))].toArray)]) (c_callA Tryz.call53) (fun w1 hw1 => pRight_ok w1 (p := p)) (k := ?_)
  refine JL_q (q_move) (k := ?_)
  refine JL_bool 7 rfl (fun hq1 => ?_) (fun hq1 => ?_)
  rotate_left
  · refine JL_skips 4 rfl ?_
    refine JL_q (q_pickF) (k := ?_)
    refine JL_q (q_move) (k := ?_)
    refine JL_skips 4 rfl ?_
    refine JL_q (q_pickF) (k := ?_)
    refine JL_q (q_assign) (k := ?_)
    refine JL_nil ?_
    refine JX_seq ?_
    refine J_ret ?_
    refine JX_ret Tryz.results78 (Res.tmp rfl Res.nil) (fun w1 hw1 => ?_)
    exact ⟨(by rw [((hF.f hq1)).eq] <;> first | rfl | (simp only [List.length_set] <;> rfl)), hw1.ext_out⟩
  have hfhq1 := pRight_t hq1
  refine JL_qg (q_move) (k := ?_)
  refine JL_qg (q_fld FO_25_0) (k := ?_)
  refine JL_qg (q_load Tryz.isAgg3) (k := ?_)
  refine JL_qg (q_geq) (k := ?_)
  refine JL_q (q_pickT) (k := ?_)
  refine JL_q (q_move) (k := ?_)
  refine JL_dec 13 rfl (fun hq2 => ?_) (fun hq2 => ?_)
  rotate_left
  · refine JL_skips 4 rfl ?_
    refine JL_q (q_pickF) (k := ?_)
    refine JL_q (q_assign) (k := ?_)
    refine JL_nil ?_
    refine JX_seq ?_
    refine J_ret ?_
    refine JX_ret Tryz.results78 (Res.tmp rfl Res.nil) (fun w1 hw1 => ?_)
    exact ⟨(by rw [(((hF.t hq1).neg hq2)).eq] <;> first | rfl | (simp only [List.length_set] <;> rfl)), hw1.ext_out⟩
  refine JL_qg (q_move) (k := ?_)
  refine JL_qg (q_fld FO_25_1) (k := ?_)
  refine JL_qg (q_load Tryz.isAgg3) (k := ?_)
  refine JL_qg (q_leq) (k := ?_)
  refine JL_q (q_pickT) (k := ?_)
  refine JL_q (q_assign) (k := ?_)
  refine JL_nil ?_
  refine JX_seq ?_
  refine J_ret ?_
  refine JX_ret Tryz.results78 (Res.tmp rfl Res.nil) (fun w1 hw1 => ?_)
  exact ⟨(by rw [(((hF.t hq1).pos hq2)).eq] <;> first | rfl | (simp only [List.length_set] <;> rfl)), hw1.ext_out⟩

theorem tPrint_ok (w : World) {ea0 : Addr} {ea1 : Addr} {ea2 : Addr} {ea3 : Addr} {ea4 : Addr} {ea5 : Addr} {t : Target} (hG : Gl w) (hE : Er w ea0 ea1 ea2 ea3 ea4 ea5) : Val Tryz.prog 65 [(Value.agg [(Value.int .i64 (t.addr)), (Value.int .i64 (t.port))].toArray)] w (Value.tuple [(Value.string (bs ((tPrint t).1))), (Value.int .i64 (((tPrint t).2)))].toArray) := by
  have hF := Is.refl (tPrint t)
  refine enter Tryz.func65 Tryz.ntmps65 (h := ?_)
  refine J_seq ?_
  refine J_reg ?_
  refine JL_a noMk (a_box (l := [_, _])) (k := fun r1 hr1 => ?_)
  refine JL_q (q_assign) (k := ?_)
  refine JL_q (q_assign) (k := ?_)
  refine JL_nil ?_
  refine JX_seq ?_
  refine J_seq ?_
  refine J_reg ?_
  refine JL_q (q_fld FO_39_0) (k := ?_)
  refine JL_q (q_load Tryz.isAgg3) (k := ?_)
  refine JL_v (args := [(Value.int .i64 (t.addr))]) (c_callA Tryz.call55) (fun w1 hw1 => aPrint_ok w1 (a := t.addr) (hG := hG.ext hw1.ext_out) (hE := hE.ext hw1.ext_out)) (k := ?_)
  have hpl_70744 := aPrint_len t.addr
  refine JL_q (q_move) (k := ?_)
  refine JL_q (q_ext) (k := ?_)
  refine JL_q (q_ext) (k := ?_)
  refine JL_q (q_assign) (k := ?_)
  refine JL_q (q_assign) (k := ?_)
  refine JL_nil ?_
  refine JX_seq ?_
  refine J_seq ?_
  refine J_seq ?_
  refine J_reg ?_
  refine JL_q (q_move) (k := ?_)
  refine JL_q (q_neq) (k := ?_)
  refine JL_q (q_move) (k := ?_)
  refine JL_dec 14 rfl (fun hq1 => ?_) (fun hq1 => ?_)
  · refine JL_skips 3 rfl ?_
    refine JL_q (q_pickT) (k := ?_)
    refine JL_q (q_move) (k := ?_)
    refine JL_skips 3 rfl ?_
    refine JL_q (q_pickT) (k := ?_)
    refine JL_nil ?_
    refine JX_seq ?_
    refine J_true rfl ?_
    refine J_seq ?_
    refine J_reg ?_
    obtain ⟨Thgl2, fhgl2, hgl2⟩ := hE.v1
    refine JL_q (q_loadB Tryz.isAgg57 hgl2) (k := ?_)
    refine JL_inl (args := [(Value.iface 242 (.pointer (some ea1)))]) (c_callA Tryz.call57) Tryz.func57 Tryz.ntmps57 ?_
    refine J_seq ?_
    refine J_reg ?_
    refine JL_q (q_assign) (k := ?_)
    refine JL_nil ?_
    refine JX_seq ?_
    refine J_seq ?_
    refine J_block ?_
    refine J_seq ?_
    refine J_reg ?_
    refine JL_q (q_move) (k := ?_)
    obtain ⟨Thgl3, fhgl3, hgl3⟩ := hE.v0
    refine JL_q (q_loadB Tryz.isAgg57 hgl3) (k := ?_)
    refine JL_v (args := [(Value.iface 242 (.pointer (some ea1))), (Value.iface 242 (.pointer (some ea0)))]) (c_callA Tryz.call54) (fun w1 hw1 => is_other_v w1 hE.n1_0 (hE.ext hw1.ext_out).b1 (hE.ext hw1.ext_out).b0) (k := ?_)
    refine JL_q (q_assign) (k := ?_)
    refine JL_nil ?_
    refine JX_seq ?_
    refine J_false rfl ?_
    refine J_seq ?_
    refine J_reg ?_
    refine JL_q (q_move) (k := ?_)
    obtain ⟨Thgl4, fhgl4, hgl4⟩ := hE.v1
    refine JL_q (q_loadB Tryz.isAgg57 hgl4) (k := ?_)
    refine JL_v (args := [(Value.iface 242 (.pointer (some ea1))), (Value.iface 242 (.pointer (some ea1)))]) (c_callA Tryz.call54) (fun w1 hw1 => is_same_v w1) (k := ?_)
    refine JL_q (q_assign) (k := ?_)
    refine JL_nil ?_
    refine JX_seq ?_
    refine J_true rfl ?_
    refine J_seq ?_
    refine J_reg ?_
    refine JL_q (q_assign) (k := ?_)
    refine JL_nil ?_
    refine JX_seq ?_
    refine J_ret ?_
    refine JX_block_ret ?_
    refine JX_seq_ret ?_
    refine JX_retI Tryz.results57 (Res.tmp rfl Res.nil) ?_
    refine JL_q (q_assign) (k := ?_)
    refine JL_q (q_assign) (k := ?_)
    refine JL_nil ?_
    refine JX_seq ?_
    refine J_ret ?_
    refine JX_seq_ret ?_
    refine JX_ret Tryz.results65 (Res.tmp rfl (Res.tmp rfl Res.nil)) (fun w1 hw1 => ?_)
    exact ⟨(by rw [((hF.pos hq1)).eq] <;> first | rfl | (simp only [List.length_set] <;> rfl)), hw1.ext_out⟩
  refine JL_qg (q_fld FO_39_1) (k := ?_)
  refine JL_qg (q_load Tryz.isAgg3) (k := ?_)
  refine JL_qg (q_lss) (k := ?_)
  refine JL_q (q_pickF) (k := ?_)
  refine JL_q (q_move) (k := ?_)
  refine JL_dec 19 rfl (fun hq5 => ?_) (fun hq5 => ?_)
  · refine JL_skips 3 rfl ?_
    refine JL_q (q_pickT) (k := ?_)
    refine JL_nil ?_
    refine JX_seq ?_
    refine J_true rfl ?_
    refine J_seq ?_
    refine J_reg ?_
    obtain ⟨Thgl6, fhgl6, hgl6⟩ := hE.v1
    refine JL_q (q_loadB Tryz.isAgg57 hgl6) (k := ?_)
    refine JL_inl (args := [(Value.iface 242 (.pointer (some ea1)))]) (c_callA Tryz.call57) Tryz.func57 Tryz.ntmps57 ?_
    refine J_seq ?_
    refine J_reg ?_
    refine JL_q (q_assign) (k := ?_)
    refine JL_nil ?_
    refine JX_seq ?_
    refine J_seq ?_
    refine J_block ?_
    refine J_seq ?_
    refine J_reg ?_
    refine JL_q (q_move) (k := ?_)
    obtain ⟨Thgl7, fhgl7, hgl7⟩ := hE.v0
    refine JL_q (q_loadB Tryz.isAgg57 hgl7) (k := ?_)
    refine JL_v (args := [(Value.iface 242 (.pointer (some ea1))), (Value.iface 242 (.pointer (some ea0)))]) (c_callA Tryz.call54) (fun w1 hw1 => is_other_v w1 hE.n1_0 (hE.ext hw1.ext_out).b1 (hE.ext hw1.ext_out).b0) (k := ?_)
    refine JL_q (q_assign) (k := ?_)
    refine JL_nil ?_
    refine JX_seq ?_
    refine J_false rfl ?_
    refine J_seq ?_
    refine J_reg ?_
    refine JL_q (q_move) (k := ?_)
    obtain ⟨Thgl8, fhgl8, hgl8⟩ := hE.v1
    refine JL_q (q_loadB Tryz.isAgg57 hgl8) (k := ?_)
    refine JL_v (args := [(Value.iface 242 (.pointer (some ea1))), (Value.iface 242 (.pointer (some ea1)))]) (c_callA Tryz.call54) (fun w1 hw1 => is_same_v w1) (k := ?_)
    refine JL_q (q_assign) (k := ?_)
    refine JL_nil ?_
    refine JX_seq ?_
    refine J_true rfl ?_
    refine J_seq ?_
    refine J_reg ?_
    refine JL_q (q_assign) (k := ?_)
    refine JL_nil ?_
    refine JX_seq ?_
    refine J_ret ?_
    refine JX_block_ret ?_
    refine JX_seq_ret ?_
    refine JX_retI Tryz.results57 (Res.tmp rfl Res.nil) ?_
    refine JL_q (q_assign) (k := ?_)
    refine JL_q (q_assign) (k := ?_)
    refine JL_nil ?_
    refine JX_seq ?_
    refine J_ret ?_
    refine JX_seq_ret ?_
    refine JX_ret Tryz.results65 (Res.tmp rfl (Res.tmp rfl Res.nil)) (fun w1 hw1 => ?_)
    exact ⟨(by rw [(((hF.neg hq1).pos hq5)).eq] <;> first | rfl | (simp only [List.length_set] <;> rfl)), hw1.ext_out⟩
  refine JL_qg (q_fld FO_39_1) (k := ?_)
  refine JL_qg (q_load Tryz.isAgg3) (k := ?_)
  refine JL_qg (q_gtr) (k := ?_)
  refine JL_q (q_pickF) (k := ?_)
  refine JL_nil ?_
  refine JX_seq ?_
  refine J_dec rfl (fun hq9 => ?_) (fun hq9 => ?_)
  rotate_left
  · refine J_skip ?_
    refine JX_seq ?_
    refine J_seq ?_
    refine J_reg ?_
    refine JL_q (q_move) (k := ?_)
    refine JL_q (q_addT (s := ((aPrint t.addr).1)) (s' := ([58] : Str)) (h := by first | exact lb)) (k := ?_)
    have hsa1 : (((aPrint t.addr).1) ++ ([58] : Str)).length = ((aPrint t.addr).1).length + 1 := by simp only [List.length_append, List.length_cons, List.length_nil, Nat.zero_add]
    refine JL_q (q_fld FO_39_1) (k := ?_)
    refine JL_q (q_load Tryz.isAgg3) (k := ?_)
    refine JL_v (args := [(Value.int .i64 (t.port))]) (c_callA Tryz.call56) (fun w1 hw1 => Itoa_ok w1 (n := t.port) (hG := hG.ext hw1.ext_out) (hn := by first | exact lb)) (k := ?_)
    have hil_45697 := itoa_len (n := t.port) (by omega)
    refine JL_q (q_addT (s := (((aPrint t.addr).1) ++ ([58] : Str))) (s' := (Lib.itoa t.port)) (h := by first | exact lb)) (k := ?_)
    have hsa2 : ((((aPrint t.addr).1) ++ ([58] : Str)) ++ (Lib.itoa t.port)).length = (((aPrint t.addr).1) ++ ([58] : Str)).length + (Lib.itoa t.port).length := by simp only [List.length_append, List.length_cons, List.length_nil, Nat.zero_add]
    refine JL_q (q_assign) (k := ?_)
    refine JL_q (q_assign) (k := ?_)
    refine JL_nil ?_
    refine JX_seq ?_
    refine J_ret ?_
    refine JX_ret Tryz.results65 (Res.tmp rfl (Res.tmp rfl Res.nil)) (fun w1 hw1 => ?_)
    exact ⟨(by rw [((((hF.neg hq1).neg hq5).neg hq9)).eq] <;> first | rfl | (simp only [List.length_set] <;> rfl)), hw1.ext_out⟩
  refine J_seq ?_
  refine J_reg ?_
  obtain ⟨Thgl10, fhgl10, hgl10⟩ := hE.v1
  refine JL_q (q_loadB Tryz.isAgg57 hgl10) (k := ?_)
  refine JL_inl (args := [(Value.iface 242 (.pointer (some ea1)))]) (c_callA Tryz.call57) Tryz.func57 Tryz.ntmps57 ?_
  refine J_seq ?_
  refine J_reg ?_
  refine JL_q (q_assign) (k := ?_)
  refine JL_nil ?_
  refine JX_seq ?_
  refine J_seq ?_
  refine J_block ?_
  refine J_seq ?_
  refine J_reg ?_
  refine JL_q (q_move) (k := ?_)
  obtain ⟨Thgl11, fhgl11, hgl11⟩ := hE.v0
  refine JL_q (q_loadB Tryz.isAgg57 hgl11) (k := ?_)
  refine JL_v (args := [(Value.iface 242 (.pointer (some ea1))), (Value.iface 242 (.pointer (some ea0)))]) (c_callA Tryz.call54) (fun w1 hw1 => is_other_v w1 hE.n1_0 (hE.ext hw1.ext_out).b1 (hE.ext hw1.ext_out).b0) (k := ?_)
  refine JL_q (q_assign) (k := ?_)
  refine JL_nil ?_
  refine JX_seq ?_
  refine J_false rfl ?_
  refine J_seq ?_
  refine J_reg ?_
  refine JL_q (q_move) (k := ?_)
  obtain ⟨Thgl12, fhgl12, hgl12⟩ := hE.v1
  refine JL_q (q_loadB Tryz.isAgg57 hgl12) (k := ?_)
  refine JL_v (args := [(Value.iface 242 (.pointer (some ea1))), (Value.iface 242 (.pointer (some ea1)))]) (c_callA Tryz.call54) (fun w1 hw1 => is_same_v w1) (k := ?_)
  refine JL_q (q_assign) (k := ?_)
  refine JL_nil ?_
  refine JX_seq ?_
  refine J_true rfl ?_
  refine J_seq ?_
  refine J_reg ?_
  refine JL_q (q_assign) (k := ?_)
  refine JL_nil ?_
  refine JX_seq ?_
  refine J_ret ?_
  refine JX_block_ret ?_
  refine JX_seq_ret ?_
  refine JX_retI Tryz.results57 (Res.tmp rfl Res.nil) ?_
  refine JL_q (q_assign) (k := ?_)
  refine JL_q (q_assign) (k := ?_)
  refine JL_nil ?_
  refine JX_seq ?_
  refine J_ret ?_
  refine JX_seq_ret ?_
  refine JX_ret Tryz.results65 (Res.tmp rfl (Res.tmp rfl Res.nil)) (fun w1 hw1 => ?_)
  exact ⟨(by rw [((((hF.neg hq1).neg hq5).pos hq9)).eq] <;> first | rfl | (simp only [List.length_set] <;> rfl)), hw1.ext_out⟩

end Go.Proofs.YtnblakihpoacjaaGreatDoor.Jd

namespace Go.Proofs.YtnblakihpoacjaaGreatDoor.Jd
open Go.Proofs
set_option maxRecDepth 100000
open Go.RowKit Go.Extern.Stop Go.Stop Go.Extern
set_option linter.unusedVariables false
set_option linter.unusedSimpArgs false
theorem as_nil (t : Value) (w : World) : Calls Tryz.prog 98 #[.nilIface, t] w fun e w' => e = .returned (.bool false) ∧ w' = w := by
  go_enter Tryz.func98, Tryz.ntmps98
  go_wp2
  go_ret
  exact ⟨rfl, rfl⟩
theorem as_nil_v (w : World) {t : Value} : Val Tryz.prog 98 [.nilIface, t] w (.bool false) :=
  (as_nil t w).mono fun e w' ⟨he, hw⟩ => ⟨he, hw ▸ Below.refl _ _⟩
theorem as_valueOfP (t : Addr) (w : World) : (ReflectliteValue.unpack (.iface 154 (.pointer (some t)))).run Tryz.prog w
    = .ok (.agg #[.pointer (some ⟨11, 154, none⟩), .pointer (some ⟨w.heap.size, 0, none⟩), .int .u64 150]) (w.alloc (.cells #[.pointer (some t)] 154)) := by kernel_rfl
theorem as_typeP (a : Addr) (w : World) : (ReflectliteValue.methodAny (ReflectliteValue.valueError "reflectlite.Value.Type" 0) (fun t _ _ _ => ReflectliteType.toType t) #[.agg #[.pointer (some ⟨11, 154, none⟩), .pointer (some a), .int .u64 150]]).run Tryz.prog w
    = .ok (.iface 175 (.agg #[.pointer (some ⟨11, 154, none⟩)])) w := by kernel_rfl
theorem as_methodKind (h : Value) (w : World) : (Go.method 373 175 (.agg #[h]) "Kind").run Tryz.prog w = .ok (171, h) w := by kernel_rfl
theorem as_kindP (w : World) : ((ReflectliteType.abiMethod fun t => (fun a : Nat => Value.int IntKind.u8 (a : Int)) <$> Rtype.kind t) #[.pointer (some ⟨11, 154, none⟩)]).run Tryz.prog w = .ok (.int .u8 22) w := by kernel_rfl
theorem as_kindW (w : World) : ((ReflectliteType.abiMethod fun t => (fun a : Nat => Value.int IntKind.u8 (a : Int)) <$> Rtype.kind t) #[.pointer (some ⟨11, 152, none⟩)]).run Tryz.prog w = .ok (.int .u8 25) w := by kernel_rfl
theorem as_rlm (z : Sem Value) (f : TypeId → Addr → Nat → Nat → Sem Value) (v : Value) :
    ReflectliteValue.method z f #[v] = (do match ← ReflectliteValue.parts v with | none => z | some (t, a, fl) => f t a fl (fl % 32)) := rfl
theorem as_partsP (a : Addr) (w : World) : (ReflectliteValue.parts (.agg #[.pointer (some ⟨11, 154, none⟩), .pointer (some a), .int .u64 150])).run Tryz.prog w = .ok (some (154, a, 150)) w := by kernel_rfl
theorem as_isNilP (a p : Addr) (W : World) (ha : W.cell? a = some (.pointer (some p))) :
    (ReflectliteValue.method (ReflectliteValue.valueError "reflectlite.Value.IsNil" 0) ReflectliteValue.isNil #[.agg #[.pointer (some ⟨11, 154, none⟩), .pointer (some a), .int .u64 150]]).run Tryz.prog W = .ok (.bool false) W := by
  rw [as_rlm]
  simp only [Sem.run_bind, as_partsP, Result.andThen]
  simp [ReflectliteValue.isNil, loadVar, isAgg, underlying, Tryz.underlying154, ha, Result.andThen]
theorem as_methodElem (h : Value) (w : World) : (Go.method 373 175 (.agg #[h]) "Elem").run Tryz.prog w = .ok (185, .agg #[h]) w := by kernel_rfl
theorem as_methodImplements (h : Value) (w : World) : (Go.method 373 175 (.agg #[h]) "Implements").run Tryz.prog w = .ok (186, .agg #[h]) w := by kernel_rfl
theorem as_methodAssignableTo (h : Value) (w : World) : (Go.method 373 175 (.agg #[h]) "AssignableTo").run Tryz.prog w = .ok (183, .agg #[h]) w := by kernel_rfl
theorem as_elemP (w : World) : (ReflectliteType.method ReflectliteType.elem #[.agg #[.pointer (some ⟨11, 154, none⟩)]]).run Tryz.prog w = .ok (.iface 175 (.agg #[.pointer (some ⟨11, 152, none⟩)])) w := by kernel_rfl
theorem as_implementsW (w : World) : (ReflectliteType.relation "Implements" ReflectliteType.implements_ #[.agg #[.pointer (some ⟨11, 152, none⟩)], .iface 175 (.agg #[.pointer (some ⟨11, 57, none⟩)])]).run Tryz.prog w = .ok (.bool true) w := by kernel_rfl
theorem as_typeOfW (v : Value) (w : World) : (ReflectliteType.typeOf #[.iface 152 v]).run Tryz.prog w = .ok (.iface 175 (.agg #[.pointer (some ⟨11, 152, none⟩)])) w := by kernel_rfl
theorem as_assignableW (w : World) : (ReflectliteType.relation "AssignableTo" ReflectliteType.assignableTo #[.agg #[.pointer (some ⟨11, 152, none⟩)], .iface 175 (.agg #[.pointer (some ⟨11, 152, none⟩)])]).run Tryz.prog w = .ok (.bool true) w := by kernel_rfl
theorem as_valueOfW (k : Int) (w : World) : (ReflectliteValue.unpack (.iface 152 (.agg #[.int .i64 k]))).run Tryz.prog w
    = .ok (.agg #[.pointer (some ⟨11, 152, none⟩), .pointer (some ⟨w.heap.size, 0, none⟩), .int .u64 153]) (w.alloc (.cells #[.int .i64 k] 152)) := by kernel_rfl
theorem as_elemOfP (w : World) : (Rtype.elem? 154).run Tryz.prog w = .ok (some 152) w := by kernel_rfl
theorem as_mkW (p : Addr) (w : World) : (ReflectliteValue.mk 152 p ReflectliteValue.flagAddr).run Tryz.prog w = .ok (.agg #[.pointer (some ⟨11, 152, none⟩), .pointer (some p), .int .u64 409]) w := by kernel_rfl
theorem as_elemVP (a p : Addr) (W : World) (ha : W.cell? a = some (.pointer (some p))) :
    (ReflectliteValue.method (ReflectliteValue.valueError "reflectlite.Value.Elem" 0) ReflectliteValue.elem #[.agg #[.pointer (some ⟨11, 154, none⟩), .pointer (some a), .int .u64 150]]).run Tryz.prog W
      = .ok (.agg #[.pointer (some ⟨11, 152, none⟩), .pointer (some p), .int .u64 409]) W := by
  rw [as_rlm]
  simp only [Sem.run_bind, as_partsP, Result.andThen]
  simp [ReflectliteValue.elem, loadVar, isAgg, underlying, Tryz.underlying154, ha, Result.andThen, as_elemOfP, as_mkW]
theorem as_rls (v x : Value) : ReflectliteValue.set #[v, x] = (do
    let (some (dst, a, fl), some (src, b, _)) := (← ReflectliteValue.parts v, ← ReflectliteValue.parts x)
      | unsupported (.noEntry "extern/(internal/reflectlite.Value).Set.zeroValue")
    if fl / ReflectliteValue.flagAddr % 2 == 0 then unsupported (.noEntry "extern/(internal/reflectlite.Value).Set.unaddressable")
    let val ← loadVar src b
    if ← Rtype.directlyAssignable dst src then storeVar dst a val
    else if ← Rtype.implements dst src then
      if (← Rtype.kind src) == 20 then
        match val with
        | .nilIface => unsupported (.noEntry "extern/reflectlite: a nil value of one interface type handed on as a value of another")
        | _ => storeVar dst a val
      else storeVar dst a (.iface src val)
    else panicString ("reflectlite.Set: value of type " ++ (← Rtype.spelt src) ++ " is not assignable to type " ++ (← Rtype.spelt dst))
    pure (.tuple #[])) := rfl
theorem as_partsA (a : Addr) (w : World) : (ReflectliteValue.parts (.agg #[.pointer (some ⟨11, 152, none⟩), .pointer (some a), .int .u64 409])).run Tryz.prog w = .ok (some (152, a, 409)) w := by kernel_rfl
theorem as_partsW (a : Addr) (w : World) : (ReflectliteValue.parts (.agg #[.pointer (some ⟨11, 152, none⟩), .pointer (some a), .int .u64 153])).run Tryz.prog w = .ok (some (152, a, 153)) w := by kernel_rfl
theorem as_directW (w : World) : (Rtype.directlyAssignable 152 152).run Tryz.prog w = .ok true w := by kernel_rfl
theorem as_sizeW (w : World) : (sizeOf 152).run Tryz.prog w = .ok 1 w := by kernel_rfl
theorem as_aggW (w : World) : (isAgg 152).run Tryz.prog w = .ok true w := by kernel_rfl
theorem as_setW (ta b : Addr) (k : Int) (old : Value) (W : World) (hb : W.cell? b = some (.int .i64 k)) (hsb : b.spot = none) (ht : W.cell? ta = some old) (hst : ta.spot = none) (hf : W.frozen? ta = false) :
    (ReflectliteValue.set #[.agg #[.pointer (some ⟨11, 152, none⟩), .pointer (some ta), .int .u64 409], .agg #[.pointer (some ⟨11, 152, none⟩), .pointer (some b), .int .u64 153]]).run Tryz.prog W
      = .ok (.tuple #[]) (W.setCell ta (.int .i64 k)) := by
  have hl : (loadCells b 1).run Tryz.prog W = .ok #[.int .i64 k] W := run_loadCells_list (P := Tryz.prog) W b [.int .i64 k] (fun j v hj => by
    rcases j with _ | j
    · cases hj
      simpa [Addr.add] using hb
    · simp at hj)
  rw [as_rls]
  simp only [Sem.run_bind, as_partsA, as_partsW, Result.andThen]
  simp [ReflectliteValue.flagAddr, loadVar, as_aggW, as_sizeW, hl, Result.andThen, as_directW, storeVar, Value.cells, storeCells, Addr.add]
  rw [run_store Tryz.prog W ta _ _ (by rfl)]
  simp [ht, hf]
set_option maxHeartbeats 4000000 in
theorem as_hit (k : Int) (t : Addr) (old : Value) (w : World) (hg : w.cell? ⟨6, 0, none⟩ = some (.iface 175 (.agg #[.pointer (some ⟨11, 57, none⟩)]))) (ht0 : w.cell? t = some old) (hst : t.spot = none) (hf0 : w.frozen? t = false) :
    Calls Tryz.prog 98 #[.iface 152 (.agg #[.int .i64 k]), .iface 154 (.pointer (some t))] w fun ev w' => ev = .returned (.bool true) ∧ w' = ((((w.alloc (.cells #[.pointer (some t)] 154)).alloc (.cells #[.pointer (some ⟨11, 154, none⟩), .pointer (some ⟨w.heap.size, 0, none⟩), .int .u64 150] 198)).alloc (.cells #[.pointer (some ⟨11, 154, none⟩), .pointer (some ⟨w.heap.size, 0, none⟩), .int .u64 150] 198)).alloc (.cells #[.int .i64 k] 152)).setCell t (.int .i64 k) := by
  have h6 := @run_callFunc_extern Tryz.prog 120 _ (fun args => ReflectliteValue.unpack (args.getD 0 (.tuple #[]))) Tryz.func120 (by kernel_rfl) (by kernel_rfl) (by kernel_rfl) (by kernel_rfl)
  have h7 := @run_callFunc_extern Tryz.prog 121 _ (ReflectliteValue.methodAny (ReflectliteValue.valueError "reflectlite.Value.Type" 0) (fun t _ _ _ => ReflectliteType.toType t)) Tryz.func121 (by kernel_rfl) (by kernel_rfl) (by kernel_rfl) (by kernel_rfl)
  have h8 := @run_callFunc_extern Tryz.prog 122 _ (ReflectliteValue.method (ReflectliteValue.valueError "reflectlite.Value.IsNil" 0) ReflectliteValue.isNil) Tryz.func122 (by kernel_rfl) (by kernel_rfl) (by kernel_rfl) (by kernel_rfl)
  have h27 := @run_callFunc_extern Tryz.prog 171 _ (ReflectliteType.abiMethod fun t => do pure (.int .u8 (← Rtype.kind t))) Tryz.func171 (by kernel_rfl) (by kernel_rfl) (by kernel_rfl) (by kernel_rfl)
  have h37 := @run_callFunc_extern Tryz.prog 185 _ (ReflectliteType.method ReflectliteType.elem) Tryz.func185 (by kernel_rfl) (by kernel_rfl) (by kernel_rfl) (by kernel_rfl)
  have h38 := @run_callFunc_extern Tryz.prog 186 _ (ReflectliteType.relation "Implements" ReflectliteType.implements_) Tryz.func186 (by kernel_rfl) (by kernel_rfl) (by kernel_rfl) (by kernel_rfl)
  have h10 := @run_callFunc_extern Tryz.prog 88 _ ReflectliteType.typeOf Tryz.func88 (by kernel_rfl) (by kernel_rfl) (by kernel_rfl) (by kernel_rfl)
  have h35 := @run_callFunc_extern Tryz.prog 183 _ (ReflectliteType.relation "AssignableTo" ReflectliteType.assignableTo) Tryz.func183 (by kernel_rfl) (by kernel_rfl) (by kernel_rfl) (by kernel_rfl)
  have h11 := @run_callFunc_extern Tryz.prog 138 _ (ReflectliteValue.method (ReflectliteValue.valueError "reflectlite.Value.Elem" 0) ReflectliteValue.elem) Tryz.func138 (by kernel_rfl) (by kernel_rfl) (by kernel_rfl) (by kernel_rfl)
  have h12 := @run_callFunc_extern Tryz.prog 139 _ ReflectliteValue.set Tryz.func139 (by kernel_rfl) (by kernel_rfl) (by kernel_rfl) (by kernel_rfl)
  have tO := as_typeOfW
  have mA := as_methodAssignableTo
  have a25 := as_assignableW
  have v25 := as_valueOfW
  have f6 := as_valueOfP
  have f7 := as_typeP
  have mK := as_methodKind
  have mE := as_methodElem
  have mI := as_methodImplements
  have k27 := as_kindP
  have k25 := as_kindW
  have e27 := as_elemP
  have i25 := as_implementsW
  have n8 := as_isNilP ⟨w.heap.size, 0, none⟩ t ((w.alloc (.cells #[.pointer (some t)] 154)).alloc (.cells #[.pointer (some ⟨11, 154, none⟩), .pointer (some ⟨w.heap.size, 0, none⟩), .int .u64 150] 198)) (by simp)
  have hlt : 6 < w.heap.size := by
    rcases Nat.lt_or_ge 6 w.heap.size with h | h
    · exact h
    · simp [World.cell?, Array.getElem?_eq_none h] at hg
  have hg2 : ((w.alloc (.cells #[.pointer (some t)] 154)).alloc (.cells #[.pointer (some ⟨11, 154, none⟩), .pointer (some ⟨w.heap.size, 0, none⟩), .int .u64 150] 198)).cell? ⟨6, 0, none⟩ = some (.iface 175 (.agg #[.pointer (some ⟨11, 57, none⟩)])) := by
    rw [World.cell?_alloc_lt _ _ ⟨6, 0, none⟩ (by simp; omega), World.cell?_alloc_lt _ _ ⟨6, 0, none⟩ hlt]; exact hg
  have htl : t.block < w.heap.size := by
    rcases Nat.lt_or_ge t.block w.heap.size with h | h
    · exact h
    · simp [World.cell?, Array.getElem?_eq_none h] at ht0
  have el := as_elemVP ⟨w.heap.size, 0, none⟩ t (((w.alloc (.cells #[.pointer (some t)] 154)).alloc (.cells #[.pointer (some ⟨11, 154, none⟩), .pointer (some ⟨w.heap.size, 0, none⟩), .int .u64 150] 198)).alloc (.cells #[.pointer (some ⟨11, 154, none⟩), .pointer (some ⟨w.heap.size, 0, none⟩), .int .u64 150] 198)) (by rw [World.cell?_alloc_lt _ _ ⟨w.heap.size, 0, none⟩ (by simp; omega)]; simp)
  have st := as_setW t ⟨w.heap.size + 1 + 1 + 1, 0, none⟩ k old ((((w.alloc (.cells #[.pointer (some t)] 154)).alloc (.cells #[.pointer (some ⟨11, 154, none⟩), .pointer (some ⟨w.heap.size, 0, none⟩), .int .u64 150] 198)).alloc (.cells #[.pointer (some ⟨11, 154, none⟩), .pointer (some ⟨w.heap.size, 0, none⟩), .int .u64 150] 198)).alloc (.cells #[.int .i64 k] 152))
    (by rw [World.cell?_alloc_at _ _ _ _ (by simp)]; rfl) rfl
    (by rw [World.cell?_alloc_lt _ _ t (by simp; omega), World.cell?_alloc_lt _ _ t (by simp; omega), World.cell?_alloc_lt _ _ t (by simp; omega), World.cell?_alloc_lt _ _ t htl]; exact ht0) hst
    (by rw [World.frozen?_alloc_old _ _ t (by simp; omega), World.frozen?_alloc_old _ _ t (by simp; omega), World.frozen?_alloc_old _ _ t (by simp; omega), World.frozen?_alloc_old _ _ t (Nat.ne_of_lt htl)]; exact hf0)
  go_enter Tryz.func98, Tryz.ntmps98
  go_wp2
  refine wp_loop_rounds 1 ?_
  rw [rounds_succ]
  go_wp2
  go_ret
  exact ⟨rfl, rfl⟩
theorem as_hit_t (w : World) {k : Int} {r : Nat} {old : Value} {T : TypeId} (hg : w.cell? ⟨6, 0, none⟩ = some (.iface 175 (.agg #[.pointer (some ⟨11, 57, none⟩)]))) (hr : w.heap[r]? = some (.cells [old].toArray T)) :
    Calls Tryz.prog 98 [.iface 152 (.agg [.int .i64 k].toArray), .iface 154 (.pointer (some ⟨r, 0, none⟩))].toArray w fun e w' => e = .returned (.bool true) ∧ Tr w w' [(r, .cells [old].toArray T)] [(r, .cells [Value.int .i64 k].toArray T)] := by
  have hlt := (Array.getElem?_eq_some_iff.1 hr).1
  refine (as_hit k ⟨r, 0, none⟩ old w hg (by simp [World.cell?, hr]) rfl (by simp [World.frozen?, hr])).mono ?_
  rintro e w' ⟨rfl, rfl⟩
  have hx : ∀ (o1 o2 o3 o4 : Obj) (j : Nat), j < w.heap.size → ((((w.alloc o1).alloc o2).alloc o3).alloc o4).heap[j]? = w.heap[j]? := fun o1 o2 o3 o4 j hj => by
    rw [Below.heap_alloc _ _ j (by simp; omega), Below.heap_alloc _ _ j (by simp; omega), Below.heap_alloc _ _ j (by simp; omega), Below.heap_alloc _ _ j hj]
  refine ⟨rfl, rfl, rfl, rfl, ?_, fun j hj hk => ?_, fun p hp => ?_, fun p hp => .inl ?_, by simp [keys]⟩
  · simp [World.setCell]; omega
  · rw [Below.heap_setCell _ _ _ j (fun e => hk (by subst e; simp [keys]))]
    exact hx _ _ _ _ j hj
  · have : p = (r, .cells [Value.int .i64 k].toArray T) := by simpa using hp
    subst this
    have h0 := hx (.cells #[.pointer (some ⟨r, 0, none⟩)] 154) (.cells #[.pointer (some ⟨11, 154, none⟩), .pointer (some ⟨w.heap.size, 0, none⟩), .int .u64 150] 198) (.cells #[.pointer (some ⟨11, 154, none⟩), .pointer (some ⟨w.heap.size, 0, none⟩), .int .u64 150] 198) (.cells #[.int .i64 k] 152) r hlt
    rw [hr] at h0
    simp only [World.setCell, Array.getElem?_modify, if_true]
    rw [h0]
    simp
  · have : p = (r, .cells [Value.int .i64 k].toArray T) := by simpa using hp
    subst this
    simp [keys]
end Go.Proofs.YtnblakihpoacjaaGreatDoor.Jd

namespace Go.Proofs.YtnblakihpoacjaaGreatDoor.Jd
open Go.Proofs
open Go.RowKit (Below)
set_option maxRecDepth 100000
set_option maxHeartbeats 8000000
set_option linter.unusedVariables false
set_option linter.unusedSimpArgs false
def stV (q r bx : Nat) : Value := match q with
  | 0 => .func (.func 94) #[.pointer (some ⟨r, 0, none⟩)] #[]
  | 1 => .func (.func 118) #[.pointer (some ⟨r, 0, none⟩)] #[]
  | 2 => .func (.func 117) #[.pointer (some ⟨r, 0, none⟩)] #[]
  | 3 => .func (.func 151) #[] #[.pointer (some ⟨bx, 0, none⟩)]
  | _ => .func (.func 152) #[] #[.pointer (some ⟨bx, 0, none⟩)]
def stB (q r bx : Nat) : Heap := match q with
  | 0 => []
  | 1 => []
  | 2 => []
  | 3 => [(bx, .cells [Value.pointer (some ⟨r, 0, none⟩)].toArray 135)]
  | _ => [(bx, .cells [Value.pointer (some ⟨r, 0, none⟩)].toArray 135)]
theorem FO_138_0 : FieldOff Tryz.prog 138 0 0 := fun r k w => by simp [Instr.fieldAt, Instr.sureAddr, fieldPlace, addr_add]
theorem FO_138_1 : FieldOff Tryz.prog 138 1 1 := fun r k w => by simp [Instr.fieldAt, Instr.sureAddr, fieldPlace, addr_add]
theorem FO_140_0 : FieldOff Tryz.prog 140 0 0 := fun r k w => by simp [Instr.fieldAt, Instr.sureAddr, fieldPlace, addr_add]
theorem FO_145_0 : FieldOff Tryz.prog 145 0 0 := fun r k w => by simp [Instr.fieldAt, Instr.sureAddr, fieldPlace, addr_add]
theorem FO_145_1 : FieldOff Tryz.prog 145 1 1 := fun r k w => by simp [Instr.fieldAt, Instr.sureAddr, fieldPlace, addr_add]
theorem FO_152_0 : FieldOff Tryz.prog 152 0 0 := fun r k w => by simp [Instr.fieldAt, Instr.sureAddr, fieldPlace, addr_add]
theorem PL_140 : Places Tryz.prog 140 [(0, 2)] := ⟨_, fun w => Tryz.runUnderlying140 w, fun w => by simp⟩
theorem PL_145 : Places Tryz.prog 145 [(0, 1), (1, 1)] := ⟨_, fun w => Tryz.runUnderlying145 w, fun w => by simp⟩
theorem PL_152 : Places Tryz.prog 152 [(0, 1)] := ⟨_, fun w => Tryz.runUnderlying152 w, fun w => by simp⟩
theorem TY_5 : Ty Tryz.prog 5 1 1 (Value.int .u8 (0)) := ⟨⟨Tryz.t5, by kernel_rfl, rfl, rfl, rfl⟩, rfl⟩
theorem wIsPlain_ok (w : World) {s : Str} : Val Tryz.prog 96 [(Value.string (bs s))] w (Value.bool ((wIsPlain s))) := by
  have hF := Is.refl (wIsPlain s)
  refine enter Tryz.func96 Tryz.ntmps96 (h := ?_)
  refine J_seq ?_
  refine J_reg ?_
  refine JL_q (q_assign) (k := ?_)
  refine JL_nil ?_
  refine JX_seq ?_
  refine J_seq ?_
  refine J_seq ?_
  refine J_reg ?_
  refine JL_q (q_move) (k := ?_)
  refine JL_a noMk (a_rangeT Tryz.runUnderlying9) (k := fun r1 hr1 => ?_)
  refine JL_nil ?_
  refine JX_seq ?_
  refine J_block ?_
  refine J_loop2 (σ1 := Nat) (σ2 := Nat) (fun n_2 x_1 => ((r1, Obj.stringIter (bs s) x_1) :: [])) (fun n_2 x_1 => [(2, (Value.bool (false))), (6, (Value.pointer (some ⟨r1, 0, none⟩)))]) (fun n_2 x_1 => s.length - x_1 < n_2 ∧ Is (wIsPlain_l0 s (s.length + 1) 0) (wIsPlain_l0 s n_2 x_1)) (fun n_2 x_1 => n_2) (s.length + 1) 0 ?_ se (List.Perm.refl _) ?_
  · exact ⟨Nat.lt_succ_self _, Is.refl _⟩
  · rintro (_ | n_2) x_1 ⟨hm4, hF3⟩
    · omega
    refine J_seq ?_
    refine J_reg ?_
    refine JL_next q0 (fun hq1 => ?_) (fun hq1 => ?_)
    rotate_left
    · refine JL_q (q_ext) (k := ?_)
      refine JL_nil ?_
      refine JX_seq ?_
      refine J_seq ?_
      refine J_false rfl ?_
      refine J_exit ?_
      refine JX_seq_exit ?_
      refine JX_inv_exit ?_
      refine JX_block_hit ?_
      refine JX_seq ?_
      refine J_seq ?_
      refine J_reg ?_
      refine JL_q (q_assign) (k := ?_)
      refine JL_nil ?_
      refine JX_seq ?_
      refine J_ret ?_
      refine JX_ret Tryz.results96 (Res.tmp rfl Res.nil) (fun w1 hw1 => ?_)
      exact ⟨(by rw [((hF.ok1 (hF3.neg hq1))).eq] <;> first | rfl | (simp only [List.length_set] <;> rfl)), hw1.ext_out⟩
    have hrhq1 := dec_bd s x_1
    have hphq1 := dec_pos s x_1
    refine JL_q (q_ext) (k := ?_)
    refine JL_nil ?_
    refine JX_seq ?_
    refine J_seq ?_
    refine J_true rfl ?_
    refine J_skip ?_
    refine JX_seq ?_
    refine J_block ?_
    refine J_seq ?_
    refine J_reg ?_
    refine JL_q (q_ext) (k := ?_)
    refine JL_q (q_assign) (k := ?_)
    refine JL_nil ?_
    refine JX_seq ?_
    refine J_seq ?_
    refine J_reg ?_
    refine JL_q (q_move) (k := ?_)
    refine JL_q (q_lss) (k := ?_)
    refine JL_q (q_move) (k := ?_)
    refine JL_dec 12 rfl (fun hq2 => ?_) (fun hq2 => ?_)
    · refine JL_skips 2 rfl ?_
      refine JL_q (q_pickT) (k := ?_)
      refine JL_nil ?_
      refine JX_seq ?_
      refine J_true rfl ?_
      refine J_seq ?_
      refine J_reg ?_
      refine JL_q (q_assign) (k := ?_)
      refine JL_nil ?_
      refine JX_seq ?_
      refine J_ret ?_
      refine JX_block_ret ?_
      refine JX_inv_ret ?_
      refine JX_block_ret ?_
      refine JX_seq_ret ?_
      refine JX_ret Tryz.results96 (Res.tmp rfl Res.nil) (fun w1 hw1 => ?_)
      exact ⟨(by rw [((hF.er1 ((hF3.pos hq1).pos hq2))).eq] <;> first | rfl | (simp only [List.length_set] <;> rfl)), hw1.ext_out⟩
    refine JL_qg (q_move) (k := ?_)
    refine JL_qg (q_gtr) (k := ?_)
    refine JL_q (q_pickF) (k := ?_)
    refine JL_nil ?_
    refine JX_seq ?_
    refine J_dec rfl (fun hq3 => ?_) (fun hq3 => ?_)
    rotate_left
    · refine J_skip ?_
      refine JX_block ?_
      exact JX_inv2 n_2 (x_1 + (dec s x_1).2) ⟨by omega, (((hF3.pos hq1).neg hq2).neg hq3)⟩ (Nat.lt_succ_self _) se (List.Perm.refl _)
    refine J_seq ?_
    refine J_reg ?_
    refine JL_q (q_assign) (k := ?_)
    refine JL_nil ?_
    refine JX_seq ?_
    refine J_ret ?_
    refine JX_block_ret ?_
    refine JX_inv_ret ?_
    refine JX_block_ret ?_
    refine JX_seq_ret ?_
    refine JX_ret Tryz.results96 (Res.tmp rfl Res.nil) (fun w1 hw1 => ?_)
    exact ⟨(by rw [((hF.er1 (((hF3.pos hq1).neg hq2).pos hq3))).eq] <;> first | rfl | (simp only [List.length_set] <;> rfl)), hw1.ext_out⟩

end Go.Proofs.YtnblakihpoacjaaGreatDoor.Jd

