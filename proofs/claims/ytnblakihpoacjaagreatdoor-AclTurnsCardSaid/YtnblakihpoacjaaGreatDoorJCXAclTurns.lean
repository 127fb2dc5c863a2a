/- Part of the proofs of this seat: walks and plain facts. No condition. -/
import Derived.Test.YtnblakihpoacjaaGreatDoorProg
import Derived.Test.YtnblakihpoacjaaGreatDoorP6
namespace Go.Proofs.YtnblakihpoacjaaGreatDoor.Jd
open Go.Proofs
open Go.RowKit (Below)
set_option maxRecDepth 100000
set_option maxHeartbeats 8000000
set_option linter.unusedVariables false
set_option linter.unusedSimpArgs false
theorem lAclTurns_ok (w : World) {l_a : Option Addr} {l_c : Nat} {ea0 : Addr} {ea1 : Addr} {ea2 : Addr} {ea3 : Addr} {ea4 : Addr} {ea5 : Addr} {l : List Rule} {at_ : Int} {r : Rule} (h_l : Sl w eRule 5 l_a l) (k_l : l.length ≤ l_c) (hG : Gl w) (hE : Er w ea0 ea1 ea2 ea3 ea4 ea5) : Val Tryz.prog 10 [(Value.slice (l_a) (l.length) (l_c)), (Value.int .i64 (at_)), (Value.agg [(Value.bool (r.allow)), (Value.int .i64 (r.pfx.addr)), (Value.int .i64 (r.pfx.bits)), (Value.int .i64 (r.prt.lo)), (Value.int .i64 (r.prt.hi))].toArray)] w (Value.bool ((lAclTurns l at_ r))) := by
  have hF := Is.refl (lAclTurns l at_ r)
  refine enter Tryz.func10 Tryz.ntmps10 (h := ?_)
  refine J_seq ?_
  refine J_reg ?_
  refine JL_a noMk (a_box (l := [_, _, _, _, _])) (k := fun r1 hr1 => ?_)
  refine JL_q (q_assign) (k := ?_)
  refine JL_nil ?_
  refine JX_seq ?_
  refine J_seq ?_
  refine J_reg ?_
  refine JL_v (args := []) (c_callA Tryz.call11) (fun w1 hw1 => lShown8_ok w1 (hG := hG.ext hw1.ext_out) (hE := hE.ext hw1.ext_out)) (k := ?_)
  refine JL_q (q_assign) (k := ?_)
  refine JL_nil ?_
  refine JX_seq ?_
  refine J_seq ?_
  refine J_reg ?_
  refine JL_q (q_move) (k := ?_)
  refine JL_p (args := [(Value.slice (l_a) (l.length) (l_c))]) (c_callA Tryz.call16) (fun w1 hw1 => lFew8_ok w1 (l := l) (h_l := (SlJ.of_base h_l) w1 hw1) (k_l := by first | exact lb | decide)) (k := ?_)
  rintro w1_1 e1_1 w2_1 hw1_1 ⟨a1_1, c1_1, B1_1, he_1, hf_1, ho1_1, hl1_1⟩
  refine ⟨_, (B1_1 ++ ((r1, Obj.cells [(Value.bool (r.allow)), (Value.int .i64 (r.pfx.addr)), (Value.int .i64 (r.pfx.bits)), (Value.int .i64 (r.prt.lo)), (Value.int .i64 (r.prt.hi))].toArray 27) :: [])), he_1, hw1_1.fresh hf_1, ?_⟩
  refine JL_q (q_assign) (k := ?_)
  refine JL_nil ?_
  refine JX_seq ?_
  refine J_seq ?_
  refine J_reg ?_
  refine JL_q (q_move) (k := ?_)
  refine JL_q (q_move) (k := ?_)
  refine JL_q (q_loadA Tryz.isAgg27 Tryz.sizeOf27) (k := ?_)
  refine JL_p (args := [(Value.slice (a1_1) ((lFew8 l).length) (c1_1)), (Value.int .i64 (at_)), (Value.agg [(Value.bool (r.allow)), (Value.int .i64 (r.pfx.addr)), (Value.int .i64 (r.pfx.bits)), (Value.int .i64 (r.prt.lo)), (Value.int .i64 (r.prt.hi))].toArray)]) (c_callA Tryz.call18) (fun w1 hw1 => aclInsert_ok w1 (l := (lFew8 l)) (at_ := at_) (r := r) (h_l := (ho1_1.slj eRule_ok) w1 hw1) (n_l := by first | exact lb | decide) (hG := hG.ext hw1.ext_out) (hE := hE.ext hw1.ext_out)) (k := ?_)
  rintro w1_2 e1_2 w2_2 hw1_2 ⟨a1_2, c1_2, B1_2, he_2, hf_2, ho1_2, hl1_2⟩
  refine ⟨_, (B1_2 ++ (B1_1 ++ ((r1, Obj.cells [(Value.bool (r.allow)), (Value.int .i64 (r.pfx.addr)), (Value.int .i64 (r.pfx.bits)), (Value.int .i64 (r.prt.lo)), (Value.int .i64 (r.prt.hi))].toArray 27) :: []))), he_2, hw1_2.fresh hf_2, ?_⟩
  refine JL_q (q_move) (k := ?_)
  refine JL_q (q_ext) (k := ?_)
  refine JL_q (q_ext) (k := ?_)
  refine JL_q (q_assign) (k := ?_)
  refine JL_q (q_assign) (k := ?_)
  refine JL_nil ?_
  refine JX_seq ?_
  refine J_seq ?_
  refine J_seq ?_
  refine J_reg ?_
  refine JL_q (q_move) (k := ?_)
  refine JL_q (q_neq) (k := ?_)
  refine JL_nil ?_
  refine JX_seq ?_
  refine J_dec rfl (fun hq1 => ?_) (fun hq1 => ?_)
  · refine J_seq ?_
    refine J_reg ?_
    refine JL_q (q_move) (k := ?_)
    refine JL_q (q_move) (k := ?_)
    refine JL_bool 25 rfl (fun hq2 => ?_) (fun hq2 => ?_)
    rotate_left
    · refine JL_skips 3 rfl ?_
      refine JL_q (q_pickF) (k := ?_)
      refine JL_q (q_assign) (k := ?_)
      refine JL_nil ?_
      refine JX_seq ?_
      refine J_ret ?_
      refine JX_seq_ret ?_
      refine JX_ret Tryz.results10 (Res.tmp rfl Res.nil) (fun w1 hw1 => ?_)
      exact ⟨(by rw [(((hF.pos hq1).f hq2)).eq] <;> first | rfl | (simp only [List.length_set] <;> rfl)), hw1.ext_out⟩
    refine JL_qg (q_move) (k := ?_)
    refine JL_qg (q_lenS Tryz.runUnderlying36) (k := ?_)
    refine JL_qg (q_eql) (k := ?_)
    refine JL_q (q_pickT) (k := ?_)
    refine JL_q (q_assign) (k := ?_)
    refine JL_nil ?_
    refine JX_seq ?_
    refine J_ret ?_
    refine JX_seq_ret ?_
    refine JX_ret Tryz.results10 (Res.tmp rfl Res.nil) (fun w1 hw1 => ?_)
    exact ⟨(by rw [(((hF.pos hq1).t hq2)).eq] <;> first | rfl | (simp only [List.length_set] <;> rfl)), hw1.ext_out⟩
  refine J_skip ?_
  refine JX_seq ?_
  refine J_seq ?_
  refine J_seq ?_
  refine J_plan mixed 24 [(true, 0), (true, 1), (true, 2), (true, 3), (true, 4), (true, 5), (true, 6), (true, 7), (true, 8), (true, 9), (true, 10), (true, 11), (true, 12), (true, 13), (true, 14), (true, 15), (true, 16), (true, 17), (true, 18), (true, 19), (true, 20), (true, 21), (true, 22), (true, 23)] (by kernel_rfl) ?_
  refine JD_q (q_move) (k := ?_)
  refine JD_q (q_lss) (k := ?_)
  refine JD_q (q_move) (k := ?_)
  refine JD_dec 32 rfl (fun hq3 => ?_) (fun hq3 => ?_)
  · refine JD_skips 4 rfl ?_
    refine JD_q (q_pickT) (k := ?_)
    refine JD_q (q_move) (k := ?_)
    refine JD_skips 6 rfl ?_
    refine JD_q (q_pickT) (k := ?_)
    refine JD_q (q_move) (k := ?_)
    refine JD_skips 6 rfl ?_
    refine JD_q (q_pickT) (k := ?_)
    refine JD_nil0 ?_
    refine JL_nil ?_
    refine JX_seq ?_
    refine J_true rfl ?_
    refine J_seq ?_
    refine J_reg ?_
    refine JL_q (q_assign) (k := ?_)
    refine JL_nil ?_
    refine JX_seq ?_
    refine J_ret ?_
    refine JX_seq_ret ?_
    refine JX_ret Tryz.results10 (Res.tmp rfl Res.nil) (fun w1 hw1 => ?_)
    exact ⟨(by rw [(((hF.neg hq1).pos hq3)).eq] <;> first | rfl | (simp only [List.length_set] <;> rfl)), hw1.ext_out⟩
  refine JD_qg (q_move) (k := ?_)
  refine JD_qg (q_move) (k := ?_)
  refine JD_qg (q_lenS Tryz.runUnderlying36) (k := ?_)
  refine JD_qg (q_geq) (k := ?_)
  refine JD_q (q_pickF) (k := ?_)
  refine JD_q (q_move) (k := ?_)
  refine JD_dec 38 rfl (fun hq4 => ?_) (fun hq4 => ?_)
  · refine JD_skips 6 rfl ?_
    refine JD_q (q_pickT) (k := ?_)
    refine JD_q (q_move) (k := ?_)
    refine JD_skips 6 rfl ?_
    refine JD_q (q_pickT) (k := ?_)
    refine JD_nil0 ?_
    refine JL_nil ?_
    refine JX_seq ?_
    refine J_true rfl ?_
    refine J_seq ?_
    refine J_reg ?_
    refine JL_q (q_assign) (k := ?_)
    refine JL_nil ?_
    refine JX_seq ?_
    refine J_ret ?_
    refine JX_seq_ret ?_
    refine JX_ret Tryz.results10 (Res.tmp rfl Res.nil) (fun w1 hw1 => ?_)
    exact ⟨(by rw [((((hF.neg hq1).neg hq3).pos hq4)).eq] <;> first | rfl | (simp only [List.length_set] <;> rfl)), hw1.ext_out⟩
  refine JD_qg (q_move) (k := ?_)
  refine JD_qg (q_move) (k := ?_)
  refine JD_qg (q_idx (n := (aclInsert (lFew8 l) at_ r).1.length) Tryz.runUnderlying36 Tryz.sizeOf27 ((at_).toNat) (ho1_2.slj eRule_ok) (gD (by first | exact ix)) (by first | rfl | simp)) (k := ?_)
  refine JD_qg (q_loadEA Tryz.isAgg27 Tryz.sizeOf27 ((at_).toNat) (ho1_2.slj eRule_ok) (gD (by first | exact ix))) (k := ?_)
  refine JD_qg (q_loadA Tryz.isAgg27 Tryz.sizeOf27) (k := ?_)
  refine JD_qg (q_neS (NE_27 _ _ _ _ _ _ _ _ _ _ _ _)) (k := ?_)
  refine JD_q (q_pickF) (k := ?_)
  refine JD_q (q_move) (k := ?_)
  refine JD_dec 46 rfl (fun hq5 => ?_) (fun hq5 => ?_)
  · refine JD_skips 6 rfl ?_
    refine JD_q (q_pickT) (k := ?_)
    refine JD_nil0 ?_
    refine JL_nil ?_
    refine JX_seq ?_
    refine J_true rfl ?_
    refine J_seq ?_
    refine J_reg ?_
    refine JL_q (q_assign) (k := ?_)
    refine JL_nil ?_
    refine JX_seq ?_
    refine J_ret ?_
    refine JX_seq_ret ?_
    refine JX_ret Tryz.results10 (Res.tmp rfl Res.nil) (fun w1 hw1 => ?_)
    exact ⟨(by rw [(((((hF.neg hq1).neg hq3).neg hq4).pos hq5)).eq] <;> first | rfl | (simp only [List.length_set] <;> rfl)), hw1.ext_out⟩
  refine JD_qg (q_move) (k := ?_)
  refine JD_qg (q_lenS Tryz.runUnderlying36) (k := ?_)
  refine JD_qg (q_move) (k := ?_)
  refine JD_qg (q_lenS Tryz.runUnderlying36) (k := ?_)
  refine JD_qg (q_add) (k := ?_)
  refine JD_qg (q_neq) (k := ?_)
  refine JD_q (q_pickF) (k := ?_)
  refine JD_nil0 ?_
  refine JL_nil ?_
  refine JX_seq ?_
  refine J_dec rfl (fun hq6 => ?_) (fun hq6 => ?_)
  · refine J_seq ?_
    refine J_reg ?_
    refine JL_q (q_assign) (k := ?_)
    refine JL_nil ?_
    refine JX_seq ?_
    refine J_ret ?_
    refine JX_seq_ret ?_
    refine JX_ret Tryz.results10 (Res.tmp rfl Res.nil) (fun w1 hw1 => ?_)
    exact ⟨(by rw [((((((hF.neg hq1).neg hq3).neg hq4).neg hq5).pos hq6)).eq] <;> first | rfl | (simp only [List.length_set] <;> rfl)), hw1.ext_out⟩
  refine J_skip ?_
  refine JX_seq ?_
  refine J_seq ?_
  refine J_reg ?_
  refine JL_q (q_move) (k := ?_)
  refine JL_q (q_move) (k := ?_)
  refine JL_p (args := [(Value.slice (a1_2) ((aclInsert (lFew8 l) at_ r).1.length) (c1_2)), (Value.int .i64 (at_))]) (c_callA Tryz.call26) (fun w1 hw1 => aclRemove_ok w1 (l := ((aclInsert (lFew8 l) at_ r).1)) (at_ := at_) (h_l := (ho1_2.slj eRule_ok) w1 hw1) (n_l := by first | exact lb | decide) (hG := hG.ext hw1.ext_out) (hE := hE.ext hw1.ext_out)) (k := ?_)
  rintro w1_3 e1_3 w2_3 hw1_3 ⟨a1_3, c1_3, B1_3, he_3, hf_3, ho1_3, hl1_3⟩
  refine ⟨_, (B1_3 ++ (B1_2 ++ (B1_1 ++ ((r1, Obj.cells [(Value.bool (r.allow)), (Value.int .i64 (r.pfx.addr)), (Value.int .i64 (r.pfx.bits)), (Value.int .i64 (r.prt.lo)), (Value.int .i64 (r.prt.hi))].toArray 27) :: [])))), he_3, hw1_3.fresh hf_3, ?_⟩
  refine JL_q (q_move) (k := ?_)
  refine JL_q (q_ext) (k := ?_)
  refine JL_q (q_ext) (k := ?_)
  refine JL_q (q_assign) (k := ?_)
  refine JL_q (q_assign) (k := ?_)
  refine JL_nil ?_
  refine JX_seq ?_
  refine J_seq ?_
  refine J_reg ?_
  refine JL_q (q_move) (k := ?_)
  refine JL_q (q_move) (k := ?_)
  refine JL_bool 61 rfl (fun hq7 => ?_) (fun hq7 => ?_)
  rotate_left
  · refine JL_skips 2 rfl ?_
    refine JL_q (q_pickF) (k := ?_)
    refine JL_q (q_move) (k := ?_)
    refine JL_skips 3 rfl ?_
    refine JL_q (q_pickF) (k := ?_)
    refine JL_q (q_move) (k := ?_)
    refine JL_skips 2 rfl ?_
    refine JL_q (q_pickF) (k := ?_)
    refine JL_q (q_assign) (k := ?_)
    refine JL_nil ?_
    refine JX_seq ?_
    refine J_ret ?_
    refine JX_ret Tryz.results10 (Res.tmp rfl Res.nil) (fun w1 hw1 => ?_)
    exact ⟨(by rw [(((((((hF.neg hq1).neg hq3).neg hq4).neg hq5).neg hq6).f hq7)).eq] <;> first | rfl | (simp only [List.length_set] <;> rfl)), hw1.ext_out⟩
  refine JL_qg (q_move) (k := ?_)
  refine JL_qg (q_eql) (k := ?_)
  refine JL_q (q_pickT) (k := ?_)
  refine JL_q (q_move) (k := ?_)
  refine JL_dec 65 rfl (fun hq8 => ?_) (fun hq8 => ?_)
  rotate_left
  · refine JL_skips 3 rfl ?_
    refine JL_q (q_pickF) (k := ?_)
    refine JL_q (q_move) (k := ?_)
    refine JL_skips 2 rfl ?_
    refine JL_q (q_pickF) (k := ?_)
    refine JL_q (q_assign) (k := ?_)
    refine JL_nil ?_
    refine JX_seq ?_
    refine J_ret ?_
    refine JX_ret Tryz.results10 (Res.tmp rfl Res.nil) (fun w1 hw1 => ?_)
    exact ⟨(by rw [((((((((hF.neg hq1).neg hq3).neg hq4).neg hq5).neg hq6).t hq7).neg hq8)).eq] <;> first | rfl | (simp only [List.length_set] <;> rfl)), hw1.ext_out⟩
  refine JL_qg (q_move) (k := ?_)
  refine JL_qg (q_move) (k := ?_)
  refine JL_vg (args := [(Value.slice (a1_3) ((aclRemove ((aclInsert (lFew8 l) at_ r).1) at_).1.length) (c1_3)), (Value.slice (a1_1) ((lFew8 l).length) (c1_1))]) (c_callA Tryz.call28) (fun w1 hw1 => rlSame_ok w1 (a := ((aclRemove ((aclInsert (lFew8 l) at_ r).1) at_).1)) (b := (lFew8 l)) (h_a := (ho1_3.slj eRule_ok) w1 hw1) (n_a := by first | exact lb | decide) (h_b := (ho1_1.slj eRule_ok) w1 hw1) (n_b := by first | exact lb | decide)) (k := ?_)
  refine JL_q (q_pickT) (k := ?_)
  refine JL_q (q_move) (k := ?_)
  refine JL_bool 70 rfl (fun hq9 => ?_) (fun hq9 => ?_)
  rotate_left
  · refine JL_skips 2 rfl ?_
    refine JL_q (q_pickF) (k := ?_)
    refine JL_q (q_assign) (k := ?_)
    refine JL_nil ?_
    refine JX_seq ?_
    refine J_ret ?_
    refine JX_ret Tryz.results10 (Res.tmp rfl Res.nil) (fun w1 hw1 => ?_)
    exact ⟨(by rw [(((((((((hF.neg hq1).neg hq3).neg hq4).neg hq5).neg hq6).t hq7).pos hq8).f hq9)).eq] <;> first | rfl | (simp only [List.length_set] <;> rfl)), hw1.ext_out⟩
  refine JL_qg (q_move) (k := ?_)
  refine JL_vg (args := [(Value.slice (a1_2) ((aclInsert (lFew8 l) at_ r).1.length) (c1_2))]) (c_callA Tryz.call15) (fun w1 hw1 => aclRight_ok w1 (l := ((aclInsert (lFew8 l) at_ r).1)) (h_l := (ho1_2.slj eRule_ok) w1 hw1) (n_l := by first | exact lb | decide)) (k := ?_)
  refine JL_q (q_pickT) (k := ?_)
  refine JL_q (q_assign) (k := ?_)
  refine JL_nil ?_
  refine JX_seq ?_
  refine J_ret ?_
  refine JX_ret Tryz.results10 (Res.tmp rfl Res.nil) (fun w1 hw1 => ?_)
  exact ⟨(by rw [(((((((((hF.neg hq1).neg hq3).neg hq4).neg hq5).neg hq6).t hq7).pos hq8).t hq9)).eq] <;> first | rfl | (simp only [List.length_set] <;> rfl)), hw1.ext_out⟩

end Go.Proofs.YtnblakihpoacjaaGreatDoor.Jd

