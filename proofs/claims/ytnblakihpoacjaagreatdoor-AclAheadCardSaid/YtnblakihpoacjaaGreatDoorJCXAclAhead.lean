/- Part of the proofs of this seat: walks and plain facts. No condition. -/
import Derived.Test.YtnblakihpoacjaaGreatDoorProg
import Derived.Test.YtnblakihpoacjaaGreatDoorP6
namespace Go.Proofs.YtnblakihpoacjaaGreatDoor.Jd
open Go.Proofs
open Go.RowKit (Below)
set_option maxRecDepth 100000
set_option maxHeartbeats 8000000
set_option linter.unusedVariables false
set_option linter.unusedSimpArgs false
theorem lAclAhead_ok (w : World) {l_a : Option Addr} {l_c : Nat} {ea0 : Addr} {ea1 : Addr} {ea2 : Addr} {ea3 : Addr} {ea4 : Addr} {ea5 : Addr} {l : List Rule} {t : Target} {at_ : Int} {r : Rule} (h_l : Sl w eRule 5 l_a l) (k_l : l.length ≤ l_c) (hG : Gl w) (hE : Er w ea0 ea1 ea2 ea3 ea4 ea5) : Val Tryz.prog 7 [(Value.slice (l_a) (l.length) (l_c)), (Value.agg [(Value.int .i64 (t.addr)), (Value.int .i64 (t.port))].toArray), (Value.int .i64 (at_)), (Value.agg [(Value.bool (r.allow)), (Value.int .i64 (r.pfx.addr)), (Value.int .i64 (r.pfx.bits)), (Value.int .i64 (r.prt.lo)), (Value.int .i64 (r.prt.hi))].toArray)] w (Value.bool ((lAclAhead l t at_ r))) := by
  have hF := Is.refl (lAclAhead l t at_ r)
  refine enter Tryz.func7 Tryz.ntmps7 (h := ?_)
  refine J_seq ?_
  refine J_reg ?_
  refine JL_a noMk (a_box (l := [_, _])) (k := fun r1 hr1 => ?_)
  refine JL_a noMk (a_box (l := [_, _, _, _, _])) (k := fun r2 hr2 => ?_)
  refine JL_q (q_assign) (k := ?_)
  refine JL_nil ?_
  refine JX_seq ?_
  refine J_seq ?_
  refine J_reg ?_
  refine JL_v (args := []) (c_callA Tryz.call11) (fun w1 hw1 => lShown8_ok w1 (hG := hG.ext hw1.ext_out) (hE := hE.ext hw1.ext_out)) (k := ?_)
  refine JL_q (q_assign) (k := ?_)
  refine JL_nil ?_
  refine JX_seq ?_
  refine J_seq ?_
  refine J_reg ?_
  refine JL_q (q_move) (k := ?_)
  refine JL_p (args := [(Value.slice (l_a) (l.length) (l_c))]) (c_callA Tryz.call16) (fun w1 hw1 => lFew8_ok w1 (l := l) (h_l := (SlJ.of_base h_l) w1 hw1) (k_l := by first | exact lb | decide)) (k := ?_)
  rintro w1_1 e1_1 w2_1 hw1_1 ⟨a1_1, c1_1, B1_1, he_1, hf_1, ho1_1, hl1_1⟩
  refine ⟨_, (B1_1 ++ ((r2, Obj.cells [(Value.bool (r.allow)), (Value.int .i64 (r.pfx.addr)), (Value.int .i64 (r.pfx.bits)), (Value.int .i64 (r.prt.lo)), (Value.int .i64 (r.prt.hi))].toArray 27) :: ((r1, Obj.cells [(Value.int .i64 (t.addr)), (Value.int .i64 (t.port))].toArray 39) :: []))), he_1, hw1_1.fresh hf_1, ?_⟩
  refine JL_q (q_assign) (k := ?_)
  refine JL_nil ?_
  refine JX_seq ?_
  refine J_seq ?_
  refine J_reg ?_
  refine JL_q (q_move) (k := ?_)
  refine JL_q (q_loadA Tryz.isAgg39 Tryz.sizeOf39) (k := ?_)
  refine JL_v (args := [(Value.slice (a1_1) ((lFew8 l).length) (c1_1)), (Value.agg [(Value.int .i64 (t.addr)), (Value.int .i64 (t.port))].toArray)]) (c_callA Tryz.call17) (fun w1 hw1 => aclDecide_ok w1 (l := (lFew8 l)) (t := t) (h_l := (ho1_1.slj eRule_ok) w1 hw1) (n_l := by first | exact lb | decide) (hG := hG.ext hw1.ext_out) (hE := hE.ext hw1.ext_out)) (k := ?_)
  have had_43044 := aclDecide_bd (lFew8 l) t
  refine JL_q (q_move) (k := ?_)
  refine JL_q (q_ext) (k := ?_)
  refine JL_q (q_ext) (k := ?_)
  refine JL_q (q_ext) (k := ?_)
  refine JL_q (q_assign) (k := ?_)
  refine JL_q (q_assign) (k := ?_)
  refine JL_q (q_assign) (k := ?_)
  refine JL_nil ?_
  refine JX_seq ?_
  refine J_seq ?_
  refine J_reg ?_
  refine JL_q (q_move) (k := ?_)
  refine JL_q (q_move) (k := ?_)
  refine JL_q (q_loadA Tryz.isAgg27 Tryz.sizeOf27) (k := ?_)
  refine JL_p (args := [(Value.slice (a1_1) ((lFew8 l).length) (c1_1)), (Value.int .i64 (at_)), (Value.agg [(Value.bool (r.allow)), (Value.int .i64 (r.pfx.addr)), (Value.int .i64 (r.pfx.bits)), (Value.int .i64 (r.prt.lo)), (Value.int .i64 (r.prt.hi))].toArray)]) (c_callA Tryz.call18) (fun w1 hw1 => aclInsert_ok w1 (l := (lFew8 l)) (at_ := at_) (r := r) (h_l := (ho1_1.slj eRule_ok) w1 hw1) (n_l := by first | exact lb | decide) (hG := hG.ext hw1.ext_out) (hE := hE.ext hw1.ext_out)) (k := ?_)
  rintro w1_2 e1_2 w2_2 hw1_2 ⟨a1_2, c1_2, B1_2, he_2, hf_2, ho1_2, hl1_2⟩
  refine ⟨_, (B1_2 ++ (B1_1 ++ ((r2, Obj.cells [(Value.bool (r.allow)), (Value.int .i64 (r.pfx.addr)), (Value.int .i64 (r.pfx.bits)), (Value.int .i64 (r.prt.lo)), (Value.int .i64 (r.prt.hi))].toArray 27) :: ((r1, Obj.cells [(Value.int .i64 (t.addr)), (Value.int .i64 (t.port))].toArray 39) :: [])))), he_2, hw1_2.fresh hf_2, ?_⟩
  refine JL_q (q_move) (k := ?_)
  refine JL_q (q_ext) (k := ?_)
  refine JL_q (q_ext) (k := ?_)
  refine JL_q (q_assign) (k := ?_)
  refine JL_q (q_assign) (k := ?_)
  refine JL_nil ?_
  refine JX_seq ?_
  refine J_seq ?_
  refine J_seq ?_
  refine J_reg ?_
  refine JL_q (q_move) (k := ?_)
  refine JL_q (q_neq) (k := ?_)
  refine JL_q (q_move) (k := ?_)
  refine JL_dec 38 rfl (fun hq1 => ?_) (fun hq1 => ?_)
  · refine JL_skips 2 rfl ?_
    refine JL_q (q_pickT) (k := ?_)
    refine JL_nil ?_
    refine JX_seq ?_
    refine J_true rfl ?_
    refine J_seq ?_
    refine J_reg ?_
    refine JL_q (q_move) (k := ?_)
    refine JL_q (q_assign) (k := ?_)
    refine JL_nil ?_
    refine JX_seq ?_
    refine J_ret ?_
    refine JX_seq_ret ?_
    refine JX_ret Tryz.results7 (Res.tmp rfl Res.nil) (fun w1 hw1 => ?_)
    exact ⟨(by rw [((hF.pos hq1)).eq] <;> first | rfl | (simp only [List.length_set] <;> rfl)), hw1.ext_out⟩
  refine JL_qg (q_move) (k := ?_)
  refine JL_qg (q_neq) (k := ?_)
  refine JL_q (q_pickF) (k := ?_)
  refine JL_nil ?_
  refine JX_seq ?_
  refine J_dec rfl (fun hq2 => ?_) (fun hq2 => ?_)
  · refine J_seq ?_
    refine J_reg ?_
    refine JL_q (q_move) (k := ?_)
    refine JL_q (q_assign) (k := ?_)
    refine JL_nil ?_
    refine JX_seq ?_
    refine J_ret ?_
    refine JX_seq_ret ?_
    refine JX_ret Tryz.results7 (Res.tmp rfl Res.nil) (fun w1 hw1 => ?_)
    exact ⟨(by rw [(((hF.neg hq1).pos hq2)).eq] <;> first | rfl | (simp only [List.length_set] <;> rfl)), hw1.ext_out⟩
  refine J_skip ?_
  refine JX_seq ?_
  refine J_seq ?_
  refine J_reg ?_
  refine JL_q (q_move) (k := ?_)
  refine JL_q (q_loadA Tryz.isAgg39 Tryz.sizeOf39) (k := ?_)
  refine JL_v (args := [(Value.slice (a1_2) ((aclInsert (lFew8 l) at_ r).1.length) (c1_2)), (Value.agg [(Value.int .i64 (t.addr)), (Value.int .i64 (t.port))].toArray)]) (c_callA Tryz.call17) (fun w1 hw1 => aclDecide_ok w1 (l := ((aclInsert (lFew8 l) at_ r).1)) (t := t) (h_l := (ho1_2.slj eRule_ok) w1 hw1) (n_l := by first | exact lb | decide) (hG := hG.ext hw1.ext_out) (hE := hE.ext hw1.ext_out)) (k := ?_)
  have had_17314 := aclDecide_bd ((aclInsert (lFew8 l) at_ r).1) t
  refine JL_q (q_move) (k := ?_)
  refine JL_q (q_ext) (k := ?_)
  refine JL_q (q_ext) (k := ?_)
  refine JL_q (q_ext) (k := ?_)
  refine JL_q (q_assign) (k := ?_)
  refine JL_q (q_assign) (k := ?_)
  refine JL_q (q_assign) (k := ?_)
  refine JL_nil ?_
  refine JX_seq ?_
  refine J_seq ?_
  refine J_reg ?_
  refine JL_q (q_move) (k := ?_)
  refine JL_q (q_lss) (k := ?_)
  refine JL_q (q_move) (k := ?_)
  refine JL_dec 52 rfl (fun hq3 => ?_) (fun hq3 => ?_)
  · refine JL_skips 3 rfl ?_
    refine JL_q (q_pickT) (k := ?_)
    refine JL_q (q_assign) (k := ?_)
    refine JL_nil ?_
    refine JX_seq ?_
    refine J_seq ?_
    refine J_block ?_
    refine J_seq ?_
    refine J_reg ?_
    refine JL_q (q_move) (k := ?_)
    refine JL_q (q_move) (k := ?_)
    refine JL_qg (q_loadA Tryz.isAgg27 Tryz.sizeOf27) (k := ?_)
    refine JL_qg (q_loadA Tryz.isAgg39 Tryz.sizeOf39) (k := ?_)
    refine JL_vg (args := [(Value.agg [(Value.bool (r.allow)), (Value.int .i64 (r.pfx.addr)), (Value.int .i64 (r.pfx.bits)), (Value.int .i64 (r.prt.lo)), (Value.int .i64 (r.prt.hi))].toArray), (Value.agg [(Value.int .i64 (t.addr)), (Value.int .i64 (t.port))].toArray)]) (c_callA Tryz.call22) (fun w1 hw1 => aclFits_ok w1 (r := r) (t := t) (hG := hG.ext hw1.ext_out) (hE := hE.ext hw1.ext_out)) (k := ?_)
    refine JL_q (q_pickT) (k := ?_)
    refine JL_q (q_assign) (k := ?_)
    refine JL_nil ?_
    refine JX_seq ?_
    refine J_cond rfl (fun hq4 => ?_) (fun hq4 => ?_)
    · refine J_seq ?_
      refine J_reg ?_
      refine JL_q (q_move) (k := ?_)
      refine JL_q (q_move) (k := ?_)
      refine JL_bool 65 rfl (fun hq5 => ?_) (fun hq5 => ?_)
      rotate_left
      · refine JL_skips 2 rfl ?_
        refine JL_q (q_pickF) (k := ?_)
        refine JL_q (q_move) (k := ?_)
        refine JL_skips 4 rfl ?_
        refine JL_q (q_pickF) (k := ?_)
        refine JL_q (q_move) (k := ?_)
        refine JL_skips 3 rfl ?_
        refine JL_q (q_pickF) (k := ?_)
        refine JL_q (q_assign) (k := ?_)
        refine JL_nil ?_
        refine JX_seq ?_
        refine J_ret ?_
        refine JX_block_ret ?_
        refine JX_seq_ret ?_
        refine JX_ret Tryz.results7 (Res.tmp rfl Res.nil) (fun w1 hw1 => ?_)
        exact ⟨(by rw [((((((hF.neg hq1).neg hq2).pos hq3).t hq4).f hq5)).eq] <;> first | rfl | (simp only [List.length_set] <;> rfl)), hw1.ext_out⟩
      refine JL_qg (q_move) (k := ?_)
      refine JL_qg (q_eql) (k := ?_)
      refine JL_q (q_pickT) (k := ?_)
      refine JL_q (q_move) (k := ?_)
      refine JL_dec 69 rfl (fun hq6 => ?_) (fun hq6 => ?_)
      rotate_left
      · refine JL_skips 4 rfl ?_
        refine JL_q (q_pickF) (k := ?_)
        refine JL_q (q_move) (k := ?_)
        refine JL_skips 3 rfl ?_
        refine JL_q (q_pickF) (k := ?_)
        refine JL_q (q_assign) (k := ?_)
        refine JL_nil ?_
        refine JX_seq ?_
        refine J_ret ?_
        refine JX_block_ret ?_
        refine JX_seq_ret ?_
        refine JX_ret Tryz.results7 (Res.tmp rfl Res.nil) (fun w1 hw1 => ?_)
        exact ⟨(by rw [(((((((hF.neg hq1).neg hq2).pos hq3).t hq4).t hq5).neg hq6)).eq] <;> first | rfl | (simp only [List.length_set] <;> rfl)), hw1.ext_out⟩
      refine JL_qg (q_move) (k := ?_)
      refine JL_qg (q_fld FO_27_0) (k := ?_)
      refine JL_qg (q_load Tryz.isAgg4) (k := ?_)
      refine JL_qg (q_eqlB Tryz.runUnderlying4) (k := ?_)
      refine JL_q (q_pickT) (k := ?_)
      refine JL_q (q_move) (k := ?_)
      refine JL_bool 75 rfl (fun hq7 => ?_) (fun hq7 => ?_)
      rotate_left
      · refine JL_skips 3 rfl ?_
        refine JL_q (q_pickF) (k := ?_)
        refine JL_q (q_assign) (k := ?_)
        refine JL_nil ?_
        refine JX_seq ?_
        refine J_ret ?_
        refine JX_block_ret ?_
        refine JX_seq_ret ?_
        refine JX_ret Tryz.results7 (Res.tmp rfl Res.nil) (fun w1 hw1 => ?_)
        exact ⟨(by rw [((((((((hF.neg hq1).neg hq2).pos hq3).t hq4).t hq5).pos hq6).f hq7)).eq] <;> first | rfl | (simp only [List.length_set] <;> rfl)), hw1.ext_out⟩
      refine JL_qg (q_move) (k := ?_)
      refine JL_qg (q_move) (k := ?_)
      refine JL_qg (q_eql) (k := ?_)
      refine JL_q (q_pickT) (k := ?_)
      refine JL_q (q_assign) (k := ?_)
      refine JL_nil ?_
      refine JX_seq ?_
      refine J_ret ?_
      refine JX_block_ret ?_
      refine JX_seq_ret ?_
      refine JX_ret Tryz.results7 (Res.tmp rfl Res.nil) (fun w1 hw1 => ?_)
      exact ⟨(by rw [((((((((hF.neg hq1).neg hq2).pos hq3).t hq4).t hq5).pos hq6).t hq7)).eq] <;> first | rfl | (simp only [List.length_set] <;> rfl)), hw1.ext_out⟩
    refine J_seq ?_
    refine J_reg ?_
    refine JL_q (q_move) (k := ?_)
    refine JL_q (q_lss) (k := ?_)
    refine JL_q (q_assign) (k := ?_)
    refine JL_nil ?_
    refine JX_seq ?_
    refine J_dec rfl (fun hq8 => ?_) (fun hq8 => ?_)
    · refine J_seq ?_
      refine J_reg ?_
      refine JL_q (q_move) (k := ?_)
      refine JL_q (q_move) (k := ?_)
      refine JL_bool 84 rfl (fun hq9 => ?_) (fun hq9 => ?_)
      rotate_left
      · refine JL_skips 2 rfl ?_
        refine JL_q (q_pickF) (k := ?_)
        refine JL_q (q_move) (k := ?_)
        refine JL_skips 2 rfl ?_
        refine JL_q (q_pickF) (k := ?_)
        refine JL_q (q_move) (k := ?_)
        refine JL_skips 2 rfl ?_
        refine JL_q (q_pickF) (k := ?_)
        refine JL_q (q_assign) (k := ?_)
        refine JL_nil ?_
        refine JX_seq ?_
        refine J_ret ?_
        refine JX_block_ret ?_
        refine JX_seq_ret ?_
        refine JX_ret Tryz.results7 (Res.tmp rfl Res.nil) (fun w1 hw1 => ?_)
        exact ⟨(by rw [(((((((hF.neg hq1).neg hq2).pos hq3).f hq4).pos hq8).f hq9)).eq] <;> first | rfl | (simp only [List.length_set] <;> rfl)), hw1.ext_out⟩
      refine JL_qg (q_move) (k := ?_)
      refine JL_qg (q_eql) (k := ?_)
      refine JL_q (q_pickT) (k := ?_)
      refine JL_q (q_move) (k := ?_)
      refine JL_dec 88 rfl (fun hq10 => ?_) (fun hq10 => ?_)
      rotate_left
      · refine JL_skips 2 rfl ?_
        refine JL_q (q_pickF) (k := ?_)
        refine JL_q (q_move) (k := ?_)
        refine JL_skips 2 rfl ?_
        refine JL_q (q_pickF) (k := ?_)
        refine JL_q (q_assign) (k := ?_)
        refine JL_nil ?_
        refine JX_seq ?_
        refine J_ret ?_
        refine JX_block_ret ?_
        refine JX_seq_ret ?_
        refine JX_ret Tryz.results7 (Res.tmp rfl Res.nil) (fun w1 hw1 => ?_)
        exact ⟨(by rw [((((((((hF.neg hq1).neg hq2).pos hq3).f hq4).pos hq8).t hq9).neg hq10)).eq] <;> first | rfl | (simp only [List.length_set] <;> rfl)), hw1.ext_out⟩
      refine JL_qg (q_move) (k := ?_)
      refine JL_qg (q_not) (k := ?_)
      refine JL_q (q_pickT) (k := ?_)
      refine JL_q (q_move) (k := ?_)
      refine JL_bool 92 rfl (fun hq11 => ?_) (fun hq11 => ?_)
      rotate_left
      · refine JL_skips 2 rfl ?_
        refine JL_q (q_pickF) (k := ?_)
        refine JL_q (q_assign) (k := ?_)
        refine JL_nil ?_
        refine JX_seq ?_
        refine J_ret ?_
        refine JX_block_ret ?_
        refine JX_seq_ret ?_
        refine JX_ret Tryz.results7 (Res.tmp rfl Res.nil) (fun w1 hw1 => ?_)
        exact ⟨(by rw [(((((((((hF.neg hq1).neg hq2).pos hq3).f hq4).pos hq8).t hq9).pos hq10).f hq11)).eq] <;> first | rfl | (simp only [List.length_set] <;> rfl)), hw1.ext_out⟩
      refine JL_qg (q_move) (k := ?_)
      refine JL_qg (q_lss) (k := ?_)
      refine JL_q (q_pickT) (k := ?_)
      refine JL_q (q_assign) (k := ?_)
      refine JL_nil ?_
      refine JX_seq ?_
      refine J_ret ?_
      refine JX_block_ret ?_
      refine JX_seq_ret ?_
      refine JX_ret Tryz.results7 (Res.tmp rfl Res.nil) (fun w1 hw1 => ?_)
      exact ⟨(by rw [(((((((((hF.neg hq1).neg hq2).pos hq3).f hq4).pos hq8).t hq9).pos hq10).t hq11)).eq] <;> first | rfl | (simp only [List.length_set] <;> rfl)), hw1.ext_out⟩
    refine J_seq ?_
    refine J_reg ?_
    refine JL_q (q_move) (k := ?_)
    refine JL_q (q_assign) (k := ?_)
    refine JL_nil ?_
    refine JX_seq ?_
    refine J_true rfl ?_
    refine J_seq ?_
    refine J_reg ?_
    refine JL_q (q_move) (k := ?_)
    refine JL_q (q_move) (k := ?_)
    refine JL_bool 99 rfl (fun hq12 => ?_) (fun hq12 => ?_)
    rotate_left
    · refine JL_skips 2 rfl ?_
      refine JL_q (q_pickF) (k := ?_)
      refine JL_q (q_move) (k := ?_)
      refine JL_skips 3 rfl ?_
      refine JL_q (q_pickF) (k := ?_)
      refine JL_q (q_move) (k := ?_)
      refine JL_skips 4 rfl ?_
      refine JL_q (q_pickF) (k := ?_)
      refine JL_q (q_assign) (k := ?_)
      refine JL_nil ?_
      refine JX_seq ?_
      refine J_ret ?_
      refine JX_block_ret ?_
      refine JX_seq_ret ?_
      refine JX_ret Tryz.results7 (Res.tmp rfl Res.nil) (fun w1 hw1 => ?_)
      exact ⟨(by rw [(((((((hF.neg hq1).neg hq2).pos hq3).f hq4).neg hq8).f hq12)).eq] <;> first | rfl | (simp only [List.length_set] <;> rfl)), hw1.ext_out⟩
    refine JL_qg (q_move) (k := ?_)
    refine JL_qg (q_eql) (k := ?_)
    refine JL_q (q_pickT) (k := ?_)
    refine JL_q (q_move) (k := ?_)
    refine JL_dec 103 rfl (fun hq13 => ?_) (fun hq13 => ?_)
    rotate_left
    · refine JL_skips 3 rfl ?_
      refine JL_q (q_pickF) (k := ?_)
      refine JL_q (q_move) (k := ?_)
      refine JL_skips 4 rfl ?_
      refine JL_q (q_pickF) (k := ?_)
      refine JL_q (q_assign) (k := ?_)
      refine JL_nil ?_
      refine JX_seq ?_
      refine J_ret ?_
      refine JX_block_ret ?_
      refine JX_seq_ret ?_
      refine JX_ret Tryz.results7 (Res.tmp rfl Res.nil) (fun w1 hw1 => ?_)
      exact ⟨(by rw [((((((((hF.neg hq1).neg hq2).pos hq3).f hq4).neg hq8).t hq12).neg hq13)).eq] <;> first | rfl | (simp only [List.length_set] <;> rfl)), hw1.ext_out⟩
    refine JL_qg (q_move) (k := ?_)
    refine JL_qg (q_move) (k := ?_)
    refine JL_qg (q_eqlB Tryz.runUnderlying4) (k := ?_)
    refine JL_q (q_pickT) (k := ?_)
    refine JL_q (q_move) (k := ?_)
    refine JL_bool 108 rfl (fun hq14 => ?_) (fun hq14 => ?_)
    rotate_left
    · refine JL_skips 4 rfl ?_
      refine JL_q (q_pickF) (k := ?_)
      refine JL_q (q_assign) (k := ?_)
      refine JL_nil ?_
      refine JX_seq ?_
      refine J_ret ?_
      refine JX_block_ret ?_
      refine JX_seq_ret ?_
      refine JX_ret Tryz.results7 (Res.tmp rfl Res.nil) (fun w1 hw1 => ?_)
      exact ⟨(by rw [(((((((((hF.neg hq1).neg hq2).pos hq3).f hq4).neg hq8).t hq12).pos hq13).f hq14)).eq] <;> first | rfl | (simp only [List.length_set] <;> rfl)), hw1.ext_out⟩
    refine JL_qg (q_move) (k := ?_)
    refine JL_qg (q_move) (k := ?_)
    refine JL_qg (q_add) (k := ?_)
    refine JL_qg (q_eql) (k := ?_)
    refine JL_q (q_pickT) (k := ?_)
    refine JL_q (q_assign) (k := ?_)
    refine JL_nil ?_
    refine JX_seq ?_
    refine J_ret ?_
    refine JX_block_ret ?_
    refine JX_seq_ret ?_
    refine JX_ret Tryz.results7 (Res.tmp rfl Res.nil) (fun w1 hw1 => ?_)
    exact ⟨(by rw [(((((((((hF.neg hq1).neg hq2).pos hq3).f hq4).neg hq8).t hq12).pos hq13).t hq14)).eq] <;> first | rfl | (simp only [List.length_set] <;> rfl)), hw1.ext_out⟩
  refine JL_qg (q_move) (k := ?_)
  refine JL_qg (q_move) (k := ?_)
  refine JL_qg (q_leq) (k := ?_)
  refine JL_q (q_pickF) (k := ?_)
  refine JL_q (q_assign) (k := ?_)
  refine JL_nil ?_
  refine JX_seq ?_
  refine J_seq ?_
  refine J_block ?_
  refine J_seq ?_
  refine J_reg ?_
  refine JL_q (q_move) (k := ?_)
  refine JL_q (q_move) (k := ?_)
  refine JL_dec 59 rfl (fun hq15 => ?_) (fun hq15 => ?_)
  rotate_left
  · refine JL_skips 3 rfl ?_
    refine JL_q (q_pickF) (k := ?_)
    refine JL_q (q_assign) (k := ?_)
    refine JL_nil ?_
    refine JX_seq ?_
    refine J_false rfl ?_
    refine J_seq ?_
    refine J_reg ?_
    refine JL_q (q_move) (k := ?_)
    refine JL_q (q_lss) (k := ?_)
    refine JL_q (q_assign) (k := ?_)
    refine JL_nil ?_
    refine JX_seq ?_
    refine J_dec rfl (fun hq31 => ?_) (fun hq31 => ?_)
    · refine J_seq ?_
      refine J_reg ?_
      refine JL_q (q_move) (k := ?_)
      refine JL_q (q_move) (k := ?_)
      refine JL_bool 84 rfl (fun hq32 => ?_) (fun hq32 => ?_)
      rotate_left
      · refine JL_skips 2 rfl ?_
        refine JL_q (q_pickF) (k := ?_)
        refine JL_q (q_move) (k := ?_)
        refine JL_skips 2 rfl ?_
        refine JL_q (q_pickF) (k := ?_)
        refine JL_q (q_move) (k := ?_)
        refine JL_skips 2 rfl ?_
        refine JL_q (q_pickF) (k := ?_)
        refine JL_q (q_assign) (k := ?_)
        refine JL_nil ?_
        refine JX_seq ?_
        refine J_ret ?_
        refine JX_block_ret ?_
        refine JX_seq_ret ?_
        refine JX_ret Tryz.results7 (Res.tmp rfl Res.nil) (fun w1 hw1 => ?_)
        exact ⟨(by rw [(((((((hF.neg hq1).neg hq2).neg hq3).neg hq15).pos hq31).f hq32)).eq] <;> first | rfl | (simp only [List.length_set] <;> rfl)), hw1.ext_out⟩
      refine JL_qg (q_move) (k := ?_)
      refine JL_qg (q_eql) (k := ?_)
      refine JL_q (q_pickT) (k := ?_)
      refine JL_q (q_move) (k := ?_)
      refine JL_dec 88 rfl (fun hq33 => ?_) (fun hq33 => ?_)
      rotate_left
      · refine JL_skips 2 rfl ?_
        refine JL_q (q_pickF) (k := ?_)
        refine JL_q (q_move) (k := ?_)
        refine JL_skips 2 rfl ?_
        refine JL_q (q_pickF) (k := ?_)
        refine JL_q (q_assign) (k := ?_)
        refine JL_nil ?_
        refine JX_seq ?_
        refine J_ret ?_
        refine JX_block_ret ?_
        refine JX_seq_ret ?_
        refine JX_ret Tryz.results7 (Res.tmp rfl Res.nil) (fun w1 hw1 => ?_)
        exact ⟨(by rw [((((((((hF.neg hq1).neg hq2).neg hq3).neg hq15).pos hq31).t hq32).neg hq33)).eq] <;> first | rfl | (simp only [List.length_set] <;> rfl)), hw1.ext_out⟩
      refine JL_qg (q_move) (k := ?_)
      refine JL_qg (q_not) (k := ?_)
      refine JL_q (q_pickT) (k := ?_)
      refine JL_q (q_move) (k := ?_)
      refine JL_bool 92 rfl (fun hq34 => ?_) (fun hq34 => ?_)
      rotate_left
      · refine JL_skips 2 rfl ?_
        refine JL_q (q_pickF) (k := ?_)
        refine JL_q (q_assign) (k := ?_)
        refine JL_nil ?_
        refine JX_seq ?_
        refine J_ret ?_
        refine JX_block_ret ?_
        refine JX_seq_ret ?_
        refine JX_ret Tryz.results7 (Res.tmp rfl Res.nil) (fun w1 hw1 => ?_)
        exact ⟨(by rw [(((((((((hF.neg hq1).neg hq2).neg hq3).neg hq15).pos hq31).t hq32).pos hq33).f hq34)).eq] <;> first | rfl | (simp only [List.length_set] <;> rfl)), hw1.ext_out⟩
      refine JL_qg (q_move) (k := ?_)
      refine JL_qg (q_lss) (k := ?_)
      refine JL_q (q_pickT) (k := ?_)
      refine JL_q (q_assign) (k := ?_)
      refine JL_nil ?_
      refine JX_seq ?_
      refine J_ret ?_
      refine JX_block_ret ?_
      refine JX_seq_ret ?_
      refine JX_ret Tryz.results7 (Res.tmp rfl Res.nil) (fun w1 hw1 => ?_)
      exact ⟨(by rw [(((((((((hF.neg hq1).neg hq2).neg hq3).neg hq15).pos hq31).t hq32).pos hq33).t hq34)).eq] <;> first | rfl | (simp only [List.length_set] <;> rfl)), hw1.ext_out⟩
    refine J_seq ?_
    refine J_reg ?_
    refine JL_q (q_move) (k := ?_)
    refine JL_q (q_assign) (k := ?_)
    refine JL_nil ?_
    refine JX_seq ?_
    refine J_dec rfl (fun hq35 => ?_) (fun hq35 => ?_)
    rotate_left
    · refine J_skip ?_
      refine JX_block ?_
      refine JX_seq ?_
      refine J_seq ?_
      refine J_reg ?_
      refine JL_q (q_move) (k := ?_)
      refine JL_q (q_move) (k := ?_)
      refine JL_bool 115 rfl (fun hq39 => ?_) (fun hq39 => ?_)
      rotate_left
      · refine JL_skips 2 rfl ?_
        refine JL_q (q_pickF) (k := ?_)
        refine JL_q (q_move) (k := ?_)
        refine JL_skips 3 rfl ?_
        refine JL_q (q_pickF) (k := ?_)
        refine JL_q (q_move) (k := ?_)
        refine JL_skips 3 rfl ?_
        refine JL_q (q_pickF) (k := ?_)
        refine JL_q (q_assign) (k := ?_)
        refine JL_nil ?_
        refine JX_seq ?_
        refine J_ret ?_
        refine JX_ret Tryz.results7 (Res.tmp rfl Res.nil) (fun w1 hw1 => ?_)
        exact ⟨(by rw [((((((((hF.neg hq1).neg hq2).neg hq3).neg hq15).neg hq31).neg hq35).f hq39)).eq] <;> first | rfl | (simp only [List.length_set] <;> rfl)), hw1.ext_out⟩
      refine JL_qg (q_move) (k := ?_)
      refine JL_qg (q_eql) (k := ?_)
      refine JL_q (q_pickT) (k := ?_)
      refine JL_q (q_move) (k := ?_)
      refine JL_dec 119 rfl (fun hq40 => ?_) (fun hq40 => ?_)
      rotate_left
      · refine JL_skips 3 rfl ?_
        refine JL_q (q_pickF) (k := ?_)
        refine JL_q (q_move) (k := ?_)
        refine JL_skips 3 rfl ?_
        refine JL_q (q_pickF) (k := ?_)
        refine JL_q (q_assign) (k := ?_)
        refine JL_nil ?_
        refine JX_seq ?_
        refine J_ret ?_
        refine JX_ret Tryz.results7 (Res.tmp rfl Res.nil) (fun w1 hw1 => ?_)
        exact ⟨(by rw [(((((((((hF.neg hq1).neg hq2).neg hq3).neg hq15).neg hq31).neg hq35).t hq39).neg hq40)).eq] <;> first | rfl | (simp only [List.length_set] <;> rfl)), hw1.ext_out⟩
      refine JL_qg (q_move) (k := ?_)
      refine JL_qg (q_move) (k := ?_)
      refine JL_qg (q_eqlB Tryz.runUnderlying4) (k := ?_)
      refine JL_q (q_pickT) (k := ?_)
      refine JL_q (q_move) (k := ?_)
      refine JL_bool 124 rfl (fun hq41 => ?_) (fun hq41 => ?_)
      rotate_left
      · refine JL_skips 3 rfl ?_
        refine JL_q (q_pickF) (k := ?_)
        refine JL_q (q_assign) (k := ?_)
        refine JL_nil ?_
        refine JX_seq ?_
        refine J_ret ?_
        refine JX_ret Tryz.results7 (Res.tmp rfl Res.nil) (fun w1 hw1 => ?_)
        exact ⟨(by rw [((((((((((hF.neg hq1).neg hq2).neg hq3).neg hq15).neg hq31).neg hq35).t hq39).pos hq40).f hq41)).eq] <;> first | rfl | (simp only [List.length_set] <;> rfl)), hw1.ext_out⟩
      refine JL_qg (q_move) (k := ?_)
      refine JL_qg (q_move) (k := ?_)
      refine JL_qg (q_eql) (k := ?_)
      refine JL_q (q_pickT) (k := ?_)
      refine JL_q (q_assign) (k := ?_)
      refine JL_nil ?_
      refine JX_seq ?_
      refine J_ret ?_
      refine JX_ret Tryz.results7 (Res.tmp rfl Res.nil) (fun w1 hw1 => ?_)
      exact ⟨(by rw [((((((((((hF.neg hq1).neg hq2).neg hq3).neg hq15).neg hq31).neg hq35).t hq39).pos hq40).t hq41)).eq] <;> first | rfl | (simp only [List.length_set] <;> rfl)), hw1.ext_out⟩
    refine J_seq ?_
    refine J_reg ?_
    refine JL_q (q_move) (k := ?_)
    refine JL_q (q_move) (k := ?_)
    refine JL_bool 99 rfl (fun hq36 => ?_) (fun hq36 => ?_)
    rotate_left
    · refine JL_skips 2 rfl ?_
      refine JL_q (q_pickF) (k := ?_)
      refine JL_q (q_move) (k := ?_)
      refine JL_skips 3 rfl ?_
      refine JL_q (q_pickF) (k := ?_)
      refine JL_q (q_move) (k := ?_)
      refine JL_skips 4 rfl ?_
      refine JL_q (q_pickF) (k := ?_)
      refine JL_q (q_assign) (k := ?_)
      refine JL_nil ?_
      refine JX_seq ?_
      refine J_ret ?_
      refine JX_block_ret ?_
      refine JX_seq_ret ?_
      refine JX_ret Tryz.results7 (Res.tmp rfl Res.nil) (fun w1 hw1 => ?_)
      exact ⟨(by rw [((((((((hF.neg hq1).neg hq2).neg hq3).neg hq15).neg hq31).pos hq35).f hq36)).eq] <;> first | rfl | (simp only [List.length_set] <;> rfl)), hw1.ext_out⟩
    refine JL_qg (q_move) (k := ?_)
    refine JL_qg (q_eql) (k := ?_)
    refine JL_q (q_pickT) (k := ?_)
    refine JL_q (q_move) (k := ?_)
    refine JL_dec 103 rfl (fun hq37 => ?_) (fun hq37 => ?_)
    rotate_left
    · refine JL_skips 3 rfl ?_
      refine JL_q (q_pickF) (k := ?_)
      refine JL_q (q_move) (k := ?_)
      refine JL_skips 4 rfl ?_
      refine JL_q (q_pickF) (k := ?_)
      refine JL_q (q_assign) (k := ?_)
      refine JL_nil ?_
      refine JX_seq ?_
      refine J_ret ?_
      refine JX_block_ret ?_
      refine JX_seq_ret ?_
      refine JX_ret Tryz.results7 (Res.tmp rfl Res.nil) (fun w1 hw1 => ?_)
      exact ⟨(by rw [(((((((((hF.neg hq1).neg hq2).neg hq3).neg hq15).neg hq31).pos hq35).t hq36).neg hq37)).eq] <;> first | rfl | (simp only [List.length_set] <;> rfl)), hw1.ext_out⟩
    refine JL_qg (q_move) (k := ?_)
    refine JL_qg (q_move) (k := ?_)
    refine JL_qg (q_eqlB Tryz.runUnderlying4) (k := ?_)
    refine JL_q (q_pickT) (k := ?_)
    refine JL_q (q_move) (k := ?_)
    refine JL_bool 108 rfl (fun hq38 => ?_) (fun hq38 => ?_)
    rotate_left
    · refine JL_skips 4 rfl ?_
      refine JL_q (q_pickF) (k := ?_)
      refine JL_q (q_assign) (k := ?_)
      refine JL_nil ?_
      refine JX_seq ?_
      refine J_ret ?_
      refine JX_block_ret ?_
      refine JX_seq_ret ?_
      refine JX_ret Tryz.results7 (Res.tmp rfl Res.nil) (fun w1 hw1 => ?_)
      exact ⟨(by rw [((((((((((hF.neg hq1).neg hq2).neg hq3).neg hq15).neg hq31).pos hq35).t hq36).pos hq37).f hq38)).eq] <;> first | rfl | (simp only [List.length_set] <;> rfl)), hw1.ext_out⟩
    refine JL_qg (q_move) (k := ?_)
    refine JL_qg (q_move) (k := ?_)
    refine JL_qg (q_add) (k := ?_)
    refine JL_qg (q_eql) (k := ?_)
    refine JL_q (q_pickT) (k := ?_)
    refine JL_q (q_assign) (k := ?_)
    refine JL_nil ?_
    refine JX_seq ?_
    refine J_ret ?_
    refine JX_block_ret ?_
    refine JX_seq_ret ?_
    refine JX_ret Tryz.results7 (Res.tmp rfl Res.nil) (fun w1 hw1 => ?_)
    exact ⟨(by rw [((((((((((hF.neg hq1).neg hq2).neg hq3).neg hq15).neg hq31).pos hq35).t hq36).pos hq37).t hq38)).eq] <;> first | rfl | (simp only [List.length_set] <;> rfl)), hw1.ext_out⟩
  refine JL_qg (q_loadA Tryz.isAgg27 Tryz.sizeOf27) (k := ?_)
  refine JL_qg (q_loadA Tryz.isAgg39 Tryz.sizeOf39) (k := ?_)
  refine JL_vg (args := [(Value.agg [(Value.bool (r.allow)), (Value.int .i64 (r.pfx.addr)), (Value.int .i64 (r.pfx.bits)), (Value.int .i64 (r.prt.lo)), (Value.int .i64 (r.prt.hi))].toArray), (Value.agg [(Value.int .i64 (t.addr)), (Value.int .i64 (t.port))].toArray)]) (c_callA Tryz.call22) (fun w1 hw1 => aclFits_ok w1 (r := r) (t := t) (hG := hG.ext hw1.ext_out) (hE := hE.ext hw1.ext_out)) (k := ?_)
  refine JL_q (q_pickT) (k := ?_)
  refine JL_q (q_assign) (k := ?_)
  refine JL_nil ?_
  refine JX_seq ?_
  refine J_cond rfl (fun hq16 => ?_) (fun hq16 => ?_)
  · refine J_seq ?_
    refine J_reg ?_
    refine JL_q (q_move) (k := ?_)
    refine JL_q (q_move) (k := ?_)
    refine JL_bool 65 rfl (fun hq17 => ?_) (fun hq17 => ?_)
    rotate_left
    · refine JL_skips 2 rfl ?_
      refine JL_q (q_pickF) (k := ?_)
      refine JL_q (q_move) (k := ?_)
      refine JL_skips 4 rfl ?_
      refine JL_q (q_pickF) (k := ?_)
      refine JL_q (q_move) (k := ?_)
      refine JL_skips 3 rfl ?_
      refine JL_q (q_pickF) (k := ?_)
      refine JL_q (q_assign) (k := ?_)
      refine JL_nil ?_
      refine JX_seq ?_
      refine J_ret ?_
      refine JX_block_ret ?_
      refine JX_seq_ret ?_
      refine JX_ret Tryz.results7 (Res.tmp rfl Res.nil) (fun w1 hw1 => ?_)
      exact ⟨(by rw [(((((((hF.neg hq1).neg hq2).neg hq3).pos hq15).t hq16).f hq17)).eq] <;> first | rfl | (simp only [List.length_set] <;> rfl)), hw1.ext_out⟩
    refine JL_qg (q_move) (k := ?_)
    refine JL_qg (q_eql) (k := ?_)
    refine JL_q (q_pickT) (k := ?_)
    refine JL_q (q_move) (k := ?_)
    refine JL_dec 69 rfl (fun hq18 => ?_) (fun hq18 => ?_)
    rotate_left
    · refine JL_skips 4 rfl ?_
      refine JL_q (q_pickF) (k := ?_)
      refine JL_q (q_move) (k := ?_)
      refine JL_skips 3 rfl ?_
      refine JL_q (q_pickF) (k := ?_)
      refine JL_q (q_assign) (k := ?_)
      refine JL_nil ?_
      refine JX_seq ?_
      refine J_ret ?_
      refine JX_block_ret ?_
      refine JX_seq_ret ?_
      refine JX_ret Tryz.results7 (Res.tmp rfl Res.nil) (fun w1 hw1 => ?_)
      exact ⟨(by rw [((((((((hF.neg hq1).neg hq2).neg hq3).pos hq15).t hq16).t hq17).neg hq18)).eq] <;> first | rfl | (simp only [List.length_set] <;> rfl)), hw1.ext_out⟩
    refine JL_qg (q_move) (k := ?_)
    refine JL_qg (q_fld FO_27_0) (k := ?_)
    refine JL_qg (q_load Tryz.isAgg4) (k := ?_)
    refine JL_qg (q_eqlB Tryz.runUnderlying4) (k := ?_)
    refine JL_q (q_pickT) (k := ?_)
    refine JL_q (q_move) (k := ?_)
    refine JL_bool 75 rfl (fun hq19 => ?_) (fun hq19 => ?_)
    rotate_left
    · refine JL_skips 3 rfl ?_
      refine JL_q (q_pickF) (k := ?_)
      refine JL_q (q_assign) (k := ?_)
      refine JL_nil ?_
      refine JX_seq ?_
      refine J_ret ?_
      refine JX_block_ret ?_
      refine JX_seq_ret ?_
      refine JX_ret Tryz.results7 (Res.tmp rfl Res.nil) (fun w1 hw1 => ?_)
      exact ⟨(by rw [(((((((((hF.neg hq1).neg hq2).neg hq3).pos hq15).t hq16).t hq17).pos hq18).f hq19)).eq] <;> first | rfl | (simp only [List.length_set] <;> rfl)), hw1.ext_out⟩
    refine JL_qg (q_move) (k := ?_)
    refine JL_qg (q_move) (k := ?_)
    refine JL_qg (q_eql) (k := ?_)
    refine JL_q (q_pickT) (k := ?_)
    refine JL_q (q_assign) (k := ?_)
    refine JL_nil ?_
    refine JX_seq ?_
    refine J_ret ?_
    refine JX_block_ret ?_
    refine JX_seq_ret ?_
    refine JX_ret Tryz.results7 (Res.tmp rfl Res.nil) (fun w1 hw1 => ?_)
    exact ⟨(by rw [(((((((((hF.neg hq1).neg hq2).neg hq3).pos hq15).t hq16).t hq17).pos hq18).t hq19)).eq] <;> first | rfl | (simp only [List.length_set] <;> rfl)), hw1.ext_out⟩
  refine J_seq ?_
  refine J_reg ?_
  refine JL_q (q_move) (k := ?_)
  refine JL_q (q_lss) (k := ?_)
  refine JL_q (q_assign) (k := ?_)
  refine JL_nil ?_
  refine JX_seq ?_
  refine J_dec rfl (fun hq20 => ?_) (fun hq20 => ?_)
  · refine J_seq ?_
    refine J_reg ?_
    refine JL_q (q_move) (k := ?_)
    refine JL_q (q_move) (k := ?_)
    refine JL_bool 84 rfl (fun hq21 => ?_) (fun hq21 => ?_)
    rotate_left
    · refine JL_skips 2 rfl ?_
      refine JL_q (q_pickF) (k := ?_)
      refine JL_q (q_move) (k := ?_)
      refine JL_skips 2 rfl ?_
      refine JL_q (q_pickF) (k := ?_)
      refine JL_q (q_move) (k := ?_)
      refine JL_skips 2 rfl ?_
      refine JL_q (q_pickF) (k := ?_)
      refine JL_q (q_assign) (k := ?_)
      refine JL_nil ?_
      refine JX_seq ?_
      refine J_ret ?_
      refine JX_block_ret ?_
      refine JX_seq_ret ?_
      refine JX_ret Tryz.results7 (Res.tmp rfl Res.nil) (fun w1 hw1 => ?_)
      exact ⟨(by rw [((((((((hF.neg hq1).neg hq2).neg hq3).pos hq15).f hq16).pos hq20).f hq21)).eq] <;> first | rfl | (simp only [List.length_set] <;> rfl)), hw1.ext_out⟩
    refine JL_qg (q_move) (k := ?_)
    refine JL_qg (q_eql) (k := ?_)
    refine JL_q (q_pickT) (k := ?_)
    refine JL_q (q_move) (k := ?_)
    refine JL_dec 88 rfl (fun hq22 => ?_) (fun hq22 => ?_)
    rotate_left
    · refine JL_skips 2 rfl ?_
      refine JL_q (q_pickF) (k := ?_)
      refine JL_q (q_move) (k := ?_)
      refine JL_skips 2 rfl ?_
      refine JL_q (q_pickF) (k := ?_)
      refine JL_q (q_assign) (k := ?_)
      refine JL_nil ?_
      refine JX_seq ?_
      refine J_ret ?_
      refine JX_block_ret ?_
      refine JX_seq_ret ?_
      refine JX_ret Tryz.results7 (Res.tmp rfl Res.nil) (fun w1 hw1 => ?_)
      exact ⟨(by rw [(((((((((hF.neg hq1).neg hq2).neg hq3).pos hq15).f hq16).pos hq20).t hq21).neg hq22)).eq] <;> first | rfl | (simp only [List.length_set] <;> rfl)), hw1.ext_out⟩
    refine JL_qg (q_move) (k := ?_)
    refine JL_qg (q_not) (k := ?_)
    refine JL_q (q_pickT) (k := ?_)
    refine JL_q (q_move) (k := ?_)
    refine JL_bool 92 rfl (fun hq23 => ?_) (fun hq23 => ?_)
    rotate_left
    · refine JL_skips 2 rfl ?_
      refine JL_q (q_pickF) (k := ?_)
      refine JL_q (q_assign) (k := ?_)
      refine JL_nil ?_
      refine JX_seq ?_
      refine J_ret ?_
      refine JX_block_ret ?_
      refine JX_seq_ret ?_
      refine JX_ret Tryz.results7 (Res.tmp rfl Res.nil) (fun w1 hw1 => ?_)
      exact ⟨(by rw [((((((((((hF.neg hq1).neg hq2).neg hq3).pos hq15).f hq16).pos hq20).t hq21).pos hq22).f hq23)).eq] <;> first | rfl | (simp only [List.length_set] <;> rfl)), hw1.ext_out⟩
    refine JL_qg (q_move) (k := ?_)
    refine JL_qg (q_lss) (k := ?_)
    refine JL_q (q_pickT) (k := ?_)
    refine JL_q (q_assign) (k := ?_)
    refine JL_nil ?_
    refine JX_seq ?_
    refine J_ret ?_
    refine JX_block_ret ?_
    refine JX_seq_ret ?_
    refine JX_ret Tryz.results7 (Res.tmp rfl Res.nil) (fun w1 hw1 => ?_)
    exact ⟨(by rw [((((((((((hF.neg hq1).neg hq2).neg hq3).pos hq15).f hq16).pos hq20).t hq21).pos hq22).t hq23)).eq] <;> first | rfl | (simp only [List.length_set] <;> rfl)), hw1.ext_out⟩
  refine J_seq ?_
  refine J_reg ?_
  refine JL_q (q_move) (k := ?_)
  refine JL_q (q_assign) (k := ?_)
  refine JL_nil ?_
  refine JX_seq ?_
  refine J_dec rfl (fun hq24 => ?_) (fun hq24 => ?_)
  rotate_left
  · refine J_skip ?_
    refine JX_block ?_
    refine JX_seq ?_
    refine J_seq ?_
    refine J_reg ?_
    refine JL_q (q_move) (k := ?_)
    refine JL_q (q_move) (k := ?_)
    refine JL_bool 115 rfl (fun hq28 => ?_) (fun hq28 => ?_)
    rotate_left
    · refine JL_skips 2 rfl ?_
      refine JL_q (q_pickF) (k := ?_)
      refine JL_q (q_move) (k := ?_)
      refine JL_skips 3 rfl ?_
      refine JL_q (q_pickF) (k := ?_)
      refine JL_q (q_move) (k := ?_)
      refine JL_skips 3 rfl ?_
      refine JL_q (q_pickF) (k := ?_)
      refine JL_q (q_assign) (k := ?_)
      refine JL_nil ?_
      refine JX_seq ?_
      refine J_ret ?_
      refine JX_ret Tryz.results7 (Res.tmp rfl Res.nil) (fun w1 hw1 => ?_)
      exact ⟨(by rw [(((((((((hF.neg hq1).neg hq2).neg hq3).pos hq15).f hq16).neg hq20).neg hq24).f hq28)).eq] <;> first | rfl | (simp only [List.length_set] <;> rfl)), hw1.ext_out⟩
    refine JL_qg (q_move) (k := ?_)
    refine JL_qg (q_eql) (k := ?_)
    refine JL_q (q_pickT) (k := ?_)
    refine JL_q (q_move) (k := ?_)
    refine JL_dec 119 rfl (fun hq29 => ?_) (fun hq29 => ?_)
    rotate_left
    · refine JL_skips 3 rfl ?_
      refine JL_q (q_pickF) (k := ?_)
      refine JL_q (q_move) (k := ?_)
      refine JL_skips 3 rfl ?_
      refine JL_q (q_pickF) (k := ?_)
      refine JL_q (q_assign) (k := ?_)
      refine JL_nil ?_
      refine JX_seq ?_
      refine J_ret ?_
      refine JX_ret Tryz.results7 (Res.tmp rfl Res.nil) (fun w1 hw1 => ?_)
      exact ⟨(by rw [((((((((((hF.neg hq1).neg hq2).neg hq3).pos hq15).f hq16).neg hq20).neg hq24).t hq28).neg hq29)).eq] <;> first | rfl | (simp only [List.length_set] <;> rfl)), hw1.ext_out⟩
    refine JL_qg (q_move) (k := ?_)
    refine JL_qg (q_move) (k := ?_)
    refine JL_qg (q_eqlB Tryz.runUnderlying4) (k := ?_)
    refine JL_q (q_pickT) (k := ?_)
    refine JL_q (q_move) (k := ?_)
    refine JL_bool 124 rfl (fun hq30 => ?_) (fun hq30 => ?_)
    rotate_left
    · refine JL_skips 3 rfl ?_
      refine JL_q (q_pickF) (k := ?_)
      refine JL_q (q_assign) (k := ?_)
      refine JL_nil ?_
      refine JX_seq ?_
      refine J_ret ?_
      refine JX_ret Tryz.results7 (Res.tmp rfl Res.nil) (fun w1 hw1 => ?_)
      exact ⟨(by rw [(((((((((((hF.neg hq1).neg hq2).neg hq3).pos hq15).f hq16).neg hq20).neg hq24).t hq28).pos hq29).f hq30)).eq] <;> first | rfl | (simp only [List.length_set] <;> rfl)), hw1.ext_out⟩
    refine JL_qg (q_move) (k := ?_)
    refine JL_qg (q_move) (k := ?_)
    refine JL_qg (q_eql) (k := ?_)
    refine JL_q (q_pickT) (k := ?_)
    refine JL_q (q_assign) (k := ?_)
    refine JL_nil ?_
    refine JX_seq ?_
    refine J_ret ?_
    refine JX_ret Tryz.results7 (Res.tmp rfl Res.nil) (fun w1 hw1 => ?_)
    exact ⟨(by rw [(((((((((((hF.neg hq1).neg hq2).neg hq3).pos hq15).f hq16).neg hq20).neg hq24).t hq28).pos hq29).t hq30)).eq] <;> first | rfl | (simp only [List.length_set] <;> rfl)), hw1.ext_out⟩
  refine J_seq ?_
  refine J_reg ?_
  refine JL_q (q_move) (k := ?_)
  refine JL_q (q_move) (k := ?_)
  refine JL_bool 99 rfl (fun hq25 => ?_) (fun hq25 => ?_)
  rotate_left
  · refine JL_skips 2 rfl ?_
    refine JL_q (q_pickF) (k := ?_)
    refine JL_q (q_move) (k := ?_)
    refine JL_skips 3 rfl ?_
    refine JL_q (q_pickF) (k := ?_)
    refine JL_q (q_move) (k := ?_)
    refine JL_skips 4 rfl ?_
    refine JL_q (q_pickF) (k := ?_)
    refine JL_q (q_assign) (k := ?_)
    refine JL_nil ?_
    refine JX_seq ?_
    refine J_ret ?_
    refine JX_block_ret ?_
    refine JX_seq_ret ?_
    refine JX_ret Tryz.results7 (Res.tmp rfl Res.nil) (fun w1 hw1 => ?_)
    exact ⟨(by rw [(((((((((hF.neg hq1).neg hq2).neg hq3).pos hq15).f hq16).neg hq20).pos hq24).f hq25)).eq] <;> first | rfl | (simp only [List.length_set] <;> rfl)), hw1.ext_out⟩
  refine JL_qg (q_move) (k := ?_)
  refine JL_qg (q_eql) (k := ?_)
  refine JL_q (q_pickT) (k := ?_)
  refine JL_q (q_move) (k := ?_)
  refine JL_dec 103 rfl (fun hq26 => ?_) (fun hq26 => ?_)
  rotate_left
  · refine JL_skips 3 rfl ?_
    refine JL_q (q_pickF) (k := ?_)
    refine JL_q (q_move) (k := ?_)
    refine JL_skips 4 rfl ?_
    refine JL_q (q_pickF) (k := ?_)
    refine JL_q (q_assign) (k := ?_)
    refine JL_nil ?_
    refine JX_seq ?_
    refine J_ret ?_
    refine JX_block_ret ?_
    refine JX_seq_ret ?_
    refine JX_ret Tryz.results7 (Res.tmp rfl Res.nil) (fun w1 hw1 => ?_)
    exact ⟨(by rw [((((((((((hF.neg hq1).neg hq2).neg hq3).pos hq15).f hq16).neg hq20).pos hq24).t hq25).neg hq26)).eq] <;> first | rfl | (simp only [List.length_set] <;> rfl)), hw1.ext_out⟩
  refine JL_qg (q_move) (k := ?_)
  refine JL_qg (q_move) (k := ?_)
  refine JL_qg (q_eqlB Tryz.runUnderlying4) (k := ?_)
  refine JL_q (q_pickT) (k := ?_)
  refine JL_q (q_move) (k := ?_)
  refine JL_bool 108 rfl (fun hq27 => ?_) (fun hq27 => ?_)
  rotate_left
  · refine JL_skips 4 rfl ?_
    refine JL_q (q_pickF) (k := ?_)
    refine JL_q (q_assign) (k := ?_)
    refine JL_nil ?_
    refine JX_seq ?_
    refine J_ret ?_
    refine JX_block_ret ?_
    refine JX_seq_ret ?_
    refine JX_ret Tryz.results7 (Res.tmp rfl Res.nil) (fun w1 hw1 => ?_)
    exact ⟨(by rw [(((((((((((hF.neg hq1).neg hq2).neg hq3).pos hq15).f hq16).neg hq20).pos hq24).t hq25).pos hq26).f hq27)).eq] <;> first | rfl | (simp only [List.length_set] <;> rfl)), hw1.ext_out⟩
  refine JL_qg (q_move) (k := ?_)
  refine JL_qg (q_move) (k := ?_)
  refine JL_qg (q_add) (k := ?_)
  refine JL_qg (q_eql) (k := ?_)
  refine JL_q (q_pickT) (k := ?_)
  refine JL_q (q_assign) (k := ?_)
  refine JL_nil ?_
  refine JX_seq ?_
  refine J_ret ?_
  refine JX_block_ret ?_
  refine JX_seq_ret ?_
  refine JX_ret Tryz.results7 (Res.tmp rfl Res.nil) (fun w1 hw1 => ?_)
  exact ⟨(by rw [(((((((((((hF.neg hq1).neg hq2).neg hq3).pos hq15).f hq16).neg hq20).pos hq24).t hq25).pos hq26).t hq27)).eq] <;> first | rfl | (simp only [List.length_set] <;> rfl)), hw1.ext_out⟩

end Go.Proofs.YtnblakihpoacjaaGreatDoor.Jd

