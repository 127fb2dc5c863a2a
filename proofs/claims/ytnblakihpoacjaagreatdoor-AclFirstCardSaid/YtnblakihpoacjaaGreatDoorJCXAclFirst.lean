/- Part of the proofs of this seat: walks and plain facts. No condition. -/
import Derived.Test.YtnblakihpoacjaaGreatDoorProg
import Derived.Test.YtnblakihpoacjaaGreatDoorP6
namespace Go.Proofs.YtnblakihpoacjaaGreatDoor.Jd
open Go.Proofs
open Go.RowKit (Below)
set_option maxRecDepth 100000
set_option maxHeartbeats 8000000
set_option linter.unusedVariables false
set_option linter.unusedSimpArgs false
theorem lAclFirst_ok (w : World) {l_a : Option Addr} {l_c : Nat} {ea0 : Addr} {ea1 : Addr} {ea2 : Addr} {ea3 : Addr} {ea4 : Addr} {ea5 : Addr} {l : List Rule} {t : Target} (h_l : Sl w eRule 5 l_a l) (k_l : l.length ≤ l_c) (hG : Gl w) (hE : Er w ea0 ea1 ea2 ea3 ea4 ea5) : Val Tryz.prog 6 [(Value.slice (l_a) (l.length) (l_c)), (Value.agg [(Value.int .i64 (t.addr)), (Value.int .i64 (t.port))].toArray)] w (Value.bool ((lAclFirst l t))) := by
  have hF := Is.refl (lAclFirst l t)
  refine enter Tryz.func6 Tryz.ntmps6 (h := ?_)
  refine J_seq ?_
  refine J_reg ?_
  refine JL_a noMk (a_box (l := [_, _])) (k := fun r1 hr1 => ?_)
  refine JL_q (q_assign) (k := ?_)
  refine JL_nil ?_
  refine JX_seq ?_
  refine J_seq ?_
  refine J_reg ?_
  refine JL_v (args := []) (c_callA Tryz.call11) (fun w1 hw1 => lShown8_ok w1 (hG := hG.ext hw1.ext_out) (hE := hE.ext hw1.ext_out)) (k := ?_)
  refine JL_q (q_assign) (k := ?_)
  refine JL_nil ?_
  refine JX_seq ?_
  refine J_seq ?_
  refine J_reg ?_
  refine JL_q (q_move) (k := ?_)
  refine JL_p (args := [(Value.slice (l_a) (l.length) (l_c))]) (c_callA Tryz.call16) (fun w1 hw1 => lFew8_ok w1 (l := l) (h_l := (SlJ.of_base h_l) w1 hw1) (k_l := by first | exact lb | decide)) (k := ?_)
  rintro w1_1 e1_1 w2_1 hw1_1 ⟨a1_1, c1_1, B1_1, he_1, hf_1, ho1_1, hl1_1⟩
  refine ⟨_, (B1_1 ++ ((r1, Obj.cells [(Value.int .i64 (t.addr)), (Value.int .i64 (t.port))].toArray 39) :: [])), he_1, hw1_1.fresh hf_1, ?_⟩
  refine JL_q (q_assign) (k := ?_)
  refine JL_nil ?_
  refine JX_seq ?_
  refine J_seq ?_
  refine J_reg ?_
  refine JL_q (q_move) (k := ?_)
  refine JL_q (q_loadA Tryz.isAgg39 Tryz.sizeOf39) (k := ?_)
  refine JL_v (args := [(Value.slice (a1_1) ((lFew8 l).length) (c1_1)), (Value.agg [(Value.int .i64 (t.addr)), (Value.int .i64 (t.port))].toArray)]) (c_callA Tryz.call17) (fun w1 hw1 => aclDecide_ok w1 (l := (lFew8 l)) (t := t) (h_l := (ho1_1.slj eRule_ok) w1 hw1) (n_l := by first | exact lb | decide) (hG := hG.ext hw1.ext_out) (hE := hE.ext hw1.ext_out)) (k := ?_)
  have had_43044 := aclDecide_bd (lFew8 l) t
  refine JL_q (q_move) (k := ?_)
  refine JL_q (q_ext) (k := ?_)
  refine JL_q (q_ext) (k := ?_)
  refine JL_q (q_ext) (k := ?_)
  refine JL_q (q_assign) (k := ?_)
  refine JL_q (q_assign) (k := ?_)
  refine JL_q (q_assign) (k := ?_)
  refine JL_nil ?_
  refine JX_seq ?_
  refine J_seq ?_
  refine J_seq ?_
  refine J_reg ?_
  refine JL_q (q_move) (k := ?_)
  refine JL_q (q_neq) (k := ?_)
  refine JL_nil ?_
  refine JX_seq ?_
  refine J_dec rfl (fun hq1 => ?_) (fun hq1 => ?_)
  · refine J_seq ?_
    refine J_reg ?_
    refine JL_q (q_move) (k := ?_)
    refine JL_q (q_move) (k := ?_)
    refine JL_bool 24 rfl (fun hq2 => ?_) (fun hq2 => ?_)
    rotate_left
    · refine JL_skips 2 rfl ?_
      refine JL_q (q_pickF) (k := ?_)
      refine JL_q (q_move) (k := ?_)
      refine JL_skips 2 rfl ?_
      refine JL_q (q_pickF) (k := ?_)
      refine JL_q (q_assign) (k := ?_)
      refine JL_nil ?_
      refine JX_seq ?_
      refine J_ret ?_
      refine JX_seq_ret ?_
      refine JX_ret Tryz.results6 (Res.tmp rfl Res.nil) (fun w1 hw1 => ?_)
      exact ⟨(by rw [(((hF.pos hq1).f hq2)).eq] <;> first | rfl | (simp only [List.length_set] <;> rfl)), hw1.ext_out⟩
    refine JL_qg (q_move) (k := ?_)
    refine JL_qg (q_not) (k := ?_)
    refine JL_q (q_pickT) (k := ?_)
    refine JL_q (q_move) (k := ?_)
    refine JL_bool 28 rfl (fun hq3 => ?_) (fun hq3 => ?_)
    rotate_left
    · refine JL_skips 2 rfl ?_
      refine JL_q (q_pickF) (k := ?_)
      refine JL_q (q_assign) (k := ?_)
      refine JL_nil ?_
      refine JX_seq ?_
      refine J_ret ?_
      refine JX_seq_ret ?_
      refine JX_ret Tryz.results6 (Res.tmp rfl Res.nil) (fun w1 hw1 => ?_)
      exact ⟨(by rw [((((hF.pos hq1).t hq2).f hq3)).eq] <;> first | rfl | (simp only [List.length_set] <;> rfl)), hw1.ext_out⟩
    refine JL_qg (q_move) (k := ?_)
    refine JL_qg (q_eql) (k := ?_)
    refine JL_q (q_pickT) (k := ?_)
    refine JL_q (q_assign) (k := ?_)
    refine JL_nil ?_
    refine JX_seq ?_
    refine J_ret ?_
    refine JX_seq_ret ?_
    refine JX_ret Tryz.results6 (Res.tmp rfl Res.nil) (fun w1 hw1 => ?_)
    exact ⟨(by rw [((((hF.pos hq1).t hq2).t hq3)).eq] <;> first | rfl | (simp only [List.length_set] <;> rfl)), hw1.ext_out⟩
  refine J_skip ?_
  refine JX_seq ?_
  refine J_seq ?_
  refine J_seq ?_
  refine J_reg ?_
  refine JL_q (q_move) (k := ?_)
  refine JL_q (q_lss) (k := ?_)
  refine JL_q (q_move) (k := ?_)
  refine JL_dec 34 rfl (fun hq4 => ?_) (fun hq4 => ?_)
  · refine JL_skips 4 rfl ?_
    refine JL_q (q_pickT) (k := ?_)
    refine JL_nil ?_
    refine JX_seq ?_
    refine J_true rfl ?_
    refine J_seq ?_
    refine J_reg ?_
    refine JL_q (q_assign) (k := ?_)
    refine JL_nil ?_
    refine JX_seq ?_
    refine J_ret ?_
    refine JX_seq_ret ?_
    refine JX_ret Tryz.results6 (Res.tmp rfl Res.nil) (fun w1 hw1 => ?_)
    exact ⟨(by rw [(((hF.neg hq1).pos hq4)).eq] <;> first | rfl | (simp only [List.length_set] <;> rfl)), hw1.ext_out⟩
  refine JL_qg (q_move) (k := ?_)
  refine JL_qg (q_move) (k := ?_)
  refine JL_qg (q_lenS Tryz.runUnderlying36) (k := ?_)
  refine JL_qg (q_geq) (k := ?_)
  refine JL_q (q_pickF) (k := ?_)
  refine JL_nil ?_
  refine JX_seq ?_
  refine J_dec rfl (fun hq5 => ?_) (fun hq5 => ?_)
  · refine J_seq ?_
    refine J_reg ?_
    refine JL_q (q_assign) (k := ?_)
    refine JL_nil ?_
    refine JX_seq ?_
    refine J_ret ?_
    refine JX_seq_ret ?_
    refine JX_ret Tryz.results6 (Res.tmp rfl Res.nil) (fun w1 hw1 => ?_)
    exact ⟨(by rw [((((hF.neg hq1).neg hq4).pos hq5)).eq] <;> first | rfl | (simp only [List.length_set] <;> rfl)), hw1.ext_out⟩
  refine J_skip ?_
  refine JX_seq ?_
  refine J_seq ?_
  refine J_reg ?_
  refine JL_q (q_move) (k := ?_)
  refine JL_q (q_assign) (k := ?_)
  refine JL_nil ?_
  refine JX_seq ?_
  refine J_seq ?_
  refine J_seq ?_
  refine J_reg ?_
  refine JL_q (q_move) (k := ?_)
  refine JL_q (q_lss) (k := ?_)
  refine JL_nil ?_
  refine JX_seq ?_
  refine J_dec rfl (fun hq6 => ?_) (fun hq6 => ?_)
  rotate_left
  · refine J_skip ?_
    refine JX_seq ?_
    refine J_seq ?_
    refine J_seq ?_
    refine J_reg ?_
    refine JL_q (q_assign) (k := ?_)
    refine JL_nil ?_
    refine JX_seq ?_
    refine J_block ?_
    refine J_loop2 (σ1 := Nat) (σ2 := Nat) (fun n_6 i_5 => (B1_1 ++ ((r1, Obj.cells [(Value.int .i64 (t.addr)), (Value.int .i64 (t.port))].toArray 39) :: []))) (fun n_6 i_5 => [(0, (Value.slice (a1_1) ((lFew8 l).length) (c1_1))), (3, (Value.pointer (some ⟨r1, 0, none⟩))), (4, (Value.bool (false))), (5, (Value.bool (lShown8))), (6, (Value.bool (((aclDecide (lFew8 l) t).1)))), (7, (Value.int .i64 (((aclDecide (lFew8 l) t).2.1)))), (9, (Value.int .i64 (((aclDecide (lFew8 l) t).2.1)))), (10, (Value.int .i64 (((i_5 : Nat) : Int))))]) (fun n_6 i_5 => (((aclDecide (lFew8 l) t).2.1) - ((i_5 : Nat) : Int)).toNat < n_6 ∧ Is (lAclFirst_l1 l t ((((aclDecide (lFew8 l) t).2.1) - ((0 : Nat) : Int)).toNat + 1) 0) (lAclFirst_l1 l t n_6 i_5)) (fun n_6 i_5 => n_6) ((((aclDecide (lFew8 l) t).2.1) - ((0 : Nat) : Int)).toNat + 1) 0 ?_ se (List.Perm.refl _) ?_
    · exact ⟨Nat.lt_succ_self _, Is.refl _⟩
    · rintro (_ | n_6) i_5 ⟨hm8, hF7⟩
      · omega
      refine J_seq ?_
      refine J_seq ?_
      refine J_reg ?_
      refine JL_q (q_move) (k := ?_)
      refine JL_q (q_move) (k := ?_)
      refine JL_q (q_lss) (k := ?_)
      refine JL_nil ?_
      refine JX_seq ?_
      refine J_dec rfl (fun hq13 => ?_) (fun hq13 => ?_)
      · refine J_skip ?_
        refine JX_seq ?_
        refine J_seq ?_
        refine J_block ?_
        refine J_seq ?_
        refine J_plan mixed 6 [(true, 0), (true, 1), (true, 2), (true, 3), (true, 4), (false, 5)] (by kernel_rfl) ?_
        refine JD_q (q_move) (k := ?_)
        refine JD_q (q_move) (k := ?_)
        refine JD_q (q_idx (n := (lFew8 l).length) Tryz.runUnderlying36 Tryz.sizeOf27 i_5 (ho1_1.slj eRule_ok) (gD (by first | exact ix)) (by first | rfl | simp)) (k := ?_)
        refine JD_q (q_loadEA Tryz.isAgg27 Tryz.sizeOf27 i_5 (ho1_1.slj eRule_ok) (gD (by first | exact ix))) (k := ?_)
        refine JD_q (q_loadA Tryz.isAgg39 Tryz.sizeOf39) (k := ?_)
        refine JD_v (args := [(Value.agg [(Value.bool ((((lFew8 l).getD i_5 default).allow))), (Value.int .i64 ((((lFew8 l).getD i_5 default).pfx.addr))), (Value.int .i64 ((((lFew8 l).getD i_5 default).pfx.bits))), (Value.int .i64 ((((lFew8 l).getD i_5 default).prt.lo))), (Value.int .i64 ((((lFew8 l).getD i_5 default).prt.hi)))].toArray), (Value.agg [(Value.int .i64 (t.addr)), (Value.int .i64 (t.port))].toArray)]) (c_callA Tryz.call22) (fun w1 hw1 => aclFits_ok w1 (r := ((lFew8 l).getD i_5 default)) (t := t) (hG := hG.ext hw1.ext_out) (hE := hE.ext hw1.ext_out)) (k := ?_)
        refine JD_nil0 ?_
        refine JL_nil ?_
        refine JX_seq ?_
        refine J_cond rfl (fun hq14 => ?_) (fun hq14 => ?_)
        rotate_left
        · refine J_skip ?_
          refine JX_block ?_
          refine JX_seq ?_
          refine J_reg ?_
          refine JL_q (q_move) (k := ?_)
          refine JL_q (q_add) (k := ?_)
          refine JL_q (q_assign) (k := ?_)
          refine JL_nil ?_
          exact JX_inv2 n_6 (i_5 + 1) ⟨by omega, ((hF7.pos hq13).f hq14)⟩ (Nat.lt_succ_self _) se (List.Perm.refl _)
        refine J_seq ?_
        refine J_reg ?_
        refine JL_q (q_assign) (k := ?_)
        refine JL_nil ?_
        refine JX_seq ?_
        refine J_ret ?_
        refine JX_block_ret ?_
        refine JX_seq_ret ?_
        refine JX_inv_ret ?_
        refine JX_block_ret ?_
        refine JX_seq_ret ?_
        refine JX_ret Tryz.results6 (Res.tmp rfl Res.nil) (fun w1 hw1 => ?_)
        exact ⟨(by rw [((((((hF.neg hq1).neg hq4).neg hq5).neg hq6).er1 ((hF7.pos hq13).t hq14))).eq] <;> first | rfl | (simp only [List.length_set] <;> rfl)), hw1.ext_out⟩
      refine J_exit ?_
      refine JX_seq_exit ?_
      refine JX_inv_exit ?_
      refine JX_block_hit ?_
      refine JX_seq ?_
      refine J_seq ?_
      refine J_seq ?_
      refine J_reg ?_
      refine JL_q (q_move) (k := ?_)
      refine JL_q (q_lss) (k := ?_)
      refine JL_nil ?_
      refine JX_seq ?_
      refine J_dec rfl (fun hq15 => ?_) (fun hq15 => ?_)
      · refine J_seq ?_
        refine J_reg ?_
        refine JL_q (q_move) (k := ?_)
        refine JL_q (q_move) (k := ?_)
        refine JL_bool 59 rfl (fun hq16 => ?_) (fun hq16 => ?_)
        rotate_left
        · refine JL_skips 2 rfl ?_
          refine JL_q (q_pickF) (k := ?_)
          refine JL_q (q_assign) (k := ?_)
          refine JL_nil ?_
          refine JX_seq ?_
          refine J_ret ?_
          refine JX_seq_ret ?_
          refine JX_ret Tryz.results6 (Res.tmp rfl Res.nil) (fun w1 hw1 => ?_)
          exact ⟨(by rw [((((((((hF.neg hq1).neg hq4).neg hq5).neg hq6).ok1 (hF7.neg hq13)).pos hq15).f hq16)).eq] <;> first | rfl | (simp only [List.length_set] <;> rfl)), hw1.ext_out⟩
        refine JL_qg (q_move) (k := ?_)
        refine JL_qg (q_not) (k := ?_)
        refine JL_q (q_pickT) (k := ?_)
        refine JL_q (q_assign) (k := ?_)
        refine JL_nil ?_
        refine JX_seq ?_
        refine J_ret ?_
        refine JX_seq_ret ?_
        refine JX_ret Tryz.results6 (Res.tmp rfl Res.nil) (fun w1 hw1 => ?_)
        exact ⟨(by rw [((((((((hF.neg hq1).neg hq4).neg hq5).neg hq6).ok1 (hF7.neg hq13)).pos hq15).t hq16)).eq] <;> first | rfl | (simp only [List.length_set] <;> rfl)), hw1.ext_out⟩
      refine J_skip ?_
      refine JX_seq ?_
      refine J_seq ?_
      refine J_plan mixed 19 [(true, 0), (true, 1), (true, 2), (true, 3), (true, 4), (true, 5), (true, 6), (false, 7), (true, 8), (true, 9), (true, 10), (true, 11), (true, 12), (true, 13), (true, 14), (true, 15), (true, 16), (true, 17), (true, 18)] (by kernel_rfl) ?_
      refine JD_q (q_move) (k := ?_)
      refine JD_q (q_move) (k := ?_)
      refine JD_bool 64 rfl (fun hq17 => ?_) (fun hq17 => ?_)
      rotate_left
      · refine JD_skips 6 rfl ?_
        refine JD_q (q_pickF) (k := ?_)
        refine JD_q (q_move) (k := ?_)
        refine JD_skips 7 rfl ?_
        refine JD_q (q_pickF) (k := ?_)
        refine JD_q (q_assign) (k := ?_)
        refine JD_nil0 ?_
        refine JL_nil ?_
        refine JX_seq ?_
        refine J_ret ?_
        refine JX_ret Tryz.results6 (Res.tmp rfl Res.nil) (fun w1 hw1 => ?_)
        exact ⟨(by rw [((((((((hF.neg hq1).neg hq4).neg hq5).neg hq6).ok1 (hF7.neg hq13)).neg hq15).f hq17)).eq] <;> first | rfl | (simp only [List.length_set] <;> rfl)), hw1.ext_out⟩
      refine JD_qg (q_move) (k := ?_)
      refine JD_qg (q_move) (k := ?_)
      refine JD_qg (q_idx (n := (lFew8 l).length) Tryz.runUnderlying36 Tryz.sizeOf27 ((((aclDecide (lFew8 l) t).2.1)).toNat) (ho1_1.slj eRule_ok) (gD (by first | exact ix)) (by first | rfl | simp)) (k := ?_)
      refine JD_qg (q_loadEA Tryz.isAgg27 Tryz.sizeOf27 ((((aclDecide (lFew8 l) t).2.1)).toNat) (ho1_1.slj eRule_ok) (gD (by first | exact ix))) (k := ?_)
      refine JD_qg (q_loadA Tryz.isAgg39 Tryz.sizeOf39) (k := ?_)
      refine JD_vg (args := [(Value.agg [(Value.bool ((((lFew8 l).getD ((((aclDecide (lFew8 l) t).2.1)).toNat) default).allow))), (Value.int .i64 ((((lFew8 l).getD ((((aclDecide (lFew8 l) t).2.1)).toNat) default).pfx.addr))), (Value.int .i64 ((((lFew8 l).getD ((((aclDecide (lFew8 l) t).2.1)).toNat) default).pfx.bits))), (Value.int .i64 ((((lFew8 l).getD ((((aclDecide (lFew8 l) t).2.1)).toNat) default).prt.lo))), (Value.int .i64 ((((lFew8 l).getD ((((aclDecide (lFew8 l) t).2.1)).toNat) default).prt.hi)))].toArray), (Value.agg [(Value.int .i64 (t.addr)), (Value.int .i64 (t.port))].toArray)]) (c_callA Tryz.call22) (fun w1 hw1 => aclFits_ok w1 (r := ((lFew8 l).getD ((((aclDecide (lFew8 l) t).2.1)).toNat) default)) (t := t) (hG := hG.ext hw1.ext_out) (hE := hE.ext hw1.ext_out)) (k := ?_)
      refine JD_q (q_pickT) (k := ?_)
      refine JD_q (q_move) (k := ?_)
      refine JD_bool 72 rfl (fun hq18 => ?_) (fun hq18 => ?_)
      rotate_left
      · refine JD_skips 7 rfl ?_
        refine JD_q (q_pickF) (k := ?_)
        refine JD_q (q_assign) (k := ?_)
        refine JD_nil0 ?_
        refine JL_nil ?_
        refine JX_seq ?_
        refine J_ret ?_
        refine JX_ret Tryz.results6 (Res.tmp rfl Res.nil) (fun w1 hw1 => ?_)
        exact ⟨(by rw [(((((((((hF.neg hq1).neg hq4).neg hq5).neg hq6).ok1 (hF7.neg hq13)).neg hq15).t hq17).f hq18)).eq] <;> first | rfl | (simp only [List.length_set] <;> rfl)), hw1.ext_out⟩
      refine JD_qg (q_move) (k := ?_)
      refine JD_qg (q_move) (k := ?_)
      refine JD_qg (q_move) (k := ?_)
      refine JD_qg (q_idx (n := (lFew8 l).length) Tryz.runUnderlying36 Tryz.sizeOf27 ((((aclDecide (lFew8 l) t).2.1)).toNat) (ho1_1.slj eRule_ok) (gD (by first | exact ix)) (by first | rfl | simp)) (k := ?_)
      refine JD_qg (q_fldE FO_27_0) (k := ?_)
      refine JD_qg (q_loadE Tryz.isAgg4 ((((aclDecide (lFew8 l) t).2.1)).toNat) 0 (ho1_1.slj eRule_ok) (gD (by first | exact ix))) (k := ?_)
      refine JD_qg (q_eqlB Tryz.runUnderlying4) (k := ?_)
      refine JD_q (q_pickT) (k := ?_)
      refine JD_q (q_assign) (k := ?_)
      refine JD_nil0 ?_
      refine JL_nil ?_
      refine JX_seq ?_
      refine J_ret ?_
      refine JX_ret Tryz.results6 (Res.tmp rfl Res.nil) (fun w1 hw1 => ?_)
      exact ⟨(by rw [(((((((((hF.neg hq1).neg hq4).neg hq5).neg hq6).ok1 (hF7.neg hq13)).neg hq15).t hq17).t hq18)).eq] <;> first | rfl | (simp only [List.length_set] <;> rfl)), hw1.ext_out⟩
  refine J_reg ?_
  refine JL_q (q_move) (k := ?_)
  refine JL_q (q_lenS Tryz.runUnderlying36) (k := ?_)
  refine JL_q (q_assign) (k := ?_)
  refine JL_nil ?_
  refine JX_seq ?_
  refine J_seq ?_
  refine J_seq ?_
  refine J_reg ?_
  refine JL_q (q_assign) (k := ?_)
  refine JL_nil ?_
  refine JX_seq ?_
  refine J_block ?_
  refine J_loop2 (σ1 := Nat) (σ2 := Nat) (fun n_2 i_1 => (B1_1 ++ ((r1, Obj.cells [(Value.int .i64 (t.addr)), (Value.int .i64 (t.port))].toArray 39) :: []))) (fun n_2 i_1 => [(0, (Value.slice (a1_1) ((lFew8 l).length) (c1_1))), (3, (Value.pointer (some ⟨r1, 0, none⟩))), (4, (Value.bool (false))), (5, (Value.bool (lShown8))), (6, (Value.bool (((aclDecide (lFew8 l) t).1)))), (7, (Value.int .i64 (((aclDecide (lFew8 l) t).2.1)))), (9, (Value.int .i64 (((((lFew8 l).length) : Nat) : Int)))), (10, (Value.int .i64 (((i_1 : Nat) : Int))))]) (fun n_2 i_1 => ((lFew8 l).length) - i_1 < n_2 ∧ Is (lAclFirst_l0 l t (((lFew8 l).length) + 1) 0) (lAclFirst_l0 l t n_2 i_1)) (fun n_2 i_1 => n_2) (((lFew8 l).length) + 1) 0 ?_ se (List.Perm.refl _) ?_
  · exact ⟨Nat.lt_succ_self _, Is.refl _⟩
  · rintro (_ | n_2) i_1 ⟨hm4, hF3⟩
    · omega
    refine J_seq ?_
    refine J_seq ?_
    refine J_reg ?_
    refine JL_q (q_move) (k := ?_)
    refine JL_q (q_move) (k := ?_)
    refine JL_q (q_lss) (k := ?_)
    refine JL_nil ?_
    refine JX_seq ?_
    refine J_dec rfl (fun hq7 => ?_) (fun hq7 => ?_)
    · refine J_skip ?_
      refine JX_seq ?_
      refine J_seq ?_
      refine J_block ?_
      refine J_seq ?_
      refine J_plan mixed 6 [(true, 0), (true, 1), (true, 2), (true, 3), (true, 4), (false, 5)] (by kernel_rfl) ?_
      refine JD_q (q_move) (k := ?_)
      refine JD_q (q_move) (k := ?_)
      refine JD_q (q_idx (n := (lFew8 l).length) Tryz.runUnderlying36 Tryz.sizeOf27 i_1 (ho1_1.slj eRule_ok) (gD (by first | exact ix)) (by first | rfl | simp)) (k := ?_)
      refine JD_q (q_loadEA Tryz.isAgg27 Tryz.sizeOf27 i_1 (ho1_1.slj eRule_ok) (gD (by first | exact ix))) (k := ?_)
      refine JD_q (q_loadA Tryz.isAgg39 Tryz.sizeOf39) (k := ?_)
      refine JD_v (args := [(Value.agg [(Value.bool ((((lFew8 l).getD i_1 default).allow))), (Value.int .i64 ((((lFew8 l).getD i_1 default).pfx.addr))), (Value.int .i64 ((((lFew8 l).getD i_1 default).pfx.bits))), (Value.int .i64 ((((lFew8 l).getD i_1 default).prt.lo))), (Value.int .i64 ((((lFew8 l).getD i_1 default).prt.hi)))].toArray), (Value.agg [(Value.int .i64 (t.addr)), (Value.int .i64 (t.port))].toArray)]) (c_callA Tryz.call22) (fun w1 hw1 => aclFits_ok w1 (r := ((lFew8 l).getD i_1 default)) (t := t) (hG := hG.ext hw1.ext_out) (hE := hE.ext hw1.ext_out)) (k := ?_)
      refine JD_nil0 ?_
      refine JL_nil ?_
      refine JX_seq ?_
      refine J_cond rfl (fun hq8 => ?_) (fun hq8 => ?_)
      rotate_left
      · refine J_skip ?_
        refine JX_block ?_
        refine JX_seq ?_
        refine J_reg ?_
        refine JL_q (q_move) (k := ?_)
        refine JL_q (q_add) (k := ?_)
        refine JL_q (q_assign) (k := ?_)
        refine JL_nil ?_
        exact JX_inv2 n_2 (i_1 + 1) ⟨by omega, ((hF3.pos hq7).f hq8)⟩ (Nat.lt_succ_self _) se (List.Perm.refl _)
      refine J_seq ?_
      refine J_reg ?_
      refine JL_q (q_assign) (k := ?_)
      refine JL_nil ?_
      refine JX_seq ?_
      refine J_ret ?_
      refine JX_block_ret ?_
      refine JX_seq_ret ?_
      refine JX_inv_ret ?_
      refine JX_block_ret ?_
      refine JX_seq_ret ?_
      refine JX_ret Tryz.results6 (Res.tmp rfl Res.nil) (fun w1 hw1 => ?_)
      exact ⟨(by rw [((((((hF.neg hq1).neg hq4).neg hq5).pos hq6).er1 ((hF3.pos hq7).t hq8))).eq] <;> first | rfl | (simp only [List.length_set] <;> rfl)), hw1.ext_out⟩
    refine J_exit ?_
    refine JX_seq_exit ?_
    refine JX_inv_exit ?_
    refine JX_block_hit ?_
    refine JX_seq ?_
    refine J_seq ?_
    refine J_seq ?_
    refine J_reg ?_
    refine JL_q (q_move) (k := ?_)
    refine JL_q (q_lss) (k := ?_)
    refine JL_nil ?_
    refine JX_seq ?_
    refine J_dec rfl (fun hq9 => ?_) (fun hq9 => ?_)
    · refine J_seq ?_
      refine J_reg ?_
      refine JL_q (q_move) (k := ?_)
      refine JL_q (q_move) (k := ?_)
      refine JL_bool 59 rfl (fun hq10 => ?_) (fun hq10 => ?_)
      rotate_left
      · refine JL_skips 2 rfl ?_
        refine JL_q (q_pickF) (k := ?_)
        refine JL_q (q_assign) (k := ?_)
        refine JL_nil ?_
        refine JX_seq ?_
        refine J_ret ?_
        refine JX_seq_ret ?_
        refine JX_ret Tryz.results6 (Res.tmp rfl Res.nil) (fun w1 hw1 => ?_)
        exact ⟨(by rw [((((((((hF.neg hq1).neg hq4).neg hq5).pos hq6).ok1 (hF3.neg hq7)).pos hq9).f hq10)).eq] <;> first | rfl | (simp only [List.length_set] <;> rfl)), hw1.ext_out⟩
      refine JL_qg (q_move) (k := ?_)
      refine JL_qg (q_not) (k := ?_)
      refine JL_q (q_pickT) (k := ?_)
      refine JL_q (q_assign) (k := ?_)
      refine JL_nil ?_
      refine JX_seq ?_
      refine J_ret ?_
      refine JX_seq_ret ?_
      refine JX_ret Tryz.results6 (Res.tmp rfl Res.nil) (fun w1 hw1 => ?_)
      exact ⟨(by rw [((((((((hF.neg hq1).neg hq4).neg hq5).pos hq6).ok1 (hF3.neg hq7)).pos hq9).t hq10)).eq] <;> first | rfl | (simp only [List.length_set] <;> rfl)), hw1.ext_out⟩
    refine J_skip ?_
    refine JX_seq ?_
    refine J_seq ?_
    refine J_plan mixed 19 [(true, 0), (true, 1), (true, 2), (true, 3), (true, 4), (true, 5), (true, 6), (false, 7), (true, 8), (true, 9), (true, 10), (true, 11), (true, 12), (true, 13), (true, 14), (true, 15), (true, 16), (true, 17), (true, 18)] (by kernel_rfl) ?_
    refine JD_q (q_move) (k := ?_)
    refine JD_q (q_move) (k := ?_)
    refine JD_bool 64 rfl (fun hq11 => ?_) (fun hq11 => ?_)
    rotate_left
    · refine JD_skips 6 rfl ?_
      refine JD_q (q_pickF) (k := ?_)
      refine JD_q (q_move) (k := ?_)
      refine JD_skips 7 rfl ?_
      refine JD_q (q_pickF) (k := ?_)
      refine JD_q (q_assign) (k := ?_)
      refine JD_nil0 ?_
      refine JL_nil ?_
      refine JX_seq ?_
      refine J_ret ?_
      refine JX_ret Tryz.results6 (Res.tmp rfl Res.nil) (fun w1 hw1 => ?_)
      exact ⟨(by rw [((((((((hF.neg hq1).neg hq4).neg hq5).pos hq6).ok1 (hF3.neg hq7)).neg hq9).f hq11)).eq] <;> first | rfl | (simp only [List.length_set] <;> rfl)), hw1.ext_out⟩
    refine JD_qg (q_move) (k := ?_)
    refine JD_qg (q_move) (k := ?_)
    refine JD_qg (q_idx (n := (lFew8 l).length) Tryz.runUnderlying36 Tryz.sizeOf27 ((((aclDecide (lFew8 l) t).2.1)).toNat) (ho1_1.slj eRule_ok) (gD (by first | exact ix)) (by first | rfl | simp)) (k := ?_)
    refine JD_qg (q_loadEA Tryz.isAgg27 Tryz.sizeOf27 ((((aclDecide (lFew8 l) t).2.1)).toNat) (ho1_1.slj eRule_ok) (gD (by first | exact ix))) (k := ?_)
    refine JD_qg (q_loadA Tryz.isAgg39 Tryz.sizeOf39) (k := ?_)
    refine JD_vg (args := [(Value.agg [(Value.bool ((((lFew8 l).getD ((((aclDecide (lFew8 l) t).2.1)).toNat) default).allow))), (Value.int .i64 ((((lFew8 l).getD ((((aclDecide (lFew8 l) t).2.1)).toNat) default).pfx.addr))), (Value.int .i64 ((((lFew8 l).getD ((((aclDecide (lFew8 l) t).2.1)).toNat) default).pfx.bits))), (Value.int .i64 ((((lFew8 l).getD ((((aclDecide (lFew8 l) t).2.1)).toNat) default).prt.lo))), (Value.int .i64 ((((lFew8 l).getD ((((aclDecide (lFew8 l) t).2.1)).toNat) default).prt.hi)))].toArray), (Value.agg [(Value.int .i64 (t.addr)), (Value.int .i64 (t.port))].toArray)]) (c_callA Tryz.call22) (fun w1 hw1 => aclFits_ok w1 (r := ((lFew8 l).getD ((((aclDecide (lFew8 l) t).2.1)).toNat) default)) (t := t) (hG := hG.ext hw1.ext_out) (hE := hE.ext hw1.ext_out)) (k := ?_)
    refine JD_q (q_pickT) (k := ?_)
    refine JD_q (q_move) (k := ?_)
    refine JD_bool 72 rfl (fun hq12 => ?_) (fun hq12 => ?_)
    rotate_left
    · refine JD_skips 7 rfl ?_
      refine JD_q (q_pickF) (k := ?_)
      refine JD_q (q_assign) (k := ?_)
      refine JD_nil0 ?_
      refine JL_nil ?_
      refine JX_seq ?_
      refine J_ret ?_
      refine JX_ret Tryz.results6 (Res.tmp rfl Res.nil) (fun w1 hw1 => ?_)
      exact ⟨(by rw [(((((((((hF.neg hq1).neg hq4).neg hq5).pos hq6).ok1 (hF3.neg hq7)).neg hq9).t hq11).f hq12)).eq] <;> first | rfl | (simp only [List.length_set] <;> rfl)), hw1.ext_out⟩
    refine JD_qg (q_move) (k := ?_)
    refine JD_qg (q_move) (k := ?_)
    refine JD_qg (q_move) (k := ?_)
    refine JD_qg (q_idx (n := (lFew8 l).length) Tryz.runUnderlying36 Tryz.sizeOf27 ((((aclDecide (lFew8 l) t).2.1)).toNat) (ho1_1.slj eRule_ok) (gD (by first | exact ix)) (by first | rfl | simp)) (k := ?_)
    refine JD_qg (q_fldE FO_27_0) (k := ?_)
    refine JD_qg (q_loadE Tryz.isAgg4 ((((aclDecide (lFew8 l) t).2.1)).toNat) 0 (ho1_1.slj eRule_ok) (gD (by first | exact ix))) (k := ?_)
    refine JD_qg (q_eqlB Tryz.runUnderlying4) (k := ?_)
    refine JD_q (q_pickT) (k := ?_)
    refine JD_q (q_assign) (k := ?_)
    refine JD_nil0 ?_
    refine JL_nil ?_
    refine JX_seq ?_
    refine J_ret ?_
    refine JX_ret Tryz.results6 (Res.tmp rfl Res.nil) (fun w1 hw1 => ?_)
    exact ⟨(by rw [(((((((((hF.neg hq1).neg hq4).neg hq5).pos hq6).ok1 (hF3.neg hq7)).neg hq9).t hq11).t hq12)).eq] <;> first | rfl | (simp only [List.length_set] <;> rfl)), hw1.ext_out⟩

end Go.Proofs.YtnblakihpoacjaaGreatDoor.Jd

