/- Blocks of steps that come often. No condition. -/
import Derived.CallsIn
import Derived.RangeFuncLeaves
import Derived.RangeFuncRecord
import Derived.Below
import Derived.OrdersHeld
import Derived.KernelRfl
namespace Go.Proofs.YtopjaeoklkpcpaaGreatDoor.Jd
set_option linter.unusedVariables false
set_option linter.unusedSimpArgs false
structure Hid (q : Prop) : Prop where
  out : q
section
variable {p q : Prop}
theorem Z0 (k : q) (h : Hid q → p := by intro z; refine JL_nil ?_; refine JX_seq ?_; exact z.1) : p := h ⟨k⟩
theorem Z1 (k : q) (h : Hid q → p := by intro z; refine Z488 ?_; refine Z0 ?_; exact z.1) : p := h ⟨k⟩
theorem Z2 (k : q) (h : Hid q → p := by intro z; refine J_seq ?_; refine Z486 ?_; exact z.1) : p := h ⟨k⟩
theorem Z4 (k : q) (h : Hid q → p := by intro z; refine Z2 ?_; refine Z481 ?_; exact z.1) : p := h ⟨k⟩
theorem Z5 (k : q) (h : Hid q → p := by intro z; refine JL_q q_pickF (k := ?_); refine Z481 ?_; exact z.1) : p := h ⟨k⟩
theorem Z6 (k : q) (h : Hid q → p := by intro z; refine Z1 ?_; refine J_ret ?_; exact z.1) : p := h ⟨k⟩
theorem Z7 (k : q) (h : Hid q → p := by intro z; refine JX_permL _ (((((((((((((((qa (qc (qa (qa (qa (qa (qa (qa (qa (qa (qa (qc (qa (qa (qa q0))))))))))))))).trans (qa (qa (qc (qa (qa (qa (qa (qa (qa (qa (qa (qa (qc (qa (qa q0)))))))))))))))).trans (qa (qa (qa (qc (qa (qa (qa (qa (qa (qa (qa (qa (qa (qc (qa q0)))))))))))))))).trans (qa (qa (qa (qa (qc (qa (qa (qa (qa (qa (qa (qa (qa (qa (qc q0)))))))))))))))).trans (qb (qb (qb (qb (qb (qd (qb (qb (qb (qb (qb (qb (qb (qb (qb q0)))))))))))))))).trans (qc (qa (qa (qa (qa (qa (qc (qa (qa (qa (qa (qa (qa (qa (qa q0)))))))))))))))).trans (qa (qc (qa (qa (qa (qa (qa (qc (qa (qa (qa (qa (qa (qa (qa q0)))))))))))))))).trans (qa (qa (qc (qa (qa (qa (qa (qa (qc (qa (qa (qa (qa (qa (qa q0)))))))))))))))).trans (qa (qa (qa (qc (qa (qa (qa (qa (qa (qc (qa (qa (qa (qa (qa q0)))))))))))))))).trans (qa (qa (qa (qa (qc (qa (qa (qa (qa (qa (qc (qa (qa (qa (qa q0)))))))))))))))).trans (qa (qa (qa (qa (qa (qc (qa (qa (qa (qa (qa (qc (qa (qa (qa q0)))))))))))))))).trans (qa (qa (qa (qa (qa (qa (qc (qa (qa (qa (qa (qa (qc (qa (qa q0)))))))))))))))).trans (qa (qa (qa (qa (qa (qa (qa (qc (qa (qa (qa (qa (qa (qc (qa q0)))))))))))))))).trans (qa (qa (qa (qa (qa (qa (qa (qa (qc (qa (qa (qa (qa q0)))))))))))))).trans (qb (qb (qb (qb (qb (qb (qb (qb (qb (qd (qb (qb (qb (qb q0))))))))))))))) ?_; refine JX_subL _ (List.Sublist.append (List.Sublist.refl _) (List.Sublist.cons_cons _ (List.Sublist.cons_cons _ (List.Sublist.cons_cons _ (List.Sublist.cons_cons _ (List.Sublist.cons_cons _ (List.Sublist.cons_cons _ (List.Sublist.cons_cons _ (List.Sublist.cons_cons _ (List.Sublist.cons_cons _ (List.Sublist.append (List.Sublist.refl _) (List.Sublist.cons_cons _ (List.Sublist.cons_cons _ (List.Sublist.cons_cons _ (List.Sublist.cons_cons _ (List.nil_sublist _)))))))))))))))) ?_; exact z.1) : p := h ⟨k⟩
theorem Z8 (k : q) (h : Hid q → p := by intro z; refine JX_block_ret ?_; refine Z510 ?_; exact z.1) : p := h ⟨k⟩
theorem Z9 (k : q) (h : Hid q → p := by intro z; refine Z502 ?_; refine Z481 ?_; exact z.1) : p := h ⟨k⟩
theorem Z12 (k : q) (h : Hid q → p := by intro z; refine JL_q q_lss (k := ?_); refine Z0 ?_; exact z.1) : p := h ⟨k⟩
theorem Z14 (k : q) (h : Hid q → p := by intro z; refine J_skip ?_; refine JX_seq ?_; exact z.1) : p := h ⟨k⟩
theorem Z15 (k : q) (h : Hid q → p := by intro z; refine Z521 ?_; refine Z518 ?_; exact z.1) : p := h ⟨k⟩
theorem Z17 (k : q) (h : Hid q → p := by intro z; refine JX_block ?_; refine JX_seq ?_; exact z.1) : p := h ⟨k⟩
theorem Z18 (k : q) (h : Hid q → p := by intro z; refine JL_q q_pickT (k := ?_); refine Z481 ?_; exact z.1) : p := h ⟨k⟩
theorem Z19 (k : q) (h : Hid q → p := by intro z; refine Z521 ?_; refine Z530 ?_; exact z.1) : p := h ⟨k⟩
theorem Z20 (k : q) (h : Hid q → p := by intro z; refine Z498 ?_; refine Z498 ?_; exact z.1) : p := h ⟨k⟩
theorem Z21 (k : q) (h : Hid q → p := by intro z; refine Z2 ?_; refine JL_q (q_loadA Tryz.isAgg28 Tryz.sizeOf28) (k := ?_); exact z.1) : p := h ⟨k⟩
theorem Z23 (k : q) (h : Hid q → p := by intro z; refine JD_q q_pickF (k := ?_); refine Z483 ?_; exact z.1) : p := h ⟨k⟩
theorem Z24 (k : q) (h : Hid q → p := by intro z; refine Z21 ?_; refine JL_p (c_callA Tryz.call15) (fun w1 hw1 => gCut_ok w1 (r := r) (h_r_slots_gens := (SlJ.of_base h_r_slots_gens) w1 hw1) (k_r_slots_gens := by assumption) (h_r_slots_used := (SlJ.of_base h_r_slots_used) w1 hw1) (k_r_slots_used := by assumption) (h_r_slots_free := (SlJ.of_base h_r_slots_free) w1 hw1) (k_r_slots_free := by assumption) (h_r_l := (SlNJ.of_base DT_ok h_r_l).2 w1 hw1) (k_r_l := k_r_l)) (k := ?_); exact z.1) : p := h ⟨k⟩
theorem Z25 (k : q) (h : Hid q → p := by intro z; refine J_seq ?_; refine J_block ?_; exact z.1) : p := h ⟨k⟩
theorem Z26 (k : q) (h : Hid q → p := by intro z; refine JL_q q_pickF (k := ?_); refine Z6 ?_; exact z.1) : p := h ⟨k⟩
theorem Z27 (k : q) (h : Hid q → p := by intro z; refine Z481 ?_; refine Z481 ?_; exact z.1) : p := h ⟨k⟩
theorem Z28 (k : q) (h : Hid q → p := by intro z; refine JD_q q_assign (k := ?_); refine JD_nil0 ?_; exact z.1) : p := h ⟨k⟩
theorem Z31 (k : q) (h : Hid q → p := by intro z; refine Z1 ?_; refine J_seq ?_; exact z.1) : p := h ⟨k⟩
theorem Z33 (k : q) (h : Hid q → p := by intro z; refine Z486 ?_; refine Z9 ?_; refine JL_nil ?_; exact z.1) : p := h ⟨k⟩
theorem Z34 (k : q) (h : Hid q → p := by intro z; refine Z506 ?_; refine JL_p (c_callA Tryz.call20) (fun w1 hw1 => gFind_ok w1 (r := (gCut r)) (name := ((gCutC c).name)) (h_r_slots_gens := (SlJ.take (SlJ.of_base h_r_slots_gens) _) w1 hw1) (n_r_slots_gens := by first | omega | (simp; done) | exact Nat.le_trans (by assumption) (by decide)) (h_r_slots_used := (SlJ.take (SlJ.of_base h_r_slots_used) _) w1 hw1) (n_r_slots_used := by first | omega | (simp; done) | exact Nat.le_trans (by assumption) (by decide)) (h_r_slots_free := (SlJ.take (SlJ.of_base h_r_slots_free) _) w1 hw1) (n_r_slots_free := by first | omega | (simp; done) | exact Nat.le_trans (by assumption) (by decide)) (h_r_l := (SlNB.j hs1_1.1 sh).2 w1 hw1) (n_r_l := by first | omega | (simp; done) | exact Nat.le_trans (by assumption) (by decide)) (k_r_l := hs1_1.2) (hsm := by first | assumption | exact Small.nil)) (k := ?_); exact z.1) : p := h ⟨k⟩
theorem Z37 (k : q) (h : Hid q → p := by intro z; refine Z481 ?_; refine Z20 ?_; exact z.1) : p := h ⟨k⟩
theorem Z38 (k : q) (h : Hid q → p := by intro z; refine Z2 ?_; refine Z12 ?_; refine J_seq ?_; exact z.1) : p := h ⟨k⟩
theorem Z39 (k : q) (h : Hid q → p := by intro z; refine Z4 ?_; refine Z481 ?_; exact z.1) : p := h ⟨k⟩
theorem Z40 (k : q) (h : Hid q → p := by intro z; refine Z17 ?_; refine Z33 ?_; exact z.1) : p := h ⟨k⟩
theorem Z41 (k : q) (h : Hid q → p := by intro z; refine Z6 ?_; refine Z510 ?_; exact z.1) : p := h ⟨k⟩
theorem Z42 (k : q) (h : Hid q → p := by intro z; refine J_true rfl ?_; refine Z14 ?_; exact z.1) : p := h ⟨k⟩
theorem Z44 (k : q) (h : Hid q → p := by intro z; refine Z0 ?_; refine J_ret ?_; exact z.1) : p := h ⟨k⟩
theorem Z45 (k : q) (h : Hid q → p := by intro z; refine Z0 ?_; refine J_true rfl ?_; exact z.1) : p := h ⟨k⟩
theorem Z48 (k : q) (h : Hid q → p := by intro z; refine Z8 ?_; refine JX_inv_ret ?_; exact z.1) : p := h ⟨k⟩
theorem Z49 (k : q) (h : Hid q → p := by intro z; refine Z0 ?_; refine J_false rfl ?_; exact z.1) : p := h ⟨k⟩
theorem Z50 (k : q) (h : Hid q → p := by intro z; refine Z486 ?_; refine JL_q (q_loadA Tryz.isAgg28 Tryz.sizeOf28) (k := ?_); exact z.1) : p := h ⟨k⟩
theorem Z51 (k : q) (h : Hid q → p := by intro z; refine JX_retI Tryz.results41 (Res.agg Tryz.isAgg28 Tryz.sizeOf28 rfl me rfl (Res.agg Tryz.isAgg52 Tryz.sizeOf52 rfl me rfl (Res.tmp rfl Res.nil))) ?_; refine Z37 ?_; exact z.1) : p := h ⟨k⟩
theorem Z53 (k : q) (h : Hid q → p := by intro z; refine Z489 ?_; refine JL_qg (q_loadA Tryz.isAgg156 Tryz.sizeOf156) (k := ?_); exact z.1) : p := h ⟨k⟩
theorem Z54 (k : q) (h : Hid q → p := by intro z; refine JD_q q_pickT (k := ?_); refine Z483 ?_; exact z.1) : p := h ⟨k⟩
theorem Z55 (k : q) (h : Hid q → p := by intro z; refine JX_seq_exit ?_; refine JX_inv_exit ?_; refine JX_block_hit ?_; exact z.1) : p := h ⟨k⟩
theorem Z57 (k : q) (h : Hid q → p := by intro z; refine JL_q q_nil (k := ?_); refine JL_q (q_fld FO_131_0) (k := ?_); exact z.1) : p := h ⟨k⟩
theorem Z58 (k : q) (h : Hid q → p := by intro z; refine Z5 ?_; refine JL_skips 3 rfl ?_; exact z.1) : p := h ⟨k⟩
theorem Z59 (k : q) (h : Hid q → p := by intro z; refine Z488 ?_; refine JL_nil ?_; exact z.1) : p := h ⟨k⟩
theorem Z60 (k : q) (h : Hid q → p := by intro z; refine Z40 ?_; refine JX_again ?_; refine Z38 ?_; exact z.1) : p := h ⟨k⟩
theorem Z61 (k : q) (h : Hid q → p := by intro z; refine Z25 ?_; refine Z2 ?_; exact z.1) : p := h ⟨k⟩
theorem Z62 (k : q) (h : Hid q → p := by intro z; refine Z483 ?_; refine Z483 ?_; exact z.1) : p := h ⟨k⟩
theorem Z63 (k : q) (h : Hid q → p := by intro z; refine J_skip ?_; refine Z60 ?_; exact z.1) : p := h ⟨k⟩
theorem Z64 (k : q) (h : Hid q → p := by intro z; refine JL_q (q_load Tryz.isAgg26) (k := ?_); refine Z1 ?_; exact z.1) : p := h ⟨k⟩
theorem Z65 (k : q) (h : Hid q → p := by intro z; refine JL_q (q_build (cs := [_]) Tryz.zeroValue120 PL_120) (k := ?_); refine JL_q (q_mkI Tryz.underlying120) (k := ?_); exact z.1) : p := h ⟨k⟩
theorem Z69 (k : q) (h : Hid q → p := by intro z; refine Z42 ?_; refine Z61 ?_; exact z.1) : p := h ⟨k⟩
theorem Z70 (k : q) (h : Hid q → p := by intro z; refine JX_retID _ _ Tryz.results145 (Res.tmp rfl Res.nil) (vp ((((((((((((((((qc (qa (qa (qa (qa (qa (qa (qa (qa (qa (qa (qc (qa (qa (qa q0))))))))))))))).trans (qa (qc (qa (qa (qa (qa (qa (qa (qa (qa (qa (qa (qc (qa (qa q0)))))))))))))))).trans (qa (qa (qc (qa (qa (qa (qa (qa (qa (qa (qa (qa (qa (qc (qa q0)))))))))))))))).trans (qa (qa (qa (qc (qa (qa (qa (qa (qa (qa (qa (qa (qa (qa (qc q0)))))))))))))))).trans (qb (qb (qb (qb (qd (qb (qb (qb (qb (qb (qb (qb (qb (qb (qb q0)))))))))))))))).trans (qc (qa (qa (qa (qa (qc (qa (qa (qa (qa (qa (qa (qa (qa (qa q0)))))))))))))))).trans (qa (qc (qa (qa (qa (qa (qc (qa (qa (qa (qa (qa (qa (qa (qa q0)))))))))))))))).trans (qa (qa (qc (qa (qa (qa (qa (qc (qa (qa (qa (qa (qa (qa (qa q0)))))))))))))))).trans (qa (qa (qa (qc (qa (qa (qa (qa (qc (qa (qa (qa (qa (qa (qa q0)))))))))))))))).trans (qa (qa (qa (qa (qc (qa (qa (qa (qa (qc (qa (qa (qa (qa (qa q0)))))))))))))))).trans (qa (qa (qa (qa (qa (qc (qa (qa (qa (qa (qc (qa (qa (qa (qa q0)))))))))))))))).trans (qa (qa (qa (qa (qa (qa (qc (qa (qa (qa (qa (qc (qa (qa (qa q0)))))))))))))))).trans (qa (qa (qa (qa (qa (qa (qa (qc (qa (qa (qa (qa (qc (qa (qa q0)))))))))))))))).trans (qa (qa (qa (qa (qa (qa (qa (qa (qc (qa (qa (qa (qa (qc (qa q0)))))))))))))))).trans (qb (qb (qb (qb (qb (qb (qb (qb (qb (qd (qb (qb (qb (qb q0))))))))))))))).trans (qc (qa (qa (qa (qa (qa (qa (qa (qa (qa (qc (qa (qa (qa (qa q0)))))))))))))))) (nC nE)) (List.Sublist.trans (List.Sublist.refl _) (List.sublist_append_right _ _)) ?_; refine JD_q q_assign (k := ?_); exact z.1) : p := h ⟨k⟩
theorem Z71 (k : q) (h : Hid q → p := by intro z; refine JX_retID _ _ Tryz.results146 (Res.tmp rfl Res.nil) (vp ((((((((((((((((qc (qa (qa (qa (qa (qa (qa (qa (qa (qa (qa (qc (qa (qa (qa q0))))))))))))))).trans (qa (qc (qa (qa (qa (qa (qa (qa (qa (qa (qa (qa (qc (qa (qa q0)))))))))))))))).trans (qa (qa (qc (qa (qa (qa (qa (qa (qa (qa (qa (qa (qa (qc (qa q0)))))))))))))))).trans (qa (qa (qa (qc (qa (qa (qa (qa (qa (qa (qa (qa (qa (qa (qc q0)))))))))))))))).trans (qb (qb (qb (qb (qd (qb (qb (qb (qb (qb (qb (qb (qb (qb (qb q0)))))))))))))))).trans (qc (qa (qa (qa (qa (qc (qa (qa (qa (qa (qa (qa (qa (qa (qa q0)))))))))))))))).trans (qa (qc (qa (qa (qa (qa (qc (qa (qa (qa (qa (qa (qa (qa (qa q0)))))))))))))))).trans (qa (qa (qc (qa (qa (qa (qa (qc (qa (qa (qa (qa (qa (qa (qa q0)))))))))))))))).trans (qa (qa (qa (qc (qa (qa (qa (qa (qc (qa (qa (qa (qa (qa (qa q0)))))))))))))))).trans (qa (qa (qa (qa (qc (qa (qa (qa (qa (qc (qa (qa (qa (qa (qa q0)))))))))))))))).trans (qa (qa (qa (qa (qa (qc (qa (qa (qa (qa (qc (qa (qa (qa (qa q0)))))))))))))))).trans (qa (qa (qa (qa (qa (qa (qc (qa (qa (qa (qa (qc (qa (qa (qa q0)))))))))))))))).trans (qa (qa (qa (qa (qa (qa (qa (qc (qa (qa (qa (qa (qc (qa (qa q0)))))))))))))))).trans (qa (qa (qa (qa (qa (qa (qa (qa (qc (qa (qa (qa (qa (qc (qa q0)))))))))))))))).trans (qb (qb (qb (qb (qb (qb (qb (qb (qb (qd (qb (qb (qb (qb q0))))))))))))))).trans (qc (qa (qa (qa (qa (qa (qa (qa (qa (qa (qc (qa (qa (qa (qa q0)))))))))))))))) (nC nE)) (List.Sublist.trans (List.Sublist.refl _) (List.sublist_append_right _ _)) ?_; refine JD_q q_assign (k := ?_); exact z.1) : p := h ⟨k⟩
theorem Z72 (k : q) (h : Hid q → p := by intro z; refine Z0 ?_; refine J_seq ?_; exact z.1) : p := h ⟨k⟩
theorem Z74 (k : q) (h : Hid q → p := by intro z; refine Z488 ?_; refine Z488 ?_; exact z.1) : p := h ⟨k⟩
theorem Z76 (k : q) (h : Hid q → p := by intro z; refine Z5 ?_; refine JL_skips 5 rfl ?_; exact z.1) : p := h ⟨k⟩
theorem Z79 (k : q) (h : Hid q → p := by intro z; refine JL_q q_pickT (k := ?_); refine Z6 ?_; exact z.1) : p := h ⟨k⟩
theorem Z80 (k : q) (h : Hid q → p := by intro z; refine Z500 ?_; refine JL_qg q_eql (k := ?_); exact z.1) : p := h ⟨k⟩
theorem Z82 (k : q) (h : Hid q → p := by intro z; refine Z48 ?_; refine Z8 ?_; exact z.1) : p := h ⟨k⟩
theorem Z83 (k : q) (h : Hid q → p := by intro z; refine JD_q (q_fld FO_25_0) (k := ?_); refine JD_q (q_load Tryz.isAgg22) (k := ?_); exact z.1) : p := h ⟨k⟩
theorem Z84 (k : q) (h : Hid q → p := by intro z; refine JL_q (q_fld FO_36_1) (k := ?_); refine Z506 ?_; exact z.1) : p := h ⟨k⟩
theorem Z85 (k : q) (h : Hid q → p := by intro z; refine JX_retI Tryz.results88 (Res.tmp rfl Res.nil) ?_; refine Z6 ?_; exact z.1) : p := h ⟨k⟩
theorem Z86 (k : q) (h : Hid q → p := by intro z; refine Z28 ?_; refine Z44 ?_; exact z.1) : p := h ⟨k⟩
theorem Z87 (k : q) (h : Hid q → p := by intro z; refine Z481 ?_; refine JL_p (c_callA Tryz.call17) (fun w1 hw1 => gApply_ok w1 (r := (gCut r)) (role := 2) (c := (Command.mk 4 (name.take ((if 41 < ((name.length : Nat) : Int) then 41 else ((name.length : Nat) : Int)).toNat)) 0 0 (Rule.mk false (Prefix.mk 0 0) (PortsT.mk 0 0)) ([] : Str) n_ 0)) (now := now) (h_r_slots_gens := (SlJ.take (SlJ.of_base h_r_slots_gens) _) w1 hw1) (n_r_slots_gens := by first | omega | (simp; done) | exact Nat.le_trans (by assumption) (by decide)) (h_r_slots_used := (SlJ.take (SlJ.of_base h_r_slots_used) _) w1 hw1) (n_r_slots_used := by first | omega | (simp; done) | exact Nat.le_trans (by assumption) (by decide)) (h_r_slots_free := (SlJ.take (SlJ.of_base h_r_slots_free) _) w1 hw1) (n_r_slots_free := by first | omega | (simp; done) | exact Nat.le_trans (by assumption) (by decide)) (h_r_l := (SlNB.j hs1_1.1 sh).2 w1 hw1) (n_r_l := by first | omega | (simp; done) | exact Nat.le_trans (by assumption) (by decide)) (k_r_l := hs1_1.2) (i_c_at_ := by first | exact i_c_at_ | (simp; done) | (exact ⟨by decide, by decide⟩) | omega) (hG := hG.ext hw1.ext_out) (hE := hE.ext hw1.ext_out) (hsm := by first | assumption | exact Small.nil)) (k := ?_); exact z.1) : p := h ⟨k⟩
theorem Z88 (k : q) (h : Hid q → p := by intro z; refine JD_q q_nil (k := ?_); refine JD_q (q_fld FO_131_0) (k := ?_); exact z.1) : p := h ⟨k⟩
theorem Z90 (k : q) (h : Hid q → p := by intro z; refine Z33 ?_; refine JX_permL _ ((((((((qa (qc (qa (qa (qc (qa (qa q0))))))).trans (qa (qa (qc (qa (qa (qc (qa q0)))))))).trans (qa (qa (qa (qc (qa (qa (qc q0)))))))).trans (qb (qb (qb (qb (qd (qb (qb q0)))))))).trans (qc (qa (qa (qa (qa (qc (qa q0)))))))).trans (qa (qc (qa (qa (qa (qa (qc q0)))))))).trans (qa (qa (qc (qa (qa (qa q0))))))).trans (qb (qb (qb (qd (qb (qb (qb q0)))))))) ?_; exact z.1) : p := h ⟨k⟩
theorem Z91 (k : q) (h : Hid q → p := by intro z; refine Z1 ?_; refine Z2 ?_; exact z.1) : p := h ⟨k⟩
theorem Z92 (k : q) (h : Hid q → p := by intro z; refine JD_q q_pickT (k := ?_); refine JD_nil0 ?_; exact z.1) : p := h ⟨k⟩
theorem Z94 (k : q) (h : Hid q → p := by intro z; refine JL_q (q_fld FO_28_2) (k := ?_); refine Z499 ?_; exact z.1) : p := h ⟨k⟩
theorem Z96 (k : q) (h : Hid q → p := by intro z; refine Z91 ?_; refine JL_v (c_callA Tryz.call14) (fun w1 hw1 => gShown_ok w1 (hG := hG.ext hw1.ext_out) (hE := hE.ext hw1.ext_out)) (k := ?_); exact z.1) : p := h ⟨k⟩
theorem Z97 (k : q) (h : Hid q → p := by intro z; refine JX_block ?_; refine JX_roundI (qc (qa q0)) ?_; exact z.1) : p := h ⟨k⟩
theorem Z98 (k : q) (h : Hid q → p := by intro z; refine JL_q q_pickF (k := ?_); refine Z49 ?_; exact z.1) : p := h ⟨k⟩
theorem Z99 (k : q) (h : Hid q → p := by intro z; refine JD_qg (q_fld FO_28_1) (k := ?_); refine JD_qg (q_load Tryz.isAgg26) (k := ?_); exact z.1) : p := h ⟨k⟩
theorem Z100 (k : q) (h : Hid q → p := by intro z; refine Z63 ?_; refine Z69 ?_; exact z.1) : p := h ⟨k⟩
theorem Z102 (k : q) (h : Hid q → p := by intro z; refine Z481 ?_; refine JL_p (c_callA Tryz.call17) (fun w1 hw1 => gApply_ok w1 (r := (gCut r)) (role := role) (c := (gCutC c)) (now := now) (h_r_slots_gens := (SlJ.take (SlJ.of_base h_r_slots_gens) _) w1 hw1) (n_r_slots_gens := by first | omega | (simp; done) | exact Nat.le_trans (by assumption) (by decide)) (h_r_slots_used := (SlJ.take (SlJ.of_base h_r_slots_used) _) w1 hw1) (n_r_slots_used := by first | omega | (simp; done) | exact Nat.le_trans (by assumption) (by decide)) (h_r_slots_free := (SlJ.take (SlJ.of_base h_r_slots_free) _) w1 hw1) (n_r_slots_free := by first | omega | (simp; done) | exact Nat.le_trans (by assumption) (by decide)) (h_r_l := (SlNB.j hs1_1.1 sh).2 w1 hw1) (n_r_l := by first | omega | (simp; done) | exact Nat.le_trans (by assumption) (by decide)) (k_r_l := hs1_1.2) (i_c_at_ := by first | exact i_c_at_ | (simp; done) | (exact ⟨by decide, by decide⟩) | omega) (hG := hG.ext hw1.ext_out) (hE := hE.ext hw1.ext_out) (hsm := by first | assumption | exact Small.nil)) (k := ?_); exact z.1) : p := h ⟨k⟩
theorem Z104 (k : q) (h : Hid q → p := by intro z; refine Z31 ?_; refine Z4 ?_; exact z.1) : p := h ⟨k⟩
theorem Z105 (k : q) (h : Hid q → p := by intro z; refine Z6 ?_; refine Z82 ?_; exact z.1) : p := h ⟨k⟩
theorem Z106 (k : q) (h : Hid q → p := by intro z; refine JX_begin (qa q0) ?_; refine J_block ?_; exact z.1) : p := h ⟨k⟩
theorem Z107 (k : q) (h : Hid q → p := by intro z; refine Z1 ?_; refine Z4 ?_; exact z.1) : p := h ⟨k⟩
theorem Z109 (k : q) (h : Hid q → p := by intro z; refine JL_v (c_callA Tryz.call16) (fun w1 hw1 => gCutC_ok w1 (c := c)) (k := ?_); refine JL_s (w_store (l' := [_, _, _, _, _, _, _, _, _, _, _, _]) Tryz.sizeOf36) (k := ?_); exact z.1) : p := h ⟨k⟩
theorem Z111 (k : q) (h : Hid q → p := by intro z; refine JL_qg (q_fld FO_44_0) (k := ?_); refine JL_qg (q_load Tryz.isAgg40) (k := ?_); exact z.1) : p := h ⟨k⟩
theorem Z112 (k : q) (h : Hid q → p := by intro z; refine JX_retID _ _ Tryz.results87 (Res.tmp rfl Res.nil) (vp (List.Perm.refl _) nE) (List.Sublist.trans (List.Sublist.refl _) (List.sublist_append_right _ _)) ?_; refine JD_q (q_fld FO_28_1) (k := ?_); exact z.1) : p := h ⟨k⟩
theorem Z113 (k : q) (h : Hid q → p := by intro z; refine J_planV _ _ (vp (qd (qd (qb q0))) (nA nE)) mixed 8 [(true, 0), (true, 1), (true, 2), (true, 3), (true, 4), (true, 5), (true, 6), (false, 7)] (by kernel_rfl) ?_; refine Z483 ?_; exact z.1) : p := h ⟨k⟩
theorem Z114 (k : q) (h : Hid q → p := by intro z; refine JL_q q_pickT (k := ?_); refine Z45 ?_; exact z.1) : p := h ⟨k⟩
theorem Z115 (k : q) (h : Hid q → p := by intro z; refine JX_retI Tryz.results75 (Res.agg Tryz.isAgg28 Tryz.sizeOf28 rfl me rfl (Res.agg Tryz.isAgg52 Tryz.sizeOf52 rfl me rfl (Res.tmp rfl Res.nil))) ?_; refine Z20 ?_; exact z.1) : p := h ⟨k⟩
theorem Z116 (k : q) (h : Hid q → p := by intro z; refine JL_q (q_fld FO_44_0) (k := ?_); refine JL_q (q_load Tryz.isAgg40) (k := ?_); exact z.1) : p := h ⟨k⟩
theorem Z117 (k : q) (h : Hid q → p := by intro z; refine Z486 ?_; refine Z481 ?_; exact z.1) : p := h ⟨k⟩
theorem Z118 (k : q) (h : Hid q → p := by intro z; refine JG_q 10 rfl (by kernel_rfl) (q_build (cs := [_, _, _]) Tryz.zeroValue25 PL_25) (k := ?_); refine JG_q 11 rfl (by kernel_rfl) (q_build (cs := [_, _, _]) Tryz.zeroValue131 PL_131) (k := ?_); exact z.1) : p := h ⟨k⟩
theorem Z119 (k : q) (h : Hid q → p := by intro z; refine JL_v (args := [(Value.iface 240 (.pointer (some ea2))), (Value.iface 240 (.pointer (some ea0)))]) (c_callA Tryz.call176) (fun w1 hw1 => is_other_v w1 hE.n2_0 (hE.ext hw1.ext_out).b2 (hE.ext hw1.ext_out).b0) (k := ?_); refine Z1 ?_; exact z.1) : p := h ⟨k⟩
theorem Z120 (k : q) (h : Hid q → p := by intro z; refine JL_v (args := [(Value.iface 240 (.pointer (some ea2))), (Value.iface 240 (.pointer (some ea1)))]) (c_callA Tryz.call176) (fun w1 hw1 => is_other_v w1 hE.n2_1 (hE.ext hw1.ext_out).b2 (hE.ext hw1.ext_out).b1) (k := ?_); refine Z1 ?_; exact z.1) : p := h ⟨k⟩
theorem Z121 (k : q) (h : Hid q → p := by intro z; refine Z481 ?_; refine Z0 ?_; refine J_block ?_; exact z.1) : p := h ⟨k⟩
theorem Z122 (k : q) (h : Hid q → p := by intro z; refine Z518 ?_; refine Z31 ?_; exact z.1) : p := h ⟨k⟩
theorem Z123 (k : q) (h : Hid q → p := by intro z; refine Z55 ?_; refine JX_seq ?_; exact z.1) : p := h ⟨k⟩
theorem Z124 (k : q) (h : Hid q → p := by intro z; refine JD_q q_assign (k := ?_); refine JD_nil ?_; exact z.1) : p := h ⟨k⟩
theorem Z125 (k : q) (h : Hid q → p := by intro z; refine JL_q (q_fld FO_25_2) (k := ?_); refine JL_q (q_load Tryz.isAgg22) (k := ?_); exact z.1) : p := h ⟨k⟩
theorem Z126 (k : q) (h : Hid q → p := by intro z; refine JL_q (q_loadA Tryz.isAgg36 Tryz.sizeOf36) (k := ?_); refine Z481 ?_; exact z.1) : p := h ⟨k⟩
theorem Z127 (k : q) (h : Hid q → p := by intro z; refine Z21 ?_; refine JL_p (c_callA Tryz.call39) (fun w1 hw1 => gOwn_ok2 w1 (r := r) (h_r_slots_gens := (SlJ.of_base h_r_slots_gens) w1 hw1) (n_r_slots_gens := by first | omega | (simp; done) | exact (hsm _ (by omega)).1 | exact (hsm _ (by omega)).2) (h_r_slots_used := (SlJ.of_base h_r_slots_used) w1 hw1) (n_r_slots_used := by first | omega | (simp; done) | exact (hsm _ (by omega)).1 | exact (hsm _ (by omega)).2) (h_r_slots_free := (SlJ.of_base h_r_slots_free) w1 hw1) (n_r_slots_free := by first | omega | (simp; done) | exact (hsm _ (by omega)).1 | exact (hsm _ (by omega)).2) (h_r_l := (SlNJ.of_base DT_ok h_r_l).2 w1 hw1) (n_r_l := by first | omega | (simp; done) | exact (hsm _ (by omega)).1 | exact (hsm _ (by omega)).2) (k_r_l := k_r_l) (hsm := by first | omega | (simp; done) | exact (hsm _ (by omega)).1 | exact (hsm _ (by omega)).2)) (k := ?_); exact z.1) : p := h ⟨k⟩
theorem Z128 (k : q) (h : Hid q → p := by intro z; refine Z519 ?_; refine JL_s (w_store (l' := [_, _]) Tryz.sizeOf42) (k := ?_); exact z.1) : p := h ⟨k⟩
theorem Z129 (k : q) (h : Hid q → p := by intro z; refine JL_q (q_build (cs := [_, _, _]) Tryz.zeroValue25 PL_25) (k := ?_); refine JL_q (q_build (cs := [_, _]) Tryz.zeroValue42 PL_42) (k := ?_); exact z.1) : p := h ⟨k⟩
theorem Z131 (k : q) (h : Hid q → p := by intro z; refine JL_q (q_idxO Tryz.runUnderlying182 Tryz.sizeOf26 1) (k := ?_); refine Z64 ?_; exact z.1) : p := h ⟨k⟩
theorem Z132 (k : q) (h : Hid q → p := by intro z; refine JL_q (q_idxO Tryz.runUnderlying182 Tryz.sizeOf26 2) (k := ?_); refine Z64 ?_; exact z.1) : p := h ⟨k⟩
theorem Z133 (k : q) (h : Hid q → p := by intro z; refine Z521 ?_; refine Z0 ?_; exact z.1) : p := h ⟨k⟩
theorem Z134 (k : q) (h : Hid q → p := by intro z; refine J_false rfl ?_; refine J_exit ?_; exact z.1) : p := h ⟨k⟩
theorem Z135 (k : q) (h : Hid q → p := by intro z; refine Z482 ?_; refine JL_v (c_callA Tryz.call52) (fun w1 hw1 => sRight_ok w1 (s := s) (h_s_gens := (SlJ.of_base h_s_gens) w1 hw1) (n_s_gens := by first | exact lb | decide) (h_s_used := (SlJ.of_base h_s_used) w1 hw1) (n_s_used := by first | exact lb | decide) (h_s_free := (SlJ.of_base h_s_free) w1 hw1) (n_s_free := by first | exact lb | decide)) (k := ?_); exact z.1) : p := h ⟨k⟩
theorem Z136 (k : q) (h : Hid q → p := by intro z; refine JD_qg (q_idx (n := s.gens.length) Tryz.runUnderlying22 Tryz.sizeOf3 ((s.free.getD ((((s.free.length : Nat) : Int) - 1).toNat) default).toNat) (hox302.slj eI_ok) (gD (by first | exact ix)) (by first | rfl | simp)) (k := ?_); refine JD_qg (q_loadE Tryz.isAgg3 ((s.free.getD ((((s.free.length : Nat) : Int) - 1).toNat) default).toNat) 0 (hox302.slj eI_ok) (gD (by first | exact ix))) (k := ?_); exact z.1) : p := h ⟨k⟩
theorem Z137 (k : q) (h : Hid q → p := by intro z; refine Z540 ?_; refine JL_q (q_loadE Tryz.isAgg3 ((s.free.getD ((((s.free.length : Nat) : Int) - 1).toNat) default).toNat) 0 (hox302.slj eI_ok) (gD (by first | exact ix))) (k := ?_); exact z.1) : p := h ⟨k⟩
theorem Z139 (k : q) (h : Hid q → p := by intro z; refine JD_q q_pickF (k := ?_); refine Z86 ?_; exact z.1) : p := h ⟨k⟩
theorem Z140 (k : q) (h : Hid q → p := by intro z; refine JL_q (q_build (cs := [_]) Tryz.zeroValue216 PL_216) (k := ?_); refine JL_q (q_mkI Tryz.underlying216) (k := ?_); exact z.1) : p := h ⟨k⟩
theorem Z141 (k : q) (h : Hid q → p := by intro z; refine Z489 ?_; refine Z489 ?_; exact z.1) : p := h ⟨k⟩
theorem Z142 (k : q) (h : Hid q → p := by intro z; refine Z100 ?_; refine JL_q (q_idxAg (m := 9) (n := 3) Tryz.runUnderlying193 Tryz.sizeOf156 Tryz.isAgg156) (k := ?_); exact z.1) : p := h ⟨k⟩
theorem Z143 (k : q) (h : Hid q → p := by intro z; refine Z521 ?_; refine Z44 ?_; exact z.1) : p := h ⟨k⟩
theorem Z144 (k : q) (h : Hid q → p := by intro z; refine JD_qg (q_fld FO_52_4) (k := ?_); refine JD_qg (q_load Tryz.isAgg49) (k := ?_); exact z.1) : p := h ⟨k⟩
theorem Z145 (k : q) (h : Hid q → p := by intro z; refine Z84 ?_; refine JL_v (c_callA Tryz.call46) (fun w1 hw1 => gPlace_ok w1 (r := (xR r)) (name := c.name) (h_r_slots_gens := (SlB.slj hs1_1) w1 hw1) (n_r_slots_gens := by first | omega | (simp; done) | exact (hsm _ (by omega)).1 | exact (hsm _ (by omega)).2) (h_r_slots_used := (SlB.slj hs2_1) w1 hw1) (n_r_slots_used := by first | omega | (simp; done) | exact (hsm _ (by omega)).1 | exact (hsm _ (by omega)).2) (h_r_slots_free := (SlB.slj hs3_1) w1 hw1) (n_r_slots_free := by first | omega | (simp; done) | exact (hsm _ (by omega)).1 | exact (hsm _ (by omega)).2) (h_r_l := (SlNB.j hs4_1.1 sh).2 w1 hw1) (n_r_l := by first | omega | (simp; done) | exact (hsm _ (by omega)).1 | exact (hsm _ (by omega)).2) (k_r_l := hs4_1.2)) (k := ?_); exact z.1) : p := h ⟨k⟩
theorem Z146 (k : q) (h : Hid q → p := by intro z; refine J_plan mixed 9 [(true, 0), (true, 1), (true, 2), (true, 3), (true, 4), (true, 5), (true, 6), (true, 7), (true, 8)] (by kernel_rfl) ?_; refine Z62 ?_; exact z.1) : p := h ⟨k⟩
theorem Z147 (k : q) (h : Hid q → p := by intro z; refine JL_q (q_fld FO_28_1) (k := ?_); refine JL_q (q_load Tryz.isAgg26) (k := ?_); exact z.1) : p := h ⟨k⟩
theorem Z148 (k : q) (h : Hid q → p := by intro z; refine Z531 ?_; refine Z481 ?_; exact z.1) : p := h ⟨k⟩
theorem Z149 (k : q) (h : Hid q → p := by intro z; refine J_planV _ _ (vp ((qc (qc (qc (qa (qa q0))))).trans (qa (qc (qc (qc (qa (qa q0))))))) (nC (nC nE))) mixed 17 [(true, 0), (true, 1), (true, 2), (true, 3), (true, 4), (true, 5), (true, 6), (true, 7), (true, 8), (true, 9), (true, 10), (true, 11), (true, 12), (true, 13), (false, 14), (false, 15), (true, 16)] (by kernel_rfl) ?_; refine Z483 ?_; exact z.1) : p := h ⟨k⟩
theorem Z151 (k : q) (h : Hid q → p := by intro z; refine JL_v (args := [(Value.iface 240 (.pointer (some ea2))), (Value.iface 240 (.pointer (some ea2)))]) (c_callA Tryz.call176) (fun w1 hw1 => is_same_v w1) (k := ?_); refine Z1 ?_; exact z.1) : p := h ⟨k⟩
theorem Z153 (k : q) (h : Hid q → p := by intro z; refine JL_s (w_store (l' := [_]) Tryz.sizeOf4) (k := ?_); refine Z44 ?_; exact z.1) : p := h ⟨k⟩
theorem Z154 (k : q) (h : Hid q → p := by intro z; refine JD_qg (q_idx (n := s.free.length) Tryz.runUnderlying22 Tryz.sizeOf3 ((((s.free.length : Nat) : Int) - 1).toNat) (ho1_201.slj eI_ok) (gD (by first | exact ix)) (by first | rfl | simp)) (k := ?_); refine JD_qg (q_loadE Tryz.isAgg3 ((((s.free.length : Nat) : Int) - 1).toNat) 0 (ho1_201.slj eI_ok) (gD (by first | exact ix))) (k := ?_); exact z.1) : p := h ⟨k⟩
theorem Z155 (k : q) (h : Hid q → p := by intro z; refine JL_q (q_idx (n := s.free.length) Tryz.runUnderlying22 Tryz.sizeOf3 ((((s.free.length : Nat) : Int) - 1).toNat) (ho1_201.slj eI_ok) (gD (by first | exact ix)) (by first | rfl | simp)) (k := ?_); refine JL_q (q_loadE Tryz.isAgg3 ((((s.free.length : Nat) : Int) - 1).toNat) 0 (ho1_201.slj eI_ok) (gD (by first | exact ix))) (k := ?_); exact z.1) : p := h ⟨k⟩
theorem Z156 (k : q) (h : Hid q → p := by intro z; refine JL_q q_nil (k := ?_); refine JL_q (q_fld FO_97_0) (k := ?_); refine Z512 ?_; exact z.1) : p := h ⟨k⟩
theorem Z157 (k : q) (h : Hid q → p := by intro z; refine JL_qg (q_fld FO_28_2) (k := ?_); refine Z500 ?_; exact z.1) : p := h ⟨k⟩
theorem Z159 (k : q) (h : Hid q → p := by intro z; refine JD_s (V' := ((r30, _) :: ((r31, _) :: []))) (w_store (l' := [_, _, _, _, _]) Tryz.sizeOf28) (k := ?_); refine JD_s (V' := ((r30, _) :: ((r31, _) :: []))) (w_store (l' := [_, _, _, _, _, _, _, _]) Tryz.sizeOf52) (k := ?_); exact z.1) : p := h ⟨k⟩
theorem Z164 (k : q) (h : Hid q → p := by intro z; refine Z31 ?_; refine J_plan mixed 7 [(true, 0), (true, 2), (true, 3), (false, 1), (true, 4), (true, 5), (true, 6)] (by kernel_rfl) ?_; refine Z483 ?_; refine JD_q (q_fld FO_156_2) (k := ?_); refine Z496 ?_; refine JD_v (c_callA Tryz.call139) (fun w1 hw1 => roSets_ok w1 (r := n_)) (k := ?_); refine JD_q q_andW (k := ?_); refine JD_q q_neq (k := ?_); refine Z86 ?_; refine JX_retI Tryz.results109 (Res.tmp rfl Res.nil) ?_; refine Z481 ?_; exact z.1) : p := h ⟨k⟩
theorem Z165 (k : q) (h : Hid q → p := by intro z; refine Z4 ?_; refine JL_p (c_callA Tryz.call127) (fun w1 hw1 => tnGrow_ok w1 (n_ := (((0 + ((((l.take at_1).length) : Nat) : Int)) + 1) + ((((l.drop at_1).length) : Nat) : Int))) (hi := by first | exact lb | decide)) (k := ?_); exact z.1) : p := h ⟨k⟩
theorem Z166 (k : q) (h : Hid q → p := by intro z; refine JD_q q_pickF (k := ?_); refine JD_nil0 ?_; exact z.1) : p := h ⟨k⟩
theorem Z167 (k : q) (h : Hid q → p := by intro z; refine Z14 ?_; refine J_seq ?_; exact z.1) : p := h ⟨k⟩
theorem Z169 (k : q) (h : Hid q → p := by intro z; refine JX_retI Tryz.results74 (Res.agg Tryz.isAgg28 Tryz.sizeOf28 rfl me rfl (Res.agg Tryz.isAgg52 Tryz.sizeOf52 rfl me rfl (Res.tmp rfl Res.nil))) ?_; refine Z20 ?_; exact z.1) : p := h ⟨k⟩
theorem Z172 (k : q) (h : Hid q → p := by intro z; refine JL_s (w_store (l' := [_, _, _]) Tryz.sizeOf156) (k := ?_); refine Z0 ?_; refine Z2 ?_; refine JL_q (q_load Tryz.isAgg153) (k := ?_); refine JL_q (q_loadA Tryz.isAgg156 Tryz.sizeOf156) (k := ?_); refine JL_inl (args := [_, _]) (c_callA Tryz.call109) Tryz.func109 Tryz.ntmps109 ?_; refine Z2 ?_; exact z.1) : p := h ⟨k⟩
theorem Z173 (k : q) (h : Hid q → p := by intro z; refine JD_q (q_idx (n := r.l.length) Tryz.runUnderlying26 Tryz.sizeOf52 (xN r c) (SlNB.j hs4_1.1 sh).sl (zip_get hs4_1.1.1 (by first | exact ix)) (zip_len hs4_1.1.1)) (k := ?_); refine JD_q (q_loadEA Tryz.isAgg52 Tryz.sizeOf52 (xN r c) (SlNB.j hs4_1.1 sh).sl (zip_get hs4_1.1.1 (by first | exact ix))) (k := ?_); exact z.1) : p := h ⟨k⟩
theorem Z174 (k : q) (h : Hid q → p := by intro z; refine Z486 ?_; refine Z27 ?_; exact z.1) : p := h ⟨k⟩
theorem Z175 (k : q) (h : Hid q → p := by intro z; refine JL_q (q_fld FO_52_6) (k := ?_); refine Z541 ?_; exact z.1) : p := h ⟨k⟩
theorem Z176 (k : q) (h : Hid q → p := by intro z; refine J_plan mixed 20 [(true, 0), (true, 1), (true, 2), (true, 3), (true, 4), (true, 5), (true, 6), (true, 7), (true, 8), (true, 9), (true, 10), (true, 11), (true, 12), (true, 13), (true, 14), (true, 15), (true, 16), (true, 17), (true, 18), (true, 19)] (by kernel_rfl) ?_; refine Z483 ?_; exact z.1) : p := h ⟨k⟩
theorem Z177 (k : q) (h : Hid q → p := by intro z; refine JL_inl (args := [_]) (c_callA Tryz.call171) Tryz.func171 Tryz.ntmps171 ?_; refine Z2 ?_; exact z.1) : p := h ⟨k⟩
theorem Z178 (k : q) (h : Hid q → p := by intro z; refine Z2 ?_; refine Z6 ?_; exact z.1) : p := h ⟨k⟩
theorem Z179 (k : q) (h : Hid q → p := by intro z; refine JL_q (q_fld FO_25_0) (k := ?_); refine JL_q (q_load Tryz.isAgg22) (k := ?_); exact z.1) : p := h ⟨k⟩
theorem Z180 (k : q) (h : Hid q → p := by intro z; refine Z518 ?_; refine Z0 ?_; exact z.1) : p := h ⟨k⟩
theorem Z181 (k : q) (h : Hid q → p := by intro z; refine JL_eqL (nC nE) ?_; refine JL_nil ?_; exact z.1) : p := h ⟨k⟩
theorem Z183 (k : q) (h : Hid q → p := by intro z; refine JX_retI Tryz.results171 (Res.tmp rfl Res.nil) ?_; refine Z488 ?_; exact z.1) : p := h ⟨k⟩
theorem Z184 (k : q) (h : Hid q → p := by intro z; refine Z23 ?_; refine JD_skips 3 rfl ?_; exact z.1) : p := h ⟨k⟩
theorem Z185 (k : q) (h : Hid q → p := by intro z; refine Z4 ?_; refine JL_q (q_idx (n := r.l.length) Tryz.runUnderlying26 Tryz.sizeOf52 x_1 (SlNJ.of_base DT_ok h_r_l).sl (zip_get h_r_l.1 (by first | exact ix)) (zip_len h_r_l.1)) (k := ?_); exact z.1) : p := h ⟨k⟩
theorem Z186 (k : q) (h : Hid q → p := by intro z; refine JD_qg (q_fld FO_52_0) (k := ?_); refine JD_qg (q_loadA Tryz.isAgg42 Tryz.sizeOf42) (k := ?_); exact z.1) : p := h ⟨k⟩
theorem Z187 (k : q) (h : Hid q → p := by intro z; refine JL_qg q_nil (k := ?_); refine JL_qg (q_fld FO_131_0) (k := ?_); exact z.1) : p := h ⟨k⟩
theorem Z188 (k : q) (h : Hid q → p := by intro z; refine JL_qg (q_fld FO_25_1) (k := ?_); refine JL_qg (q_load Tryz.isAgg23) (k := ?_); exact z.1) : p := h ⟨k⟩
theorem Z189 (k : q) (h : Hid q → p := by intro z; refine Z484 ?_; refine Z0 ?_; exact z.1) : p := h ⟨k⟩
theorem Z190 (k : q) (h : Hid q → p := by intro z; refine JL_q q_neq (k := ?_); refine Z0 ?_; exact z.1) : p := h ⟨k⟩
theorem Z191 (k : q) (h : Hid q → p := by intro z; refine Z55 ?_; refine JX_scope ?_; exact z.1) : p := h ⟨k⟩
theorem Z192 (k : q) (h : Hid q → p := by intro z; refine JL_q (q_idx (n := l.length) Tryz.runUnderlying50 Tryz.sizeOf62 x_1 (SlJ.of_base h_l) (gD (by first | exact ix)) (by first | rfl | simp)) (k := ?_); refine JL_q (q_loadEA Tryz.isAgg62 Tryz.sizeOf62 x_1 (SlJ.of_base h_l) (gD (by first | exact ix))) (k := ?_); exact z.1) : p := h ⟨k⟩
theorem Z193 (k : q) (h : Hid q → p := by intro z; refine JL_q (q_fld FO_216_0) (k := ?_); refine JL_q (q_load Tryz.isAgg40) (k := ?_); exact z.1) : p := h ⟨k⟩
theorem Z194 (k : q) (h : Hid q → p := by intro z; refine Z106 ?_; refine Z486 ?_; exact z.1) : p := h ⟨k⟩
theorem Z195 (k : q) (h : Hid q → p := by intro z; refine Z2 ?_; refine Z91 ?_; exact z.1) : p := h ⟨k⟩
theorem Z196 (k : q) (h : Hid q → p := by intro z; refine Z481 ?_; refine JL_q (q_idx (n := s.used.length) Tryz.runUnderlying23 Tryz.sizeOf4 ((s.free.getD ((((s.free.length : Nat) : Int) - 1).toNat) default).toNat) (ho1_141.slj eB_ok) (gD (by first | exact ix)) (by first | rfl | simp)) (k := ?_); exact z.1) : p := h ⟨k⟩
theorem Z197 (k : q) (h : Hid q → p := by intro z; refine JX_permL _ ((((((qa (qc (qa (qa (qa (qa (qa (qa q0)))))))).trans (qa (qa (qc (qa (qa (qa (qa (qa q0))))))))).trans (qa (qa (qa (qc (qa (qa (qa (qa q0))))))))).trans (qa (qa (qa (qa (qc (qa (qa (qa q0))))))))).trans (qa (qa (qa (qa q0))))).trans (qb (qb (qb (qb (qb q0)))))) ?_; refine Z534 ?_; exact z.1) : p := h ⟨k⟩
theorem Z198 (k : q) (h : Hid q → p := by intro z; refine Z502 ?_; refine Z540 ?_; exact z.1) : p := h ⟨k⟩
theorem Z199 (k : q) (h : Hid q → p := by intro z; refine JL_q (q_sliceHiMax' (s.free.take ((((s.free.length : Nat) : Int) - 1).toNat)).length ((((s.free.length : Nat) : Int) - 1).toNat) Tryz.runUnderlying22 (fun w => ⟨_, Tryz.sizeOf3 w⟩) (hi := by omega) (hi2 := by omega)) (k := ?_); refine Z57 ?_; exact z.1) : p := h ⟨k⟩
theorem Z200 (k : q) (h : Hid q → p := by intro z; refine Z45 ?_; refine Z2 ?_; exact z.1) : p := h ⟨k⟩
theorem Z201 (k : q) (h : Hid q → p := by intro z; refine JL_q (q_fld FO_28_2) (k := ?_); refine JL_s (w_store (l' := [_, _, _, _, _]) Tryz.sizeOf3) (k := ?_); exact z.1) : p := h ⟨k⟩
theorem Z202 (k : q) (h : Hid q → p := by intro z; refine JX_retID _ _ Tryz.results144 (Res.tmp rfl Res.nil) (vp (List.Perm.refl _) (nC nE)) (List.Sublist.refl _) ?_; refine Z124 ?_; exact z.1) : p := h ⟨k⟩
theorem Z203 (k : q) (h : Hid q → p := by intro z; refine Z76 ?_; refine Z26 ?_; exact z.1) : p := h ⟨k⟩
theorem Z204 (k : q) (h : Hid q → p := by intro z; refine JL_q (q_sliceLo (n := (l.drop at_1).length) (c := (l_c - at_1)) (i := 1) 1 ((l.drop at_1).drop 1).length Tryz.runUnderlying26 Tryz.sizeOf52 (hlo := by first | exact ix) (hnc := by first | omega | exact Nat.le_refl _) (hm := by first | rfl | (simp; done) | ((simp only [List.length_append, List.length_take, List.length_drop, List.length_set, List.length_replicate, List.length_cons, List.length_nil, List.length_map, toS_length, toI_length]) <;> omega))) (k := ?_); refine Z31 ?_; exact z.1) : p := h ⟨k⟩
theorem Z205 (k : q) (h : Hid q → p := by intro z; refine JX_retI Tryz.results142 (Res.tmp rfl Res.nil) ?_; refine Z74 ?_; exact z.1) : p := h ⟨k⟩
theorem Z206 (k : q) (h : Hid q → p := by intro z; refine JL_q (q_fld FO_36_0) (k := ?_); refine JL_s (w_store (l' := [_, _, _, _, _, _, _, _, _, _, _, _]) Tryz.sizeOf3) (k := ?_); exact z.1) : p := h ⟨k⟩
theorem Z207 (k : q) (h : Hid q → p := by intro z; refine JL_q (q_sliceLo (n := l.length) (c := l_c) (i := ((at_1 : Nat) : Int)) at_1 (l.drop at_1).length Tryz.runUnderlying26 Tryz.sizeOf52 (hlo := by first | exact ix) (hnc := by first | omega | exact Nat.le_refl _) (hm := by first | rfl | (simp; done) | ((simp only [List.length_append, List.length_take, List.length_drop, List.length_set, List.length_replicate, List.length_cons, List.length_nil, List.length_map, toS_length, toI_length]) <;> omega))) (k := ?_); refine Z31 ?_; exact z.1) : p := h ⟨k⟩
theorem Z208 (k : q) (h : Hid q → p := by intro z; refine JD_qg q_nil (k := ?_); refine JD_qg (q_fld FO_131_0) (k := ?_); exact z.1) : p := h ⟨k⟩
theorem Z209 (k : q) (h : Hid q → p := by intro z; refine JL_q q_lss (k := ?_); refine Z481 ?_; exact z.1) : p := h ⟨k⟩
theorem Z210 (k : q) (h : Hid q → p := by intro z; refine JL_qg q_not (k := ?_); refine JL_q q_pickT (k := ?_); refine Z49 ?_; exact z.1) : p := h ⟨k⟩
theorem Z211 (k : q) (h : Hid q → p := by intro z; refine Z50 ?_; refine Z520 ?_; exact z.1) : p := h ⟨k⟩
theorem Z212 (k : q) (h : Hid q → p := by intro z; refine Z72 ?_; refine J_planV _ _ (vp (qd (qd q0)) (nA nE)) mixed 13 [(true, 0), (true, 1), (true, 2), (true, 3), (true, 4), (true, 5), (true, 6), (true, 7), (false, 8), (false, 9), (true, 10), (true, 11), (true, 12)] (by kernel_rfl) ?_; exact z.1) : p := h ⟨k⟩
theorem Z213 (k : q) (h : Hid q → p := by intro z; refine JL_q (q_build (cs := [_, _, _, _, _]) Tryz.zeroValue28 PL_28) (k := ?_); refine Z529 ?_; exact z.1) : p := h ⟨k⟩
theorem Z215 (k : q) (h : Hid q → p := by intro z; refine JX_retID _ _ Tryz.results53 (Res.tmp rfl Res.nil) (vp (List.Perm.refl _) nE) (List.Sublist.cons _ (List.Sublist.refl _)) ?_; refine JD_qg q_not (k := ?_); exact z.1) : p := h ⟨k⟩
theorem Z216 (k : q) (h : Hid q → p := by intro z; refine Z2 ?_; refine Z104 ?_; exact z.1) : p := h ⟨k⟩
theorem Z217 (k : q) (h : Hid q → p := by intro z; refine JL_q (q_fld FO_52_2) (k := ?_); refine Z541 ?_; exact z.1) : p := h ⟨k⟩
theorem Z218 (k : q) (h : Hid q → p := by intro z; refine Z505 ?_; refine Z519 ?_; exact z.1) : p := h ⟨k⟩
theorem Z219 (k : q) (h : Hid q → p := by intro z; refine JL_qg (q_fld FO_52_0) (k := ?_); refine JL_qg (q_loadA Tryz.isAgg42 Tryz.sizeOf42) (k := ?_); exact z.1) : p := h ⟨k⟩
theorem Z222 (k : q) (h : Hid q → p := by intro z; refine Z97 ?_; refine Z210 ?_; exact z.1) : p := h ⟨k⟩
theorem Z223 (k : q) (h : Hid q → p := by intro z; refine JD_qg (q_fld FO_52_1) (k := ?_); refine JD_qg (q_load Tryz.isAgg9) (k := ?_); exact z.1) : p := h ⟨k⟩
theorem Z224 (k : q) (h : Hid q → p := by intro z; refine JL_q (q_fld FO_28_0) (k := ?_); refine Z482 ?_; exact z.1) : p := h ⟨k⟩
theorem Z225 (k : q) (h : Hid q → p := by intro z; refine Z2 ?_; refine JL_q (q_loadA Tryz.isAgg36 Tryz.sizeOf36) (k := ?_); exact z.1) : p := h ⟨k⟩
theorem Z226 (k : q) (h : Hid q → p := by intro z; refine JL_q (q_fld FO_25_1) (k := ?_); refine JL_q (q_load Tryz.isAgg23) (k := ?_); exact z.1) : p := h ⟨k⟩
theorem Z227 (k : q) (h : Hid q → p := by intro z; refine JL_skips 4 rfl ?_; refine Z98 ?_; exact z.1) : p := h ⟨k⟩
theorem Z228 (k : q) (h : Hid q → p := by intro z; refine JL_q (q_fld FO_52_3) (k := ?_); refine Z499 ?_; exact z.1) : p := h ⟨k⟩
theorem Z230 (k : q) (h : Hid q → p := by intro z; refine JO_v rfl (c_callA Tryz.call36) (fun w1 hw1 => gCut9_ok w1 (s := r.slots) (h_s_gens := (SlJ.of_base h_r_slots_gens) w1 hw1) (k_s_gens := by assumption) (h_s_used := (SlJ.of_base h_r_slots_used) w1 hw1) (k_s_used := by assumption) (h_s_free := (SlJ.of_base h_r_slots_free) w1 hw1) (k_s_free := by assumption)) (k := ?_); refine JG_q 5 rfl (by kernel_rfl) (q_build (cs := [_, _, _, _, _]) Tryz.zeroValue28 PL_28) (k := ?_); exact z.1) : p := h ⟨k⟩
theorem Z232 (k : q) (h : Hid q → p := by intro z; refine Z481 ?_; refine Z502 ?_; exact z.1) : p := h ⟨k⟩
theorem Z233 (k : q) (h : Hid q → p := by intro z; refine JD_s (V' := ((r3, _) :: ((r4, _) :: []))) (w_store (l' := [_, _, _, _, _]) Tryz.sizeOf28) (k := ?_); refine JD_s (V' := ((r3, _) :: ((r4, _) :: []))) (w_store (l' := [_, _, _, _, _, _]) Tryz.sizeOf44) (k := ?_); exact z.1) : p := h ⟨k⟩
theorem Z234 (k : q) (h : Hid q → p := by intro z; refine JD_inl (args := [_]) (c_callA Tryz.call87) Tryz.func87 Tryz.ntmps87 ?_; refine Z195 ?_; exact z.1) : p := h ⟨k⟩
theorem Z236 (k : q) (h : Hid q → p := by intro z; refine JL_q (q_lenT Tryz.runUnderlying9) (k := ?_); refine JL_q q_min (k := ?_); exact z.1) : p := h ⟨k⟩
theorem Z237 (k : q) (h : Hid q → p := by intro z; refine Z0 ?_; refine Z4 ?_; exact z.1) : p := h ⟨k⟩
theorem Z238 (k : q) (h : Hid q → p := by intro z; refine Z496 ?_; refine JD_q (q_idx (n := s.used.length) Tryz.runUnderlying23 Tryz.sizeOf4 h.slot.toNat (ho1_141.slj eB_ok) (gD (by first | exact ix)) (by first | rfl | simp)) (k := ?_); exact z.1) : p := h ⟨k⟩
theorem Z239 (k : q) (h : Hid q → p := by intro z; refine JL_s (w_store (l' := [_, _, _]) Tryz.sizeOf156) (k := ?_); refine JL_nil ?_; refine Z194 ?_; refine JL_q (q_load Tryz.isAgg22) (k := ?_); refine JL_q (q_fld FO_156_0) (k := ?_); refine Z499 ?_; exact z.1) : p := h ⟨k⟩
theorem Z240 (k : q) (h : Hid q → p := by intro z; refine JL_s (w_store (l' := [_]) Tryz.sizeOf22) (k := ?_); refine JL_nil ?_; refine Z222 ?_; exact z.1) : p := h ⟨k⟩
theorem Z241 (k : q) (h : Hid q → p := by intro z; refine Z18 ?_; refine JL_skips 3 rfl ?_; exact z.1) : p := h ⟨k⟩
theorem Z244 (k : q) (h : Hid q → p := by intro z; refine JL_yIng (vs := [(Value.agg [(vi 10), (vt ([115, 104, 111, 119] : Str)), (vi 1)].toArray)]) hl3 (qa (qa q0)) y_call ?_; refine Z486 ?_; exact z.1) : p := h ⟨k⟩
theorem Z246 (k : q) (h : Hid q → p := by intro z; refine JD_nil0 ?_; refine JL_s (w_store (l' := [_, _, _, _, _]) Tryz.sizeOf26) (k := ?_); exact z.1) : p := h ⟨k⟩
theorem Z247 (k : q) (h : Hid q → p := by intro z; refine JL_q q_pickF (k := ?_); refine Z0 ?_; exact z.1) : p := h ⟨k⟩
theorem Z248 (k : q) (h : Hid q → p := by intro z; refine Z21 ?_; refine Z481 ?_; exact z.1) : p := h ⟨k⟩
theorem Z249 (k : q) (h : Hid q → p := by intro z; refine JL_qg q_eql (k := ?_); refine Z18 ?_; exact z.1) : p := h ⟨k⟩
theorem Z250 (k : q) (h : Hid q → p := by intro z; refine Z63 ?_; refine Z134 ?_; exact z.1) : p := h ⟨k⟩
theorem Z251 (k : q) (h : Hid q → p := by intro z; refine JL_q (q_build (cs := [_, _, _]) Tryz.zeroValue25 PL_25) (k := ?_); refine Z519 ?_; exact z.1) : p := h ⟨k⟩
theorem Z252 (k : q) (h : Hid q → p := by intro z; refine Z5 ?_; refine JL_skips 4 rfl ?_; exact z.1) : p := h ⟨k⟩
theorem Z253 (k : q) (h : Hid q → p := by intro z; refine Z509 ?_; refine JL_q (q_build (cs := [_, _, _, _]) Tryz.zeroValue146 PL_146) (k := ?_); exact z.1) : p := h ⟨k⟩
theorem Z254 (k : q) (h : Hid q → p := by intro z; refine Z5 ?_; refine JL_skips 6 rfl ?_; exact z.1) : p := h ⟨k⟩
theorem Z255 (k : q) (h : Hid q → p := by intro z; refine JD_s (V' := ((r2, _) :: ((r3, _) :: []))) (w_store (l' := [_, _, _]) Tryz.sizeOf25) (k := ?_); refine JD_s (V' := ((r2, _) :: ((r3, _) :: []))) (w_store (l' := [_, _]) Tryz.sizeOf42) (k := ?_); exact z.1) : p := h ⟨k⟩
theorem Z257 (k : q) (h : Hid q → p := by intro z; refine JL_q q_notD (k := ?_); refine Z0 ?_; exact z.1) : p := h ⟨k⟩
theorem Z258 (k : q) (h : Hid q → p := by intro z; refine Z483 ?_; refine JD_q q_nil (k := ?_); exact z.1) : p := h ⟨k⟩
theorem Z259 (k : q) (h : Hid q → p := by intro z; refine JL_qg (q_fld FO_28_1) (k := ?_); refine JL_qg (q_load Tryz.isAgg26) (k := ?_); exact z.1) : p := h ⟨k⟩
theorem Z260 (k : q) (h : Hid q → p := by intro z; refine JL_qg (q_fld FO_52_6) (k := ?_); refine Z500 ?_; exact z.1) : p := h ⟨k⟩
theorem Z261 (k : q) (h : Hid q → p := by intro z; refine Z19 ?_; refine Z72 ?_; exact z.1) : p := h ⟨k⟩
theorem Z262 (k : q) (h : Hid q → p := by intro z; refine JD_q (q_fld FO_25_1) (k := ?_); refine JD_q (q_load Tryz.isAgg23) (k := ?_); exact z.1) : p := h ⟨k⟩
theorem Z263 (k : q) (h : Hid q → p := by intro z; refine JD_q (q_fld FO_25_2) (k := ?_); refine JD_q (q_load Tryz.isAgg22) (k := ?_); exact z.1) : p := h ⟨k⟩
theorem Z265 (k : q) (h : Hid q → p := by intro z; refine Z25 ?_; refine Z4 ?_; exact z.1) : p := h ⟨k⟩
theorem Z266 (k : q) (h : Hid q → p := by intro z; refine JL_s (w_store (l' := [_, _, _, _, _, _, _, _, _]) Tryz.sizeOf88) (k := ?_); refine JL_nil ?_; exact z.1) : p := h ⟨k⟩
theorem Z267 (k : q) (h : Hid q → p := by intro z; refine JL_q (q_fld FO_52_2) (k := ?_); refine Z499 ?_; exact z.1) : p := h ⟨k⟩
theorem Z268 (k : q) (h : Hid q → p := by intro z; refine JL_q (q_fld FO_52_1) (k := ?_); refine Z506 ?_; exact z.1) : p := h ⟨k⟩
theorem Z269 (k : q) (h : Hid q → p := by intro z; refine JL_qg (q_eqS (EQ_44 _ _ _ _ _ _ _ _ _ _ _ _ _ _)) (k := ?_); refine Z18 ?_; exact z.1) : p := h ⟨k⟩
theorem Z270 (k : q) (h : Hid q → p := by intro z; refine Z486 ?_; refine Z41 ?_; exact z.1) : p := h ⟨k⟩
theorem Z271 (k : q) (h : Hid q → p := by intro z; refine Z105 ?_; refine Z85 ?_; exact z.1) : p := h ⟨k⟩
theorem Z272 (k : q) (h : Hid q → p := by intro z; refine Z123 ?_; refine Z178 ?_; exact z.1) : p := h ⟨k⟩
theorem Z273 (k : q) (h : Hid q → p := by intro z; refine JD_nil ?_; refine JL_eqL (nA nE) ?_; exact z.1) : p := h ⟨k⟩
theorem Z274 (k : q) (h : Hid q → p := by intro z; refine Z498 ?_; refine Z15 ?_; exact z.1) : p := h ⟨k⟩
theorem Z275 (k : q) (h : Hid q → p := by intro z; refine JL_s (w_store (l' := [_, _, _]) Tryz.sizeOf22) (k := ?_); refine Z237 ?_; exact z.1) : p := h ⟨k⟩
theorem Z276 (k : q) (h : Hid q → p := by intro z; refine Z1 ?_; refine Z39 ?_; exact z.1) : p := h ⟨k⟩
theorem Z277 (k : q) (h : Hid q → p := by intro z; refine Z482 ?_; refine Z519 ?_; exact z.1) : p := h ⟨k⟩
theorem Z278 (k : q) (h : Hid q → p := by intro z; refine Z236 ?_; refine JL_q (q_subThi (s := name) ((if 41 < ((name.length : Nat) : Int) then 41 else ((name.length : Nat) : Int)).toNat) Tryz.runUnderlying9 (by omega)) (k := ?_); exact z.1) : p := h ⟨k⟩
theorem Z279 (k : q) (h : Hid q → p := by intro z; refine JX_permL _ ((((qa (qa (qa (qc (qa (qa q0)))))).trans (qa (qa (qa (qa (qc (qa q0))))))).trans (qa (qa (qa (qa (qa (qc q0))))))).trans (qb (qb (qb (qb (qb (qb q0))))))) ?_; refine Z511 ?_; exact z.1) : p := h ⟨k⟩
theorem Z280 (k : q) (h : Hid q → p := by intro z; refine JL_eqL (nC (nC nE)) ?_; refine Z44 ?_; exact z.1) : p := h ⟨k⟩
theorem Z281 (k : q) (h : Hid q → p := by intro z; refine JL_q q_eql (k := ?_); refine Z0 ?_; exact z.1) : p := h ⟨k⟩
theorem Z282 (k : q) (h : Hid q → p := by intro z; refine Z533 ?_; refine Z533 ?_; exact z.1) : p := h ⟨k⟩
theorem Z283 (k : q) (h : Hid q → p := by intro z; refine Z121 ?_; refine J_unroll ?_; refine Z38 ?_; exact z.1) : p := h ⟨k⟩
theorem Z284 (k : q) (h : Hid q → p := by intro z; refine Z21 ?_; refine JL_inl (args := [_]) (c_callA Tryz.call49) Tryz.func49 Tryz.ntmps49 ?_; exact z.1) : p := h ⟨k⟩
theorem Z285 (k : q) (h : Hid q → p := by intro z; refine Z114 ?_; refine Z2 ?_; exact z.1) : p := h ⟨k⟩
theorem Z286 (k : q) (h : Hid q → p := by intro z; refine Z92 ?_; refine Z45 ?_; exact z.1) : p := h ⟨k⟩
theorem Z288 (k : q) (h : Hid q → p := by intro z; refine Z2 ?_; refine JL_q (q_load Tryz.isAgg22) (k := ?_); exact z.1) : p := h ⟨k⟩
theorem Z290 (k : q) (h : Hid q → p := by intro z; refine JD_qg (q_load Tryz.isAgg22) (k := ?_); refine Z485 ?_; exact z.1) : p := h ⟨k⟩
theorem Z292 (k : q) (h : Hid q → p := by intro z; refine Z6 ?_; refine Z8 ?_; exact z.1) : p := h ⟨k⟩
theorem Z293 (k : q) (h : Hid q → p := by intro z; refine Z100 ?_; refine JL_q (q_idxAg (m := 2) (n := 3) Tryz.runUnderlying193 Tryz.sizeOf156 Tryz.isAgg156) (k := ?_); exact z.1) : p := h ⟨k⟩
theorem Z294 (k : q) (h : Hid q → p := by intro z; refine Z100 ?_; refine JL_q (q_idxAg (m := 3) (n := 3) Tryz.runUnderlying193 Tryz.sizeOf156 Tryz.isAgg156) (k := ?_); exact z.1) : p := h ⟨k⟩
theorem Z295 (k : q) (h : Hid q → p := by intro z; refine Z100 ?_; refine JL_q (q_idxAg (m := 4) (n := 3) Tryz.runUnderlying193 Tryz.sizeOf156 Tryz.isAgg156) (k := ?_); exact z.1) : p := h ⟨k⟩
theorem Z296 (k : q) (h : Hid q → p := by intro z; refine Z100 ?_; refine JL_q (q_idxAg (m := 5) (n := 3) Tryz.runUnderlying193 Tryz.sizeOf156 Tryz.isAgg156) (k := ?_); exact z.1) : p := h ⟨k⟩
theorem Z297 (k : q) (h : Hid q → p := by intro z; refine Z100 ?_; refine JL_q (q_idxAg (m := 6) (n := 3) Tryz.runUnderlying193 Tryz.sizeOf156 Tryz.isAgg156) (k := ?_); exact z.1) : p := h ⟨k⟩
theorem Z298 (k : q) (h : Hid q → p := by intro z; refine Z100 ?_; refine JL_q (q_idxAg (m := 7) (n := 3) Tryz.runUnderlying193 Tryz.sizeOf156 Tryz.isAgg156) (k := ?_); exact z.1) : p := h ⟨k⟩
theorem Z299 (k : q) (h : Hid q → p := by intro z; refine Z100 ?_; refine JL_q (q_idxAg (m := 8) (n := 3) Tryz.runUnderlying193 Tryz.sizeOf156 Tryz.isAgg156) (k := ?_); exact z.1) : p := h ⟨k⟩
theorem Z300 (k : q) (h : Hid q → p := by intro z; refine Z500 ?_; refine Z489 ?_; exact z.1) : p := h ⟨k⟩
theorem Z301 (k : q) (h : Hid q → p := by intro z; refine Z23 ?_; refine JD_skips 5 rfl ?_; exact z.1) : p := h ⟨k⟩
theorem Z304 (k : q) (h : Hid q → p := by intro z; refine Z39 ?_; refine Z522 ?_; refine Z502 ?_; refine Z107 ?_; refine Z12 ?_; exact z.1) : p := h ⟨k⟩
theorem Z305 (k : q) (h : Hid q → p := by intro z; refine Z0 ?_; refine J_block ?_; exact z.1) : p := h ⟨k⟩
theorem Z306 (k : q) (h : Hid q → p := by intro z; refine J_skip ?_; refine Z40 ?_; exact z.1) : p := h ⟨k⟩
theorem Z307 (k : q) (h : Hid q → p := by intro z; refine Z497 ?_; refine Z218 ?_; exact z.1) : p := h ⟨k⟩
theorem Z308 (k : q) (h : Hid q → p := by intro z; refine J_plan mixed 8 [(true, 0), (true, 1), (true, 2), (true, 3), (true, 4), (true, 5), (true, 6), (true, 7)] (by kernel_rfl) ?_; refine Z483 ?_; exact z.1) : p := h ⟨k⟩
theorem Z309 (k : q) (h : Hid q → p := by intro z; refine JL_qg (q_fld FO_52_2) (k := ?_); refine Z80 ?_; exact z.1) : p := h ⟨k⟩
theorem Z310 (k : q) (h : Hid q → p := by intro z; refine JL_q (q_fld FO_52_3) (k := ?_); refine Z541 ?_; exact z.1) : p := h ⟨k⟩
theorem Z311 (k : q) (h : Hid q → p := by intro z; refine Z485 ?_; refine Z485 ?_; exact z.1) : p := h ⟨k⟩
theorem Z312 (k : q) (h : Hid q → p := by intro z; refine JL_qg (q_fld FO_52_4) (k := ?_); refine JL_qg (q_load Tryz.isAgg49) (k := ?_); exact z.1) : p := h ⟨k⟩
theorem Z313 (k : q) (h : Hid q → p := by intro z; refine JL_qg (q_fld FO_52_5) (k := ?_); refine JL_qg (q_load Tryz.isAgg50) (k := ?_); exact z.1) : p := h ⟨k⟩
theorem Z314 (k : q) (h : Hid q → p := by intro z; refine JD_qg (q_fld FO_44_0) (k := ?_); refine JD_qg (q_load Tryz.isAgg40) (k := ?_); exact z.1) : p := h ⟨k⟩
theorem Z315 (k : q) (h : Hid q → p := by intro z; refine Z505 ?_; refine Z530 ?_; exact z.1) : p := h ⟨k⟩
theorem Z316 (k : q) (h : Hid q → p := by intro z; refine Z6 ?_; refine JX_retI Tryz.results140 (Res.tmp rfl Res.nil) ?_; exact z.1) : p := h ⟨k⟩
theorem Z317 (k : q) (h : Hid q → p := by intro z; refine JX_retI Tryz.results160 (Res.tmp rfl Res.nil) ?_; refine Z6 ?_; exact z.1) : p := h ⟨k⟩
theorem Z318 (k : q) (h : Hid q → p := by intro z; refine Z59 ?_; refine Z60 ?_; exact z.1) : p := h ⟨k⟩
theorem Z319 (k : q) (h : Hid q → p := by intro z; refine Z58 ?_; refine Z58 ?_; exact z.1) : p := h ⟨k⟩
theorem Z320 (k : q) (h : Hid q → p := by intro z; refine Z0 ?_; refine Z2 ?_; exact z.1) : p := h ⟨k⟩
theorem Z321 (k : q) (h : Hid q → p := by intro z; refine JX_retI Tryz.results86 (Res.tmp rfl Res.nil) ?_; refine Z6 ?_; exact z.1) : p := h ⟨k⟩
theorem Z322 (k : q) (h : Hid q → p := by intro z; refine JD_q (q_fld FO_28_1) (k := ?_); refine JD_q (q_load Tryz.isAgg26) (k := ?_); exact z.1) : p := h ⟨k⟩
theorem Z323 (k : q) (h : Hid q → p := by intro z; refine Z487 ?_; refine Z121 ?_; exact z.1) : p := h ⟨k⟩
theorem Z324 (k : q) (h : Hid q → p := by intro z; refine Z147 ?_; refine Z522 ?_; exact z.1) : p := h ⟨k⟩
theorem Z325 (k : q) (h : Hid q → p := by intro z; refine Z23 ?_; refine JD_skips 7 rfl ?_; exact z.1) : p := h ⟨k⟩
theorem Z326 (k : q) (h : Hid q → p := by intro z; refine Z484 ?_; refine Z49 ?_; exact z.1) : p := h ⟨k⟩
theorem Z327 (k : q) (h : Hid q → p := by intro z; refine Z498 ?_; refine Z74 ?_; exact z.1) : p := h ⟨k⟩
theorem Z328 (k : q) (h : Hid q → p := by intro z; refine JL_q q_geq (k := ?_); refine Z481 ?_; exact z.1) : p := h ⟨k⟩
theorem Z331 (k : q) (h : Hid q → p := by intro z; refine JL_inl (args := [_, _, _]) (c_callA Tryz.call86) Tryz.func86 Tryz.ntmps86 ?_; refine Z216 ?_; exact z.1) : p := h ⟨k⟩
theorem Z332 (k : q) (h : Hid q → p := by intro z; refine JL_qg (q_fld FO_44_2) (k := ?_); refine JL_qg (q_loadA Tryz.isAgg42 Tryz.sizeOf42) (k := ?_); exact z.1) : p := h ⟨k⟩
theorem Z333 (k : q) (h : Hid q → p := by intro z; refine JD_q (q_fld FO_97_0) (k := ?_); refine JD_q (q_fld FO_88_0) (k := ?_); exact z.1) : p := h ⟨k⟩
theorem Z336 (k : q) (h : Hid q → p := by intro z; refine JL_q (q_fld FO_52_0) (k := ?_); refine Z492 ?_; exact z.1) : p := h ⟨k⟩
theorem Z337 (k : q) (h : Hid q → p := by intro z; refine JX_subL _ (sd (sd (sk (sk (sd (sd (sa (sk (sk (sk (sk sz))))))))))) ?_; refine Z51 ?_; refine Z498 ?_; exact z.1) : p := h ⟨k⟩
theorem Z338 (k : q) (h : Hid q → p := by intro z; refine JD_qg q_eql (k := ?_); refine Z54 ?_; exact z.1) : p := h ⟨k⟩
theorem Z339 (k : q) (h : Hid q → p := by intro z; refine JX_it1 (.inr rfl) Tryz.results85 q0 ?_; refine J_ret ?_; exact z.1) : p := h ⟨k⟩
theorem Z341 (k : q) (h : Hid q → p := by intro z; refine JD_qg (q_idx (n := (l.drop at_1).length) Tryz.runUnderlying26 Tryz.sizeOf52 0 (SlJ.off (SlJ.of_base h_l) at_1 l_c (by first | omega | exact Nat.le_refl _)) (gD (by first | exact ix)) (by first | rfl | simp)) (k := ?_); refine JD_qg (q_fldE FO_52_0) (k := ?_); exact z.1) : p := h ⟨k⟩
theorem Z342 (k : q) (h : Hid q → p := by intro z; refine J_planV _ _ (vp ((qc (qa q0)).trans (qa (qc (qa q0)))) (nC (nC nE))) mixed 9 [(true, 0), (true, 1), (true, 2), (true, 3), (true, 4), (true, 5), (false, 6), (false, 7), (true, 8)] (by kernel_rfl) ?_; refine Z525 ?_; exact z.1) : p := h ⟨k⟩
theorem Z343 (k : q) (h : Hid q → p := by intro z; refine Z517 ?_; refine Z94 ?_; refine JL_q (q_build (cs := [_, _, _, _, _, _, _, _, _]) Tryz.zeroValue88 PL_88) (k := ?_); exact z.1) : p := h ⟨k⟩
theorem Z344 (k : q) (h : Hid q → p := by intro z; refine Z200 ?_; refine Z271 ?_; exact z.1) : p := h ⟨k⟩
theorem Z345 (k : q) (h : Hid q → p := by intro z; refine Z499 ?_; refine Z481 ?_; exact z.1) : p := h ⟨k⟩
theorem Z346 (k : q) (h : Hid q → p := by intro z; refine Z518 ?_; refine Z1 ?_; exact z.1) : p := h ⟨k⟩
theorem Z348 (k : q) (h : Hid q → p := by intro z; refine JL_inl (args := [_]) (c_callA Tryz.call84) Tryz.func84 Tryz.ntmps84 ?_; refine Z2 ?_; exact z.1) : p := h ⟨k⟩
theorem Z350 (k : q) (h : Hid q → p := by intro z; refine JL_q (q_loadA Tryz.isAgg32 Tryz.sizeOf32) (k := ?_); refine JL_q (q_build (cs := [_, _]) Tryz.zeroValue228 PL_228) (k := ?_); exact z.1) : p := h ⟨k⟩
theorem Z351 (k : q) (h : Hid q → p := by intro z; refine J_false rfl ?_; refine Z4 ?_; exact z.1) : p := h ⟨k⟩
theorem Z352 (k : q) (h : Hid q → p := by intro z; refine J_plan mixed 11 [(true, 0), (true, 1), (true, 2), (true, 3), (true, 4), (true, 5), (true, 7), (false, 6), (false, 8), (false, 9), (true, 10)] (by kernel_rfl) ?_; refine JD_q (q_fld FO_28_1) (k := ?_); refine JD_q (q_load Tryz.isAgg26) (k := ?_); exact z.1) : p := h ⟨k⟩
theorem Z353 (k : q) (h : Hid q → p := by intro z; refine Z123 ?_; refine Z4 ?_; exact z.1) : p := h ⟨k⟩
theorem Z354 (k : q) (h : Hid q → p := by intro z; refine JX_seq_exit ?_; refine JX_block_hit ?_; exact z.1) : p := h ⟨k⟩
theorem Z355 (k : q) (h : Hid q → p := by intro z; refine JX_retID _ _ Tryz.results147 (Res.tmp rfl Res.nil) (vp (List.Perm.refl _) (nC nE)) (List.Sublist.refl _) ?_; refine Z124 ?_; exact z.1) : p := h ⟨k⟩
theorem Z356 (k : q) (h : Hid q → p := by intro z; refine Z5 ?_; refine JL_skip (k := ?_); refine Z58 ?_; exact z.1) : p := h ⟨k⟩
theorem Z357 (k : q) (h : Hid q → p := by intro z; refine JX_retI Tryz.results49 (Res.tmp rfl Res.nil) ?_; refine Z305 ?_; exact z.1) : p := h ⟨k⟩
theorem Z359 (k : q) (h : Hid q → p := by intro z; refine JD_q q_pickT (k := ?_); refine Z86 ?_; exact z.1) : p := h ⟨k⟩
theorem Z360 (k : q) (h : Hid q → p := by intro z; refine JL_q q_pickT (k := ?_); refine Z41 ?_; exact z.1) : p := h ⟨k⟩
theorem Z362 (k : q) (h : Hid q → p := by intro z; refine JL_q (q_neS (u := Value.nilIface) (v := Value.nilIface) (b := false) (fun w => by kernel_rfl)) (k := ?_); refine Z49 ?_; exact z.1) : p := h ⟨k⟩
theorem Z364 (k : q) (h : Hid q → p := by intro z; refine Z144 ?_; refine JD_qg (q_lenS Tryz.runUnderlying49) (k := ?_); exact z.1) : p := h ⟨k⟩
theorem Z365 (k : q) (h : Hid q → p := by intro z; refine Z353 ?_; refine JL_p (c_callA Tryz.call127) (fun w1 hw1 => tnGrow_ok w1 (n_ := (((0 + ((((l.take at_1).length) : Nat) : Int)) + 1) + (((((l.drop at_1).drop 1).length) : Nat) : Int))) (hi := by first | exact lb | decide)) (k := ?_); exact z.1) : p := h ⟨k⟩
theorem Z366 (k : q) (h : Hid q → p := by intro z; refine Z17 ?_; refine J_subL _ (sk (sd (sd (sa (sk (sk (sa (sk (sk (sk sz)))))))))) ?_; exact z.1) : p := h ⟨k⟩
theorem Z367 (k : q) (h : Hid q → p := by intro z; refine JL_q (q_lenS Tryz.runUnderlying23) (k := ?_); refine Z121 ?_; exact z.1) : p := h ⟨k⟩
theorem Z368 (k : q) (h : Hid q → p := by intro z; refine Z508 ?_; refine Z121 ?_; exact z.1) : p := h ⟨k⟩
theorem Z369 (k : q) (h : Hid q → p := by intro z; refine JL_qg (q_fld FO_25_0) (k := ?_); refine JL_qg (q_load Tryz.isAgg22) (k := ?_); exact z.1) : p := h ⟨k⟩
theorem Z370 (k : q) (h : Hid q → p := by intro z; refine Z527 ?_; refine Z483 ?_; exact z.1) : p := h ⟨k⟩
theorem Z372 (k : q) (h : Hid q → p := by intro z; refine Z5 ?_; refine JL_skips 2 rfl ?_; exact z.1) : p := h ⟨k⟩
theorem Z373 (k : q) (h : Hid q → p := by intro z; refine JL_qg (q_fld FO_52_3) (k := ?_); refine Z500 ?_; exact z.1) : p := h ⟨k⟩
theorem Z374 (k : q) (h : Hid q → p := by intro z; refine JD_qg (q_fld FO_52_3) (k := ?_); refine Z528 ?_; exact z.1) : p := h ⟨k⟩
theorem Z375 (k : q) (h : Hid q → p := by intro z; refine JL_qg (q_fld FO_52_1) (k := ?_); refine JL_qg (q_load Tryz.isAgg9) (k := ?_); exact z.1) : p := h ⟨k⟩
theorem Z376 (k : q) (h : Hid q → p := by intro z; refine Z117 ?_; refine Z41 ?_; exact z.1) : p := h ⟨k⟩
theorem Z377 (k : q) (h : Hid q → p := by intro z; refine Z507 ?_; refine Z320 ?_; exact z.1) : p := h ⟨k⟩
theorem Z378 (k : q) (h : Hid q → p := by intro z; refine JL_q q_eql (k := ?_); refine Z1 ?_; exact z.1) : p := h ⟨k⟩
theorem Z379 (k : q) (h : Hid q → p := by intro z; refine JL_q (q_fld FO_62_3) (k := ?_); refine Z499 ?_; exact z.1) : p := h ⟨k⟩
theorem Z380 (k : q) (h : Hid q → p := by intro z; refine JD_q (q_fld FO_28_2) (k := ?_); refine Z496 ?_; exact z.1) : p := h ⟨k⟩
theorem Z381 (k : q) (h : Hid q → p := by intro z; refine Z481 ?_; refine Z522 ?_; exact z.1) : p := h ⟨k⟩
theorem Z382 (k : q) (h : Hid q → p := by intro z; refine JL_q (q_fld FO_36_0) (k := ?_); refine Z499 ?_; exact z.1) : p := h ⟨k⟩
theorem Z383 (k : q) (h : Hid q → p := by intro z; refine JL_q (q_fld FO_36_5) (k := ?_); refine Z506 ?_; exact z.1) : p := h ⟨k⟩
theorem Z390 (k : q) (h : Hid q → p := by intro z; refine Z14 ?_; refine Z2 ?_; exact z.1) : p := h ⟨k⟩
theorem Z391 (k : q) (h : Hid q → p := by intro z; refine JL_q (q_idxO Tryz.runUnderlying184 Tryz.sizeOf138 2) (k := ?_); refine JL_q (q_load Tryz.isAgg138) (k := ?_); exact z.1) : p := h ⟨k⟩
theorem Z392 (k : q) (h : Hid q → p := by intro z; refine Z0 ?_; refine Z21 ?_; exact z.1) : p := h ⟨k⟩
theorem Z393 (k : q) (h : Hid q → p := by intro z; refine JL_q (q_loadB Tryz.isAgg78 hgl3) (k := ?_); refine JL_v (args := [(Value.iface 240 (.pointer (some ea0))), (Value.iface 240 (.pointer (some ea0)))]) (c_callA Tryz.call176) (fun w1 hw1 => is_same_v w1) (k := ?_); exact z.1) : p := h ⟨k⟩
theorem Z394 (k : q) (h : Hid q → p := by intro z; refine JO_v rfl (c_callA Tryz.call42) (fun w1 hw1 => gTold1_ok w1 (e_ := err_1) (hG.ext hw1.ext_out)) (k := ?_); refine JG_q 10 rfl (by kernel_rfl) (q_build (cs := [_, _, _, _, _, _]) Tryz.zeroValue44 PL_44) (k := ?_); exact z.1) : p := h ⟨k⟩
theorem Z395 (k : q) (h : Hid q → p := by intro z; refine Z50 ?_; refine Z531 ?_; exact z.1) : p := h ⟨k⟩
theorem Z396 (k : q) (h : Hid q → p := by intro z; refine Z41 ?_; refine Z82 ?_; exact z.1) : p := h ⟨k⟩
theorem Z397 (k : q) (h : Hid q → p := by intro z; refine J_exit ?_; refine JX_block_miss rfl ?_; exact z.1) : p := h ⟨k⟩
theorem Z398 (k : q) (h : Hid q → p := by intro z; refine Z15 ?_; refine Z59 ?_; exact z.1) : p := h ⟨k⟩
theorem Z399 (k : q) (h : Hid q → p := by intro z; refine Z153 ?_; refine Z510 ?_; exact z.1) : p := h ⟨k⟩
theorem Z400 (k : q) (h : Hid q → p := by intro z; refine Z57 ?_; refine Z125 ?_; exact z.1) : p := h ⟨k⟩
theorem Z402 (k : q) (h : Hid q → p := by intro z; refine Z396 ?_; refine JX_retIM [] (List.Perm.refl _) Tryz.results91 (Res.tmp rfl Res.nil) ?_; refine Z484 ?_; refine Z344 ?_; exact z.1) : p := h ⟨k⟩
theorem Z403 (k : q) (h : Hid q → p := by intro z; refine JX_seq ?_; refine J_seq ?_; exact z.1) : p := h ⟨k⟩
theorem Z404 (k : q) (h : Hid q → p := by intro z; refine Z104 ?_; refine JL_q (q_lenS Tryz.runUnderlying182) (k := ?_); refine Z283 ?_; refine Z69 ?_; refine JL_q (q_idxO Tryz.runUnderlying182 Tryz.sizeOf26 0) (k := ?_); refine Z64 ?_; exact z.1) : p := h ⟨k⟩
theorem Z405 (k : q) (h : Hid q → p := by intro z; refine Z318 ?_; refine Z69 ?_; exact z.1) : p := h ⟨k⟩
theorem Z406 (k : q) (h : Hid q → p := by intro z; refine Z99 ?_; refine Z485 ?_; exact z.1) : p := h ⟨k⟩
theorem Z407 (k : q) (h : Hid q → p := by intro z; refine Z76 ?_; refine Z203 ?_; exact z.1) : p := h ⟨k⟩
theorem Z409 (k : q) (h : Hid q → p := by intro z; refine Z489 ?_; refine JL_qg q_gtr (k := ?_); exact z.1) : p := h ⟨k⟩
theorem Z410 (k : q) (h : Hid q → p := by intro z; refine JO_v rfl (c_callA Tryz.call42) (fun w1 hw1 => gTold0_ok w1 (hG.ext hw1.ext_out)) (k := ?_); refine JG_q 10 rfl (by kernel_rfl) (q_build (cs := [_, _, _, _, _, _]) Tryz.zeroValue44 PL_44) (k := ?_); exact z.1) : p := h ⟨k⟩
theorem Z411 (k : q) (h : Hid q → p := by intro z; refine Z489 ?_; refine JL_qg q_not (k := ?_); exact z.1) : p := h ⟨k⟩
theorem Z413 (k : q) (h : Hid q → p := by intro z; refine Z333 ?_; refine JD_q (q_loadA Tryz.isAgg52 Tryz.sizeOf52) (k := ?_); exact z.1) : p := h ⟨k⟩
theorem Z414 (k : q) (h : Hid q → p := by intro z; refine Z181 ?_; refine JX_permL _ ((((((((((((((qa (qa (qa (qa (qa (qa (qa (qa (qa (qa (qc (qa (qa (qa q0)))))))))))))).trans (qa (qa (qa (qa (qa (qa (qa (qa (qa (qa (qa (qc (qa (qa q0))))))))))))))).trans (qa (qa (qa (qa (qa (qa (qa (qa (qa (qa (qa (qa (qc (qa q0))))))))))))))).trans (qa (qa (qa (qa (qa (qa (qa (qa (qa (qa (qa (qa (qa (qc q0))))))))))))))).trans (qb (qb (qb (qb (qb (qb (qb (qb (qb (qb (qb (qb (qb (qb q0))))))))))))))).trans (qc (qa (qa (qa (qa (qa (qa (qa (qa (qa (qa (qa (qa (qa q0))))))))))))))).trans (qa (qc (qa (qa (qa (qa (qa (qa (qa (qa (qa (qa (qa (qa q0))))))))))))))).trans (qa (qa (qc (qa (qa (qa (qa (qa (qa (qa (qa (qa (qa (qa q0))))))))))))))).trans (qa (qa (qa (qc (qa (qa (qa (qa (qa (qa (qa (qa (qa (qa q0))))))))))))))).trans (qa (qa (qa (qa (qc (qa (qa (qa (qa (qa (qa (qa (qa (qa q0))))))))))))))).trans (qa (qa (qa (qa (qa (qc (qa (qa (qa (qa (qa (qa (qa (qa q0))))))))))))))).trans (qa (qa (qa (qa (qa (qa (qc (qa (qa (qa (qa (qa (qa (qa q0))))))))))))))).trans (qa (qa (qa (qa (qa (qa (qa (qc (qa (qa (qa (qa (qa (qa q0))))))))))))))).trans (qa (qa (qa (qa (qa (qa (qa (qa (qc (qa (qa (qa (qa q0)))))))))))))) ?_; refine JX_subL _ (List.Sublist.cons_cons _ (List.Sublist.cons_cons _ (List.Sublist.cons_cons _ (List.Sublist.cons_cons _ (List.Sublist.cons_cons _ (List.Sublist.cons_cons _ (List.Sublist.cons_cons _ (List.Sublist.cons_cons _ (List.Sublist.cons_cons _ (List.Sublist.append (List.Sublist.refl _) (List.Sublist.cons_cons _ (List.Sublist.cons_cons _ (List.Sublist.cons_cons _ (List.Sublist.cons_cons _ (List.nil_sublist _))))))))))))))) ?_; exact z.1) : p := h ⟨k⟩
theorem Z415 (k : q) (h : Hid q → p := by intro z; refine Z500 ?_; refine JL_qg q_leq (k := ?_); exact z.1) : p := h ⟨k⟩
theorem Z416 (k : q) (h : Hid q → p := by intro z; refine Z484 ?_; refine Z45 ?_; exact z.1) : p := h ⟨k⟩
theorem Z417 (k : q) (h : Hid q → p := by intro z; refine Z1 ?_; refine J_true rfl ?_; exact z.1) : p := h ⟨k⟩
theorem Z418 (k : q) (h : Hid q → p := by intro z; refine JD_qg (q_fldE FO_42_0) (k := ?_); refine JD_qg (q_loadE Tryz.isAgg3 0 0 (SlJ.off (SlJ.of_base h_l) at_1 l_c (by first | omega | exact Nat.le_refl _)) (gD (by first | exact ix))) (k := ?_); exact z.1) : p := h ⟨k⟩
theorem Z419 (k : q) (h : Hid q → p := by intro z; refine J_planV _ _ (vp (List.Perm.refl _) (nA nE)) mixed 9 [(true, 0), (true, 1), (true, 2), (true, 3), (true, 4), (true, 5), (true, 6), (true, 7), (false, 8)] (by kernel_rfl) ?_; refine Z62 ?_; exact z.1) : p := h ⟨k⟩
theorem Z420 (k : q) (h : Hid q → p := by intro z; refine Z41 ?_; refine JX_subL _ (sk (sk (sd (sd (sk (sk (sk (sk (sa (sk (sk (sk (sk sz))))))))))))) ?_; exact z.1) : p := h ⟨k⟩
theorem Z422 (k : q) (h : Hid q → p := by intro z; refine Z491 ?_; refine Z72 ?_; exact z.1) : p := h ⟨k⟩
theorem Z423 (k : q) (h : Hid q → p := by intro z; refine Z499 ?_; refine Z495 ?_; exact z.1) : p := h ⟨k⟩
theorem Z424 (k : q) (h : Hid q → p := by intro z; refine Z484 ?_; refine Z1 ?_; exact z.1) : p := h ⟨k⟩
theorem Z425 (k : q) (h : Hid q → p := by intro z; refine Z486 ?_; refine Z116 ?_; exact z.1) : p := h ⟨k⟩
theorem Z426 (k : q) (h : Hid q → p := by intro z; refine JX_retI Tryz.results84 (Res.tmp rfl Res.nil) ?_; refine Z305 ?_; exact z.1) : p := h ⟨k⟩
theorem Z427 (k : q) (h : Hid q → p := by intro z; refine Z31 ?_; refine Z2 ?_; exact z.1) : p := h ⟨k⟩
theorem Z428 (k : q) (h : Hid q → p := by intro z; refine Z14 ?_; refine Z4 ?_; exact z.1) : p := h ⟨k⟩
theorem Z429 (k : q) (h : Hid q → p := by intro z; refine Z488 ?_; refine Z180 ?_; exact z.1) : p := h ⟨k⟩
theorem Z430 (k : q) (h : Hid q → p := by intro z; refine JX_retI Tryz.results165 (Res.tmp rfl Res.nil) ?_; refine Z6 ?_; exact z.1) : p := h ⟨k⟩
theorem Z431 (k : q) (h : Hid q → p := by intro z; refine JX_retI Tryz.results94 (Res.tmp rfl Res.nil) ?_; refine Z79 ?_; exact z.1) : p := h ⟨k⟩
theorem Z432 (k : q) (h : Hid q → p := by intro z; refine JL_qg (q_build (cs := [_, _, _, _, _, _]) Tryz.zeroValue44 PL_44) (k := ?_); refine Z269 ?_; exact z.1) : p := h ⟨k⟩
theorem Z433 (k : q) (h : Hid q → p := by intro z; refine Z208 ?_; refine JD_qg (q_fld FO_25_0) (k := ?_); exact z.1) : p := h ⟨k⟩
theorem Z434 (k : q) (h : Hid q → p := by intro z; refine Z317 ?_; refine JX_retID _ _ Tryz.results146 (Res.tmp rfl Res.nil) (vp (List.Perm.refl _) (nC nE)) (List.Sublist.trans (List.Sublist.refl _) (List.sublist_append_right _ _)) ?_; exact z.1) : p := h ⟨k⟩
theorem Z435 (k : q) (h : Hid q → p := by intro z; refine Z31 ?_; refine J_planV _ _ (vp (List.Perm.refl _) (nA nE)) mixed 8 [(true, 0), (true, 1), (true, 2), (true, 3), (true, 4), (true, 5), (false, 6), (true, 7)] (by kernel_rfl) ?_; exact z.1) : p := h ⟨k⟩
theorem Z436 (k : q) (h : Hid q → p := by intro z; refine Z259 ?_; refine JL_qg (q_lenS Tryz.runUnderlying26) (k := ?_); exact z.1) : p := h ⟨k⟩
theorem Z437 (k : q) (h : Hid q → p := by intro z; refine Z301 ?_; refine Z139 ?_; exact z.1) : p := h ⟨k⟩
theorem Z438 (k : q) (h : Hid q → p := by intro z; refine Z91 ?_; refine JL_q q_func (k := ?_); refine Z6 ?_; exact z.1) : p := h ⟨k⟩
theorem Z439 (k : q) (h : Hid q → p := by intro z; refine J_scope ?_; refine J_seq ?_; refine J_label ?_; refine JX_seq ?_; refine Z2 ?_; exact z.1) : p := h ⟨k⟩
theorem Z440 (k : q) (h : Hid q → p := by intro z; refine JG_q 13 rfl (by kernel_rfl) q_assign (k := ?_); refine Z505 ?_; refine JL_eqL (nA (nA nE)) ?_; exact z.1) : p := h ⟨k⟩
theorem Z441 (k : q) (h : Hid q → p := by intro z; refine Z1 ?_; refine Z265 ?_; exact z.1) : p := h ⟨k⟩
theorem Z442 (k : q) (h : Hid q → p := by intro z; refine JL_q q_pickT (k := ?_); refine Z417 ?_; exact z.1) : p := h ⟨k⟩
theorem Z443 (k : q) (h : Hid q → p := by intro z; refine JL_inl (args := [_]) (c_callA Tryz.call160) Tryz.func160 Tryz.ntmps160 ?_; refine Z216 ?_; exact z.1) : p := h ⟨k⟩
theorem Z444 (k : q) (h : Hid q → p := by intro z; refine JD_inl (args := [_]) (c_callA Tryz.call147) Tryz.func147 Tryz.ntmps147 ?_; refine Z195 ?_; exact z.1) : p := h ⟨k⟩
theorem Z445 (k : q) (h : Hid q → p := by intro z; refine JL_qg (q_fld FO_52_6) (k := ?_); refine Z80 ?_; exact z.1) : p := h ⟨k⟩
theorem Z446 (k : q) (h : Hid q → p := by intro z; refine Z276 ?_; refine JL_inlM (args := [_]) (c_callA Tryz.call91) Tryz.func91 Tryz.ntmps91 ?_; exact z.1) : p := h ⟨k⟩
theorem Z447 (k : q) (h : Hid q → p := by intro z; refine JD_q (q_sliceHiMax' (l.take at_1).length at_1 Tryz.runUnderlying26 (fun w => ⟨_, Tryz.sizeOf52 w⟩) (hi := by omega) (hi2 := by omega)) (k := ?_); refine JD_q (q_loadA Tryz.isAgg52 Tryz.sizeOf52) (k := ?_); refine Z483 ?_; exact z.1) : p := h ⟨k⟩
theorem Z449 (k : q) (h : Hid q → p := by intro z; refine Z518 ?_; refine Z91 ?_; exact z.1) : p := h ⟨k⟩
theorem Z450 (k : q) (h : Hid q → p := by intro z; refine Z398 ?_; refine JX_permL _ (((((((qa (qa (qa (qa (qc (qa (qa (qa q0)))))))).trans (qa (qa (qa (qa (qa (qc (qa (qa q0))))))))).trans (qa (qa (qa (qa (qa (qa (qc (qa q0))))))))).trans (qa (qa (qa (qa (qa (qa (qa (qc q0))))))))).trans (qb (qb (qb (qb (qb (qb (qb (qb q0))))))))).trans (qc (qa (qa (qa (qa (qa q0))))))).trans (qa (qc (qa (qa (qa (qa q0))))))) ?_; refine JX_subL _ (List.Sublist.cons_cons _ (List.Sublist.cons_cons _ (List.Sublist.append (List.Sublist.refl _) (List.Sublist.cons_cons _ (List.Sublist.cons_cons _ (List.Sublist.cons_cons _ (List.Sublist.cons_cons _ (List.nil_sublist _)))))))) ?_; exact z.1) : p := h ⟨k⟩
theorem Z452 (k : q) (h : Hid q → p := by intro z; refine Z17 ?_; refine Z2 ?_; exact z.1) : p := h ⟨k⟩
theorem Z453 (k : q) (h : Hid q → p := by intro z; refine Z441 ?_; refine JL_v (c_callA Tryz.call93) (fun w1 hw1 => aclRight_ok w1 (l := l) (h_l := (SlJ.of_base h_l) w1 hw1) (n_l := by first | exact lb | decide)) (k := ?_); exact z.1) : p := h ⟨k⟩
theorem Z454 (k : q) (h : Hid q → p := by intro z; refine Z117 ?_; refine Z502 ?_; exact z.1) : p := h ⟨k⟩
theorem Z455 (k : q) (h : Hid q → p := by intro z; refine Z261 ?_; refine J_seq ?_; exact z.1) : p := h ⟨k⟩
theorem Z457 (k : q) (h : Hid q → p := by intro z; refine JX_seq_exit ?_; refine JX_block_miss rfl ?_; exact z.1) : p := h ⟨k⟩
theorem Z458 (k : q) (h : Hid q → p := by intro z; refine Z88 ?_; refine Z83 ?_; exact z.1) : p := h ⟨k⟩
theorem Z459 (k : q) (h : Hid q → p := by intro z; refine Z191 ?_; refine JX_it0 (.inr rfl) Tryz.results138 q0 ?_; exact z.1) : p := h ⟨k⟩
theorem Z460 (k : q) (h : Hid q → p := by intro z; refine Z14 ?_; refine Z25 ?_; exact z.1) : p := h ⟨k⟩
theorem Z461 (k : q) (h : Hid q → p := by intro z; refine Z65 ?_; refine Z41 ?_; exact z.1) : p := h ⟨k⟩
theorem Z462 (k : q) (h : Hid q → p := by intro z; refine Z285 ?_; refine Z402 ?_; exact z.1) : p := h ⟨k⟩
theorem Z466 (k : q) (h : Hid q → p := by intro z; refine JX_retI Tryz.results141 (Res.tmp rfl (Res.tmp rfl (Res.tmp rfl Res.nil))) ?_; refine Z37 ?_; refine Z327 ?_; refine Z107 ?_; refine Z27 ?_; refine JL_inl (args := [_]) (c_callA Tryz.call142) Tryz.func142 Tryz.ntmps142 ?_; refine Z195 ?_; exact z.1) : p := h ⟨k⟩
theorem Z468 (k : q) (h : Hid q → p := by intro z; refine Z141 ?_; refine JL_qg (q_load Tryz.isAgg129) (k := ?_); exact z.1) : p := h ⟨k⟩
theorem Z469 (k : q) (h : Hid q → p := by intro z; refine JD_q (q_idx (n := s.gens.length) Tryz.runUnderlying22 Tryz.sizeOf3 ((s.free.getD ((((s.free.length : Nat) : Int) - 1).toNat) default).toNat) (hos302.slj eI_ok) (gD (by first | exact ix)) (by first | rfl | simp)) (k := ?_); refine JD_q (q_loadE Tryz.isAgg3 ((s.free.getD ((((s.free.length : Nat) : Int) - 1).toNat) default).toNat) 0 (hos302.slj eI_ok) (gD (by first | exact ix))) (k := ?_); refine JD_q (q_build (cs := [_, _]) Tryz.zeroValue42 PL_42) (k := ?_); exact z.1) : p := h ⟨k⟩
theorem Z471 (k : q) (h : Hid q → p := by intro z; refine Z439 ?_; refine JL_q (q_load Tryz.isAgg129) (k := ?_); exact z.1) : p := h ⟨k⟩
theorem Z472 (k : q) (h : Hid q → p := by intro z; refine JX_retI Tryz.results151 (Res.tmp rfl Res.nil) ?_; refine JL_q q_geq (k := ?_); exact z.1) : p := h ⟨k⟩
theorem Z473 (k : q) (h : Hid q → p := by intro z; refine JK_q ((q_fld FO_97_0).k) (k := ?_); refine JK_q ((q_fld FO_88_0).k) (k := ?_); exact z.1) : p := h ⟨k⟩
theorem Z476 (k : q) (h : Hid q → p := by intro z; refine Z14 ?_; refine Z265 ?_; exact z.1) : p := h ⟨k⟩
theorem Z477 (k : q) (h : Hid q → p := by intro z; refine Z72 ?_; refine Z4 ?_; refine JL_q (q_mkI Tryz.underlying219) (k := ?_); exact z.1) : p := h ⟨k⟩
theorem Z478 (k : q) (h : Hid q → p := by intro z; refine JD_qg (q_fld FO_42_0) (k := ?_); refine Z528 ?_; exact z.1) : p := h ⟨k⟩
theorem Z479 (k : q) (h : Hid q → p := by intro z; refine JD_qg q_eql (k := ?_); refine Z485 ?_; exact z.1) : p := h ⟨k⟩
theorem Z481 (k : q) (h : Hid q → p := by intro z; refine JL_q q_move (k := ?_); exact z.1) : p := h ⟨k⟩
theorem Z482 (k : q) (h : Hid q → p := by intro z; refine JL_q (q_loadA Tryz.isAgg25 Tryz.sizeOf25) (k := ?_); exact z.1) : p := h ⟨k⟩
theorem Z483 (k : q) (h : Hid q → p := by intro z; refine JD_q q_move (k := ?_); exact z.1) : p := h ⟨k⟩
theorem Z484 (k : q) (h : Hid q → p := by intro z; refine JL_q q_not (k := ?_); exact z.1) : p := h ⟨k⟩
theorem Z485 (k : q) (h : Hid q → p := by intro z; refine JD_qg q_move (k := ?_); exact z.1) : p := h ⟨k⟩
theorem Z486 (k : q) (h : Hid q → p := by intro z; refine J_reg ?_; exact z.1) : p := h ⟨k⟩
theorem Z487 (k : q) (h : Hid q → p := by intro z; refine JL_q (q_lenS Tryz.runUnderlying22) (k := ?_); exact z.1) : p := h ⟨k⟩
theorem Z488 (k : q) (h : Hid q → p := by intro z; refine JL_q q_assign (k := ?_); exact z.1) : p := h ⟨k⟩
theorem Z489 (k : q) (h : Hid q → p := by intro z; refine JL_qg q_move (k := ?_); exact z.1) : p := h ⟨k⟩
theorem Z490 (k : q) (h : Hid q → p := by intro z; refine JL_qg (q_build (cs := [_, _]) Tryz.zeroValue42 PL_42) (k := ?_); exact z.1) : p := h ⟨k⟩
theorem Z491 (k : q) (h : Hid q → p := by intro z; refine JL_s (w_store (l' := [_]) Tryz.sizeOf3) (k := ?_); exact z.1) : p := h ⟨k⟩
theorem Z492 (k : q) (h : Hid q → p := by intro z; refine JL_q (q_loadA Tryz.isAgg42 Tryz.sizeOf42) (k := ?_); exact z.1) : p := h ⟨k⟩
theorem Z493 (k : q) (h : Hid q → p := by intro z; refine JO_pV rfl (c_callA Tryz.call72) (fun w1 hw1 => boClone_ok w1 (s := s.used) (h_s := (SlJ.of_base h_s_used) w1 hw1) (n_s := by first | exact lb | decide)) (k := ?_); exact z.1) : p := h ⟨k⟩
theorem Z494 (k : q) (h : Hid q → p := by intro z; refine JO_pV rfl (c_callA Tryz.call71) (fun w1 hw1 => inClone_ok w1 (s := s.free) (h_s := (SlJ.of_base h_s_free) w1 hw1) (n_s := by first | exact lb | decide)) (k := ?_); exact z.1) : p := h ⟨k⟩
theorem Z495 (k : q) (h : Hid q → p := by intro z; refine JL_q q_sub (k := ?_); exact z.1) : p := h ⟨k⟩
theorem Z496 (k : q) (h : Hid q → p := by intro z; refine JD_q (q_load Tryz.isAgg3) (k := ?_); exact z.1) : p := h ⟨k⟩
theorem Z497 (k : q) (h : Hid q → p := by intro z; refine JG_q 4 rfl (by kernel_rfl) (q_build (cs := [_, _, _]) Tryz.zeroValue25 PL_25) (k := ?_); exact z.1) : p := h ⟨k⟩
theorem Z498 (k : q) (h : Hid q → p := by intro z; refine JL_q q_ext (k := ?_); exact z.1) : p := h ⟨k⟩
theorem Z499 (k : q) (h : Hid q → p := by intro z; refine JL_q (q_load Tryz.isAgg3) (k := ?_); exact z.1) : p := h ⟨k⟩
theorem Z500 (k : q) (h : Hid q → p := by intro z; refine JL_qg (q_load Tryz.isAgg3) (k := ?_); exact z.1) : p := h ⟨k⟩
theorem Z501 (k : q) (h : Hid q → p := by intro z; refine JL_q (q_lenS Tryz.runUnderlying49) (k := ?_); exact z.1) : p := h ⟨k⟩
theorem Z502 (k : q) (h : Hid q → p := by intro z; refine JL_q q_add (k := ?_); exact z.1) : p := h ⟨k⟩
theorem Z503 (k : q) (h : Hid q → p := by intro z; refine JO_pV rfl (c_callA Tryz.call82) (fun w1 hw1 => ruClone_ok w1 (s := l) (h_s := (SlJ.of_base h_l) w1 hw1) (n_s := by first | exact lb | decide)) (k := ?_); exact z.1) : p := h ⟨k⟩
theorem Z504 (k : q) (h : Hid q → p := by intro z; refine JO_m rfl (c_callA Tryz.call172) (fun w1 hw1 => ruInsert_ok w1 (s := l) (i := at_) (x := r) (o_s := ho1_41) (b_s := fun p hp => hw1.own p (by first | exact hp | (simp [hp]; done))) (n_s := by first | exact lb | decide) (h_v := (SlJ.lit (xs := ([r] : List Rule)) eRule_ok) w1 hw1.right) (d_v := (hw1.notIn (List.Perm.trans (List.Perm.of_eq (by simp only [List.append_assoc, List.cons_append, List.nil_append])) (show List.Perm (B1_41 ++ ((r102, oc [(Value.bool r.allow), (vi r.pfx.addr), (vi r.pfx.bits), (vi r.prt.lo), (vi r.prt.hi)] 34) :: ((r1, oc [(Value.bool r.allow), (vi r.pfx.addr), (vi r.pfx.bits), (vi r.prt.lo), (vi r.prt.hi)] 34) :: []))) ((r102, oc [(Value.bool r.allow), (vi r.pfx.addr), (vi r.pfx.bits), (vi r.prt.lo), (vi r.prt.hi)] 34) :: (B1_41 ++ ((r1, oc [(Value.bool r.allow), (vi r.pfx.addr), (vi r.pfx.bits), (vi r.prt.lo), (vi r.prt.hi)] 34) :: []))) from (q0.trans (qc q0)))))) (e_v := ⟨r102, _, _, rfl, hw1.own (r102, oc [(Value.bool r.allow), (vi r.pfx.addr), (vi r.pfx.bits), (vi r.prt.lo), (vi r.prt.hi)] 34) (by simp), fun hk => (hw1.notIn (List.Perm.trans (List.Perm.of_eq (by simp only [List.append_assoc, List.cons_append, List.nil_append])) (show List.Perm (B1_41 ++ ((r102, oc [(Value.bool r.allow), (vi r.pfx.addr), (vi r.pfx.bits), (vi r.prt.lo), (vi r.prt.hi)] 34) :: ((r1, oc [(Value.bool r.allow), (vi r.pfx.addr), (vi r.pfx.bits), (vi r.prt.lo), (vi r.prt.hi)] 34) :: []))) ((r102, oc [(Value.bool r.allow), (vi r.pfx.addr), (vi r.pfx.bits), (vi r.prt.lo), (vi r.prt.hi)] 34) :: (B1_41 ++ ((r1, oc [(Value.bool r.allow), (vi r.pfx.addr), (vi r.pfx.bits), (vi r.prt.lo), (vi r.prt.hi)] 34) :: []))) from (q0.trans (qc q0))))) r102 hk ⟨r102, 0, none⟩ rfl (List.cons_ne_nil (0 : Nat) []) rfl⟩) (hi := by first | exact lb | decide)) (k := ?_); exact z.1) : p := h ⟨k⟩
theorem Z505 (k : q) (h : Hid q → p := by intro z; refine JG_nil (by kernel_rfl) _ ?_; exact z.1) : p := h ⟨k⟩
theorem Z506 (k : q) (h : Hid q → p := by intro z; refine JL_q (q_load Tryz.isAgg9) (k := ?_); exact z.1) : p := h ⟨k⟩
theorem Z507 (k : q) (h : Hid q → p := by intro z; refine JL_s (w_store (l' := [_, _, _, _]) Tryz.sizeOf62) (k := ?_); exact z.1) : p := h ⟨k⟩
theorem Z508 (k : q) (h : Hid q → p := by intro z; refine JL_q (q_lenS Tryz.runUnderlying50) (k := ?_); exact z.1) : p := h ⟨k⟩
theorem Z509 (k : q) (h : Hid q → p := by intro z; refine JL_q (q_loadA Tryz.isAgg62 Tryz.sizeOf62) (k := ?_); exact z.1) : p := h ⟨k⟩
theorem Z510 (k : q) (h : Hid q → p := by intro z; refine JX_seq_ret ?_; exact z.1) : p := h ⟨k⟩
theorem Z511 (k : q) (h : Hid q → p := by intro z; refine JX_subL _ (List.Sublist.append (List.Sublist.refl _) (List.Sublist.cons_cons _ (List.Sublist.cons_cons _ (List.Sublist.cons_cons _ (List.nil_sublist _))))) ?_; exact z.1) : p := h ⟨k⟩
theorem Z512 (k : q) (h : Hid q → p := by intro z; refine JL_q (q_fld FO_88_0) (k := ?_); exact z.1) : p := h ⟨k⟩
theorem Z513 (k : q) (h : Hid q → p := by intro z; refine JL_qg (q_fld FO_88_0) (k := ?_); exact z.1) : p := h ⟨k⟩
theorem Z514 (k : q) (h : Hid q → p := by intro z; refine JL_qg q_pickT (k := ?_); exact z.1) : p := h ⟨k⟩
theorem Z515 (k : q) (h : Hid q → p := by intro z; refine JL_qg q_pickF (k := ?_); exact z.1) : p := h ⟨k⟩
theorem Z516 (k : q) (h : Hid q → p := by intro z; refine JL_q (q_loadEA Tryz.isAgg52 Tryz.sizeOf52 x_1 (SlNJ.of_base DT_ok h_r_l).sl (zip_get h_r_l.1 (by first | exact ix))) (k := ?_); exact z.1) : p := h ⟨k⟩
theorem Z517 (k : q) (h : Hid q → p := by intro z; refine JL_q (q_loadA Tryz.isAgg52 Tryz.sizeOf52) (k := ?_); exact z.1) : p := h ⟨k⟩
theorem Z518 (k : q) (h : Hid q → p := by intro z; refine JL_s (w_store (l' := [_, _, _, _, _, _, _, _]) Tryz.sizeOf52) (k := ?_); exact z.1) : p := h ⟨k⟩
theorem Z519 (k : q) (h : Hid q → p := by intro z; refine JL_s (w_store (l' := [_, _, _]) Tryz.sizeOf25) (k := ?_); exact z.1) : p := h ⟨k⟩
theorem Z520 (k : q) (h : Hid q → p := by intro z; refine JL_q (q_build (cs := [_, _, _, _, _, _, _, _]) Tryz.zeroValue52 PL_52) (k := ?_); exact z.1) : p := h ⟨k⟩
theorem Z521 (k : q) (h : Hid q → p := by intro z; refine JL_s (w_store (l' := [_, _, _, _, _]) Tryz.sizeOf28) (k := ?_); exact z.1) : p := h ⟨k⟩
theorem Z522 (k : q) (h : Hid q → p := by intro z; refine JL_q (q_lenS Tryz.runUnderlying26) (k := ?_); exact z.1) : p := h ⟨k⟩
theorem Z523 (k : q) (h : Hid q → p := by intro z; refine JL_q (q_load Tryz.isAgg50) (k := ?_); exact z.1) : p := h ⟨k⟩
theorem Z524 (k : q) (h : Hid q → p := by intro z; refine ite_ind (P := abd r c now) (bad _ (by decide)) ?_; exact z.1) : p := h ⟨k⟩
theorem Z525 (k : q) (h : Hid q → p := by intro z; refine JD_q (q_loadA Tryz.isAgg28 Tryz.sizeOf28) (k := ?_); exact z.1) : p := h ⟨k⟩
theorem Z526 (k : q) (h : Hid q → p := by intro z; refine JX_subL _ (List.Sublist.append (List.Sublist.refl _) (List.Sublist.append (List.Sublist.refl _) (List.Sublist.append (List.Sublist.refl _) (List.Sublist.cons_cons _ (List.Sublist.cons_cons _ (List.Sublist.append (List.Sublist.refl _) (List.Sublist.cons_cons _ (List.Sublist.cons_cons _ (List.Sublist.cons_cons _ (List.Sublist.cons_cons _ (List.nil_sublist _))))))))))) ?_; exact z.1) : p := h ⟨k⟩
theorem Z527 (k : q) (h : Hid q → p := by intro z; refine J_plan mixed 14 [(true, 0), (true, 1), (true, 2), (true, 3), (true, 4), (true, 5), (true, 6), (true, 7), (true, 8), (true, 9), (true, 10), (true, 11), (true, 12), (true, 13)] (by kernel_rfl) ?_; exact z.1) : p := h ⟨k⟩
theorem Z528 (k : q) (h : Hid q → p := by intro z; refine JD_qg (q_load Tryz.isAgg3) (k := ?_); exact z.1) : p := h ⟨k⟩
theorem Z529 (k : q) (h : Hid q → p := by intro z; refine JL_q (q_build (cs := [_, _, _, _, _, _]) Tryz.zeroValue44 PL_44) (k := ?_); exact z.1) : p := h ⟨k⟩
theorem Z530 (k : q) (h : Hid q → p := by intro z; refine JL_s (w_store (l' := [_, _, _, _, _, _]) Tryz.sizeOf44) (k := ?_); exact z.1) : p := h ⟨k⟩
theorem Z531 (k : q) (h : Hid q → p := by intro z; refine JL_q (q_build (cs := [_, _, _, _, _, _, _, _, _, _, _, _]) Tryz.zeroValue36 PL_36) (k := ?_); exact z.1) : p := h ⟨k⟩
theorem Z532 (k : q) (h : Hid q → p := by intro z; refine JL_qg (q_loadA Tryz.isAgg44 Tryz.sizeOf44) (k := ?_); exact z.1) : p := h ⟨k⟩
theorem Z533 (k : q) (h : Hid q → p := by intro z; refine JL_qg (q_loadA Tryz.isAgg28 Tryz.sizeOf28) (k := ?_); exact z.1) : p := h ⟨k⟩
theorem Z534 (k : q) (h : Hid q → p := by intro z; refine JX_subL _ (List.Sublist.append (List.Sublist.refl _) (List.Sublist.cons_cons _ (List.Sublist.cons_cons _ (List.Sublist.cons_cons _ (List.Sublist.cons_cons _ (List.Sublist.cons_cons _ (List.nil_sublist _))))))) ?_; exact z.1) : p := h ⟨k⟩
theorem Z535 (k : q) (h : Hid q → p := by intro z; refine J_subL _ (sd (sk (sa (sk (sa (sa (sk sz))))))) ?_; exact z.1) : p := h ⟨k⟩
theorem Z540 (k : q) (h : Hid q → p := by intro z; refine JL_q (q_idx (n := s.gens.length) Tryz.runUnderlying22 Tryz.sizeOf3 ((s.free.getD ((((s.free.length : Nat) : Int) - 1).toNat) default).toNat) (hox302.slj eI_ok) (gD (by first | exact ix)) (by first | rfl | simp)) (k := ?_); exact z.1) : p := h ⟨k⟩
theorem Z541 (k : q) (h : Hid q → p := by intro z; refine JL_s (w_store (l' := [_, _, _, _, _, _, _, _, _, _, _, _, _, _, _, _, _, _, _, _, _, _]) Tryz.sizeOf3) (k := ?_); exact z.1) : p := h ⟨k⟩
end
end Go.Proofs.YtopjaeoklkpcpaaGreatDoor.Jd
