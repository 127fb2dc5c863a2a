/- Part of the proofs of this seat: walks and plain facts. No condition. -/
import Derived.Test.YtnblakihpoacjaaGreatDoorProg
import Derived.Test.YtnblakihpoacjaaGreatDoorP6
namespace Go.Proofs.YtnblakihpoacjaaGreatDoor.Jd
open Go.Proofs
open Go.RowKit (Below)
set_option maxRecDepth 100000
set_option maxHeartbeats 8000000
set_option linter.unusedVariables false
set_option linter.unusedSimpArgs false
theorem lAclBack_ok (w : World) {ea0 : Addr} {ea1 : Addr} {ea2 : Addr} {ea3 : Addr} {ea4 : Addr} {ea5 : Addr} {r : Rule} {s : Str} (hG : Gl w) (hE : Er w ea0 ea1 ea2 ea3 ea4 ea5) : Val Tryz.prog 3 [(Value.agg [(Value.bool (r.allow)), (Value.int .i64 (r.pfx.addr)), (Value.int .i64 (r.pfx.bits)), (Value.int .i64 (r.prt.lo)), (Value.int .i64 (r.prt.hi))].toArray), (Value.string (bs s))] w (Value.bool ((lAclBack r s))) := by
  have hF := Is.refl (lAclBack r s)
  refine enter Tryz.func3 Tryz.ntmps3 (h := ?_)
  refine J_seq ?_
  refine J_reg ?_
  refine JL_a noMk (a_box (l := [_, _, _, _, _])) (k := fun r1 hr1 => ?_)
  refine JL_q (q_assign) (k := ?_)
  refine JL_nil ?_
  refine JX_seq ?_
  refine J_seq ?_
  refine J_reg ?_
  refine JL_v (args := []) (c_callA Tryz.call11) (fun w1 hw1 => lShown8_ok w1 (hG := hG.ext hw1.ext_out) (hE := hE.ext hw1.ext_out)) (k := ?_)
  refine JL_q (q_assign) (k := ?_)
  refine JL_nil ?_
  refine JX_seq ?_
  refine J_seq ?_
  refine J_reg ?_
  refine JL_q (q_move) (k := ?_)
  refine JL_v (args := [(Value.string (bs s))]) (c_callA Tryz.call12) (fun w1 hw1 => lcut8_ok w1 (s := s)) (k := ?_)
  have hcu_79699 := lcut8_len s
  refine JL_q (q_assign) (k := ?_)
  refine JL_nil ?_
  refine JX_seq ?_
  refine J_seq ?_
  refine J_reg ?_
  refine JL_q (q_loadA Tryz.isAgg27 Tryz.sizeOf27) (k := ?_)
  refine JL_v (args := [(Value.agg [(Value.bool (r.allow)), (Value.int .i64 (r.pfx.addr)), (Value.int .i64 (r.pfx.bits)), (Value.int .i64 (r.prt.lo)), (Value.int .i64 (r.prt.hi))].toArray)]) (c_callA Tryz.call13) (fun w1 hw1 => aclPrint_ok w1 (r := r) (hG := hG.ext hw1.ext_out) (hE := hE.ext hw1.ext_out)) (k := ?_)
  have hap_35611 := aclPrint_len r
  refine JL_q (q_move) (k := ?_)
  refine JL_q (q_ext) (k := ?_)
  refine JL_q (q_ext) (k := ?_)
  refine JL_q (q_assign) (k := ?_)
  refine JL_q (q_assign) (k := ?_)
  refine JL_nil ?_
  refine JX_seq ?_
  refine J_seq ?_
  refine J_reg ?_
  refine JL_q (q_move) (k := ?_)
  refine JL_v (args := [(Value.string (bs ((aclPrint r).1)))]) (c_callA Tryz.call14) (fun w1 hw1 => aclParse_ok w1 (s := ((aclPrint r).1)) (n_s := by first | exact lb | decide) (hG := hG.ext hw1.ext_out) (hE := hE.ext hw1.ext_out)) (k := ?_)
  refine JL_q (q_move) (k := ?_)
  refine JL_q (q_ext) (k := ?_)
  refine JL_q (q_ext) (k := ?_)
  refine JL_a noMk (a_alloc (l := [_, _, _, _, _]) Tryz.zeroValue27) (k := fun r2 hr2 => ?_)
  refine JL_s (w_store (l' := [_, _, _, _, _]) Tryz.sizeOf27) (k := ?_)
  refine JL_q (q_assign) (k := ?_)
  refine JL_nil ?_
  refine JX_seq ?_
  refine J_seq ?_
  refine J_seq ?_
  refine J_reg ?_
  refine JL_q (q_move) (k := ?_)
  refine JL_q (q_eql) (k := ?_)
  refine JL_q (q_move) (k := ?_)
  refine JL_dec 29 rfl (fun hq1 => ?_) (fun hq1 => ?_)
  rotate_left
  · refine JL_skips 7 rfl ?_
    refine JL_q (q_pickF) (k := ?_)
    refine JL_nil ?_
    refine JX_seq ?_
    refine J_false rfl ?_
    refine J_skip ?_
    refine JX_seq ?_
    refine J_seq ?_
    refine J_reg ?_
    refine JL_q (q_move) (k := ?_)
    refine JL_v (args := [(Value.string (bs (lcut8 s)))]) (c_callA Tryz.call14) (fun w1 hw1 => aclParse_ok w1 (s := (lcut8 s)) (n_s := by first | exact lb | decide) (hG := hG.ext hw1.ext_out) (hE := hE.ext hw1.ext_out)) (k := ?_)
    refine JL_q (q_move) (k := ?_)
    refine JL_q (q_ext) (k := ?_)
    refine JL_q (q_ext) (k := ?_)
    refine JL_a noMk (a_alloc (l := [_, _, _, _, _]) Tryz.zeroValue27) (k := fun r5 hr5 => ?_)
    refine JL_s (w_store (l' := [_, _, _, _, _]) Tryz.sizeOf27) (k := ?_)
    refine JL_q (q_assign) (k := ?_)
    refine JL_nil ?_
    refine JX_seq ?_
    refine J_seq ?_
    refine J_reg ?_
    refine JL_q (q_loadA Tryz.isAgg27 Tryz.sizeOf27) (k := ?_)
    refine JL_v (args := [(Value.agg [(Value.bool (((aclParse (lcut8 s)).1.allow))), (Value.int .i64 (((aclParse (lcut8 s)).1.pfx.addr))), (Value.int .i64 (((aclParse (lcut8 s)).1.pfx.bits))), (Value.int .i64 (((aclParse (lcut8 s)).1.prt.lo))), (Value.int .i64 (((aclParse (lcut8 s)).1.prt.hi)))].toArray)]) (c_callA Tryz.call13) (fun w1 hw1 => aclPrint_ok w1 (r := ((aclParse (lcut8 s)).1)) (hG := hG.ext hw1.ext_out) (hE := hE.ext hw1.ext_out)) (k := ?_)
    have hap_45726 := aclPrint_len ((aclParse (lcut8 s)).1)
    refine JL_q (q_move) (k := ?_)
    refine JL_q (q_ext) (k := ?_)
    refine JL_q (q_ext) (k := ?_)
    refine JL_q (q_assign) (k := ?_)
    refine JL_q (q_assign) (k := ?_)
    refine JL_nil ?_
    refine JX_seq ?_
    refine J_seq ?_
    refine J_reg ?_
    refine JL_q (q_move) (k := ?_)
    refine JL_q (q_move) (k := ?_)
    refine JL_bool 49 rfl (fun hq12 => ?_) (fun hq12 => ?_)
    rotate_left
    · refine JL_skips 6 rfl ?_
      refine JL_q (q_pickF) (k := ?_)
      refine JL_q (q_move) (k := ?_)
      refine JL_skips 20 rfl ?_
      refine JL_q (q_pickF) (k := ?_)
      refine JL_q (q_assign) (k := ?_)
      refine JL_nil ?_
      refine JX_seq ?_
      refine J_ret ?_
      refine JX_ret Tryz.results3 (Res.tmp rfl Res.nil) (fun w1 hw1 => ?_)
      exact ⟨(by rw [(((hF.neg hq1).f hq12)).eq] <;> first | rfl | (simp only [List.length_set] <;> rfl)), hw1.ext_out⟩
    refine JL_qg (q_move) (k := ?_)
    refine JL_qg (q_eql) (k := ?_)
    refine JL_qg (q_loadA Tryz.isAgg27 Tryz.sizeOf27) (k := ?_)
    refine JL_ag noMk (a_bslice (l := [_, _, _, _, _]) Tryz.runUnderlying36 Tryz.sizeOf27 Tryz.zeroValue27) (k := fun r6 hr6 => ?_)
    refine JL_vg (args := [(Value.slice (some ⟨r6, 0, none⟩) (1) (1))]) (c_callA Tryz.call15) (fun w1 hw1 => aclRight_ok w1 (l := ([r] : List Rule)) (h_l := (SlJ.lit (xs := ([r] : List Rule)) eRule_ok) w1 hw1) (n_l := by first | exact lb | decide)) (k := ?_)
    refine JL_qg (q_eqlB Tryz.runUnderlying4) (k := ?_)
    refine JL_q (q_pickT) (k := ?_)
    refine JL_q (q_move) (k := ?_)
    refine JL_bool 57 rfl (fun hq13 => ?_) (fun hq13 => ?_)
    rotate_left
    · refine JL_skips 20 rfl ?_
      refine JL_q (q_pickF) (k := ?_)
      refine JL_q (q_assign) (k := ?_)
      refine JL_nil ?_
      refine JX_seq ?_
      refine J_ret ?_
      refine JX_ret Tryz.results3 (Res.tmp rfl Res.nil) (fun w1 hw1 => ?_)
      exact ⟨(by rw [((((hF.neg hq1).t hq12).f hq13)).eq] <;> first | rfl | (simp only [List.length_set] <;> rfl)), hw1.ext_out⟩
    refine JL_qg (q_move) (k := ?_)
    refine JL_qg (q_neq) (k := ?_)
    refine JL_qg (q_move) (k := ?_)
    refine JL_dec 60 rfl (fun hq14 => ?_) (fun hq14 => ?_)
    rotate_left
    · refine JL_skips 3 rfl ?_
      refine JL_qg (q_pickF) (k := ?_)
      refine JL_qg (q_move) (k := ?_)
      refine JL_qg (q_move) (k := ?_)
      refine JL_qg (q_eql) (k := ?_)
      refine JL_qg (q_move) (k := ?_)
      refine JL_dec 68 rfl (fun hq18 => ?_) (fun hq18 => ?_)
      rotate_left
      · refine JL_skips 2 rfl ?_
        refine JL_qg (q_pickF) (k := ?_)
        refine JL_qg (q_move) (k := ?_)
        refine JL_skips 3 rfl ?_
        refine JL_qg (q_pickF) (k := ?_)
        refine JL_qg (q_pickF) (k := ?_)
        refine JL_q (q_pickT) (k := ?_)
        refine JL_q (q_assign) (k := ?_)
        refine JL_nil ?_
        refine JX_seq ?_
        refine J_ret ?_
        refine JX_ret Tryz.results3 (Res.tmp rfl Res.nil) (fun w1 hw1 => ?_)
        exact ⟨(by rw [((((((hF.neg hq1).t hq12).t hq13).neg hq14).neg hq18)).eq] <;> first | rfl | (simp only [List.length_set] <;> rfl)), hw1.ext_out⟩
      refine JL_qg (q_move) (k := ?_)
      refine JL_qg (q_eql) (k := ?_)
      refine JL_qg (q_pickT) (k := ?_)
      refine JL_qg (q_move) (k := ?_)
      refine JL_dec 72 rfl (fun hq19 => ?_) (fun hq19 => ?_)
      rotate_left
      · refine JL_skips 3 rfl ?_
        refine JL_qg (q_pickF) (k := ?_)
        refine JL_qg (q_pickF) (k := ?_)
        refine JL_q (q_pickT) (k := ?_)
        refine JL_q (q_assign) (k := ?_)
        refine JL_nil ?_
        refine JX_seq ?_
        refine J_ret ?_
        refine JX_ret Tryz.results3 (Res.tmp rfl Res.nil) (fun w1 hw1 => ?_)
        exact ⟨(by rw [(((((((hF.neg hq1).t hq12).t hq13).neg hq14).pos hq18).neg hq19)).eq] <;> first | rfl | (simp only [List.length_set] <;> rfl)), hw1.ext_out⟩
      refine JL_qg (q_move) (k := ?_)
      refine JL_qg (q_move) (k := ?_)
      refine JL_qg (q_eqT) (k := ?_)
      refine JL_qg (q_pickT) (k := ?_)
      refine JL_qg (q_pickF) (k := ?_)
      refine JL_q (q_pickT) (k := ?_)
      refine JL_q (q_assign) (k := ?_)
      refine JL_nil ?_
      refine JX_seq ?_
      refine J_ret ?_
      refine JX_ret Tryz.results3 (Res.tmp rfl Res.nil) (fun w1 hw1 => ?_)
      exact ⟨(by rw [(((((((hF.neg hq1).t hq12).t hq13).neg hq14).pos hq18).pos hq19)).eq] <;> first | rfl | (simp only [List.length_set] <;> rfl)), hw1.ext_out⟩
    refine JL_qg (q_loadA Tryz.isAgg27 Tryz.sizeOf27) (k := ?_)
    refine JL_qg (q_build (cs := [_, _, _, _, _]) Tryz.zeroValue27 PL_27) (k := ?_)
    refine JL_qg (q_eqS (EQ_27 _ _ _ _ _ _ _ _ _ _ _ _)) (k := ?_)
    refine JL_qg (q_pickT) (k := ?_)
    refine JL_qg (q_move) (k := ?_)
    refine JL_dec 65 rfl (fun hq15 => ?_) (fun hq15 => ?_)
    · refine JL_skips 11 rfl ?_
      refine JL_qg (q_pickT) (k := ?_)
      refine JL_q (q_pickT) (k := ?_)
      refine JL_q (q_assign) (k := ?_)
      refine JL_nil ?_
      refine JX_seq ?_
      refine J_ret ?_
      refine JX_ret Tryz.results3 (Res.tmp rfl Res.nil) (fun w1 hw1 => ?_)
      exact ⟨(by rw [((((((hF.neg hq1).t hq12).t hq13).pos hq14).pos hq15)).eq] <;> first | rfl | (simp only [List.length_set] <;> rfl)), hw1.ext_out⟩
    refine JL_qg (q_move) (k := ?_)
    refine JL_qg (q_eql) (k := ?_)
    refine JL_qg (q_move) (k := ?_)
    refine JL_dec 68 rfl (fun hq16 => ?_) (fun hq16 => ?_)
    rotate_left
    · refine JL_skips 2 rfl ?_
      refine JL_qg (q_pickF) (k := ?_)
      refine JL_qg (q_move) (k := ?_)
      refine JL_skips 3 rfl ?_
      refine JL_qg (q_pickF) (k := ?_)
      refine JL_qg (q_pickF) (k := ?_)
      refine JL_q (q_pickT) (k := ?_)
      refine JL_q (q_assign) (k := ?_)
      refine JL_nil ?_
      refine JX_seq ?_
      refine J_ret ?_
      refine JX_ret Tryz.results3 (Res.tmp rfl Res.nil) (fun w1 hw1 => ?_)
      exact ⟨(by rw [(((((((hF.neg hq1).t hq12).t hq13).pos hq14).neg hq15).neg hq16)).eq] <;> first | rfl | (simp only [List.length_set] <;> rfl)), hw1.ext_out⟩
    refine JL_qg (q_move) (k := ?_)
    refine JL_qg (q_eql) (k := ?_)
    refine JL_qg (q_pickT) (k := ?_)
    refine JL_qg (q_move) (k := ?_)
    refine JL_dec 72 rfl (fun hq17 => ?_) (fun hq17 => ?_)
    rotate_left
    · refine JL_skips 3 rfl ?_
      refine JL_qg (q_pickF) (k := ?_)
      refine JL_qg (q_pickF) (k := ?_)
      refine JL_q (q_pickT) (k := ?_)
      refine JL_q (q_assign) (k := ?_)
      refine JL_nil ?_
      refine JX_seq ?_
      refine J_ret ?_
      refine JX_ret Tryz.results3 (Res.tmp rfl Res.nil) (fun w1 hw1 => ?_)
      exact ⟨(by rw [((((((((hF.neg hq1).t hq12).t hq13).pos hq14).neg hq15).pos hq16).neg hq17)).eq] <;> first | rfl | (simp only [List.length_set] <;> rfl)), hw1.ext_out⟩
    refine JL_qg (q_move) (k := ?_)
    refine JL_qg (q_move) (k := ?_)
    refine JL_qg (q_eqT) (k := ?_)
    refine JL_qg (q_pickT) (k := ?_)
    refine JL_qg (q_pickF) (k := ?_)
    refine JL_q (q_pickT) (k := ?_)
    refine JL_q (q_assign) (k := ?_)
    refine JL_nil ?_
    refine JX_seq ?_
    refine J_ret ?_
    refine JX_ret Tryz.results3 (Res.tmp rfl Res.nil) (fun w1 hw1 => ?_)
    exact ⟨(by rw [((((((((hF.neg hq1).t hq12).t hq13).pos hq14).neg hq15).pos hq16).pos hq17)).eq] <;> first | rfl | (simp only [List.length_set] <;> rfl)), hw1.ext_out⟩
  refine JL_qg (q_move) (k := ?_)
  refine JL_qg (q_neq) (k := ?_)
  refine JL_qg (q_move) (k := ?_)
  refine JL_dec 32 rfl (fun hq2 => ?_) (fun hq2 => ?_)
  · refine JL_skips 3 rfl ?_
    refine JL_qg (q_pickT) (k := ?_)
    refine JL_q (q_pickT) (k := ?_)
    refine JL_nil ?_
    refine JX_seq ?_
    refine J_true rfl ?_
    refine J_seq ?_
    refine J_reg ?_
    refine JL_q (q_assign) (k := ?_)
    refine JL_nil ?_
    refine JX_seq ?_
    refine J_ret ?_
    refine JX_seq_ret ?_
    refine JX_ret Tryz.results3 (Res.tmp rfl Res.nil) (fun w1 hw1 => ?_)
    exact ⟨(by rw [(((hF.pos hq1).pos hq2)).eq] <;> first | rfl | (simp only [List.length_set] <;> rfl)), hw1.ext_out⟩
  refine JL_qg (q_loadA Tryz.isAgg27 Tryz.sizeOf27) (k := ?_)
  refine JL_qg (q_loadA Tryz.isAgg27 Tryz.sizeOf27) (k := ?_)
  refine JL_qg (q_neS (NE_27 _ _ _ _ _ _ _ _ _ _ _ _)) (k := ?_)
  refine JL_qg (q_pickF) (k := ?_)
  refine JL_q (q_pickT) (k := ?_)
  refine JL_nil ?_
  refine JX_seq ?_
  refine J_dec rfl (fun hq3 => ?_) (fun hq3 => ?_)
  · refine J_seq ?_
    refine J_reg ?_
    refine JL_q (q_assign) (k := ?_)
    refine JL_nil ?_
    refine JX_seq ?_
    refine J_ret ?_
    refine JX_seq_ret ?_
    refine JX_ret Tryz.results3 (Res.tmp rfl Res.nil) (fun w1 hw1 => ?_)
    exact ⟨(by rw [((((hF.pos hq1).neg hq2).pos hq3)).eq] <;> first | rfl | (simp only [List.length_set] <;> rfl)), hw1.ext_out⟩
  refine J_skip ?_
  refine JX_seq ?_
  refine J_seq ?_
  refine J_reg ?_
  refine JL_q (q_move) (k := ?_)
  refine JL_v (args := [(Value.string (bs (lcut8 s)))]) (c_callA Tryz.call14) (fun w1 hw1 => aclParse_ok w1 (s := (lcut8 s)) (n_s := by first | exact lb | decide) (hG := hG.ext hw1.ext_out) (hE := hE.ext hw1.ext_out)) (k := ?_)
  refine JL_q (q_move) (k := ?_)
  refine JL_q (q_ext) (k := ?_)
  refine JL_q (q_ext) (k := ?_)
  refine JL_a noMk (a_alloc (l := [_, _, _, _, _]) Tryz.zeroValue27) (k := fun r3 hr3 => ?_)
  refine JL_s (w_store (l' := [_, _, _, _, _]) Tryz.sizeOf27) (k := ?_)
  refine JL_q (q_assign) (k := ?_)
  refine JL_nil ?_
  refine JX_seq ?_
  refine J_seq ?_
  refine J_reg ?_
  refine JL_q (q_loadA Tryz.isAgg27 Tryz.sizeOf27) (k := ?_)
  refine JL_v (args := [(Value.agg [(Value.bool (((aclParse (lcut8 s)).1.allow))), (Value.int .i64 (((aclParse (lcut8 s)).1.pfx.addr))), (Value.int .i64 (((aclParse (lcut8 s)).1.pfx.bits))), (Value.int .i64 (((aclParse (lcut8 s)).1.prt.lo))), (Value.int .i64 (((aclParse (lcut8 s)).1.prt.hi)))].toArray)]) (c_callA Tryz.call13) (fun w1 hw1 => aclPrint_ok w1 (r := ((aclParse (lcut8 s)).1)) (hG := hG.ext hw1.ext_out) (hE := hE.ext hw1.ext_out)) (k := ?_)
  have hap_45726 := aclPrint_len ((aclParse (lcut8 s)).1)
  refine JL_q (q_move) (k := ?_)
  refine JL_q (q_ext) (k := ?_)
  refine JL_q (q_ext) (k := ?_)
  refine JL_q (q_assign) (k := ?_)
  refine JL_q (q_assign) (k := ?_)
  refine JL_nil ?_
  refine JX_seq ?_
  refine J_seq ?_
  refine J_reg ?_
  refine JL_q (q_move) (k := ?_)
  refine JL_q (q_move) (k := ?_)
  refine JL_bool 49 rfl (fun hq4 => ?_) (fun hq4 => ?_)
  rotate_left
  · refine JL_skips 6 rfl ?_
    refine JL_q (q_pickF) (k := ?_)
    refine JL_q (q_move) (k := ?_)
    refine JL_skips 20 rfl ?_
    refine JL_q (q_pickF) (k := ?_)
    refine JL_q (q_assign) (k := ?_)
    refine JL_nil ?_
    refine JX_seq ?_
    refine J_ret ?_
    refine JX_ret Tryz.results3 (Res.tmp rfl Res.nil) (fun w1 hw1 => ?_)
    exact ⟨(by rw [(((((hF.pos hq1).neg hq2).neg hq3).f hq4)).eq] <;> first | rfl | (simp only [List.length_set] <;> rfl)), hw1.ext_out⟩
  refine JL_qg (q_move) (k := ?_)
  refine JL_qg (q_eql) (k := ?_)
  refine JL_qg (q_loadA Tryz.isAgg27 Tryz.sizeOf27) (k := ?_)
  refine JL_ag noMk (a_bslice (l := [_, _, _, _, _]) Tryz.runUnderlying36 Tryz.sizeOf27 Tryz.zeroValue27) (k := fun r4 hr4 => ?_)
  refine JL_vg (args := [(Value.slice (some ⟨r4, 0, none⟩) (1) (1))]) (c_callA Tryz.call15) (fun w1 hw1 => aclRight_ok w1 (l := ([r] : List Rule)) (h_l := (SlJ.lit (xs := ([r] : List Rule)) eRule_ok) w1 hw1) (n_l := by first | exact lb | decide)) (k := ?_)
  refine JL_qg (q_eqlB Tryz.runUnderlying4) (k := ?_)
  refine JL_q (q_pickT) (k := ?_)
  refine JL_q (q_move) (k := ?_)
  refine JL_bool 57 rfl (fun hq5 => ?_) (fun hq5 => ?_)
  rotate_left
  · refine JL_skips 20 rfl ?_
    refine JL_q (q_pickF) (k := ?_)
    refine JL_q (q_assign) (k := ?_)
    refine JL_nil ?_
    refine JX_seq ?_
    refine J_ret ?_
    refine JX_ret Tryz.results3 (Res.tmp rfl Res.nil) (fun w1 hw1 => ?_)
    exact ⟨(by rw [((((((hF.pos hq1).neg hq2).neg hq3).t hq4).f hq5)).eq] <;> first | rfl | (simp only [List.length_set] <;> rfl)), hw1.ext_out⟩
  refine JL_qg (q_move) (k := ?_)
  refine JL_qg (q_neq) (k := ?_)
  refine JL_qg (q_move) (k := ?_)
  refine JL_dec 60 rfl (fun hq6 => ?_) (fun hq6 => ?_)
  rotate_left
  · refine JL_skips 3 rfl ?_
    refine JL_qg (q_pickF) (k := ?_)
    refine JL_qg (q_move) (k := ?_)
    refine JL_qg (q_move) (k := ?_)
    refine JL_qg (q_eql) (k := ?_)
    refine JL_qg (q_move) (k := ?_)
    refine JL_dec 68 rfl (fun hq10 => ?_) (fun hq10 => ?_)
    rotate_left
    · refine JL_skips 2 rfl ?_
      refine JL_qg (q_pickF) (k := ?_)
      refine JL_qg (q_move) (k := ?_)
      refine JL_skips 3 rfl ?_
      refine JL_qg (q_pickF) (k := ?_)
      refine JL_qg (q_pickF) (k := ?_)
      refine JL_q (q_pickT) (k := ?_)
      refine JL_q (q_assign) (k := ?_)
      refine JL_nil ?_
      refine JX_seq ?_
      refine J_ret ?_
      refine JX_ret Tryz.results3 (Res.tmp rfl Res.nil) (fun w1 hw1 => ?_)
      exact ⟨(by rw [((((((((hF.pos hq1).neg hq2).neg hq3).t hq4).t hq5).neg hq6).neg hq10)).eq] <;> first | rfl | (simp only [List.length_set] <;> rfl)), hw1.ext_out⟩
    refine JL_qg (q_move) (k := ?_)
    refine JL_qg (q_eql) (k := ?_)
    refine JL_qg (q_pickT) (k := ?_)
    refine JL_qg (q_move) (k := ?_)
    refine JL_dec 72 rfl (fun hq11 => ?_) (fun hq11 => ?_)
    rotate_left
    · refine JL_skips 3 rfl ?_
      refine JL_qg (q_pickF) (k := ?_)
      refine JL_qg (q_pickF) (k := ?_)
      refine JL_q (q_pickT) (k := ?_)
      refine JL_q (q_assign) (k := ?_)
      refine JL_nil ?_
      refine JX_seq ?_
      refine J_ret ?_
      refine JX_ret Tryz.results3 (Res.tmp rfl Res.nil) (fun w1 hw1 => ?_)
      exact ⟨(by rw [(((((((((hF.pos hq1).neg hq2).neg hq3).t hq4).t hq5).neg hq6).pos hq10).neg hq11)).eq] <;> first | rfl | (simp only [List.length_set] <;> rfl)), hw1.ext_out⟩
    refine JL_qg (q_move) (k := ?_)
    refine JL_qg (q_move) (k := ?_)
    refine JL_qg (q_eqT) (k := ?_)
    refine JL_qg (q_pickT) (k := ?_)
    refine JL_qg (q_pickF) (k := ?_)
    refine JL_q (q_pickT) (k := ?_)
    refine JL_q (q_assign) (k := ?_)
    refine JL_nil ?_
    refine JX_seq ?_
    refine J_ret ?_
    refine JX_ret Tryz.results3 (Res.tmp rfl Res.nil) (fun w1 hw1 => ?_)
    exact ⟨(by rw [(((((((((hF.pos hq1).neg hq2).neg hq3).t hq4).t hq5).neg hq6).pos hq10).pos hq11)).eq] <;> first | rfl | (simp only [List.length_set] <;> rfl)), hw1.ext_out⟩
  refine JL_qg (q_loadA Tryz.isAgg27 Tryz.sizeOf27) (k := ?_)
  refine JL_qg (q_build (cs := [_, _, _, _, _]) Tryz.zeroValue27 PL_27) (k := ?_)
  refine JL_qg (q_eqS (EQ_27 _ _ _ _ _ _ _ _ _ _ _ _)) (k := ?_)
  refine JL_qg (q_pickT) (k := ?_)
  refine JL_qg (q_move) (k := ?_)
  refine JL_dec 65 rfl (fun hq7 => ?_) (fun hq7 => ?_)
  · refine JL_skips 11 rfl ?_
    refine JL_qg (q_pickT) (k := ?_)
    refine JL_q (q_pickT) (k := ?_)
    refine JL_q (q_assign) (k := ?_)
    refine JL_nil ?_
    refine JX_seq ?_
    refine J_ret ?_
    refine JX_ret Tryz.results3 (Res.tmp rfl Res.nil) (fun w1 hw1 => ?_)
    exact ⟨(by rw [((((((((hF.pos hq1).neg hq2).neg hq3).t hq4).t hq5).pos hq6).pos hq7)).eq] <;> first | rfl | (simp only [List.length_set] <;> rfl)), hw1.ext_out⟩
  refine JL_qg (q_move) (k := ?_)
  refine JL_qg (q_eql) (k := ?_)
  refine JL_qg (q_move) (k := ?_)
  refine JL_dec 68 rfl (fun hq8 => ?_) (fun hq8 => ?_)
  rotate_left
  · refine JL_skips 2 rfl ?_
    refine JL_qg (q_pickF) (k := ?_)
    refine JL_qg (q_move) (k := ?_)
    refine JL_skips 3 rfl ?_
    refine JL_qg (q_pickF) (k := ?_)
    refine JL_qg (q_pickF) (k := ?_)
    refine JL_q (q_pickT) (k := ?_)
    refine JL_q (q_assign) (k := ?_)
    refine JL_nil ?_
    refine JX_seq ?_
    refine J_ret ?_
    refine JX_ret Tryz.results3 (Res.tmp rfl Res.nil) (fun w1 hw1 => ?_)
    exact ⟨(by rw [(((((((((hF.pos hq1).neg hq2).neg hq3).t hq4).t hq5).pos hq6).neg hq7).neg hq8)).eq] <;> first | rfl | (simp only [List.length_set] <;> rfl)), hw1.ext_out⟩
  refine JL_qg (q_move) (k := ?_)
  refine JL_qg (q_eql) (k := ?_)
  refine JL_qg (q_pickT) (k := ?_)
  refine JL_qg (q_move) (k := ?_)
  refine JL_dec 72 rfl (fun hq9 => ?_) (fun hq9 => ?_)
  rotate_left
  · refine JL_skips 3 rfl ?_
    refine JL_qg (q_pickF) (k := ?_)
    refine JL_qg (q_pickF) (k := ?_)
    refine JL_q (q_pickT) (k := ?_)
    refine JL_q (q_assign) (k := ?_)
    refine JL_nil ?_
    refine JX_seq ?_
    refine J_ret ?_
    refine JX_ret Tryz.results3 (Res.tmp rfl Res.nil) (fun w1 hw1 => ?_)
    exact ⟨(by rw [((((((((((hF.pos hq1).neg hq2).neg hq3).t hq4).t hq5).pos hq6).neg hq7).pos hq8).neg hq9)).eq] <;> first | rfl | (simp only [List.length_set] <;> rfl)), hw1.ext_out⟩
  refine JL_qg (q_move) (k := ?_)
  refine JL_qg (q_move) (k := ?_)
  refine JL_qg (q_eqT) (k := ?_)
  refine JL_qg (q_pickT) (k := ?_)
  refine JL_qg (q_pickF) (k := ?_)
  refine JL_q (q_pickT) (k := ?_)
  refine JL_q (q_assign) (k := ?_)
  refine JL_nil ?_
  refine JX_seq ?_
  refine J_ret ?_
  refine JX_ret Tryz.results3 (Res.tmp rfl Res.nil) (fun w1 hw1 => ?_)
  exact ⟨(by rw [((((((((((hF.pos hq1).neg hq2).neg hq3).t hq4).t hq5).pos hq6).neg hq7).pos hq8).pos hq9)).eq] <;> first | rfl | (simp only [List.length_set] <;> rfl)), hw1.ext_out⟩

end Go.Proofs.YtnblakihpoacjaaGreatDoor.Jd

