/- Part of the proofs of this seat: walks and plain facts. No condition. -/
import Derived.Test.YtofkflecgnmemaaProg
import Derived.Test.YtofkflecgnmemaaJSG
import Derived.Test.YtofkflecgnmemaaJSQ
import Derived.Test.YtofkflecgnmemaaJSD
namespace Go.Proofs.Ytofkflecgnmemaa.Jd
open Go.Proofs
open Go.RowKit (Below)
set_option maxRecDepth 100000
set_option linter.unusedVariables false
set_option linter.unusedSimpArgs false

theorem lSlotsOld_ok (w : World) {s_1_a : Option Addr} {s_1_c : Nat} {s_2_1_a : Option Addr} {s_2_1_c : Nat} {s_2_2_a : Option Addr} {s_2_2_c : Nat} {s : (List Int × List Bool × List Int)} {h : (Int × Int)} {keep : Int} (h_s_1 : Sl w eI 1 s_1_a s.1) (k_s_1 : s.1.length ≤ s_1_c) (h_s_2_1 : Sl w eB 1 s_2_1_a s.2.1) (k_s_2_1 : s.2.1.length ≤ s_2_1_c) (h_s_2_2 : Sl w eI 1 s_2_2_a s.2.2) (k_s_2_2 : s.2.2.length ≤ s_2_2_c) : Val Try.prog 5 [(Value.agg [(Value.slice (s_1_a) (s.1.length) (s_1_c)), (Value.slice (s_2_1_a) (s.2.1.length) (s_2_1_c)), (Value.slice (s_2_2_a) (s.2.2.length) (s_2_2_c))].toArray), (Value.agg [(Value.int .i64 (h.1)), (Value.int .i64 (h.2))].toArray), (Value.int .i64 (keep))] w (Value.bool ((lSlotsOld s h keep))) := by
  have hF := Is.refl (lSlotsOld s h keep)
  refine enter Try.func5 Try.ntmps5 (h := ?_)
  refine J_seq ?_
  refine J_reg ?_
  refine JL_a noMk (a_box (l := [_, _, _])) (k := fun r1 hr1 => ?_)
  refine JL_a noMk (a_box (l := [_, _])) (k := fun r2 hr2 => ?_)
  refine JL_q (q_assign) (k := ?_)
  refine JL_nil ?_
  refine JX_seq ?_
  refine J_seq ?_
  refine J_reg ?_
  refine JL_v (args := []) (c_callA Try.call9) (fun w1 hw1 => sshown_ok w1 ) (k := ?_)
  refine JL_q (q_assign) (k := ?_)
  refine JL_nil ?_
  refine JX_seq ?_
  refine J_seq ?_
  refine J_reg ?_
  refine JL_q (q_loadA Try.isAgg25 Try.sizeOf25) (k := ?_)
  refine JL_v (args := [(Value.agg [(Value.slice (s_1_a) (s.1.length) (s_1_c)), (Value.slice (s_2_1_a) (s.2.1.length) (s_2_1_c)), (Value.slice (s_2_2_a) (s.2.2.length) (s_2_2_c))].toArray)]) (c_callA Try.call10) (fun w1 hw1 => Cut_ok w1 (hg := (SlJ.of_base h_s_1) w1 hw1) (hu := (SlJ.of_base h_s_2_1) w1 hw1) (hfr := (SlJ.of_base h_s_2_2) w1 hw1) (by omega) (by omega) (by omega)) (k := ?_)
  have hcu1 : (s.1.take 66).length ≤ 66 := by rw [List.length_take]; omega
  have hcu2 : (s.2.1.take 66).length ≤ 66 := by rw [List.length_take]; omega
  have hcu3 : (s.2.2.take 66).length ≤ 66 := by rw [List.length_take]; omega
  refine JL_s (w_store (l' := [_, _, _]) Try.sizeOf25) (k := ?_)
  refine JL_nil ?_
  refine JX_seq ?_
  refine J_seq ?_
  refine J_reg ?_
  refine JL_q (q_loadA Try.isAgg25 Try.sizeOf25) (k := ?_)
  refine JL_q (q_loadA Try.isAgg27 Try.sizeOf27) (k := ?_)
  refine JL_p (args := [(Value.agg [(Value.slice (s_1_a) ((s.1.take 66).length) (s_1_c)), (Value.slice (s_2_1_a) ((s.2.1.take 66).length) (s_2_1_c)), (Value.slice (s_2_2_a) ((s.2.2.take 66).length) (s_2_2_c))].toArray), (Value.agg [(Value.int .i64 (h.1)), (Value.int .i64 (h.2))].toArray)]) (c_callA Try.call13) (fun w1 hw1 => sGive_ok w1 (s := ((s.1.take 66), (s.2.1.take 66), (s.2.2.take 66))) (h := h) (h_s_1 := ((SlJ.of_base h_s_1).take 66) w1 hw1) (n_s_1 := by first | omega | (simp only [List.length_append, List.length_take, List.length_drop, List.length_set, List.length_replicate, List.length_cons, List.length_nil, List.length_map]; omega) | (simp only [List.length_append, List.length_take, List.length_drop, List.length_set, List.length_replicate, List.length_cons, List.length_nil, List.length_map] at *; omega) | decide) (h_s_2_1 := ((SlJ.of_base h_s_2_1).take 66) w1 hw1) (n_s_2_1 := by first | omega | (simp only [List.length_append, List.length_take, List.length_drop, List.length_set, List.length_replicate, List.length_cons, List.length_nil, List.length_map]; omega) | (simp only [List.length_append, List.length_take, List.length_drop, List.length_set, List.length_replicate, List.length_cons, List.length_nil, List.length_map] at *; omega) | decide) (h_s_2_2 := ((SlJ.of_base h_s_2_2).take 66) w1 hw1) (n_s_2_2 := by first | omega | (simp only [List.length_append, List.length_take, List.length_drop, List.length_set, List.length_replicate, List.length_cons, List.length_nil, List.length_map]; omega) | (simp only [List.length_append, List.length_take, List.length_drop, List.length_set, List.length_replicate, List.length_cons, List.length_nil, List.length_map] at *; omega) | decide)) (k := ?_)
  rintro w1_1 e1_1 w2_1 hw1_1 ⟨a1_1, c1_1, a2_1, c2_1, a3_1, c3_1, B_1, he_1, hf_1, hs1_1, hs2_1, hs3_1⟩
  refine ⟨_, (B_1 ++ ((r2, Obj.cells [(Value.int .i64 (h.1)), (Value.int .i64 (h.2))].toArray 27) :: ((r1, Obj.cells [(Value.slice (s_1_a) ((s.1.take 66).length) (s_1_c)), (Value.slice (s_2_1_a) ((s.2.1.take 66).length) (s_2_1_c)), (Value.slice (s_2_2_a) ((s.2.2.take 66).length) (s_2_2_c))].toArray 25) :: []))), he_1, hw1_1.fresh hf_1, ?_⟩
  have hgl_65803 := giveD_len (s.1.take 66) (s.2.1.take 66) (s.2.2.take 66) h.1 h.2
  refine JL_q (q_move) (k := ?_)
  refine JL_q (q_ext) (k := ?_)
  refine JL_q (q_ext) (k := ?_)
  refine JL_a noMk (a_alloc (l := [_, _, _]) Try.zeroValue25) (k := fun r3 hr3 => ?_)
  refine JL_s (w_store (l' := [_, _, _]) Try.sizeOf25) (k := ?_)
  refine JL_q (q_assign) (k := ?_)
  refine JL_nil ?_
  refine JX_seq ?_
  refine J_seq ?_
  refine J_seq ?_
  refine J_reg ?_
  refine JL_q (q_move) (k := ?_)
  refine JL_q (q_neq) (k := ?_)
  refine JL_nil ?_
  refine JX_seq ?_
  refine J_dec rfl (fun hq4 => ?_) (fun hq4 => ?_)
  · refine J_seq ?_
    refine J_reg ?_
    refine JL_q (q_move) (k := ?_)
    refine JL_q (q_move) (k := ?_)
    refine JL_bool 28 rfl (fun hq5 => ?_) (fun hq5 => ?_)
    rotate_left
    · refine JL_skips 4 rfl ?_
      refine JL_q (q_pickF) (k := ?_)
      refine JL_q (q_assign) (k := ?_)
      refine JL_nil ?_
      refine JX_seq ?_
      refine J_ret ?_
      refine JX_seq_ret ?_
      refine JX_ret Try.results5 (Res.tmp rfl Res.nil) (fun w1 hw1 => ?_)
      exact ⟨(by rw [(((hF.pos hq4).f hq5)).eq] <;> first | rfl | (simp only [List.length_set] <;> rfl)), hw1.ext_out⟩
    refine JL_qg (q_fld FO_25_0) (k := ?_)
    refine JL_qg (q_load Try.isAgg22) (k := ?_)
    refine JL_qg (q_lenS Try.runUnderlying22) (k := ?_)
    refine JL_qg (q_eql) (k := ?_)
    refine JL_q (q_pickT) (k := ?_)
    refine JL_q (q_assign) (k := ?_)
    refine JL_nil ?_
    refine JX_seq ?_
    refine J_ret ?_
    refine JX_seq_ret ?_
    refine JX_ret Try.results5 (Res.tmp rfl Res.nil) (fun w1 hw1 => ?_)
    exact ⟨(by rw [(((hF.pos hq4).t hq5)).eq] <;> first | rfl | (simp only [List.length_set] <;> rfl)), hw1.ext_out⟩
  refine J_skip ?_
  refine JX_seq ?_
  refine J_seq ?_
  refine J_seq ?_
  refine J_reg ?_
  refine JL_q (q_assign) (k := ?_)
  refine JL_nil ?_
  refine JX_seq ?_
  refine J_block ?_
  refine J_permL (B_1 ++ ((r3, Obj.cells [(Value.slice (a1_1) ((giveD (s.1.take 66) (s.2.1.take 66) (s.2.2.take 66) h.1 h.2).1.1.length) (c1_1)), (Value.slice (a2_1) ((giveD (s.1.take 66) (s.2.1.take 66) (s.2.2.take 66) h.1 h.2).1.2.1.length) (c2_1)), (Value.slice (a3_1) ((giveD (s.1.take 66) (s.2.1.take 66) (s.2.2.take 66) h.1 h.2).1.2.2.length) (c3_1))].toArray 25) :: ((r2, Obj.cells [(Value.int .i64 (h.1)), (Value.int .i64 (h.2))].toArray 27) :: ((r1, Obj.cells [(Value.slice (s_1_a) ((s.1.take 66).length) (s_1_c)), (Value.slice (s_2_1_a) ((s.2.1.take 66).length) (s_2_1_c)), (Value.slice (s_2_2_a) ((s.2.2.take 66).length) (s_2_2_c))].toArray 25) :: [])))) (((((List.Perm.cons _ ((List.Perm.append_left _ ((List.Perm.cons _ (List.Perm.refl _)).trans (List.Perm.swap _ _ _))).trans List.perm_middle)).trans (List.Perm.swap _ _ _)).trans ((List.Perm.cons _ ((List.Perm.cons _ ((List.Perm.append_left _ (List.Perm.refl _)).trans List.perm_middle)).trans (List.Perm.swap _ _ _))).trans (List.Perm.swap _ _ _))).trans ((List.Perm.cons _ ((List.Perm.cons _ (List.Perm.refl _)).trans (List.Perm.swap _ _ _))).trans (List.Perm.swap _ _ _))).trans ((List.Perm.cons _ ((List.Perm.cons _ ((List.Perm.cons _ (List.Perm.refl _)).trans List.perm_middle.symm)).trans List.perm_middle.symm)).trans List.perm_middle.symm)) ?_
  refine J_loop12 (σ1 := Nat) (σ2 := Nat) (σ3 := List Int) (σ4 := Option Addr) (σ5 := Nat) (σ6 := List Bool) (σ7 := Option Addr) (σ8 := Nat) (σ9 := List Int) (σ10 := Option Addr) (σ11 := Nat) (σ12 := Heap) (fun n_5 i_1 x_2 x_2a x_2c x_3 x_3a x_3c x_4 x_4a x_4c x_2B => (x_2B ++ ((r3, Obj.cells [(Value.slice (x_2a) (x_2.length) (x_2c)), (Value.slice (x_3a) (x_3.length) (x_3c)), (Value.slice (x_4a) (x_4.length) (x_4c))].toArray 25) :: ((r2, Obj.cells [(Value.int .i64 (h.1)), (Value.int .i64 (h.2))].toArray 27) :: ((r1, Obj.cells [(Value.slice (s_1_a) ((s.1.take 66).length) (s_1_c)), (Value.slice (s_2_1_a) ((s.2.1.take 66).length) (s_2_1_c)), (Value.slice (s_2_2_a) ((s.2.2.take 66).length) (s_2_2_c))].toArray 25) :: []))))) (fun n_5 i_1 x_2 x_2a x_2c x_3 x_3a x_3c x_4 x_4a x_4c x_2B => [(2, (Value.int .i64 (keep))), (4, (Value.pointer (some ⟨r2, 0, none⟩))), (6, (Value.bool (false))), (7, (Value.bool ((true)))), (8, (Value.pointer (some ⟨r3, 0, none⟩))), (10, (Value.int .i64 (((i_1 : Nat) : Int))))]) (fun n_5 i_1 x_2 x_2a x_2c x_3 x_3a x_3c x_4 x_4a x_4c x_2B => 12 - i_1 < n_5 ∧ Is (lSlotsOld_l0 s h keep (12 + 1) 0 ((giveD (s.1.take 66) (s.2.1.take 66) (s.2.2.take 66) h.1 h.2).1.1) ((giveD (s.1.take 66) (s.2.1.take 66) (s.2.2.take 66) h.1 h.2).1.2.1) ((giveD (s.1.take 66) (s.2.1.take 66) (s.2.2.take 66) h.1 h.2).1.2.2)) (lSlotsOld_l0 s h keep n_5 i_1 x_2 x_3 x_4) ∧ SlG w x_2B eI 1 x_2a x_2 ∧ SlG w x_2B eB 1 x_3a x_3 ∧ SlG w x_2B eI 1 x_4a x_4 ∧ x_2.length ≤ 70 ∧ x_3.length ≤ 70 ∧ x_4.length ≤ 70 ∧ i_1 ≤ 12) (fun n_5 i_1 x_2 x_2a x_2c x_3 x_3a x_3c x_4 x_4a x_4c x_2B => n_5) (12 + 1) 0 ((giveD (s.1.take 66) (s.2.1.take 66) (s.2.2.take 66) h.1 h.2).1.1) a1_1 c1_1 ((giveD (s.1.take 66) (s.2.1.take 66) (s.2.2.take 66) h.1 h.2).1.2.1) a2_1 c2_1 ((giveD (s.1.take 66) (s.2.1.take 66) (s.2.2.take 66) h.1 h.2).1.2.2) a3_1 c3_1 B_1 ?_ (by repeat (first | exact SubE.nil | refine SubE.cons rfl ?_)) (List.Perm.of_eq (by first | rfl | simp only [List.append_assoc, List.cons_append, List.nil_append])) ?_
  · exact ⟨Nat.lt_succ_self _, Is.refl _, (SlG.mono (SlG.of_slb hs1_1)), (SlG.mono (SlG.of_slb hs2_1)), (SlG.mono (SlG.of_slb hs3_1)), (by omega), (by omega)⟩
  · rintro (_ | n_5) i_1 x_2 x_2a x_2c x_3 x_3a x_3c x_4 x_4a x_4c x_2B ⟨hm7, hF6, hx_2, hx_3, hx_4, hi8, hi9⟩
    · omega
    refine J_seq ?_
    refine J_seq ?_
    refine J_reg ?_
    refine JL_q (q_move) (k := ?_)
    refine JL_q (q_lss) (k := ?_)
    refine JL_nil ?_
    refine JX_seq ?_
    refine J_dec rfl (fun hq6 => ?_) (fun hq6 => ?_)
    rotate_left
    · refine J_exit ?_
      refine JX_seq_exit ?_
      refine JX_inv_exit ?_
      refine JX_block_hit ?_
      refine JX_seq ?_
      refine J_seq ?_
      refine J_reg ?_
      refine JL_q (q_move) (k := ?_)
      refine JL_q (q_move) (k := ?_)
      refine JL_bool 82 rfl (fun hq25 => ?_) (fun hq25 => ?_)
      rotate_left
      · refine JL_skips 2 rfl ?_
        refine JL_q (q_pickF) (k := ?_)
        refine JL_q (q_assign) (k := ?_)
        refine JL_nil ?_
        refine JX_seq ?_
        refine J_ret ?_
        refine JX_ret Try.results5 (Res.tmp rfl Res.nil) (fun w1 hw1 => ?_)
        exact ⟨(by rw [((((hF.neg hq4).ok4 (hF6.neg hq6)).f hq25)).eq] <;> first | rfl | (simp only [List.length_set] <;> rfl)), hw1.ext_out⟩
      refine JL_qg (q_loadA Try.isAgg25 Try.sizeOf25) (k := ?_)
      refine JL_vg (args := [(Value.agg [(Value.slice (x_2a) (x_2.length) (x_2c)), (Value.slice (x_3a) (x_3.length) (x_3c)), (Value.slice (x_4a) (x_4.length) (x_4c))].toArray)]) (c_callA Try.call16) (fun w1 hw1 => sRight_ok w1 (s := (x_2, x_3, x_4)) (h_s_1 := (SlG.slj hx_2) w1 hw1) (n_s_1 := by first | omega | (simp only [List.length_append, List.length_take, List.length_drop, List.length_set, List.length_replicate, List.length_cons, List.length_nil, List.length_map]; omega) | (simp only [List.length_append, List.length_take, List.length_drop, List.length_set, List.length_replicate, List.length_cons, List.length_nil, List.length_map] at *; omega) | decide) (h_s_2_1 := (SlG.slj hx_3) w1 hw1) (n_s_2_1 := by first | omega | (simp only [List.length_append, List.length_take, List.length_drop, List.length_set, List.length_replicate, List.length_cons, List.length_nil, List.length_map]; omega) | (simp only [List.length_append, List.length_take, List.length_drop, List.length_set, List.length_replicate, List.length_cons, List.length_nil, List.length_map] at *; omega) | decide) (h_s_2_2 := (SlG.slj hx_4) w1 hw1) (n_s_2_2 := by first | omega | (simp only [List.length_append, List.length_take, List.length_drop, List.length_set, List.length_replicate, List.length_cons, List.length_nil, List.length_map]; omega) | (simp only [List.length_append, List.length_take, List.length_drop, List.length_set, List.length_replicate, List.length_cons, List.length_nil, List.length_map] at *; omega) | decide)) (k := ?_)
      refine JL_q (q_pickT) (k := ?_)
      refine JL_q (q_assign) (k := ?_)
      refine JL_nil ?_
      refine JX_seq ?_
      refine J_ret ?_
      refine JX_ret Try.results5 (Res.tmp rfl Res.nil) (fun w1 hw1 => ?_)
      exact ⟨(by rw [((((hF.neg hq4).ok4 (hF6.neg hq6)).t hq25)).eq] <;> first | rfl | (simp only [List.length_set] <;> rfl)), hw1.ext_out⟩
    refine J_skip ?_
    refine JX_seq ?_
    refine J_seq ?_
    refine J_block ?_
    refine J_seq ?_
    refine J_reg ?_
    refine JL_q (q_loadA Try.isAgg25 Try.sizeOf25) (k := ?_)
    refine JL_p (args := [(Value.agg [(Value.slice (x_2a) (x_2.length) (x_2c)), (Value.slice (x_3a) (x_3.length) (x_3c)), (Value.slice (x_4a) (x_4.length) (x_4c))].toArray)]) (c_callA Try.call11) (fun w1 hw1 => sTake_ok w1 (s := (x_2, x_3, x_4)) (h_s_1 := (SlG.slj hx_2) w1 hw1) (n_s_1 := by first | omega | (simp only [List.length_append, List.length_take, List.length_drop, List.length_set, List.length_replicate, List.length_cons, List.length_nil, List.length_map]; omega) | (simp only [List.length_append, List.length_take, List.length_drop, List.length_set, List.length_replicate, List.length_cons, List.length_nil, List.length_map] at *; omega) | decide) (h_s_2_1 := (SlG.slj hx_3) w1 hw1) (n_s_2_1 := by first | omega | (simp only [List.length_append, List.length_take, List.length_drop, List.length_set, List.length_replicate, List.length_cons, List.length_nil, List.length_map]; omega) | (simp only [List.length_append, List.length_take, List.length_drop, List.length_set, List.length_replicate, List.length_cons, List.length_nil, List.length_map] at *; omega) | decide) (h_s_2_2 := (SlG.slj hx_4) w1 hw1) (n_s_2_2 := by first | omega | (simp only [List.length_append, List.length_take, List.length_drop, List.length_set, List.length_replicate, List.length_cons, List.length_nil, List.length_map]; omega) | (simp only [List.length_append, List.length_take, List.length_drop, List.length_set, List.length_replicate, List.length_cons, List.length_nil, List.length_map] at *; omega) | decide)) (k := ?_)
    rintro w1_5 e1_5 w2_5 hw1_5 ⟨a1_5, c1_5, a2_5, c2_5, a3_5, c3_5, B_5, he_5, hf_5, hs1_5, hs2_5, hs3_5⟩
    refine ⟨_, (B_5 ++ (x_2B ++ ((r3, Obj.cells [(Value.slice (x_2a) (x_2.length) (x_2c)), (Value.slice (x_3a) (x_3.length) (x_3c)), (Value.slice (x_4a) (x_4.length) (x_4c))].toArray 25) :: ((r2, Obj.cells [(Value.int .i64 (h.1)), (Value.int .i64 (h.2))].toArray 27) :: ((r1, Obj.cells [(Value.slice (s_1_a) ((s.1.take 66).length) (s_1_c)), (Value.slice (s_2_1_a) ((s.2.1.take 66).length) (s_2_1_c)), (Value.slice (s_2_2_a) ((s.2.2.take 66).length) (s_2_2_c))].toArray 25) :: []))))), he_5, hw1_5.fresh hf_5, ?_⟩
    have htl_99143 := takeD_len x_2 x_3 x_4
    refine JL_q (q_move) (k := ?_)
    refine JL_q (q_ext) (k := ?_)
    refine JL_q (q_ext) (k := ?_)
    refine JL_q (q_ext) (k := ?_)
    refine JL_a noMk (a_alloc (l := [_, _, _]) Try.zeroValue25) (k := fun r4 hr4 => ?_)
    refine JL_a noMk (a_alloc (l := [_, _]) Try.zeroValue27) (k := fun r5 hr5 => ?_)
    refine JL_s (w_store (l' := [_, _, _]) Try.sizeOf25) (k := ?_)
    refine JL_s (w_store (l' := [_, _]) Try.sizeOf27) (k := ?_)
    refine JL_q (q_assign) (k := ?_)
    refine JL_nil ?_
    refine JX_seq ?_
    refine J_seq ?_
    refine J_seq ?_
    refine J_reg ?_
    refine JL_q (q_loadA Try.isAgg25 Try.sizeOf25) (k := ?_)
    refine JL_q (q_loadA Try.isAgg27 Try.sizeOf27) (k := ?_)
    refine JL_v (args := [(Value.agg [(Value.slice (x_2a) (x_2.length) (x_2c)), (Value.slice (x_3a) (x_3.length) (x_3c)), (Value.slice (x_4a) (x_4.length) (x_4c))].toArray), (Value.agg [(Value.int .i64 (h.1)), (Value.int .i64 (h.2))].toArray)]) (c_callA Try.call17) (fun w1 hw1 => sValid_ok w1 (s := (x_2, x_3, x_4)) (h := h) (h_s_1 := (SlG.slj hx_2) w1 hw1) (n_s_1 := by first | omega | (simp only [List.length_append, List.length_take, List.length_drop, List.length_set, List.length_replicate, List.length_cons, List.length_nil, List.length_map]; omega) | (simp only [List.length_append, List.length_take, List.length_drop, List.length_set, List.length_replicate, List.length_cons, List.length_nil, List.length_map] at *; omega) | decide) (h_s_2_1 := (SlG.slj hx_3) w1 hw1) (n_s_2_1 := by first | omega | (simp only [List.length_append, List.length_take, List.length_drop, List.length_set, List.length_replicate, List.length_cons, List.length_nil, List.length_map]; omega) | (simp only [List.length_append, List.length_take, List.length_drop, List.length_set, List.length_replicate, List.length_cons, List.length_nil, List.length_map] at *; omega) | decide) (h_s_2_2 := (SlG.slj hx_4) w1 hw1) (n_s_2_2 := by first | omega | (simp only [List.length_append, List.length_take, List.length_drop, List.length_set, List.length_replicate, List.length_cons, List.length_nil, List.length_map]; omega) | (simp only [List.length_append, List.length_take, List.length_drop, List.length_set, List.length_replicate, List.length_cons, List.length_nil, List.length_map] at *; omega) | decide)) (k := ?_)
    refine JL_q (q_move) (k := ?_)
    refine JL_bool 47 rfl (fun hq7 => ?_) (fun hq7 => ?_)
    · refine JL_skips 3 rfl ?_
      refine JL_q (q_pickT) (k := ?_)
      refine JL_q (q_move) (k := ?_)
      refine JL_skips 7 rfl ?_
      refine JL_q (q_pickT) (k := ?_)
      refine JL_nil ?_
      refine JX_seq ?_
      refine J_true rfl ?_
      refine J_seq ?_
      refine J_reg ?_
      refine JL_q (q_assign) (k := ?_)
      refine JL_nil ?_
      refine JX_seq ?_
      refine J_ret ?_
      refine JX_seq_ret ?_
      refine JX_block_ret ?_
      refine JX_seq_ret ?_
      refine JX_inv_ret ?_
      refine JX_block_ret ?_
      refine JX_seq_ret ?_
      refine JX_ret Try.results5 (Res.tmp rfl Res.nil) (fun w1 hw1 => ?_)
      exact ⟨(by rw [(((hF.neg hq4).er4 ((hF6.pos hq6).t hq7))).eq] <;> first | rfl | (simp only [List.length_set] <;> rfl)), hw1.ext_out⟩
    refine JL_qg (q_loadA Try.isAgg25 Try.sizeOf25) (k := ?_)
    refine JL_qg (q_loadA Try.isAgg27 Try.sizeOf27) (k := ?_)
    refine JL_vg (args := [(Value.agg [(Value.slice (a1_5) ((takeD x_2 x_3 x_4).1.1.length) (c1_5)), (Value.slice (a2_5) ((takeD x_2 x_3 x_4).1.2.1.length) (c2_5)), (Value.slice (a3_5) ((takeD x_2 x_3 x_4).1.2.2.length) (c3_5))].toArray), (Value.agg [(Value.int .i64 (h.1)), (Value.int .i64 (h.2))].toArray)]) (c_callA Try.call17) (fun w1 hw1 => sValid_ok w1 (s := (takeD x_2 x_3 x_4).1) (h := h) (h_s_1 := (SlB.slj hs1_5) w1 hw1) (n_s_1 := by first | omega | (simp only [List.length_append, List.length_take, List.length_drop, List.length_set, List.length_replicate, List.length_cons, List.length_nil, List.length_map]; omega) | (simp only [List.length_append, List.length_take, List.length_drop, List.length_set, List.length_replicate, List.length_cons, List.length_nil, List.length_map] at *; omega) | decide) (h_s_2_1 := (SlB.slj hs2_5) w1 hw1) (n_s_2_1 := by first | omega | (simp only [List.length_append, List.length_take, List.length_drop, List.length_set, List.length_replicate, List.length_cons, List.length_nil, List.length_map]; omega) | (simp only [List.length_append, List.length_take, List.length_drop, List.length_set, List.length_replicate, List.length_cons, List.length_nil, List.length_map] at *; omega) | decide) (h_s_2_2 := (SlB.slj hs3_5) w1 hw1) (n_s_2_2 := by first | omega | (simp only [List.length_append, List.length_take, List.length_drop, List.length_set, List.length_replicate, List.length_cons, List.length_nil, List.length_map]; omega) | (simp only [List.length_append, List.length_take, List.length_drop, List.length_set, List.length_replicate, List.length_cons, List.length_nil, List.length_map] at *; omega) | decide)) (k := ?_)
    refine JL_q (q_pickF) (k := ?_)
    refine JL_q (q_move) (k := ?_)
    refine JL_bool 52 rfl (fun hq8 => ?_) (fun hq8 => ?_)
    · refine JL_skips 7 rfl ?_
      refine JL_q (q_pickT) (k := ?_)
      refine JL_nil ?_
      refine JX_seq ?_
      refine J_true rfl ?_
      refine J_seq ?_
      refine J_reg ?_
      refine JL_q (q_assign) (k := ?_)
      refine JL_nil ?_
      refine JX_seq ?_
      refine J_ret ?_
      refine JX_seq_ret ?_
      refine JX_block_ret ?_
      refine JX_seq_ret ?_
      refine JX_inv_ret ?_
      refine JX_block_ret ?_
      refine JX_seq_ret ?_
      refine JX_ret Try.results5 (Res.tmp rfl Res.nil) (fun w1 hw1 => ?_)
      exact ⟨(by rw [(((hF.neg hq4).er4 (((hF6.pos hq6).f hq7).t hq8))).eq] <;> first | rfl | (simp only [List.length_set] <;> rfl)), hw1.ext_out⟩
    refine JL_qg (q_move) (k := ?_)
    refine JL_qg (q_eql) (k := ?_)
    refine JL_qg (q_move) (k := ?_)
    refine JL_dec 55 rfl (fun hq9 => ?_) (fun hq9 => ?_)
    rotate_left
    · refine JL_skips 3 rfl ?_
      refine JL_qg (q_pickF) (k := ?_)
      refine JL_q (q_pickF) (k := ?_)
      refine JL_nil ?_
      refine JX_seq ?_
      refine J_false rfl ?_
      refine J_skip ?_
      refine JX_seq ?_
      refine J_seq ?_
      refine J_seq ?_
      refine J_reg ?_
      refine JL_q (q_move) (k := ?_)
      refine JL_q (q_eql) (k := ?_)
      refine JL_nil ?_
      refine JX_seq ?_
      refine J_dec rfl (fun hq18 => ?_) (fun hq18 => ?_)
      rotate_left
      · refine J_skip ?_
        refine JX_seq ?_
        refine J_seq ?_
        refine J_reg ?_
        refine JL_q (q_move) (k := ?_)
        refine JL_q (q_eql) (k := ?_)
        refine JL_q (q_move) (k := ?_)
        refine JL_dec 66 rfl (fun hq22 => ?_) (fun hq22 => ?_)
        rotate_left
        · refine JL_skips 4 rfl ?_
          refine JL_q (q_pickF) (k := ?_)
          refine JL_nil ?_
          refine JX_seq ?_
          refine J_false rfl ?_
          refine J_skip ?_
          refine JX_block ?_
          refine JX_seq ?_
          refine J_reg ?_
          refine JL_q (q_move) (k := ?_)
          refine JL_q (q_add) (k := ?_)
          refine JL_q (q_assign) (k := ?_)
          refine JL_nil ?_
          refine JX_permL (x_2B ++ ((r3, Obj.cells [(Value.slice (x_2a) (x_2.length) (x_2c)), (Value.slice (x_3a) (x_3.length) (x_3c)), (Value.slice (x_4a) (x_4.length) (x_4c))].toArray 25) :: ((r2, Obj.cells [(Value.int .i64 (h.1)), (Value.int .i64 (h.2))].toArray 27) :: ((r1, Obj.cells [(Value.slice (s_1_a) ((s.1.take 66).length) (s_1_c)), (Value.slice (s_2_1_a) ((s.2.1.take 66).length) (s_2_1_c)), (Value.slice (s_2_2_a) ((s.2.2.take 66).length) (s_2_2_c))].toArray 25) :: ((r5, Obj.cells [(Value.int .i64 (((takeD x_2 x_3 x_4).2.1.1))), (Value.int .i64 (((takeD x_2 x_3 x_4).2.1.2)))].toArray 27) :: ((r4, Obj.cells [(Value.slice (a1_5) ((takeD x_2 x_3 x_4).1.1.length) (c1_5)), (Value.slice (a2_5) ((takeD x_2 x_3 x_4).1.2.1.length) (c2_5)), (Value.slice (a3_5) ((takeD x_2 x_3 x_4).1.2.2.length) (c3_5))].toArray 25) :: (B_5 ++ []))))))) (((((List.Perm.cons _ ((List.Perm.cons _ ((List.Perm.append_left _ ((List.Perm.append_left _ ((List.Perm.cons _ ((List.Perm.cons _ (List.Perm.refl _)).trans (List.Perm.swap _ _ _))).trans (List.Perm.swap _ _ _))).trans List.perm_middle)).trans List.perm_middle)).trans (List.Perm.swap _ _ _))).trans (List.Perm.swap _ _ _)).trans ((List.Perm.cons _ ((List.Perm.cons _ ((List.Perm.cons _ ((List.Perm.append_left _ ((List.Perm.append_left _ ((List.Perm.cons _ (List.Perm.refl _)).trans (List.Perm.swap _ _ _))).trans List.perm_middle)).trans List.perm_middle)).trans (List.Perm.swap _ _ _))).trans (List.Perm.swap _ _ _))).trans (List.Perm.swap _ _ _))).trans ((List.Perm.cons _ ((List.Perm.cons _ ((List.Perm.cons _ ((List.Perm.cons _ ((List.Perm.append_left _ ((List.Perm.append_left _ (List.Perm.refl _)).trans List.perm_middle)).trans List.perm_middle)).trans (List.Perm.swap _ _ _))).trans (List.Perm.swap _ _ _))).trans (List.Perm.swap _ _ _))).trans (List.Perm.swap _ _ _))).trans ((List.Perm.cons _ ((List.Perm.cons _ ((List.Perm.cons _ ((List.Perm.cons _ ((List.Perm.cons _ ((List.Perm.append_left _ (List.Perm.refl _)).trans (perm_seg _ _ _))).trans List.perm_middle.symm)).trans List.perm_middle.symm)).trans List.perm_middle.symm)).trans List.perm_middle.symm)).trans List.perm_middle.symm)) ?_
          refine JX_subL (x_2B ++ ((r3, Obj.cells [(Value.slice (x_2a) (x_2.length) (x_2c)), (Value.slice (x_3a) (x_3.length) (x_3c)), (Value.slice (x_4a) (x_4.length) (x_4c))].toArray 25) :: ((r2, Obj.cells [(Value.int .i64 (h.1)), (Value.int .i64 (h.2))].toArray 27) :: ((r1, Obj.cells [(Value.slice (s_1_a) ((s.1.take 66).length) (s_1_c)), (Value.slice (s_2_1_a) ((s.2.1.take 66).length) (s_2_1_c)), (Value.slice (s_2_2_a) ((s.2.2.take 66).length) (s_2_2_c))].toArray 25) :: [])))) (List.Sublist.append (List.Sublist.refl _) (List.Sublist.cons_cons _ (List.Sublist.cons_cons _ (List.Sublist.cons_cons _ (List.nil_sublist _))))) ?_
          exact JX_inv12 n_5 (i_1 + 1) x_2 x_2a x_2c x_3 x_3a x_3c x_4 x_4a x_4c x_2B ⟨by omega, ((((((hF6.pos hq6).f hq7).f hq8).neg hq9).neg hq18).neg hq22), (SlG.mono hx_2), (SlG.mono hx_3), (SlG.mono hx_4), (by omega), (by omega)⟩ (Nat.lt_succ_self _) (by repeat (first | exact SubE.nil | refine SubE.cons rfl ?_)) (List.Perm.of_eq (by first | rfl | simp only [List.append_assoc, List.cons_append, List.nil_append]))
        refine JL_qg (q_move) (k := ?_)
        refine JL_qg (q_rem) (k := ?_)
        refine JL_qg (q_move) (k := ?_)
        refine JL_qg (q_neq) (k := ?_)
        refine JL_q (q_pickT) (k := ?_)
        refine JL_nil ?_
        refine JX_seq ?_
        refine J_dec rfl (fun hq23 => ?_) (fun hq23 => ?_)
        rotate_left
        · refine J_skip ?_
          refine JX_block ?_
          refine JX_seq ?_
          refine J_reg ?_
          refine JL_q (q_move) (k := ?_)
          refine JL_q (q_add) (k := ?_)
          refine JL_q (q_assign) (k := ?_)
          refine JL_nil ?_
          refine JX_permL (x_2B ++ ((r3, Obj.cells [(Value.slice (x_2a) (x_2.length) (x_2c)), (Value.slice (x_3a) (x_3.length) (x_3c)), (Value.slice (x_4a) (x_4.length) (x_4c))].toArray 25) :: ((r2, Obj.cells [(Value.int .i64 (h.1)), (Value.int .i64 (h.2))].toArray 27) :: ((r1, Obj.cells [(Value.slice (s_1_a) ((s.1.take 66).length) (s_1_c)), (Value.slice (s_2_1_a) ((s.2.1.take 66).length) (s_2_1_c)), (Value.slice (s_2_2_a) ((s.2.2.take 66).length) (s_2_2_c))].toArray 25) :: ((r5, Obj.cells [(Value.int .i64 (((takeD x_2 x_3 x_4).2.1.1))), (Value.int .i64 (((takeD x_2 x_3 x_4).2.1.2)))].toArray 27) :: ((r4, Obj.cells [(Value.slice (a1_5) ((takeD x_2 x_3 x_4).1.1.length) (c1_5)), (Value.slice (a2_5) ((takeD x_2 x_3 x_4).1.2.1.length) (c2_5)), (Value.slice (a3_5) ((takeD x_2 x_3 x_4).1.2.2.length) (c3_5))].toArray 25) :: (B_5 ++ []))))))) (((((List.Perm.cons _ ((List.Perm.cons _ ((List.Perm.append_left _ ((List.Perm.append_left _ ((List.Perm.cons _ ((List.Perm.cons _ (List.Perm.refl _)).trans (List.Perm.swap _ _ _))).trans (List.Perm.swap _ _ _))).trans List.perm_middle)).trans List.perm_middle)).trans (List.Perm.swap _ _ _))).trans (List.Perm.swap _ _ _)).trans ((List.Perm.cons _ ((List.Perm.cons _ ((List.Perm.cons _ ((List.Perm.append_left _ ((List.Perm.append_left _ ((List.Perm.cons _ (List.Perm.refl _)).trans (List.Perm.swap _ _ _))).trans List.perm_middle)).trans List.perm_middle)).trans (List.Perm.swap _ _ _))).trans (List.Perm.swap _ _ _))).trans (List.Perm.swap _ _ _))).trans ((List.Perm.cons _ ((List.Perm.cons _ ((List.Perm.cons _ ((List.Perm.cons _ ((List.Perm.append_left _ ((List.Perm.append_left _ (List.Perm.refl _)).trans List.perm_middle)).trans List.perm_middle)).trans (List.Perm.swap _ _ _))).trans (List.Perm.swap _ _ _))).trans (List.Perm.swap _ _ _))).trans (List.Perm.swap _ _ _))).trans ((List.Perm.cons _ ((List.Perm.cons _ ((List.Perm.cons _ ((List.Perm.cons _ ((List.Perm.cons _ ((List.Perm.append_left _ (List.Perm.refl _)).trans (perm_seg _ _ _))).trans List.perm_middle.symm)).trans List.perm_middle.symm)).trans List.perm_middle.symm)).trans List.perm_middle.symm)).trans List.perm_middle.symm)) ?_
          refine JX_subL (x_2B ++ ((r3, Obj.cells [(Value.slice (x_2a) (x_2.length) (x_2c)), (Value.slice (x_3a) (x_3.length) (x_3c)), (Value.slice (x_4a) (x_4.length) (x_4c))].toArray 25) :: ((r2, Obj.cells [(Value.int .i64 (h.1)), (Value.int .i64 (h.2))].toArray 27) :: ((r1, Obj.cells [(Value.slice (s_1_a) ((s.1.take 66).length) (s_1_c)), (Value.slice (s_2_1_a) ((s.2.1.take 66).length) (s_2_1_c)), (Value.slice (s_2_2_a) ((s.2.2.take 66).length) (s_2_2_c))].toArray 25) :: [])))) (List.Sublist.append (List.Sublist.refl _) (List.Sublist.cons_cons _ (List.Sublist.cons_cons _ (List.Sublist.cons_cons _ (List.nil_sublist _))))) ?_
          exact JX_inv12 n_5 (i_1 + 1) x_2 x_2a x_2c x_3 x_3a x_3c x_4 x_4a x_4c x_2B ⟨by omega, (((((((hF6.pos hq6).f hq7).f hq8).neg hq9).neg hq18).pos hq22).neg hq23), (SlG.mono hx_2), (SlG.mono hx_3), (SlG.mono hx_4), (by omega), (by omega)⟩ (Nat.lt_succ_self _) (by repeat (first | exact SubE.nil | refine SubE.cons rfl ?_)) (List.Perm.of_eq (by first | rfl | simp only [List.append_assoc, List.cons_append, List.nil_append]))
        refine J_seq ?_
        refine J_reg ?_
        refine JL_q (q_loadA Try.isAgg25 Try.sizeOf25) (k := ?_)
        refine JL_q (q_loadA Try.isAgg27 Try.sizeOf27) (k := ?_)
        refine JL_p (args := [(Value.agg [(Value.slice (x_2a) (x_2.length) (x_2c)), (Value.slice (x_3a) (x_3.length) (x_3c)), (Value.slice (x_4a) (x_4.length) (x_4c))].toArray), (Value.agg [(Value.int .i64 (((takeD x_2 x_3 x_4).2.1.1))), (Value.int .i64 (((takeD x_2 x_3 x_4).2.1.2)))].toArray)]) (c_callA Try.call13) (fun w1 hw1 => sGive_ok w1 (s := (x_2, x_3, x_4)) (h := (takeD x_2 x_3 x_4).2.1) (h_s_1 := (SlG.slj hx_2) w1 hw1) (n_s_1 := by first | omega | (simp only [List.length_append, List.length_take, List.length_drop, List.length_set, List.length_replicate, List.length_cons, List.length_nil, List.length_map]; omega) | (simp only [List.length_append, List.length_take, List.length_drop, List.length_set, List.length_replicate, List.length_cons, List.length_nil, List.length_map] at *; omega) | decide) (h_s_2_1 := (SlG.slj hx_3) w1 hw1) (n_s_2_1 := by first | omega | (simp only [List.length_append, List.length_take, List.length_drop, List.length_set, List.length_replicate, List.length_cons, List.length_nil, List.length_map]; omega) | (simp only [List.length_append, List.length_take, List.length_drop, List.length_set, List.length_replicate, List.length_cons, List.length_nil, List.length_map] at *; omega) | decide) (h_s_2_2 := (SlG.slj hx_4) w1 hw1) (n_s_2_2 := by first | omega | (simp only [List.length_append, List.length_take, List.length_drop, List.length_set, List.length_replicate, List.length_cons, List.length_nil, List.length_map]; omega) | (simp only [List.length_append, List.length_take, List.length_drop, List.length_set, List.length_replicate, List.length_cons, List.length_nil, List.length_map] at *; omega) | decide)) (k := ?_)
        rintro w1_9 e1_9 w2_9 hw1_9 ⟨a1_9, c1_9, a2_9, c2_9, a3_9, c3_9, B_9, he_9, hf_9, hs1_9, hs2_9, hs3_9⟩
        refine ⟨_, (B_9 ++ ((r5, Obj.cells [(Value.int .i64 (((takeD x_2 x_3 x_4).2.1.1))), (Value.int .i64 (((takeD x_2 x_3 x_4).2.1.2)))].toArray 27) :: ((r4, Obj.cells [(Value.slice (a1_5) ((takeD x_2 x_3 x_4).1.1.length) (c1_5)), (Value.slice (a2_5) ((takeD x_2 x_3 x_4).1.2.1.length) (c2_5)), (Value.slice (a3_5) ((takeD x_2 x_3 x_4).1.2.2.length) (c3_5))].toArray 25) :: (B_5 ++ (x_2B ++ ((r3, Obj.cells [(Value.slice (x_2a) (x_2.length) (x_2c)), (Value.slice (x_3a) (x_3.length) (x_3c)), (Value.slice (x_4a) (x_4.length) (x_4c))].toArray 25) :: ((r2, Obj.cells [(Value.int .i64 (h.1)), (Value.int .i64 (h.2))].toArray 27) :: ((r1, Obj.cells [(Value.slice (s_1_a) ((s.1.take 66).length) (s_1_c)), (Value.slice (s_2_1_a) ((s.2.1.take 66).length) (s_2_1_c)), (Value.slice (s_2_2_a) ((s.2.2.take 66).length) (s_2_2_c))].toArray 25) :: [])))))))), he_9, hw1_9.fresh hf_9, ?_⟩
        have hgl_23357 := giveD_len x_2 x_3 x_4 ((takeD x_2 x_3 x_4).2.1).1 ((takeD x_2 x_3 x_4).2.1).2
        refine JL_q (q_move) (k := ?_)
        refine JL_q (q_ext) (k := ?_)
        refine JL_q (q_ext) (k := ?_)
        refine JL_a noMk (a_alloc (l := [_, _, _]) Try.zeroValue25) (k := fun r9 hr9 => ?_)
        refine JL_s (w_store (l' := [_, _, _]) Try.sizeOf25) (k := ?_)
        refine JL_q (q_assign) (k := ?_)
        refine JL_nil ?_
        refine JX_seq ?_
        refine J_seq ?_
        refine J_seq ?_
        refine J_reg ?_
        refine JL_q (q_move) (k := ?_)
        refine JL_q (q_neq) (k := ?_)
        refine JL_nil ?_
        refine JX_seq ?_
        refine J_dec rfl (fun hq24 => ?_) (fun hq24 => ?_)
        · refine J_seq ?_
          refine J_reg ?_
          refine JL_q (q_assign) (k := ?_)
          refine JL_nil ?_
          refine JX_seq ?_
          refine J_ret ?_
          refine JX_seq_ret ?_
          refine JX_block_ret ?_
          refine JX_seq_ret ?_
          refine JX_inv_ret ?_
          refine JX_block_ret ?_
          refine JX_seq_ret ?_
          refine JX_ret Try.results5 (Res.tmp rfl Res.nil) (fun w1 hw1 => ?_)
          exact ⟨(by rw [(((hF.neg hq4).er4 ((((((((hF6.pos hq6).f hq7).f hq8).neg hq9).neg hq18).pos hq22).pos hq23).pos hq24))).eq] <;> first | rfl | (simp only [List.length_set] <;> rfl)), hw1.ext_out⟩
        refine J_skip ?_
        refine JX_seq ?_
        refine J_reg ?_
        refine JL_q (q_loadA Try.isAgg25 Try.sizeOf25) (k := ?_)
        refine JL_s (w_store (l' := [_, _, _]) Try.sizeOf25) (k := ?_)
        refine JL_nil ?_
        refine JX_block ?_
        refine JX_seq ?_
        refine J_reg ?_
        refine JL_q (q_move) (k := ?_)
        refine JL_q (q_add) (k := ?_)
        refine JL_q (q_assign) (k := ?_)
        refine JL_nil ?_
        refine JX_permL (B_9 ++ ((r3, Obj.cells [(Value.slice (a1_9) ((giveD x_2 x_3 x_4 ((takeD x_2 x_3 x_4).2.1).1 ((takeD x_2 x_3 x_4).2.1).2).1.1.length) (c1_9)), (Value.slice (a2_9) ((giveD x_2 x_3 x_4 ((takeD x_2 x_3 x_4).2.1).1 ((takeD x_2 x_3 x_4).2.1).2).1.2.1.length) (c2_9)), (Value.slice (a3_9) ((giveD x_2 x_3 x_4 ((takeD x_2 x_3 x_4).2.1).1 ((takeD x_2 x_3 x_4).2.1).2).1.2.2.length) (c3_9))].toArray 25) :: ((r2, Obj.cells [(Value.int .i64 (h.1)), (Value.int .i64 (h.2))].toArray 27) :: ((r1, Obj.cells [(Value.slice (s_1_a) ((s.1.take 66).length) (s_1_c)), (Value.slice (s_2_1_a) ((s.2.1.take 66).length) (s_2_1_c)), (Value.slice (s_2_2_a) ((s.2.2.take 66).length) (s_2_2_c))].toArray 25) :: ((r9, Obj.cells [(Value.slice (a1_9) ((giveD x_2 x_3 x_4 ((takeD x_2 x_3 x_4).2.1).1 ((takeD x_2 x_3 x_4).2.1).2).1.1.length) (c1_9)), (Value.slice (a2_9) ((giveD x_2 x_3 x_4 ((takeD x_2 x_3 x_4).2.1).1 ((takeD x_2 x_3 x_4).2.1).2).1.2.1.length) (c2_9)), (Value.slice (a3_9) ((giveD x_2 x_3 x_4 ((takeD x_2 x_3 x_4).2.1).1 ((takeD x_2 x_3 x_4).2.1).2).1.2.2.length) (c3_9))].toArray 25) :: ((r5, Obj.cells [(Value.int .i64 (((takeD x_2 x_3 x_4).2.1.1))), (Value.int .i64 (((takeD x_2 x_3 x_4).2.1.2)))].toArray 27) :: ((r4, Obj.cells [(Value.slice (a1_5) ((takeD x_2 x_3 x_4).1.1.length) (c1_5)), (Value.slice (a2_5) ((takeD x_2 x_3 x_4).1.2.1.length) (c2_5)), (Value.slice (a3_5) ((takeD x_2 x_3 x_4).1.2.2.length) (c3_5))].toArray 25) :: (B_5 ++ (x_2B ++ []))))))))) (((((List.Perm.cons _ ((List.Perm.append_left _ ((List.Perm.cons _ ((List.Perm.cons _ ((List.Perm.append_left _ ((List.Perm.append_left _ ((List.Perm.cons _ ((List.Perm.cons _ (List.Perm.refl _)).trans (List.Perm.swap _ _ _))).trans (List.Perm.swap _ _ _))).trans List.perm_middle)).trans List.perm_middle)).trans (List.Perm.swap _ _ _))).trans (List.Perm.swap _ _ _))).trans List.perm_middle)).trans (List.Perm.swap _ _ _)).trans ((List.Perm.cons _ ((List.Perm.cons _ ((List.Perm.append_left _ ((List.Perm.cons _ ((List.Perm.cons _ ((List.Perm.append_left _ ((List.Perm.append_left _ ((List.Perm.cons _ (List.Perm.refl _)).trans (List.Perm.swap _ _ _))).trans List.perm_middle)).trans List.perm_middle)).trans (List.Perm.swap _ _ _))).trans (List.Perm.swap _ _ _))).trans List.perm_middle)).trans (List.Perm.swap _ _ _))).trans (List.Perm.swap _ _ _))).trans ((List.Perm.cons _ ((List.Perm.cons _ ((List.Perm.cons _ ((List.Perm.append_left _ ((List.Perm.cons _ ((List.Perm.cons _ ((List.Perm.append_left _ ((List.Perm.append_left _ (List.Perm.refl _)).trans List.perm_middle)).trans List.perm_middle)).trans (List.Perm.swap _ _ _))).trans (List.Perm.swap _ _ _))).trans List.perm_middle)).trans (List.Perm.swap _ _ _))).trans (List.Perm.swap _ _ _))).trans (List.Perm.swap _ _ _))).trans ((List.Perm.cons _ ((List.Perm.cons _ ((List.Perm.cons _ ((List.Perm.cons _ (List.Perm.refl _)).trans List.perm_middle.symm)).trans List.perm_middle.symm)).trans List.perm_middle.symm)).trans List.perm_middle.symm)) ?_
        refine JX_subL (B_9 ++ ((r3, Obj.cells [(Value.slice (a1_9) ((giveD x_2 x_3 x_4 ((takeD x_2 x_3 x_4).2.1).1 ((takeD x_2 x_3 x_4).2.1).2).1.1.length) (c1_9)), (Value.slice (a2_9) ((giveD x_2 x_3 x_4 ((takeD x_2 x_3 x_4).2.1).1 ((takeD x_2 x_3 x_4).2.1).2).1.2.1.length) (c2_9)), (Value.slice (a3_9) ((giveD x_2 x_3 x_4 ((takeD x_2 x_3 x_4).2.1).1 ((takeD x_2 x_3 x_4).2.1).2).1.2.2.length) (c3_9))].toArray 25) :: ((r2, Obj.cells [(Value.int .i64 (h.1)), (Value.int .i64 (h.2))].toArray 27) :: ((r1, Obj.cells [(Value.slice (s_1_a) ((s.1.take 66).length) (s_1_c)), (Value.slice (s_2_1_a) ((s.2.1.take 66).length) (s_2_1_c)), (Value.slice (s_2_2_a) ((s.2.2.take 66).length) (s_2_2_c))].toArray 25) :: [])))) (List.Sublist.append (List.Sublist.refl _) (List.Sublist.cons_cons _ (List.Sublist.cons_cons _ (List.Sublist.cons_cons _ (List.nil_sublist _))))) ?_
        exact JX_inv12 n_5 (i_1 + 1) ((giveD x_2 x_3 x_4 ((takeD x_2 x_3 x_4).2.1).1 ((takeD x_2 x_3 x_4).2.1).2).1.1) a1_9 c1_9 ((giveD x_2 x_3 x_4 ((takeD x_2 x_3 x_4).2.1).1 ((takeD x_2 x_3 x_4).2.1).2).1.2.1) a2_9 c2_9 ((giveD x_2 x_3 x_4 ((takeD x_2 x_3 x_4).2.1).1 ((takeD x_2 x_3 x_4).2.1).2).1.2.2) a3_9 c3_9 B_9 ⟨by omega, ((((((((hF6.pos hq6).f hq7).f hq8).neg hq9).neg hq18).pos hq22).pos hq23).neg hq24), (SlG.mono (SlG.of_slb hs1_9)), (SlG.mono (SlG.of_slb hs2_9)), (SlG.mono (SlG.of_slb hs3_9)), (by omega), (by omega)⟩ (Nat.lt_succ_self _) (by repeat (first | exact SubE.nil | refine SubE.cons rfl ?_)) (List.Perm.of_eq (by first | rfl | simp only [List.append_assoc, List.cons_append, List.nil_append]))
      refine J_reg ?_
      refine JL_q (q_loadA Try.isAgg25 Try.sizeOf25) (k := ?_)
      refine JL_s (w_store (l' := [_, _, _]) Try.sizeOf25) (k := ?_)
      refine JL_nil ?_
      refine JX_seq ?_
      refine J_seq ?_
      refine J_reg ?_
      refine JL_q (q_move) (k := ?_)
      refine JL_q (q_eql) (k := ?_)
      refine JL_q (q_move) (k := ?_)
      refine JL_dec 66 rfl (fun hq19 => ?_) (fun hq19 => ?_)
      rotate_left
      · refine JL_skips 4 rfl ?_
        refine JL_q (q_pickF) (k := ?_)
        refine JL_nil ?_
        refine JX_seq ?_
        refine J_false rfl ?_
        refine J_skip ?_
        refine JX_block ?_
        refine JX_seq ?_
        refine J_reg ?_
        refine JL_q (q_move) (k := ?_)
        refine JL_q (q_add) (k := ?_)
        refine JL_q (q_assign) (k := ?_)
        refine JL_nil ?_
        refine JX_permL (B_5 ++ ((r3, Obj.cells [(Value.slice (a1_5) ((takeD x_2 x_3 x_4).1.1.length) (c1_5)), (Value.slice (a2_5) ((takeD x_2 x_3 x_4).1.2.1.length) (c2_5)), (Value.slice (a3_5) ((takeD x_2 x_3 x_4).1.2.2.length) (c3_5))].toArray 25) :: ((r2, Obj.cells [(Value.int .i64 (h.1)), (Value.int .i64 (h.2))].toArray 27) :: ((r1, Obj.cells [(Value.slice (s_1_a) ((s.1.take 66).length) (s_1_c)), (Value.slice (s_2_1_a) ((s.2.1.take 66).length) (s_2_1_c)), (Value.slice (s_2_2_a) ((s.2.2.take 66).length) (s_2_2_c))].toArray 25) :: ((r5, Obj.cells [(Value.int .i64 (((takeD x_2 x_3 x_4).2.1.1))), (Value.int .i64 (((takeD x_2 x_3 x_4).2.1.2)))].toArray 27) :: ((r4, Obj.cells [(Value.slice (a1_5) ((takeD x_2 x_3 x_4).1.1.length) (c1_5)), (Value.slice (a2_5) ((takeD x_2 x_3 x_4).1.2.1.length) (c2_5)), (Value.slice (a3_5) ((takeD x_2 x_3 x_4).1.2.2.length) (c3_5))].toArray 25) :: (x_2B ++ []))))))) (((((List.Perm.cons _ ((List.Perm.cons _ ((List.Perm.append_left _ ((List.Perm.append_left _ ((List.Perm.cons _ ((List.Perm.cons _ (List.Perm.refl _)).trans (List.Perm.swap _ _ _))).trans (List.Perm.swap _ _ _))).trans List.perm_middle)).trans List.perm_middle)).trans (List.Perm.swap _ _ _))).trans (List.Perm.swap _ _ _)).trans ((List.Perm.cons _ ((List.Perm.cons _ ((List.Perm.cons _ ((List.Perm.append_left _ ((List.Perm.append_left _ ((List.Perm.cons _ (List.Perm.refl _)).trans (List.Perm.swap _ _ _))).trans List.perm_middle)).trans List.perm_middle)).trans (List.Perm.swap _ _ _))).trans (List.Perm.swap _ _ _))).trans (List.Perm.swap _ _ _))).trans ((List.Perm.cons _ ((List.Perm.cons _ ((List.Perm.cons _ ((List.Perm.cons _ ((List.Perm.append_left _ ((List.Perm.append_left _ (List.Perm.refl _)).trans List.perm_middle)).trans List.perm_middle)).trans (List.Perm.swap _ _ _))).trans (List.Perm.swap _ _ _))).trans (List.Perm.swap _ _ _))).trans (List.Perm.swap _ _ _))).trans ((List.Perm.cons _ ((List.Perm.cons _ ((List.Perm.cons _ ((List.Perm.cons _ ((List.Perm.cons _ (List.Perm.refl _)).trans List.perm_middle.symm)).trans List.perm_middle.symm)).trans List.perm_middle.symm)).trans List.perm_middle.symm)).trans List.perm_middle.symm)) ?_
        refine JX_subL (B_5 ++ ((r3, Obj.cells [(Value.slice (a1_5) ((takeD x_2 x_3 x_4).1.1.length) (c1_5)), (Value.slice (a2_5) ((takeD x_2 x_3 x_4).1.2.1.length) (c2_5)), (Value.slice (a3_5) ((takeD x_2 x_3 x_4).1.2.2.length) (c3_5))].toArray 25) :: ((r2, Obj.cells [(Value.int .i64 (h.1)), (Value.int .i64 (h.2))].toArray 27) :: ((r1, Obj.cells [(Value.slice (s_1_a) ((s.1.take 66).length) (s_1_c)), (Value.slice (s_2_1_a) ((s.2.1.take 66).length) (s_2_1_c)), (Value.slice (s_2_2_a) ((s.2.2.take 66).length) (s_2_2_c))].toArray 25) :: [])))) (List.Sublist.append (List.Sublist.refl _) (List.Sublist.cons_cons _ (List.Sublist.cons_cons _ (List.Sublist.cons_cons _ (List.nil_sublist _))))) ?_
        exact JX_inv12 n_5 (i_1 + 1) ((takeD x_2 x_3 x_4).1.1) a1_5 c1_5 ((takeD x_2 x_3 x_4).1.2.1) a2_5 c2_5 ((takeD x_2 x_3 x_4).1.2.2) a3_5 c3_5 B_5 ⟨by omega, ((((((hF6.pos hq6).f hq7).f hq8).neg hq9).pos hq18).neg hq19), (SlG.mono (SlG.of_slb hs1_5)), (SlG.mono (SlG.of_slb hs2_5)), (SlG.mono (SlG.of_slb hs3_5)), (by omega), (by omega)⟩ (Nat.lt_succ_self _) (by repeat (first | exact SubE.nil | refine SubE.cons rfl ?_)) (List.Perm.of_eq (by first | rfl | simp only [List.append_assoc, List.cons_append, List.nil_append]))
      refine JL_qg (q_move) (k := ?_)
      refine JL_qg (q_rem) (k := ?_)
      refine JL_qg (q_move) (k := ?_)
      refine JL_qg (q_neq) (k := ?_)
      refine JL_q (q_pickT) (k := ?_)
      refine JL_nil ?_
      refine JX_seq ?_
      refine J_dec rfl (fun hq20 => ?_) (fun hq20 => ?_)
      rotate_left
      · refine J_skip ?_
        refine JX_block ?_
        refine JX_seq ?_
        refine J_reg ?_
        refine JL_q (q_move) (k := ?_)
        refine JL_q (q_add) (k := ?_)
        refine JL_q (q_assign) (k := ?_)
        refine JL_nil ?_
        refine JX_permL (B_5 ++ ((r3, Obj.cells [(Value.slice (a1_5) ((takeD x_2 x_3 x_4).1.1.length) (c1_5)), (Value.slice (a2_5) ((takeD x_2 x_3 x_4).1.2.1.length) (c2_5)), (Value.slice (a3_5) ((takeD x_2 x_3 x_4).1.2.2.length) (c3_5))].toArray 25) :: ((r2, Obj.cells [(Value.int .i64 (h.1)), (Value.int .i64 (h.2))].toArray 27) :: ((r1, Obj.cells [(Value.slice (s_1_a) ((s.1.take 66).length) (s_1_c)), (Value.slice (s_2_1_a) ((s.2.1.take 66).length) (s_2_1_c)), (Value.slice (s_2_2_a) ((s.2.2.take 66).length) (s_2_2_c))].toArray 25) :: ((r5, Obj.cells [(Value.int .i64 (((takeD x_2 x_3 x_4).2.1.1))), (Value.int .i64 (((takeD x_2 x_3 x_4).2.1.2)))].toArray 27) :: ((r4, Obj.cells [(Value.slice (a1_5) ((takeD x_2 x_3 x_4).1.1.length) (c1_5)), (Value.slice (a2_5) ((takeD x_2 x_3 x_4).1.2.1.length) (c2_5)), (Value.slice (a3_5) ((takeD x_2 x_3 x_4).1.2.2.length) (c3_5))].toArray 25) :: (x_2B ++ []))))))) (((((List.Perm.cons _ ((List.Perm.cons _ ((List.Perm.append_left _ ((List.Perm.append_left _ ((List.Perm.cons _ ((List.Perm.cons _ (List.Perm.refl _)).trans (List.Perm.swap _ _ _))).trans (List.Perm.swap _ _ _))).trans List.perm_middle)).trans List.perm_middle)).trans (List.Perm.swap _ _ _))).trans (List.Perm.swap _ _ _)).trans ((List.Perm.cons _ ((List.Perm.cons _ ((List.Perm.cons _ ((List.Perm.append_left _ ((List.Perm.append_left _ ((List.Perm.cons _ (List.Perm.refl _)).trans (List.Perm.swap _ _ _))).trans List.perm_middle)).trans List.perm_middle)).trans (List.Perm.swap _ _ _))).trans (List.Perm.swap _ _ _))).trans (List.Perm.swap _ _ _))).trans ((List.Perm.cons _ ((List.Perm.cons _ ((List.Perm.cons _ ((List.Perm.cons _ ((List.Perm.append_left _ ((List.Perm.append_left _ (List.Perm.refl _)).trans List.perm_middle)).trans List.perm_middle)).trans (List.Perm.swap _ _ _))).trans (List.Perm.swap _ _ _))).trans (List.Perm.swap _ _ _))).trans (List.Perm.swap _ _ _))).trans ((List.Perm.cons _ ((List.Perm.cons _ ((List.Perm.cons _ ((List.Perm.cons _ ((List.Perm.cons _ (List.Perm.refl _)).trans List.perm_middle.symm)).trans List.perm_middle.symm)).trans List.perm_middle.symm)).trans List.perm_middle.symm)).trans List.perm_middle.symm)) ?_
        refine JX_subL (B_5 ++ ((r3, Obj.cells [(Value.slice (a1_5) ((takeD x_2 x_3 x_4).1.1.length) (c1_5)), (Value.slice (a2_5) ((takeD x_2 x_3 x_4).1.2.1.length) (c2_5)), (Value.slice (a3_5) ((takeD x_2 x_3 x_4).1.2.2.length) (c3_5))].toArray 25) :: ((r2, Obj.cells [(Value.int .i64 (h.1)), (Value.int .i64 (h.2))].toArray 27) :: ((r1, Obj.cells [(Value.slice (s_1_a) ((s.1.take 66).length) (s_1_c)), (Value.slice (s_2_1_a) ((s.2.1.take 66).length) (s_2_1_c)), (Value.slice (s_2_2_a) ((s.2.2.take 66).length) (s_2_2_c))].toArray 25) :: [])))) (List.Sublist.append (List.Sublist.refl _) (List.Sublist.cons_cons _ (List.Sublist.cons_cons _ (List.Sublist.cons_cons _ (List.nil_sublist _))))) ?_
        exact JX_inv12 n_5 (i_1 + 1) ((takeD x_2 x_3 x_4).1.1) a1_5 c1_5 ((takeD x_2 x_3 x_4).1.2.1) a2_5 c2_5 ((takeD x_2 x_3 x_4).1.2.2) a3_5 c3_5 B_5 ⟨by omega, (((((((hF6.pos hq6).f hq7).f hq8).neg hq9).pos hq18).pos hq19).neg hq20), (SlG.mono (SlG.of_slb hs1_5)), (SlG.mono (SlG.of_slb hs2_5)), (SlG.mono (SlG.of_slb hs3_5)), (by omega), (by omega)⟩ (Nat.lt_succ_self _) (by repeat (first | exact SubE.nil | refine SubE.cons rfl ?_)) (List.Perm.of_eq (by first | rfl | simp only [List.append_assoc, List.cons_append, List.nil_append]))
      refine J_seq ?_
      refine J_reg ?_
      refine JL_q (q_loadA Try.isAgg25 Try.sizeOf25) (k := ?_)
      refine JL_q (q_loadA Try.isAgg27 Try.sizeOf27) (k := ?_)
      refine JL_p (args := [(Value.agg [(Value.slice (a1_5) ((takeD x_2 x_3 x_4).1.1.length) (c1_5)), (Value.slice (a2_5) ((takeD x_2 x_3 x_4).1.2.1.length) (c2_5)), (Value.slice (a3_5) ((takeD x_2 x_3 x_4).1.2.2.length) (c3_5))].toArray), (Value.agg [(Value.int .i64 (((takeD x_2 x_3 x_4).2.1.1))), (Value.int .i64 (((takeD x_2 x_3 x_4).2.1.2)))].toArray)]) (c_callA Try.call13) (fun w1 hw1 => sGive_ok w1 (s := (takeD x_2 x_3 x_4).1) (h := (takeD x_2 x_3 x_4).2.1) (h_s_1 := (SlB.slj hs1_5) w1 hw1) (n_s_1 := by first | omega | (simp only [List.length_append, List.length_take, List.length_drop, List.length_set, List.length_replicate, List.length_cons, List.length_nil, List.length_map]; omega) | (simp only [List.length_append, List.length_take, List.length_drop, List.length_set, List.length_replicate, List.length_cons, List.length_nil, List.length_map] at *; omega) | decide) (h_s_2_1 := (SlB.slj hs2_5) w1 hw1) (n_s_2_1 := by first | omega | (simp only [List.length_append, List.length_take, List.length_drop, List.length_set, List.length_replicate, List.length_cons, List.length_nil, List.length_map]; omega) | (simp only [List.length_append, List.length_take, List.length_drop, List.length_set, List.length_replicate, List.length_cons, List.length_nil, List.length_map] at *; omega) | decide) (h_s_2_2 := (SlB.slj hs3_5) w1 hw1) (n_s_2_2 := by first | omega | (simp only [List.length_append, List.length_take, List.length_drop, List.length_set, List.length_replicate, List.length_cons, List.length_nil, List.length_map]; omega) | (simp only [List.length_append, List.length_take, List.length_drop, List.length_set, List.length_replicate, List.length_cons, List.length_nil, List.length_map] at *; omega) | decide)) (k := ?_)
      rintro w1_8 e1_8 w2_8 hw1_8 ⟨a1_8, c1_8, a2_8, c2_8, a3_8, c3_8, B_8, he_8, hf_8, hs1_8, hs2_8, hs3_8⟩
      refine ⟨_, (B_8 ++ ((r5, Obj.cells [(Value.int .i64 (((takeD x_2 x_3 x_4).2.1.1))), (Value.int .i64 (((takeD x_2 x_3 x_4).2.1.2)))].toArray 27) :: ((r4, Obj.cells [(Value.slice (a1_5) ((takeD x_2 x_3 x_4).1.1.length) (c1_5)), (Value.slice (a2_5) ((takeD x_2 x_3 x_4).1.2.1.length) (c2_5)), (Value.slice (a3_5) ((takeD x_2 x_3 x_4).1.2.2.length) (c3_5))].toArray 25) :: (B_5 ++ (x_2B ++ ((r3, Obj.cells [(Value.slice (a1_5) ((takeD x_2 x_3 x_4).1.1.length) (c1_5)), (Value.slice (a2_5) ((takeD x_2 x_3 x_4).1.2.1.length) (c2_5)), (Value.slice (a3_5) ((takeD x_2 x_3 x_4).1.2.2.length) (c3_5))].toArray 25) :: ((r2, Obj.cells [(Value.int .i64 (h.1)), (Value.int .i64 (h.2))].toArray 27) :: ((r1, Obj.cells [(Value.slice (s_1_a) ((s.1.take 66).length) (s_1_c)), (Value.slice (s_2_1_a) ((s.2.1.take 66).length) (s_2_1_c)), (Value.slice (s_2_2_a) ((s.2.2.take 66).length) (s_2_2_c))].toArray 25) :: [])))))))), he_8, hw1_8.fresh hf_8, ?_⟩
      have hgl_82435 := giveD_len ((takeD x_2 x_3 x_4).1).1 ((takeD x_2 x_3 x_4).1).2.1 ((takeD x_2 x_3 x_4).1).2.2 ((takeD x_2 x_3 x_4).2.1).1 ((takeD x_2 x_3 x_4).2.1).2
      refine JL_q (q_move) (k := ?_)
      refine JL_q (q_ext) (k := ?_)
      refine JL_q (q_ext) (k := ?_)
      refine JL_a noMk (a_alloc (l := [_, _, _]) Try.zeroValue25) (k := fun r8 hr8 => ?_)
      refine JL_s (w_store (l' := [_, _, _]) Try.sizeOf25) (k := ?_)
      refine JL_q (q_assign) (k := ?_)
      refine JL_nil ?_
      refine JX_seq ?_
      refine J_seq ?_
      refine J_seq ?_
      refine J_reg ?_
      refine JL_q (q_move) (k := ?_)
      refine JL_q (q_neq) (k := ?_)
      refine JL_nil ?_
      refine JX_seq ?_
      refine J_dec rfl (fun hq21 => ?_) (fun hq21 => ?_)
      · refine J_seq ?_
        refine J_reg ?_
        refine JL_q (q_assign) (k := ?_)
        refine JL_nil ?_
        refine JX_seq ?_
        refine J_ret ?_
        refine JX_seq_ret ?_
        refine JX_block_ret ?_
        refine JX_seq_ret ?_
        refine JX_inv_ret ?_
        refine JX_block_ret ?_
        refine JX_seq_ret ?_
        refine JX_ret Try.results5 (Res.tmp rfl Res.nil) (fun w1 hw1 => ?_)
        exact ⟨(by rw [(((hF.neg hq4).er4 ((((((((hF6.pos hq6).f hq7).f hq8).neg hq9).pos hq18).pos hq19).pos hq20).pos hq21))).eq] <;> first | rfl | (simp only [List.length_set] <;> rfl)), hw1.ext_out⟩
      refine J_skip ?_
      refine JX_seq ?_
      refine J_reg ?_
      refine JL_q (q_loadA Try.isAgg25 Try.sizeOf25) (k := ?_)
      refine JL_s (w_store (l' := [_, _, _]) Try.sizeOf25) (k := ?_)
      refine JL_nil ?_
      refine JX_block ?_
      refine JX_seq ?_
      refine J_reg ?_
      refine JL_q (q_move) (k := ?_)
      refine JL_q (q_add) (k := ?_)
      refine JL_q (q_assign) (k := ?_)
      refine JL_nil ?_
      refine JX_permL (B_8 ++ ((r3, Obj.cells [(Value.slice (a1_8) ((giveD ((takeD x_2 x_3 x_4).1).1 ((takeD x_2 x_3 x_4).1).2.1 ((takeD x_2 x_3 x_4).1).2.2 ((takeD x_2 x_3 x_4).2.1).1 ((takeD x_2 x_3 x_4).2.1).2).1.1.length) (c1_8)), (Value.slice (a2_8) ((giveD ((takeD x_2 x_3 x_4).1).1 ((takeD x_2 x_3 x_4).1).2.1 ((takeD x_2 x_3 x_4).1).2.2 ((takeD x_2 x_3 x_4).2.1).1 ((takeD x_2 x_3 x_4).2.1).2).1.2.1.length) (c2_8)), (Value.slice (a3_8) ((giveD ((takeD x_2 x_3 x_4).1).1 ((takeD x_2 x_3 x_4).1).2.1 ((takeD x_2 x_3 x_4).1).2.2 ((takeD x_2 x_3 x_4).2.1).1 ((takeD x_2 x_3 x_4).2.1).2).1.2.2.length) (c3_8))].toArray 25) :: ((r2, Obj.cells [(Value.int .i64 (h.1)), (Value.int .i64 (h.2))].toArray 27) :: ((r1, Obj.cells [(Value.slice (s_1_a) ((s.1.take 66).length) (s_1_c)), (Value.slice (s_2_1_a) ((s.2.1.take 66).length) (s_2_1_c)), (Value.slice (s_2_2_a) ((s.2.2.take 66).length) (s_2_2_c))].toArray 25) :: ((r8, Obj.cells [(Value.slice (a1_8) ((giveD ((takeD x_2 x_3 x_4).1).1 ((takeD x_2 x_3 x_4).1).2.1 ((takeD x_2 x_3 x_4).1).2.2 ((takeD x_2 x_3 x_4).2.1).1 ((takeD x_2 x_3 x_4).2.1).2).1.1.length) (c1_8)), (Value.slice (a2_8) ((giveD ((takeD x_2 x_3 x_4).1).1 ((takeD x_2 x_3 x_4).1).2.1 ((takeD x_2 x_3 x_4).1).2.2 ((takeD x_2 x_3 x_4).2.1).1 ((takeD x_2 x_3 x_4).2.1).2).1.2.1.length) (c2_8)), (Value.slice (a3_8) ((giveD ((takeD x_2 x_3 x_4).1).1 ((takeD x_2 x_3 x_4).1).2.1 ((takeD x_2 x_3 x_4).1).2.2 ((takeD x_2 x_3 x_4).2.1).1 ((takeD x_2 x_3 x_4).2.1).2).1.2.2.length) (c3_8))].toArray 25) :: ((r5, Obj.cells [(Value.int .i64 (((takeD x_2 x_3 x_4).2.1.1))), (Value.int .i64 (((takeD x_2 x_3 x_4).2.1.2)))].toArray 27) :: ((r4, Obj.cells [(Value.slice (a1_5) ((takeD x_2 x_3 x_4).1.1.length) (c1_5)), (Value.slice (a2_5) ((takeD x_2 x_3 x_4).1.2.1.length) (c2_5)), (Value.slice (a3_5) ((takeD x_2 x_3 x_4).1.2.2.length) (c3_5))].toArray 25) :: (B_5 ++ (x_2B ++ []))))))))) (((((List.Perm.cons _ ((List.Perm.append_left _ ((List.Perm.cons _ ((List.Perm.cons _ ((List.Perm.append_left _ ((List.Perm.append_left _ ((List.Perm.cons _ ((List.Perm.cons _ (List.Perm.refl _)).trans (List.Perm.swap _ _ _))).trans (List.Perm.swap _ _ _))).trans List.perm_middle)).trans List.perm_middle)).trans (List.Perm.swap _ _ _))).trans (List.Perm.swap _ _ _))).trans List.perm_middle)).trans (List.Perm.swap _ _ _)).trans ((List.Perm.cons _ ((List.Perm.cons _ ((List.Perm.append_left _ ((List.Perm.cons _ ((List.Perm.cons _ ((List.Perm.append_left _ ((List.Perm.append_left _ ((List.Perm.cons _ (List.Perm.refl _)).trans (List.Perm.swap _ _ _))).trans List.perm_middle)).trans List.perm_middle)).trans (List.Perm.swap _ _ _))).trans (List.Perm.swap _ _ _))).trans List.perm_middle)).trans (List.Perm.swap _ _ _))).trans (List.Perm.swap _ _ _))).trans ((List.Perm.cons _ ((List.Perm.cons _ ((List.Perm.cons _ ((List.Perm.append_left _ ((List.Perm.cons _ ((List.Perm.cons _ ((List.Perm.append_left _ ((List.Perm.append_left _ (List.Perm.refl _)).trans List.perm_middle)).trans List.perm_middle)).trans (List.Perm.swap _ _ _))).trans (List.Perm.swap _ _ _))).trans List.perm_middle)).trans (List.Perm.swap _ _ _))).trans (List.Perm.swap _ _ _))).trans (List.Perm.swap _ _ _))).trans ((List.Perm.cons _ ((List.Perm.cons _ ((List.Perm.cons _ ((List.Perm.cons _ (List.Perm.refl _)).trans List.perm_middle.symm)).trans List.perm_middle.symm)).trans List.perm_middle.symm)).trans List.perm_middle.symm)) ?_
      refine JX_subL (B_8 ++ ((r3, Obj.cells [(Value.slice (a1_8) ((giveD ((takeD x_2 x_3 x_4).1).1 ((takeD x_2 x_3 x_4).1).2.1 ((takeD x_2 x_3 x_4).1).2.2 ((takeD x_2 x_3 x_4).2.1).1 ((takeD x_2 x_3 x_4).2.1).2).1.1.length) (c1_8)), (Value.slice (a2_8) ((giveD ((takeD x_2 x_3 x_4).1).1 ((takeD x_2 x_3 x_4).1).2.1 ((takeD x_2 x_3 x_4).1).2.2 ((takeD x_2 x_3 x_4).2.1).1 ((takeD x_2 x_3 x_4).2.1).2).1.2.1.length) (c2_8)), (Value.slice (a3_8) ((giveD ((takeD x_2 x_3 x_4).1).1 ((takeD x_2 x_3 x_4).1).2.1 ((takeD x_2 x_3 x_4).1).2.2 ((takeD x_2 x_3 x_4).2.1).1 ((takeD x_2 x_3 x_4).2.1).2).1.2.2.length) (c3_8))].toArray 25) :: ((r2, Obj.cells [(Value.int .i64 (h.1)), (Value.int .i64 (h.2))].toArray 27) :: ((r1, Obj.cells [(Value.slice (s_1_a) ((s.1.take 66).length) (s_1_c)), (Value.slice (s_2_1_a) ((s.2.1.take 66).length) (s_2_1_c)), (Value.slice (s_2_2_a) ((s.2.2.take 66).length) (s_2_2_c))].toArray 25) :: [])))) (List.Sublist.append (List.Sublist.refl _) (List.Sublist.cons_cons _ (List.Sublist.cons_cons _ (List.Sublist.cons_cons _ (List.nil_sublist _))))) ?_
      exact JX_inv12 n_5 (i_1 + 1) ((giveD ((takeD x_2 x_3 x_4).1).1 ((takeD x_2 x_3 x_4).1).2.1 ((takeD x_2 x_3 x_4).1).2.2 ((takeD x_2 x_3 x_4).2.1).1 ((takeD x_2 x_3 x_4).2.1).2).1.1) a1_8 c1_8 ((giveD ((takeD x_2 x_3 x_4).1).1 ((takeD x_2 x_3 x_4).1).2.1 ((takeD x_2 x_3 x_4).1).2.2 ((takeD x_2 x_3 x_4).2.1).1 ((takeD x_2 x_3 x_4).2.1).2).1.2.1) a2_8 c2_8 ((giveD ((takeD x_2 x_3 x_4).1).1 ((takeD x_2 x_3 x_4).1).2.1 ((takeD x_2 x_3 x_4).1).2.2 ((takeD x_2 x_3 x_4).2.1).1 ((takeD x_2 x_3 x_4).2.1).2).1.2.2) a3_8 c3_8 B_8 ⟨by omega, ((((((((hF6.pos hq6).f hq7).f hq8).neg hq9).pos hq18).pos hq19).pos hq20).neg hq21), (SlG.mono (SlG.of_slb hs1_8)), (SlG.mono (SlG.of_slb hs2_8)), (SlG.mono (SlG.of_slb hs3_8)), (by omega), (by omega)⟩ (Nat.lt_succ_self _) (by repeat (first | exact SubE.nil | refine SubE.cons rfl ?_)) (List.Perm.of_eq (by first | rfl | simp only [List.append_assoc, List.cons_append, List.nil_append]))
    refine JL_qg (q_loadA Try.isAgg27 Try.sizeOf27) (k := ?_)
    refine JL_qg (q_loadA Try.isAgg27 Try.sizeOf27) (k := ?_)
    refine JL_qg (q_eqS (EQ_27 _ _ _ _ _ _)) (k := ?_)
    refine JL_qg (q_pickT) (k := ?_)
    refine JL_q (q_pickF) (k := ?_)
    refine JL_nil ?_
    refine JX_seq ?_
    refine J_dec rfl (fun hq10 => ?_) (fun hq10 => ?_)
    · refine J_seq ?_
      refine J_reg ?_
      refine JL_q (q_assign) (k := ?_)
      refine JL_nil ?_
      refine JX_seq ?_
      refine J_ret ?_
      refine JX_seq_ret ?_
      refine JX_block_ret ?_
      refine JX_seq_ret ?_
      refine JX_inv_ret ?_
      refine JX_block_ret ?_
      refine JX_seq_ret ?_
      refine JX_ret Try.results5 (Res.tmp rfl Res.nil) (fun w1 hw1 => ?_)
      exact ⟨(by rw [(((hF.neg hq4).er4 (((((hF6.pos hq6).f hq7).f hq8).pos hq9).pos hq10))).eq] <;> first | rfl | (simp only [List.length_set] <;> rfl)), hw1.ext_out⟩
    refine J_skip ?_
    refine JX_seq ?_
    refine J_seq ?_
    refine J_seq ?_
    refine J_reg ?_
    refine JL_q (q_move) (k := ?_)
    refine JL_q (q_eql) (k := ?_)
    refine JL_nil ?_
    refine JX_seq ?_
    refine J_dec rfl (fun hq11 => ?_) (fun hq11 => ?_)
    rotate_left
    · refine J_skip ?_
      refine JX_seq ?_
      refine J_seq ?_
      refine J_reg ?_
      refine JL_q (q_move) (k := ?_)
      refine JL_q (q_eql) (k := ?_)
      refine JL_q (q_move) (k := ?_)
      refine JL_dec 66 rfl (fun hq15 => ?_) (fun hq15 => ?_)
      rotate_left
      · refine JL_skips 4 rfl ?_
        refine JL_q (q_pickF) (k := ?_)
        refine JL_nil ?_
        refine JX_seq ?_
        refine J_false rfl ?_
        refine J_skip ?_
        refine JX_block ?_
        refine JX_seq ?_
        refine J_reg ?_
        refine JL_q (q_move) (k := ?_)
        refine JL_q (q_add) (k := ?_)
        refine JL_q (q_assign) (k := ?_)
        refine JL_nil ?_
        refine JX_permL (x_2B ++ ((r3, Obj.cells [(Value.slice (x_2a) (x_2.length) (x_2c)), (Value.slice (x_3a) (x_3.length) (x_3c)), (Value.slice (x_4a) (x_4.length) (x_4c))].toArray 25) :: ((r2, Obj.cells [(Value.int .i64 (h.1)), (Value.int .i64 (h.2))].toArray 27) :: ((r1, Obj.cells [(Value.slice (s_1_a) ((s.1.take 66).length) (s_1_c)), (Value.slice (s_2_1_a) ((s.2.1.take 66).length) (s_2_1_c)), (Value.slice (s_2_2_a) ((s.2.2.take 66).length) (s_2_2_c))].toArray 25) :: ((r5, Obj.cells [(Value.int .i64 (((takeD x_2 x_3 x_4).2.1.1))), (Value.int .i64 (((takeD x_2 x_3 x_4).2.1.2)))].toArray 27) :: ((r4, Obj.cells [(Value.slice (a1_5) ((takeD x_2 x_3 x_4).1.1.length) (c1_5)), (Value.slice (a2_5) ((takeD x_2 x_3 x_4).1.2.1.length) (c2_5)), (Value.slice (a3_5) ((takeD x_2 x_3 x_4).1.2.2.length) (c3_5))].toArray 25) :: (B_5 ++ []))))))) (((((List.Perm.cons _ ((List.Perm.cons _ ((List.Perm.append_left _ ((List.Perm.append_left _ ((List.Perm.cons _ ((List.Perm.cons _ (List.Perm.refl _)).trans (List.Perm.swap _ _ _))).trans (List.Perm.swap _ _ _))).trans List.perm_middle)).trans List.perm_middle)).trans (List.Perm.swap _ _ _))).trans (List.Perm.swap _ _ _)).trans ((List.Perm.cons _ ((List.Perm.cons _ ((List.Perm.cons _ ((List.Perm.append_left _ ((List.Perm.append_left _ ((List.Perm.cons _ (List.Perm.refl _)).trans (List.Perm.swap _ _ _))).trans List.perm_middle)).trans List.perm_middle)).trans (List.Perm.swap _ _ _))).trans (List.Perm.swap _ _ _))).trans (List.Perm.swap _ _ _))).trans ((List.Perm.cons _ ((List.Perm.cons _ ((List.Perm.cons _ ((List.Perm.cons _ ((List.Perm.append_left _ ((List.Perm.append_left _ (List.Perm.refl _)).trans List.perm_middle)).trans List.perm_middle)).trans (List.Perm.swap _ _ _))).trans (List.Perm.swap _ _ _))).trans (List.Perm.swap _ _ _))).trans (List.Perm.swap _ _ _))).trans ((List.Perm.cons _ ((List.Perm.cons _ ((List.Perm.cons _ ((List.Perm.cons _ ((List.Perm.cons _ ((List.Perm.append_left _ (List.Perm.refl _)).trans (perm_seg _ _ _))).trans List.perm_middle.symm)).trans List.perm_middle.symm)).trans List.perm_middle.symm)).trans List.perm_middle.symm)).trans List.perm_middle.symm)) ?_
        refine JX_subL (x_2B ++ ((r3, Obj.cells [(Value.slice (x_2a) (x_2.length) (x_2c)), (Value.slice (x_3a) (x_3.length) (x_3c)), (Value.slice (x_4a) (x_4.length) (x_4c))].toArray 25) :: ((r2, Obj.cells [(Value.int .i64 (h.1)), (Value.int .i64 (h.2))].toArray 27) :: ((r1, Obj.cells [(Value.slice (s_1_a) ((s.1.take 66).length) (s_1_c)), (Value.slice (s_2_1_a) ((s.2.1.take 66).length) (s_2_1_c)), (Value.slice (s_2_2_a) ((s.2.2.take 66).length) (s_2_2_c))].toArray 25) :: [])))) (List.Sublist.append (List.Sublist.refl _) (List.Sublist.cons_cons _ (List.Sublist.cons_cons _ (List.Sublist.cons_cons _ (List.nil_sublist _))))) ?_
        exact JX_inv12 n_5 (i_1 + 1) x_2 x_2a x_2c x_3 x_3a x_3c x_4 x_4a x_4c x_2B ⟨by omega, (((((((hF6.pos hq6).f hq7).f hq8).pos hq9).neg hq10).neg hq11).neg hq15), (SlG.mono hx_2), (SlG.mono hx_3), (SlG.mono hx_4), (by omega), (by omega)⟩ (Nat.lt_succ_self _) (by repeat (first | exact SubE.nil | refine SubE.cons rfl ?_)) (List.Perm.of_eq (by first | rfl | simp only [List.append_assoc, List.cons_append, List.nil_append]))
      refine JL_qg (q_move) (k := ?_)
      refine JL_qg (q_rem) (k := ?_)
      refine JL_qg (q_move) (k := ?_)
      refine JL_qg (q_neq) (k := ?_)
      refine JL_q (q_pickT) (k := ?_)
      refine JL_nil ?_
      refine JX_seq ?_
      refine J_dec rfl (fun hq16 => ?_) (fun hq16 => ?_)
      rotate_left
      · refine J_skip ?_
        refine JX_block ?_
        refine JX_seq ?_
        refine J_reg ?_
        refine JL_q (q_move) (k := ?_)
        refine JL_q (q_add) (k := ?_)
        refine JL_q (q_assign) (k := ?_)
        refine JL_nil ?_
        refine JX_permL (x_2B ++ ((r3, Obj.cells [(Value.slice (x_2a) (x_2.length) (x_2c)), (Value.slice (x_3a) (x_3.length) (x_3c)), (Value.slice (x_4a) (x_4.length) (x_4c))].toArray 25) :: ((r2, Obj.cells [(Value.int .i64 (h.1)), (Value.int .i64 (h.2))].toArray 27) :: ((r1, Obj.cells [(Value.slice (s_1_a) ((s.1.take 66).length) (s_1_c)), (Value.slice (s_2_1_a) ((s.2.1.take 66).length) (s_2_1_c)), (Value.slice (s_2_2_a) ((s.2.2.take 66).length) (s_2_2_c))].toArray 25) :: ((r5, Obj.cells [(Value.int .i64 (((takeD x_2 x_3 x_4).2.1.1))), (Value.int .i64 (((takeD x_2 x_3 x_4).2.1.2)))].toArray 27) :: ((r4, Obj.cells [(Value.slice (a1_5) ((takeD x_2 x_3 x_4).1.1.length) (c1_5)), (Value.slice (a2_5) ((takeD x_2 x_3 x_4).1.2.1.length) (c2_5)), (Value.slice (a3_5) ((takeD x_2 x_3 x_4).1.2.2.length) (c3_5))].toArray 25) :: (B_5 ++ []))))))) (((((List.Perm.cons _ ((List.Perm.cons _ ((List.Perm.append_left _ ((List.Perm.append_left _ ((List.Perm.cons _ ((List.Perm.cons _ (List.Perm.refl _)).trans (List.Perm.swap _ _ _))).trans (List.Perm.swap _ _ _))).trans List.perm_middle)).trans List.perm_middle)).trans (List.Perm.swap _ _ _))).trans (List.Perm.swap _ _ _)).trans ((List.Perm.cons _ ((List.Perm.cons _ ((List.Perm.cons _ ((List.Perm.append_left _ ((List.Perm.append_left _ ((List.Perm.cons _ (List.Perm.refl _)).trans (List.Perm.swap _ _ _))).trans List.perm_middle)).trans List.perm_middle)).trans (List.Perm.swap _ _ _))).trans (List.Perm.swap _ _ _))).trans (List.Perm.swap _ _ _))).trans ((List.Perm.cons _ ((List.Perm.cons _ ((List.Perm.cons _ ((List.Perm.cons _ ((List.Perm.append_left _ ((List.Perm.append_left _ (List.Perm.refl _)).trans List.perm_middle)).trans List.perm_middle)).trans (List.Perm.swap _ _ _))).trans (List.Perm.swap _ _ _))).trans (List.Perm.swap _ _ _))).trans (List.Perm.swap _ _ _))).trans ((List.Perm.cons _ ((List.Perm.cons _ ((List.Perm.cons _ ((List.Perm.cons _ ((List.Perm.cons _ ((List.Perm.append_left _ (List.Perm.refl _)).trans (perm_seg _ _ _))).trans List.perm_middle.symm)).trans List.perm_middle.symm)).trans List.perm_middle.symm)).trans List.perm_middle.symm)).trans List.perm_middle.symm)) ?_
        refine JX_subL (x_2B ++ ((r3, Obj.cells [(Value.slice (x_2a) (x_2.length) (x_2c)), (Value.slice (x_3a) (x_3.length) (x_3c)), (Value.slice (x_4a) (x_4.length) (x_4c))].toArray 25) :: ((r2, Obj.cells [(Value.int .i64 (h.1)), (Value.int .i64 (h.2))].toArray 27) :: ((r1, Obj.cells [(Value.slice (s_1_a) ((s.1.take 66).length) (s_1_c)), (Value.slice (s_2_1_a) ((s.2.1.take 66).length) (s_2_1_c)), (Value.slice (s_2_2_a) ((s.2.2.take 66).length) (s_2_2_c))].toArray 25) :: [])))) (List.Sublist.append (List.Sublist.refl _) (List.Sublist.cons_cons _ (List.Sublist.cons_cons _ (List.Sublist.cons_cons _ (List.nil_sublist _))))) ?_
        exact JX_inv12 n_5 (i_1 + 1) x_2 x_2a x_2c x_3 x_3a x_3c x_4 x_4a x_4c x_2B ⟨by omega, ((((((((hF6.pos hq6).f hq7).f hq8).pos hq9).neg hq10).neg hq11).pos hq15).neg hq16), (SlG.mono hx_2), (SlG.mono hx_3), (SlG.mono hx_4), (by omega), (by omega)⟩ (Nat.lt_succ_self _) (by repeat (first | exact SubE.nil | refine SubE.cons rfl ?_)) (List.Perm.of_eq (by first | rfl | simp only [List.append_assoc, List.cons_append, List.nil_append]))
      refine J_seq ?_
      refine J_reg ?_
      refine JL_q (q_loadA Try.isAgg25 Try.sizeOf25) (k := ?_)
      refine JL_q (q_loadA Try.isAgg27 Try.sizeOf27) (k := ?_)
      refine JL_p (args := [(Value.agg [(Value.slice (x_2a) (x_2.length) (x_2c)), (Value.slice (x_3a) (x_3.length) (x_3c)), (Value.slice (x_4a) (x_4.length) (x_4c))].toArray), (Value.agg [(Value.int .i64 (((takeD x_2 x_3 x_4).2.1.1))), (Value.int .i64 (((takeD x_2 x_3 x_4).2.1.2)))].toArray)]) (c_callA Try.call13) (fun w1 hw1 => sGive_ok w1 (s := (x_2, x_3, x_4)) (h := (takeD x_2 x_3 x_4).2.1) (h_s_1 := (SlG.slj hx_2) w1 hw1) (n_s_1 := by first | omega | (simp only [List.length_append, List.length_take, List.length_drop, List.length_set, List.length_replicate, List.length_cons, List.length_nil, List.length_map]; omega) | (simp only [List.length_append, List.length_take, List.length_drop, List.length_set, List.length_replicate, List.length_cons, List.length_nil, List.length_map] at *; omega) | decide) (h_s_2_1 := (SlG.slj hx_3) w1 hw1) (n_s_2_1 := by first | omega | (simp only [List.length_append, List.length_take, List.length_drop, List.length_set, List.length_replicate, List.length_cons, List.length_nil, List.length_map]; omega) | (simp only [List.length_append, List.length_take, List.length_drop, List.length_set, List.length_replicate, List.length_cons, List.length_nil, List.length_map] at *; omega) | decide) (h_s_2_2 := (SlG.slj hx_4) w1 hw1) (n_s_2_2 := by first | omega | (simp only [List.length_append, List.length_take, List.length_drop, List.length_set, List.length_replicate, List.length_cons, List.length_nil, List.length_map]; omega) | (simp only [List.length_append, List.length_take, List.length_drop, List.length_set, List.length_replicate, List.length_cons, List.length_nil, List.length_map] at *; omega) | decide)) (k := ?_)
      rintro w1_7 e1_7 w2_7 hw1_7 ⟨a1_7, c1_7, a2_7, c2_7, a3_7, c3_7, B_7, he_7, hf_7, hs1_7, hs2_7, hs3_7⟩
      refine ⟨_, (B_7 ++ ((r5, Obj.cells [(Value.int .i64 (((takeD x_2 x_3 x_4).2.1.1))), (Value.int .i64 (((takeD x_2 x_3 x_4).2.1.2)))].toArray 27) :: ((r4, Obj.cells [(Value.slice (a1_5) ((takeD x_2 x_3 x_4).1.1.length) (c1_5)), (Value.slice (a2_5) ((takeD x_2 x_3 x_4).1.2.1.length) (c2_5)), (Value.slice (a3_5) ((takeD x_2 x_3 x_4).1.2.2.length) (c3_5))].toArray 25) :: (B_5 ++ (x_2B ++ ((r3, Obj.cells [(Value.slice (x_2a) (x_2.length) (x_2c)), (Value.slice (x_3a) (x_3.length) (x_3c)), (Value.slice (x_4a) (x_4.length) (x_4c))].toArray 25) :: ((r2, Obj.cells [(Value.int .i64 (h.1)), (Value.int .i64 (h.2))].toArray 27) :: ((r1, Obj.cells [(Value.slice (s_1_a) ((s.1.take 66).length) (s_1_c)), (Value.slice (s_2_1_a) ((s.2.1.take 66).length) (s_2_1_c)), (Value.slice (s_2_2_a) ((s.2.2.take 66).length) (s_2_2_c))].toArray 25) :: [])))))))), he_7, hw1_7.fresh hf_7, ?_⟩
      have hgl_23357 := giveD_len x_2 x_3 x_4 ((takeD x_2 x_3 x_4).2.1).1 ((takeD x_2 x_3 x_4).2.1).2
      refine JL_q (q_move) (k := ?_)
      refine JL_q (q_ext) (k := ?_)
      refine JL_q (q_ext) (k := ?_)
      refine JL_a noMk (a_alloc (l := [_, _, _]) Try.zeroValue25) (k := fun r7 hr7 => ?_)
      refine JL_s (w_store (l' := [_, _, _]) Try.sizeOf25) (k := ?_)
      refine JL_q (q_assign) (k := ?_)
      refine JL_nil ?_
      refine JX_seq ?_
      refine J_seq ?_
      refine J_seq ?_
      refine J_reg ?_
      refine JL_q (q_move) (k := ?_)
      refine JL_q (q_neq) (k := ?_)
      refine JL_nil ?_
      refine JX_seq ?_
      refine J_dec rfl (fun hq17 => ?_) (fun hq17 => ?_)
      · refine J_seq ?_
        refine J_reg ?_
        refine JL_q (q_assign) (k := ?_)
        refine JL_nil ?_
        refine JX_seq ?_
        refine J_ret ?_
        refine JX_seq_ret ?_
        refine JX_block_ret ?_
        refine JX_seq_ret ?_
        refine JX_inv_ret ?_
        refine JX_block_ret ?_
        refine JX_seq_ret ?_
        refine JX_ret Try.results5 (Res.tmp rfl Res.nil) (fun w1 hw1 => ?_)
        exact ⟨(by rw [(((hF.neg hq4).er4 (((((((((hF6.pos hq6).f hq7).f hq8).pos hq9).neg hq10).neg hq11).pos hq15).pos hq16).pos hq17))).eq] <;> first | rfl | (simp only [List.length_set] <;> rfl)), hw1.ext_out⟩
      refine J_skip ?_
      refine JX_seq ?_
      refine J_reg ?_
      refine JL_q (q_loadA Try.isAgg25 Try.sizeOf25) (k := ?_)
      refine JL_s (w_store (l' := [_, _, _]) Try.sizeOf25) (k := ?_)
      refine JL_nil ?_
      refine JX_block ?_
      refine JX_seq ?_
      refine J_reg ?_
      refine JL_q (q_move) (k := ?_)
      refine JL_q (q_add) (k := ?_)
      refine JL_q (q_assign) (k := ?_)
      refine JL_nil ?_
      refine JX_permL (B_7 ++ ((r3, Obj.cells [(Value.slice (a1_7) ((giveD x_2 x_3 x_4 ((takeD x_2 x_3 x_4).2.1).1 ((takeD x_2 x_3 x_4).2.1).2).1.1.length) (c1_7)), (Value.slice (a2_7) ((giveD x_2 x_3 x_4 ((takeD x_2 x_3 x_4).2.1).1 ((takeD x_2 x_3 x_4).2.1).2).1.2.1.length) (c2_7)), (Value.slice (a3_7) ((giveD x_2 x_3 x_4 ((takeD x_2 x_3 x_4).2.1).1 ((takeD x_2 x_3 x_4).2.1).2).1.2.2.length) (c3_7))].toArray 25) :: ((r2, Obj.cells [(Value.int .i64 (h.1)), (Value.int .i64 (h.2))].toArray 27) :: ((r1, Obj.cells [(Value.slice (s_1_a) ((s.1.take 66).length) (s_1_c)), (Value.slice (s_2_1_a) ((s.2.1.take 66).length) (s_2_1_c)), (Value.slice (s_2_2_a) ((s.2.2.take 66).length) (s_2_2_c))].toArray 25) :: ((r7, Obj.cells [(Value.slice (a1_7) ((giveD x_2 x_3 x_4 ((takeD x_2 x_3 x_4).2.1).1 ((takeD x_2 x_3 x_4).2.1).2).1.1.length) (c1_7)), (Value.slice (a2_7) ((giveD x_2 x_3 x_4 ((takeD x_2 x_3 x_4).2.1).1 ((takeD x_2 x_3 x_4).2.1).2).1.2.1.length) (c2_7)), (Value.slice (a3_7) ((giveD x_2 x_3 x_4 ((takeD x_2 x_3 x_4).2.1).1 ((takeD x_2 x_3 x_4).2.1).2).1.2.2.length) (c3_7))].toArray 25) :: ((r5, Obj.cells [(Value.int .i64 (((takeD x_2 x_3 x_4).2.1.1))), (Value.int .i64 (((takeD x_2 x_3 x_4).2.1.2)))].toArray 27) :: ((r4, Obj.cells [(Value.slice (a1_5) ((takeD x_2 x_3 x_4).1.1.length) (c1_5)), (Value.slice (a2_5) ((takeD x_2 x_3 x_4).1.2.1.length) (c2_5)), (Value.slice (a3_5) ((takeD x_2 x_3 x_4).1.2.2.length) (c3_5))].toArray 25) :: (B_5 ++ (x_2B ++ []))))))))) (((((List.Perm.cons _ ((List.Perm.append_left _ ((List.Perm.cons _ ((List.Perm.cons _ ((List.Perm.append_left _ ((List.Perm.append_left _ ((List.Perm.cons _ ((List.Perm.cons _ (List.Perm.refl _)).trans (List.Perm.swap _ _ _))).trans (List.Perm.swap _ _ _))).trans List.perm_middle)).trans List.perm_middle)).trans (List.Perm.swap _ _ _))).trans (List.Perm.swap _ _ _))).trans List.perm_middle)).trans (List.Perm.swap _ _ _)).trans ((List.Perm.cons _ ((List.Perm.cons _ ((List.Perm.append_left _ ((List.Perm.cons _ ((List.Perm.cons _ ((List.Perm.append_left _ ((List.Perm.append_left _ ((List.Perm.cons _ (List.Perm.refl _)).trans (List.Perm.swap _ _ _))).trans List.perm_middle)).trans List.perm_middle)).trans (List.Perm.swap _ _ _))).trans (List.Perm.swap _ _ _))).trans List.perm_middle)).trans (List.Perm.swap _ _ _))).trans (List.Perm.swap _ _ _))).trans ((List.Perm.cons _ ((List.Perm.cons _ ((List.Perm.cons _ ((List.Perm.append_left _ ((List.Perm.cons _ ((List.Perm.cons _ ((List.Perm.append_left _ ((List.Perm.append_left _ (List.Perm.refl _)).trans List.perm_middle)).trans List.perm_middle)).trans (List.Perm.swap _ _ _))).trans (List.Perm.swap _ _ _))).trans List.perm_middle)).trans (List.Perm.swap _ _ _))).trans (List.Perm.swap _ _ _))).trans (List.Perm.swap _ _ _))).trans ((List.Perm.cons _ ((List.Perm.cons _ ((List.Perm.cons _ ((List.Perm.cons _ (List.Perm.refl _)).trans List.perm_middle.symm)).trans List.perm_middle.symm)).trans List.perm_middle.symm)).trans List.perm_middle.symm)) ?_
      refine JX_subL (B_7 ++ ((r3, Obj.cells [(Value.slice (a1_7) ((giveD x_2 x_3 x_4 ((takeD x_2 x_3 x_4).2.1).1 ((takeD x_2 x_3 x_4).2.1).2).1.1.length) (c1_7)), (Value.slice (a2_7) ((giveD x_2 x_3 x_4 ((takeD x_2 x_3 x_4).2.1).1 ((takeD x_2 x_3 x_4).2.1).2).1.2.1.length) (c2_7)), (Value.slice (a3_7) ((giveD x_2 x_3 x_4 ((takeD x_2 x_3 x_4).2.1).1 ((takeD x_2 x_3 x_4).2.1).2).1.2.2.length) (c3_7))].toArray 25) :: ((r2, Obj.cells [(Value.int .i64 (h.1)), (Value.int .i64 (h.2))].toArray 27) :: ((r1, Obj.cells [(Value.slice (s_1_a) ((s.1.take 66).length) (s_1_c)), (Value.slice (s_2_1_a) ((s.2.1.take 66).length) (s_2_1_c)), (Value.slice (s_2_2_a) ((s.2.2.take 66).length) (s_2_2_c))].toArray 25) :: [])))) (List.Sublist.append (List.Sublist.refl _) (List.Sublist.cons_cons _ (List.Sublist.cons_cons _ (List.Sublist.cons_cons _ (List.nil_sublist _))))) ?_
      exact JX_inv12 n_5 (i_1 + 1) ((giveD x_2 x_3 x_4 ((takeD x_2 x_3 x_4).2.1).1 ((takeD x_2 x_3 x_4).2.1).2).1.1) a1_7 c1_7 ((giveD x_2 x_3 x_4 ((takeD x_2 x_3 x_4).2.1).1 ((takeD x_2 x_3 x_4).2.1).2).1.2.1) a2_7 c2_7 ((giveD x_2 x_3 x_4 ((takeD x_2 x_3 x_4).2.1).1 ((takeD x_2 x_3 x_4).2.1).2).1.2.2) a3_7 c3_7 B_7 ⟨by omega, (((((((((hF6.pos hq6).f hq7).f hq8).pos hq9).neg hq10).neg hq11).pos hq15).pos hq16).neg hq17), (SlG.mono (SlG.of_slb hs1_7)), (SlG.mono (SlG.of_slb hs2_7)), (SlG.mono (SlG.of_slb hs3_7)), (by omega), (by omega)⟩ (Nat.lt_succ_self _) (by repeat (first | exact SubE.nil | refine SubE.cons rfl ?_)) (List.Perm.of_eq (by first | rfl | simp only [List.append_assoc, List.cons_append, List.nil_append]))
    refine J_reg ?_
    refine JL_q (q_loadA Try.isAgg25 Try.sizeOf25) (k := ?_)
    refine JL_s (w_store (l' := [_, _, _]) Try.sizeOf25) (k := ?_)
    refine JL_nil ?_
    refine JX_seq ?_
    refine J_seq ?_
    refine J_reg ?_
    refine JL_q (q_move) (k := ?_)
    refine JL_q (q_eql) (k := ?_)
    refine JL_q (q_move) (k := ?_)
    refine JL_dec 66 rfl (fun hq12 => ?_) (fun hq12 => ?_)
    rotate_left
    · refine JL_skips 4 rfl ?_
      refine JL_q (q_pickF) (k := ?_)
      refine JL_nil ?_
      refine JX_seq ?_
      refine J_false rfl ?_
      refine J_skip ?_
      refine JX_block ?_
      refine JX_seq ?_
      refine J_reg ?_
      refine JL_q (q_move) (k := ?_)
      refine JL_q (q_add) (k := ?_)
      refine JL_q (q_assign) (k := ?_)
      refine JL_nil ?_
      refine JX_permL (B_5 ++ ((r3, Obj.cells [(Value.slice (a1_5) ((takeD x_2 x_3 x_4).1.1.length) (c1_5)), (Value.slice (a2_5) ((takeD x_2 x_3 x_4).1.2.1.length) (c2_5)), (Value.slice (a3_5) ((takeD x_2 x_3 x_4).1.2.2.length) (c3_5))].toArray 25) :: ((r2, Obj.cells [(Value.int .i64 (h.1)), (Value.int .i64 (h.2))].toArray 27) :: ((r1, Obj.cells [(Value.slice (s_1_a) ((s.1.take 66).length) (s_1_c)), (Value.slice (s_2_1_a) ((s.2.1.take 66).length) (s_2_1_c)), (Value.slice (s_2_2_a) ((s.2.2.take 66).length) (s_2_2_c))].toArray 25) :: ((r5, Obj.cells [(Value.int .i64 (((takeD x_2 x_3 x_4).2.1.1))), (Value.int .i64 (((takeD x_2 x_3 x_4).2.1.2)))].toArray 27) :: ((r4, Obj.cells [(Value.slice (a1_5) ((takeD x_2 x_3 x_4).1.1.length) (c1_5)), (Value.slice (a2_5) ((takeD x_2 x_3 x_4).1.2.1.length) (c2_5)), (Value.slice (a3_5) ((takeD x_2 x_3 x_4).1.2.2.length) (c3_5))].toArray 25) :: (x_2B ++ []))))))) (((((List.Perm.cons _ ((List.Perm.cons _ ((List.Perm.append_left _ ((List.Perm.append_left _ ((List.Perm.cons _ ((List.Perm.cons _ (List.Perm.refl _)).trans (List.Perm.swap _ _ _))).trans (List.Perm.swap _ _ _))).trans List.perm_middle)).trans List.perm_middle)).trans (List.Perm.swap _ _ _))).trans (List.Perm.swap _ _ _)).trans ((List.Perm.cons _ ((List.Perm.cons _ ((List.Perm.cons _ ((List.Perm.append_left _ ((List.Perm.append_left _ ((List.Perm.cons _ (List.Perm.refl _)).trans (List.Perm.swap _ _ _))).trans List.perm_middle)).trans List.perm_middle)).trans (List.Perm.swap _ _ _))).trans (List.Perm.swap _ _ _))).trans (List.Perm.swap _ _ _))).trans ((List.Perm.cons _ ((List.Perm.cons _ ((List.Perm.cons _ ((List.Perm.cons _ ((List.Perm.append_left _ ((List.Perm.append_left _ (List.Perm.refl _)).trans List.perm_middle)).trans List.perm_middle)).trans (List.Perm.swap _ _ _))).trans (List.Perm.swap _ _ _))).trans (List.Perm.swap _ _ _))).trans (List.Perm.swap _ _ _))).trans ((List.Perm.cons _ ((List.Perm.cons _ ((List.Perm.cons _ ((List.Perm.cons _ ((List.Perm.cons _ (List.Perm.refl _)).trans List.perm_middle.symm)).trans List.perm_middle.symm)).trans List.perm_middle.symm)).trans List.perm_middle.symm)).trans List.perm_middle.symm)) ?_
      refine JX_subL (B_5 ++ ((r3, Obj.cells [(Value.slice (a1_5) ((takeD x_2 x_3 x_4).1.1.length) (c1_5)), (Value.slice (a2_5) ((takeD x_2 x_3 x_4).1.2.1.length) (c2_5)), (Value.slice (a3_5) ((takeD x_2 x_3 x_4).1.2.2.length) (c3_5))].toArray 25) :: ((r2, Obj.cells [(Value.int .i64 (h.1)), (Value.int .i64 (h.2))].toArray 27) :: ((r1, Obj.cells [(Value.slice (s_1_a) ((s.1.take 66).length) (s_1_c)), (Value.slice (s_2_1_a) ((s.2.1.take 66).length) (s_2_1_c)), (Value.slice (s_2_2_a) ((s.2.2.take 66).length) (s_2_2_c))].toArray 25) :: [])))) (List.Sublist.append (List.Sublist.refl _) (List.Sublist.cons_cons _ (List.Sublist.cons_cons _ (List.Sublist.cons_cons _ (List.nil_sublist _))))) ?_
      exact JX_inv12 n_5 (i_1 + 1) ((takeD x_2 x_3 x_4).1.1) a1_5 c1_5 ((takeD x_2 x_3 x_4).1.2.1) a2_5 c2_5 ((takeD x_2 x_3 x_4).1.2.2) a3_5 c3_5 B_5 ⟨by omega, (((((((hF6.pos hq6).f hq7).f hq8).pos hq9).neg hq10).pos hq11).neg hq12), (SlG.mono (SlG.of_slb hs1_5)), (SlG.mono (SlG.of_slb hs2_5)), (SlG.mono (SlG.of_slb hs3_5)), (by omega), (by omega)⟩ (Nat.lt_succ_self _) (by repeat (first | exact SubE.nil | refine SubE.cons rfl ?_)) (List.Perm.of_eq (by first | rfl | simp only [List.append_assoc, List.cons_append, List.nil_append]))
    refine JL_qg (q_move) (k := ?_)
    refine JL_qg (q_rem) (k := ?_)
    refine JL_qg (q_move) (k := ?_)
    refine JL_qg (q_neq) (k := ?_)
    refine JL_q (q_pickT) (k := ?_)
    refine JL_nil ?_
    refine JX_seq ?_
    refine J_dec rfl (fun hq13 => ?_) (fun hq13 => ?_)
    rotate_left
    · refine J_skip ?_
      refine JX_block ?_
      refine JX_seq ?_
      refine J_reg ?_
      refine JL_q (q_move) (k := ?_)
      refine JL_q (q_add) (k := ?_)
      refine JL_q (q_assign) (k := ?_)
      refine JL_nil ?_
      refine JX_permL (B_5 ++ ((r3, Obj.cells [(Value.slice (a1_5) ((takeD x_2 x_3 x_4).1.1.length) (c1_5)), (Value.slice (a2_5) ((takeD x_2 x_3 x_4).1.2.1.length) (c2_5)), (Value.slice (a3_5) ((takeD x_2 x_3 x_4).1.2.2.length) (c3_5))].toArray 25) :: ((r2, Obj.cells [(Value.int .i64 (h.1)), (Value.int .i64 (h.2))].toArray 27) :: ((r1, Obj.cells [(Value.slice (s_1_a) ((s.1.take 66).length) (s_1_c)), (Value.slice (s_2_1_a) ((s.2.1.take 66).length) (s_2_1_c)), (Value.slice (s_2_2_a) ((s.2.2.take 66).length) (s_2_2_c))].toArray 25) :: ((r5, Obj.cells [(Value.int .i64 (((takeD x_2 x_3 x_4).2.1.1))), (Value.int .i64 (((takeD x_2 x_3 x_4).2.1.2)))].toArray 27) :: ((r4, Obj.cells [(Value.slice (a1_5) ((takeD x_2 x_3 x_4).1.1.length) (c1_5)), (Value.slice (a2_5) ((takeD x_2 x_3 x_4).1.2.1.length) (c2_5)), (Value.slice (a3_5) ((takeD x_2 x_3 x_4).1.2.2.length) (c3_5))].toArray 25) :: (x_2B ++ []))))))) (((((List.Perm.cons _ ((List.Perm.cons _ ((List.Perm.append_left _ ((List.Perm.append_left _ ((List.Perm.cons _ ((List.Perm.cons _ (List.Perm.refl _)).trans (List.Perm.swap _ _ _))).trans (List.Perm.swap _ _ _))).trans List.perm_middle)).trans List.perm_middle)).trans (List.Perm.swap _ _ _))).trans (List.Perm.swap _ _ _)).trans ((List.Perm.cons _ ((List.Perm.cons _ ((List.Perm.cons _ ((List.Perm.append_left _ ((List.Perm.append_left _ ((List.Perm.cons _ (List.Perm.refl _)).trans (List.Perm.swap _ _ _))).trans List.perm_middle)).trans List.perm_middle)).trans (List.Perm.swap _ _ _))).trans (List.Perm.swap _ _ _))).trans (List.Perm.swap _ _ _))).trans ((List.Perm.cons _ ((List.Perm.cons _ ((List.Perm.cons _ ((List.Perm.cons _ ((List.Perm.append_left _ ((List.Perm.append_left _ (List.Perm.refl _)).trans List.perm_middle)).trans List.perm_middle)).trans (List.Perm.swap _ _ _))).trans (List.Perm.swap _ _ _))).trans (List.Perm.swap _ _ _))).trans (List.Perm.swap _ _ _))).trans ((List.Perm.cons _ ((List.Perm.cons _ ((List.Perm.cons _ ((List.Perm.cons _ ((List.Perm.cons _ (List.Perm.refl _)).trans List.perm_middle.symm)).trans List.perm_middle.symm)).trans List.perm_middle.symm)).trans List.perm_middle.symm)).trans List.perm_middle.symm)) ?_
      refine JX_subL (B_5 ++ ((r3, Obj.cells [(Value.slice (a1_5) ((takeD x_2 x_3 x_4).1.1.length) (c1_5)), (Value.slice (a2_5) ((takeD x_2 x_3 x_4).1.2.1.length) (c2_5)), (Value.slice (a3_5) ((takeD x_2 x_3 x_4).1.2.2.length) (c3_5))].toArray 25) :: ((r2, Obj.cells [(Value.int .i64 (h.1)), (Value.int .i64 (h.2))].toArray 27) :: ((r1, Obj.cells [(Value.slice (s_1_a) ((s.1.take 66).length) (s_1_c)), (Value.slice (s_2_1_a) ((s.2.1.take 66).length) (s_2_1_c)), (Value.slice (s_2_2_a) ((s.2.2.take 66).length) (s_2_2_c))].toArray 25) :: [])))) (List.Sublist.append (List.Sublist.refl _) (List.Sublist.cons_cons _ (List.Sublist.cons_cons _ (List.Sublist.cons_cons _ (List.nil_sublist _))))) ?_
      exact JX_inv12 n_5 (i_1 + 1) ((takeD x_2 x_3 x_4).1.1) a1_5 c1_5 ((takeD x_2 x_3 x_4).1.2.1) a2_5 c2_5 ((takeD x_2 x_3 x_4).1.2.2) a3_5 c3_5 B_5 ⟨by omega, ((((((((hF6.pos hq6).f hq7).f hq8).pos hq9).neg hq10).pos hq11).pos hq12).neg hq13), (SlG.mono (SlG.of_slb hs1_5)), (SlG.mono (SlG.of_slb hs2_5)), (SlG.mono (SlG.of_slb hs3_5)), (by omega), (by omega)⟩ (Nat.lt_succ_self _) (by repeat (first | exact SubE.nil | refine SubE.cons rfl ?_)) (List.Perm.of_eq (by first | rfl | simp only [List.append_assoc, List.cons_append, List.nil_append]))
    refine J_seq ?_
    refine J_reg ?_
    refine JL_q (q_loadA Try.isAgg25 Try.sizeOf25) (k := ?_)
    refine JL_q (q_loadA Try.isAgg27 Try.sizeOf27) (k := ?_)
    refine JL_p (args := [(Value.agg [(Value.slice (a1_5) ((takeD x_2 x_3 x_4).1.1.length) (c1_5)), (Value.slice (a2_5) ((takeD x_2 x_3 x_4).1.2.1.length) (c2_5)), (Value.slice (a3_5) ((takeD x_2 x_3 x_4).1.2.2.length) (c3_5))].toArray), (Value.agg [(Value.int .i64 (((takeD x_2 x_3 x_4).2.1.1))), (Value.int .i64 (((takeD x_2 x_3 x_4).2.1.2)))].toArray)]) (c_callA Try.call13) (fun w1 hw1 => sGive_ok w1 (s := (takeD x_2 x_3 x_4).1) (h := (takeD x_2 x_3 x_4).2.1) (h_s_1 := (SlB.slj hs1_5) w1 hw1) (n_s_1 := by first | omega | (simp only [List.length_append, List.length_take, List.length_drop, List.length_set, List.length_replicate, List.length_cons, List.length_nil, List.length_map]; omega) | (simp only [List.length_append, List.length_take, List.length_drop, List.length_set, List.length_replicate, List.length_cons, List.length_nil, List.length_map] at *; omega) | decide) (h_s_2_1 := (SlB.slj hs2_5) w1 hw1) (n_s_2_1 := by first | omega | (simp only [List.length_append, List.length_take, List.length_drop, List.length_set, List.length_replicate, List.length_cons, List.length_nil, List.length_map]; omega) | (simp only [List.length_append, List.length_take, List.length_drop, List.length_set, List.length_replicate, List.length_cons, List.length_nil, List.length_map] at *; omega) | decide) (h_s_2_2 := (SlB.slj hs3_5) w1 hw1) (n_s_2_2 := by first | omega | (simp only [List.length_append, List.length_take, List.length_drop, List.length_set, List.length_replicate, List.length_cons, List.length_nil, List.length_map]; omega) | (simp only [List.length_append, List.length_take, List.length_drop, List.length_set, List.length_replicate, List.length_cons, List.length_nil, List.length_map] at *; omega) | decide)) (k := ?_)
    rintro w1_6 e1_6 w2_6 hw1_6 ⟨a1_6, c1_6, a2_6, c2_6, a3_6, c3_6, B_6, he_6, hf_6, hs1_6, hs2_6, hs3_6⟩
    refine ⟨_, (B_6 ++ ((r5, Obj.cells [(Value.int .i64 (((takeD x_2 x_3 x_4).2.1.1))), (Value.int .i64 (((takeD x_2 x_3 x_4).2.1.2)))].toArray 27) :: ((r4, Obj.cells [(Value.slice (a1_5) ((takeD x_2 x_3 x_4).1.1.length) (c1_5)), (Value.slice (a2_5) ((takeD x_2 x_3 x_4).1.2.1.length) (c2_5)), (Value.slice (a3_5) ((takeD x_2 x_3 x_4).1.2.2.length) (c3_5))].toArray 25) :: (B_5 ++ (x_2B ++ ((r3, Obj.cells [(Value.slice (a1_5) ((takeD x_2 x_3 x_4).1.1.length) (c1_5)), (Value.slice (a2_5) ((takeD x_2 x_3 x_4).1.2.1.length) (c2_5)), (Value.slice (a3_5) ((takeD x_2 x_3 x_4).1.2.2.length) (c3_5))].toArray 25) :: ((r2, Obj.cells [(Value.int .i64 (h.1)), (Value.int .i64 (h.2))].toArray 27) :: ((r1, Obj.cells [(Value.slice (s_1_a) ((s.1.take 66).length) (s_1_c)), (Value.slice (s_2_1_a) ((s.2.1.take 66).length) (s_2_1_c)), (Value.slice (s_2_2_a) ((s.2.2.take 66).length) (s_2_2_c))].toArray 25) :: [])))))))), he_6, hw1_6.fresh hf_6, ?_⟩
    have hgl_82435 := giveD_len ((takeD x_2 x_3 x_4).1).1 ((takeD x_2 x_3 x_4).1).2.1 ((takeD x_2 x_3 x_4).1).2.2 ((takeD x_2 x_3 x_4).2.1).1 ((takeD x_2 x_3 x_4).2.1).2
    refine JL_q (q_move) (k := ?_)
    refine JL_q (q_ext) (k := ?_)
    refine JL_q (q_ext) (k := ?_)
    refine JL_a noMk (a_alloc (l := [_, _, _]) Try.zeroValue25) (k := fun r6 hr6 => ?_)
    refine JL_s (w_store (l' := [_, _, _]) Try.sizeOf25) (k := ?_)
    refine JL_q (q_assign) (k := ?_)
    refine JL_nil ?_
    refine JX_seq ?_
    refine J_seq ?_
    refine J_seq ?_
    refine J_reg ?_
    refine JL_q (q_move) (k := ?_)
    refine JL_q (q_neq) (k := ?_)
    refine JL_nil ?_
    refine JX_seq ?_
    refine J_dec rfl (fun hq14 => ?_) (fun hq14 => ?_)
    · refine J_seq ?_
      refine J_reg ?_
      refine JL_q (q_assign) (k := ?_)
      refine JL_nil ?_
      refine JX_seq ?_
      refine J_ret ?_
      refine JX_seq_ret ?_
      refine JX_block_ret ?_
      refine JX_seq_ret ?_
      refine JX_inv_ret ?_
      refine JX_block_ret ?_
      refine JX_seq_ret ?_
      refine JX_ret Try.results5 (Res.tmp rfl Res.nil) (fun w1 hw1 => ?_)
      exact ⟨(by rw [(((hF.neg hq4).er4 (((((((((hF6.pos hq6).f hq7).f hq8).pos hq9).neg hq10).pos hq11).pos hq12).pos hq13).pos hq14))).eq] <;> first | rfl | (simp only [List.length_set] <;> rfl)), hw1.ext_out⟩
    refine J_skip ?_
    refine JX_seq ?_
    refine J_reg ?_
    refine JL_q (q_loadA Try.isAgg25 Try.sizeOf25) (k := ?_)
    refine JL_s (w_store (l' := [_, _, _]) Try.sizeOf25) (k := ?_)
    refine JL_nil ?_
    refine JX_block ?_
    refine JX_seq ?_
    refine J_reg ?_
    refine JL_q (q_move) (k := ?_)
    refine JL_q (q_add) (k := ?_)
    refine JL_q (q_assign) (k := ?_)
    refine JL_nil ?_
    refine JX_permL (B_6 ++ ((r3, Obj.cells [(Value.slice (a1_6) ((giveD ((takeD x_2 x_3 x_4).1).1 ((takeD x_2 x_3 x_4).1).2.1 ((takeD x_2 x_3 x_4).1).2.2 ((takeD x_2 x_3 x_4).2.1).1 ((takeD x_2 x_3 x_4).2.1).2).1.1.length) (c1_6)), (Value.slice (a2_6) ((giveD ((takeD x_2 x_3 x_4).1).1 ((takeD x_2 x_3 x_4).1).2.1 ((takeD x_2 x_3 x_4).1).2.2 ((takeD x_2 x_3 x_4).2.1).1 ((takeD x_2 x_3 x_4).2.1).2).1.2.1.length) (c2_6)), (Value.slice (a3_6) ((giveD ((takeD x_2 x_3 x_4).1).1 ((takeD x_2 x_3 x_4).1).2.1 ((takeD x_2 x_3 x_4).1).2.2 ((takeD x_2 x_3 x_4).2.1).1 ((takeD x_2 x_3 x_4).2.1).2).1.2.2.length) (c3_6))].toArray 25) :: ((r2, Obj.cells [(Value.int .i64 (h.1)), (Value.int .i64 (h.2))].toArray 27) :: ((r1, Obj.cells [(Value.slice (s_1_a) ((s.1.take 66).length) (s_1_c)), (Value.slice (s_2_1_a) ((s.2.1.take 66).length) (s_2_1_c)), (Value.slice (s_2_2_a) ((s.2.2.take 66).length) (s_2_2_c))].toArray 25) :: ((r6, Obj.cells [(Value.slice (a1_6) ((giveD ((takeD x_2 x_3 x_4).1).1 ((takeD x_2 x_3 x_4).1).2.1 ((takeD x_2 x_3 x_4).1).2.2 ((takeD x_2 x_3 x_4).2.1).1 ((takeD x_2 x_3 x_4).2.1).2).1.1.length) (c1_6)), (Value.slice (a2_6) ((giveD ((takeD x_2 x_3 x_4).1).1 ((takeD x_2 x_3 x_4).1).2.1 ((takeD x_2 x_3 x_4).1).2.2 ((takeD x_2 x_3 x_4).2.1).1 ((takeD x_2 x_3 x_4).2.1).2).1.2.1.length) (c2_6)), (Value.slice (a3_6) ((giveD ((takeD x_2 x_3 x_4).1).1 ((takeD x_2 x_3 x_4).1).2.1 ((takeD x_2 x_3 x_4).1).2.2 ((takeD x_2 x_3 x_4).2.1).1 ((takeD x_2 x_3 x_4).2.1).2).1.2.2.length) (c3_6))].toArray 25) :: ((r5, Obj.cells [(Value.int .i64 (((takeD x_2 x_3 x_4).2.1.1))), (Value.int .i64 (((takeD x_2 x_3 x_4).2.1.2)))].toArray 27) :: ((r4, Obj.cells [(Value.slice (a1_5) ((takeD x_2 x_3 x_4).1.1.length) (c1_5)), (Value.slice (a2_5) ((takeD x_2 x_3 x_4).1.2.1.length) (c2_5)), (Value.slice (a3_5) ((takeD x_2 x_3 x_4).1.2.2.length) (c3_5))].toArray 25) :: (B_5 ++ (x_2B ++ []))))))))) (((((List.Perm.cons _ ((List.Perm.append_left _ ((List.Perm.cons _ ((List.Perm.cons _ ((List.Perm.append_left _ ((List.Perm.append_left _ ((List.Perm.cons _ ((List.Perm.cons _ (List.Perm.refl _)).trans (List.Perm.swap _ _ _))).trans (List.Perm.swap _ _ _))).trans List.perm_middle)).trans List.perm_middle)).trans (List.Perm.swap _ _ _))).trans (List.Perm.swap _ _ _))).trans List.perm_middle)).trans (List.Perm.swap _ _ _)).trans ((List.Perm.cons _ ((List.Perm.cons _ ((List.Perm.append_left _ ((List.Perm.cons _ ((List.Perm.cons _ ((List.Perm.append_left _ ((List.Perm.append_left _ ((List.Perm.cons _ (List.Perm.refl _)).trans (List.Perm.swap _ _ _))).trans List.perm_middle)).trans List.perm_middle)).trans (List.Perm.swap _ _ _))).trans (List.Perm.swap _ _ _))).trans List.perm_middle)).trans (List.Perm.swap _ _ _))).trans (List.Perm.swap _ _ _))).trans ((List.Perm.cons _ ((List.Perm.cons _ ((List.Perm.cons _ ((List.Perm.append_left _ ((List.Perm.cons _ ((List.Perm.cons _ ((List.Perm.append_left _ ((List.Perm.append_left _ (List.Perm.refl _)).trans List.perm_middle)).trans List.perm_middle)).trans (List.Perm.swap _ _ _))).trans (List.Perm.swap _ _ _))).trans List.perm_middle)).trans (List.Perm.swap _ _ _))).trans (List.Perm.swap _ _ _))).trans (List.Perm.swap _ _ _))).trans ((List.Perm.cons _ ((List.Perm.cons _ ((List.Perm.cons _ ((List.Perm.cons _ (List.Perm.refl _)).trans List.perm_middle.symm)).trans List.perm_middle.symm)).trans List.perm_middle.symm)).trans List.perm_middle.symm)) ?_
    refine JX_subL (B_6 ++ ((r3, Obj.cells [(Value.slice (a1_6) ((giveD ((takeD x_2 x_3 x_4).1).1 ((takeD x_2 x_3 x_4).1).2.1 ((takeD x_2 x_3 x_4).1).2.2 ((takeD x_2 x_3 x_4).2.1).1 ((takeD x_2 x_3 x_4).2.1).2).1.1.length) (c1_6)), (Value.slice (a2_6) ((giveD ((takeD x_2 x_3 x_4).1).1 ((takeD x_2 x_3 x_4).1).2.1 ((takeD x_2 x_3 x_4).1).2.2 ((takeD x_2 x_3 x_4).2.1).1 ((takeD x_2 x_3 x_4).2.1).2).1.2.1.length) (c2_6)), (Value.slice (a3_6) ((giveD ((takeD x_2 x_3 x_4).1).1 ((takeD x_2 x_3 x_4).1).2.1 ((takeD x_2 x_3 x_4).1).2.2 ((takeD x_2 x_3 x_4).2.1).1 ((takeD x_2 x_3 x_4).2.1).2).1.2.2.length) (c3_6))].toArray 25) :: ((r2, Obj.cells [(Value.int .i64 (h.1)), (Value.int .i64 (h.2))].toArray 27) :: ((r1, Obj.cells [(Value.slice (s_1_a) ((s.1.take 66).length) (s_1_c)), (Value.slice (s_2_1_a) ((s.2.1.take 66).length) (s_2_1_c)), (Value.slice (s_2_2_a) ((s.2.2.take 66).length) (s_2_2_c))].toArray 25) :: [])))) (List.Sublist.append (List.Sublist.refl _) (List.Sublist.cons_cons _ (List.Sublist.cons_cons _ (List.Sublist.cons_cons _ (List.nil_sublist _))))) ?_
    exact JX_inv12 n_5 (i_1 + 1) ((giveD ((takeD x_2 x_3 x_4).1).1 ((takeD x_2 x_3 x_4).1).2.1 ((takeD x_2 x_3 x_4).1).2.2 ((takeD x_2 x_3 x_4).2.1).1 ((takeD x_2 x_3 x_4).2.1).2).1.1) a1_6 c1_6 ((giveD ((takeD x_2 x_3 x_4).1).1 ((takeD x_2 x_3 x_4).1).2.1 ((takeD x_2 x_3 x_4).1).2.2 ((takeD x_2 x_3 x_4).2.1).1 ((takeD x_2 x_3 x_4).2.1).2).1.2.1) a2_6 c2_6 ((giveD ((takeD x_2 x_3 x_4).1).1 ((takeD x_2 x_3 x_4).1).2.1 ((takeD x_2 x_3 x_4).1).2.2 ((takeD x_2 x_3 x_4).2.1).1 ((takeD x_2 x_3 x_4).2.1).2).1.2.2) a3_6 c3_6 B_6 ⟨by omega, (((((((((hF6.pos hq6).f hq7).f hq8).pos hq9).neg hq10).pos hq11).pos hq12).pos hq13).neg hq14), (SlG.mono (SlG.of_slb hs1_6)), (SlG.mono (SlG.of_slb hs2_6)), (SlG.mono (SlG.of_slb hs3_6)), (by omega), (by omega)⟩ (Nat.lt_succ_self _) (by repeat (first | exact SubE.nil | refine SubE.cons rfl ?_)) (List.Perm.of_eq (by first | rfl | simp only [List.append_assoc, List.cons_append, List.nil_append]))

theorem lSlotsNew_ok (w : World) {n_ : Int} : Val Try.prog 7 [(Value.int .i64 (n_))] w (Value.bool ((lSlotsNew n_))) := by
  have hF := Is.refl (lSlotsNew n_)
  refine enter Try.func7 Try.ntmps7 (h := ?_)
  refine J_seq ?_
  refine J_reg ?_
  refine JL_q (q_assign) (k := ?_)
  refine JL_nil ?_
  refine JX_seq ?_
  refine J_seq ?_
  refine J_reg ?_
  refine JL_v (args := []) (c_callA Try.call9) (fun w1 hw1 => sshown_ok w1 ) (k := ?_)
  refine JL_q (q_assign) (k := ?_)
  refine JL_nil ?_
  refine JX_seq ?_
  refine J_seq ?_
  refine J_reg ?_
  refine JL_q (q_move) (k := ?_)
  refine JL_p (args := [(Value.int .i64 (n_))]) (c_callA Try.call19) (fun w1 hw1 => sNew_ok w1 (n_ := n_)) (k := ?_)
  rintro w1_1 e1_1 w2_1 hw1_1 ⟨a1_1, c1_1, a2_1, c2_1, a3_1, c3_1, B_1, he_1, hf_1, hs1_1, hs2_1, hs3_1⟩
  refine ⟨_, (B_1 ++ []), he_1, hw1_1.fresh hf_1, ?_⟩
  have hnl_34829 := newD_len n_
  refine JL_q (q_move) (k := ?_)
  refine JL_q (q_ext) (k := ?_)
  refine JL_q (q_ext) (k := ?_)
  refine JL_a noMk (a_alloc (l := [_, _, _]) Try.zeroValue25) (k := fun r1 hr1 => ?_)
  refine JL_s (w_store (l' := [_, _, _]) Try.sizeOf25) (k := ?_)
  refine JL_q (q_assign) (k := ?_)
  refine JL_nil ?_
  refine JX_seq ?_
  refine J_seq ?_
  refine J_seq ?_
  refine J_reg ?_
  refine JL_q (q_move) (k := ?_)
  refine JL_q (q_neq) (k := ?_)
  refine JL_nil ?_
  refine JX_seq ?_
  refine J_dec rfl (fun hq1 => ?_) (fun hq1 => ?_)
  · refine J_seq ?_
    refine J_reg ?_
    refine JL_q (q_move) (k := ?_)
    refine JL_q (q_move) (k := ?_)
    refine JL_bool 22 rfl (fun hq2 => ?_) (fun hq2 => ?_)
    rotate_left
    · refine JL_skips 2 rfl ?_
      refine JL_q (q_pickF) (k := ?_)
      refine JL_q (q_move) (k := ?_)
      refine JL_skips 3 rfl ?_
      refine JL_q (q_pickF) (k := ?_)
      refine JL_q (q_assign) (k := ?_)
      refine JL_nil ?_
      refine JX_seq ?_
      refine J_ret ?_
      refine JX_seq_ret ?_
      refine JX_ret Try.results7 (Res.tmp rfl Res.nil) (fun w1 hw1 => ?_)
      exact ⟨(by rw [(((hF.pos hq1).f hq2)).eq] <;> first | rfl | (simp only [List.length_set] <;> rfl)), hw1.ext_out⟩
    refine JL_qg (q_move) (k := ?_)
    refine JL_qg (q_eql) (k := ?_)
    refine JL_q (q_pickT) (k := ?_)
    refine JL_q (q_move) (k := ?_)
    refine JL_dec 26 rfl (fun hq3 => ?_) (fun hq3 => ?_)
    rotate_left
    · refine JL_skips 3 rfl ?_
      refine JL_q (q_pickF) (k := ?_)
      refine JL_q (q_assign) (k := ?_)
      refine JL_nil ?_
      refine JX_seq ?_
      refine J_ret ?_
      refine JX_seq_ret ?_
      refine JX_ret Try.results7 (Res.tmp rfl Res.nil) (fun w1 hw1 => ?_)
      exact ⟨(by rw [((((hF.pos hq1).t hq2).neg hq3)).eq] <;> first | rfl | (simp only [List.length_set] <;> rfl)), hw1.ext_out⟩
    refine JL_qg (q_loadA Try.isAgg25 Try.sizeOf25) (k := ?_)
    refine JL_vg (args := [(Value.agg [(Value.slice (a1_1) ((newD n_).1.1.length) (c1_1)), (Value.slice (a2_1) ((newD n_).1.2.1.length) (c2_1)), (Value.slice (a3_1) ((newD n_).1.2.2.length) (c3_1))].toArray)]) (c_callA Try.call16) (fun w1 hw1 => sRight_ok w1 (s := (newD n_).1) (h_s_1 := (SlB.slj hs1_1) w1 hw1) (n_s_1 := by first | omega | (simp only [List.length_append, List.length_take, List.length_drop, List.length_set, List.length_replicate, List.length_cons, List.length_nil, List.length_map]; omega) | (simp only [List.length_append, List.length_take, List.length_drop, List.length_set, List.length_replicate, List.length_cons, List.length_nil, List.length_map] at *; omega) | decide) (h_s_2_1 := (SlB.slj hs2_1) w1 hw1) (n_s_2_1 := by first | omega | (simp only [List.length_append, List.length_take, List.length_drop, List.length_set, List.length_replicate, List.length_cons, List.length_nil, List.length_map]; omega) | (simp only [List.length_append, List.length_take, List.length_drop, List.length_set, List.length_replicate, List.length_cons, List.length_nil, List.length_map] at *; omega) | decide) (h_s_2_2 := (SlB.slj hs3_1) w1 hw1) (n_s_2_2 := by first | omega | (simp only [List.length_append, List.length_take, List.length_drop, List.length_set, List.length_replicate, List.length_cons, List.length_nil, List.length_map]; omega) | (simp only [List.length_append, List.length_take, List.length_drop, List.length_set, List.length_replicate, List.length_cons, List.length_nil, List.length_map] at *; omega) | decide)) (k := ?_)
    refine JL_qg (q_not) (k := ?_)
    refine JL_q (q_pickT) (k := ?_)
    refine JL_q (q_assign) (k := ?_)
    refine JL_nil ?_
    refine JX_seq ?_
    refine J_ret ?_
    refine JX_seq_ret ?_
    refine JX_ret Try.results7 (Res.tmp rfl Res.nil) (fun w1 hw1 => ?_)
    exact ⟨(by rw [((((hF.pos hq1).t hq2).pos hq3)).eq] <;> first | rfl | (simp only [List.length_set] <;> rfl)), hw1.ext_out⟩
  refine J_skip ?_
  refine JX_seq ?_
  refine J_seq ?_
  refine J_seq ?_
  refine J_reg ?_
  refine JL_q (q_assign) (k := ?_)
  refine JL_nil ?_
  refine JX_seq ?_
  refine J_block ?_
  refine J_permL (B_1 ++ ((r1, Obj.cells [(Value.slice (a1_1) ((newD n_).1.1.length) (c1_1)), (Value.slice (a2_1) ((newD n_).1.2.1.length) (c2_1)), (Value.slice (a3_1) ((newD n_).1.2.2.length) (c3_1))].toArray 25) :: [])) ((List.Perm.refl _).trans ((List.Perm.cons _ (List.Perm.refl _)).trans List.perm_middle.symm)) ?_
  refine J_loop12 (σ1 := Nat) (σ2 := Nat) (σ3 := List Int) (σ4 := Option Addr) (σ5 := Nat) (σ6 := List Bool) (σ7 := Option Addr) (σ8 := Nat) (σ9 := List Int) (σ10 := Option Addr) (σ11 := Nat) (σ12 := Heap) (fun n_5 i_1 x_2 x_2a x_2c x_3 x_3a x_3c x_4 x_4a x_4c x_2B => (x_2B ++ ((r1, Obj.cells [(Value.slice (x_2a) (x_2.length) (x_2c)), (Value.slice (x_3a) (x_3.length) (x_3c)), (Value.slice (x_4a) (x_4.length) (x_4c))].toArray 25) :: []))) (fun n_5 i_1 x_2 x_2a x_2c x_3 x_3a x_3c x_4 x_4a x_4c x_2B => [(0, (Value.int .i64 (n_))), (2, (Value.bool (false))), (3, (Value.bool ((true)))), (4, (Value.pointer (some ⟨r1, 0, none⟩))), (6, (Value.int .i64 (((i_1 : Nat) : Int))))]) (fun n_5 i_1 x_2 x_2a x_2c x_3 x_3a x_3c x_4 x_4a x_4c x_2B => (n_ - ((i_1 : Nat) : Int)).toNat < n_5 ∧ Is (lSlotsNew_l0 n_ ((n_ - ((0 : Nat) : Int)).toNat + 1) 0 ((newD n_).1.1) ((newD n_).1.2.1) ((newD n_).1.2.2)) (lSlotsNew_l0 n_ n_5 i_1 x_2 x_3 x_4) ∧ SlG w x_2B eI 1 x_2a x_2 ∧ SlG w x_2B eB 1 x_3a x_3 ∧ SlG w x_2B eI 1 x_4a x_4 ∧ x_2.length ≤ 70 ∧ x_3.length ≤ 70 ∧ x_4.length ≤ 70) (fun n_5 i_1 x_2 x_2a x_2c x_3 x_3a x_3c x_4 x_4a x_4c x_2B => n_5) ((n_ - ((0 : Nat) : Int)).toNat + 1) 0 ((newD n_).1.1) a1_1 c1_1 ((newD n_).1.2.1) a2_1 c2_1 ((newD n_).1.2.2) a3_1 c3_1 B_1 ?_ (by repeat (first | exact SubE.nil | refine SubE.cons rfl ?_)) (List.Perm.of_eq (by first | rfl | simp only [List.append_assoc, List.cons_append, List.nil_append])) ?_
  · exact ⟨Nat.lt_succ_self _, Is.refl _, (SlG.mono (SlG.of_slb hs1_1)), (SlG.mono (SlG.of_slb hs2_1)), (SlG.mono (SlG.of_slb hs3_1)), (by omega)⟩
  · rintro (_ | n_5) i_1 x_2 x_2a x_2c x_3 x_3a x_3c x_4 x_4a x_4c x_2B ⟨hm7, hF6, hx_2, hx_3, hx_4, hi8⟩
    · omega
    refine J_seq ?_
    refine J_seq ?_
    refine J_reg ?_
    refine JL_q (q_move) (k := ?_)
    refine JL_q (q_move) (k := ?_)
    refine JL_q (q_lss) (k := ?_)
    refine JL_q (q_move) (k := ?_)
    refine JL_dec 34 rfl (fun hq4 => ?_) (fun hq4 => ?_)
    rotate_left
    · refine JL_skips 2 rfl ?_
      refine JL_q (q_pickF) (k := ?_)
      refine JL_nil ?_
      refine JX_seq ?_
      refine J_false rfl ?_
      refine J_exit ?_
      refine JX_seq_exit ?_
      refine JX_inv_exit ?_
      refine JX_block_hit ?_
      refine JX_seq ?_
      refine J_seq ?_
      refine J_reg ?_
      refine JL_q (q_loadA Try.isAgg25 Try.sizeOf25) (k := ?_)
      refine JL_p (args := [(Value.agg [(Value.slice (x_2a) (x_2.length) (x_2c)), (Value.slice (x_3a) (x_3.length) (x_3c)), (Value.slice (x_4a) (x_4.length) (x_4c))].toArray)]) (c_callA Try.call11) (fun w1 hw1 => sTake_ok w1 (s := (x_2, x_3, x_4)) (h_s_1 := (SlG.slj hx_2) w1 hw1) (n_s_1 := by first | omega | (simp only [List.length_append, List.length_take, List.length_drop, List.length_set, List.length_replicate, List.length_cons, List.length_nil, List.length_map]; omega) | (simp only [List.length_append, List.length_take, List.length_drop, List.length_set, List.length_replicate, List.length_cons, List.length_nil, List.length_map] at *; omega) | decide) (h_s_2_1 := (SlG.slj hx_3) w1 hw1) (n_s_2_1 := by first | omega | (simp only [List.length_append, List.length_take, List.length_drop, List.length_set, List.length_replicate, List.length_cons, List.length_nil, List.length_map]; omega) | (simp only [List.length_append, List.length_take, List.length_drop, List.length_set, List.length_replicate, List.length_cons, List.length_nil, List.length_map] at *; omega) | decide) (h_s_2_2 := (SlG.slj hx_4) w1 hw1) (n_s_2_2 := by first | omega | (simp only [List.length_append, List.length_take, List.length_drop, List.length_set, List.length_replicate, List.length_cons, List.length_nil, List.length_map]; omega) | (simp only [List.length_append, List.length_take, List.length_drop, List.length_set, List.length_replicate, List.length_cons, List.length_nil, List.length_map] at *; omega) | decide)) (k := ?_)
      rintro w1_8 e1_8 w2_8 hw1_8 ⟨a1_8, c1_8, a2_8, c2_8, a3_8, c3_8, B_8, he_8, hf_8, hs1_8, hs2_8, hs3_8⟩
      refine ⟨_, (B_8 ++ (x_2B ++ ((r1, Obj.cells [(Value.slice (x_2a) (x_2.length) (x_2c)), (Value.slice (x_3a) (x_3.length) (x_3c)), (Value.slice (x_4a) (x_4.length) (x_4c))].toArray 25) :: []))), he_8, hw1_8.fresh hf_8, ?_⟩
      have htl_99143 := takeD_len x_2 x_3 x_4
      refine JL_q (q_move) (k := ?_)
      refine JL_q (q_ext) (k := ?_)
      refine JL_q (q_ext) (k := ?_)
      refine JL_q (q_ext) (k := ?_)
      refine JL_a noMk (a_alloc (l := [_, _, _]) Try.zeroValue25) (k := fun r6 hr6 => ?_)
      refine JL_a noMk (a_alloc (l := [_, _]) Try.zeroValue27) (k := fun r7 hr7 => ?_)
      refine JL_s (w_store (l' := [_, _, _]) Try.sizeOf25) (k := ?_)
      refine JL_s (w_store (l' := [_, _]) Try.sizeOf27) (k := ?_)
      refine JL_q (q_assign) (k := ?_)
      refine JL_nil ?_
      refine JX_seq ?_
      refine J_seq ?_
      refine J_reg ?_
      refine JL_q (q_move) (k := ?_)
      refine JL_q (q_move) (k := ?_)
      refine JL_bool 75 rfl (fun hq12 => ?_) (fun hq12 => ?_)
      rotate_left
      · refine JL_skips 2 rfl ?_
        refine JL_q (q_pickF) (k := ?_)
        refine JL_q (q_move) (k := ?_)
        refine JL_skips 2 rfl ?_
        refine JL_q (q_pickF) (k := ?_)
        refine JL_q (q_assign) (k := ?_)
        refine JL_nil ?_
        refine JX_seq ?_
        refine J_ret ?_
        refine JX_ret Try.results7 (Res.tmp rfl Res.nil) (fun w1 hw1 => ?_)
        exact ⟨(by rw [((((hF.neg hq1).ok4 (hF6.neg hq4)).f hq12)).eq] <;> first | rfl | (simp only [List.length_set] <;> rfl)), hw1.ext_out⟩
      refine JL_qg (q_move) (k := ?_)
      refine JL_qg (q_leq) (k := ?_)
      refine JL_q (q_pickT) (k := ?_)
      refine JL_q (q_move) (k := ?_)
      refine JL_dec 79 rfl (fun hq13 => ?_) (fun hq13 => ?_)
      rotate_left
      · refine JL_skips 2 rfl ?_
        refine JL_q (q_pickF) (k := ?_)
        refine JL_q (q_assign) (k := ?_)
        refine JL_nil ?_
        refine JX_seq ?_
        refine J_ret ?_
        refine JX_ret Try.results7 (Res.tmp rfl Res.nil) (fun w1 hw1 => ?_)
        exact ⟨(by rw [(((((hF.neg hq1).ok4 (hF6.neg hq4)).t hq12).neg hq13)).eq] <;> first | rfl | (simp only [List.length_set] <;> rfl)), hw1.ext_out⟩
      refine JL_qg (q_move) (k := ?_)
      refine JL_qg (q_eql) (k := ?_)
      refine JL_q (q_pickT) (k := ?_)
      refine JL_q (q_assign) (k := ?_)
      refine JL_nil ?_
      refine JX_seq ?_
      refine J_ret ?_
      refine JX_ret Try.results7 (Res.tmp rfl Res.nil) (fun w1 hw1 => ?_)
      exact ⟨(by rw [(((((hF.neg hq1).ok4 (hF6.neg hq4)).t hq12).pos hq13)).eq] <;> first | rfl | (simp only [List.length_set] <;> rfl)), hw1.ext_out⟩
    refine JL_qg (q_move) (k := ?_)
    refine JL_qg (q_lss) (k := ?_)
    refine JL_q (q_pickT) (k := ?_)
    refine JL_nil ?_
    refine JX_seq ?_
    refine J_dec rfl (fun hq5 => ?_) (fun hq5 => ?_)
    rotate_left
    · refine J_exit ?_
      refine JX_seq_exit ?_
      refine JX_inv_exit ?_
      refine JX_block_hit ?_
      refine JX_seq ?_
      refine J_seq ?_
      refine J_reg ?_
      refine JL_q (q_loadA Try.isAgg25 Try.sizeOf25) (k := ?_)
      refine JL_p (args := [(Value.agg [(Value.slice (x_2a) (x_2.length) (x_2c)), (Value.slice (x_3a) (x_3.length) (x_3c)), (Value.slice (x_4a) (x_4.length) (x_4c))].toArray)]) (c_callA Try.call11) (fun w1 hw1 => sTake_ok w1 (s := (x_2, x_3, x_4)) (h_s_1 := (SlG.slj hx_2) w1 hw1) (n_s_1 := by first | omega | (simp only [List.length_append, List.length_take, List.length_drop, List.length_set, List.length_replicate, List.length_cons, List.length_nil, List.length_map]; omega) | (simp only [List.length_append, List.length_take, List.length_drop, List.length_set, List.length_replicate, List.length_cons, List.length_nil, List.length_map] at *; omega) | decide) (h_s_2_1 := (SlG.slj hx_3) w1 hw1) (n_s_2_1 := by first | omega | (simp only [List.length_append, List.length_take, List.length_drop, List.length_set, List.length_replicate, List.length_cons, List.length_nil, List.length_map]; omega) | (simp only [List.length_append, List.length_take, List.length_drop, List.length_set, List.length_replicate, List.length_cons, List.length_nil, List.length_map] at *; omega) | decide) (h_s_2_2 := (SlG.slj hx_4) w1 hw1) (n_s_2_2 := by first | omega | (simp only [List.length_append, List.length_take, List.length_drop, List.length_set, List.length_replicate, List.length_cons, List.length_nil, List.length_map]; omega) | (simp only [List.length_append, List.length_take, List.length_drop, List.length_set, List.length_replicate, List.length_cons, List.length_nil, List.length_map] at *; omega) | decide)) (k := ?_)
      rintro w1_7 e1_7 w2_7 hw1_7 ⟨a1_7, c1_7, a2_7, c2_7, a3_7, c3_7, B_7, he_7, hf_7, hs1_7, hs2_7, hs3_7⟩
      refine ⟨_, (B_7 ++ (x_2B ++ ((r1, Obj.cells [(Value.slice (x_2a) (x_2.length) (x_2c)), (Value.slice (x_3a) (x_3.length) (x_3c)), (Value.slice (x_4a) (x_4.length) (x_4c))].toArray 25) :: []))), he_7, hw1_7.fresh hf_7, ?_⟩
      have htl_99143 := takeD_len x_2 x_3 x_4
      refine JL_q (q_move) (k := ?_)
      refine JL_q (q_ext) (k := ?_)
      refine JL_q (q_ext) (k := ?_)
      refine JL_q (q_ext) (k := ?_)
      refine JL_a noMk (a_alloc (l := [_, _, _]) Try.zeroValue25) (k := fun r4 hr4 => ?_)
      refine JL_a noMk (a_alloc (l := [_, _]) Try.zeroValue27) (k := fun r5 hr5 => ?_)
      refine JL_s (w_store (l' := [_, _, _]) Try.sizeOf25) (k := ?_)
      refine JL_s (w_store (l' := [_, _]) Try.sizeOf27) (k := ?_)
      refine JL_q (q_assign) (k := ?_)
      refine JL_nil ?_
      refine JX_seq ?_
      refine J_seq ?_
      refine J_reg ?_
      refine JL_q (q_move) (k := ?_)
      refine JL_q (q_move) (k := ?_)
      refine JL_bool 75 rfl (fun hq10 => ?_) (fun hq10 => ?_)
      rotate_left
      · refine JL_skips 2 rfl ?_
        refine JL_q (q_pickF) (k := ?_)
        refine JL_q (q_move) (k := ?_)
        refine JL_skips 2 rfl ?_
        refine JL_q (q_pickF) (k := ?_)
        refine JL_q (q_assign) (k := ?_)
        refine JL_nil ?_
        refine JX_seq ?_
        refine J_ret ?_
        refine JX_ret Try.results7 (Res.tmp rfl Res.nil) (fun w1 hw1 => ?_)
        exact ⟨(by rw [((((hF.neg hq1).ok4 ((hF6.pos hq4).neg hq5)).f hq10)).eq] <;> first | rfl | (simp only [List.length_set] <;> rfl)), hw1.ext_out⟩
      refine JL_qg (q_move) (k := ?_)
      refine JL_qg (q_leq) (k := ?_)
      refine JL_q (q_pickT) (k := ?_)
      refine JL_q (q_move) (k := ?_)
      refine JL_dec 79 rfl (fun hq11 => ?_) (fun hq11 => ?_)
      rotate_left
      · refine JL_skips 2 rfl ?_
        refine JL_q (q_pickF) (k := ?_)
        refine JL_q (q_assign) (k := ?_)
        refine JL_nil ?_
        refine JX_seq ?_
        refine J_ret ?_
        refine JX_ret Try.results7 (Res.tmp rfl Res.nil) (fun w1 hw1 => ?_)
        exact ⟨(by rw [(((((hF.neg hq1).ok4 ((hF6.pos hq4).neg hq5)).t hq10).neg hq11)).eq] <;> first | rfl | (simp only [List.length_set] <;> rfl)), hw1.ext_out⟩
      refine JL_qg (q_move) (k := ?_)
      refine JL_qg (q_eql) (k := ?_)
      refine JL_q (q_pickT) (k := ?_)
      refine JL_q (q_assign) (k := ?_)
      refine JL_nil ?_
      refine JX_seq ?_
      refine J_ret ?_
      refine JX_ret Try.results7 (Res.tmp rfl Res.nil) (fun w1 hw1 => ?_)
      exact ⟨(by rw [(((((hF.neg hq1).ok4 ((hF6.pos hq4).neg hq5)).t hq10).pos hq11)).eq] <;> first | rfl | (simp only [List.length_set] <;> rfl)), hw1.ext_out⟩
    refine J_skip ?_
    refine JX_seq ?_
    refine J_seq ?_
    refine J_block ?_
    refine J_seq ?_
    refine J_reg ?_
    refine JL_q (q_loadA Try.isAgg25 Try.sizeOf25) (k := ?_)
    refine JL_p (args := [(Value.agg [(Value.slice (x_2a) (x_2.length) (x_2c)), (Value.slice (x_3a) (x_3.length) (x_3c)), (Value.slice (x_4a) (x_4.length) (x_4c))].toArray)]) (c_callA Try.call11) (fun w1 hw1 => sTake_ok w1 (s := (x_2, x_3, x_4)) (h_s_1 := (SlG.slj hx_2) w1 hw1) (n_s_1 := by first | omega | (simp only [List.length_append, List.length_take, List.length_drop, List.length_set, List.length_replicate, List.length_cons, List.length_nil, List.length_map]; omega) | (simp only [List.length_append, List.length_take, List.length_drop, List.length_set, List.length_replicate, List.length_cons, List.length_nil, List.length_map] at *; omega) | decide) (h_s_2_1 := (SlG.slj hx_3) w1 hw1) (n_s_2_1 := by first | omega | (simp only [List.length_append, List.length_take, List.length_drop, List.length_set, List.length_replicate, List.length_cons, List.length_nil, List.length_map]; omega) | (simp only [List.length_append, List.length_take, List.length_drop, List.length_set, List.length_replicate, List.length_cons, List.length_nil, List.length_map] at *; omega) | decide) (h_s_2_2 := (SlG.slj hx_4) w1 hw1) (n_s_2_2 := by first | omega | (simp only [List.length_append, List.length_take, List.length_drop, List.length_set, List.length_replicate, List.length_cons, List.length_nil, List.length_map]; omega) | (simp only [List.length_append, List.length_take, List.length_drop, List.length_set, List.length_replicate, List.length_cons, List.length_nil, List.length_map] at *; omega) | decide)) (k := ?_)
    rintro w1_5 e1_5 w2_5 hw1_5 ⟨a1_5, c1_5, a2_5, c2_5, a3_5, c3_5, B_5, he_5, hf_5, hs1_5, hs2_5, hs3_5⟩
    refine ⟨_, (B_5 ++ (x_2B ++ ((r1, Obj.cells [(Value.slice (x_2a) (x_2.length) (x_2c)), (Value.slice (x_3a) (x_3.length) (x_3c)), (Value.slice (x_4a) (x_4.length) (x_4c))].toArray 25) :: []))), he_5, hw1_5.fresh hf_5, ?_⟩
    have htl_99143 := takeD_len x_2 x_3 x_4
    refine JL_q (q_move) (k := ?_)
    refine JL_q (q_ext) (k := ?_)
    refine JL_q (q_ext) (k := ?_)
    refine JL_q (q_ext) (k := ?_)
    refine JL_a noMk (a_alloc (l := [_, _, _]) Try.zeroValue25) (k := fun r2 hr2 => ?_)
    refine JL_a noMk (a_alloc (l := [_, _]) Try.zeroValue27) (k := fun r3 hr3 => ?_)
    refine JL_s (w_store (l' := [_, _, _]) Try.sizeOf25) (k := ?_)
    refine JL_s (w_store (l' := [_, _]) Try.sizeOf27) (k := ?_)
    refine JL_q (q_assign) (k := ?_)
    refine JL_nil ?_
    refine JX_seq ?_
    refine J_seq ?_
    refine J_seq ?_
    refine J_reg ?_
    refine JL_q (q_move) (k := ?_)
    refine JL_q (q_neq) (k := ?_)
    refine JL_q (q_move) (k := ?_)
    refine JL_dec 48 rfl (fun hq6 => ?_) (fun hq6 => ?_)
    · refine JL_skips 4 rfl ?_
      refine JL_q (q_pickT) (k := ?_)
      refine JL_q (q_move) (k := ?_)
      refine JL_skips 3 rfl ?_
      refine JL_q (q_pickT) (k := ?_)
      refine JL_q (q_move) (k := ?_)
      refine JL_skips 6 rfl ?_
      refine JL_q (q_pickT) (k := ?_)
      refine JL_nil ?_
      refine JX_seq ?_
      refine J_true rfl ?_
      refine J_seq ?_
      refine J_reg ?_
      refine JL_q (q_assign) (k := ?_)
      refine JL_nil ?_
      refine JX_seq ?_
      refine J_ret ?_
      refine JX_seq_ret ?_
      refine JX_block_ret ?_
      refine JX_seq_ret ?_
      refine JX_inv_ret ?_
      refine JX_block_ret ?_
      refine JX_seq_ret ?_
      refine JX_ret Try.results7 (Res.tmp rfl Res.nil) (fun w1 hw1 => ?_)
      exact ⟨(by rw [(((hF.neg hq1).er4 (((hF6.pos hq4).pos hq5).pos hq6))).eq] <;> first | rfl | (simp only [List.length_set] <;> rfl)), hw1.ext_out⟩
    refine JL_qg (q_fld FO_27_0) (k := ?_)
    refine JL_qg (q_load Try.isAgg3) (k := ?_)
    refine JL_qg (q_move) (k := ?_)
    refine JL_qg (q_neq) (k := ?_)
    refine JL_q (q_pickF) (k := ?_)
    refine JL_q (q_move) (k := ?_)
    refine JL_dec 54 rfl (fun hq7 => ?_) (fun hq7 => ?_)
    · refine JL_skips 3 rfl ?_
      refine JL_q (q_pickT) (k := ?_)
      refine JL_q (q_move) (k := ?_)
      refine JL_skips 6 rfl ?_
      refine JL_q (q_pickT) (k := ?_)
      refine JL_nil ?_
      refine JX_seq ?_
      refine J_true rfl ?_
      refine J_seq ?_
      refine J_reg ?_
      refine JL_q (q_assign) (k := ?_)
      refine JL_nil ?_
      refine JX_seq ?_
      refine J_ret ?_
      refine JX_seq_ret ?_
      refine JX_block_ret ?_
      refine JX_seq_ret ?_
      refine JX_inv_ret ?_
      refine JX_block_ret ?_
      refine JX_seq_ret ?_
      refine JX_ret Try.results7 (Res.tmp rfl Res.nil) (fun w1 hw1 => ?_)
      exact ⟨(by rw [(((hF.neg hq1).er4 ((((hF6.pos hq4).pos hq5).neg hq6).pos hq7))).eq] <;> first | rfl | (simp only [List.length_set] <;> rfl)), hw1.ext_out⟩
    refine JL_qg (q_fld FO_27_1) (k := ?_)
    refine JL_qg (q_load Try.isAgg3) (k := ?_)
    refine JL_qg (q_neq) (k := ?_)
    refine JL_q (q_pickF) (k := ?_)
    refine JL_q (q_move) (k := ?_)
    refine JL_dec 59 rfl (fun hq8 => ?_) (fun hq8 => ?_)
    · refine JL_skips 6 rfl ?_
      refine JL_q (q_pickT) (k := ?_)
      refine JL_nil ?_
      refine JX_seq ?_
      refine J_true rfl ?_
      refine J_seq ?_
      refine J_reg ?_
      refine JL_q (q_assign) (k := ?_)
      refine JL_nil ?_
      refine JX_seq ?_
      refine J_ret ?_
      refine JX_seq_ret ?_
      refine JX_block_ret ?_
      refine JX_seq_ret ?_
      refine JX_inv_ret ?_
      refine JX_block_ret ?_
      refine JX_seq_ret ?_
      refine JX_ret Try.results7 (Res.tmp rfl Res.nil) (fun w1 hw1 => ?_)
      exact ⟨(by rw [(((hF.neg hq1).er4 (((((hF6.pos hq4).pos hq5).neg hq6).neg hq7).pos hq8))).eq] <;> first | rfl | (simp only [List.length_set] <;> rfl)), hw1.ext_out⟩
    refine JL_qg (q_loadA Try.isAgg25 Try.sizeOf25) (k := ?_)
    refine JL_pg (args := [(Value.agg [(Value.slice (a1_5) ((takeD x_2 x_3 x_4).1.1.length) (c1_5)), (Value.slice (a2_5) ((takeD x_2 x_3 x_4).1.2.1.length) (c2_5)), (Value.slice (a3_5) ((takeD x_2 x_3 x_4).1.2.2.length) (c3_5))].toArray)]) (c_callA Try.call18) (fun w1 hw1 => sAll_ok w1 (s := (takeD x_2 x_3 x_4).1) (h_s_1 := (SlB.slj hs1_5) w1 hw1) (n_s_1 := by first | omega | (simp only [List.length_append, List.length_take, List.length_drop, List.length_set, List.length_replicate, List.length_cons, List.length_nil, List.length_map]; omega) | (simp only [List.length_append, List.length_take, List.length_drop, List.length_set, List.length_replicate, List.length_cons, List.length_nil, List.length_map] at *; omega) | decide) (h_s_2_1 := (SlB.slj hs2_5) w1 hw1) (n_s_2_1 := by first | omega | (simp only [List.length_append, List.length_take, List.length_drop, List.length_set, List.length_replicate, List.length_cons, List.length_nil, List.length_map]; omega) | (simp only [List.length_append, List.length_take, List.length_drop, List.length_set, List.length_replicate, List.length_cons, List.length_nil, List.length_map] at *; omega) | decide) (h_s_2_2 := (SlB.slj hs3_5) w1 hw1) (n_s_2_2 := by first | omega | (simp only [List.length_append, List.length_take, List.length_drop, List.length_set, List.length_replicate, List.length_cons, List.length_nil, List.length_map]; omega) | (simp only [List.length_append, List.length_take, List.length_drop, List.length_set, List.length_replicate, List.length_cons, List.length_nil, List.length_map] at *; omega) | decide)) (k := ?_)
    rintro w1_6 e1_6 w2_6 hw1_6 ⟨a1_6, c1_6, B1_6, he_6, hf_6, ho1_6⟩
    refine ⟨_, (B1_6 ++ ((r3, Obj.cells [(Value.int .i64 (((takeD x_2 x_3 x_4).2.1.1))), (Value.int .i64 (((takeD x_2 x_3 x_4).2.1.2)))].toArray 27) :: ((r2, Obj.cells [(Value.slice (a1_5) ((takeD x_2 x_3 x_4).1.1.length) (c1_5)), (Value.slice (a2_5) ((takeD x_2 x_3 x_4).1.2.1.length) (c2_5)), (Value.slice (a3_5) ((takeD x_2 x_3 x_4).1.2.2.length) (c3_5))].toArray 25) :: (B_5 ++ (x_2B ++ ((r1, Obj.cells [(Value.slice (x_2a) (x_2.length) (x_2c)), (Value.slice (x_3a) (x_3.length) (x_3c)), (Value.slice (x_4a) (x_4.length) (x_4c))].toArray 25) :: [])))))), he_6, hw1_6.fresh hf_6, ?_⟩
    have hal_71411 := allD_len66 ((takeD x_2 x_3 x_4).1).1 ((takeD x_2 x_3 x_4).1).2.1 ((takeD x_2 x_3 x_4).1).2.2
    refine JL_qg (q_lenS Try.runUnderlying38) (k := ?_)
    refine JL_qg (q_move) (k := ?_)
    refine JL_qg (q_add) (k := ?_)
    refine JL_qg (q_neq) (k := ?_)
    refine JL_q (q_pickF) (k := ?_)
    refine JL_nil ?_
    refine JX_seq ?_
    refine J_dec rfl (fun hq9 => ?_) (fun hq9 => ?_)
    · refine J_seq ?_
      refine J_reg ?_
      refine JL_q (q_assign) (k := ?_)
      refine JL_nil ?_
      refine JX_seq ?_
      refine J_ret ?_
      refine JX_seq_ret ?_
      refine JX_block_ret ?_
      refine JX_seq_ret ?_
      refine JX_inv_ret ?_
      refine JX_block_ret ?_
      refine JX_seq_ret ?_
      refine JX_ret Try.results7 (Res.tmp rfl Res.nil) (fun w1 hw1 => ?_)
      exact ⟨(by rw [(((hF.neg hq1).er4 ((((((hF6.pos hq4).pos hq5).neg hq6).neg hq7).neg hq8).pos hq9))).eq] <;> first | rfl | (simp only [List.length_set] <;> rfl)), hw1.ext_out⟩
    refine J_skip ?_
    refine JX_seq ?_
    refine J_reg ?_
    refine JL_q (q_loadA Try.isAgg25 Try.sizeOf25) (k := ?_)
    refine JL_s (w_store (l' := [_, _, _]) Try.sizeOf25) (k := ?_)
    refine JL_nil ?_
    refine JX_block ?_
    refine JX_seq ?_
    refine J_reg ?_
    refine JL_q (q_move) (k := ?_)
    refine JL_q (q_add) (k := ?_)
    refine JL_q (q_assign) (k := ?_)
    refine JL_nil ?_
    refine JX_permL (B_5 ++ ((r1, Obj.cells [(Value.slice (a1_5) ((takeD x_2 x_3 x_4).1.1.length) (c1_5)), (Value.slice (a2_5) ((takeD x_2 x_3 x_4).1.2.1.length) (c2_5)), (Value.slice (a3_5) ((takeD x_2 x_3 x_4).1.2.2.length) (c3_5))].toArray 25) :: (B1_6 ++ ((r3, Obj.cells [(Value.int .i64 (((takeD x_2 x_3 x_4).2.1.1))), (Value.int .i64 (((takeD x_2 x_3 x_4).2.1.2)))].toArray 27) :: ((r2, Obj.cells [(Value.slice (a1_5) ((takeD x_2 x_3 x_4).1.1.length) (c1_5)), (Value.slice (a2_5) ((takeD x_2 x_3 x_4).1.2.1.length) (c2_5)), (Value.slice (a3_5) ((takeD x_2 x_3 x_4).1.2.2.length) (c3_5))].toArray 25) :: (x_2B ++ [])))))) (((List.Perm.append_left _ ((List.Perm.cons _ ((List.Perm.cons _ ((List.Perm.append_left _ ((List.Perm.append_left _ (List.Perm.refl _)).trans List.perm_middle)).trans List.perm_middle)).trans (List.Perm.swap _ _ _))).trans (List.Perm.swap _ _ _))).trans List.perm_middle).trans ((List.Perm.cons _ ((List.Perm.append_left _ ((List.Perm.cons _ ((List.Perm.cons _ (List.Perm.refl _)).trans List.perm_middle.symm)).trans List.perm_middle.symm)).trans (perm_seg _ _ _))).trans List.perm_middle.symm)) ?_
    refine JX_subL (B_5 ++ ((r1, Obj.cells [(Value.slice (a1_5) ((takeD x_2 x_3 x_4).1.1.length) (c1_5)), (Value.slice (a2_5) ((takeD x_2 x_3 x_4).1.2.1.length) (c2_5)), (Value.slice (a3_5) ((takeD x_2 x_3 x_4).1.2.2.length) (c3_5))].toArray 25) :: [])) (List.Sublist.append (List.Sublist.refl _) (List.Sublist.cons_cons _ (List.nil_sublist _))) ?_
    exact JX_inv12 n_5 (i_1 + 1) ((takeD x_2 x_3 x_4).1.1) a1_5 c1_5 ((takeD x_2 x_3 x_4).1.2.1) a2_5 c2_5 ((takeD x_2 x_3 x_4).1.2.2) a3_5 c3_5 B_5 ⟨by omega, ((((((hF6.pos hq4).pos hq5).neg hq6).neg hq7).neg hq8).neg hq9), (SlG.mono (SlG.of_slb hs1_5)), (SlG.mono (SlG.of_slb hs2_5)), (SlG.mono (SlG.of_slb hs3_5)), (by omega)⟩ (Nat.lt_succ_self _) (by repeat (first | exact SubE.nil | refine SubE.cons rfl ?_)) (List.Perm.of_eq (by first | rfl | simp only [List.append_assoc, List.cons_append, List.nil_append]))

end Go.Proofs.Ytofkflecgnmemaa.Jd
