/- Part of the proofs of this seat: walks and plain facts. No condition. -/
import Derived.Test.YtnblakihpoacjaaGreatDoorProg
import Derived.Test.YtnblakihpoacjaaGreatDoorP3
import Derived.Test.YtnblakihpoacjaaGreatDoorP2
namespace Go.Proofs.YtnblakihpoacjaaGreatDoor.Jd
open Go.Proofs
open Go.RowKit (Below)
set_option maxRecDepth 100000
set_option maxHeartbeats 8000000
set_option linter.unusedVariables false
set_option linter.unusedSimpArgs false
theorem wSplit_ok (w : World) {ea0 : Addr} {ea1 : Addr} {ea2 : Addr} {ea3 : Addr} {ea4 : Addr} {ea5 : Addr} {s : Str} (n_s : s.length ≤ 1000000) (hG : Gl w) (hE : Er w ea0 ea1 ea2 ea3 ea4 ea5) : Calls Tryz.prog 33 (List.toArray [(Value.string (bs s))]) w fun e w2 => ∃ a1 : Option Addr, ∃ c1 : Nat, ∃ B1 : Heap, e = .returned (Value.tuple [(Value.slice (a1) ((wSplit s).1.length) (c1)), (Value.int .i64 (((wSplit s).2)))].toArray) ∧ Fresh w w2 B1 ∧ OwnB eS 1 9 a1 c1 B1 (wSplit s).1 := by
  have hF := Is.refl (wSplit s)
  refine enter Tryz.func33 Tryz.ntmps33 (h := ?_)
  refine J_seq ?_
  refine J_reg ?_
  refine JL_q (q_assign) (k := ?_)
  refine JL_q (q_assign) (k := ?_)
  refine JL_nil ?_
  refine JX_seq ?_
  refine J_seq ?_
  refine J_reg ?_
  refine JL_q (q_move) (k := ?_)
  refine JL_inlM (args := [(Value.string (bs s))]) (c_callA Tryz.call59) Tryz.func59 Tryz.ntmps59 ?_
  refine J_seq ?_
  refine J_reg ?_
  refine JL_a noMk (a_alloc (l := [_]) Tryz.zeroValue60) (k := fun r1 hr1 => ?_)
  refine JL_a noMk (a_alloc (l := [_]) Tryz.zeroValue57) (k := fun r2 hr2 => ?_)
  refine JL_nil ?_
  refine JX_seq ?_
  refine J_seq ?_
  refine J_reg ?_
  refine JL_q (q_build (cs := [_, _]) Tryz.zeroValue140 PL_140) (k := ?_)
  refine JL_a noMk (a_box (l := [_, _])) (k := fun r3 hr3 => ?_)
  refine JL_q (q_assign) (k := ?_)
  refine JL_nil ?_
  refine JX_seq ?_
  refine J_seq ?_
  refine J_reg ?_
  refine JL_q (q_move) (k := ?_)
  refine JL_q (q_func) (k := ?_)
  refine JL_a noMk (a_alloc (l := [_]) Tryz.zeroValue142) (k := fun r4 hr4 => ?_)
  refine JL_s (w_store (l' := [_]) Tryz.sizeOf142) (k := ?_)
  refine JL_nil ?_
  refine JX_seq ?_
  refine J_seq ?_
  refine J_seq ?_
  refine J_reg ?_
  refine JL_q (q_move) (k := ?_)
  refine JL_q (q_lenT Tryz.runUnderlying9) (k := ?_)
  refine JL_q (q_gtr) (k := ?_)
  refine JL_q (q_build (cs := [_, _]) Tryz.zeroValue145 PL_145) (k := ?_)
  refine JL_q (q_move) (k := ?_)
  refine JL_v (args := [(Value.string (bs s))]) (c_callA Tryz.call96) (fun w1 hw1 => wIsPlain_ok w1 (s := s)) (k := ?_)
  refine JL_q (q_not) (k := ?_)
  refine JL_q (q_build (cs := [_, _]) Tryz.zeroValue145 PL_145) (k := ?_)
  refine JL_a noMk (a_bslice (l := [_, _, _, _]) Tryz.runUnderlying193 Tryz.sizeOf145 Tryz.zeroValue145) (k := fun r5 hr5 => ?_)
  refine JL_inl (args := [(Value.slice (some ⟨r5, 0, none⟩) (2) (2))]) (c_callA Tryz.call95) Tryz.func95 Tryz.ntmps95 ?_
  refine J_seq ?_
  refine J_reg ?_
  refine JL_q (q_assign) (k := ?_)
  refine JL_nil ?_
  refine JX_seq ?_
  refine J_seq ?_
  refine J_seq ?_
  refine J_reg ?_
  refine JL_q (q_move) (k := ?_)
  refine JL_q (q_lenS Tryz.runUnderlying193) (k := ?_)
  refine JL_q (q_move) (k := ?_)
  refine JL_nil ?_
  refine JX_seq ?_
  refine J_block ?_
  refine J_unroll ?_
  refine J_seq ?_
  refine J_reg ?_
  refine JL_q (q_lss) (k := ?_)
  refine JL_nil ?_
  refine JX_seq ?_
  refine J_seq ?_
  refine J_true rfl ?_
  refine J_skip ?_
  refine JX_seq ?_
  refine J_seq ?_
  refine J_block ?_
  refine J_seq ?_
  refine J_reg ?_
  refine JL_q (q_idxO Tryz.runUnderlying193 Tryz.sizeOf145 0) (k := ?_)
  refine JL_q (q_loadA Tryz.isAgg145 Tryz.sizeOf145) (k := ?_)
  refine JL_a noMk (a_alloc (l := [_, _]) Tryz.zeroValue145) (k := fun r6 hr6 => ?_)
  refine JL_s (w_store (l' := [_, _]) Tryz.sizeOf145) (k := ?_)
  refine JL_nil ?_
  refine JX_seq ?_
  refine J_seq ?_
  refine J_reg ?_
  refine JL_q (q_fld FO_145_0) (k := ?_)
  refine JL_q (q_load Tryz.isAgg4) (k := ?_)
  refine JL_nil ?_
  refine JX_seq ?_
  refine J_dec rfl (fun hq1 => ?_) (fun hq1 => ?_)
  · refine J_seq ?_
    refine J_reg ?_
    refine JL_q (q_fld FO_145_1) (k := ?_)
    refine JL_q (q_load Tryz.isAgg30) (k := ?_)
    refine JL_q (q_build (cs := [_]) Tryz.zeroValue152 PL_152) (k := ?_)
    refine JL_q (q_mkI Tryz.underlying152) (k := ?_)
    refine JL_q (q_assign) (k := ?_)
    refine JL_nil ?_
    refine JX_seq ?_
    refine J_ret ?_
    refine JX_block_ret ?_
    refine JX_seq_ret ?_
    refine JX_inv_ret ?_
    refine JX_block_ret ?_
    refine JX_seq_ret ?_
    refine JX_retI Tryz.results95 (Res.tmp rfl Res.nil) ?_
    refine JL_q (q_assign) (k := ?_)
    refine JL_nil ?_
    refine JX_seq ?_
    refine J_seq ?_
    refine J_reg ?_
    refine JL_q (q_move) (k := ?_)
    refine JL_q (q_neS (u := (Value.iface 152 (Value.agg [(Value.int .i64 (10))].toArray))) (v := Value.nilIface) (b := true) (fun w => by kernel_rfl)) (k := ?_)
    refine JL_nil ?_
    refine JX_seq ?_
    refine J_true rfl ?_
    refine J_seq ?_
    refine J_reg ?_
    refine JL_q (q_move) (k := ?_)
    refine JL_s (w_store (l' := [_]) Tryz.sizeOf60) (k := ?_)
    refine JL_s (w_store (l' := [_]) Tryz.sizeOf57) (k := ?_)
    refine JL_nil ?_
    refine JX_seq ?_
    refine J_ret ?_
    refine JX_seq_ret ?_
    refine JX_retIM [] (List.Perm.refl _) Tryz.results59 (Res.word Tryz.isAgg60 rfl me rfl (Res.word Tryz.isAgg57 rfl me rfl Res.nil)) ?_
    refine JL_q (q_move) (k := ?_)
    refine JL_q (q_ext) (k := ?_)
    refine JL_q (q_ext) (k := ?_)
    refine JL_q (q_assign) (k := ?_)
    refine JL_q (q_assign) (k := ?_)
    refine JL_nil ?_
    refine JX_seq ?_
    refine J_seq ?_
    refine J_reg ?_
    refine JL_q (q_move) (k := ?_)
    refine JL_q (q_move) (k := ?_)
    refine JL_inl (args := [(Value.iface 152 (Value.agg [(Value.int .i64 (10))].toArray))]) (c_callA Tryz.call60) Tryz.func60 Tryz.ntmps60 ?_
    refine J_seq ?_
    refine J_reg ?_
    refine JL_q (q_assign) (k := ?_)
    refine JL_nil ?_
    refine JX_seq ?_
    refine J_seq ?_
    refine J_reg ?_
    refine JL_a noMk (a_alloc (l := [_]) Tryz.zeroValue152) (k := fun r7 hr7 => ?_)
    refine JL_nil ?_
    refine JX_seq ?_
    refine J_seq ?_
    refine J_seq ?_
    refine J_reg ?_
    refine JL_q (q_move) (k := ?_)
    refine JL_q (q_mkI Tryz.underlying154) (k := ?_)
    refine JL_p (args := [(Value.iface 152 (Value.agg [(Value.int .i64 (10))].toArray)), (Value.iface 154 (Value.pointer (some ⟨r7, 0, none⟩)))]) (c_callA Tryz.call98) (fun w1 hw1 => as_hit_t w1 (hG.ext hw1.ext_out).ety (hw1.own _ me)) (k := ?_)
    rintro w1_1 e1_1 w2_1 hw1_1 ⟨he_1, hT_1⟩
    refine ⟨_, ((r7, Obj.cells [(Value.int .i64 (10))].toArray 152) :: ((r6, Obj.cells [(Value.bool (decide (300 < ((s.length : Nat) : Int)))), (Value.int .i64 (10))].toArray 145) :: ((r5, Obj.cells [(Value.bool (decide (300 < ((s.length : Nat) : Int)))), (Value.int .i64 (10)), (Value.bool ((!(wIsPlain s)))), (Value.int .i64 (11))].toArray 145) :: ((r4, Obj.cells [(Value.func (.func 94) [(Value.pointer (some ⟨r3, 0, none⟩))].toArray [].toArray)].toArray 142) :: ((r3, Obj.cells [(Value.slice (none) (0) (0)), (Value.slice (none) (0) (0))].toArray 140) :: ((r2, Obj.cells [(Value.iface 152 (Value.agg [(Value.int .i64 (10))].toArray))].toArray 57) :: ((r1, Obj.cells [(Value.slice (none) (0) (0))].toArray 60) :: []))))))), he_1, (hw1_1.perm q0).tr hT_1, ?_⟩
    refine JL_nil ?_
    refine JX_seq ?_
    refine J_true rfl ?_
    refine J_seq ?_
    refine J_reg ?_
    refine JL_q (q_fld FO_152_0) (k := ?_)
    refine JL_q (q_load Tryz.isAgg30) (k := ?_)
    refine JL_q (q_assign) (k := ?_)
    refine JL_nil ?_
    refine JX_seq ?_
    refine J_ret ?_
    refine JX_seq_ret ?_
    refine JX_retI Tryz.results60 (Res.tmp rfl Res.nil) ?_
    refine JL_q (q_assign) (k := ?_)
    refine JL_q (q_assign) (k := ?_)
    refine JL_nil ?_
    refine JX_seq ?_
    refine J_ret ?_
    refine JX_ret Tryz.results33 (Res.tmp rfl (Res.tmp rfl Res.nil)) (fun w1 hw1 => ?_)
    exact ⟨none, 0, [], (by rw [((hF.pos hq1)).eq] <;> first | rfl | (simp only [List.length_set] <;> rfl)), (hw1.fresh_out.sub (List.nil_sublist _)), (by rw [((hF.pos hq1)).eq]; exact OwnB.nil)⟩
  refine J_skip ?_
  refine JX_block ?_
  refine JX_seq ?_
  refine J_reg ?_
  refine JL_q (q_add) (k := ?_)
  refine JL_q (q_move) (k := ?_)
  refine JL_nil ?_
  refine JX_again ?_
  refine J_seq ?_
  refine J_reg ?_
  refine JL_q (q_lss) (k := ?_)
  refine JL_nil ?_
  refine JX_seq ?_
  refine J_seq ?_
  refine J_true rfl ?_
  refine J_skip ?_
  refine JX_seq ?_
  refine J_seq ?_
  refine J_block ?_
  refine J_seq ?_
  refine J_reg ?_
  refine JL_q (q_idxO Tryz.runUnderlying193 Tryz.sizeOf145 1) (k := ?_)
  refine JL_q (q_loadA Tryz.isAgg145 Tryz.sizeOf145) (k := ?_)
  refine JL_a noMk (a_alloc (l := [_, _]) Tryz.zeroValue145) (k := fun r8 hr8 => ?_)
  refine JL_s (w_store (l' := [_, _]) Tryz.sizeOf145) (k := ?_)
  refine JL_nil ?_
  refine JX_seq ?_
  refine J_seq ?_
  refine J_reg ?_
  refine JL_q (q_fld FO_145_0) (k := ?_)
  refine JL_q (q_load Tryz.isAgg4) (k := ?_)
  refine JL_nil ?_
  refine JX_seq ?_
  refine J_cond rfl (fun hq2 => ?_) (fun hq2 => ?_)
  · refine J_seq ?_
    refine J_reg ?_
    refine JL_q (q_fld FO_145_1) (k := ?_)
    refine JL_q (q_load Tryz.isAgg30) (k := ?_)
    refine JL_q (q_build (cs := [_]) Tryz.zeroValue152 PL_152) (k := ?_)
    refine JL_q (q_mkI Tryz.underlying152) (k := ?_)
    refine JL_q (q_assign) (k := ?_)
    refine JL_nil ?_
    refine JX_seq ?_
    refine J_ret ?_
    refine JX_block_ret ?_
    refine JX_seq_ret ?_
    refine JX_inv_ret ?_
    refine JX_block_ret ?_
    refine JX_seq_ret ?_
    refine JX_retI Tryz.results95 (Res.tmp rfl Res.nil) ?_
    refine JL_q (q_assign) (k := ?_)
    refine JL_nil ?_
    refine JX_seq ?_
    refine J_seq ?_
    refine J_reg ?_
    refine JL_q (q_move) (k := ?_)
    refine JL_q (q_neS (u := (Value.iface 152 (Value.agg [(Value.int .i64 (11))].toArray))) (v := Value.nilIface) (b := true) (fun w => by kernel_rfl)) (k := ?_)
    refine JL_nil ?_
    refine JX_seq ?_
    refine J_true rfl ?_
    refine J_seq ?_
    refine J_reg ?_
    refine JL_q (q_move) (k := ?_)
    refine JL_s (w_store (l' := [_]) Tryz.sizeOf60) (k := ?_)
    refine JL_s (w_store (l' := [_]) Tryz.sizeOf57) (k := ?_)
    refine JL_nil ?_
    refine JX_seq ?_
    refine J_ret ?_
    refine JX_seq_ret ?_
    refine JX_retIM [] (List.Perm.refl _) Tryz.results59 (Res.word Tryz.isAgg60 rfl me rfl (Res.word Tryz.isAgg57 rfl me rfl Res.nil)) ?_
    refine JL_q (q_move) (k := ?_)
    refine JL_q (q_ext) (k := ?_)
    refine JL_q (q_ext) (k := ?_)
    refine JL_q (q_assign) (k := ?_)
    refine JL_q (q_assign) (k := ?_)
    refine JL_nil ?_
    refine JX_seq ?_
    refine J_seq ?_
    refine J_reg ?_
    refine JL_q (q_move) (k := ?_)
    refine JL_q (q_move) (k := ?_)
    refine JL_inl (args := [(Value.iface 152 (Value.agg [(Value.int .i64 (11))].toArray))]) (c_callA Tryz.call60) Tryz.func60 Tryz.ntmps60 ?_
    refine J_seq ?_
    refine J_reg ?_
    refine JL_q (q_assign) (k := ?_)
    refine JL_nil ?_
    refine JX_seq ?_
    refine J_seq ?_
    refine J_reg ?_
    refine JL_a noMk (a_alloc (l := [_]) Tryz.zeroValue152) (k := fun r9 hr9 => ?_)
    refine JL_nil ?_
    refine JX_seq ?_
    refine J_seq ?_
    refine J_seq ?_
    refine J_reg ?_
    refine JL_q (q_move) (k := ?_)
    refine JL_q (q_mkI Tryz.underlying154) (k := ?_)
    refine JL_p (args := [(Value.iface 152 (Value.agg [(Value.int .i64 (11))].toArray)), (Value.iface 154 (Value.pointer (some ⟨r9, 0, none⟩)))]) (c_callA Tryz.call98) (fun w1 hw1 => as_hit_t w1 (hG.ext hw1.ext_out).ety (hw1.own _ me)) (k := ?_)
    rintro w1_2 e1_2 w2_2 hw1_2 ⟨he_2, hT_2⟩
    refine ⟨_, ((r9, Obj.cells [(Value.int .i64 (11))].toArray 152) :: ((r8, Obj.cells [(Value.bool ((!(wIsPlain s)))), (Value.int .i64 (11))].toArray 145) :: ((r6, Obj.cells [(Value.bool (decide (300 < ((s.length : Nat) : Int)))), (Value.int .i64 (10))].toArray 145) :: ((r5, Obj.cells [(Value.bool (decide (300 < ((s.length : Nat) : Int)))), (Value.int .i64 (10)), (Value.bool ((!(wIsPlain s)))), (Value.int .i64 (11))].toArray 145) :: ((r4, Obj.cells [(Value.func (.func 94) [(Value.pointer (some ⟨r3, 0, none⟩))].toArray [].toArray)].toArray 142) :: ((r3, Obj.cells [(Value.slice (none) (0) (0)), (Value.slice (none) (0) (0))].toArray 140) :: ((r2, Obj.cells [(Value.iface 152 (Value.agg [(Value.int .i64 (11))].toArray))].toArray 57) :: ((r1, Obj.cells [(Value.slice (none) (0) (0))].toArray 60) :: [])))))))), he_2, (hw1_2.perm q0).tr hT_2, ?_⟩
    refine JL_nil ?_
    refine JX_seq ?_
    refine J_true rfl ?_
    refine J_seq ?_
    refine J_reg ?_
    refine JL_q (q_fld FO_152_0) (k := ?_)
    refine JL_q (q_load Tryz.isAgg30) (k := ?_)
    refine JL_q (q_assign) (k := ?_)
    refine JL_nil ?_
    refine JX_seq ?_
    refine J_ret ?_
    refine JX_seq_ret ?_
    refine JX_retI Tryz.results60 (Res.tmp rfl Res.nil) ?_
    refine JL_q (q_assign) (k := ?_)
    refine JL_q (q_assign) (k := ?_)
    refine JL_nil ?_
    refine JX_seq ?_
    refine J_ret ?_
    refine JX_ret Tryz.results33 (Res.tmp rfl (Res.tmp rfl Res.nil)) (fun w1 hw1 => ?_)
    exact ⟨none, 0, [], (by rw [(((hF.neg hq1).t hq2)).eq] <;> first | rfl | (simp only [List.length_set] <;> rfl)), (hw1.fresh_out.sub (List.nil_sublist _)), (by rw [(((hF.neg hq1).t hq2)).eq]; exact OwnB.nil)⟩
  refine J_skip ?_
  refine JX_block ?_
  refine JX_seq ?_
  refine J_reg ?_
  refine JL_q (q_add) (k := ?_)
  refine JL_q (q_move) (k := ?_)
  refine JL_nil ?_
  refine JX_again ?_
  refine J_seq ?_
  refine J_reg ?_
  refine JL_q (q_lss) (k := ?_)
  refine JL_nil ?_
  refine JX_seq ?_
  refine J_seq ?_
  refine J_false rfl ?_
  refine J_exit ?_
  refine JX_seq_exit ?_
  refine JX_inv_exit ?_
  refine JX_block_hit ?_
  refine JX_seq ?_
  refine J_seq ?_
  refine J_reg ?_
  refine JL_q (q_assign) (k := ?_)
  refine JL_nil ?_
  refine JX_seq ?_
  refine J_ret ?_
  refine JX_retI Tryz.results95 (Res.tmp rfl Res.nil) ?_
  refine JL_q (q_assign) (k := ?_)
  refine JL_nil ?_
  refine JX_seq ?_
  refine J_seq ?_
  refine J_reg ?_
  refine JL_q (q_move) (k := ?_)
  refine JL_q (q_neS (u := Value.nilIface) (v := Value.nilIface) (b := false) (fun w => by kernel_rfl)) (k := ?_)
  refine JL_nil ?_
  refine JX_seq ?_
  refine J_false rfl ?_
  refine J_skip ?_
  refine JX_seq ?_
  refine J_seq ?_
  refine J_seq ?_
  refine J_reg ?_
  refine JL_q (q_move) (k := ?_)
  refine JL_inl (args := [(Value.string (bs s))]) (c_callA Tryz.call97) Tryz.func97 Tryz.ntmps97 ?_
  refine J_seq ?_
  refine J_reg ?_
  refine JL_a noMk (a_box (l := [_])) (k := fun r10 hr10 => ?_)
  refine JL_q (q_assign) (k := ?_)
  refine JL_nil ?_
  refine JX_seq ?_
  refine J_seq ?_
  refine J_reg ?_
  refine JL_q (q_func) (k := ?_)
  refine JL_q (q_assign) (k := ?_)
  refine JL_nil ?_
  refine JX_seq ?_
  refine J_ret ?_
  refine JX_retI Tryz.results97 (Res.tmp rfl Res.nil) ?_
  refine JL_nil ?_
  refine JX_seq ?_
  refine J_block ?_
  refine J_rangeI noMk rfl Tryz.call119 Tryz.func119 Tryz.ntmps119 (fun l11 rD11 rr11 hl11 => ?_)
  refine J_scope ?_
  refine J_seq ?_
  refine J_label ?_
  refine JX_seq ?_
  refine J_seq ?_
  refine J_reg ?_
  refine JL_q (q_load Tryz.isAgg9) (k := ?_)
  refine JL_q (q_lenT Tryz.runUnderlying9) (k := ?_)
  refine JL_q (q_add) (k := ?_)
  refine JL_q (q_move) (k := ?_)
  refine JL_nil ?_
  refine JX_seq ?_
  refine J_block ?_
  refine J_loop12 (σ1 := Nat) (σ2 := Nat) (σ3 := List Str) (σ4 := Option Addr) (σ5 := Nat) (σ6 := Heap) (σ7 := List Int) (σ8 := Option Addr) (σ9 := Nat) (σ10 := Heap) (σ11 := Nat) (σ12 := Nat) (fun n_5 x_1 x_2 x_2a x_2c x_2B x_3 x_3a x_3c x_3B x_4 x_4b => ((stB x_4 r3 x_4b) ++ (x_3B ++ (x_2B ++ ((l11, loopAt rr11 .ready none) :: ((rD11, Obj.deferred (some [])) :: ((r10, Obj.cells [(Value.string (bs s))].toArray 9) :: ((r8, Obj.cells [(Value.bool ((!(wIsPlain s)))), (Value.int .i64 (11))].toArray 145) :: ((r6, Obj.cells [(Value.bool (decide (300 < ((s.length : Nat) : Int)))), (Value.int .i64 (10))].toArray 145) :: ((r5, Obj.cells [(Value.bool (decide (300 < ((s.length : Nat) : Int)))), (Value.int .i64 (10)), (Value.bool ((!(wIsPlain s)))), (Value.int .i64 (11))].toArray 145) :: ((r4, Obj.cells [(stV x_4 r3 x_4b)].toArray 142) :: ((r3, Obj.cells [(Value.slice (x_2a) (x_2.length) (x_2c)), (Value.slice (x_3a) (x_3.length) (x_3c))].toArray 140) :: ((r2, Obj.cells [Value.nilIface].toArray 57) :: ((r1, Obj.cells [(Value.slice (none) (0) (0))].toArray 60) :: [])))))))))))))) (fun n_5 x_1 x_2 x_2a x_2c x_2B x_3 x_3a x_3c x_3B x_4 x_4b => [(0, (Value.func (.yield l11) [].toArray [].toArray)), (1, (Value.pointer (some ⟨r10, 0, none⟩))), (6, (Value.int .i64 ((((s.length : Nat) : Int) + 1)))), (7, (Value.int .i64 (((x_1 : Nat) : Int))))]) (fun n_5 x_1 x_2 x_2a x_2c x_2B x_3 x_3a x_3c x_3B x_4 x_4b => (s.length + 1) - x_1 < n_5 ∧ Is (wSplit_l0 s ((s.length + 1) + 1) 0 [] [] 0) (wSplit_l0 s n_5 x_1 x_2 x_3 x_4) ∧ OwnB eS 1 9 x_2a x_2c x_2B x_2 ∧ OwnB eI_u8 1 5 x_3a x_3c x_3B x_3 ∧ x_4 ≤ 4 ∧ x_2.length ≤ x_1 ∧ x_3.length ≤ x_1) (fun n_5 x_1 x_2 x_2a x_2c x_2B x_3 x_3a x_3c x_3B x_4 x_4b => n_5) ((s.length + 1) + 1) 0 ([]) none 0 ([]) ([]) none 0 ([]) 0 0 ?_ se (List.Perm.refl _) ?_
  · exact ⟨Nat.lt_succ_self _, Is.refl _, OwnB.nil, OwnB.nil, (by omega), (by first | omega | rfl | (simp; done)), (by first | omega | rfl | (simp; done))⟩
  · rintro (_ | n_5) x_1 x_2 x_2a x_2c x_2B x_3 x_3a x_3c x_3B x_4 x_4b ⟨hm7, hF6, hx_2, hx_3, hx_4, hi8, hi9⟩
    · omega
    refine J_seq ?_
    refine J_reg ?_
    refine JL_q (q_lss) (k := ?_)
    refine JL_nil ?_
    refine JX_seq ?_
    refine J_seq ?_
    refine J_dec rfl (fun hq3 => ?_) (fun hq3 => ?_)
    rotate_left
    · refine J_exit ?_
      refine JX_seq_exit ?_
      refine JX_inv_exit ?_
      refine JX_block_hit ?_
      refine JX_scope ?_
      refine JX_it0 (.inr rfl) Tryz.results119 (qc (qc (qc q0))) ?_
      refine JX_block ?_
      refine JX_seq ?_
      refine J_seq ?_
      refine J_reg ?_
      refine JL_q (q_move) (k := ?_)
      refine JL_q (q_nil) (k := ?_)
      refine JL_q (q_fld FO_140_0) (k := ?_)
      refine JL_q (q_fld FO_138_0) (k := ?_)
      refine JL_q (q_load Tryz.isAgg60) (k := ?_)
      refine JL_s (w_store (l' := [_]) Tryz.sizeOf60) (k := ?_)
      refine JL_s (w_store (l' := [_]) Tryz.sizeOf57) (k := ?_)
      refine JL_nil ?_
      refine JX_seq ?_
      refine J_ret ?_
      refine JX_retIM [rD11] (qa (qc (qc (qc q0)))) Tryz.results59 (Res.word Tryz.isAgg60 rfl me rfl (Res.word Tryz.isAgg57 rfl me rfl Res.nil)) ?_
      refine JL_q (q_move) (k := ?_)
      refine JL_q (q_ext) (k := ?_)
      refine JL_q (q_ext) (k := ?_)
      refine JL_q (q_assign) (k := ?_)
      refine JL_q (q_assign) (k := ?_)
      refine JL_nil ?_
      refine JX_seq ?_
      refine J_seq ?_
      refine J_reg ?_
      refine JL_q (q_move) (k := ?_)
      refine JL_q (q_move) (k := ?_)
      refine JL_inl (args := [Value.nilIface]) (c_callA Tryz.call60) Tryz.func60 Tryz.ntmps60 ?_
      refine J_seq ?_
      refine J_reg ?_
      refine JL_q (q_assign) (k := ?_)
      refine JL_nil ?_
      refine JX_seq ?_
      refine J_seq ?_
      refine J_reg ?_
      refine JL_a noMk (a_alloc (l := [_]) Tryz.zeroValue152) (k := fun r67 hr67 => ?_)
      refine JL_nil ?_
      refine JX_seq ?_
      refine J_seq ?_
      refine J_seq ?_
      refine J_reg ?_
      refine JL_q (q_move) (k := ?_)
      refine JL_q (q_mkI Tryz.underlying154) (k := ?_)
      refine JL_v (args := [Value.nilIface, (Value.iface 154 (Value.pointer (some ⟨r67, 0, none⟩)))]) (c_callA Tryz.call98) (fun w1 hw1 => as_nil_v w1) (k := ?_)
      refine JL_nil ?_
      refine JX_seq ?_
      refine J_false rfl ?_
      refine J_skip ?_
      refine JX_seq ?_
      refine J_seq ?_
      refine J_reg ?_
      refine JL_q (q_assign) (k := ?_)
      refine JL_nil ?_
      refine JX_seq ?_
      refine J_ret ?_
      refine JX_retI Tryz.results60 (Res.tmp rfl Res.nil) ?_
      refine JL_q (q_assign) (k := ?_)
      refine JL_q (q_assign) (k := ?_)
      refine JL_nil ?_
      refine JX_seq ?_
      refine J_ret ?_
      refine JX_ret Tryz.results33 (Res.tmp rfl (Res.tmp rfl Res.nil)) (fun w1 hw1 => ?_)
      exact ⟨x_2a, x_2c, x_2B, (by rw [((((hF.neg hq1).f hq2).ok4 (hF6.neg hq3))).eq] <;> first | rfl | (simp only [List.length_set] <;> rfl)), (fresh_segs (L := x_2B) (R := ((r67, Obj.cells [(Value.int .i64 (0))].toArray 152) :: ((l11, loopAt rr11 .exhausted none) :: ((stB x_4 r3 x_4b) ++ (x_3B ++ ((r10, Obj.cells [(Value.string (bs s))].toArray 9) :: ((r8, Obj.cells [(Value.bool ((!(wIsPlain s)))), (Value.int .i64 (11))].toArray 145) :: ((r6, Obj.cells [(Value.bool (decide (300 < ((s.length : Nat) : Int)))), (Value.int .i64 (10))].toArray 145) :: ((r5, Obj.cells [(Value.bool (decide (300 < ((s.length : Nat) : Int)))), (Value.int .i64 (10)), (Value.bool ((!(wIsPlain s)))), (Value.int .i64 (11))].toArray 145) :: ((r4, Obj.cells [(stV x_4 r3 x_4b)].toArray 142) :: ((r3, Obj.cells [(Value.slice (x_2a) (x_2.length) (x_2c)), (Value.slice (x_3a) (x_3.length) (x_3c))].toArray 140) :: ((r2, Obj.cells [Value.nilIface].toArray 57) :: ((r1, Obj.cells [(Value.slice (x_2a) (x_2.length) (x_2c))].toArray 60) :: []))))))))))))) (hw1.perm (qb (qb (qd (qd q0))))) (by simp)), (by rw [((((hF.neg hq1).f hq2).ok4 (hF6.neg hq3))).eq]; exact hx_2)⟩
    refine J_skip ?_
    refine JX_seq ?_
    refine J_seq ?_
    refine J_block ?_
    refine J_seq ?_
    refine J_reg ?_
    refine JL_q (q_move) (k := ?_)
    refine JL_q (q_assign) (k := ?_)
    refine JL_nil ?_
    refine JX_seq ?_
    refine J_seq ?_
    refine J_seq ?_
    refine J_reg ?_
    refine JL_q (q_move) (k := ?_)
    refine JL_q (q_load Tryz.isAgg9) (k := ?_)
    refine JL_q (q_lenT Tryz.runUnderlying9) (k := ?_)
    refine JL_q (q_eql) (k := ?_)
    refine JL_nil ?_
    refine JX_seq ?_
    refine J_dec rfl (fun hq4 => ?_) (fun hq4 => ?_)
    · refine J_seq ?_
      refine J_reg ?_
      refine JL_q (q_move) (k := ?_)
      refine JL_yIn (vs := [(Value.int .u8 (0)), (Value.bool (true))]) hl11 (qc (qc (qc q0))) y_call ?_
      refine J_seq ?_
      refine J_reg ?_
      refine JL_q (q_assign) (k := ?_)
      refine JL_nil ?_
      refine JX_seq ?_
      refine J_reg ?_
      refine JL_q (q_assign) (k := ?_)
      refine JL_nil ?_
      refine JX_begin q0 ?_
      refine J_block ?_
      refine J_seq ?_
      refine J_reg ?_
      refine JL_q (q_load Tryz.isAgg142) (k := ?_)
      refine JL_q (q_move) (k := ?_)
      refine JL_q (q_move) (k := ?_)
      by_cases hq5 : x_4 = 0
      · refine JL_alter 33 (Value.func (.func 94) [(Value.pointer (some ⟨r3, 0, none⟩))].toArray [].toArray) rfl (by rw [hq5]; rfl) ?_
        refine JL_eqL (L' := ((l11, loopAt rr11 .busy none) :: (x_3B ++ (x_2B ++ ((rD11, Obj.deferred (some [])) :: ((r10, Obj.cells [(Value.string (bs s))].toArray 9) :: ((r8, Obj.cells [(Value.bool ((!(wIsPlain s)))), (Value.int .i64 (11))].toArray 145) :: ((r6, Obj.cells [(Value.bool (decide (300 < ((s.length : Nat) : Int)))), (Value.int .i64 (10))].toArray 145) :: ((r5, Obj.cells [(Value.bool (decide (300 < ((s.length : Nat) : Int)))), (Value.int .i64 (10)), (Value.bool ((!(wIsPlain s)))), (Value.int .i64 (11))].toArray 145) :: ((r4, Obj.cells [(stV x_4 r3 x_4b)].toArray 142) :: ((r3, Obj.cells [(Value.slice (x_2a) (x_2.length) (x_2c)), (Value.slice (x_3a) (x_3.length) (x_3c))].toArray 140) :: ((r2, Obj.cells [Value.nilIface].toArray 57) :: ((r1, Obj.cells [(Value.slice (none) (0) (0))].toArray 60) :: []))))))))))))) (by rw [hq5]; rfl) ?_
        refine JL_inl (args := [(Value.pointer (some ⟨r3, 0, none⟩)), (Value.int .u8 (0)), (Value.bool (true))]) (c_callA Tryz.call94) Tryz.func94 Tryz.ntmps94 ?_
        refine J_seq ?_
        refine J_reg ?_
        refine JL_q (q_assign) (k := ?_)
        refine JL_q (q_assign) (k := ?_)
        refine JL_nil ?_
        refine JX_seq ?_
        refine J_seq ?_
        refine J_block ?_
        refine J_seq ?_
        refine J_reg ?_
        refine JL_q (q_move) (k := ?_)
        refine JL_q (q_move) (k := ?_)
        refine JL_skips 2 rfl ?_
        refine JL_q (q_pickT) (k := ?_)
        refine JL_q (q_assign) (k := ?_)
        refine JL_nil ?_
        refine JX_seq ?_
        refine J_true rfl ?_
        refine J_seq ?_
        refine J_reg ?_
        refine JL_q (q_move) (k := ?_)
        refine JL_q (q_func) (k := ?_)
        refine JL_q (q_assign) (k := ?_)
        refine JL_q (q_assign) (k := ?_)
        refine JL_nil ?_
        refine JX_seq ?_
        refine J_ret ?_
        refine JX_block_ret ?_
        refine JX_seq_ret ?_
        refine JX_retI Tryz.results94 (Res.tmp rfl (Res.tmp rfl Res.nil)) ?_
        refine JL_q (q_move) (k := ?_)
        refine JL_q (q_ext) (k := ?_)
        refine JL_q (q_ext) (k := ?_)
        refine JL_q (q_assign) (k := ?_)
        refine JL_q (q_assign) (k := ?_)
        refine JL_nil ?_
        refine JX_seq ?_
        refine J_seq ?_
        refine J_seq ?_
        refine J_reg ?_
        refine JL_q (q_move) (k := ?_)
        refine JL_q (q_neS (u := Value.nilIface) (v := Value.nilIface) (b := false) (fun w => by kernel_rfl)) (k := ?_)
        refine JL_nil ?_
        refine JX_seq ?_
        refine J_false rfl ?_
        refine J_skip ?_
        refine JX_seq ?_
        refine J_reg ?_
        refine JL_q (q_move) (k := ?_)
        refine JL_s (w_store (l' := [_]) Tryz.sizeOf142) (k := ?_)
        refine JL_nil ?_
        refine JX_block ?_
        refine JX_roundI q0 ?_
        refine JL_nil ?_
        refine JX_seq ?_
        refine J_exit ?_
        refine JX_seq_exit ?_
        refine JX_block_miss rfl ?_
        refine JX_seq_exit ?_
        refine JX_inv_exit ?_
        refine JX_block_hit ?_
        refine JX_scope ?_
        refine JX_it0 (.inr rfl) Tryz.results119 q0 ?_
        refine JX_block ?_
        refine JX_seq ?_
        refine J_seq ?_
        refine J_reg ?_
        refine JL_q (q_move) (k := ?_)
        refine JL_q (q_nil) (k := ?_)
        refine JL_q (q_fld FO_140_0) (k := ?_)
        refine JL_q (q_fld FO_138_0) (k := ?_)
        refine JL_q (q_load Tryz.isAgg60) (k := ?_)
        refine JL_s (w_store (l' := [_]) Tryz.sizeOf60) (k := ?_)
        refine JL_s (w_store (l' := [_]) Tryz.sizeOf57) (k := ?_)
        refine JL_nil ?_
        refine JX_seq ?_
        refine J_ret ?_
        refine JX_retIM [rD11] (qa (qc (qc q0))) Tryz.results59 (Res.word Tryz.isAgg60 rfl me rfl (Res.word Tryz.isAgg57 rfl me rfl Res.nil)) ?_
        refine JL_q (q_move) (k := ?_)
        refine JL_q (q_ext) (k := ?_)
        refine JL_q (q_ext) (k := ?_)
        refine JL_q (q_assign) (k := ?_)
        refine JL_q (q_assign) (k := ?_)
        refine JL_nil ?_
        refine JX_seq ?_
        refine J_seq ?_
        refine J_reg ?_
        refine JL_q (q_move) (k := ?_)
        refine JL_q (q_move) (k := ?_)
        refine JL_inl (args := [Value.nilIface]) (c_callA Tryz.call60) Tryz.func60 Tryz.ntmps60 ?_
        refine J_seq ?_
        refine J_reg ?_
        refine JL_q (q_assign) (k := ?_)
        refine JL_nil ?_
        refine JX_seq ?_
        refine J_seq ?_
        refine J_reg ?_
        refine JL_a noMk (a_alloc (l := [_]) Tryz.zeroValue152) (k := fun r12 hr12 => ?_)
        refine JL_nil ?_
        refine JX_seq ?_
        refine J_seq ?_
        refine J_seq ?_
        refine J_reg ?_
        refine JL_q (q_move) (k := ?_)
        refine JL_q (q_mkI Tryz.underlying154) (k := ?_)
        refine JL_v (args := [Value.nilIface, (Value.iface 154 (Value.pointer (some ⟨r12, 0, none⟩)))]) (c_callA Tryz.call98) (fun w1 hw1 => as_nil_v w1) (k := ?_)
        refine JL_nil ?_
        refine JX_seq ?_
        refine J_false rfl ?_
        refine J_skip ?_
        refine JX_seq ?_
        refine J_seq ?_
        refine J_reg ?_
        refine JL_q (q_assign) (k := ?_)
        refine JL_nil ?_
        refine JX_seq ?_
        refine J_ret ?_
        refine JX_retI Tryz.results60 (Res.tmp rfl Res.nil) ?_
        refine JL_q (q_assign) (k := ?_)
        refine JL_q (q_assign) (k := ?_)
        refine JL_nil ?_
        refine JX_seq ?_
        refine J_ret ?_
        refine JX_ret Tryz.results33 (Res.tmp rfl (Res.tmp rfl Res.nil)) (fun w1 hw1 => ?_)
        exact ⟨x_2a, x_2c, x_2B, (by rw [((((hF.neg hq1).f hq2).ok4 (((hF6.pos hq3).pos hq4).pos hq5))).eq] <;> first | rfl | (simp only [List.length_set] <;> rfl)), (fresh_segs (L := x_2B) (R := ((r12, Obj.cells [(Value.int .i64 (0))].toArray 152) :: ((l11, loopAt rr11 .exhausted none) :: (x_3B ++ ((r10, Obj.cells [(Value.string (bs s))].toArray 9) :: ((r8, Obj.cells [(Value.bool ((!(wIsPlain s)))), (Value.int .i64 (11))].toArray 145) :: ((r6, Obj.cells [(Value.bool (decide (300 < ((s.length : Nat) : Int)))), (Value.int .i64 (10))].toArray 145) :: ((r5, Obj.cells [(Value.bool (decide (300 < ((s.length : Nat) : Int)))), (Value.int .i64 (10)), (Value.bool ((!(wIsPlain s)))), (Value.int .i64 (11))].toArray 145) :: ((r4, Obj.cells [(Value.func (.func 94) [(Value.pointer (some ⟨r3, 0, none⟩))].toArray [].toArray)].toArray 142) :: ((r3, Obj.cells [(Value.slice (x_2a) (x_2.length) (x_2c)), (Value.slice (x_3a) (x_3.length) (x_3c))].toArray 140) :: ((r2, Obj.cells [Value.nilIface].toArray 57) :: ((r1, Obj.cells [(Value.slice (x_2a) (x_2.length) (x_2c))].toArray 60) :: [])))))))))))) (hw1.perm (qb (qb (qd q0)))) (by simp)), (by rw [((((hF.neg hq1).f hq2).ok4 (((hF6.pos hq3).pos hq4).pos hq5))).eq]; exact hx_2)⟩
      by_cases hq6 : x_4 = 1
      · refine JL_alter 33 (Value.func (.func 118) [(Value.pointer (some ⟨r3, 0, none⟩))].toArray [].toArray) rfl (by rw [hq6]; rfl) ?_
        refine JL_eqL (L' := ((l11, loopAt rr11 .busy none) :: (x_3B ++ (x_2B ++ ((rD11, Obj.deferred (some [])) :: ((r10, Obj.cells [(Value.string (bs s))].toArray 9) :: ((r8, Obj.cells [(Value.bool ((!(wIsPlain s)))), (Value.int .i64 (11))].toArray 145) :: ((r6, Obj.cells [(Value.bool (decide (300 < ((s.length : Nat) : Int)))), (Value.int .i64 (10))].toArray 145) :: ((r5, Obj.cells [(Value.bool (decide (300 < ((s.length : Nat) : Int)))), (Value.int .i64 (10)), (Value.bool ((!(wIsPlain s)))), (Value.int .i64 (11))].toArray 145) :: ((r4, Obj.cells [(stV x_4 r3 x_4b)].toArray 142) :: ((r3, Obj.cells [(Value.slice (x_2a) (x_2.length) (x_2c)), (Value.slice (x_3a) (x_3.length) (x_3c))].toArray 140) :: ((r2, Obj.cells [Value.nilIface].toArray 57) :: ((r1, Obj.cells [(Value.slice (none) (0) (0))].toArray 60) :: []))))))))))))) (by rw [hq6]; rfl) ?_
        refine JL_inl (args := [(Value.pointer (some ⟨r3, 0, none⟩)), (Value.int .u8 (0)), (Value.bool (true))]) (c_callA Tryz.call118) Tryz.func118 Tryz.ntmps118 ?_
        refine J_seq ?_
        refine J_reg ?_
        refine JL_q (q_assign) (k := ?_)
        refine JL_q (q_assign) (k := ?_)
        refine JL_nil ?_
        refine JX_seq ?_
        refine J_seq ?_
        refine J_seq ?_
        refine J_reg ?_
        refine JL_q (q_move) (k := ?_)
        refine JL_q (q_move) (k := ?_)
        refine JL_skips 2 rfl ?_
        refine JL_q (q_pickT) (k := ?_)
        refine JL_nil ?_
        refine JX_seq ?_
        refine J_true rfl ?_
        refine J_seq ?_
        refine J_reg ?_
        refine JL_q (q_move) (k := ?_)
        refine JL_q (q_nil) (k := ?_)
        refine JL_q (q_fld FO_140_0) (k := ?_)
        refine JL_inl (args := [(Value.pointer (some ⟨r3, 0, none⟩))]) (c_callA Tryz.call137) Tryz.func137 Tryz.ntmps137 ?_
        refine J_seq ?_
        refine J_planV ((l11, loopAt rr11 .busy none) :: (x_3B ++ ((rD11, Obj.deferred (some [])) :: ((r10, Obj.cells [(Value.string (bs s))].toArray 9) :: ((r8, Obj.cells [(Value.bool ((!(wIsPlain s)))), (Value.int .i64 (11))].toArray 145) :: ((r6, Obj.cells [(Value.bool (decide (300 < ((s.length : Nat) : Int)))), (Value.int .i64 (10))].toArray 145) :: ((r5, Obj.cells [(Value.bool (decide (300 < ((s.length : Nat) : Int)))), (Value.int .i64 (10)), (Value.bool ((!(wIsPlain s)))), (Value.int .i64 (11))].toArray 145) :: ((r4, Obj.cells [(stV x_4 r3 x_4b)].toArray 142) :: ((r3, Obj.cells [(Value.slice (x_2a) (x_2.length) (x_2c)), (Value.slice (x_3a) (x_3.length) (x_3c))].toArray 140) :: ((r2, Obj.cells [Value.nilIface].toArray 57) :: ((r1, Obj.cells [(Value.slice (none) (0) (0))].toArray 60) :: []))))))))))) (x_2B ++ []) (List.Perm.trans (qb (qd q0)) (List.Perm.of_eq (by first | rfl | (simp only [List.cons_append, List.nil_append, List.append_assoc, List.append_nil]; done) | (simp only [List.cons_append, List.nil_append, List.append_assoc, List.append_nil]; rfl)))) mixed 14 [(true, 0), (true, 1), (true, 2), (true, 3), (true, 4), (true, 5), (true, 6), (true, 7), (true, 8), (false, 9), (false, 10), (false, 11), (true, 12), (true, 13)] (by kernel_rfl) ?_
        refine JD_q (q_move) (k := ?_)
        refine JD_q (q_move) (k := ?_)
        refine JD_q (q_nil) (k := ?_)
        refine JD_q (q_fld FO_138_0) (k := ?_)
        refine JD_q (q_load Tryz.isAgg60) (k := ?_)
        refine JD_q (q_move) (k := ?_)
        refine JD_q (q_nil) (k := ?_)
        refine JD_q (q_fld FO_138_1) (k := ?_)
        refine JD_q (q_load Tryz.isAgg136) (k := ?_)
        refine JD_q (q_str Tryz.underlying9 Tryz.underlying136 Tryz.underlying5 (hx_3.slj eI_u8_ok)) (k := ?_)
        refine JD_a noMk (a_bslice (l := [_]) Tryz.runUnderlying60 Tryz.sizeOf9 Tryz.zeroValue9) (k := fun r13 hr13 => ?_)
        refine JD_append (x_2 ++ ([(toS x_3)] : List Str)) rfl TY_9 Tryz.underlying60 eS_ok hx_2 q0 (SlJ.lit (xs := ([(toS x_3)] : List Str)) eS_ok) ⟨by first | omega | (simp; omega), by first | omega | (simp; omega)⟩ (n := x_2.length) (m := 1) (k := fun ax2 cx2 Bx2 hox2 => ?_)
        have hal2 : (x_2 ++ ([(toS x_3)] : List Str)).length = x_2.length + 1 := by first | rfl | exact List.length_append | simp
        refine JD_q (q_nil) (k := ?_)
        refine JD_q (q_fld FO_138_0) (k := ?_)
        refine JD_nil ?_
        refine JL_eqL (L' := (Bx2 ++ ((r13, Obj.cells [(Value.string (bs (toS x_3)))].toArray 9) :: ((l11, loopAt rr11 .busy none) :: (x_3B ++ ((rD11, Obj.deferred (some [])) :: ((r10, Obj.cells [(Value.string (bs s))].toArray 9) :: ((r8, Obj.cells [(Value.bool ((!(wIsPlain s)))), (Value.int .i64 (11))].toArray 145) :: ((r6, Obj.cells [(Value.bool (decide (300 < ((s.length : Nat) : Int)))), (Value.int .i64 (10))].toArray 145) :: ((r5, Obj.cells [(Value.bool (decide (300 < ((s.length : Nat) : Int)))), (Value.int .i64 (10)), (Value.bool ((!(wIsPlain s)))), (Value.int .i64 (11))].toArray 145) :: ((r4, Obj.cells [(stV x_4 r3 x_4b)].toArray 142) :: ((r3, Obj.cells [(Value.slice (x_2a) (x_2.length) (x_2c)), (Value.slice (x_3a) (x_3.length) (x_3c))].toArray 140) :: ((r2, Obj.cells [Value.nilIface].toArray 57) :: ((r1, Obj.cells [(Value.slice (none) (0) (0))].toArray 60) :: [])))))))))))))) (by simp only [List.append_nil, List.append_assoc, List.cons_append, List.nil_append]) ?_
        refine JL_s (w_store (l' := [_, _]) Tryz.sizeOf60) (k := ?_)
        refine JL_nil ?_
        refine JX_seq ?_
        refine J_reg ?_
        refine JL_q (q_move) (k := ?_)
        refine JL_q (q_nil) (k := ?_)
        refine JL_q (q_fld FO_138_1) (k := ?_)
        refine JL_s (w_store (l' := [_, _]) Tryz.sizeOf136) (k := ?_)
        refine JL_nil ?_
        refine JX_endI Tryz.results137 Res.nil ?_
        refine JL_nil ?_
        refine JX_seq ?_
        refine J_seq ?_
        refine J_reg ?_
        refine JL_q (q_move) (k := ?_)
        refine JL_q (q_func) (k := ?_)
        refine JL_q (q_assign) (k := ?_)
        refine JL_q (q_assign) (k := ?_)
        refine JL_nil ?_
        refine JX_seq ?_
        refine J_ret ?_
        refine JX_seq_ret ?_
        refine JX_retI Tryz.results118 (Res.tmp rfl (Res.tmp rfl Res.nil)) ?_
        refine JL_q (q_move) (k := ?_)
        refine JL_q (q_ext) (k := ?_)
        refine JL_q (q_ext) (k := ?_)
        refine JL_q (q_assign) (k := ?_)
        refine JL_q (q_assign) (k := ?_)
        refine JL_nil ?_
        refine JX_seq ?_
        refine J_seq ?_
        refine J_seq ?_
        refine J_reg ?_
        refine JL_q (q_move) (k := ?_)
        refine JL_q (q_neS (u := Value.nilIface) (v := Value.nilIface) (b := false) (fun w => by kernel_rfl)) (k := ?_)
        refine JL_nil ?_
        refine JX_seq ?_
        refine J_false rfl ?_
        refine J_skip ?_
        refine JX_seq ?_
        refine J_reg ?_
        refine JL_q (q_move) (k := ?_)
        refine JL_s (w_store (l' := [_]) Tryz.sizeOf142) (k := ?_)
        refine JL_nil ?_
        refine JX_block ?_
        refine JX_roundI (qc (qa q0)) ?_
        refine JL_nil ?_
        refine JX_seq ?_
        refine J_exit ?_
        refine JX_seq_exit ?_
        refine JX_block_miss rfl ?_
        refine JX_seq_exit ?_
        refine JX_inv_exit ?_
        refine JX_block_hit ?_
        refine JX_scope ?_
        refine JX_it0 (.inr rfl) Tryz.results119 q0 ?_
        refine JX_block ?_
        refine JX_seq ?_
        refine J_seq ?_
        refine J_reg ?_
        refine JL_q (q_move) (k := ?_)
        refine JL_q (q_nil) (k := ?_)
        refine JL_q (q_fld FO_140_0) (k := ?_)
        refine JL_q (q_fld FO_138_0) (k := ?_)
        refine JL_q (q_load Tryz.isAgg60) (k := ?_)
        refine JL_s (w_store (l' := [_]) Tryz.sizeOf60) (k := ?_)
        refine JL_s (w_store (l' := [_]) Tryz.sizeOf57) (k := ?_)
        refine JL_nil ?_
        refine JX_seq ?_
        refine J_ret ?_
        refine JX_retIM [rD11] (qa (qc (qa (qc q0)))) Tryz.results59 (Res.word Tryz.isAgg60 rfl me rfl (Res.word Tryz.isAgg57 rfl me rfl Res.nil)) ?_
        refine JL_q (q_move) (k := ?_)
        refine JL_q (q_ext) (k := ?_)
        refine JL_q (q_ext) (k := ?_)
        refine JL_q (q_assign) (k := ?_)
        refine JL_q (q_assign) (k := ?_)
        refine JL_nil ?_
        refine JX_seq ?_
        refine J_seq ?_
        refine J_reg ?_
        refine JL_q (q_move) (k := ?_)
        refine JL_q (q_move) (k := ?_)
        refine JL_inl (args := [Value.nilIface]) (c_callA Tryz.call60) Tryz.func60 Tryz.ntmps60 ?_
        refine J_seq ?_
        refine J_reg ?_
        refine JL_q (q_assign) (k := ?_)
        refine JL_nil ?_
        refine JX_seq ?_
        refine J_seq ?_
        refine J_reg ?_
        refine JL_a noMk (a_alloc (l := [_]) Tryz.zeroValue152) (k := fun r14 hr14 => ?_)
        refine JL_nil ?_
        refine JX_seq ?_
        refine J_seq ?_
        refine J_seq ?_
        refine J_reg ?_
        refine JL_q (q_move) (k := ?_)
        refine JL_q (q_mkI Tryz.underlying154) (k := ?_)
        refine JL_v (args := [Value.nilIface, (Value.iface 154 (Value.pointer (some ⟨r14, 0, none⟩)))]) (c_callA Tryz.call98) (fun w1 hw1 => as_nil_v w1) (k := ?_)
        refine JL_nil ?_
        refine JX_seq ?_
        refine J_false rfl ?_
        refine J_skip ?_
        refine JX_seq ?_
        refine J_seq ?_
        refine J_reg ?_
        refine JL_q (q_assign) (k := ?_)
        refine JL_nil ?_
        refine JX_seq ?_
        refine J_ret ?_
        refine JX_retI Tryz.results60 (Res.tmp rfl Res.nil) ?_
        refine JL_q (q_assign) (k := ?_)
        refine JL_q (q_assign) (k := ?_)
        refine JL_nil ?_
        refine JX_seq ?_
        refine J_ret ?_
        refine JX_ret Tryz.results33 (Res.tmp rfl (Res.tmp rfl Res.nil)) (fun w1 hw1 => ?_)
        exact ⟨ax2, cx2, Bx2, (by rw [((((hF.neg hq1).f hq2).ok4 ((((hF6.pos hq3).pos hq4).neg hq5).pos hq6))).eq] <;> first | rfl | (simp only [List.length_set] <;> rfl)), (fresh_segs (L := Bx2) (R := ((r14, Obj.cells [(Value.int .i64 (0))].toArray 152) :: ((l11, loopAt rr11 .exhausted none) :: ((r13, Obj.cells [(Value.string (bs (toS x_3)))].toArray 9) :: (x_3B ++ ((r10, Obj.cells [(Value.string (bs s))].toArray 9) :: ((r8, Obj.cells [(Value.bool ((!(wIsPlain s)))), (Value.int .i64 (11))].toArray 145) :: ((r6, Obj.cells [(Value.bool (decide (300 < ((s.length : Nat) : Int)))), (Value.int .i64 (10))].toArray 145) :: ((r5, Obj.cells [(Value.bool (decide (300 < ((s.length : Nat) : Int)))), (Value.int .i64 (10)), (Value.bool ((!(wIsPlain s)))), (Value.int .i64 (11))].toArray 145) :: ((r4, Obj.cells [(Value.func (.func 94) [(Value.pointer (some ⟨r3, 0, none⟩))].toArray [].toArray)].toArray 142) :: ((r3, Obj.cells [(Value.slice (ax2) ((x_2 ++ ([(toS x_3)] : List Str)).length) (cx2)), (Value.slice (none) (0) (0))].toArray 140) :: ((r2, Obj.cells [Value.nilIface].toArray 57) :: ((r1, Obj.cells [(Value.slice (ax2) ((x_2 ++ ([(toS x_3)] : List Str)).length) (cx2))].toArray 60) :: []))))))))))))) (hw1.perm (qb (qb q0))) (by simp)), (by rw [((((hF.neg hq1).f hq2).ok4 ((((hF6.pos hq3).pos hq4).neg hq5).pos hq6))).eq]; exact hox2)⟩
      by_cases hq7 : x_4 = 2
      · refine JL_alter 33 (Value.func (.func 117) [(Value.pointer (some ⟨r3, 0, none⟩))].toArray [].toArray) rfl (by rw [hq7]; rfl) ?_
        refine JL_eqL (L' := ((l11, loopAt rr11 .busy none) :: (x_3B ++ (x_2B ++ ((rD11, Obj.deferred (some [])) :: ((r10, Obj.cells [(Value.string (bs s))].toArray 9) :: ((r8, Obj.cells [(Value.bool ((!(wIsPlain s)))), (Value.int .i64 (11))].toArray 145) :: ((r6, Obj.cells [(Value.bool (decide (300 < ((s.length : Nat) : Int)))), (Value.int .i64 (10))].toArray 145) :: ((r5, Obj.cells [(Value.bool (decide (300 < ((s.length : Nat) : Int)))), (Value.int .i64 (10)), (Value.bool ((!(wIsPlain s)))), (Value.int .i64 (11))].toArray 145) :: ((r4, Obj.cells [(stV x_4 r3 x_4b)].toArray 142) :: ((r3, Obj.cells [(Value.slice (x_2a) (x_2.length) (x_2c)), (Value.slice (x_3a) (x_3.length) (x_3c))].toArray 140) :: ((r2, Obj.cells [Value.nilIface].toArray 57) :: ((r1, Obj.cells [(Value.slice (none) (0) (0))].toArray 60) :: []))))))))))))) (by rw [hq7]; rfl) ?_
        refine JL_inl (args := [(Value.pointer (some ⟨r3, 0, none⟩)), (Value.int .u8 (0)), (Value.bool (true))]) (c_callA Tryz.call117) Tryz.func117 Tryz.ntmps117 ?_
        refine J_seq ?_
        refine J_reg ?_
        refine JL_q (q_assign) (k := ?_)
        refine JL_q (q_assign) (k := ?_)
        refine JL_nil ?_
        refine JX_seq ?_
        refine J_seq ?_
        refine J_seq ?_
        refine J_reg ?_
        refine JL_q (q_move) (k := ?_)
        refine JL_nil ?_
        refine JX_seq ?_
        refine J_true rfl ?_
        refine J_seq ?_
        refine J_reg ?_
        refine JL_q (q_build (cs := [_]) Tryz.zeroValue152 PL_152) (k := ?_)
        refine JL_q (q_mkI Tryz.underlying152) (k := ?_)
        refine JL_q (q_assign) (k := ?_)
        refine JL_q (q_assign) (k := ?_)
        refine JL_nil ?_
        refine JX_seq ?_
        refine J_ret ?_
        refine JX_seq_ret ?_
        refine JX_retI Tryz.results117 (Res.tmp rfl (Res.tmp rfl Res.nil)) ?_
        refine JL_q (q_move) (k := ?_)
        refine JL_q (q_ext) (k := ?_)
        refine JL_q (q_ext) (k := ?_)
        refine JL_q (q_assign) (k := ?_)
        refine JL_q (q_assign) (k := ?_)
        refine JL_nil ?_
        refine JX_seq ?_
        refine J_seq ?_
        refine J_seq ?_
        refine J_reg ?_
        refine JL_q (q_move) (k := ?_)
        refine JL_q (q_neS (u := (Value.iface 152 (Value.agg [(Value.int .i64 (12))].toArray))) (v := Value.nilIface) (b := true) (fun w => by kernel_rfl)) (k := ?_)
        refine JL_nil ?_
        refine JX_seq ?_
        refine J_true rfl ?_
        refine J_seq ?_
        refine J_reg ?_
        refine JL_q (q_move) (k := ?_)
        refine JL_s (w_store (l' := [_]) Tryz.sizeOf60) (k := ?_)
        refine JL_s (w_store (l' := [_]) Tryz.sizeOf57) (k := ?_)
        refine JL_nil ?_
        refine JX_seq ?_
        refine J_ret ?_
        refine JX_seq_ret ?_
        refine JX_block_ret ?_
        refine JX_roundI_ret q0 ?_
        refine JL_nil ?_
        refine JX_seq ?_
        refine J_exit ?_
        refine JX_seq_exit ?_
        refine JX_block_miss rfl ?_
        refine JX_seq_exit ?_
        refine JX_inv_exit ?_
        refine JX_block_hit ?_
        refine JX_scope ?_
        refine JX_it1 (.inr rfl) Tryz.results119 q0 ?_
        refine J_ret ?_
        refine JX_block_ret ?_
        refine JX_seq_ret ?_
        refine JX_retIM [rD11] (qa (qc (qc q0))) Tryz.results59 (Res.word Tryz.isAgg60 rfl me rfl (Res.word Tryz.isAgg57 rfl me rfl Res.nil)) ?_
        refine JL_q (q_move) (k := ?_)
        refine JL_q (q_ext) (k := ?_)
        refine JL_q (q_ext) (k := ?_)
        refine JL_q (q_assign) (k := ?_)
        refine JL_q (q_assign) (k := ?_)
        refine JL_nil ?_
        refine JX_seq ?_
        refine J_seq ?_
        refine J_reg ?_
        refine JL_q (q_move) (k := ?_)
        refine JL_q (q_move) (k := ?_)
        refine JL_inl (args := [(Value.iface 152 (Value.agg [(Value.int .i64 (12))].toArray))]) (c_callA Tryz.call60) Tryz.func60 Tryz.ntmps60 ?_
        refine J_seq ?_
        refine J_reg ?_
        refine JL_q (q_assign) (k := ?_)
        refine JL_nil ?_
        refine JX_seq ?_
        refine J_seq ?_
        refine J_reg ?_
        refine JL_a noMk (a_alloc (l := [_]) Tryz.zeroValue152) (k := fun r15 hr15 => ?_)
        refine JL_nil ?_
        refine JX_seq ?_
        refine J_seq ?_
        refine J_seq ?_
        refine J_reg ?_
        refine JL_q (q_move) (k := ?_)
        refine JL_q (q_mkI Tryz.underlying154) (k := ?_)
        refine JL_p (args := [(Value.iface 152 (Value.agg [(Value.int .i64 (12))].toArray)), (Value.iface 154 (Value.pointer (some ⟨r15, 0, none⟩)))]) (c_callA Tryz.call98) (fun w1 hw1 => as_hit_t w1 (hG.ext hw1.ext_out).ety (hw1.own _ me)) (k := ?_)
        rintro w1_3 e1_3 w2_3 hw1_3 ⟨he_3, hT_3⟩
        refine ⟨_, ((r15, Obj.cells [(Value.int .i64 (12))].toArray 152) :: ((l11, loopAt rr11 .exhausted (some .ret)) :: (x_3B ++ (x_2B ++ ((r10, Obj.cells [(Value.string (bs s))].toArray 9) :: ((r8, Obj.cells [(Value.bool ((!(wIsPlain s)))), (Value.int .i64 (11))].toArray 145) :: ((r6, Obj.cells [(Value.bool (decide (300 < ((s.length : Nat) : Int)))), (Value.int .i64 (10))].toArray 145) :: ((r5, Obj.cells [(Value.bool (decide (300 < ((s.length : Nat) : Int)))), (Value.int .i64 (10)), (Value.bool ((!(wIsPlain s)))), (Value.int .i64 (11))].toArray 145) :: ((r4, Obj.cells [(stV x_4 r3 x_4b)].toArray 142) :: ((r3, Obj.cells [(Value.slice (x_2a) (x_2.length) (x_2c)), (Value.slice (x_3a) (x_3.length) (x_3c))].toArray 140) :: ((r2, Obj.cells [(Value.iface 152 (Value.agg [(Value.int .i64 (12))].toArray))].toArray 57) :: ((r1, Obj.cells [(Value.slice (none) (0) (0))].toArray 60) :: [])))))))))))), he_3, (hw1_3.perm q0).tr hT_3, ?_⟩
        refine JL_nil ?_
        refine JX_seq ?_
        refine J_true rfl ?_
        refine J_seq ?_
        refine J_reg ?_
        refine JL_q (q_fld FO_152_0) (k := ?_)
        refine JL_q (q_load Tryz.isAgg30) (k := ?_)
        refine JL_q (q_assign) (k := ?_)
        refine JL_nil ?_
        refine JX_seq ?_
        refine J_ret ?_
        refine JX_seq_ret ?_
        refine JX_retI Tryz.results60 (Res.tmp rfl Res.nil) ?_
        refine JL_q (q_assign) (k := ?_)
        refine JL_q (q_assign) (k := ?_)
        refine JL_nil ?_
        refine JX_seq ?_
        refine J_ret ?_
        refine JX_ret Tryz.results33 (Res.tmp rfl (Res.tmp rfl Res.nil)) (fun w1 hw1 => ?_)
        exact ⟨none, 0, [], (by rw [((((hF.neg hq1).f hq2).er4 (((((hF6.pos hq3).pos hq4).neg hq5).neg hq6).pos hq7))).eq] <;> first | rfl | (simp only [List.length_set] <;> rfl)), (hw1.fresh_out.sub (List.nil_sublist _)), (by rw [((((hF.neg hq1).f hq2).er4 (((((hF6.pos hq3).pos hq4).neg hq5).neg hq6).pos hq7))).eq]; exact OwnB.nil)⟩
      by_cases hq8 : x_4 = 3
      rotate_left
      · have hst9 : x_4 = 4 := by omega
        refine JL_alter 33 (Value.func (.func 152) [].toArray [(Value.pointer (some ⟨x_4b, 0, none⟩))].toArray) rfl (by rw [hst9]; rfl) ?_
        refine JL_eqL (L' := ((l11, loopAt rr11 .busy none) :: ((x_4b, Obj.cells [(Value.pointer (some ⟨r3, 0, none⟩))].toArray 135) :: (x_3B ++ (x_2B ++ ((rD11, Obj.deferred (some [])) :: ((r10, Obj.cells [(Value.string (bs s))].toArray 9) :: ((r8, Obj.cells [(Value.bool ((!(wIsPlain s)))), (Value.int .i64 (11))].toArray 145) :: ((r6, Obj.cells [(Value.bool (decide (300 < ((s.length : Nat) : Int)))), (Value.int .i64 (10))].toArray 145) :: ((r5, Obj.cells [(Value.bool (decide (300 < ((s.length : Nat) : Int)))), (Value.int .i64 (10)), (Value.bool ((!(wIsPlain s)))), (Value.int .i64 (11))].toArray 145) :: ((r4, Obj.cells [(stV x_4 r3 x_4b)].toArray 142) :: ((r3, Obj.cells [(Value.slice (x_2a) (x_2.length) (x_2c)), (Value.slice (x_3a) (x_3.length) (x_3c))].toArray 140) :: ((r2, Obj.cells [Value.nilIface].toArray 57) :: ((r1, Obj.cells [(Value.slice (none) (0) (0))].toArray 60) :: [])))))))))))))) (by rw [hst9]; rfl) ?_
        refine JL_inl (args := [(Value.int .u8 (0)), (Value.bool (true)), (Value.pointer (some ⟨x_4b, 0, none⟩))]) (c_callA Tryz.call152) Tryz.func152 Tryz.ntmps152 ?_
        refine J_seq ?_
        refine J_reg ?_
        refine JL_q (q_assign) (k := ?_)
        refine JL_q (q_assign) (k := ?_)
        refine JL_nil ?_
        refine JX_seq ?_
        refine J_seq ?_
        refine J_seq ?_
        refine J_reg ?_
        refine JL_q (q_move) (k := ?_)
        refine JL_q (q_move) (k := ?_)
        refine JL_skips 6 rfl ?_
        refine JL_q (q_pickT) (k := ?_)
        refine JL_q (q_build (cs := [_, _]) Tryz.zeroValue145 PL_145) (k := ?_)
        refine JL_a noMk (a_bslice (l := [_, _]) Tryz.runUnderlying193 Tryz.sizeOf145 Tryz.zeroValue145) (k := fun r19 hr19 => ?_)
        refine JL_inl (args := [(Value.slice (some ⟨r19, 0, none⟩) (1) (1))]) (c_callA Tryz.call95) Tryz.func95 Tryz.ntmps95 ?_
        refine J_seq ?_
        refine J_reg ?_
        refine JL_q (q_assign) (k := ?_)
        refine JL_nil ?_
        refine JX_seq ?_
        refine J_seq ?_
        refine J_seq ?_
        refine J_reg ?_
        refine JL_q (q_move) (k := ?_)
        refine JL_q (q_lenS Tryz.runUnderlying193) (k := ?_)
        refine JL_q (q_move) (k := ?_)
        refine JL_nil ?_
        refine JX_seq ?_
        refine J_block ?_
        refine J_unroll ?_
        refine J_seq ?_
        refine J_reg ?_
        refine JL_q (q_lss) (k := ?_)
        refine JL_nil ?_
        refine JX_seq ?_
        refine J_seq ?_
        refine J_true rfl ?_
        refine J_skip ?_
        refine JX_seq ?_
        refine J_seq ?_
        refine J_block ?_
        refine J_seq ?_
        refine J_reg ?_
        refine JL_q (q_idxO Tryz.runUnderlying193 Tryz.sizeOf145 0) (k := ?_)
        refine JL_q (q_loadA Tryz.isAgg145 Tryz.sizeOf145) (k := ?_)
        refine JL_a noMk (a_alloc (l := [_, _]) Tryz.zeroValue145) (k := fun r20 hr20 => ?_)
        refine JL_s (w_store (l' := [_, _]) Tryz.sizeOf145) (k := ?_)
        refine JL_nil ?_
        refine JX_seq ?_
        refine J_seq ?_
        refine J_reg ?_
        refine JL_q (q_fld FO_145_0) (k := ?_)
        refine JL_q (q_load Tryz.isAgg4) (k := ?_)
        refine JL_nil ?_
        refine JX_seq ?_
        refine J_true rfl ?_
        refine J_seq ?_
        refine J_reg ?_
        refine JL_q (q_fld FO_145_1) (k := ?_)
        refine JL_q (q_load Tryz.isAgg30) (k := ?_)
        refine JL_q (q_build (cs := [_]) Tryz.zeroValue152 PL_152) (k := ?_)
        refine JL_q (q_mkI Tryz.underlying152) (k := ?_)
        refine JL_q (q_assign) (k := ?_)
        refine JL_nil ?_
        refine JX_seq ?_
        refine J_ret ?_
        refine JX_block_ret ?_
        refine JX_seq_ret ?_
        refine JX_inv_ret ?_
        refine JX_block_ret ?_
        refine JX_seq_ret ?_
        refine JX_retI Tryz.results95 (Res.tmp rfl Res.nil) ?_
        refine JL_q (q_assign) (k := ?_)
        refine JL_nil ?_
        refine JX_seq ?_
        refine J_seq ?_
        refine J_reg ?_
        refine JL_q (q_move) (k := ?_)
        refine JL_q (q_neS (u := (Value.iface 152 (Value.agg [(Value.int .i64 (13))].toArray))) (v := Value.nilIface) (b := true) (fun w => by kernel_rfl)) (k := ?_)
        refine JL_nil ?_
        refine JX_seq ?_
        refine J_true rfl ?_
        refine J_seq ?_
        refine J_reg ?_
        refine JL_q (q_move) (k := ?_)
        refine JL_q (q_assign) (k := ?_)
        refine JL_q (q_assign) (k := ?_)
        refine JL_nil ?_
        refine JX_seq ?_
        refine J_ret ?_
        refine JX_seq_ret ?_
        refine JX_retI Tryz.results152 (Res.tmp rfl (Res.tmp rfl Res.nil)) ?_
        refine JL_q (q_move) (k := ?_)
        refine JL_q (q_ext) (k := ?_)
        refine JL_q (q_ext) (k := ?_)
        refine JL_q (q_assign) (k := ?_)
        refine JL_q (q_assign) (k := ?_)
        refine JL_nil ?_
        refine JX_seq ?_
        refine J_seq ?_
        refine J_seq ?_
        refine J_reg ?_
        refine JL_q (q_move) (k := ?_)
        refine JL_q (q_neS (u := (Value.iface 152 (Value.agg [(Value.int .i64 (13))].toArray))) (v := Value.nilIface) (b := true) (fun w => by kernel_rfl)) (k := ?_)
        refine JL_nil ?_
        refine JX_seq ?_
        refine J_true rfl ?_
        refine J_seq ?_
        refine J_reg ?_
        refine JL_q (q_move) (k := ?_)
        refine JL_s (w_store (l' := [_]) Tryz.sizeOf60) (k := ?_)
        refine JL_s (w_store (l' := [_]) Tryz.sizeOf57) (k := ?_)
        refine JL_nil ?_
        refine JX_seq ?_
        refine J_ret ?_
        refine JX_seq_ret ?_
        refine JX_block_ret ?_
        refine JX_roundI_ret (qa (qa q0)) ?_
        refine JL_nil ?_
        refine JX_seq ?_
        refine J_exit ?_
        refine JX_seq_exit ?_
        refine JX_block_miss rfl ?_
        refine JX_seq_exit ?_
        refine JX_inv_exit ?_
        refine JX_block_hit ?_
        refine JX_scope ?_
        refine JX_it1 (.inr rfl) Tryz.results119 q0 ?_
        refine J_ret ?_
        refine JX_block_ret ?_
        refine JX_seq_ret ?_
        refine JX_retIM [rD11] (qa (qa (qa (qa (qc (qc q0)))))) Tryz.results59 (Res.word Tryz.isAgg60 rfl me rfl (Res.word Tryz.isAgg57 rfl me rfl Res.nil)) ?_
        refine JL_q (q_move) (k := ?_)
        refine JL_q (q_ext) (k := ?_)
        refine JL_q (q_ext) (k := ?_)
        refine JL_q (q_assign) (k := ?_)
        refine JL_q (q_assign) (k := ?_)
        refine JL_nil ?_
        refine JX_seq ?_
        refine J_seq ?_
        refine J_reg ?_
        refine JL_q (q_move) (k := ?_)
        refine JL_q (q_move) (k := ?_)
        refine JL_inl (args := [(Value.iface 152 (Value.agg [(Value.int .i64 (13))].toArray))]) (c_callA Tryz.call60) Tryz.func60 Tryz.ntmps60 ?_
        refine J_seq ?_
        refine J_reg ?_
        refine JL_q (q_assign) (k := ?_)
        refine JL_nil ?_
        refine JX_seq ?_
        refine J_seq ?_
        refine J_reg ?_
        refine JL_a noMk (a_alloc (l := [_]) Tryz.zeroValue152) (k := fun r21 hr21 => ?_)
        refine JL_nil ?_
        refine JX_seq ?_
        refine J_seq ?_
        refine J_seq ?_
        refine J_reg ?_
        refine JL_q (q_move) (k := ?_)
        refine JL_q (q_mkI Tryz.underlying154) (k := ?_)
        refine JL_p (args := [(Value.iface 152 (Value.agg [(Value.int .i64 (13))].toArray)), (Value.iface 154 (Value.pointer (some ⟨r21, 0, none⟩)))]) (c_callA Tryz.call98) (fun w1 hw1 => as_hit_t w1 (hG.ext hw1.ext_out).ety (hw1.own _ me)) (k := ?_)
        rintro w1_4 e1_4 w2_4 hw1_4 ⟨he_4, hT_4⟩
        refine ⟨_, ((r21, Obj.cells [(Value.int .i64 (13))].toArray 152) :: ((l11, loopAt rr11 .exhausted (some .ret)) :: ((r20, Obj.cells [(Value.bool (true)), (Value.int .i64 (13))].toArray 145) :: ((r19, Obj.cells [(Value.bool (true)), (Value.int .i64 (13))].toArray 145) :: ((x_4b, Obj.cells [(Value.pointer (some ⟨r3, 0, none⟩))].toArray 135) :: (x_3B ++ (x_2B ++ ((r10, Obj.cells [(Value.string (bs s))].toArray 9) :: ((r8, Obj.cells [(Value.bool ((!(wIsPlain s)))), (Value.int .i64 (11))].toArray 145) :: ((r6, Obj.cells [(Value.bool (decide (300 < ((s.length : Nat) : Int)))), (Value.int .i64 (10))].toArray 145) :: ((r5, Obj.cells [(Value.bool (decide (300 < ((s.length : Nat) : Int)))), (Value.int .i64 (10)), (Value.bool ((!(wIsPlain s)))), (Value.int .i64 (11))].toArray 145) :: ((r4, Obj.cells [(stV x_4 r3 x_4b)].toArray 142) :: ((r3, Obj.cells [(Value.slice (x_2a) (x_2.length) (x_2c)), (Value.slice (x_3a) (x_3.length) (x_3c))].toArray 140) :: ((r2, Obj.cells [(Value.iface 152 (Value.agg [(Value.int .i64 (13))].toArray))].toArray 57) :: ((r1, Obj.cells [(Value.slice (none) (0) (0))].toArray 60) :: []))))))))))))))), he_4, (hw1_4.perm q0).tr hT_4, ?_⟩
        refine JL_nil ?_
        refine JX_seq ?_
        refine J_true rfl ?_
        refine J_seq ?_
        refine J_reg ?_
        refine JL_q (q_fld FO_152_0) (k := ?_)
        refine JL_q (q_load Tryz.isAgg30) (k := ?_)
        refine JL_q (q_assign) (k := ?_)
        refine JL_nil ?_
        refine JX_seq ?_
        refine J_ret ?_
        refine JX_seq_ret ?_
        refine JX_retI Tryz.results60 (Res.tmp rfl Res.nil) ?_
        refine JL_q (q_assign) (k := ?_)
        refine JL_q (q_assign) (k := ?_)
        refine JL_nil ?_
        refine JX_seq ?_
        refine J_ret ?_
        refine JX_ret Tryz.results33 (Res.tmp rfl (Res.tmp rfl Res.nil)) (fun w1 hw1 => ?_)
        exact ⟨none, 0, [], (by rw [((((hF.neg hq1).f hq2).er4 ((((((hF6.pos hq3).pos hq4).neg hq5).neg hq6).neg hq7).neg hq8))).eq] <;> first | rfl | (simp only [List.length_set] <;> rfl)), (hw1.fresh_out.sub (List.nil_sublist _)), (by rw [((((hF.neg hq1).f hq2).er4 ((((((hF6.pos hq3).pos hq4).neg hq5).neg hq6).neg hq7).neg hq8))).eq]; exact OwnB.nil)⟩
      refine JL_alter 33 (Value.func (.func 151) [].toArray [(Value.pointer (some ⟨x_4b, 0, none⟩))].toArray) rfl (by rw [hq8]; rfl) ?_
      refine JL_eqL (L' := ((l11, loopAt rr11 .busy none) :: ((x_4b, Obj.cells [(Value.pointer (some ⟨r3, 0, none⟩))].toArray 135) :: (x_3B ++ (x_2B ++ ((rD11, Obj.deferred (some [])) :: ((r10, Obj.cells [(Value.string (bs s))].toArray 9) :: ((r8, Obj.cells [(Value.bool ((!(wIsPlain s)))), (Value.int .i64 (11))].toArray 145) :: ((r6, Obj.cells [(Value.bool (decide (300 < ((s.length : Nat) : Int)))), (Value.int .i64 (10))].toArray 145) :: ((r5, Obj.cells [(Value.bool (decide (300 < ((s.length : Nat) : Int)))), (Value.int .i64 (10)), (Value.bool ((!(wIsPlain s)))), (Value.int .i64 (11))].toArray 145) :: ((r4, Obj.cells [(stV x_4 r3 x_4b)].toArray 142) :: ((r3, Obj.cells [(Value.slice (x_2a) (x_2.length) (x_2c)), (Value.slice (x_3a) (x_3.length) (x_3c))].toArray 140) :: ((r2, Obj.cells [Value.nilIface].toArray 57) :: ((r1, Obj.cells [(Value.slice (none) (0) (0))].toArray 60) :: [])))))))))))))) (by rw [hq8]; rfl) ?_
      refine JL_inl (args := [(Value.int .u8 (0)), (Value.bool (true)), (Value.pointer (some ⟨x_4b, 0, none⟩))]) (c_callA Tryz.call151) Tryz.func151 Tryz.ntmps151 ?_
      refine J_seq ?_
      refine J_reg ?_
      refine JL_q (q_assign) (k := ?_)
      refine JL_q (q_assign) (k := ?_)
      refine JL_nil ?_
      refine JX_seq ?_
      refine J_seq ?_
      refine J_plan mixed 13 [(true, 0), (true, 1), (true, 2), (true, 3), (true, 4), (true, 5), (true, 6), (true, 7), (true, 8), (false, 9), (false, 10), (true, 11), (true, 12)] (by kernel_rfl) ?_
      refine JD_q (q_load Tryz.isAgg135) (k := ?_)
      refine JD_q (q_func) (k := ?_)
      refine JD_q (q_move) (k := ?_)
      refine JD_q (q_not) (k := ?_)
      refine JD_q (q_move) (k := ?_)
      refine JD_skips 2 rfl ?_
      refine JD_q (q_pickF) (k := ?_)
      refine JD_q (q_build (cs := [_, _]) Tryz.zeroValue145 PL_145) (k := ?_)
      refine JD_a noMk (a_bslice (l := [_, _]) Tryz.runUnderlying193 Tryz.sizeOf145 Tryz.zeroValue145) (k := fun r16 hr16 => ?_)
      refine JD_inl (args := [(Value.slice (some ⟨r16, 0, none⟩) (1) (1))]) (c_callA Tryz.call95) Tryz.func95 Tryz.ntmps95 ?_
      refine J_seq ?_
      refine J_reg ?_
      refine JL_q (q_assign) (k := ?_)
      refine JL_nil ?_
      refine JX_seq ?_
      refine J_seq ?_
      refine J_seq ?_
      refine J_reg ?_
      refine JL_q (q_move) (k := ?_)
      refine JL_q (q_lenS Tryz.runUnderlying193) (k := ?_)
      refine JL_q (q_move) (k := ?_)
      refine JL_nil ?_
      refine JX_seq ?_
      refine J_block ?_
      refine J_unroll ?_
      refine J_seq ?_
      refine J_reg ?_
      refine JL_q (q_lss) (k := ?_)
      refine JL_nil ?_
      refine JX_seq ?_
      refine J_seq ?_
      refine J_true rfl ?_
      refine J_skip ?_
      refine JX_seq ?_
      refine J_seq ?_
      refine J_block ?_
      refine J_seq ?_
      refine J_reg ?_
      refine JL_q (q_idxO Tryz.runUnderlying193 Tryz.sizeOf145 0) (k := ?_)
      refine JL_q (q_loadA Tryz.isAgg145 Tryz.sizeOf145) (k := ?_)
      refine JL_a noMk (a_alloc (l := [_, _]) Tryz.zeroValue145) (k := fun r17 hr17 => ?_)
      refine JL_s (w_store (l' := [_, _]) Tryz.sizeOf145) (k := ?_)
      refine JL_nil ?_
      refine JX_seq ?_
      refine J_seq ?_
      refine J_reg ?_
      refine JL_q (q_fld FO_145_0) (k := ?_)
      refine JL_q (q_load Tryz.isAgg4) (k := ?_)
      refine JL_nil ?_
      refine JX_seq ?_
      refine J_false rfl ?_
      refine J_skip ?_
      refine JX_block ?_
      refine JX_seq ?_
      refine J_reg ?_
      refine JL_q (q_add) (k := ?_)
      refine JL_q (q_move) (k := ?_)
      refine JL_nil ?_
      refine JX_again ?_
      refine J_seq ?_
      refine J_reg ?_
      refine JL_q (q_lss) (k := ?_)
      refine JL_nil ?_
      refine JX_seq ?_
      refine J_seq ?_
      refine J_false rfl ?_
      refine J_exit ?_
      refine JX_seq_exit ?_
      refine JX_inv_exit ?_
      refine JX_block_hit ?_
      refine JX_seq ?_
      refine J_seq ?_
      refine J_reg ?_
      refine JL_q (q_assign) (k := ?_)
      refine JL_nil ?_
      refine JX_seq ?_
      refine J_ret ?_
      refine JX_retID ((r17, Obj.cells [(Value.bool (false)), (Value.int .i64 (12))].toArray 145) :: ((r16, Obj.cells [(Value.bool (false)), (Value.int .i64 (12))].toArray 145) :: ((l11, loopAt rr11 .busy none) :: ((x_4b, Obj.cells [(Value.pointer (some ⟨r3, 0, none⟩))].toArray 135) :: (x_3B ++ (x_2B ++ ((rD11, Obj.deferred (some [])) :: ((r10, Obj.cells [(Value.string (bs s))].toArray 9) :: ((r8, Obj.cells [(Value.bool ((!(wIsPlain s)))), (Value.int .i64 (11))].toArray 145) :: ((r6, Obj.cells [(Value.bool (decide (300 < ((s.length : Nat) : Int)))), (Value.int .i64 (10))].toArray 145) :: ((r5, Obj.cells [(Value.bool (decide (300 < ((s.length : Nat) : Int)))), (Value.int .i64 (10)), (Value.bool ((!(wIsPlain s)))), (Value.int .i64 (11))].toArray 145) :: ((r4, Obj.cells [(stV x_4 r3 x_4b)].toArray 142) :: ((r3, Obj.cells [(Value.slice (x_2a) (x_2.length) (x_2c)), (Value.slice (x_3a) (x_3.length) (x_3c))].toArray 140) :: ((r2, Obj.cells [Value.nilIface].toArray 57) :: ((r1, Obj.cells [(Value.slice (none) (0) (0))].toArray 60) :: []))))))))))))))) [] Tryz.results95 (Res.tmp rfl Res.nil) (List.Perm.trans (List.Perm.refl _) (List.Perm.of_eq (by first | rfl | (simp only [List.cons_append, List.nil_append, List.append_assoc, List.append_nil]; done) | (simp only [List.cons_append, List.nil_append, List.append_assoc, List.append_nil]; rfl)))) (List.Sublist.cons _ (List.Sublist.refl _)) ?_
      refine JD_q (q_assign) (k := ?_)
      refine JD_q (q_assign) (k := ?_)
      refine JD_nil0 ?_
      refine JL_nil ?_
      refine JX_seq ?_
      refine J_ret ?_
      refine JX_retI Tryz.results151 (Res.tmp rfl (Res.tmp rfl Res.nil)) ?_
      refine JL_q (q_move) (k := ?_)
      refine JL_q (q_ext) (k := ?_)
      refine JL_q (q_ext) (k := ?_)
      refine JL_q (q_assign) (k := ?_)
      refine JL_q (q_assign) (k := ?_)
      refine JL_nil ?_
      refine JX_seq ?_
      refine J_seq ?_
      refine J_seq ?_
      refine J_reg ?_
      refine JL_q (q_move) (k := ?_)
      refine JL_q (q_neS (u := Value.nilIface) (v := Value.nilIface) (b := false) (fun w => by kernel_rfl)) (k := ?_)
      refine JL_nil ?_
      refine JX_seq ?_
      refine J_false rfl ?_
      refine J_skip ?_
      refine JX_seq ?_
      refine J_reg ?_
      refine JL_q (q_move) (k := ?_)
      refine JL_s (w_store (l' := [_]) Tryz.sizeOf142) (k := ?_)
      refine JL_nil ?_
      refine JX_block ?_
      refine JX_roundI (qa (qa q0)) ?_
      refine JL_nil ?_
      refine JX_seq ?_
      refine J_exit ?_
      refine JX_seq_exit ?_
      refine JX_block_miss rfl ?_
      refine JX_seq_exit ?_
      refine JX_inv_exit ?_
      refine JX_block_hit ?_
      refine JX_scope ?_
      refine JX_it0 (.inr rfl) Tryz.results119 q0 ?_
      refine JX_block ?_
      refine JX_seq ?_
      refine J_seq ?_
      refine J_reg ?_
      refine JL_q (q_move) (k := ?_)
      refine JL_q (q_nil) (k := ?_)
      refine JL_q (q_fld FO_140_0) (k := ?_)
      refine JL_q (q_fld FO_138_0) (k := ?_)
      refine JL_q (q_load Tryz.isAgg60) (k := ?_)
      refine JL_s (w_store (l' := [_]) Tryz.sizeOf60) (k := ?_)
      refine JL_s (w_store (l' := [_]) Tryz.sizeOf57) (k := ?_)
      refine JL_nil ?_
      refine JX_seq ?_
      refine J_ret ?_
      refine JX_retIM [rD11] (qa (qa (qa (qa (qc (qc q0)))))) Tryz.results59 (Res.word Tryz.isAgg60 rfl me rfl (Res.word Tryz.isAgg57 rfl me rfl Res.nil)) ?_
      refine JL_q (q_move) (k := ?_)
      refine JL_q (q_ext) (k := ?_)
      refine JL_q (q_ext) (k := ?_)
      refine JL_q (q_assign) (k := ?_)
      refine JL_q (q_assign) (k := ?_)
      refine JL_nil ?_
      refine JX_seq ?_
      refine J_seq ?_
      refine J_reg ?_
      refine JL_q (q_move) (k := ?_)
      refine JL_q (q_move) (k := ?_)
      refine JL_inl (args := [Value.nilIface]) (c_callA Tryz.call60) Tryz.func60 Tryz.ntmps60 ?_
      refine J_seq ?_
      refine J_reg ?_
      refine JL_q (q_assign) (k := ?_)
      refine JL_nil ?_
      refine JX_seq ?_
      refine J_seq ?_
      refine J_reg ?_
      refine JL_a noMk (a_alloc (l := [_]) Tryz.zeroValue152) (k := fun r18 hr18 => ?_)
      refine JL_nil ?_
      refine JX_seq ?_
      refine J_seq ?_
      refine J_seq ?_
      refine J_reg ?_
      refine JL_q (q_move) (k := ?_)
      refine JL_q (q_mkI Tryz.underlying154) (k := ?_)
      refine JL_v (args := [Value.nilIface, (Value.iface 154 (Value.pointer (some ⟨r18, 0, none⟩)))]) (c_callA Tryz.call98) (fun w1 hw1 => as_nil_v w1) (k := ?_)
      refine JL_nil ?_
      refine JX_seq ?_
      refine J_false rfl ?_
      refine J_skip ?_
      refine JX_seq ?_
      refine J_seq ?_
      refine J_reg ?_
      refine JL_q (q_assign) (k := ?_)
      refine JL_nil ?_
      refine JX_seq ?_
      refine J_ret ?_
      refine JX_retI Tryz.results60 (Res.tmp rfl Res.nil) ?_
      refine JL_q (q_assign) (k := ?_)
      refine JL_q (q_assign) (k := ?_)
      refine JL_nil ?_
      refine JX_seq ?_
      refine J_ret ?_
      refine JX_ret Tryz.results33 (Res.tmp rfl (Res.tmp rfl Res.nil)) (fun w1 hw1 => ?_)
      exact ⟨x_2a, x_2c, x_2B, (by rw [((((hF.neg hq1).f hq2).ok4 ((((((hF6.pos hq3).pos hq4).neg hq5).neg hq6).neg hq7).pos hq8))).eq] <;> first | rfl | (simp only [List.length_set] <;> rfl)), (fresh_segs (L := x_2B) (R := ((r18, Obj.cells [(Value.int .i64 (0))].toArray 152) :: ((l11, loopAt rr11 .exhausted none) :: ((r17, Obj.cells [(Value.bool (false)), (Value.int .i64 (12))].toArray 145) :: ((r16, Obj.cells [(Value.bool (false)), (Value.int .i64 (12))].toArray 145) :: ((x_4b, Obj.cells [(Value.pointer (some ⟨r3, 0, none⟩))].toArray 135) :: (x_3B ++ ((r10, Obj.cells [(Value.string (bs s))].toArray 9) :: ((r8, Obj.cells [(Value.bool ((!(wIsPlain s)))), (Value.int .i64 (11))].toArray 145) :: ((r6, Obj.cells [(Value.bool (decide (300 < ((s.length : Nat) : Int)))), (Value.int .i64 (10))].toArray 145) :: ((r5, Obj.cells [(Value.bool (decide (300 < ((s.length : Nat) : Int)))), (Value.int .i64 (10)), (Value.bool ((!(wIsPlain s)))), (Value.int .i64 (11))].toArray 145) :: ((r4, Obj.cells [(Value.func (.func 94) [(Value.pointer (some ⟨r3, 0, none⟩))].toArray [].toArray)].toArray 142) :: ((r3, Obj.cells [(Value.slice (x_2a) (x_2.length) (x_2c)), (Value.slice (x_3a) (x_3.length) (x_3c))].toArray 140) :: ((r2, Obj.cells [Value.nilIface].toArray 57) :: ((r1, Obj.cells [(Value.slice (x_2a) (x_2.length) (x_2c))].toArray 60) :: []))))))))))))))) (hw1.perm (qb (qb (qb (qb (qb (qd q0))))))) (by simp)), (by rw [((((hF.neg hq1).f hq2).ok4 ((((((hF6.pos hq3).pos hq4).neg hq5).neg hq6).neg hq7).pos hq8))).eq]; exact hx_2)⟩
    refine J_skip ?_
    refine JX_seq ?_
    refine J_seq ?_
    refine J_reg ?_
    refine JL_q (q_move) (k := ?_)
    refine JL_q (q_load Tryz.isAgg9) (k := ?_)
    refine JL_q (q_move) (k := ?_)
    have hu19 := u8_lt (s.getD x_1 default)
    refine JL_q (q_idxT (s := s) x_1 Tryz.runUnderlying9 (by first | exact ix)) (k := ?_)
    refine JL_yIn (vs := [(Value.int .u8 ((((s.getD x_1 default).toNat : Nat) : Int))), (Value.bool (false))]) hl11 (qc (qc (qc q0))) y_call ?_
    refine J_seq ?_
    refine J_reg ?_
    refine JL_q (q_assign) (k := ?_)
    refine JL_nil ?_
    refine JX_seq ?_
    refine J_reg ?_
    refine JL_q (q_assign) (k := ?_)
    refine JL_nil ?_
    refine JX_begin q0 ?_
    refine J_block ?_
    refine J_seq ?_
    refine J_reg ?_
    refine JL_q (q_load Tryz.isAgg142) (k := ?_)
    refine JL_q (q_move) (k := ?_)
    refine JL_q (q_move) (k := ?_)
    by_cases hq10 : x_4 = 0
    · refine JL_alter 33 (Value.func (.func 94) [(Value.pointer (some ⟨r3, 0, none⟩))].toArray [].toArray) rfl (by rw [hq10]; rfl) ?_
      refine JL_eqL (L' := ((l11, loopAt rr11 .busy none) :: (x_3B ++ (x_2B ++ ((rD11, Obj.deferred (some [])) :: ((r10, Obj.cells [(Value.string (bs s))].toArray 9) :: ((r8, Obj.cells [(Value.bool ((!(wIsPlain s)))), (Value.int .i64 (11))].toArray 145) :: ((r6, Obj.cells [(Value.bool (decide (300 < ((s.length : Nat) : Int)))), (Value.int .i64 (10))].toArray 145) :: ((r5, Obj.cells [(Value.bool (decide (300 < ((s.length : Nat) : Int)))), (Value.int .i64 (10)), (Value.bool ((!(wIsPlain s)))), (Value.int .i64 (11))].toArray 145) :: ((r4, Obj.cells [(stV x_4 r3 x_4b)].toArray 142) :: ((r3, Obj.cells [(Value.slice (x_2a) (x_2.length) (x_2c)), (Value.slice (x_3a) (x_3.length) (x_3c))].toArray 140) :: ((r2, Obj.cells [Value.nilIface].toArray 57) :: ((r1, Obj.cells [(Value.slice (none) (0) (0))].toArray 60) :: []))))))))))))) (by rw [hq10]; rfl) ?_
      refine JL_inl (args := [(Value.pointer (some ⟨r3, 0, none⟩)), (Value.int .u8 ((((s.getD x_1 default).toNat : Nat) : Int))), (Value.bool (false))]) (c_callA Tryz.call94) Tryz.func94 Tryz.ntmps94 ?_
      refine J_seq ?_
      refine J_reg ?_
      refine JL_q (q_assign) (k := ?_)
      refine JL_q (q_assign) (k := ?_)
      refine JL_nil ?_
      refine JX_seq ?_
      refine J_seq ?_
      refine J_block ?_
      refine J_seq ?_
      refine J_reg ?_
      refine JL_q (q_move) (k := ?_)
      refine JL_q (q_move) (k := ?_)
      refine JL_qg (q_move) (k := ?_)
      refine JL_qg (q_eql) (k := ?_)
      refine JL_q (q_pickF) (k := ?_)
      refine JL_q (q_assign) (k := ?_)
      refine JL_nil ?_
      refine JX_seq ?_
      refine J_dec rfl (fun hq11 => ?_) (fun hq11 => ?_)
      · refine J_seq ?_
        refine J_reg ?_
        refine JL_q (q_move) (k := ?_)
        refine JL_q (q_func) (k := ?_)
        refine JL_q (q_assign) (k := ?_)
        refine JL_q (q_assign) (k := ?_)
        refine JL_nil ?_
        refine JX_seq ?_
        refine J_ret ?_
        refine JX_block_ret ?_
        refine JX_seq_ret ?_
        refine JX_retI Tryz.results94 (Res.tmp rfl (Res.tmp rfl Res.nil)) ?_
        refine JL_q (q_move) (k := ?_)
        refine JL_q (q_ext) (k := ?_)
        refine JL_q (q_ext) (k := ?_)
        refine JL_q (q_assign) (k := ?_)
        refine JL_q (q_assign) (k := ?_)
        refine JL_nil ?_
        refine JX_seq ?_
        refine J_seq ?_
        refine J_seq ?_
        refine J_reg ?_
        refine JL_q (q_move) (k := ?_)
        refine JL_q (q_neS (u := Value.nilIface) (v := Value.nilIface) (b := false) (fun w => by kernel_rfl)) (k := ?_)
        refine JL_nil ?_
        refine JX_seq ?_
        refine J_false rfl ?_
        refine J_skip ?_
        refine JX_seq ?_
        refine J_reg ?_
        refine JL_q (q_move) (k := ?_)
        refine JL_s (w_store (l' := [_]) Tryz.sizeOf142) (k := ?_)
        refine JL_nil ?_
        refine JX_block ?_
        refine JX_roundI q0 ?_
        refine JL_q (q_not) (k := ?_)
        refine JL_nil ?_
        refine JX_seq ?_
        refine J_false rfl ?_
        refine J_skip ?_
        refine JX_block ?_
        refine JX_seq ?_
        refine J_reg ?_
        refine JL_q (q_add) (k := ?_)
        refine JL_q (q_move) (k := ?_)
        refine JL_nil ?_
        refine JX_permL _ ((((((((((((qa (qc (qc (qa (qa (qa (qa (qa (qa (qa (qa q0))))))))))).trans (qa (qa (qc (qc (qa (qa (qa (qa (qa (qa (qa q0)))))))))))).trans (qa (qa (qa (qc (qc (qa (qa (qa (qa (qa (qa q0)))))))))))).trans (qa (qa (qa (qa (qc (qc (qa (qa (qa (qa (qa q0)))))))))))).trans (qa (qa (qa (qa (qa (qc (qc (qa (qa (qa (qa q0)))))))))))).trans (qa (qa (qa (qa (qa (qa (qc (qc (qa (qa (qa q0)))))))))))).trans (qa (qa (qa (qa (qa (qa (qa (qc (qc (qa (qa q0)))))))))))).trans (qa (qa (qa (qa (qa (qa (qa (qa (qc (qc (qa q0)))))))))))).trans (qa (qa (qa (qa (qa (qa (qa (qa (qa (qc (qc q0)))))))))))).trans (qa (qa (qa (qa (qa (qa (qa (qa (qa q0)))))))))).trans (qb (qb (qb (qb (qb (qb (qb (qb (qb (qb (qd q0)))))))))))).trans (qd (qb (qb (qb (qb (qb (qb (qb (qb (qb (qb q0)))))))))))) ?_
        exact JX_inv12 n_5 (x_1 + 1) x_2 x_2a x_2c x_2B x_3 x_3a x_3c x_3B 0 0 ⟨by omega, ((((hF6.pos hq3).neg hq4).pos hq10).pos hq11), hx_2, hx_3, (by omega), (by first | exact lb), (by first | exact lb)⟩ (Nat.lt_succ_self _) se (List.Perm.refl _)
      refine J_seq ?_
      refine J_reg ?_
      refine JL_q (q_move) (k := ?_)
      refine JL_q (q_nil) (k := ?_)
      refine JL_q (q_fld FO_140_0) (k := ?_)
      refine JL_q (q_fld FO_138_0) (k := ?_)
      refine JL_q (q_load Tryz.isAgg60) (k := ?_)
      refine JL_q (q_lenS Tryz.runUnderlying60) (k := ?_)
      refine JL_q (q_eql) (k := ?_)
      refine JL_q (q_assign) (k := ?_)
      refine JL_nil ?_
      refine JX_seq ?_
      refine J_dec rfl (fun hq12 => ?_) (fun hq12 => ?_)
      · refine J_seq ?_
        refine J_reg ?_
        refine JL_q (q_build (cs := [_]) Tryz.zeroValue152 PL_152) (k := ?_)
        refine JL_q (q_mkI Tryz.underlying152) (k := ?_)
        refine JL_q (q_assign) (k := ?_)
        refine JL_q (q_assign) (k := ?_)
        refine JL_nil ?_
        refine JX_seq ?_
        refine J_ret ?_
        refine JX_block_ret ?_
        refine JX_seq_ret ?_
        refine JX_retI Tryz.results94 (Res.tmp rfl (Res.tmp rfl Res.nil)) ?_
        refine JL_q (q_move) (k := ?_)
        refine JL_q (q_ext) (k := ?_)
        refine JL_q (q_ext) (k := ?_)
        refine JL_q (q_assign) (k := ?_)
        refine JL_q (q_assign) (k := ?_)
        refine JL_nil ?_
        refine JX_seq ?_
        refine J_seq ?_
        refine J_seq ?_
        refine J_reg ?_
        refine JL_q (q_move) (k := ?_)
        refine JL_q (q_neS (u := (Value.iface 152 (Value.agg [(Value.int .i64 (15))].toArray))) (v := Value.nilIface) (b := true) (fun w => by kernel_rfl)) (k := ?_)
        refine JL_nil ?_
        refine JX_seq ?_
        refine J_true rfl ?_
        refine J_seq ?_
        refine J_reg ?_
        refine JL_q (q_move) (k := ?_)
        refine JL_s (w_store (l' := [_]) Tryz.sizeOf60) (k := ?_)
        refine JL_s (w_store (l' := [_]) Tryz.sizeOf57) (k := ?_)
        refine JL_nil ?_
        refine JX_seq ?_
        refine J_ret ?_
        refine JX_seq_ret ?_
        refine JX_block_ret ?_
        refine JX_roundI_ret q0 ?_
        refine JL_q (q_not) (k := ?_)
        refine JL_nil ?_
        refine JX_seq ?_
        refine J_true rfl ?_
        refine J_exit ?_
        refine JX_block_miss rfl ?_
        refine JX_seq_exit ?_
        refine JX_inv_exit ?_
        refine JX_block_hit ?_
        refine JX_scope ?_
        refine JX_it1 (.inr rfl) Tryz.results119 q0 ?_
        refine J_ret ?_
        refine JX_block_ret ?_
        refine JX_seq_ret ?_
        refine JX_retIM [rD11] (qa (qc (qc q0))) Tryz.results59 (Res.word Tryz.isAgg60 rfl me rfl (Res.word Tryz.isAgg57 rfl me rfl Res.nil)) ?_
        refine JL_q (q_move) (k := ?_)
        refine JL_q (q_ext) (k := ?_)
        refine JL_q (q_ext) (k := ?_)
        refine JL_q (q_assign) (k := ?_)
        refine JL_q (q_assign) (k := ?_)
        refine JL_nil ?_
        refine JX_seq ?_
        refine J_seq ?_
        refine J_reg ?_
        refine JL_q (q_move) (k := ?_)
        refine JL_q (q_move) (k := ?_)
        refine JL_inl (args := [(Value.iface 152 (Value.agg [(Value.int .i64 (15))].toArray))]) (c_callA Tryz.call60) Tryz.func60 Tryz.ntmps60 ?_
        refine J_seq ?_
        refine J_reg ?_
        refine JL_q (q_assign) (k := ?_)
        refine JL_nil ?_
        refine JX_seq ?_
        refine J_seq ?_
        refine J_reg ?_
        refine JL_a noMk (a_alloc (l := [_]) Tryz.zeroValue152) (k := fun r22 hr22 => ?_)
        refine JL_nil ?_
        refine JX_seq ?_
        refine J_seq ?_
        refine J_seq ?_
        refine J_reg ?_
        refine JL_q (q_move) (k := ?_)
        refine JL_q (q_mkI Tryz.underlying154) (k := ?_)
        refine JL_p (args := [(Value.iface 152 (Value.agg [(Value.int .i64 (15))].toArray)), (Value.iface 154 (Value.pointer (some ⟨r22, 0, none⟩)))]) (c_callA Tryz.call98) (fun w1 hw1 => as_hit_t w1 (hG.ext hw1.ext_out).ety (hw1.own _ me)) (k := ?_)
        rintro w1_5 e1_5 w2_5 hw1_5 ⟨he_5, hT_5⟩
        refine ⟨_, ((r22, Obj.cells [(Value.int .i64 (15))].toArray 152) :: ((l11, loopAt rr11 .exhausted (some .ret)) :: (x_3B ++ (x_2B ++ ((r10, Obj.cells [(Value.string (bs s))].toArray 9) :: ((r8, Obj.cells [(Value.bool ((!(wIsPlain s)))), (Value.int .i64 (11))].toArray 145) :: ((r6, Obj.cells [(Value.bool (decide (300 < ((s.length : Nat) : Int)))), (Value.int .i64 (10))].toArray 145) :: ((r5, Obj.cells [(Value.bool (decide (300 < ((s.length : Nat) : Int)))), (Value.int .i64 (10)), (Value.bool ((!(wIsPlain s)))), (Value.int .i64 (11))].toArray 145) :: ((r4, Obj.cells [(stV x_4 r3 x_4b)].toArray 142) :: ((r3, Obj.cells [(Value.slice (x_2a) (x_2.length) (x_2c)), (Value.slice (x_3a) (x_3.length) (x_3c))].toArray 140) :: ((r2, Obj.cells [(Value.iface 152 (Value.agg [(Value.int .i64 (15))].toArray))].toArray 57) :: ((r1, Obj.cells [(Value.slice (none) (0) (0))].toArray 60) :: [])))))))))))), he_5, (hw1_5.perm q0).tr hT_5, ?_⟩
        refine JL_nil ?_
        refine JX_seq ?_
        refine J_true rfl ?_
        refine J_seq ?_
        refine J_reg ?_
        refine JL_q (q_fld FO_152_0) (k := ?_)
        refine JL_q (q_load Tryz.isAgg30) (k := ?_)
        refine JL_q (q_assign) (k := ?_)
        refine JL_nil ?_
        refine JX_seq ?_
        refine J_ret ?_
        refine JX_seq_ret ?_
        refine JX_retI Tryz.results60 (Res.tmp rfl Res.nil) ?_
        refine JL_q (q_assign) (k := ?_)
        refine JL_q (q_assign) (k := ?_)
        refine JL_nil ?_
        refine JX_seq ?_
        refine J_ret ?_
        refine JX_ret Tryz.results33 (Res.tmp rfl (Res.tmp rfl Res.nil)) (fun w1 hw1 => ?_)
        exact ⟨none, 0, [], (by rw [((((hF.neg hq1).f hq2).er4 (((((hF6.pos hq3).neg hq4).pos hq10).neg hq11).pos hq12))).eq] <;> first | rfl | (simp only [List.length_set] <;> rfl)), (hw1.fresh_out.sub (List.nil_sublist _)), (by rw [((((hF.neg hq1).f hq2).er4 (((((hF6.pos hq3).neg hq4).pos hq10).neg hq11).pos hq12))).eq]; exact OwnB.nil)⟩
      refine J_seq ?_
      refine J_reg ?_
      refine JL_q (q_move) (k := ?_)
      refine JL_q (q_eql) (k := ?_)
      refine JL_q (q_assign) (k := ?_)
      refine JL_nil ?_
      refine JX_seq ?_
      refine J_dec rfl (fun hq13 => ?_) (fun hq13 => ?_)
      · refine J_seq ?_
        refine J_reg ?_
        refine JL_q (q_move) (k := ?_)
        refine JL_q (q_func) (k := ?_)
        refine JL_q (q_assign) (k := ?_)
        refine JL_q (q_assign) (k := ?_)
        refine JL_nil ?_
        refine JX_seq ?_
        refine J_ret ?_
        refine JX_block_ret ?_
        refine JX_seq_ret ?_
        refine JX_retI Tryz.results94 (Res.tmp rfl (Res.tmp rfl Res.nil)) ?_
        refine JL_q (q_move) (k := ?_)
        refine JL_q (q_ext) (k := ?_)
        refine JL_q (q_ext) (k := ?_)
        refine JL_q (q_assign) (k := ?_)
        refine JL_q (q_assign) (k := ?_)
        refine JL_nil ?_
        refine JX_seq ?_
        refine J_seq ?_
        refine J_seq ?_
        refine J_reg ?_
        refine JL_q (q_move) (k := ?_)
        refine JL_q (q_neS (u := Value.nilIface) (v := Value.nilIface) (b := false) (fun w => by kernel_rfl)) (k := ?_)
        refine JL_nil ?_
        refine JX_seq ?_
        refine J_false rfl ?_
        refine J_skip ?_
        refine JX_seq ?_
        refine J_reg ?_
        refine JL_q (q_move) (k := ?_)
        refine JL_s (w_store (l' := [_]) Tryz.sizeOf142) (k := ?_)
        refine JL_nil ?_
        refine JX_block ?_
        refine JX_roundI q0 ?_
        refine JL_q (q_not) (k := ?_)
        refine JL_nil ?_
        refine JX_seq ?_
        refine J_false rfl ?_
        refine J_skip ?_
        refine JX_block ?_
        refine JX_seq ?_
        refine J_reg ?_
        refine JL_q (q_add) (k := ?_)
        refine JL_q (q_move) (k := ?_)
        refine JL_nil ?_
        refine JX_permL _ ((((((((((((qa (qc (qc (qa (qa (qa (qa (qa (qa (qa (qa q0))))))))))).trans (qa (qa (qc (qc (qa (qa (qa (qa (qa (qa (qa q0)))))))))))).trans (qa (qa (qa (qc (qc (qa (qa (qa (qa (qa (qa q0)))))))))))).trans (qa (qa (qa (qa (qc (qc (qa (qa (qa (qa (qa q0)))))))))))).trans (qa (qa (qa (qa (qa (qc (qc (qa (qa (qa (qa q0)))))))))))).trans (qa (qa (qa (qa (qa (qa (qc (qc (qa (qa (qa q0)))))))))))).trans (qa (qa (qa (qa (qa (qa (qa (qc (qc (qa (qa q0)))))))))))).trans (qa (qa (qa (qa (qa (qa (qa (qa (qc (qc (qa q0)))))))))))).trans (qa (qa (qa (qa (qa (qa (qa (qa (qa (qc (qc q0)))))))))))).trans (qa (qa (qa (qa (qa (qa (qa (qa (qa q0)))))))))).trans (qb (qb (qb (qb (qb (qb (qb (qb (qb (qb (qd q0)))))))))))).trans (qd (qb (qb (qb (qb (qb (qb (qb (qb (qb (qb q0)))))))))))) ?_
        exact JX_inv12 n_5 (x_1 + 1) x_2 x_2a x_2c x_2B x_3 x_3a x_3c x_3B 2 0 ⟨by omega, ((((((hF6.pos hq3).neg hq4).pos hq10).neg hq11).neg hq12).pos hq13), hx_2, hx_3, (by omega), (by first | exact lb), (by first | exact lb)⟩ (Nat.lt_succ_self _) se (List.Perm.refl _)
      refine J_skip ?_
      refine JX_block ?_
      refine JX_seq ?_
      refine J_seq ?_
      refine J_reg ?_
      refine JL_q (q_move) (k := ?_)
      refine JL_q (q_move) (k := ?_)
      refine JL_inl (args := [(Value.pointer (some ⟨r3, 0, none⟩)), (Value.int .u8 ((((s.getD x_1 default).toNat : Nat) : Int))), (Value.bool (false))]) (c_callA Tryz.call118) Tryz.func118 Tryz.ntmps118 ?_
      refine J_seq ?_
      refine J_reg ?_
      refine JL_q (q_assign) (k := ?_)
      refine JL_q (q_assign) (k := ?_)
      refine JL_nil ?_
      refine JX_seq ?_
      refine J_seq ?_
      refine J_seq ?_
      refine J_reg ?_
      refine JL_q (q_move) (k := ?_)
      refine JL_q (q_move) (k := ?_)
      refine JL_qg (q_move) (k := ?_)
      refine JL_qg (q_eql) (k := ?_)
      refine JL_q (q_pickF) (k := ?_)
      refine JL_nil ?_
      refine JX_seq ?_
      refine J_dec rfl (fun hq14 => ?_) (fun hq14 => ?_)
      · refine J_seq ?_
        refine J_reg ?_
        refine JL_q (q_move) (k := ?_)
        refine JL_q (q_nil) (k := ?_)
        refine JL_q (q_fld FO_140_0) (k := ?_)
        refine JL_inl (args := [(Value.pointer (some ⟨r3, 0, none⟩))]) (c_callA Tryz.call137) Tryz.func137 Tryz.ntmps137 ?_
        refine J_seq ?_
        refine J_planV ((l11, loopAt rr11 .busy none) :: (x_3B ++ ((rD11, Obj.deferred (some [])) :: ((r10, Obj.cells [(Value.string (bs s))].toArray 9) :: ((r8, Obj.cells [(Value.bool ((!(wIsPlain s)))), (Value.int .i64 (11))].toArray 145) :: ((r6, Obj.cells [(Value.bool (decide (300 < ((s.length : Nat) : Int)))), (Value.int .i64 (10))].toArray 145) :: ((r5, Obj.cells [(Value.bool (decide (300 < ((s.length : Nat) : Int)))), (Value.int .i64 (10)), (Value.bool ((!(wIsPlain s)))), (Value.int .i64 (11))].toArray 145) :: ((r4, Obj.cells [(stV x_4 r3 x_4b)].toArray 142) :: ((r3, Obj.cells [(Value.slice (x_2a) (x_2.length) (x_2c)), (Value.slice (x_3a) (x_3.length) (x_3c))].toArray 140) :: ((r2, Obj.cells [Value.nilIface].toArray 57) :: ((r1, Obj.cells [(Value.slice (none) (0) (0))].toArray 60) :: []))))))))))) (x_2B ++ []) (List.Perm.trans (qb (qd q0)) (List.Perm.of_eq (by first | rfl | (simp only [List.cons_append, List.nil_append, List.append_assoc, List.append_nil]; done) | (simp only [List.cons_append, List.nil_append, List.append_assoc, List.append_nil]; rfl)))) mixed 14 [(true, 0), (true, 1), (true, 2), (true, 3), (true, 4), (true, 5), (true, 6), (true, 7), (true, 8), (false, 9), (false, 10), (false, 11), (true, 12), (true, 13)] (by kernel_rfl) ?_
        refine JD_q (q_move) (k := ?_)
        refine JD_q (q_move) (k := ?_)
        refine JD_q (q_nil) (k := ?_)
        refine JD_q (q_fld FO_138_0) (k := ?_)
        refine JD_q (q_load Tryz.isAgg60) (k := ?_)
        refine JD_q (q_move) (k := ?_)
        refine JD_q (q_nil) (k := ?_)
        refine JD_q (q_fld FO_138_1) (k := ?_)
        refine JD_q (q_load Tryz.isAgg136) (k := ?_)
        refine JD_q (q_str Tryz.underlying9 Tryz.underlying136 Tryz.underlying5 (hx_3.slj eI_u8_ok)) (k := ?_)
        refine JD_a noMk (a_bslice (l := [_]) Tryz.runUnderlying60 Tryz.sizeOf9 Tryz.zeroValue9) (k := fun r23 hr23 => ?_)
        refine JD_append (x_2 ++ ([(toS x_3)] : List Str)) rfl TY_9 Tryz.underlying60 eS_ok hx_2 q0 (SlJ.lit (xs := ([(toS x_3)] : List Str)) eS_ok) ⟨by first | omega | (simp; omega), by first | omega | (simp; omega)⟩ (n := x_2.length) (m := 1) (k := fun ax4 cx4 Bx4 hox4 => ?_)
        have hal4 : (x_2 ++ ([(toS x_3)] : List Str)).length = x_2.length + 1 := by first | rfl | exact List.length_append | simp
        refine JD_q (q_nil) (k := ?_)
        refine JD_q (q_fld FO_138_0) (k := ?_)
        refine JD_nil ?_
        refine JL_eqL (L' := (Bx4 ++ ((r23, Obj.cells [(Value.string (bs (toS x_3)))].toArray 9) :: ((l11, loopAt rr11 .busy none) :: (x_3B ++ ((rD11, Obj.deferred (some [])) :: ((r10, Obj.cells [(Value.string (bs s))].toArray 9) :: ((r8, Obj.cells [(Value.bool ((!(wIsPlain s)))), (Value.int .i64 (11))].toArray 145) :: ((r6, Obj.cells [(Value.bool (decide (300 < ((s.length : Nat) : Int)))), (Value.int .i64 (10))].toArray 145) :: ((r5, Obj.cells [(Value.bool (decide (300 < ((s.length : Nat) : Int)))), (Value.int .i64 (10)), (Value.bool ((!(wIsPlain s)))), (Value.int .i64 (11))].toArray 145) :: ((r4, Obj.cells [(stV x_4 r3 x_4b)].toArray 142) :: ((r3, Obj.cells [(Value.slice (x_2a) (x_2.length) (x_2c)), (Value.slice (x_3a) (x_3.length) (x_3c))].toArray 140) :: ((r2, Obj.cells [Value.nilIface].toArray 57) :: ((r1, Obj.cells [(Value.slice (none) (0) (0))].toArray 60) :: [])))))))))))))) (by simp only [List.append_nil, List.append_assoc, List.cons_append, List.nil_append]) ?_
        refine JL_s (w_store (l' := [_, _]) Tryz.sizeOf60) (k := ?_)
        refine JL_nil ?_
        refine JX_seq ?_
        refine J_reg ?_
        refine JL_q (q_move) (k := ?_)
        refine JL_q (q_nil) (k := ?_)
        refine JL_q (q_fld FO_138_1) (k := ?_)
        refine JL_s (w_store (l' := [_, _]) Tryz.sizeOf136) (k := ?_)
        refine JL_nil ?_
        refine JX_endI Tryz.results137 Res.nil ?_
        refine JL_nil ?_
        refine JX_seq ?_
        refine J_seq ?_
        refine J_reg ?_
        refine JL_q (q_move) (k := ?_)
        refine JL_q (q_func) (k := ?_)
        refine JL_q (q_assign) (k := ?_)
        refine JL_q (q_assign) (k := ?_)
        refine JL_nil ?_
        refine JX_seq ?_
        refine J_ret ?_
        refine JX_seq_ret ?_
        refine JX_retI Tryz.results118 (Res.tmp rfl (Res.tmp rfl Res.nil)) ?_
        refine JL_q (q_ext) (k := ?_)
        refine JL_q (q_ext) (k := ?_)
        refine JL_q (q_assign) (k := ?_)
        refine JL_q (q_assign) (k := ?_)
        refine JL_nil ?_
        refine JX_seq ?_
        refine J_ret ?_
        refine JX_retI Tryz.results94 (Res.tmp rfl (Res.tmp rfl Res.nil)) ?_
        refine JL_q (q_move) (k := ?_)
        refine JL_q (q_ext) (k := ?_)
        refine JL_q (q_ext) (k := ?_)
        refine JL_q (q_assign) (k := ?_)
        refine JL_q (q_assign) (k := ?_)
        refine JL_nil ?_
        refine JX_seq ?_
        refine J_seq ?_
        refine J_seq ?_
        refine J_reg ?_
        refine JL_q (q_move) (k := ?_)
        refine JL_q (q_neS (u := Value.nilIface) (v := Value.nilIface) (b := false) (fun w => by kernel_rfl)) (k := ?_)
        refine JL_nil ?_
        refine JX_seq ?_
        refine J_false rfl ?_
        refine J_skip ?_
        refine JX_seq ?_
        refine J_reg ?_
        refine JL_q (q_move) (k := ?_)
        refine JL_s (w_store (l' := [_]) Tryz.sizeOf142) (k := ?_)
        refine JL_nil ?_
        refine JX_block ?_
        refine JX_roundI (qc (qa q0)) ?_
        refine JL_q (q_not) (k := ?_)
        refine JL_nil ?_
        refine JX_seq ?_
        refine J_false rfl ?_
        refine J_skip ?_
        refine JX_block ?_
        refine JX_seq ?_
        refine J_reg ?_
        refine JL_q (q_add) (k := ?_)
        refine JL_q (q_move) (k := ?_)
        refine JL_nil ?_
        refine JX_permL _ (((((((((((qa (qc (qa (qc (qa (qa (qa (qa (qa (qa (qa (qa q0)))))))))))).trans (qa (qa (qc (qa (qc (qa (qa (qa (qa (qa (qa (qa q0))))))))))))).trans (qa (qa (qa (qc (qa (qc (qa (qa (qa (qa (qa (qa q0))))))))))))).trans (qa (qa (qa (qa (qc (qa (qc (qa (qa (qa (qa (qa q0))))))))))))).trans (qa (qa (qa (qa (qa (qc (qa (qc (qa (qa (qa (qa q0))))))))))))).trans (qa (qa (qa (qa (qa (qa (qc (qa (qc (qa (qa (qa q0))))))))))))).trans (qa (qa (qa (qa (qa (qa (qa (qc (qa (qc (qa (qa q0))))))))))))).trans (qa (qa (qa (qa (qa (qa (qa (qa (qc (qa (qc (qa q0))))))))))))).trans (qa (qa (qa (qa (qa (qa (qa (qa (qa (qc (qa (qc q0))))))))))))).trans (qa (qa (qa (qa (qa (qa (qa (qa (qa q0)))))))))).trans (qb (qb (qb (qb (qb (qb (qb (qb (qb (qb q0))))))))))) ?_
        refine JX_subL _ (List.Sublist.append (List.Sublist.refl _) (List.Sublist.cons_cons _ (List.Sublist.cons_cons _ (List.Sublist.cons_cons _ (List.Sublist.cons_cons _ (List.Sublist.cons_cons _ (List.Sublist.cons_cons _ (List.Sublist.cons_cons _ (List.Sublist.cons_cons _ (List.Sublist.cons_cons _ (List.Sublist.cons_cons _ (List.nil_sublist _)))))))))))) ?_
        exact JX_inv12 n_5 (x_1 + 1) (x_2 ++ ([(toS x_3)] : List Str)) ax4 cx4 Bx4 ([]) none 0 ([]) 0 0 ⟨by omega, (((((((hF6.pos hq3).neg hq4).pos hq10).neg hq11).neg hq12).neg hq13).pos hq14), hox4, OwnB.nil, (by omega), (by first | exact lb), (by first | exact lb)⟩ (Nat.lt_succ_self _) se (List.Perm.refl _)
      refine J_skip ?_
      refine JX_seq ?_
      refine J_seq ?_
      refine J_seq ?_
      refine J_reg ?_
      refine JL_q (q_move) (k := ?_)
      refine JL_q (q_eql) (k := ?_)
      refine JL_q (q_build (cs := [_, _]) Tryz.zeroValue145 PL_145) (k := ?_)
      refine JL_q (q_move) (k := ?_)
      refine JL_q (q_eql) (k := ?_)
      refine JL_q (q_build (cs := [_, _]) Tryz.zeroValue145 PL_145) (k := ?_)
      refine JL_a noMk (a_bslice (l := [_, _, _, _]) Tryz.runUnderlying193 Tryz.sizeOf145 Tryz.zeroValue145) (k := fun r24 hr24 => ?_)
      refine JL_inl (args := [(Value.slice (some ⟨r24, 0, none⟩) (2) (2))]) (c_callA Tryz.call95) Tryz.func95 Tryz.ntmps95 ?_
      refine J_seq ?_
      refine J_reg ?_
      refine JL_q (q_assign) (k := ?_)
      refine JL_nil ?_
      refine JX_seq ?_
      refine J_seq ?_
      refine J_seq ?_
      refine J_reg ?_
      refine JL_q (q_move) (k := ?_)
      refine JL_q (q_lenS Tryz.runUnderlying193) (k := ?_)
      refine JL_q (q_move) (k := ?_)
      refine JL_nil ?_
      refine JX_seq ?_
      refine J_block ?_
      refine J_unroll ?_
      refine J_seq ?_
      refine J_reg ?_
      refine JL_q (q_lss) (k := ?_)
      refine JL_nil ?_
      refine JX_seq ?_
      refine J_seq ?_
      refine J_true rfl ?_
      refine J_skip ?_
      refine JX_seq ?_
      refine J_seq ?_
      refine J_block ?_
      refine J_seq ?_
      refine J_reg ?_
      refine JL_q (q_idxO Tryz.runUnderlying193 Tryz.sizeOf145 0) (k := ?_)
      refine JL_q (q_loadA Tryz.isAgg145 Tryz.sizeOf145) (k := ?_)
      refine JL_a noMk (a_alloc (l := [_, _]) Tryz.zeroValue145) (k := fun r25 hr25 => ?_)
      refine JL_s (w_store (l' := [_, _]) Tryz.sizeOf145) (k := ?_)
      refine JL_nil ?_
      refine JX_seq ?_
      refine J_seq ?_
      refine J_reg ?_
      refine JL_q (q_fld FO_145_0) (k := ?_)
      refine JL_q (q_load Tryz.isAgg4) (k := ?_)
      refine JL_nil ?_
      refine JX_seq ?_
      refine J_dec rfl (fun hq15 => ?_) (fun hq15 => ?_)
      · refine J_seq ?_
        refine J_reg ?_
        refine JL_q (q_fld FO_145_1) (k := ?_)
        refine JL_q (q_load Tryz.isAgg30) (k := ?_)
        refine JL_q (q_build (cs := [_]) Tryz.zeroValue152 PL_152) (k := ?_)
        refine JL_q (q_mkI Tryz.underlying152) (k := ?_)
        refine JL_q (q_assign) (k := ?_)
        refine JL_nil ?_
        refine JX_seq ?_
        refine J_ret ?_
        refine JX_block_ret ?_
        refine JX_seq_ret ?_
        refine JX_inv_ret ?_
        refine JX_block_ret ?_
        refine JX_seq_ret ?_
        refine JX_retI Tryz.results95 (Res.tmp rfl Res.nil) ?_
        refine JL_q (q_assign) (k := ?_)
        refine JL_nil ?_
        refine JX_seq ?_
        refine J_seq ?_
        refine J_reg ?_
        refine JL_q (q_move) (k := ?_)
        refine JL_q (q_neS (u := (Value.iface 152 (Value.agg [(Value.int .i64 (12))].toArray))) (v := Value.nilIface) (b := true) (fun w => by kernel_rfl)) (k := ?_)
        refine JL_nil ?_
        refine JX_seq ?_
        refine J_true rfl ?_
        refine J_seq ?_
        refine J_reg ?_
        refine JL_q (q_move) (k := ?_)
        refine JL_q (q_assign) (k := ?_)
        refine JL_q (q_assign) (k := ?_)
        refine JL_nil ?_
        refine JX_seq ?_
        refine J_ret ?_
        refine JX_seq_ret ?_
        refine JX_retI Tryz.results118 (Res.tmp rfl (Res.tmp rfl Res.nil)) ?_
        refine JL_q (q_ext) (k := ?_)
        refine JL_q (q_ext) (k := ?_)
        refine JL_q (q_assign) (k := ?_)
        refine JL_q (q_assign) (k := ?_)
        refine JL_nil ?_
        refine JX_seq ?_
        refine J_ret ?_
        refine JX_retI Tryz.results94 (Res.tmp rfl (Res.tmp rfl Res.nil)) ?_
        refine JL_q (q_move) (k := ?_)
        refine JL_q (q_ext) (k := ?_)
        refine JL_q (q_ext) (k := ?_)
        refine JL_q (q_assign) (k := ?_)
        refine JL_q (q_assign) (k := ?_)
        refine JL_nil ?_
        refine JX_seq ?_
        refine J_seq ?_
        refine J_seq ?_
        refine J_reg ?_
        refine JL_q (q_move) (k := ?_)
        refine JL_q (q_neS (u := (Value.iface 152 (Value.agg [(Value.int .i64 (12))].toArray))) (v := Value.nilIface) (b := true) (fun w => by kernel_rfl)) (k := ?_)
        refine JL_nil ?_
        refine JX_seq ?_
        refine J_true rfl ?_
        refine J_seq ?_
        refine J_reg ?_
        refine JL_q (q_move) (k := ?_)
        refine JL_s (w_store (l' := [_]) Tryz.sizeOf60) (k := ?_)
        refine JL_s (w_store (l' := [_]) Tryz.sizeOf57) (k := ?_)
        refine JL_nil ?_
        refine JX_seq ?_
        refine J_ret ?_
        refine JX_seq_ret ?_
        refine JX_block_ret ?_
        refine JX_roundI_ret (qa (qa q0)) ?_
        refine JL_q (q_not) (k := ?_)
        refine JL_nil ?_
        refine JX_seq ?_
        refine J_true rfl ?_
        refine J_exit ?_
        refine JX_block_miss rfl ?_
        refine JX_seq_exit ?_
        refine JX_inv_exit ?_
        refine JX_block_hit ?_
        refine JX_scope ?_
        refine JX_it1 (.inr rfl) Tryz.results119 q0 ?_
        refine J_ret ?_
        refine JX_block_ret ?_
        refine JX_seq_ret ?_
        refine JX_retIM [rD11] (qa (qa (qa (qc (qc q0))))) Tryz.results59 (Res.word Tryz.isAgg60 rfl me rfl (Res.word Tryz.isAgg57 rfl me rfl Res.nil)) ?_
        refine JL_q (q_move) (k := ?_)
        refine JL_q (q_ext) (k := ?_)
        refine JL_q (q_ext) (k := ?_)
        refine JL_q (q_assign) (k := ?_)
        refine JL_q (q_assign) (k := ?_)
        refine JL_nil ?_
        refine JX_seq ?_
        refine J_seq ?_
        refine J_reg ?_
        refine JL_q (q_move) (k := ?_)
        refine JL_q (q_move) (k := ?_)
        refine JL_inl (args := [(Value.iface 152 (Value.agg [(Value.int .i64 (12))].toArray))]) (c_callA Tryz.call60) Tryz.func60 Tryz.ntmps60 ?_
        refine J_seq ?_
        refine J_reg ?_
        refine JL_q (q_assign) (k := ?_)
        refine JL_nil ?_
        refine JX_seq ?_
        refine J_seq ?_
        refine J_reg ?_
        refine JL_a noMk (a_alloc (l := [_]) Tryz.zeroValue152) (k := fun r26 hr26 => ?_)
        refine JL_nil ?_
        refine JX_seq ?_
        refine J_seq ?_
        refine J_seq ?_
        refine J_reg ?_
        refine JL_q (q_move) (k := ?_)
        refine JL_q (q_mkI Tryz.underlying154) (k := ?_)
        refine JL_p (args := [(Value.iface 152 (Value.agg [(Value.int .i64 (12))].toArray)), (Value.iface 154 (Value.pointer (some ⟨r26, 0, none⟩)))]) (c_callA Tryz.call98) (fun w1 hw1 => as_hit_t w1 (hG.ext hw1.ext_out).ety (hw1.own _ me)) (k := ?_)
        rintro w1_6 e1_6 w2_6 hw1_6 ⟨he_6, hT_6⟩
        refine ⟨_, ((r26, Obj.cells [(Value.int .i64 (12))].toArray 152) :: ((l11, loopAt rr11 .exhausted (some .ret)) :: ((r25, Obj.cells [(Value.bool (decide ((((s.getD x_1 default).toNat : Nat) : Int) = 34))), (Value.int .i64 (12))].toArray 145) :: ((r24, Obj.cells [(Value.bool (decide ((((s.getD x_1 default).toNat : Nat) : Int) = 34))), (Value.int .i64 (12)), (Value.bool (decide ((((s.getD x_1 default).toNat : Nat) : Int) = 92))), (Value.int .i64 (13))].toArray 145) :: (x_3B ++ (x_2B ++ ((r10, Obj.cells [(Value.string (bs s))].toArray 9) :: ((r8, Obj.cells [(Value.bool ((!(wIsPlain s)))), (Value.int .i64 (11))].toArray 145) :: ((r6, Obj.cells [(Value.bool (decide (300 < ((s.length : Nat) : Int)))), (Value.int .i64 (10))].toArray 145) :: ((r5, Obj.cells [(Value.bool (decide (300 < ((s.length : Nat) : Int)))), (Value.int .i64 (10)), (Value.bool ((!(wIsPlain s)))), (Value.int .i64 (11))].toArray 145) :: ((r4, Obj.cells [(stV x_4 r3 x_4b)].toArray 142) :: ((r3, Obj.cells [(Value.slice (x_2a) (x_2.length) (x_2c)), (Value.slice (x_3a) (x_3.length) (x_3c))].toArray 140) :: ((r2, Obj.cells [(Value.iface 152 (Value.agg [(Value.int .i64 (12))].toArray))].toArray 57) :: ((r1, Obj.cells [(Value.slice (none) (0) (0))].toArray 60) :: [])))))))))))))), he_6, (hw1_6.perm q0).tr hT_6, ?_⟩
        refine JL_nil ?_
        refine JX_seq ?_
        refine J_true rfl ?_
        refine J_seq ?_
        refine J_reg ?_
        refine JL_q (q_fld FO_152_0) (k := ?_)
        refine JL_q (q_load Tryz.isAgg30) (k := ?_)
        refine JL_q (q_assign) (k := ?_)
        refine JL_nil ?_
        refine JX_seq ?_
        refine J_ret ?_
        refine JX_seq_ret ?_
        refine JX_retI Tryz.results60 (Res.tmp rfl Res.nil) ?_
        refine JL_q (q_assign) (k := ?_)
        refine JL_q (q_assign) (k := ?_)
        refine JL_nil ?_
        refine JX_seq ?_
        refine J_ret ?_
        refine JX_ret Tryz.results33 (Res.tmp rfl (Res.tmp rfl Res.nil)) (fun w1 hw1 => ?_)
        exact ⟨none, 0, [], (by rw [((((hF.neg hq1).f hq2).er4 ((((((((hF6.pos hq3).neg hq4).pos hq10).neg hq11).neg hq12).neg hq13).neg hq14).pos hq15))).eq] <;> first | rfl | (simp only [List.length_set] <;> rfl)), (hw1.fresh_out.sub (List.nil_sublist _)), (by rw [((((hF.neg hq1).f hq2).er4 ((((((((hF6.pos hq3).neg hq4).pos hq10).neg hq11).neg hq12).neg hq13).neg hq14).pos hq15))).eq]; exact OwnB.nil)⟩
      refine J_skip ?_
      refine JX_block ?_
      refine JX_seq ?_
      refine J_reg ?_
      refine JL_q (q_add) (k := ?_)
      refine JL_q (q_move) (k := ?_)
      refine JL_nil ?_
      refine JX_again ?_
      refine J_seq ?_
      refine J_reg ?_
      refine JL_q (q_lss) (k := ?_)
      refine JL_nil ?_
      refine JX_seq ?_
      refine J_seq ?_
      refine J_true rfl ?_
      refine J_skip ?_
      refine JX_seq ?_
      refine J_seq ?_
      refine J_block ?_
      refine J_seq ?_
      refine J_reg ?_
      refine JL_q (q_idxO Tryz.runUnderlying193 Tryz.sizeOf145 1) (k := ?_)
      refine JL_q (q_loadA Tryz.isAgg145 Tryz.sizeOf145) (k := ?_)
      refine JL_a noMk (a_alloc (l := [_, _]) Tryz.zeroValue145) (k := fun r27 hr27 => ?_)
      refine JL_s (w_store (l' := [_, _]) Tryz.sizeOf145) (k := ?_)
      refine JL_nil ?_
      refine JX_seq ?_
      refine J_seq ?_
      refine J_reg ?_
      refine JL_q (q_fld FO_145_0) (k := ?_)
      refine JL_q (q_load Tryz.isAgg4) (k := ?_)
      refine JL_nil ?_
      refine JX_seq ?_
      refine J_dec rfl (fun hq16 => ?_) (fun hq16 => ?_)
      · refine J_seq ?_
        refine J_reg ?_
        refine JL_q (q_fld FO_145_1) (k := ?_)
        refine JL_q (q_load Tryz.isAgg30) (k := ?_)
        refine JL_q (q_build (cs := [_]) Tryz.zeroValue152 PL_152) (k := ?_)
        refine JL_q (q_mkI Tryz.underlying152) (k := ?_)
        refine JL_q (q_assign) (k := ?_)
        refine JL_nil ?_
        refine JX_seq ?_
        refine J_ret ?_
        refine JX_block_ret ?_
        refine JX_seq_ret ?_
        refine JX_inv_ret ?_
        refine JX_block_ret ?_
        refine JX_seq_ret ?_
        refine JX_retI Tryz.results95 (Res.tmp rfl Res.nil) ?_
        refine JL_q (q_assign) (k := ?_)
        refine JL_nil ?_
        refine JX_seq ?_
        refine J_seq ?_
        refine J_reg ?_
        refine JL_q (q_move) (k := ?_)
        refine JL_q (q_neS (u := (Value.iface 152 (Value.agg [(Value.int .i64 (13))].toArray))) (v := Value.nilIface) (b := true) (fun w => by kernel_rfl)) (k := ?_)
        refine JL_nil ?_
        refine JX_seq ?_
        refine J_true rfl ?_
        refine J_seq ?_
        refine J_reg ?_
        refine JL_q (q_move) (k := ?_)
        refine JL_q (q_assign) (k := ?_)
        refine JL_q (q_assign) (k := ?_)
        refine JL_nil ?_
        refine JX_seq ?_
        refine J_ret ?_
        refine JX_seq_ret ?_
        refine JX_retI Tryz.results118 (Res.tmp rfl (Res.tmp rfl Res.nil)) ?_
        refine JL_q (q_ext) (k := ?_)
        refine JL_q (q_ext) (k := ?_)
        refine JL_q (q_assign) (k := ?_)
        refine JL_q (q_assign) (k := ?_)
        refine JL_nil ?_
        refine JX_seq ?_
        refine J_ret ?_
        refine JX_retI Tryz.results94 (Res.tmp rfl (Res.tmp rfl Res.nil)) ?_
        refine JL_q (q_move) (k := ?_)
        refine JL_q (q_ext) (k := ?_)
        refine JL_q (q_ext) (k := ?_)
        refine JL_q (q_assign) (k := ?_)
        refine JL_q (q_assign) (k := ?_)
        refine JL_nil ?_
        refine JX_seq ?_
        refine J_seq ?_
        refine J_seq ?_
        refine J_reg ?_
        refine JL_q (q_move) (k := ?_)
        refine JL_q (q_neS (u := (Value.iface 152 (Value.agg [(Value.int .i64 (13))].toArray))) (v := Value.nilIface) (b := true) (fun w => by kernel_rfl)) (k := ?_)
        refine JL_nil ?_
        refine JX_seq ?_
        refine J_true rfl ?_
        refine J_seq ?_
        refine J_reg ?_
        refine JL_q (q_move) (k := ?_)
        refine JL_s (w_store (l' := [_]) Tryz.sizeOf60) (k := ?_)
        refine JL_s (w_store (l' := [_]) Tryz.sizeOf57) (k := ?_)
        refine JL_nil ?_
        refine JX_seq ?_
        refine J_ret ?_
        refine JX_seq_ret ?_
        refine JX_block_ret ?_
        refine JX_roundI_ret (qa (qa (qa q0))) ?_
        refine JL_q (q_not) (k := ?_)
        refine JL_nil ?_
        refine JX_seq ?_
        refine J_true rfl ?_
        refine J_exit ?_
        refine JX_block_miss rfl ?_
        refine JX_seq_exit ?_
        refine JX_inv_exit ?_
        refine JX_block_hit ?_
        refine JX_scope ?_
        refine JX_it1 (.inr rfl) Tryz.results119 q0 ?_
        refine J_ret ?_
        refine JX_block_ret ?_
        refine JX_seq_ret ?_
        refine JX_retIM [rD11] (qa (qa (qa (qa (qc (qc q0)))))) Tryz.results59 (Res.word Tryz.isAgg60 rfl me rfl (Res.word Tryz.isAgg57 rfl me rfl Res.nil)) ?_
        refine JL_q (q_move) (k := ?_)
        refine JL_q (q_ext) (k := ?_)
        refine JL_q (q_ext) (k := ?_)
        refine JL_q (q_assign) (k := ?_)
        refine JL_q (q_assign) (k := ?_)
        refine JL_nil ?_
        refine JX_seq ?_
        refine J_seq ?_
        refine J_reg ?_
        refine JL_q (q_move) (k := ?_)
        refine JL_q (q_move) (k := ?_)
        refine JL_inl (args := [(Value.iface 152 (Value.agg [(Value.int .i64 (13))].toArray))]) (c_callA Tryz.call60) Tryz.func60 Tryz.ntmps60 ?_
        refine J_seq ?_
        refine J_reg ?_
        refine JL_q (q_assign) (k := ?_)
        refine JL_nil ?_
        refine JX_seq ?_
        refine J_seq ?_
        refine J_reg ?_
        refine JL_a noMk (a_alloc (l := [_]) Tryz.zeroValue152) (k := fun r28 hr28 => ?_)
        refine JL_nil ?_
        refine JX_seq ?_
        refine J_seq ?_
        refine J_seq ?_
        refine J_reg ?_
        refine JL_q (q_move) (k := ?_)
        refine JL_q (q_mkI Tryz.underlying154) (k := ?_)
        refine JL_p (args := [(Value.iface 152 (Value.agg [(Value.int .i64 (13))].toArray)), (Value.iface 154 (Value.pointer (some ⟨r28, 0, none⟩)))]) (c_callA Tryz.call98) (fun w1 hw1 => as_hit_t w1 (hG.ext hw1.ext_out).ety (hw1.own _ me)) (k := ?_)
        rintro w1_7 e1_7 w2_7 hw1_7 ⟨he_7, hT_7⟩
        refine ⟨_, ((r28, Obj.cells [(Value.int .i64 (13))].toArray 152) :: ((l11, loopAt rr11 .exhausted (some .ret)) :: ((r27, Obj.cells [(Value.bool (decide ((((s.getD x_1 default).toNat : Nat) : Int) = 92))), (Value.int .i64 (13))].toArray 145) :: ((r25, Obj.cells [(Value.bool (decide ((((s.getD x_1 default).toNat : Nat) : Int) = 34))), (Value.int .i64 (12))].toArray 145) :: ((r24, Obj.cells [(Value.bool (decide ((((s.getD x_1 default).toNat : Nat) : Int) = 34))), (Value.int .i64 (12)), (Value.bool (decide ((((s.getD x_1 default).toNat : Nat) : Int) = 92))), (Value.int .i64 (13))].toArray 145) :: (x_3B ++ (x_2B ++ ((r10, Obj.cells [(Value.string (bs s))].toArray 9) :: ((r8, Obj.cells [(Value.bool ((!(wIsPlain s)))), (Value.int .i64 (11))].toArray 145) :: ((r6, Obj.cells [(Value.bool (decide (300 < ((s.length : Nat) : Int)))), (Value.int .i64 (10))].toArray 145) :: ((r5, Obj.cells [(Value.bool (decide (300 < ((s.length : Nat) : Int)))), (Value.int .i64 (10)), (Value.bool ((!(wIsPlain s)))), (Value.int .i64 (11))].toArray 145) :: ((r4, Obj.cells [(stV x_4 r3 x_4b)].toArray 142) :: ((r3, Obj.cells [(Value.slice (x_2a) (x_2.length) (x_2c)), (Value.slice (x_3a) (x_3.length) (x_3c))].toArray 140) :: ((r2, Obj.cells [(Value.iface 152 (Value.agg [(Value.int .i64 (13))].toArray))].toArray 57) :: ((r1, Obj.cells [(Value.slice (none) (0) (0))].toArray 60) :: []))))))))))))))), he_7, (hw1_7.perm q0).tr hT_7, ?_⟩
        refine JL_nil ?_
        refine JX_seq ?_
        refine J_true rfl ?_
        refine J_seq ?_
        refine J_reg ?_
        refine JL_q (q_fld FO_152_0) (k := ?_)
        refine JL_q (q_load Tryz.isAgg30) (k := ?_)
        refine JL_q (q_assign) (k := ?_)
        refine JL_nil ?_
        refine JX_seq ?_
        refine J_ret ?_
        refine JX_seq_ret ?_
        refine JX_retI Tryz.results60 (Res.tmp rfl Res.nil) ?_
        refine JL_q (q_assign) (k := ?_)
        refine JL_q (q_assign) (k := ?_)
        refine JL_nil ?_
        refine JX_seq ?_
        refine J_ret ?_
        refine JX_ret Tryz.results33 (Res.tmp rfl (Res.tmp rfl Res.nil)) (fun w1 hw1 => ?_)
        exact ⟨none, 0, [], (by rw [((((hF.neg hq1).f hq2).er4 (((((((((hF6.pos hq3).neg hq4).pos hq10).neg hq11).neg hq12).neg hq13).neg hq14).neg hq15).pos hq16))).eq] <;> first | rfl | (simp only [List.length_set] <;> rfl)), (hw1.fresh_out.sub (List.nil_sublist _)), (by rw [((((hF.neg hq1).f hq2).er4 (((((((((hF6.pos hq3).neg hq4).pos hq10).neg hq11).neg hq12).neg hq13).neg hq14).neg hq15).pos hq16))).eq]; exact OwnB.nil)⟩
      refine J_skip ?_
      refine JX_block ?_
      refine JX_seq ?_
      refine J_reg ?_
      refine JL_q (q_add) (k := ?_)
      refine JL_q (q_move) (k := ?_)
      refine JL_nil ?_
      refine JX_again ?_
      refine J_seq ?_
      refine J_reg ?_
      refine JL_q (q_lss) (k := ?_)
      refine JL_nil ?_
      refine JX_seq ?_
      refine J_seq ?_
      refine J_false rfl ?_
      refine J_exit ?_
      refine JX_seq_exit ?_
      refine JX_inv_exit ?_
      refine JX_block_hit ?_
      refine JX_seq ?_
      refine J_seq ?_
      refine J_reg ?_
      refine JL_q (q_assign) (k := ?_)
      refine JL_nil ?_
      refine JX_seq ?_
      refine J_ret ?_
      refine JX_retI Tryz.results95 (Res.tmp rfl Res.nil) ?_
      refine JL_q (q_assign) (k := ?_)
      refine JL_nil ?_
      refine JX_seq ?_
      refine J_seq ?_
      refine J_reg ?_
      refine JL_q (q_move) (k := ?_)
      refine JL_q (q_neS (u := Value.nilIface) (v := Value.nilIface) (b := false) (fun w => by kernel_rfl)) (k := ?_)
      refine JL_nil ?_
      refine JX_seq ?_
      refine J_false rfl ?_
      refine J_skip ?_
      refine JX_seq ?_
      refine J_seq ?_
      refine J_reg ?_
      refine JL_q (q_move) (k := ?_)
      refine JL_q (q_func) (k := ?_)
      refine JL_q (q_move) (k := ?_)
      refine JL_q (q_nil) (k := ?_)
      refine JL_q (q_fld FO_140_0) (k := ?_)
      refine JL_q (q_move) (k := ?_)
      refine JL_inl (args := [(Value.pointer (some ⟨r3, 0, none⟩)), (Value.int .u8 ((((s.getD x_1 default).toNat : Nat) : Int)))]) (c_callA Tryz.call136) Tryz.func136 Tryz.ntmps136 ?_
      refine J_seq ?_
      refine J_reg ?_
      refine JL_q (q_assign) (k := ?_)
      refine JL_nil ?_
      refine JX_seq ?_
      refine J_seq ?_
      refine J_reg ?_
      refine JL_q (q_move) (k := ?_)
      refine JL_q (q_move) (k := ?_)
      refine JL_q (q_nil) (k := ?_)
      refine JL_q (q_fld FO_138_1) (k := ?_)
      refine JL_q (q_load Tryz.isAgg136) (k := ?_)
      refine JL_q (q_move) (k := ?_)
      refine JL_a noMk (a_bslice (l := [_]) Tryz.runUnderlying136 Tryz.sizeOf5 Tryz.zeroValue5) (k := fun r29 hr29 => ?_)
      refine JL_append (x_3 ++ ([(((s.getD x_1 default).toNat : Nat) : Int)] : List Int)) rfl TY_5 Tryz.underlying136 eI_u8_ok hx_3 (qb (qb (qb (qb (qb q0))))) (SlJ.lit (xs := ([(((s.getD x_1 default).toNat : Nat) : Int)] : List Int)) eI_u8_ok) ⟨by omega, by omega⟩ (n := x_3.length) (m := 1) (k := fun ax5 cx5 Bx5 hox5 => ?_)
      have hal5 : (x_3 ++ ([(((s.getD x_1 default).toNat : Nat) : Int)] : List Int)).length = x_3.length + 1 := by first | rfl | exact List.length_append | simp
      refine JL_q (q_nil) (k := ?_)
      refine JL_q (q_fld FO_138_1) (k := ?_)
      refine JL_s (w_store (l' := [_, _]) Tryz.sizeOf136) (k := ?_)
      refine JL_nil ?_
      refine JX_seq ?_
      refine J_seq ?_
      refine J_reg ?_
      refine JL_q (q_move) (k := ?_)
      refine JL_q (q_nil) (k := ?_)
      refine JL_q (q_fld FO_138_1) (k := ?_)
      refine JL_q (q_load Tryz.isAgg136) (k := ?_)
      refine JL_q (q_lenS Tryz.runUnderlying136) (k := ?_)
      refine JL_q (q_gtr) (k := ?_)
      refine JL_q (q_build (cs := [_, _]) Tryz.zeroValue145 PL_145) (k := ?_)
      refine JL_a noMk (a_bslice (l := [_, _]) Tryz.runUnderlying193 Tryz.sizeOf145 Tryz.zeroValue145) (k := fun r30 hr30 => ?_)
      refine JL_inl (args := [(Value.slice (some ⟨r30, 0, none⟩) (1) (1))]) (c_callA Tryz.call95) Tryz.func95 Tryz.ntmps95 ?_
      refine J_seq ?_
      refine J_reg ?_
      refine JL_q (q_assign) (k := ?_)
      refine JL_nil ?_
      refine JX_seq ?_
      refine J_seq ?_
      refine J_seq ?_
      refine J_reg ?_
      refine JL_q (q_move) (k := ?_)
      refine JL_q (q_lenS Tryz.runUnderlying193) (k := ?_)
      refine JL_q (q_move) (k := ?_)
      refine JL_nil ?_
      refine JX_seq ?_
      refine J_block ?_
      refine J_unroll ?_
      refine J_seq ?_
      refine J_reg ?_
      refine JL_q (q_lss) (k := ?_)
      refine JL_nil ?_
      refine JX_seq ?_
      refine J_seq ?_
      refine J_true rfl ?_
      refine J_skip ?_
      refine JX_seq ?_
      refine J_seq ?_
      refine J_block ?_
      refine J_seq ?_
      refine J_reg ?_
      refine JL_q (q_idxO Tryz.runUnderlying193 Tryz.sizeOf145 0) (k := ?_)
      refine JL_q (q_loadA Tryz.isAgg145 Tryz.sizeOf145) (k := ?_)
      refine JL_a noMk (a_alloc (l := [_, _]) Tryz.zeroValue145) (k := fun r31 hr31 => ?_)
      refine JL_s (w_store (l' := [_, _]) Tryz.sizeOf145) (k := ?_)
      refine JL_nil ?_
      refine JX_seq ?_
      refine J_seq ?_
      refine J_reg ?_
      refine JL_q (q_fld FO_145_0) (k := ?_)
      refine JL_q (q_load Tryz.isAgg4) (k := ?_)
      refine JL_nil ?_
      refine JX_seq ?_
      refine J_dec rfl (fun hq17 => ?_) (fun hq17 => ?_)
      rotate_left
      · refine J_skip ?_
        refine JX_block ?_
        refine JX_seq ?_
        refine J_reg ?_
        refine JL_q (q_add) (k := ?_)
        refine JL_q (q_move) (k := ?_)
        refine JL_nil ?_
        refine JX_again ?_
        refine J_seq ?_
        refine J_reg ?_
        refine JL_q (q_lss) (k := ?_)
        refine JL_nil ?_
        refine JX_seq ?_
        refine J_seq ?_
        refine J_false rfl ?_
        refine J_exit ?_
        refine JX_seq_exit ?_
        refine JX_inv_exit ?_
        refine JX_block_hit ?_
        refine JX_seq ?_
        refine J_seq ?_
        refine J_reg ?_
        refine JL_q (q_assign) (k := ?_)
        refine JL_nil ?_
        refine JX_seq ?_
        refine J_ret ?_
        refine JX_retI Tryz.results95 (Res.tmp rfl Res.nil) ?_
        refine JL_q (q_assign) (k := ?_)
        refine JL_nil ?_
        refine JX_seq ?_
        refine J_ret ?_
        refine JX_retI Tryz.results136 (Res.tmp rfl Res.nil) ?_
        refine JL_q (q_assign) (k := ?_)
        refine JL_q (q_assign) (k := ?_)
        refine JL_nil ?_
        refine JX_seq ?_
        refine J_ret ?_
        refine JX_retI Tryz.results118 (Res.tmp rfl (Res.tmp rfl Res.nil)) ?_
        refine JL_q (q_ext) (k := ?_)
        refine JL_q (q_ext) (k := ?_)
        refine JL_q (q_assign) (k := ?_)
        refine JL_q (q_assign) (k := ?_)
        refine JL_nil ?_
        refine JX_seq ?_
        refine J_ret ?_
        refine JX_retI Tryz.results94 (Res.tmp rfl (Res.tmp rfl Res.nil)) ?_
        refine JL_q (q_move) (k := ?_)
        refine JL_q (q_ext) (k := ?_)
        refine JL_q (q_ext) (k := ?_)
        refine JL_q (q_assign) (k := ?_)
        refine JL_q (q_assign) (k := ?_)
        refine JL_nil ?_
        refine JX_seq ?_
        refine J_seq ?_
        refine J_seq ?_
        refine J_reg ?_
        refine JL_q (q_move) (k := ?_)
        refine JL_q (q_neS (u := Value.nilIface) (v := Value.nilIface) (b := false) (fun w => by kernel_rfl)) (k := ?_)
        refine JL_nil ?_
        refine JX_seq ?_
        refine J_false rfl ?_
        refine J_skip ?_
        refine JX_seq ?_
        refine J_reg ?_
        refine JL_q (q_move) (k := ?_)
        refine JL_s (w_store (l' := [_]) Tryz.sizeOf142) (k := ?_)
        refine JL_nil ?_
        refine JX_block ?_
        refine JX_roundI (qa (qa (qc (qa (qa (qa (qa q0))))))) ?_
        refine JL_q (q_not) (k := ?_)
        refine JL_nil ?_
        refine JX_seq ?_
        refine J_false rfl ?_
        refine J_skip ?_
        refine JX_block ?_
        refine JX_seq ?_
        refine J_reg ?_
        refine JL_q (q_add) (k := ?_)
        refine JL_q (q_move) (k := ?_)
        refine JL_nil ?_
        refine JX_permL _ ((((((((((((qa (qa (qa (qc (qa (qa (qa (qa (qc (qa (qa (qa (qa (qa (qa (qa (qa q0))))))))))))))))).trans (qa (qa (qa (qa (qc (qa (qa (qa (qa (qc (qa (qa (qa (qa (qa (qa (qa q0)))))))))))))))))).trans (qa (qa (qa (qa (qa (qc (qa (qa (qa (qa (qc (qa (qa (qa (qa (qa (qa q0)))))))))))))))))).trans (qa (qa (qa (qa (qa (qa (qc (qa (qa (qa (qa (qc (qa (qa (qa (qa (qa q0)))))))))))))))))).trans (qa (qa (qa (qa (qa (qa (qa (qc (qa (qa (qa (qa (qc (qa (qa (qa (qa q0)))))))))))))))))).trans (qa (qa (qa (qa (qa (qa (qa (qa (qc (qa (qa (qa (qa (qc (qa (qa (qa q0)))))))))))))))))).trans (qa (qa (qa (qa (qa (qa (qa (qa (qa (qc (qa (qa (qa (qa (qc (qa (qa q0)))))))))))))))))).trans (qa (qa (qa (qa (qa (qa (qa (qa (qa (qa (qc (qa (qa (qa (qa (qc (qa q0)))))))))))))))))).trans (qa (qa (qa (qa (qa (qa (qa (qa (qa (qa (qa (qc (qa (qa (qa (qa (qc q0)))))))))))))))))).trans (qa (qa (qa (qa (qa (qa (qa (qa (qa q0)))))))))).trans (qb (qb (qb (qb (qb (qb (qb (qb (qb (qb (qb (qb (qd (qb (qb (qb (qb q0)))))))))))))))))).trans (qd (qb (qb (qb (qb (qb (qb (qb (qb (qb (qb (qb (qb q0)))))))))))))) ?_
        refine JX_subL _ (List.Sublist.append (List.Sublist.refl _) (List.Sublist.append (List.Sublist.refl _) (List.Sublist.cons_cons _ (List.Sublist.cons_cons _ (List.Sublist.cons_cons _ (List.Sublist.cons_cons _ (List.Sublist.cons_cons _ (List.Sublist.cons_cons _ (List.Sublist.cons_cons _ (List.Sublist.cons_cons _ (List.Sublist.cons_cons _ (List.Sublist.cons_cons _ (List.nil_sublist _))))))))))))) ?_
        exact JX_inv12 n_5 (x_1 + 1) x_2 x_2a x_2c x_2B (x_3 ++ ([(((s.getD x_1 default).toNat : Nat) : Int)] : List Int)) ax5 cx5 Bx5 1 0 ⟨by omega, ((((((((((hF6.pos hq3).neg hq4).pos hq10).neg hq11).neg hq12).neg hq13).neg hq14).neg hq15).neg hq16).neg hq17), hx_2, hox5, (by omega), (by first | exact lb), (by first | exact lb)⟩ (Nat.lt_succ_self _) se (List.Perm.refl _)
      refine J_seq ?_
      refine J_reg ?_
      refine JL_q (q_fld FO_145_1) (k := ?_)
      refine JL_q (q_load Tryz.isAgg30) (k := ?_)
      refine JL_q (q_build (cs := [_]) Tryz.zeroValue152 PL_152) (k := ?_)
      refine JL_q (q_mkI Tryz.underlying152) (k := ?_)
      refine JL_q (q_assign) (k := ?_)
      refine JL_nil ?_
      refine JX_seq ?_
      refine J_ret ?_
      refine JX_block_ret ?_
      refine JX_seq_ret ?_
      refine JX_inv_ret ?_
      refine JX_block_ret ?_
      refine JX_seq_ret ?_
      refine JX_retI Tryz.results95 (Res.tmp rfl Res.nil) ?_
      refine JL_q (q_assign) (k := ?_)
      refine JL_nil ?_
      refine JX_seq ?_
      refine J_ret ?_
      refine JX_retI Tryz.results136 (Res.tmp rfl Res.nil) ?_
      refine JL_q (q_assign) (k := ?_)
      refine JL_q (q_assign) (k := ?_)
      refine JL_nil ?_
      refine JX_seq ?_
      refine J_ret ?_
      refine JX_retI Tryz.results118 (Res.tmp rfl (Res.tmp rfl Res.nil)) ?_
      refine JL_q (q_ext) (k := ?_)
      refine JL_q (q_ext) (k := ?_)
      refine JL_q (q_assign) (k := ?_)
      refine JL_q (q_assign) (k := ?_)
      refine JL_nil ?_
      refine JX_seq ?_
      refine J_ret ?_
      refine JX_retI Tryz.results94 (Res.tmp rfl (Res.tmp rfl Res.nil)) ?_
      refine JL_q (q_move) (k := ?_)
      refine JL_q (q_ext) (k := ?_)
      refine JL_q (q_ext) (k := ?_)
      refine JL_q (q_assign) (k := ?_)
      refine JL_q (q_assign) (k := ?_)
      refine JL_nil ?_
      refine JX_seq ?_
      refine J_seq ?_
      refine J_seq ?_
      refine J_reg ?_
      refine JL_q (q_move) (k := ?_)
      refine JL_q (q_neS (u := (Value.iface 152 (Value.agg [(Value.int .i64 (14))].toArray))) (v := Value.nilIface) (b := true) (fun w => by kernel_rfl)) (k := ?_)
      refine JL_nil ?_
      refine JX_seq ?_
      refine J_true rfl ?_
      refine J_seq ?_
      refine J_reg ?_
      refine JL_q (q_move) (k := ?_)
      refine JL_s (w_store (l' := [_]) Tryz.sizeOf60) (k := ?_)
      refine JL_s (w_store (l' := [_]) Tryz.sizeOf57) (k := ?_)
      refine JL_nil ?_
      refine JX_seq ?_
      refine J_ret ?_
      refine JX_seq_ret ?_
      refine JX_block_ret ?_
      refine JX_roundI_ret (qa (qa (qc (qa (qa (qa (qa q0))))))) ?_
      refine JL_q (q_not) (k := ?_)
      refine JL_nil ?_
      refine JX_seq ?_
      refine J_true rfl ?_
      refine J_exit ?_
      refine JX_block_miss rfl ?_
      refine JX_seq_exit ?_
      refine JX_inv_exit ?_
      refine JX_block_hit ?_
      refine JX_scope ?_
      refine JX_it1 (.inr rfl) Tryz.results119 q0 ?_
      refine J_ret ?_
      refine JX_block_ret ?_
      refine JX_seq_ret ?_
      refine JX_retIM [rD11] (qa (qa (qa (qc (qa (qa (qa (qa (qc q0))))))))) Tryz.results59 (Res.word Tryz.isAgg60 rfl me rfl (Res.word Tryz.isAgg57 rfl me rfl Res.nil)) ?_
      refine JL_q (q_move) (k := ?_)
      refine JL_q (q_ext) (k := ?_)
      refine JL_q (q_ext) (k := ?_)
      refine JL_q (q_assign) (k := ?_)
      refine JL_q (q_assign) (k := ?_)
      refine JL_nil ?_
      refine JX_seq ?_
      refine J_seq ?_
      refine J_reg ?_
      refine JL_q (q_move) (k := ?_)
      refine JL_q (q_move) (k := ?_)
      refine JL_inl (args := [(Value.iface 152 (Value.agg [(Value.int .i64 (14))].toArray))]) (c_callA Tryz.call60) Tryz.func60 Tryz.ntmps60 ?_
      refine J_seq ?_
      refine J_reg ?_
      refine JL_q (q_assign) (k := ?_)
      refine JL_nil ?_
      refine JX_seq ?_
      refine J_seq ?_
      refine J_reg ?_
      refine JL_a noMk (a_alloc (l := [_]) Tryz.zeroValue152) (k := fun r32 hr32 => ?_)
      refine JL_nil ?_
      refine JX_seq ?_
      refine J_seq ?_
      refine J_seq ?_
      refine J_reg ?_
      refine JL_q (q_move) (k := ?_)
      refine JL_q (q_mkI Tryz.underlying154) (k := ?_)
      refine JL_p (args := [(Value.iface 152 (Value.agg [(Value.int .i64 (14))].toArray)), (Value.iface 154 (Value.pointer (some ⟨r32, 0, none⟩)))]) (c_callA Tryz.call98) (fun w1 hw1 => as_hit_t w1 (hG.ext hw1.ext_out).ety (hw1.own _ me)) (k := ?_)
      rintro w1_8 e1_8 w2_8 hw1_8 ⟨he_8, hT_8⟩
      refine ⟨_, ((r32, Obj.cells [(Value.int .i64 (14))].toArray 152) :: ((l11, loopAt rr11 .exhausted (some .ret)) :: ((r31, Obj.cells [(Value.bool (decide (64 < ((((x_3 ++ ([(((s.getD x_1 default).toNat : Nat) : Int)] : List Int)).length) : Nat) : Int)))), (Value.int .i64 (14))].toArray 145) :: ((r30, Obj.cells [(Value.bool (decide (64 < ((((x_3 ++ ([(((s.getD x_1 default).toNat : Nat) : Int)] : List Int)).length) : Nat) : Int)))), (Value.int .i64 (14))].toArray 145) :: (Bx5 ++ ((r29, Obj.cells [(Value.int .u8 ((((s.getD x_1 default).toNat : Nat) : Int)))].toArray 5) :: ((r27, Obj.cells [(Value.bool (decide ((((s.getD x_1 default).toNat : Nat) : Int) = 92))), (Value.int .i64 (13))].toArray 145) :: ((r25, Obj.cells [(Value.bool (decide ((((s.getD x_1 default).toNat : Nat) : Int) = 34))), (Value.int .i64 (12))].toArray 145) :: ((r24, Obj.cells [(Value.bool (decide ((((s.getD x_1 default).toNat : Nat) : Int) = 34))), (Value.int .i64 (12)), (Value.bool (decide ((((s.getD x_1 default).toNat : Nat) : Int) = 92))), (Value.int .i64 (13))].toArray 145) :: (x_2B ++ ((r10, Obj.cells [(Value.string (bs s))].toArray 9) :: ((r8, Obj.cells [(Value.bool ((!(wIsPlain s)))), (Value.int .i64 (11))].toArray 145) :: ((r6, Obj.cells [(Value.bool (decide (300 < ((s.length : Nat) : Int)))), (Value.int .i64 (10))].toArray 145) :: ((r5, Obj.cells [(Value.bool (decide (300 < ((s.length : Nat) : Int)))), (Value.int .i64 (10)), (Value.bool ((!(wIsPlain s)))), (Value.int .i64 (11))].toArray 145) :: ((r4, Obj.cells [(stV x_4 r3 x_4b)].toArray 142) :: ((r3, Obj.cells [(Value.slice (x_2a) (x_2.length) (x_2c)), (Value.slice (ax5) ((x_3 ++ ([(((s.getD x_1 default).toNat : Nat) : Int)] : List Int)).length) (cx5))].toArray 140) :: ((r2, Obj.cells [(Value.iface 152 (Value.agg [(Value.int .i64 (14))].toArray))].toArray 57) :: ((r1, Obj.cells [(Value.slice (none) (0) (0))].toArray 60) :: [])))))))))))))))))), he_8, (hw1_8.perm q0).tr hT_8, ?_⟩
      refine JL_nil ?_
      refine JX_seq ?_
      refine J_true rfl ?_
      refine J_seq ?_
      refine J_reg ?_
      refine JL_q (q_fld FO_152_0) (k := ?_)
      refine JL_q (q_load Tryz.isAgg30) (k := ?_)
      refine JL_q (q_assign) (k := ?_)
      refine JL_nil ?_
      refine JX_seq ?_
      refine J_ret ?_
      refine JX_seq_ret ?_
      refine JX_retI Tryz.results60 (Res.tmp rfl Res.nil) ?_
      refine JL_q (q_assign) (k := ?_)
      refine JL_q (q_assign) (k := ?_)
      refine JL_nil ?_
      refine JX_seq ?_
      refine J_ret ?_
      refine JX_ret Tryz.results33 (Res.tmp rfl (Res.tmp rfl Res.nil)) (fun w1 hw1 => ?_)
      exact ⟨none, 0, [], (by rw [((((hF.neg hq1).f hq2).er4 ((((((((((hF6.pos hq3).neg hq4).pos hq10).neg hq11).neg hq12).neg hq13).neg hq14).neg hq15).neg hq16).pos hq17))).eq] <;> first | rfl | (simp only [List.length_set] <;> rfl)), (hw1.fresh_out.sub (List.nil_sublist _)), (by rw [((((hF.neg hq1).f hq2).er4 ((((((((((hF6.pos hq3).neg hq4).pos hq10).neg hq11).neg hq12).neg hq13).neg hq14).neg hq15).neg hq16).pos hq17))).eq]; exact OwnB.nil)⟩
    by_cases hq18 : x_4 = 1
    · refine JL_alter 33 (Value.func (.func 118) [(Value.pointer (some ⟨r3, 0, none⟩))].toArray [].toArray) rfl (by rw [hq18]; rfl) ?_
      refine JL_eqL (L' := ((l11, loopAt rr11 .busy none) :: (x_3B ++ (x_2B ++ ((rD11, Obj.deferred (some [])) :: ((r10, Obj.cells [(Value.string (bs s))].toArray 9) :: ((r8, Obj.cells [(Value.bool ((!(wIsPlain s)))), (Value.int .i64 (11))].toArray 145) :: ((r6, Obj.cells [(Value.bool (decide (300 < ((s.length : Nat) : Int)))), (Value.int .i64 (10))].toArray 145) :: ((r5, Obj.cells [(Value.bool (decide (300 < ((s.length : Nat) : Int)))), (Value.int .i64 (10)), (Value.bool ((!(wIsPlain s)))), (Value.int .i64 (11))].toArray 145) :: ((r4, Obj.cells [(stV x_4 r3 x_4b)].toArray 142) :: ((r3, Obj.cells [(Value.slice (x_2a) (x_2.length) (x_2c)), (Value.slice (x_3a) (x_3.length) (x_3c))].toArray 140) :: ((r2, Obj.cells [Value.nilIface].toArray 57) :: ((r1, Obj.cells [(Value.slice (none) (0) (0))].toArray 60) :: []))))))))))))) (by rw [hq18]; rfl) ?_
      refine JL_inl (args := [(Value.pointer (some ⟨r3, 0, none⟩)), (Value.int .u8 ((((s.getD x_1 default).toNat : Nat) : Int))), (Value.bool (false))]) (c_callA Tryz.call118) Tryz.func118 Tryz.ntmps118 ?_
      refine J_seq ?_
      refine J_reg ?_
      refine JL_q (q_assign) (k := ?_)
      refine JL_q (q_assign) (k := ?_)
      refine JL_nil ?_
      refine JX_seq ?_
      refine J_seq ?_
      refine J_seq ?_
      refine J_reg ?_
      refine JL_q (q_move) (k := ?_)
      refine JL_q (q_move) (k := ?_)
      refine JL_qg (q_move) (k := ?_)
      refine JL_qg (q_eql) (k := ?_)
      refine JL_q (q_pickF) (k := ?_)
      refine JL_nil ?_
      refine JX_seq ?_
      refine J_dec rfl (fun hq19 => ?_) (fun hq19 => ?_)
      · refine J_seq ?_
        refine J_reg ?_
        refine JL_q (q_move) (k := ?_)
        refine JL_q (q_nil) (k := ?_)
        refine JL_q (q_fld FO_140_0) (k := ?_)
        refine JL_inl (args := [(Value.pointer (some ⟨r3, 0, none⟩))]) (c_callA Tryz.call137) Tryz.func137 Tryz.ntmps137 ?_
        refine J_seq ?_
        refine J_planV ((l11, loopAt rr11 .busy none) :: (x_3B ++ ((rD11, Obj.deferred (some [])) :: ((r10, Obj.cells [(Value.string (bs s))].toArray 9) :: ((r8, Obj.cells [(Value.bool ((!(wIsPlain s)))), (Value.int .i64 (11))].toArray 145) :: ((r6, Obj.cells [(Value.bool (decide (300 < ((s.length : Nat) : Int)))), (Value.int .i64 (10))].toArray 145) :: ((r5, Obj.cells [(Value.bool (decide (300 < ((s.length : Nat) : Int)))), (Value.int .i64 (10)), (Value.bool ((!(wIsPlain s)))), (Value.int .i64 (11))].toArray 145) :: ((r4, Obj.cells [(stV x_4 r3 x_4b)].toArray 142) :: ((r3, Obj.cells [(Value.slice (x_2a) (x_2.length) (x_2c)), (Value.slice (x_3a) (x_3.length) (x_3c))].toArray 140) :: ((r2, Obj.cells [Value.nilIface].toArray 57) :: ((r1, Obj.cells [(Value.slice (none) (0) (0))].toArray 60) :: []))))))))))) (x_2B ++ []) (List.Perm.trans (qb (qd q0)) (List.Perm.of_eq (by first | rfl | (simp only [List.cons_append, List.nil_append, List.append_assoc, List.append_nil]; done) | (simp only [List.cons_append, List.nil_append, List.append_assoc, List.append_nil]; rfl)))) mixed 14 [(true, 0), (true, 1), (true, 2), (true, 3), (true, 4), (true, 5), (true, 6), (true, 7), (true, 8), (false, 9), (false, 10), (false, 11), (true, 12), (true, 13)] (by kernel_rfl) ?_
        refine JD_q (q_move) (k := ?_)
        refine JD_q (q_move) (k := ?_)
        refine JD_q (q_nil) (k := ?_)
        refine JD_q (q_fld FO_138_0) (k := ?_)
        refine JD_q (q_load Tryz.isAgg60) (k := ?_)
        refine JD_q (q_move) (k := ?_)
        refine JD_q (q_nil) (k := ?_)
        refine JD_q (q_fld FO_138_1) (k := ?_)
        refine JD_q (q_load Tryz.isAgg136) (k := ?_)
        refine JD_q (q_str Tryz.underlying9 Tryz.underlying136 Tryz.underlying5 (hx_3.slj eI_u8_ok)) (k := ?_)
        refine JD_a noMk (a_bslice (l := [_]) Tryz.runUnderlying60 Tryz.sizeOf9 Tryz.zeroValue9) (k := fun r33 hr33 => ?_)
        refine JD_append (x_2 ++ ([(toS x_3)] : List Str)) rfl TY_9 Tryz.underlying60 eS_ok hx_2 q0 (SlJ.lit (xs := ([(toS x_3)] : List Str)) eS_ok) ⟨by first | omega | (simp; omega), by first | omega | (simp; omega)⟩ (n := x_2.length) (m := 1) (k := fun ax7 cx7 Bx7 hox7 => ?_)
        have hal7 : (x_2 ++ ([(toS x_3)] : List Str)).length = x_2.length + 1 := by first | rfl | exact List.length_append | simp
        refine JD_q (q_nil) (k := ?_)
        refine JD_q (q_fld FO_138_0) (k := ?_)
        refine JD_nil ?_
        refine JL_eqL (L' := (Bx7 ++ ((r33, Obj.cells [(Value.string (bs (toS x_3)))].toArray 9) :: ((l11, loopAt rr11 .busy none) :: (x_3B ++ ((rD11, Obj.deferred (some [])) :: ((r10, Obj.cells [(Value.string (bs s))].toArray 9) :: ((r8, Obj.cells [(Value.bool ((!(wIsPlain s)))), (Value.int .i64 (11))].toArray 145) :: ((r6, Obj.cells [(Value.bool (decide (300 < ((s.length : Nat) : Int)))), (Value.int .i64 (10))].toArray 145) :: ((r5, Obj.cells [(Value.bool (decide (300 < ((s.length : Nat) : Int)))), (Value.int .i64 (10)), (Value.bool ((!(wIsPlain s)))), (Value.int .i64 (11))].toArray 145) :: ((r4, Obj.cells [(stV x_4 r3 x_4b)].toArray 142) :: ((r3, Obj.cells [(Value.slice (x_2a) (x_2.length) (x_2c)), (Value.slice (x_3a) (x_3.length) (x_3c))].toArray 140) :: ((r2, Obj.cells [Value.nilIface].toArray 57) :: ((r1, Obj.cells [(Value.slice (none) (0) (0))].toArray 60) :: [])))))))))))))) (by simp only [List.append_nil, List.append_assoc, List.cons_append, List.nil_append]) ?_
        refine JL_s (w_store (l' := [_, _]) Tryz.sizeOf60) (k := ?_)
        refine JL_nil ?_
        refine JX_seq ?_
        refine J_reg ?_
        refine JL_q (q_move) (k := ?_)
        refine JL_q (q_nil) (k := ?_)
        refine JL_q (q_fld FO_138_1) (k := ?_)
        refine JL_s (w_store (l' := [_, _]) Tryz.sizeOf136) (k := ?_)
        refine JL_nil ?_
        refine JX_endI Tryz.results137 Res.nil ?_
        refine JL_nil ?_
        refine JX_seq ?_
        refine J_seq ?_
        refine J_reg ?_
        refine JL_q (q_move) (k := ?_)
        refine JL_q (q_func) (k := ?_)
        refine JL_q (q_assign) (k := ?_)
        refine JL_q (q_assign) (k := ?_)
        refine JL_nil ?_
        refine JX_seq ?_
        refine J_ret ?_
        refine JX_seq_ret ?_
        refine JX_retI Tryz.results118 (Res.tmp rfl (Res.tmp rfl Res.nil)) ?_
        refine JL_q (q_move) (k := ?_)
        refine JL_q (q_ext) (k := ?_)
        refine JL_q (q_ext) (k := ?_)
        refine JL_q (q_assign) (k := ?_)
        refine JL_q (q_assign) (k := ?_)
        refine JL_nil ?_
        refine JX_seq ?_
        refine J_seq ?_
        refine J_seq ?_
        refine J_reg ?_
        refine JL_q (q_move) (k := ?_)
        refine JL_q (q_neS (u := Value.nilIface) (v := Value.nilIface) (b := false) (fun w => by kernel_rfl)) (k := ?_)
        refine JL_nil ?_
        refine JX_seq ?_
        refine J_false rfl ?_
        refine J_skip ?_
        refine JX_seq ?_
        refine J_reg ?_
        refine JL_q (q_move) (k := ?_)
        refine JL_s (w_store (l' := [_]) Tryz.sizeOf142) (k := ?_)
        refine JL_nil ?_
        refine JX_block ?_
        refine JX_roundI (qc (qa q0)) ?_
        refine JL_q (q_not) (k := ?_)
        refine JL_nil ?_
        refine JX_seq ?_
        refine J_false rfl ?_
        refine J_skip ?_
        refine JX_block ?_
        refine JX_seq ?_
        refine J_reg ?_
        refine JL_q (q_add) (k := ?_)
        refine JL_q (q_move) (k := ?_)
        refine JL_nil ?_
        refine JX_permL _ (((((((((((qa (qc (qa (qc (qa (qa (qa (qa (qa (qa (qa (qa q0)))))))))))).trans (qa (qa (qc (qa (qc (qa (qa (qa (qa (qa (qa (qa q0))))))))))))).trans (qa (qa (qa (qc (qa (qc (qa (qa (qa (qa (qa (qa q0))))))))))))).trans (qa (qa (qa (qa (qc (qa (qc (qa (qa (qa (qa (qa q0))))))))))))).trans (qa (qa (qa (qa (qa (qc (qa (qc (qa (qa (qa (qa q0))))))))))))).trans (qa (qa (qa (qa (qa (qa (qc (qa (qc (qa (qa (qa q0))))))))))))).trans (qa (qa (qa (qa (qa (qa (qa (qc (qa (qc (qa (qa q0))))))))))))).trans (qa (qa (qa (qa (qa (qa (qa (qa (qc (qa (qc (qa q0))))))))))))).trans (qa (qa (qa (qa (qa (qa (qa (qa (qa (qc (qa (qc q0))))))))))))).trans (qa (qa (qa (qa (qa (qa (qa (qa (qa q0)))))))))).trans (qb (qb (qb (qb (qb (qb (qb (qb (qb (qb q0))))))))))) ?_
        refine JX_subL _ (List.Sublist.append (List.Sublist.refl _) (List.Sublist.cons_cons _ (List.Sublist.cons_cons _ (List.Sublist.cons_cons _ (List.Sublist.cons_cons _ (List.Sublist.cons_cons _ (List.Sublist.cons_cons _ (List.Sublist.cons_cons _ (List.Sublist.cons_cons _ (List.Sublist.cons_cons _ (List.Sublist.cons_cons _ (List.nil_sublist _)))))))))))) ?_
        exact JX_inv12 n_5 (x_1 + 1) (x_2 ++ ([(toS x_3)] : List Str)) ax7 cx7 Bx7 ([]) none 0 ([]) 0 0 ⟨by omega, (((((hF6.pos hq3).neg hq4).neg hq10).pos hq18).pos hq19), hox7, OwnB.nil, (by omega), (by first | exact lb), (by first | exact lb)⟩ (Nat.lt_succ_self _) se (List.Perm.refl _)
      refine J_skip ?_
      refine JX_seq ?_
      refine J_seq ?_
      refine J_seq ?_
      refine J_reg ?_
      refine JL_q (q_move) (k := ?_)
      refine JL_q (q_eql) (k := ?_)
      refine JL_q (q_build (cs := [_, _]) Tryz.zeroValue145 PL_145) (k := ?_)
      refine JL_q (q_move) (k := ?_)
      refine JL_q (q_eql) (k := ?_)
      refine JL_q (q_build (cs := [_, _]) Tryz.zeroValue145 PL_145) (k := ?_)
      refine JL_a noMk (a_bslice (l := [_, _, _, _]) Tryz.runUnderlying193 Tryz.sizeOf145 Tryz.zeroValue145) (k := fun r34 hr34 => ?_)
      refine JL_inl (args := [(Value.slice (some ⟨r34, 0, none⟩) (2) (2))]) (c_callA Tryz.call95) Tryz.func95 Tryz.ntmps95 ?_
      refine J_seq ?_
      refine J_reg ?_
      refine JL_q (q_assign) (k := ?_)
      refine JL_nil ?_
      refine JX_seq ?_
      refine J_seq ?_
      refine J_seq ?_
      refine J_reg ?_
      refine JL_q (q_move) (k := ?_)
      refine JL_q (q_lenS Tryz.runUnderlying193) (k := ?_)
      refine JL_q (q_move) (k := ?_)
      refine JL_nil ?_
      refine JX_seq ?_
      refine J_block ?_
      refine J_unroll ?_
      refine J_seq ?_
      refine J_reg ?_
      refine JL_q (q_lss) (k := ?_)
      refine JL_nil ?_
      refine JX_seq ?_
      refine J_seq ?_
      refine J_true rfl ?_
      refine J_skip ?_
      refine JX_seq ?_
      refine J_seq ?_
      refine J_block ?_
      refine J_seq ?_
      refine J_reg ?_
      refine JL_q (q_idxO Tryz.runUnderlying193 Tryz.sizeOf145 0) (k := ?_)
      refine JL_q (q_loadA Tryz.isAgg145 Tryz.sizeOf145) (k := ?_)
      refine JL_a noMk (a_alloc (l := [_, _]) Tryz.zeroValue145) (k := fun r35 hr35 => ?_)
      refine JL_s (w_store (l' := [_, _]) Tryz.sizeOf145) (k := ?_)
      refine JL_nil ?_
      refine JX_seq ?_
      refine J_seq ?_
      refine J_reg ?_
      refine JL_q (q_fld FO_145_0) (k := ?_)
      refine JL_q (q_load Tryz.isAgg4) (k := ?_)
      refine JL_nil ?_
      refine JX_seq ?_
      refine J_dec rfl (fun hq20 => ?_) (fun hq20 => ?_)
      · refine J_seq ?_
        refine J_reg ?_
        refine JL_q (q_fld FO_145_1) (k := ?_)
        refine JL_q (q_load Tryz.isAgg30) (k := ?_)
        refine JL_q (q_build (cs := [_]) Tryz.zeroValue152 PL_152) (k := ?_)
        refine JL_q (q_mkI Tryz.underlying152) (k := ?_)
        refine JL_q (q_assign) (k := ?_)
        refine JL_nil ?_
        refine JX_seq ?_
        refine J_ret ?_
        refine JX_block_ret ?_
        refine JX_seq_ret ?_
        refine JX_inv_ret ?_
        refine JX_block_ret ?_
        refine JX_seq_ret ?_
        refine JX_retI Tryz.results95 (Res.tmp rfl Res.nil) ?_
        refine JL_q (q_assign) (k := ?_)
        refine JL_nil ?_
        refine JX_seq ?_
        refine J_seq ?_
        refine J_reg ?_
        refine JL_q (q_move) (k := ?_)
        refine JL_q (q_neS (u := (Value.iface 152 (Value.agg [(Value.int .i64 (12))].toArray))) (v := Value.nilIface) (b := true) (fun w => by kernel_rfl)) (k := ?_)
        refine JL_nil ?_
        refine JX_seq ?_
        refine J_true rfl ?_
        refine J_seq ?_
        refine J_reg ?_
        refine JL_q (q_move) (k := ?_)
        refine JL_q (q_assign) (k := ?_)
        refine JL_q (q_assign) (k := ?_)
        refine JL_nil ?_
        refine JX_seq ?_
        refine J_ret ?_
        refine JX_seq_ret ?_
        refine JX_retI Tryz.results118 (Res.tmp rfl (Res.tmp rfl Res.nil)) ?_
        refine JL_q (q_move) (k := ?_)
        refine JL_q (q_ext) (k := ?_)
        refine JL_q (q_ext) (k := ?_)
        refine JL_q (q_assign) (k := ?_)
        refine JL_q (q_assign) (k := ?_)
        refine JL_nil ?_
        refine JX_seq ?_
        refine J_seq ?_
        refine J_seq ?_
        refine J_reg ?_
        refine JL_q (q_move) (k := ?_)
        refine JL_q (q_neS (u := (Value.iface 152 (Value.agg [(Value.int .i64 (12))].toArray))) (v := Value.nilIface) (b := true) (fun w => by kernel_rfl)) (k := ?_)
        refine JL_nil ?_
        refine JX_seq ?_
        refine J_true rfl ?_
        refine J_seq ?_
        refine J_reg ?_
        refine JL_q (q_move) (k := ?_)
        refine JL_s (w_store (l' := [_]) Tryz.sizeOf60) (k := ?_)
        refine JL_s (w_store (l' := [_]) Tryz.sizeOf57) (k := ?_)
        refine JL_nil ?_
        refine JX_seq ?_
        refine J_ret ?_
        refine JX_seq_ret ?_
        refine JX_block_ret ?_
        refine JX_roundI_ret (qa (qa q0)) ?_
        refine JL_q (q_not) (k := ?_)
        refine JL_nil ?_
        refine JX_seq ?_
        refine J_true rfl ?_
        refine J_exit ?_
        refine JX_block_miss rfl ?_
        refine JX_seq_exit ?_
        refine JX_inv_exit ?_
        refine JX_block_hit ?_
        refine JX_scope ?_
        refine JX_it1 (.inr rfl) Tryz.results119 q0 ?_
        refine J_ret ?_
        refine JX_block_ret ?_
        refine JX_seq_ret ?_
        refine JX_retIM [rD11] (qa (qa (qa (qc (qc q0))))) Tryz.results59 (Res.word Tryz.isAgg60 rfl me rfl (Res.word Tryz.isAgg57 rfl me rfl Res.nil)) ?_
        refine JL_q (q_move) (k := ?_)
        refine JL_q (q_ext) (k := ?_)
        refine JL_q (q_ext) (k := ?_)
        refine JL_q (q_assign) (k := ?_)
        refine JL_q (q_assign) (k := ?_)
        refine JL_nil ?_
        refine JX_seq ?_
        refine J_seq ?_
        refine J_reg ?_
        refine JL_q (q_move) (k := ?_)
        refine JL_q (q_move) (k := ?_)
        refine JL_inl (args := [(Value.iface 152 (Value.agg [(Value.int .i64 (12))].toArray))]) (c_callA Tryz.call60) Tryz.func60 Tryz.ntmps60 ?_
        refine J_seq ?_
        refine J_reg ?_
        refine JL_q (q_assign) (k := ?_)
        refine JL_nil ?_
        refine JX_seq ?_
        refine J_seq ?_
        refine J_reg ?_
        refine JL_a noMk (a_alloc (l := [_]) Tryz.zeroValue152) (k := fun r36 hr36 => ?_)
        refine JL_nil ?_
        refine JX_seq ?_
        refine J_seq ?_
        refine J_seq ?_
        refine J_reg ?_
        refine JL_q (q_move) (k := ?_)
        refine JL_q (q_mkI Tryz.underlying154) (k := ?_)
        refine JL_p (args := [(Value.iface 152 (Value.agg [(Value.int .i64 (12))].toArray)), (Value.iface 154 (Value.pointer (some ⟨r36, 0, none⟩)))]) (c_callA Tryz.call98) (fun w1 hw1 => as_hit_t w1 (hG.ext hw1.ext_out).ety (hw1.own _ me)) (k := ?_)
        rintro w1_9 e1_9 w2_9 hw1_9 ⟨he_9, hT_9⟩
        refine ⟨_, ((r36, Obj.cells [(Value.int .i64 (12))].toArray 152) :: ((l11, loopAt rr11 .exhausted (some .ret)) :: ((r35, Obj.cells [(Value.bool (decide ((((s.getD x_1 default).toNat : Nat) : Int) = 34))), (Value.int .i64 (12))].toArray 145) :: ((r34, Obj.cells [(Value.bool (decide ((((s.getD x_1 default).toNat : Nat) : Int) = 34))), (Value.int .i64 (12)), (Value.bool (decide ((((s.getD x_1 default).toNat : Nat) : Int) = 92))), (Value.int .i64 (13))].toArray 145) :: (x_3B ++ (x_2B ++ ((r10, Obj.cells [(Value.string (bs s))].toArray 9) :: ((r8, Obj.cells [(Value.bool ((!(wIsPlain s)))), (Value.int .i64 (11))].toArray 145) :: ((r6, Obj.cells [(Value.bool (decide (300 < ((s.length : Nat) : Int)))), (Value.int .i64 (10))].toArray 145) :: ((r5, Obj.cells [(Value.bool (decide (300 < ((s.length : Nat) : Int)))), (Value.int .i64 (10)), (Value.bool ((!(wIsPlain s)))), (Value.int .i64 (11))].toArray 145) :: ((r4, Obj.cells [(stV x_4 r3 x_4b)].toArray 142) :: ((r3, Obj.cells [(Value.slice (x_2a) (x_2.length) (x_2c)), (Value.slice (x_3a) (x_3.length) (x_3c))].toArray 140) :: ((r2, Obj.cells [(Value.iface 152 (Value.agg [(Value.int .i64 (12))].toArray))].toArray 57) :: ((r1, Obj.cells [(Value.slice (none) (0) (0))].toArray 60) :: [])))))))))))))), he_9, (hw1_9.perm q0).tr hT_9, ?_⟩
        refine JL_nil ?_
        refine JX_seq ?_
        refine J_true rfl ?_
        refine J_seq ?_
        refine J_reg ?_
        refine JL_q (q_fld FO_152_0) (k := ?_)
        refine JL_q (q_load Tryz.isAgg30) (k := ?_)
        refine JL_q (q_assign) (k := ?_)
        refine JL_nil ?_
        refine JX_seq ?_
        refine J_ret ?_
        refine JX_seq_ret ?_
        refine JX_retI Tryz.results60 (Res.tmp rfl Res.nil) ?_
        refine JL_q (q_assign) (k := ?_)
        refine JL_q (q_assign) (k := ?_)
        refine JL_nil ?_
        refine JX_seq ?_
        refine J_ret ?_
        refine JX_ret Tryz.results33 (Res.tmp rfl (Res.tmp rfl Res.nil)) (fun w1 hw1 => ?_)
        exact ⟨none, 0, [], (by rw [((((hF.neg hq1).f hq2).er4 ((((((hF6.pos hq3).neg hq4).neg hq10).pos hq18).neg hq19).pos hq20))).eq] <;> first | rfl | (simp only [List.length_set] <;> rfl)), (hw1.fresh_out.sub (List.nil_sublist _)), (by rw [((((hF.neg hq1).f hq2).er4 ((((((hF6.pos hq3).neg hq4).neg hq10).pos hq18).neg hq19).pos hq20))).eq]; exact OwnB.nil)⟩
      refine J_skip ?_
      refine JX_block ?_
      refine JX_seq ?_
      refine J_reg ?_
      refine JL_q (q_add) (k := ?_)
      refine JL_q (q_move) (k := ?_)
      refine JL_nil ?_
      refine JX_again ?_
      refine J_seq ?_
      refine J_reg ?_
      refine JL_q (q_lss) (k := ?_)
      refine JL_nil ?_
      refine JX_seq ?_
      refine J_seq ?_
      refine J_true rfl ?_
      refine J_skip ?_
      refine JX_seq ?_
      refine J_seq ?_
      refine J_block ?_
      refine J_seq ?_
      refine J_reg ?_
      refine JL_q (q_idxO Tryz.runUnderlying193 Tryz.sizeOf145 1) (k := ?_)
      refine JL_q (q_loadA Tryz.isAgg145 Tryz.sizeOf145) (k := ?_)
      refine JL_a noMk (a_alloc (l := [_, _]) Tryz.zeroValue145) (k := fun r37 hr37 => ?_)
      refine JL_s (w_store (l' := [_, _]) Tryz.sizeOf145) (k := ?_)
      refine JL_nil ?_
      refine JX_seq ?_
      refine J_seq ?_
      refine J_reg ?_
      refine JL_q (q_fld FO_145_0) (k := ?_)
      refine JL_q (q_load Tryz.isAgg4) (k := ?_)
      refine JL_nil ?_
      refine JX_seq ?_
      refine J_dec rfl (fun hq21 => ?_) (fun hq21 => ?_)
      · refine J_seq ?_
        refine J_reg ?_
        refine JL_q (q_fld FO_145_1) (k := ?_)
        refine JL_q (q_load Tryz.isAgg30) (k := ?_)
        refine JL_q (q_build (cs := [_]) Tryz.zeroValue152 PL_152) (k := ?_)
        refine JL_q (q_mkI Tryz.underlying152) (k := ?_)
        refine JL_q (q_assign) (k := ?_)
        refine JL_nil ?_
        refine JX_seq ?_
        refine J_ret ?_
        refine JX_block_ret ?_
        refine JX_seq_ret ?_
        refine JX_inv_ret ?_
        refine JX_block_ret ?_
        refine JX_seq_ret ?_
        refine JX_retI Tryz.results95 (Res.tmp rfl Res.nil) ?_
        refine JL_q (q_assign) (k := ?_)
        refine JL_nil ?_
        refine JX_seq ?_
        refine J_seq ?_
        refine J_reg ?_
        refine JL_q (q_move) (k := ?_)
        refine JL_q (q_neS (u := (Value.iface 152 (Value.agg [(Value.int .i64 (13))].toArray))) (v := Value.nilIface) (b := true) (fun w => by kernel_rfl)) (k := ?_)
        refine JL_nil ?_
        refine JX_seq ?_
        refine J_true rfl ?_
        refine J_seq ?_
        refine J_reg ?_
        refine JL_q (q_move) (k := ?_)
        refine JL_q (q_assign) (k := ?_)
        refine JL_q (q_assign) (k := ?_)
        refine JL_nil ?_
        refine JX_seq ?_
        refine J_ret ?_
        refine JX_seq_ret ?_
        refine JX_retI Tryz.results118 (Res.tmp rfl (Res.tmp rfl Res.nil)) ?_
        refine JL_q (q_move) (k := ?_)
        refine JL_q (q_ext) (k := ?_)
        refine JL_q (q_ext) (k := ?_)
        refine JL_q (q_assign) (k := ?_)
        refine JL_q (q_assign) (k := ?_)
        refine JL_nil ?_
        refine JX_seq ?_
        refine J_seq ?_
        refine J_seq ?_
        refine J_reg ?_
        refine JL_q (q_move) (k := ?_)
        refine JL_q (q_neS (u := (Value.iface 152 (Value.agg [(Value.int .i64 (13))].toArray))) (v := Value.nilIface) (b := true) (fun w => by kernel_rfl)) (k := ?_)
        refine JL_nil ?_
        refine JX_seq ?_
        refine J_true rfl ?_
        refine J_seq ?_
        refine J_reg ?_
        refine JL_q (q_move) (k := ?_)
        refine JL_s (w_store (l' := [_]) Tryz.sizeOf60) (k := ?_)
        refine JL_s (w_store (l' := [_]) Tryz.sizeOf57) (k := ?_)
        refine JL_nil ?_
        refine JX_seq ?_
        refine J_ret ?_
        refine JX_seq_ret ?_
        refine JX_block_ret ?_
        refine JX_roundI_ret (qa (qa (qa q0))) ?_
        refine JL_q (q_not) (k := ?_)
        refine JL_nil ?_
        refine JX_seq ?_
        refine J_true rfl ?_
        refine J_exit ?_
        refine JX_block_miss rfl ?_
        refine JX_seq_exit ?_
        refine JX_inv_exit ?_
        refine JX_block_hit ?_
        refine JX_scope ?_
        refine JX_it1 (.inr rfl) Tryz.results119 q0 ?_
        refine J_ret ?_
        refine JX_block_ret ?_
        refine JX_seq_ret ?_
        refine JX_retIM [rD11] (qa (qa (qa (qa (qc (qc q0)))))) Tryz.results59 (Res.word Tryz.isAgg60 rfl me rfl (Res.word Tryz.isAgg57 rfl me rfl Res.nil)) ?_
        refine JL_q (q_move) (k := ?_)
        refine JL_q (q_ext) (k := ?_)
        refine JL_q (q_ext) (k := ?_)
        refine JL_q (q_assign) (k := ?_)
        refine JL_q (q_assign) (k := ?_)
        refine JL_nil ?_
        refine JX_seq ?_
        refine J_seq ?_
        refine J_reg ?_
        refine JL_q (q_move) (k := ?_)
        refine JL_q (q_move) (k := ?_)
        refine JL_inl (args := [(Value.iface 152 (Value.agg [(Value.int .i64 (13))].toArray))]) (c_callA Tryz.call60) Tryz.func60 Tryz.ntmps60 ?_
        refine J_seq ?_
        refine J_reg ?_
        refine JL_q (q_assign) (k := ?_)
        refine JL_nil ?_
        refine JX_seq ?_
        refine J_seq ?_
        refine J_reg ?_
        refine JL_a noMk (a_alloc (l := [_]) Tryz.zeroValue152) (k := fun r38 hr38 => ?_)
        refine JL_nil ?_
        refine JX_seq ?_
        refine J_seq ?_
        refine J_seq ?_
        refine J_reg ?_
        refine JL_q (q_move) (k := ?_)
        refine JL_q (q_mkI Tryz.underlying154) (k := ?_)
        refine JL_p (args := [(Value.iface 152 (Value.agg [(Value.int .i64 (13))].toArray)), (Value.iface 154 (Value.pointer (some ⟨r38, 0, none⟩)))]) (c_callA Tryz.call98) (fun w1 hw1 => as_hit_t w1 (hG.ext hw1.ext_out).ety (hw1.own _ me)) (k := ?_)
        rintro w1_10 e1_10 w2_10 hw1_10 ⟨he_10, hT_10⟩
        refine ⟨_, ((r38, Obj.cells [(Value.int .i64 (13))].toArray 152) :: ((l11, loopAt rr11 .exhausted (some .ret)) :: ((r37, Obj.cells [(Value.bool (decide ((((s.getD x_1 default).toNat : Nat) : Int) = 92))), (Value.int .i64 (13))].toArray 145) :: ((r35, Obj.cells [(Value.bool (decide ((((s.getD x_1 default).toNat : Nat) : Int) = 34))), (Value.int .i64 (12))].toArray 145) :: ((r34, Obj.cells [(Value.bool (decide ((((s.getD x_1 default).toNat : Nat) : Int) = 34))), (Value.int .i64 (12)), (Value.bool (decide ((((s.getD x_1 default).toNat : Nat) : Int) = 92))), (Value.int .i64 (13))].toArray 145) :: (x_3B ++ (x_2B ++ ((r10, Obj.cells [(Value.string (bs s))].toArray 9) :: ((r8, Obj.cells [(Value.bool ((!(wIsPlain s)))), (Value.int .i64 (11))].toArray 145) :: ((r6, Obj.cells [(Value.bool (decide (300 < ((s.length : Nat) : Int)))), (Value.int .i64 (10))].toArray 145) :: ((r5, Obj.cells [(Value.bool (decide (300 < ((s.length : Nat) : Int)))), (Value.int .i64 (10)), (Value.bool ((!(wIsPlain s)))), (Value.int .i64 (11))].toArray 145) :: ((r4, Obj.cells [(stV x_4 r3 x_4b)].toArray 142) :: ((r3, Obj.cells [(Value.slice (x_2a) (x_2.length) (x_2c)), (Value.slice (x_3a) (x_3.length) (x_3c))].toArray 140) :: ((r2, Obj.cells [(Value.iface 152 (Value.agg [(Value.int .i64 (13))].toArray))].toArray 57) :: ((r1, Obj.cells [(Value.slice (none) (0) (0))].toArray 60) :: []))))))))))))))), he_10, (hw1_10.perm q0).tr hT_10, ?_⟩
        refine JL_nil ?_
        refine JX_seq ?_
        refine J_true rfl ?_
        refine J_seq ?_
        refine J_reg ?_
        refine JL_q (q_fld FO_152_0) (k := ?_)
        refine JL_q (q_load Tryz.isAgg30) (k := ?_)
        refine JL_q (q_assign) (k := ?_)
        refine JL_nil ?_
        refine JX_seq ?_
        refine J_ret ?_
        refine JX_seq_ret ?_
        refine JX_retI Tryz.results60 (Res.tmp rfl Res.nil) ?_
        refine JL_q (q_assign) (k := ?_)
        refine JL_q (q_assign) (k := ?_)
        refine JL_nil ?_
        refine JX_seq ?_
        refine J_ret ?_
        refine JX_ret Tryz.results33 (Res.tmp rfl (Res.tmp rfl Res.nil)) (fun w1 hw1 => ?_)
        exact ⟨none, 0, [], (by rw [((((hF.neg hq1).f hq2).er4 (((((((hF6.pos hq3).neg hq4).neg hq10).pos hq18).neg hq19).neg hq20).pos hq21))).eq] <;> first | rfl | (simp only [List.length_set] <;> rfl)), (hw1.fresh_out.sub (List.nil_sublist _)), (by rw [((((hF.neg hq1).f hq2).er4 (((((((hF6.pos hq3).neg hq4).neg hq10).pos hq18).neg hq19).neg hq20).pos hq21))).eq]; exact OwnB.nil)⟩
      refine J_skip ?_
      refine JX_block ?_
      refine JX_seq ?_
      refine J_reg ?_
      refine JL_q (q_add) (k := ?_)
      refine JL_q (q_move) (k := ?_)
      refine JL_nil ?_
      refine JX_again ?_
      refine J_seq ?_
      refine J_reg ?_
      refine JL_q (q_lss) (k := ?_)
      refine JL_nil ?_
      refine JX_seq ?_
      refine J_seq ?_
      refine J_false rfl ?_
      refine J_exit ?_
      refine JX_seq_exit ?_
      refine JX_inv_exit ?_
      refine JX_block_hit ?_
      refine JX_seq ?_
      refine J_seq ?_
      refine J_reg ?_
      refine JL_q (q_assign) (k := ?_)
      refine JL_nil ?_
      refine JX_seq ?_
      refine J_ret ?_
      refine JX_retI Tryz.results95 (Res.tmp rfl Res.nil) ?_
      refine JL_q (q_assign) (k := ?_)
      refine JL_nil ?_
      refine JX_seq ?_
      refine J_seq ?_
      refine J_reg ?_
      refine JL_q (q_move) (k := ?_)
      refine JL_q (q_neS (u := Value.nilIface) (v := Value.nilIface) (b := false) (fun w => by kernel_rfl)) (k := ?_)
      refine JL_nil ?_
      refine JX_seq ?_
      refine J_false rfl ?_
      refine J_skip ?_
      refine JX_seq ?_
      refine J_seq ?_
      refine J_reg ?_
      refine JL_q (q_move) (k := ?_)
      refine JL_q (q_func) (k := ?_)
      refine JL_q (q_move) (k := ?_)
      refine JL_q (q_nil) (k := ?_)
      refine JL_q (q_fld FO_140_0) (k := ?_)
      refine JL_q (q_move) (k := ?_)
      refine JL_inl (args := [(Value.pointer (some ⟨r3, 0, none⟩)), (Value.int .u8 ((((s.getD x_1 default).toNat : Nat) : Int)))]) (c_callA Tryz.call136) Tryz.func136 Tryz.ntmps136 ?_
      refine J_seq ?_
      refine J_reg ?_
      refine JL_q (q_assign) (k := ?_)
      refine JL_nil ?_
      refine JX_seq ?_
      refine J_seq ?_
      refine J_reg ?_
      refine JL_q (q_move) (k := ?_)
      refine JL_q (q_move) (k := ?_)
      refine JL_q (q_nil) (k := ?_)
      refine JL_q (q_fld FO_138_1) (k := ?_)
      refine JL_q (q_load Tryz.isAgg136) (k := ?_)
      refine JL_q (q_move) (k := ?_)
      refine JL_a noMk (a_bslice (l := [_]) Tryz.runUnderlying136 Tryz.sizeOf5 Tryz.zeroValue5) (k := fun r39 hr39 => ?_)
      refine JL_append (x_3 ++ ([(((s.getD x_1 default).toNat : Nat) : Int)] : List Int)) rfl TY_5 Tryz.underlying136 eI_u8_ok hx_3 (qb (qb (qb (qb (qb q0))))) (SlJ.lit (xs := ([(((s.getD x_1 default).toNat : Nat) : Int)] : List Int)) eI_u8_ok) ⟨by omega, by omega⟩ (n := x_3.length) (m := 1) (k := fun ax8 cx8 Bx8 hox8 => ?_)
      have hal8 : (x_3 ++ ([(((s.getD x_1 default).toNat : Nat) : Int)] : List Int)).length = x_3.length + 1 := by first | rfl | exact List.length_append | simp
      refine JL_q (q_nil) (k := ?_)
      refine JL_q (q_fld FO_138_1) (k := ?_)
      refine JL_s (w_store (l' := [_, _]) Tryz.sizeOf136) (k := ?_)
      refine JL_nil ?_
      refine JX_seq ?_
      refine J_seq ?_
      refine J_reg ?_
      refine JL_q (q_move) (k := ?_)
      refine JL_q (q_nil) (k := ?_)
      refine JL_q (q_fld FO_138_1) (k := ?_)
      refine JL_q (q_load Tryz.isAgg136) (k := ?_)
      refine JL_q (q_lenS Tryz.runUnderlying136) (k := ?_)
      refine JL_q (q_gtr) (k := ?_)
      refine JL_q (q_build (cs := [_, _]) Tryz.zeroValue145 PL_145) (k := ?_)
      refine JL_a noMk (a_bslice (l := [_, _]) Tryz.runUnderlying193 Tryz.sizeOf145 Tryz.zeroValue145) (k := fun r40 hr40 => ?_)
      refine JL_inl (args := [(Value.slice (some ⟨r40, 0, none⟩) (1) (1))]) (c_callA Tryz.call95) Tryz.func95 Tryz.ntmps95 ?_
      refine J_seq ?_
      refine J_reg ?_
      refine JL_q (q_assign) (k := ?_)
      refine JL_nil ?_
      refine JX_seq ?_
      refine J_seq ?_
      refine J_seq ?_
      refine J_reg ?_
      refine JL_q (q_move) (k := ?_)
      refine JL_q (q_lenS Tryz.runUnderlying193) (k := ?_)
      refine JL_q (q_move) (k := ?_)
      refine JL_nil ?_
      refine JX_seq ?_
      refine J_block ?_
      refine J_unroll ?_
      refine J_seq ?_
      refine J_reg ?_
      refine JL_q (q_lss) (k := ?_)
      refine JL_nil ?_
      refine JX_seq ?_
      refine J_seq ?_
      refine J_true rfl ?_
      refine J_skip ?_
      refine JX_seq ?_
      refine J_seq ?_
      refine J_block ?_
      refine J_seq ?_
      refine J_reg ?_
      refine JL_q (q_idxO Tryz.runUnderlying193 Tryz.sizeOf145 0) (k := ?_)
      refine JL_q (q_loadA Tryz.isAgg145 Tryz.sizeOf145) (k := ?_)
      refine JL_a noMk (a_alloc (l := [_, _]) Tryz.zeroValue145) (k := fun r41 hr41 => ?_)
      refine JL_s (w_store (l' := [_, _]) Tryz.sizeOf145) (k := ?_)
      refine JL_nil ?_
      refine JX_seq ?_
      refine J_seq ?_
      refine J_reg ?_
      refine JL_q (q_fld FO_145_0) (k := ?_)
      refine JL_q (q_load Tryz.isAgg4) (k := ?_)
      refine JL_nil ?_
      refine JX_seq ?_
      refine J_dec rfl (fun hq22 => ?_) (fun hq22 => ?_)
      rotate_left
      · refine J_skip ?_
        refine JX_block ?_
        refine JX_seq ?_
        refine J_reg ?_
        refine JL_q (q_add) (k := ?_)
        refine JL_q (q_move) (k := ?_)
        refine JL_nil ?_
        refine JX_again ?_
        refine J_seq ?_
        refine J_reg ?_
        refine JL_q (q_lss) (k := ?_)
        refine JL_nil ?_
        refine JX_seq ?_
        refine J_seq ?_
        refine J_false rfl ?_
        refine J_exit ?_
        refine JX_seq_exit ?_
        refine JX_inv_exit ?_
        refine JX_block_hit ?_
        refine JX_seq ?_
        refine J_seq ?_
        refine J_reg ?_
        refine JL_q (q_assign) (k := ?_)
        refine JL_nil ?_
        refine JX_seq ?_
        refine J_ret ?_
        refine JX_retI Tryz.results95 (Res.tmp rfl Res.nil) ?_
        refine JL_q (q_assign) (k := ?_)
        refine JL_nil ?_
        refine JX_seq ?_
        refine J_ret ?_
        refine JX_retI Tryz.results136 (Res.tmp rfl Res.nil) ?_
        refine JL_q (q_assign) (k := ?_)
        refine JL_q (q_assign) (k := ?_)
        refine JL_nil ?_
        refine JX_seq ?_
        refine J_ret ?_
        refine JX_retI Tryz.results118 (Res.tmp rfl (Res.tmp rfl Res.nil)) ?_
        refine JL_q (q_move) (k := ?_)
        refine JL_q (q_ext) (k := ?_)
        refine JL_q (q_ext) (k := ?_)
        refine JL_q (q_assign) (k := ?_)
        refine JL_q (q_assign) (k := ?_)
        refine JL_nil ?_
        refine JX_seq ?_
        refine J_seq ?_
        refine J_seq ?_
        refine J_reg ?_
        refine JL_q (q_move) (k := ?_)
        refine JL_q (q_neS (u := Value.nilIface) (v := Value.nilIface) (b := false) (fun w => by kernel_rfl)) (k := ?_)
        refine JL_nil ?_
        refine JX_seq ?_
        refine J_false rfl ?_
        refine J_skip ?_
        refine JX_seq ?_
        refine J_reg ?_
        refine JL_q (q_move) (k := ?_)
        refine JL_s (w_store (l' := [_]) Tryz.sizeOf142) (k := ?_)
        refine JL_nil ?_
        refine JX_block ?_
        refine JX_roundI (qa (qa (qc (qa (qa (qa (qa q0))))))) ?_
        refine JL_q (q_not) (k := ?_)
        refine JL_nil ?_
        refine JX_seq ?_
        refine J_false rfl ?_
        refine J_skip ?_
        refine JX_block ?_
        refine JX_seq ?_
        refine J_reg ?_
        refine JL_q (q_add) (k := ?_)
        refine JL_q (q_move) (k := ?_)
        refine JL_nil ?_
        refine JX_permL _ ((((((((((((qa (qa (qa (qc (qa (qa (qa (qa (qc (qa (qa (qa (qa (qa (qa (qa (qa q0))))))))))))))))).trans (qa (qa (qa (qa (qc (qa (qa (qa (qa (qc (qa (qa (qa (qa (qa (qa (qa q0)))))))))))))))))).trans (qa (qa (qa (qa (qa (qc (qa (qa (qa (qa (qc (qa (qa (qa (qa (qa (qa q0)))))))))))))))))).trans (qa (qa (qa (qa (qa (qa (qc (qa (qa (qa (qa (qc (qa (qa (qa (qa (qa q0)))))))))))))))))).trans (qa (qa (qa (qa (qa (qa (qa (qc (qa (qa (qa (qa (qc (qa (qa (qa (qa q0)))))))))))))))))).trans (qa (qa (qa (qa (qa (qa (qa (qa (qc (qa (qa (qa (qa (qc (qa (qa (qa q0)))))))))))))))))).trans (qa (qa (qa (qa (qa (qa (qa (qa (qa (qc (qa (qa (qa (qa (qc (qa (qa q0)))))))))))))))))).trans (qa (qa (qa (qa (qa (qa (qa (qa (qa (qa (qc (qa (qa (qa (qa (qc (qa q0)))))))))))))))))).trans (qa (qa (qa (qa (qa (qa (qa (qa (qa (qa (qa (qc (qa (qa (qa (qa (qc q0)))))))))))))))))).trans (qa (qa (qa (qa (qa (qa (qa (qa (qa q0)))))))))).trans (qb (qb (qb (qb (qb (qb (qb (qb (qb (qb (qb (qb (qd (qb (qb (qb (qb q0)))))))))))))))))).trans (qd (qb (qb (qb (qb (qb (qb (qb (qb (qb (qb (qb (qb q0)))))))))))))) ?_
        refine JX_subL _ (List.Sublist.append (List.Sublist.refl _) (List.Sublist.append (List.Sublist.refl _) (List.Sublist.cons_cons _ (List.Sublist.cons_cons _ (List.Sublist.cons_cons _ (List.Sublist.cons_cons _ (List.Sublist.cons_cons _ (List.Sublist.cons_cons _ (List.Sublist.cons_cons _ (List.Sublist.cons_cons _ (List.Sublist.cons_cons _ (List.Sublist.cons_cons _ (List.nil_sublist _))))))))))))) ?_
        exact JX_inv12 n_5 (x_1 + 1) x_2 x_2a x_2c x_2B (x_3 ++ ([(((s.getD x_1 default).toNat : Nat) : Int)] : List Int)) ax8 cx8 Bx8 1 0 ⟨by omega, ((((((((hF6.pos hq3).neg hq4).neg hq10).pos hq18).neg hq19).neg hq20).neg hq21).neg hq22), hx_2, hox8, (by omega), (by first | exact lb), (by first | exact lb)⟩ (Nat.lt_succ_self _) se (List.Perm.refl _)
      refine J_seq ?_
      refine J_reg ?_
      refine JL_q (q_fld FO_145_1) (k := ?_)
      refine JL_q (q_load Tryz.isAgg30) (k := ?_)
      refine JL_q (q_build (cs := [_]) Tryz.zeroValue152 PL_152) (k := ?_)
      refine JL_q (q_mkI Tryz.underlying152) (k := ?_)
      refine JL_q (q_assign) (k := ?_)
      refine JL_nil ?_
      refine JX_seq ?_
      refine J_ret ?_
      refine JX_block_ret ?_
      refine JX_seq_ret ?_
      refine JX_inv_ret ?_
      refine JX_block_ret ?_
      refine JX_seq_ret ?_
      refine JX_retI Tryz.results95 (Res.tmp rfl Res.nil) ?_
      refine JL_q (q_assign) (k := ?_)
      refine JL_nil ?_
      refine JX_seq ?_
      refine J_ret ?_
      refine JX_retI Tryz.results136 (Res.tmp rfl Res.nil) ?_
      refine JL_q (q_assign) (k := ?_)
      refine JL_q (q_assign) (k := ?_)
      refine JL_nil ?_
      refine JX_seq ?_
      refine J_ret ?_
      refine JX_retI Tryz.results118 (Res.tmp rfl (Res.tmp rfl Res.nil)) ?_
      refine JL_q (q_move) (k := ?_)
      refine JL_q (q_ext) (k := ?_)
      refine JL_q (q_ext) (k := ?_)
      refine JL_q (q_assign) (k := ?_)
      refine JL_q (q_assign) (k := ?_)
      refine JL_nil ?_
      refine JX_seq ?_
      refine J_seq ?_
      refine J_seq ?_
      refine J_reg ?_
      refine JL_q (q_move) (k := ?_)
      refine JL_q (q_neS (u := (Value.iface 152 (Value.agg [(Value.int .i64 (14))].toArray))) (v := Value.nilIface) (b := true) (fun w => by kernel_rfl)) (k := ?_)
      refine JL_nil ?_
      refine JX_seq ?_
      refine J_true rfl ?_
      refine J_seq ?_
      refine J_reg ?_
      refine JL_q (q_move) (k := ?_)
      refine JL_s (w_store (l' := [_]) Tryz.sizeOf60) (k := ?_)
      refine JL_s (w_store (l' := [_]) Tryz.sizeOf57) (k := ?_)
      refine JL_nil ?_
      refine JX_seq ?_
      refine J_ret ?_
      refine JX_seq_ret ?_
      refine JX_block_ret ?_
      refine JX_roundI_ret (qa (qa (qc (qa (qa (qa (qa q0))))))) ?_
      refine JL_q (q_not) (k := ?_)
      refine JL_nil ?_
      refine JX_seq ?_
      refine J_true rfl ?_
      refine J_exit ?_
      refine JX_block_miss rfl ?_
      refine JX_seq_exit ?_
      refine JX_inv_exit ?_
      refine JX_block_hit ?_
      refine JX_scope ?_
      refine JX_it1 (.inr rfl) Tryz.results119 q0 ?_
      refine J_ret ?_
      refine JX_block_ret ?_
      refine JX_seq_ret ?_
      refine JX_retIM [rD11] (qa (qa (qa (qc (qa (qa (qa (qa (qc q0))))))))) Tryz.results59 (Res.word Tryz.isAgg60 rfl me rfl (Res.word Tryz.isAgg57 rfl me rfl Res.nil)) ?_
      refine JL_q (q_move) (k := ?_)
      refine JL_q (q_ext) (k := ?_)
      refine JL_q (q_ext) (k := ?_)
      refine JL_q (q_assign) (k := ?_)
      refine JL_q (q_assign) (k := ?_)
      refine JL_nil ?_
      refine JX_seq ?_
      refine J_seq ?_
      refine J_reg ?_
      refine JL_q (q_move) (k := ?_)
      refine JL_q (q_move) (k := ?_)
      refine JL_inl (args := [(Value.iface 152 (Value.agg [(Value.int .i64 (14))].toArray))]) (c_callA Tryz.call60) Tryz.func60 Tryz.ntmps60 ?_
      refine J_seq ?_
      refine J_reg ?_
      refine JL_q (q_assign) (k := ?_)
      refine JL_nil ?_
      refine JX_seq ?_
      refine J_seq ?_
      refine J_reg ?_
      refine JL_a noMk (a_alloc (l := [_]) Tryz.zeroValue152) (k := fun r42 hr42 => ?_)
      refine JL_nil ?_
      refine JX_seq ?_
      refine J_seq ?_
      refine J_seq ?_
      refine J_reg ?_
      refine JL_q (q_move) (k := ?_)
      refine JL_q (q_mkI Tryz.underlying154) (k := ?_)
      refine JL_p (args := [(Value.iface 152 (Value.agg [(Value.int .i64 (14))].toArray)), (Value.iface 154 (Value.pointer (some ⟨r42, 0, none⟩)))]) (c_callA Tryz.call98) (fun w1 hw1 => as_hit_t w1 (hG.ext hw1.ext_out).ety (hw1.own _ me)) (k := ?_)
      rintro w1_11 e1_11 w2_11 hw1_11 ⟨he_11, hT_11⟩
      refine ⟨_, ((r42, Obj.cells [(Value.int .i64 (14))].toArray 152) :: ((l11, loopAt rr11 .exhausted (some .ret)) :: ((r41, Obj.cells [(Value.bool (decide (64 < ((((x_3 ++ ([(((s.getD x_1 default).toNat : Nat) : Int)] : List Int)).length) : Nat) : Int)))), (Value.int .i64 (14))].toArray 145) :: ((r40, Obj.cells [(Value.bool (decide (64 < ((((x_3 ++ ([(((s.getD x_1 default).toNat : Nat) : Int)] : List Int)).length) : Nat) : Int)))), (Value.int .i64 (14))].toArray 145) :: (Bx8 ++ ((r39, Obj.cells [(Value.int .u8 ((((s.getD x_1 default).toNat : Nat) : Int)))].toArray 5) :: ((r37, Obj.cells [(Value.bool (decide ((((s.getD x_1 default).toNat : Nat) : Int) = 92))), (Value.int .i64 (13))].toArray 145) :: ((r35, Obj.cells [(Value.bool (decide ((((s.getD x_1 default).toNat : Nat) : Int) = 34))), (Value.int .i64 (12))].toArray 145) :: ((r34, Obj.cells [(Value.bool (decide ((((s.getD x_1 default).toNat : Nat) : Int) = 34))), (Value.int .i64 (12)), (Value.bool (decide ((((s.getD x_1 default).toNat : Nat) : Int) = 92))), (Value.int .i64 (13))].toArray 145) :: (x_2B ++ ((r10, Obj.cells [(Value.string (bs s))].toArray 9) :: ((r8, Obj.cells [(Value.bool ((!(wIsPlain s)))), (Value.int .i64 (11))].toArray 145) :: ((r6, Obj.cells [(Value.bool (decide (300 < ((s.length : Nat) : Int)))), (Value.int .i64 (10))].toArray 145) :: ((r5, Obj.cells [(Value.bool (decide (300 < ((s.length : Nat) : Int)))), (Value.int .i64 (10)), (Value.bool ((!(wIsPlain s)))), (Value.int .i64 (11))].toArray 145) :: ((r4, Obj.cells [(stV x_4 r3 x_4b)].toArray 142) :: ((r3, Obj.cells [(Value.slice (x_2a) (x_2.length) (x_2c)), (Value.slice (ax8) ((x_3 ++ ([(((s.getD x_1 default).toNat : Nat) : Int)] : List Int)).length) (cx8))].toArray 140) :: ((r2, Obj.cells [(Value.iface 152 (Value.agg [(Value.int .i64 (14))].toArray))].toArray 57) :: ((r1, Obj.cells [(Value.slice (none) (0) (0))].toArray 60) :: [])))))))))))))))))), he_11, (hw1_11.perm q0).tr hT_11, ?_⟩
      refine JL_nil ?_
      refine JX_seq ?_
      refine J_true rfl ?_
      refine J_seq ?_
      refine J_reg ?_
      refine JL_q (q_fld FO_152_0) (k := ?_)
      refine JL_q (q_load Tryz.isAgg30) (k := ?_)
      refine JL_q (q_assign) (k := ?_)
      refine JL_nil ?_
      refine JX_seq ?_
      refine J_ret ?_
      refine JX_seq_ret ?_
      refine JX_retI Tryz.results60 (Res.tmp rfl Res.nil) ?_
      refine JL_q (q_assign) (k := ?_)
      refine JL_q (q_assign) (k := ?_)
      refine JL_nil ?_
      refine JX_seq ?_
      refine J_ret ?_
      refine JX_ret Tryz.results33 (Res.tmp rfl (Res.tmp rfl Res.nil)) (fun w1 hw1 => ?_)
      exact ⟨none, 0, [], (by rw [((((hF.neg hq1).f hq2).er4 ((((((((hF6.pos hq3).neg hq4).neg hq10).pos hq18).neg hq19).neg hq20).neg hq21).pos hq22))).eq] <;> first | rfl | (simp only [List.length_set] <;> rfl)), (hw1.fresh_out.sub (List.nil_sublist _)), (by rw [((((hF.neg hq1).f hq2).er4 ((((((((hF6.pos hq3).neg hq4).neg hq10).pos hq18).neg hq19).neg hq20).neg hq21).pos hq22))).eq]; exact OwnB.nil)⟩
    by_cases hq23 : x_4 = 2
    · refine JL_alter 33 (Value.func (.func 117) [(Value.pointer (some ⟨r3, 0, none⟩))].toArray [].toArray) rfl (by rw [hq23]; rfl) ?_
      refine JL_eqL (L' := ((l11, loopAt rr11 .busy none) :: (x_3B ++ (x_2B ++ ((rD11, Obj.deferred (some [])) :: ((r10, Obj.cells [(Value.string (bs s))].toArray 9) :: ((r8, Obj.cells [(Value.bool ((!(wIsPlain s)))), (Value.int .i64 (11))].toArray 145) :: ((r6, Obj.cells [(Value.bool (decide (300 < ((s.length : Nat) : Int)))), (Value.int .i64 (10))].toArray 145) :: ((r5, Obj.cells [(Value.bool (decide (300 < ((s.length : Nat) : Int)))), (Value.int .i64 (10)), (Value.bool ((!(wIsPlain s)))), (Value.int .i64 (11))].toArray 145) :: ((r4, Obj.cells [(stV x_4 r3 x_4b)].toArray 142) :: ((r3, Obj.cells [(Value.slice (x_2a) (x_2.length) (x_2c)), (Value.slice (x_3a) (x_3.length) (x_3c))].toArray 140) :: ((r2, Obj.cells [Value.nilIface].toArray 57) :: ((r1, Obj.cells [(Value.slice (none) (0) (0))].toArray 60) :: []))))))))))))) (by rw [hq23]; rfl) ?_
      refine JL_inl (args := [(Value.pointer (some ⟨r3, 0, none⟩)), (Value.int .u8 ((((s.getD x_1 default).toNat : Nat) : Int))), (Value.bool (false))]) (c_callA Tryz.call117) Tryz.func117 Tryz.ntmps117 ?_
      refine J_seq ?_
      refine J_reg ?_
      refine JL_q (q_assign) (k := ?_)
      refine JL_q (q_assign) (k := ?_)
      refine JL_nil ?_
      refine JX_seq ?_
      refine J_seq ?_
      refine J_seq ?_
      refine J_reg ?_
      refine JL_q (q_move) (k := ?_)
      refine JL_nil ?_
      refine JX_seq ?_
      refine J_false rfl ?_
      refine J_skip ?_
      refine JX_seq ?_
      refine J_seq ?_
      refine J_reg ?_
      refine JL_a noMk a_map (k := fun r43 hr43 => ?_)
      refine JL_ins (ml := ([] : List (Int × Value))) 34 keyU8 Tryz.runUnderlying220 Tryz.runUnderlying5 (MapIs.nil (enc := fun x : Int => Value.int .u8 x)) (by simp) q0 (k := fun em3 km3 hms3 => ?_)
      refine JL_ins (ml := ([(34, (Value.func (.func 134) [].toArray [].toArray))] : List (Int × Value))) 92 keyU8 Tryz.runUnderlying220 Tryz.runUnderlying5 hms3 (by simp) q0 (k := fun em4 km4 hms4 => ?_)
      refine JL_q (q_move) (k := ?_)
      refine JL_q (q_assign) (k := ?_)
      refine JL_nil ?_
      refine JX_seq ?_
      refine J_seq ?_
      refine J_seq ?_
      refine J_reg ?_
      refine JL_q (q_move) (k := ?_)
      refine JL_q (q_move) (k := ?_)
      by_cases hq24 : (((s.getD x_1 default).toNat : Nat) : Int) = 34
      · refine JL_q (q_lookT (l := ([(34, (Value.func (.func 134) [].toArray [].toArray)), (92, (Value.func (.func 135) [].toArray [].toArray))] : List (Int × Value))) (v := (Value.func (.func 134) [].toArray [].toArray)) (((s.getD x_1 default).toNat : Nat) : Int) keyU8 Tryz.runUnderlying220 Tryz.runUnderlying5 Tryz.zeroValue218 hms4 (lookL_hit hq24.symm)) (k := ?_)
        refine JL_q (q_move) (k := ?_)
        refine JL_q (q_ext) (k := ?_)
        refine JL_q (q_ext) (k := ?_)
        refine JL_q (q_assign) (k := ?_)
        refine JL_q (q_assign) (k := ?_)
        refine JL_nil ?_
        refine JX_seq ?_
        refine J_seq ?_
        refine J_reg ?_
        refine JL_q (q_move) (k := ?_)
        refine JL_nil ?_
        refine JX_seq ?_
        refine J_true rfl ?_
        refine J_seq ?_
        refine J_reg ?_
        refine JL_q (q_move) (k := ?_)
        refine JL_q (q_move) (k := ?_)
        refine JL_inl (args := [(Value.pointer (some ⟨r3, 0, none⟩))]) (c_callA Tryz.call134) Tryz.func134 Tryz.ntmps134 ?_
        refine J_seq ?_
        refine J_reg ?_
        refine JL_a noMk (a_box (l := [_])) (k := fun r44 hr44 => ?_)
        refine JL_q (q_assign) (k := ?_)
        refine JL_nil ?_
        refine JX_seq ?_
        refine J_seq ?_
        refine J_reg ?_
        refine JL_q (q_load Tryz.isAgg135) (k := ?_)
        refine JL_q (q_nil) (k := ?_)
        refine JL_q (q_fld FO_140_0) (k := ?_)
        refine JL_inl (args := [(Value.pointer (some ⟨r3, 0, none⟩))]) (c_callA Tryz.call137) Tryz.func137 Tryz.ntmps137 ?_
        refine J_seq ?_
        refine J_planV ((r44, Obj.cells [(Value.pointer (some ⟨r3, 0, none⟩))].toArray 135) :: ((r43, Obj.map em4 km4) :: ((l11, loopAt rr11 .busy none) :: (x_3B ++ ((rD11, Obj.deferred (some [])) :: ((r10, Obj.cells [(Value.string (bs s))].toArray 9) :: ((r8, Obj.cells [(Value.bool ((!(wIsPlain s)))), (Value.int .i64 (11))].toArray 145) :: ((r6, Obj.cells [(Value.bool (decide (300 < ((s.length : Nat) : Int)))), (Value.int .i64 (10))].toArray 145) :: ((r5, Obj.cells [(Value.bool (decide (300 < ((s.length : Nat) : Int)))), (Value.int .i64 (10)), (Value.bool ((!(wIsPlain s)))), (Value.int .i64 (11))].toArray 145) :: ((r4, Obj.cells [(stV x_4 r3 x_4b)].toArray 142) :: ((r3, Obj.cells [(Value.slice (x_2a) (x_2.length) (x_2c)), (Value.slice (x_3a) (x_3.length) (x_3c))].toArray 140) :: ((r2, Obj.cells [Value.nilIface].toArray 57) :: ((r1, Obj.cells [(Value.slice (none) (0) (0))].toArray 60) :: []))))))))))))) (x_2B ++ []) (List.Perm.trans (qb (qb (qb (qd q0)))) (List.Perm.of_eq (by first | rfl | (simp only [List.cons_append, List.nil_append, List.append_assoc, List.append_nil]; done) | (simp only [List.cons_append, List.nil_append, List.append_assoc, List.append_nil]; rfl)))) mixed 14 [(true, 0), (true, 1), (true, 2), (true, 3), (true, 4), (true, 5), (true, 6), (true, 7), (true, 8), (false, 9), (false, 10), (false, 11), (true, 12), (true, 13)] (by kernel_rfl) ?_
        refine JD_q (q_move) (k := ?_)
        refine JD_q (q_move) (k := ?_)
        refine JD_q (q_nil) (k := ?_)
        refine JD_q (q_fld FO_138_0) (k := ?_)
        refine JD_q (q_load Tryz.isAgg60) (k := ?_)
        refine JD_q (q_move) (k := ?_)
        refine JD_q (q_nil) (k := ?_)
        refine JD_q (q_fld FO_138_1) (k := ?_)
        refine JD_q (q_load Tryz.isAgg136) (k := ?_)
        refine JD_q (q_str Tryz.underlying9 Tryz.underlying136 Tryz.underlying5 (hx_3.slj eI_u8_ok)) (k := ?_)
        refine JD_a noMk (a_bslice (l := [_]) Tryz.runUnderlying60 Tryz.sizeOf9 Tryz.zeroValue9) (k := fun r45 hr45 => ?_)
        refine JD_append (x_2 ++ ([(toS x_3)] : List Str)) rfl TY_9 Tryz.underlying60 eS_ok hx_2 q0 (SlJ.lit (xs := ([(toS x_3)] : List Str)) eS_ok) ⟨by first | omega | (simp; omega), by first | omega | (simp; omega)⟩ (n := x_2.length) (m := 1) (k := fun ax10 cx10 Bx10 hox10 => ?_)
        have hal10 : (x_2 ++ ([(toS x_3)] : List Str)).length = x_2.length + 1 := by first | rfl | exact List.length_append | simp
        refine JD_q (q_nil) (k := ?_)
        refine JD_q (q_fld FO_138_0) (k := ?_)
        refine JD_nil ?_
        refine JL_eqL (L' := (Bx10 ++ ((r45, Obj.cells [(Value.string (bs (toS x_3)))].toArray 9) :: ((r44, Obj.cells [(Value.pointer (some ⟨r3, 0, none⟩))].toArray 135) :: ((r43, Obj.map em4 km4) :: ((l11, loopAt rr11 .busy none) :: (x_3B ++ ((rD11, Obj.deferred (some [])) :: ((r10, Obj.cells [(Value.string (bs s))].toArray 9) :: ((r8, Obj.cells [(Value.bool ((!(wIsPlain s)))), (Value.int .i64 (11))].toArray 145) :: ((r6, Obj.cells [(Value.bool (decide (300 < ((s.length : Nat) : Int)))), (Value.int .i64 (10))].toArray 145) :: ((r5, Obj.cells [(Value.bool (decide (300 < ((s.length : Nat) : Int)))), (Value.int .i64 (10)), (Value.bool ((!(wIsPlain s)))), (Value.int .i64 (11))].toArray 145) :: ((r4, Obj.cells [(stV x_4 r3 x_4b)].toArray 142) :: ((r3, Obj.cells [(Value.slice (x_2a) (x_2.length) (x_2c)), (Value.slice (x_3a) (x_3.length) (x_3c))].toArray 140) :: ((r2, Obj.cells [Value.nilIface].toArray 57) :: ((r1, Obj.cells [(Value.slice (none) (0) (0))].toArray 60) :: [])))))))))))))))) (by simp only [List.append_nil, List.append_assoc, List.cons_append, List.nil_append]) ?_
        refine JL_s (w_store (l' := [_, _]) Tryz.sizeOf60) (k := ?_)
        refine JL_nil ?_
        refine JX_seq ?_
        refine J_reg ?_
        refine JL_q (q_move) (k := ?_)
        refine JL_q (q_nil) (k := ?_)
        refine JL_q (q_fld FO_138_1) (k := ?_)
        refine JL_s (w_store (l' := [_, _]) Tryz.sizeOf136) (k := ?_)
        refine JL_nil ?_
        refine JX_endI Tryz.results137 Res.nil ?_
        refine JL_nil ?_
        refine JX_seq ?_
        refine J_seq ?_
        refine J_reg ?_
        refine JL_q (q_func) (k := ?_)
        refine JL_q (q_assign) (k := ?_)
        refine JL_nil ?_
        refine JX_seq ?_
        refine J_ret ?_
        refine JX_retI Tryz.results134 (Res.tmp rfl Res.nil) ?_
        refine JL_q (q_assign) (k := ?_)
        refine JL_q (q_assign) (k := ?_)
        refine JL_nil ?_
        refine JX_seq ?_
        refine J_ret ?_
        refine JX_seq_ret ?_
        refine JX_retI Tryz.results117 (Res.tmp rfl (Res.tmp rfl Res.nil)) ?_
        refine JL_q (q_move) (k := ?_)
        refine JL_q (q_ext) (k := ?_)
        refine JL_q (q_ext) (k := ?_)
        refine JL_q (q_assign) (k := ?_)
        refine JL_q (q_assign) (k := ?_)
        refine JL_nil ?_
        refine JX_seq ?_
        refine J_seq ?_
        refine J_seq ?_
        refine J_reg ?_
        refine JL_q (q_move) (k := ?_)
        refine JL_q (q_neS (u := Value.nilIface) (v := Value.nilIface) (b := false) (fun w => by kernel_rfl)) (k := ?_)
        refine JL_nil ?_
        refine JX_seq ?_
        refine J_false rfl ?_
        refine J_skip ?_
        refine JX_seq ?_
        refine J_reg ?_
        refine JL_q (q_move) (k := ?_)
        refine JL_s (w_store (l' := [_]) Tryz.sizeOf142) (k := ?_)
        refine JL_nil ?_
        refine JX_block ?_
        refine JX_roundI (qc (qa (qa (qa q0)))) ?_
        refine JL_q (q_not) (k := ?_)
        refine JL_nil ?_
        refine JX_seq ?_
        refine J_false rfl ?_
        refine J_skip ?_
        refine JX_block ?_
        refine JX_seq ?_
        refine J_reg ?_
        refine JL_q (q_add) (k := ?_)
        refine JL_q (q_move) (k := ?_)
        refine JL_nil ?_
        refine JX_permL _ ((((((((((((qa (qc (qa (qa (qa (qc (qa (qa (qa (qa (qa (qa (qa (qa q0)))))))))))))).trans (qa (qa (qc (qa (qa (qa (qc (qa (qa (qa (qa (qa (qa (qa q0))))))))))))))).trans (qa (qa (qa (qc (qa (qa (qa (qc (qa (qa (qa (qa (qa (qa q0))))))))))))))).trans (qa (qa (qa (qa (qc (qa (qa (qa (qc (qa (qa (qa (qa (qa q0))))))))))))))).trans (qa (qa (qa (qa (qa (qc (qa (qa (qa (qc (qa (qa (qa (qa q0))))))))))))))).trans (qa (qa (qa (qa (qa (qa (qc (qa (qa (qa (qc (qa (qa (qa q0))))))))))))))).trans (qa (qa (qa (qa (qa (qa (qa (qc (qa (qa (qa (qc (qa (qa q0))))))))))))))).trans (qa (qa (qa (qa (qa (qa (qa (qa (qc (qa (qa (qa (qc (qa q0))))))))))))))).trans (qa (qa (qa (qa (qa (qa (qa (qa (qa (qc (qa (qa (qa (qc q0))))))))))))))).trans (qa (qa (qa (qa (qa (qa (qa (qa (qa q0)))))))))).trans (qb (qb (qb (qb (qb (qb (qb (qb (qb (qb q0))))))))))).trans (qc (qa (qa (qa (qa (qa (qa (qa (qa (qa (qa (qa q0))))))))))))) ?_
        refine JX_subL _ (List.Sublist.cons_cons _ (List.Sublist.append (List.Sublist.refl _) (List.Sublist.cons_cons _ (List.Sublist.cons_cons _ (List.Sublist.cons_cons _ (List.Sublist.cons_cons _ (List.Sublist.cons_cons _ (List.Sublist.cons_cons _ (List.Sublist.cons_cons _ (List.Sublist.cons_cons _ (List.Sublist.cons_cons _ (List.Sublist.cons_cons _ (List.nil_sublist _))))))))))))) ?_
        exact JX_inv12 n_5 (x_1 + 1) (x_2 ++ ([(toS x_3)] : List Str)) ax10 cx10 Bx10 ([]) none 0 ([]) 3 r44 ⟨by omega, ((((((hF6.pos hq3).neg hq4).neg hq10).neg hq18).pos hq23).pos hq24), hox10, OwnB.nil, (by omega), (by first | exact lb), (by first | exact lb)⟩ (Nat.lt_succ_self _) se (List.Perm.refl _)
      by_cases hq25 : (((s.getD x_1 default).toNat : Nat) : Int) = 92
      · refine JL_q (q_lookT (l := ([(34, (Value.func (.func 134) [].toArray [].toArray)), (92, (Value.func (.func 135) [].toArray [].toArray))] : List (Int × Value))) (v := (Value.func (.func 135) [].toArray [].toArray)) (((s.getD x_1 default).toNat : Nat) : Int) keyU8 Tryz.runUnderlying220 Tryz.runUnderlying5 Tryz.zeroValue218 hms4 ((lookL_miss (fun e => hq24 e.symm)).trans (lookL_hit hq25.symm))) (k := ?_)
        refine JL_q (q_move) (k := ?_)
        refine JL_q (q_ext) (k := ?_)
        refine JL_q (q_ext) (k := ?_)
        refine JL_q (q_assign) (k := ?_)
        refine JL_q (q_assign) (k := ?_)
        refine JL_nil ?_
        refine JX_seq ?_
        refine J_seq ?_
        refine J_reg ?_
        refine JL_q (q_move) (k := ?_)
        refine JL_nil ?_
        refine JX_seq ?_
        refine J_true rfl ?_
        refine J_seq ?_
        refine J_reg ?_
        refine JL_q (q_move) (k := ?_)
        refine JL_q (q_move) (k := ?_)
        refine JL_inl (args := [(Value.pointer (some ⟨r3, 0, none⟩))]) (c_callA Tryz.call135) Tryz.func135 Tryz.ntmps135 ?_
        refine J_seq ?_
        refine J_reg ?_
        refine JL_a noMk (a_box (l := [_])) (k := fun r46 hr46 => ?_)
        refine JL_q (q_assign) (k := ?_)
        refine JL_nil ?_
        refine JX_seq ?_
        refine J_seq ?_
        refine J_reg ?_
        refine JL_q (q_func) (k := ?_)
        refine JL_q (q_assign) (k := ?_)
        refine JL_nil ?_
        refine JX_seq ?_
        refine J_ret ?_
        refine JX_retI Tryz.results135 (Res.tmp rfl Res.nil) ?_
        refine JL_q (q_assign) (k := ?_)
        refine JL_q (q_assign) (k := ?_)
        refine JL_nil ?_
        refine JX_seq ?_
        refine J_ret ?_
        refine JX_seq_ret ?_
        refine JX_retI Tryz.results117 (Res.tmp rfl (Res.tmp rfl Res.nil)) ?_
        refine JL_q (q_move) (k := ?_)
        refine JL_q (q_ext) (k := ?_)
        refine JL_q (q_ext) (k := ?_)
        refine JL_q (q_assign) (k := ?_)
        refine JL_q (q_assign) (k := ?_)
        refine JL_nil ?_
        refine JX_seq ?_
        refine J_seq ?_
        refine J_seq ?_
        refine J_reg ?_
        refine JL_q (q_move) (k := ?_)
        refine JL_q (q_neS (u := Value.nilIface) (v := Value.nilIface) (b := false) (fun w => by kernel_rfl)) (k := ?_)
        refine JL_nil ?_
        refine JX_seq ?_
        refine J_false rfl ?_
        refine J_skip ?_
        refine JX_seq ?_
        refine J_reg ?_
        refine JL_q (q_move) (k := ?_)
        refine JL_s (w_store (l' := [_]) Tryz.sizeOf142) (k := ?_)
        refine JL_nil ?_
        refine JX_block ?_
        refine JX_roundI (qa (qa q0)) ?_
        refine JL_q (q_not) (k := ?_)
        refine JL_nil ?_
        refine JX_seq ?_
        refine J_false rfl ?_
        refine J_skip ?_
        refine JX_block ?_
        refine JX_seq ?_
        refine J_reg ?_
        refine JL_q (q_add) (k := ?_)
        refine JL_q (q_move) (k := ?_)
        refine JL_nil ?_
        refine JX_permL _ (((((((((((((qa (qa (qa (qc (qc (qa (qa (qa (qa (qa (qa (qa (qa q0))))))))))))).trans (qa (qa (qa (qa (qc (qc (qa (qa (qa (qa (qa (qa (qa q0)))))))))))))).trans (qa (qa (qa (qa (qa (qc (qc (qa (qa (qa (qa (qa (qa q0)))))))))))))).trans (qa (qa (qa (qa (qa (qa (qc (qc (qa (qa (qa (qa (qa q0)))))))))))))).trans (qa (qa (qa (qa (qa (qa (qa (qc (qc (qa (qa (qa (qa q0)))))))))))))).trans (qa (qa (qa (qa (qa (qa (qa (qa (qc (qc (qa (qa (qa q0)))))))))))))).trans (qa (qa (qa (qa (qa (qa (qa (qa (qa (qc (qc (qa (qa q0)))))))))))))).trans (qa (qa (qa (qa (qa (qa (qa (qa (qa (qa (qc (qc (qa q0)))))))))))))).trans (qa (qa (qa (qa (qa (qa (qa (qa (qa (qa (qa (qc (qc q0)))))))))))))).trans (qa (qa (qa (qa (qa (qa (qa (qa (qa q0)))))))))).trans (qb (qb (qb (qb (qb (qb (qb (qb (qb (qb (qb (qb (qd q0)))))))))))))).trans (qd (qb (qb (qb (qb (qb (qb (qb (qb (qb (qb (qb (qb q0)))))))))))))).trans (qc (qc (qa (qa (qa (qa (qa (qa (qa (qa (qa (qa q0))))))))))))) ?_
        refine JX_subL _ (List.Sublist.cons_cons _ (List.Sublist.append (List.Sublist.refl _) (List.Sublist.append (List.Sublist.refl _) (List.Sublist.cons_cons _ (List.Sublist.cons_cons _ (List.Sublist.cons_cons _ (List.Sublist.cons_cons _ (List.Sublist.cons_cons _ (List.Sublist.cons_cons _ (List.Sublist.cons_cons _ (List.Sublist.cons_cons _ (List.Sublist.cons_cons _ (List.Sublist.cons_cons _ (List.nil_sublist _)))))))))))))) ?_
        exact JX_inv12 n_5 (x_1 + 1) x_2 x_2a x_2c x_2B x_3 x_3a x_3c x_3B 4 r46 ⟨by omega, (((((((hF6.pos hq3).neg hq4).neg hq10).neg hq18).pos hq23).neg hq24).pos hq25), hx_2, hx_3, (by omega), (by first | exact lb), (by first | exact lb)⟩ (Nat.lt_succ_self _) se (List.Perm.refl _)
      refine JL_q (q_lookF (l := ([(34, (Value.func (.func 134) [].toArray [].toArray)), (92, (Value.func (.func 135) [].toArray [].toArray))] : List (Int × Value))) (((s.getD x_1 default).toNat : Nat) : Int) keyU8 Tryz.runUnderlying220 Tryz.runUnderlying5 Tryz.zeroValue218 hms4 ((lookL_miss (fun e => hq24 e.symm)).trans ((lookL_miss (fun e => hq25 e.symm)).trans lookL_nil))) (k := ?_)
      refine JL_q (q_move) (k := ?_)
      refine JL_q (q_ext) (k := ?_)
      refine JL_q (q_ext) (k := ?_)
      refine JL_q (q_assign) (k := ?_)
      refine JL_q (q_assign) (k := ?_)
      refine JL_nil ?_
      refine JX_seq ?_
      refine J_seq ?_
      refine J_reg ?_
      refine JL_q (q_move) (k := ?_)
      refine JL_nil ?_
      refine JX_seq ?_
      refine J_false rfl ?_
      refine J_skip ?_
      refine JX_seq ?_
      refine J_seq ?_
      refine J_reg ?_
      refine JL_q (q_move) (k := ?_)
      refine JL_q (q_func) (k := ?_)
      refine JL_q (q_move) (k := ?_)
      refine JL_q (q_nil) (k := ?_)
      refine JL_q (q_fld FO_140_0) (k := ?_)
      refine JL_q (q_move) (k := ?_)
      refine JL_inl (args := [(Value.pointer (some ⟨r3, 0, none⟩)), (Value.int .u8 ((((s.getD x_1 default).toNat : Nat) : Int)))]) (c_callA Tryz.call136) Tryz.func136 Tryz.ntmps136 ?_
      refine J_seq ?_
      refine J_reg ?_
      refine JL_q (q_assign) (k := ?_)
      refine JL_nil ?_
      refine JX_seq ?_
      refine J_seq ?_
      refine J_reg ?_
      refine JL_q (q_move) (k := ?_)
      refine JL_q (q_move) (k := ?_)
      refine JL_q (q_nil) (k := ?_)
      refine JL_q (q_fld FO_138_1) (k := ?_)
      refine JL_q (q_load Tryz.isAgg136) (k := ?_)
      refine JL_q (q_move) (k := ?_)
      refine JL_a noMk (a_bslice (l := [_]) Tryz.runUnderlying136 Tryz.sizeOf5 Tryz.zeroValue5) (k := fun r47 hr47 => ?_)
      refine JL_append (x_3 ++ ([(((s.getD x_1 default).toNat : Nat) : Int)] : List Int)) rfl TY_5 Tryz.underlying136 eI_u8_ok hx_3 (qb (qb (qb q0))) (SlJ.lit (xs := ([(((s.getD x_1 default).toNat : Nat) : Int)] : List Int)) eI_u8_ok) ⟨by omega, by omega⟩ (n := x_3.length) (m := 1) (k := fun ax11 cx11 Bx11 hox11 => ?_)
      have hal11 : (x_3 ++ ([(((s.getD x_1 default).toNat : Nat) : Int)] : List Int)).length = x_3.length + 1 := by first | rfl | exact List.length_append | simp
      refine JL_q (q_nil) (k := ?_)
      refine JL_q (q_fld FO_138_1) (k := ?_)
      refine JL_s (w_store (l' := [_, _]) Tryz.sizeOf136) (k := ?_)
      refine JL_nil ?_
      refine JX_seq ?_
      refine J_seq ?_
      refine J_reg ?_
      refine JL_q (q_move) (k := ?_)
      refine JL_q (q_nil) (k := ?_)
      refine JL_q (q_fld FO_138_1) (k := ?_)
      refine JL_q (q_load Tryz.isAgg136) (k := ?_)
      refine JL_q (q_lenS Tryz.runUnderlying136) (k := ?_)
      refine JL_q (q_gtr) (k := ?_)
      refine JL_q (q_build (cs := [_, _]) Tryz.zeroValue145 PL_145) (k := ?_)
      refine JL_a noMk (a_bslice (l := [_, _]) Tryz.runUnderlying193 Tryz.sizeOf145 Tryz.zeroValue145) (k := fun r48 hr48 => ?_)
      refine JL_inl (args := [(Value.slice (some ⟨r48, 0, none⟩) (1) (1))]) (c_callA Tryz.call95) Tryz.func95 Tryz.ntmps95 ?_
      refine J_seq ?_
      refine J_reg ?_
      refine JL_q (q_assign) (k := ?_)
      refine JL_nil ?_
      refine JX_seq ?_
      refine J_seq ?_
      refine J_seq ?_
      refine J_reg ?_
      refine JL_q (q_move) (k := ?_)
      refine JL_q (q_lenS Tryz.runUnderlying193) (k := ?_)
      refine JL_q (q_move) (k := ?_)
      refine JL_nil ?_
      refine JX_seq ?_
      refine J_block ?_
      refine J_unroll ?_
      refine J_seq ?_
      refine J_reg ?_
      refine JL_q (q_lss) (k := ?_)
      refine JL_nil ?_
      refine JX_seq ?_
      refine J_seq ?_
      refine J_true rfl ?_
      refine J_skip ?_
      refine JX_seq ?_
      refine J_seq ?_
      refine J_block ?_
      refine J_seq ?_
      refine J_reg ?_
      refine JL_q (q_idxO Tryz.runUnderlying193 Tryz.sizeOf145 0) (k := ?_)
      refine JL_q (q_loadA Tryz.isAgg145 Tryz.sizeOf145) (k := ?_)
      refine JL_a noMk (a_alloc (l := [_, _]) Tryz.zeroValue145) (k := fun r49 hr49 => ?_)
      refine JL_s (w_store (l' := [_, _]) Tryz.sizeOf145) (k := ?_)
      refine JL_nil ?_
      refine JX_seq ?_
      refine J_seq ?_
      refine J_reg ?_
      refine JL_q (q_fld FO_145_0) (k := ?_)
      refine JL_q (q_load Tryz.isAgg4) (k := ?_)
      refine JL_nil ?_
      refine JX_seq ?_
      refine J_dec rfl (fun hq26 => ?_) (fun hq26 => ?_)
      rotate_left
      · refine J_skip ?_
        refine JX_block ?_
        refine JX_seq ?_
        refine J_reg ?_
        refine JL_q (q_add) (k := ?_)
        refine JL_q (q_move) (k := ?_)
        refine JL_nil ?_
        refine JX_again ?_
        refine J_seq ?_
        refine J_reg ?_
        refine JL_q (q_lss) (k := ?_)
        refine JL_nil ?_
        refine JX_seq ?_
        refine J_seq ?_
        refine J_false rfl ?_
        refine J_exit ?_
        refine JX_seq_exit ?_
        refine JX_inv_exit ?_
        refine JX_block_hit ?_
        refine JX_seq ?_
        refine J_seq ?_
        refine J_reg ?_
        refine JL_q (q_assign) (k := ?_)
        refine JL_nil ?_
        refine JX_seq ?_
        refine J_ret ?_
        refine JX_retI Tryz.results95 (Res.tmp rfl Res.nil) ?_
        refine JL_q (q_assign) (k := ?_)
        refine JL_nil ?_
        refine JX_seq ?_
        refine J_ret ?_
        refine JX_retI Tryz.results136 (Res.tmp rfl Res.nil) ?_
        refine JL_q (q_assign) (k := ?_)
        refine JL_q (q_assign) (k := ?_)
        refine JL_nil ?_
        refine JX_seq ?_
        refine J_ret ?_
        refine JX_retI Tryz.results117 (Res.tmp rfl (Res.tmp rfl Res.nil)) ?_
        refine JL_q (q_move) (k := ?_)
        refine JL_q (q_ext) (k := ?_)
        refine JL_q (q_ext) (k := ?_)
        refine JL_q (q_assign) (k := ?_)
        refine JL_q (q_assign) (k := ?_)
        refine JL_nil ?_
        refine JX_seq ?_
        refine J_seq ?_
        refine J_seq ?_
        refine J_reg ?_
        refine JL_q (q_move) (k := ?_)
        refine JL_q (q_neS (u := Value.nilIface) (v := Value.nilIface) (b := false) (fun w => by kernel_rfl)) (k := ?_)
        refine JL_nil ?_
        refine JX_seq ?_
        refine J_false rfl ?_
        refine J_skip ?_
        refine JX_seq ?_
        refine J_reg ?_
        refine JL_q (q_move) (k := ?_)
        refine JL_s (w_store (l' := [_]) Tryz.sizeOf142) (k := ?_)
        refine JL_nil ?_
        refine JX_block ?_
        refine JX_roundI (qa (qa (qc (qa (qa q0))))) ?_
        refine JL_q (q_not) (k := ?_)
        refine JL_nil ?_
        refine JX_seq ?_
        refine J_false rfl ?_
        refine J_skip ?_
        refine JX_block ?_
        refine JX_seq ?_
        refine J_reg ?_
        refine JL_q (q_add) (k := ?_)
        refine JL_q (q_move) (k := ?_)
        refine JL_nil ?_
        refine JX_permL _ ((((((((((((qa (qa (qa (qc (qa (qa (qc (qa (qa (qa (qa (qa (qa (qa (qa q0))))))))))))))).trans (qa (qa (qa (qa (qc (qa (qa (qc (qa (qa (qa (qa (qa (qa (qa q0)))))))))))))))).trans (qa (qa (qa (qa (qa (qc (qa (qa (qc (qa (qa (qa (qa (qa (qa q0)))))))))))))))).trans (qa (qa (qa (qa (qa (qa (qc (qa (qa (qc (qa (qa (qa (qa (qa q0)))))))))))))))).trans (qa (qa (qa (qa (qa (qa (qa (qc (qa (qa (qc (qa (qa (qa (qa q0)))))))))))))))).trans (qa (qa (qa (qa (qa (qa (qa (qa (qc (qa (qa (qc (qa (qa (qa q0)))))))))))))))).trans (qa (qa (qa (qa (qa (qa (qa (qa (qa (qc (qa (qa (qc (qa (qa q0)))))))))))))))).trans (qa (qa (qa (qa (qa (qa (qa (qa (qa (qa (qc (qa (qa (qc (qa q0)))))))))))))))).trans (qa (qa (qa (qa (qa (qa (qa (qa (qa (qa (qa (qc (qa (qa (qc q0)))))))))))))))).trans (qa (qa (qa (qa (qa (qa (qa (qa (qa q0)))))))))).trans (qb (qb (qb (qb (qb (qb (qb (qb (qb (qb (qb (qb (qd (qb (qb q0)))))))))))))))).trans (qd (qb (qb (qb (qb (qb (qb (qb (qb (qb (qb (qb (qb q0)))))))))))))) ?_
        refine JX_subL _ (List.Sublist.append (List.Sublist.refl _) (List.Sublist.append (List.Sublist.refl _) (List.Sublist.cons_cons _ (List.Sublist.cons_cons _ (List.Sublist.cons_cons _ (List.Sublist.cons_cons _ (List.Sublist.cons_cons _ (List.Sublist.cons_cons _ (List.Sublist.cons_cons _ (List.Sublist.cons_cons _ (List.Sublist.cons_cons _ (List.Sublist.cons_cons _ (List.nil_sublist _))))))))))))) ?_
        exact JX_inv12 n_5 (x_1 + 1) x_2 x_2a x_2c x_2B (x_3 ++ ([(((s.getD x_1 default).toNat : Nat) : Int)] : List Int)) ax11 cx11 Bx11 2 0 ⟨by omega, ((((((((hF6.pos hq3).neg hq4).neg hq10).neg hq18).pos hq23).neg hq24).neg hq25).neg hq26), hx_2, hox11, (by omega), (by first | exact lb), (by first | exact lb)⟩ (Nat.lt_succ_self _) se (List.Perm.refl _)
      refine J_seq ?_
      refine J_reg ?_
      refine JL_q (q_fld FO_145_1) (k := ?_)
      refine JL_q (q_load Tryz.isAgg30) (k := ?_)
      refine JL_q (q_build (cs := [_]) Tryz.zeroValue152 PL_152) (k := ?_)
      refine JL_q (q_mkI Tryz.underlying152) (k := ?_)
      refine JL_q (q_assign) (k := ?_)
      refine JL_nil ?_
      refine JX_seq ?_
      refine J_ret ?_
      refine JX_block_ret ?_
      refine JX_seq_ret ?_
      refine JX_inv_ret ?_
      refine JX_block_ret ?_
      refine JX_seq_ret ?_
      refine JX_retI Tryz.results95 (Res.tmp rfl Res.nil) ?_
      refine JL_q (q_assign) (k := ?_)
      refine JL_nil ?_
      refine JX_seq ?_
      refine J_ret ?_
      refine JX_retI Tryz.results136 (Res.tmp rfl Res.nil) ?_
      refine JL_q (q_assign) (k := ?_)
      refine JL_q (q_assign) (k := ?_)
      refine JL_nil ?_
      refine JX_seq ?_
      refine J_ret ?_
      refine JX_retI Tryz.results117 (Res.tmp rfl (Res.tmp rfl Res.nil)) ?_
      refine JL_q (q_move) (k := ?_)
      refine JL_q (q_ext) (k := ?_)
      refine JL_q (q_ext) (k := ?_)
      refine JL_q (q_assign) (k := ?_)
      refine JL_q (q_assign) (k := ?_)
      refine JL_nil ?_
      refine JX_seq ?_
      refine J_seq ?_
      refine J_seq ?_
      refine J_reg ?_
      refine JL_q (q_move) (k := ?_)
      refine JL_q (q_neS (u := (Value.iface 152 (Value.agg [(Value.int .i64 (14))].toArray))) (v := Value.nilIface) (b := true) (fun w => by kernel_rfl)) (k := ?_)
      refine JL_nil ?_
      refine JX_seq ?_
      refine J_true rfl ?_
      refine J_seq ?_
      refine J_reg ?_
      refine JL_q (q_move) (k := ?_)
      refine JL_s (w_store (l' := [_]) Tryz.sizeOf60) (k := ?_)
      refine JL_s (w_store (l' := [_]) Tryz.sizeOf57) (k := ?_)
      refine JL_nil ?_
      refine JX_seq ?_
      refine J_ret ?_
      refine JX_seq_ret ?_
      refine JX_block_ret ?_
      refine JX_roundI_ret (qa (qa (qc (qa (qa q0))))) ?_
      refine JL_q (q_not) (k := ?_)
      refine JL_nil ?_
      refine JX_seq ?_
      refine J_true rfl ?_
      refine J_exit ?_
      refine JX_block_miss rfl ?_
      refine JX_seq_exit ?_
      refine JX_inv_exit ?_
      refine JX_block_hit ?_
      refine JX_scope ?_
      refine JX_it1 (.inr rfl) Tryz.results119 q0 ?_
      refine J_ret ?_
      refine JX_block_ret ?_
      refine JX_seq_ret ?_
      refine JX_retIM [rD11] (qa (qa (qa (qc (qa (qa (qc q0))))))) Tryz.results59 (Res.word Tryz.isAgg60 rfl me rfl (Res.word Tryz.isAgg57 rfl me rfl Res.nil)) ?_
      refine JL_q (q_move) (k := ?_)
      refine JL_q (q_ext) (k := ?_)
      refine JL_q (q_ext) (k := ?_)
      refine JL_q (q_assign) (k := ?_)
      refine JL_q (q_assign) (k := ?_)
      refine JL_nil ?_
      refine JX_seq ?_
      refine J_seq ?_
      refine J_reg ?_
      refine JL_q (q_move) (k := ?_)
      refine JL_q (q_move) (k := ?_)
      refine JL_inl (args := [(Value.iface 152 (Value.agg [(Value.int .i64 (14))].toArray))]) (c_callA Tryz.call60) Tryz.func60 Tryz.ntmps60 ?_
      refine J_seq ?_
      refine J_reg ?_
      refine JL_q (q_assign) (k := ?_)
      refine JL_nil ?_
      refine JX_seq ?_
      refine J_seq ?_
      refine J_reg ?_
      refine JL_a noMk (a_alloc (l := [_]) Tryz.zeroValue152) (k := fun r50 hr50 => ?_)
      refine JL_nil ?_
      refine JX_seq ?_
      refine J_seq ?_
      refine J_seq ?_
      refine J_reg ?_
      refine JL_q (q_move) (k := ?_)
      refine JL_q (q_mkI Tryz.underlying154) (k := ?_)
      refine JL_p (args := [(Value.iface 152 (Value.agg [(Value.int .i64 (14))].toArray)), (Value.iface 154 (Value.pointer (some ⟨r50, 0, none⟩)))]) (c_callA Tryz.call98) (fun w1 hw1 => as_hit_t w1 (hG.ext hw1.ext_out).ety (hw1.own _ me)) (k := ?_)
      rintro w1_12 e1_12 w2_12 hw1_12 ⟨he_12, hT_12⟩
      refine ⟨_, ((r50, Obj.cells [(Value.int .i64 (14))].toArray 152) :: ((l11, loopAt rr11 .exhausted (some .ret)) :: ((r49, Obj.cells [(Value.bool (decide (64 < ((((x_3 ++ ([(((s.getD x_1 default).toNat : Nat) : Int)] : List Int)).length) : Nat) : Int)))), (Value.int .i64 (14))].toArray 145) :: ((r48, Obj.cells [(Value.bool (decide (64 < ((((x_3 ++ ([(((s.getD x_1 default).toNat : Nat) : Int)] : List Int)).length) : Nat) : Int)))), (Value.int .i64 (14))].toArray 145) :: (Bx11 ++ ((r47, Obj.cells [(Value.int .u8 ((((s.getD x_1 default).toNat : Nat) : Int)))].toArray 5) :: ((r43, Obj.map em4 km4) :: (x_2B ++ ((r10, Obj.cells [(Value.string (bs s))].toArray 9) :: ((r8, Obj.cells [(Value.bool ((!(wIsPlain s)))), (Value.int .i64 (11))].toArray 145) :: ((r6, Obj.cells [(Value.bool (decide (300 < ((s.length : Nat) : Int)))), (Value.int .i64 (10))].toArray 145) :: ((r5, Obj.cells [(Value.bool (decide (300 < ((s.length : Nat) : Int)))), (Value.int .i64 (10)), (Value.bool ((!(wIsPlain s)))), (Value.int .i64 (11))].toArray 145) :: ((r4, Obj.cells [(stV x_4 r3 x_4b)].toArray 142) :: ((r3, Obj.cells [(Value.slice (x_2a) (x_2.length) (x_2c)), (Value.slice (ax11) ((x_3 ++ ([(((s.getD x_1 default).toNat : Nat) : Int)] : List Int)).length) (cx11))].toArray 140) :: ((r2, Obj.cells [(Value.iface 152 (Value.agg [(Value.int .i64 (14))].toArray))].toArray 57) :: ((r1, Obj.cells [(Value.slice (none) (0) (0))].toArray 60) :: [])))))))))))))))), he_12, (hw1_12.perm q0).tr hT_12, ?_⟩
      refine JL_nil ?_
      refine JX_seq ?_
      refine J_true rfl ?_
      refine J_seq ?_
      refine J_reg ?_
      refine JL_q (q_fld FO_152_0) (k := ?_)
      refine JL_q (q_load Tryz.isAgg30) (k := ?_)
      refine JL_q (q_assign) (k := ?_)
      refine JL_nil ?_
      refine JX_seq ?_
      refine J_ret ?_
      refine JX_seq_ret ?_
      refine JX_retI Tryz.results60 (Res.tmp rfl Res.nil) ?_
      refine JL_q (q_assign) (k := ?_)
      refine JL_q (q_assign) (k := ?_)
      refine JL_nil ?_
      refine JX_seq ?_
      refine J_ret ?_
      refine JX_ret Tryz.results33 (Res.tmp rfl (Res.tmp rfl Res.nil)) (fun w1 hw1 => ?_)
      exact ⟨none, 0, [], (by rw [((((hF.neg hq1).f hq2).er4 ((((((((hF6.pos hq3).neg hq4).neg hq10).neg hq18).pos hq23).neg hq24).neg hq25).pos hq26))).eq] <;> first | rfl | (simp only [List.length_set] <;> rfl)), (hw1.fresh_out.sub (List.nil_sublist _)), (by rw [((((hF.neg hq1).f hq2).er4 ((((((((hF6.pos hq3).neg hq4).neg hq10).neg hq18).pos hq23).neg hq24).neg hq25).pos hq26))).eq]; exact OwnB.nil)⟩
    by_cases hq27 : x_4 = 3
    · refine JL_alter 33 (Value.func (.func 151) [].toArray [(Value.pointer (some ⟨x_4b, 0, none⟩))].toArray) rfl (by rw [hq27]; rfl) ?_
      refine JL_eqL (L' := ((l11, loopAt rr11 .busy none) :: ((x_4b, Obj.cells [(Value.pointer (some ⟨r3, 0, none⟩))].toArray 135) :: (x_3B ++ (x_2B ++ ((rD11, Obj.deferred (some [])) :: ((r10, Obj.cells [(Value.string (bs s))].toArray 9) :: ((r8, Obj.cells [(Value.bool ((!(wIsPlain s)))), (Value.int .i64 (11))].toArray 145) :: ((r6, Obj.cells [(Value.bool (decide (300 < ((s.length : Nat) : Int)))), (Value.int .i64 (10))].toArray 145) :: ((r5, Obj.cells [(Value.bool (decide (300 < ((s.length : Nat) : Int)))), (Value.int .i64 (10)), (Value.bool ((!(wIsPlain s)))), (Value.int .i64 (11))].toArray 145) :: ((r4, Obj.cells [(stV x_4 r3 x_4b)].toArray 142) :: ((r3, Obj.cells [(Value.slice (x_2a) (x_2.length) (x_2c)), (Value.slice (x_3a) (x_3.length) (x_3c))].toArray 140) :: ((r2, Obj.cells [Value.nilIface].toArray 57) :: ((r1, Obj.cells [(Value.slice (none) (0) (0))].toArray 60) :: [])))))))))))))) (by rw [hq27]; rfl) ?_
      refine JL_inl (args := [(Value.int .u8 ((((s.getD x_1 default).toNat : Nat) : Int))), (Value.bool (false)), (Value.pointer (some ⟨x_4b, 0, none⟩))]) (c_callA Tryz.call151) Tryz.func151 Tryz.ntmps151 ?_
      refine J_seq ?_
      refine J_reg ?_
      refine JL_q (q_assign) (k := ?_)
      refine JL_q (q_assign) (k := ?_)
      refine JL_nil ?_
      refine JX_seq ?_
      refine J_seq ?_
      refine J_plan mixed 13 [(true, 0), (true, 1), (true, 2), (true, 3), (true, 4), (true, 5), (true, 6), (true, 7), (true, 8), (false, 9), (false, 10), (true, 11), (true, 12)] (by kernel_rfl) ?_
      refine JD_q (q_load Tryz.isAgg135) (k := ?_)
      refine JD_q (q_func) (k := ?_)
      refine JD_q (q_move) (k := ?_)
      refine JD_q (q_not) (k := ?_)
      refine JD_q (q_move) (k := ?_)
      refine JD_qg (q_move) (k := ?_)
      refine JD_qg (q_neq) (k := ?_)
      refine JD_q (q_pickT) (k := ?_)
      refine JD_q (q_build (cs := [_, _]) Tryz.zeroValue145 PL_145) (k := ?_)
      refine JD_a noMk (a_bslice (l := [_, _]) Tryz.runUnderlying193 Tryz.sizeOf145 Tryz.zeroValue145) (k := fun r51 hr51 => ?_)
      refine JD_inl (args := [(Value.slice (some ⟨r51, 0, none⟩) (1) (1))]) (c_callA Tryz.call95) Tryz.func95 Tryz.ntmps95 ?_
      refine J_seq ?_
      refine J_reg ?_
      refine JL_q (q_assign) (k := ?_)
      refine JL_nil ?_
      refine JX_seq ?_
      refine J_seq ?_
      refine J_seq ?_
      refine J_reg ?_
      refine JL_q (q_move) (k := ?_)
      refine JL_q (q_lenS Tryz.runUnderlying193) (k := ?_)
      refine JL_q (q_move) (k := ?_)
      refine JL_nil ?_
      refine JX_seq ?_
      refine J_block ?_
      refine J_unroll ?_
      refine J_seq ?_
      refine J_reg ?_
      refine JL_q (q_lss) (k := ?_)
      refine JL_nil ?_
      refine JX_seq ?_
      refine J_seq ?_
      refine J_true rfl ?_
      refine J_skip ?_
      refine JX_seq ?_
      refine J_seq ?_
      refine J_block ?_
      refine J_seq ?_
      refine J_reg ?_
      refine JL_q (q_idxO Tryz.runUnderlying193 Tryz.sizeOf145 0) (k := ?_)
      refine JL_q (q_loadA Tryz.isAgg145 Tryz.sizeOf145) (k := ?_)
      refine JL_a noMk (a_alloc (l := [_, _]) Tryz.zeroValue145) (k := fun r52 hr52 => ?_)
      refine JL_s (w_store (l' := [_, _]) Tryz.sizeOf145) (k := ?_)
      refine JL_nil ?_
      refine JX_seq ?_
      refine J_seq ?_
      refine J_reg ?_
      refine JL_q (q_fld FO_145_0) (k := ?_)
      refine JL_q (q_load Tryz.isAgg4) (k := ?_)
      refine JL_nil ?_
      refine JX_seq ?_
      refine J_dec rfl (fun hq28 => ?_) (fun hq28 => ?_)
      rotate_left
      · refine J_skip ?_
        refine JX_block ?_
        refine JX_seq ?_
        refine J_reg ?_
        refine JL_q (q_add) (k := ?_)
        refine JL_q (q_move) (k := ?_)
        refine JL_nil ?_
        refine JX_again ?_
        refine J_seq ?_
        refine J_reg ?_
        refine JL_q (q_lss) (k := ?_)
        refine JL_nil ?_
        refine JX_seq ?_
        refine J_seq ?_
        refine J_false rfl ?_
        refine J_exit ?_
        refine JX_seq_exit ?_
        refine JX_inv_exit ?_
        refine JX_block_hit ?_
        refine JX_seq ?_
        refine J_seq ?_
        refine J_reg ?_
        refine JL_q (q_assign) (k := ?_)
        refine JL_nil ?_
        refine JX_seq ?_
        refine J_ret ?_
        refine JX_retID ((r52, Obj.cells [(Value.bool (decide ((((s.getD x_1 default).toNat : Nat) : Int) ≠ 32))), (Value.int .i64 (12))].toArray 145) :: ((r51, Obj.cells [(Value.bool (decide ((((s.getD x_1 default).toNat : Nat) : Int) ≠ 32))), (Value.int .i64 (12))].toArray 145) :: ((l11, loopAt rr11 .busy none) :: ((x_4b, Obj.cells [(Value.pointer (some ⟨r3, 0, none⟩))].toArray 135) :: (x_3B ++ (x_2B ++ ((rD11, Obj.deferred (some [])) :: ((r10, Obj.cells [(Value.string (bs s))].toArray 9) :: ((r8, Obj.cells [(Value.bool ((!(wIsPlain s)))), (Value.int .i64 (11))].toArray 145) :: ((r6, Obj.cells [(Value.bool (decide (300 < ((s.length : Nat) : Int)))), (Value.int .i64 (10))].toArray 145) :: ((r5, Obj.cells [(Value.bool (decide (300 < ((s.length : Nat) : Int)))), (Value.int .i64 (10)), (Value.bool ((!(wIsPlain s)))), (Value.int .i64 (11))].toArray 145) :: ((r4, Obj.cells [(stV x_4 r3 x_4b)].toArray 142) :: ((r3, Obj.cells [(Value.slice (x_2a) (x_2.length) (x_2c)), (Value.slice (x_3a) (x_3.length) (x_3c))].toArray 140) :: ((r2, Obj.cells [Value.nilIface].toArray 57) :: ((r1, Obj.cells [(Value.slice (none) (0) (0))].toArray 60) :: []))))))))))))))) [] Tryz.results95 (Res.tmp rfl Res.nil) (List.Perm.trans (List.Perm.refl _) (List.Perm.of_eq (by first | rfl | (simp only [List.cons_append, List.nil_append, List.append_assoc, List.append_nil]; done) | (simp only [List.cons_append, List.nil_append, List.append_assoc, List.append_nil]; rfl)))) (List.Sublist.cons _ (List.Sublist.refl _)) ?_
        refine JD_q (q_assign) (k := ?_)
        refine JD_q (q_assign) (k := ?_)
        refine JD_nil0 ?_
        refine JL_nil ?_
        refine JX_seq ?_
        refine J_ret ?_
        refine JX_retI Tryz.results151 (Res.tmp rfl (Res.tmp rfl Res.nil)) ?_
        refine JL_q (q_move) (k := ?_)
        refine JL_q (q_ext) (k := ?_)
        refine JL_q (q_ext) (k := ?_)
        refine JL_q (q_assign) (k := ?_)
        refine JL_q (q_assign) (k := ?_)
        refine JL_nil ?_
        refine JX_seq ?_
        refine J_seq ?_
        refine J_seq ?_
        refine J_reg ?_
        refine JL_q (q_move) (k := ?_)
        refine JL_q (q_neS (u := Value.nilIface) (v := Value.nilIface) (b := false) (fun w => by kernel_rfl)) (k := ?_)
        refine JL_nil ?_
        refine JX_seq ?_
        refine J_false rfl ?_
        refine J_skip ?_
        refine JX_seq ?_
        refine J_reg ?_
        refine JL_q (q_move) (k := ?_)
        refine JL_s (w_store (l' := [_]) Tryz.sizeOf142) (k := ?_)
        refine JL_nil ?_
        refine JX_block ?_
        refine JX_roundI (qa (qa q0)) ?_
        refine JL_q (q_not) (k := ?_)
        refine JL_nil ?_
        refine JX_seq ?_
        refine J_false rfl ?_
        refine J_skip ?_
        refine JX_block ?_
        refine JX_seq ?_
        refine J_reg ?_
        refine JL_q (q_add) (k := ?_)
        refine JL_q (q_move) (k := ?_)
        refine JL_nil ?_
        refine JX_permL _ ((((((((((((qa (qa (qa (qa (qc (qc (qa (qa (qa (qa (qa (qa (qa (qa q0)))))))))))))).trans (qa (qa (qa (qa (qa (qc (qc (qa (qa (qa (qa (qa (qa (qa q0))))))))))))))).trans (qa (qa (qa (qa (qa (qa (qc (qc (qa (qa (qa (qa (qa (qa q0))))))))))))))).trans (qa (qa (qa (qa (qa (qa (qa (qc (qc (qa (qa (qa (qa (qa q0))))))))))))))).trans (qa (qa (qa (qa (qa (qa (qa (qa (qc (qc (qa (qa (qa (qa q0))))))))))))))).trans (qa (qa (qa (qa (qa (qa (qa (qa (qa (qc (qc (qa (qa (qa q0))))))))))))))).trans (qa (qa (qa (qa (qa (qa (qa (qa (qa (qa (qc (qc (qa (qa q0))))))))))))))).trans (qa (qa (qa (qa (qa (qa (qa (qa (qa (qa (qa (qc (qc (qa q0))))))))))))))).trans (qa (qa (qa (qa (qa (qa (qa (qa (qa (qa (qa (qa (qc (qc q0))))))))))))))).trans (qa (qa (qa (qa (qa (qa (qa (qa (qa q0)))))))))).trans (qb (qb (qb (qb (qb (qb (qb (qb (qb (qb (qb (qb (qb (qd q0))))))))))))))).trans (qd (qb (qb (qb (qb (qb (qb (qb (qb (qb (qb (qb (qb (qb q0))))))))))))))) ?_
        refine JX_subL _ (List.Sublist.append (List.Sublist.refl _) (List.Sublist.append (List.Sublist.refl _) (List.Sublist.cons_cons _ (List.Sublist.cons_cons _ (List.Sublist.cons_cons _ (List.Sublist.cons_cons _ (List.Sublist.cons_cons _ (List.Sublist.cons_cons _ (List.Sublist.cons_cons _ (List.Sublist.cons_cons _ (List.Sublist.cons_cons _ (List.Sublist.cons_cons _ (List.nil_sublist _))))))))))))) ?_
        exact JX_inv12 n_5 (x_1 + 1) x_2 x_2a x_2c x_2B x_3 x_3a x_3c x_3B 0 0 ⟨by omega, (((((((hF6.pos hq3).neg hq4).neg hq10).neg hq18).neg hq23).pos hq27).neg hq28), hx_2, hx_3, (by omega), (by first | exact lb), (by first | exact lb)⟩ (Nat.lt_succ_self _) se (List.Perm.refl _)
      refine J_seq ?_
      refine J_reg ?_
      refine JL_q (q_fld FO_145_1) (k := ?_)
      refine JL_q (q_load Tryz.isAgg30) (k := ?_)
      refine JL_q (q_build (cs := [_]) Tryz.zeroValue152 PL_152) (k := ?_)
      refine JL_q (q_mkI Tryz.underlying152) (k := ?_)
      refine JL_q (q_assign) (k := ?_)
      refine JL_nil ?_
      refine JX_seq ?_
      refine J_ret ?_
      refine JX_block_ret ?_
      refine JX_seq_ret ?_
      refine JX_inv_ret ?_
      refine JX_block_ret ?_
      refine JX_seq_ret ?_
      refine JX_retID ((r52, Obj.cells [(Value.bool (decide ((((s.getD x_1 default).toNat : Nat) : Int) ≠ 32))), (Value.int .i64 (12))].toArray 145) :: ((r51, Obj.cells [(Value.bool (decide ((((s.getD x_1 default).toNat : Nat) : Int) ≠ 32))), (Value.int .i64 (12))].toArray 145) :: ((l11, loopAt rr11 .busy none) :: ((x_4b, Obj.cells [(Value.pointer (some ⟨r3, 0, none⟩))].toArray 135) :: (x_3B ++ (x_2B ++ ((rD11, Obj.deferred (some [])) :: ((r10, Obj.cells [(Value.string (bs s))].toArray 9) :: ((r8, Obj.cells [(Value.bool ((!(wIsPlain s)))), (Value.int .i64 (11))].toArray 145) :: ((r6, Obj.cells [(Value.bool (decide (300 < ((s.length : Nat) : Int)))), (Value.int .i64 (10))].toArray 145) :: ((r5, Obj.cells [(Value.bool (decide (300 < ((s.length : Nat) : Int)))), (Value.int .i64 (10)), (Value.bool ((!(wIsPlain s)))), (Value.int .i64 (11))].toArray 145) :: ((r4, Obj.cells [(stV x_4 r3 x_4b)].toArray 142) :: ((r3, Obj.cells [(Value.slice (x_2a) (x_2.length) (x_2c)), (Value.slice (x_3a) (x_3.length) (x_3c))].toArray 140) :: ((r2, Obj.cells [Value.nilIface].toArray 57) :: ((r1, Obj.cells [(Value.slice (none) (0) (0))].toArray 60) :: []))))))))))))))) [] Tryz.results95 (Res.tmp rfl Res.nil) (List.Perm.trans (List.Perm.refl _) (List.Perm.of_eq (by first | rfl | (simp only [List.cons_append, List.nil_append, List.append_assoc, List.append_nil]; done) | (simp only [List.cons_append, List.nil_append, List.append_assoc, List.append_nil]; rfl)))) (List.Sublist.cons _ (List.Sublist.refl _)) ?_
      refine JD_q (q_assign) (k := ?_)
      refine JD_q (q_assign) (k := ?_)
      refine JD_nil0 ?_
      refine JL_nil ?_
      refine JX_seq ?_
      refine J_ret ?_
      refine JX_retI Tryz.results151 (Res.tmp rfl (Res.tmp rfl Res.nil)) ?_
      refine JL_q (q_move) (k := ?_)
      refine JL_q (q_ext) (k := ?_)
      refine JL_q (q_ext) (k := ?_)
      refine JL_q (q_assign) (k := ?_)
      refine JL_q (q_assign) (k := ?_)
      refine JL_nil ?_
      refine JX_seq ?_
      refine J_seq ?_
      refine J_seq ?_
      refine J_reg ?_
      refine JL_q (q_move) (k := ?_)
      refine JL_q (q_neS (u := (Value.iface 152 (Value.agg [(Value.int .i64 (12))].toArray))) (v := Value.nilIface) (b := true) (fun w => by kernel_rfl)) (k := ?_)
      refine JL_nil ?_
      refine JX_seq ?_
      refine J_true rfl ?_
      refine J_seq ?_
      refine J_reg ?_
      refine JL_q (q_move) (k := ?_)
      refine JL_s (w_store (l' := [_]) Tryz.sizeOf60) (k := ?_)
      refine JL_s (w_store (l' := [_]) Tryz.sizeOf57) (k := ?_)
      refine JL_nil ?_
      refine JX_seq ?_
      refine J_ret ?_
      refine JX_seq_ret ?_
      refine JX_block_ret ?_
      refine JX_roundI_ret (qa (qa q0)) ?_
      refine JL_q (q_not) (k := ?_)
      refine JL_nil ?_
      refine JX_seq ?_
      refine J_true rfl ?_
      refine J_exit ?_
      refine JX_block_miss rfl ?_
      refine JX_seq_exit ?_
      refine JX_inv_exit ?_
      refine JX_block_hit ?_
      refine JX_scope ?_
      refine JX_it1 (.inr rfl) Tryz.results119 q0 ?_
      refine J_ret ?_
      refine JX_block_ret ?_
      refine JX_seq_ret ?_
      refine JX_retIM [rD11] (qa (qa (qa (qa (qc (qc q0)))))) Tryz.results59 (Res.word Tryz.isAgg60 rfl me rfl (Res.word Tryz.isAgg57 rfl me rfl Res.nil)) ?_
      refine JL_q (q_move) (k := ?_)
      refine JL_q (q_ext) (k := ?_)
      refine JL_q (q_ext) (k := ?_)
      refine JL_q (q_assign) (k := ?_)
      refine JL_q (q_assign) (k := ?_)
      refine JL_nil ?_
      refine JX_seq ?_
      refine J_seq ?_
      refine J_reg ?_
      refine JL_q (q_move) (k := ?_)
      refine JL_q (q_move) (k := ?_)
      refine JL_inl (args := [(Value.iface 152 (Value.agg [(Value.int .i64 (12))].toArray))]) (c_callA Tryz.call60) Tryz.func60 Tryz.ntmps60 ?_
      refine J_seq ?_
      refine J_reg ?_
      refine JL_q (q_assign) (k := ?_)
      refine JL_nil ?_
      refine JX_seq ?_
      refine J_seq ?_
      refine J_reg ?_
      refine JL_a noMk (a_alloc (l := [_]) Tryz.zeroValue152) (k := fun r53 hr53 => ?_)
      refine JL_nil ?_
      refine JX_seq ?_
      refine J_seq ?_
      refine J_seq ?_
      refine J_reg ?_
      refine JL_q (q_move) (k := ?_)
      refine JL_q (q_mkI Tryz.underlying154) (k := ?_)
      refine JL_p (args := [(Value.iface 152 (Value.agg [(Value.int .i64 (12))].toArray)), (Value.iface 154 (Value.pointer (some ⟨r53, 0, none⟩)))]) (c_callA Tryz.call98) (fun w1 hw1 => as_hit_t w1 (hG.ext hw1.ext_out).ety (hw1.own _ me)) (k := ?_)
      rintro w1_13 e1_13 w2_13 hw1_13 ⟨he_13, hT_13⟩
      refine ⟨_, ((r53, Obj.cells [(Value.int .i64 (12))].toArray 152) :: ((l11, loopAt rr11 .exhausted (some .ret)) :: ((r52, Obj.cells [(Value.bool (decide ((((s.getD x_1 default).toNat : Nat) : Int) ≠ 32))), (Value.int .i64 (12))].toArray 145) :: ((r51, Obj.cells [(Value.bool (decide ((((s.getD x_1 default).toNat : Nat) : Int) ≠ 32))), (Value.int .i64 (12))].toArray 145) :: ((x_4b, Obj.cells [(Value.pointer (some ⟨r3, 0, none⟩))].toArray 135) :: (x_3B ++ (x_2B ++ ((r10, Obj.cells [(Value.string (bs s))].toArray 9) :: ((r8, Obj.cells [(Value.bool ((!(wIsPlain s)))), (Value.int .i64 (11))].toArray 145) :: ((r6, Obj.cells [(Value.bool (decide (300 < ((s.length : Nat) : Int)))), (Value.int .i64 (10))].toArray 145) :: ((r5, Obj.cells [(Value.bool (decide (300 < ((s.length : Nat) : Int)))), (Value.int .i64 (10)), (Value.bool ((!(wIsPlain s)))), (Value.int .i64 (11))].toArray 145) :: ((r4, Obj.cells [(stV x_4 r3 x_4b)].toArray 142) :: ((r3, Obj.cells [(Value.slice (x_2a) (x_2.length) (x_2c)), (Value.slice (x_3a) (x_3.length) (x_3c))].toArray 140) :: ((r2, Obj.cells [(Value.iface 152 (Value.agg [(Value.int .i64 (12))].toArray))].toArray 57) :: ((r1, Obj.cells [(Value.slice (none) (0) (0))].toArray 60) :: []))))))))))))))), he_13, (hw1_13.perm q0).tr hT_13, ?_⟩
      refine JL_nil ?_
      refine JX_seq ?_
      refine J_true rfl ?_
      refine J_seq ?_
      refine J_reg ?_
      refine JL_q (q_fld FO_152_0) (k := ?_)
      refine JL_q (q_load Tryz.isAgg30) (k := ?_)
      refine JL_q (q_assign) (k := ?_)
      refine JL_nil ?_
      refine JX_seq ?_
      refine J_ret ?_
      refine JX_seq_ret ?_
      refine JX_retI Tryz.results60 (Res.tmp rfl Res.nil) ?_
      refine JL_q (q_assign) (k := ?_)
      refine JL_q (q_assign) (k := ?_)
      refine JL_nil ?_
      refine JX_seq ?_
      refine J_ret ?_
      refine JX_ret Tryz.results33 (Res.tmp rfl (Res.tmp rfl Res.nil)) (fun w1 hw1 => ?_)
      exact ⟨none, 0, [], (by rw [((((hF.neg hq1).f hq2).er4 (((((((hF6.pos hq3).neg hq4).neg hq10).neg hq18).neg hq23).pos hq27).pos hq28))).eq] <;> first | rfl | (simp only [List.length_set] <;> rfl)), (hw1.fresh_out.sub (List.nil_sublist _)), (by rw [((((hF.neg hq1).f hq2).er4 (((((((hF6.pos hq3).neg hq4).neg hq10).neg hq18).neg hq23).pos hq27).pos hq28))).eq]; exact OwnB.nil)⟩
    have hst29 : x_4 = 4 := by omega
    refine JL_alter 33 (Value.func (.func 152) [].toArray [(Value.pointer (some ⟨x_4b, 0, none⟩))].toArray) rfl (by rw [hst29]; rfl) ?_
    refine JL_eqL (L' := ((l11, loopAt rr11 .busy none) :: ((x_4b, Obj.cells [(Value.pointer (some ⟨r3, 0, none⟩))].toArray 135) :: (x_3B ++ (x_2B ++ ((rD11, Obj.deferred (some [])) :: ((r10, Obj.cells [(Value.string (bs s))].toArray 9) :: ((r8, Obj.cells [(Value.bool ((!(wIsPlain s)))), (Value.int .i64 (11))].toArray 145) :: ((r6, Obj.cells [(Value.bool (decide (300 < ((s.length : Nat) : Int)))), (Value.int .i64 (10))].toArray 145) :: ((r5, Obj.cells [(Value.bool (decide (300 < ((s.length : Nat) : Int)))), (Value.int .i64 (10)), (Value.bool ((!(wIsPlain s)))), (Value.int .i64 (11))].toArray 145) :: ((r4, Obj.cells [(stV x_4 r3 x_4b)].toArray 142) :: ((r3, Obj.cells [(Value.slice (x_2a) (x_2.length) (x_2c)), (Value.slice (x_3a) (x_3.length) (x_3c))].toArray 140) :: ((r2, Obj.cells [Value.nilIface].toArray 57) :: ((r1, Obj.cells [(Value.slice (none) (0) (0))].toArray 60) :: [])))))))))))))) (by rw [hst29]; rfl) ?_
    refine JL_inl (args := [(Value.int .u8 ((((s.getD x_1 default).toNat : Nat) : Int))), (Value.bool (false)), (Value.pointer (some ⟨x_4b, 0, none⟩))]) (c_callA Tryz.call152) Tryz.func152 Tryz.ntmps152 ?_
    refine J_seq ?_
    refine J_reg ?_
    refine JL_q (q_assign) (k := ?_)
    refine JL_q (q_assign) (k := ?_)
    refine JL_nil ?_
    refine JX_seq ?_
    refine J_seq ?_
    refine J_seq ?_
    refine J_reg ?_
    refine JL_q (q_move) (k := ?_)
    refine JL_q (q_move) (k := ?_)
    refine JL_qg (q_move) (k := ?_)
    refine JL_qg (q_neq) (k := ?_)
    refine JL_qg (q_move) (k := ?_)
    refine JL_dec 12 rfl (fun hq30 => ?_) (fun hq30 => ?_)
    rotate_left
    · refine JL_skips 2 rfl ?_
      refine JL_qg (q_pickF) (k := ?_)
      refine JL_q (q_pickF) (k := ?_)
      refine JL_q (q_build (cs := [_, _]) Tryz.zeroValue145 PL_145) (k := ?_)
      refine JL_a noMk (a_bslice (l := [_, _]) Tryz.runUnderlying193 Tryz.sizeOf145 Tryz.zeroValue145) (k := fun r61 hr61 => ?_)
      refine JL_inl (args := [(Value.slice (some ⟨r61, 0, none⟩) (1) (1))]) (c_callA Tryz.call95) Tryz.func95 Tryz.ntmps95 ?_
      refine J_seq ?_
      refine J_reg ?_
      refine JL_q (q_assign) (k := ?_)
      refine JL_nil ?_
      refine JX_seq ?_
      refine J_seq ?_
      refine J_seq ?_
      refine J_reg ?_
      refine JL_q (q_move) (k := ?_)
      refine JL_q (q_lenS Tryz.runUnderlying193) (k := ?_)
      refine JL_q (q_move) (k := ?_)
      refine JL_nil ?_
      refine JX_seq ?_
      refine J_block ?_
      refine J_unroll ?_
      refine J_seq ?_
      refine J_reg ?_
      refine JL_q (q_lss) (k := ?_)
      refine JL_nil ?_
      refine JX_seq ?_
      refine J_seq ?_
      refine J_true rfl ?_
      refine J_skip ?_
      refine JX_seq ?_
      refine J_seq ?_
      refine J_block ?_
      refine J_seq ?_
      refine J_reg ?_
      refine JL_q (q_idxO Tryz.runUnderlying193 Tryz.sizeOf145 0) (k := ?_)
      refine JL_q (q_loadA Tryz.isAgg145 Tryz.sizeOf145) (k := ?_)
      refine JL_a noMk (a_alloc (l := [_, _]) Tryz.zeroValue145) (k := fun r62 hr62 => ?_)
      refine JL_s (w_store (l' := [_, _]) Tryz.sizeOf145) (k := ?_)
      refine JL_nil ?_
      refine JX_seq ?_
      refine J_seq ?_
      refine J_reg ?_
      refine JL_q (q_fld FO_145_0) (k := ?_)
      refine JL_q (q_load Tryz.isAgg4) (k := ?_)
      refine JL_nil ?_
      refine JX_seq ?_
      refine J_false rfl ?_
      refine J_skip ?_
      refine JX_block ?_
      refine JX_seq ?_
      refine J_reg ?_
      refine JL_q (q_add) (k := ?_)
      refine JL_q (q_move) (k := ?_)
      refine JL_nil ?_
      refine JX_again ?_
      refine J_seq ?_
      refine J_reg ?_
      refine JL_q (q_lss) (k := ?_)
      refine JL_nil ?_
      refine JX_seq ?_
      refine J_seq ?_
      refine J_false rfl ?_
      refine J_exit ?_
      refine JX_seq_exit ?_
      refine JX_inv_exit ?_
      refine JX_block_hit ?_
      refine JX_seq ?_
      refine J_seq ?_
      refine J_reg ?_
      refine JL_q (q_assign) (k := ?_)
      refine JL_nil ?_
      refine JX_seq ?_
      refine J_ret ?_
      refine JX_retI Tryz.results95 (Res.tmp rfl Res.nil) ?_
      refine JL_q (q_assign) (k := ?_)
      refine JL_nil ?_
      refine JX_seq ?_
      refine J_seq ?_
      refine J_reg ?_
      refine JL_q (q_move) (k := ?_)
      refine JL_q (q_neS (u := Value.nilIface) (v := Value.nilIface) (b := false) (fun w => by kernel_rfl)) (k := ?_)
      refine JL_nil ?_
      refine JX_seq ?_
      refine J_false rfl ?_
      refine J_skip ?_
      refine JX_seq ?_
      refine J_seq ?_
      refine J_planV ((r62, Obj.cells [(Value.bool (false)), (Value.int .i64 (13))].toArray 145) :: ((r61, Obj.cells [(Value.bool (false)), (Value.int .i64 (13))].toArray 145) :: ((l11, loopAt rr11 .busy none) :: ((x_4b, Obj.cells [(Value.pointer (some ⟨r3, 0, none⟩))].toArray 135) :: (x_2B ++ ((rD11, Obj.deferred (some [])) :: ((r10, Obj.cells [(Value.string (bs s))].toArray 9) :: ((r8, Obj.cells [(Value.bool ((!(wIsPlain s)))), (Value.int .i64 (11))].toArray 145) :: ((r6, Obj.cells [(Value.bool (decide (300 < ((s.length : Nat) : Int)))), (Value.int .i64 (10))].toArray 145) :: ((r5, Obj.cells [(Value.bool (decide (300 < ((s.length : Nat) : Int)))), (Value.int .i64 (10)), (Value.bool ((!(wIsPlain s)))), (Value.int .i64 (11))].toArray 145) :: ((r4, Obj.cells [(stV x_4 r3 x_4b)].toArray 142) :: ((r2, Obj.cells [Value.nilIface].toArray 57) :: ((r1, Obj.cells [(Value.slice (none) (0) (0))].toArray 60) :: []))))))))))))) ((r3, Obj.cells [(Value.slice (x_2a) (x_2.length) (x_2c)), (Value.slice (x_3a) (x_3.length) (x_3c))].toArray 140) :: (x_3B ++ [])) (List.Perm.trans ((qb (qb (qb (qb q0)))).trans (qc (qa (qa (qa (qa (qc (qa (qa (qa (qa (qa (qa q0))))))))))))) (List.Perm.of_eq (by first | rfl | (simp only [List.cons_append, List.nil_append, List.append_assoc, List.append_nil]; done) | (simp only [List.cons_append, List.nil_append, List.append_assoc, List.append_nil]; rfl)))) mixed 9 [(true, 0), (true, 1), (true, 2), (true, 3), (true, 4), (true, 5), (false, 6), (true, 7), (true, 8)] (by kernel_rfl) ?_
      refine JD_q (q_load Tryz.isAgg135) (k := ?_)
      refine JD_q (q_func) (k := ?_)
      refine JD_q (q_load Tryz.isAgg135) (k := ?_)
      refine JD_q (q_nil) (k := ?_)
      refine JD_q (q_fld FO_140_0) (k := ?_)
      refine JD_q (q_move) (k := ?_)
      refine JD_inl (args := [(Value.pointer (some ⟨r3, 0, none⟩)), (Value.int .u8 ((((s.getD x_1 default).toNat : Nat) : Int)))]) (c_callA Tryz.call136) Tryz.func136 Tryz.ntmps136 ?_
      refine J_permL ((r3, Obj.cells [(Value.slice (x_2a) (x_2.length) (x_2c)), (Value.slice (x_3a) (x_3.length) (x_3c))].toArray 140) :: (x_3B ++ ((r62, Obj.cells [(Value.bool (false)), (Value.int .i64 (13))].toArray 145) :: ((r61, Obj.cells [(Value.bool (false)), (Value.int .i64 (13))].toArray 145) :: ((l11, loopAt rr11 .busy none) :: ((x_4b, Obj.cells [(Value.pointer (some ⟨r3, 0, none⟩))].toArray 135) :: (x_2B ++ ((rD11, Obj.deferred (some [])) :: ((r10, Obj.cells [(Value.string (bs s))].toArray 9) :: ((r8, Obj.cells [(Value.bool ((!(wIsPlain s)))), (Value.int .i64 (11))].toArray 145) :: ((r6, Obj.cells [(Value.bool (decide (300 < ((s.length : Nat) : Int)))), (Value.int .i64 (10))].toArray 145) :: ((r5, Obj.cells [(Value.bool (decide (300 < ((s.length : Nat) : Int)))), (Value.int .i64 (10)), (Value.bool ((!(wIsPlain s)))), (Value.int .i64 (11))].toArray 145) :: ((r4, Obj.cells [(stV x_4 r3 x_4b)].toArray 142) :: ((r2, Obj.cells [Value.nilIface].toArray 57) :: ((r1, Obj.cells [(Value.slice (none) (0) (0))].toArray 60) :: []))))))))))))))) (List.Perm.of_eq (by simp only [List.append_assoc, List.cons_append, List.nil_append])) ?_
      refine J_seq ?_
      refine J_reg ?_
      refine JL_q (q_assign) (k := ?_)
      refine JL_nil ?_
      refine JX_seq ?_
      refine J_seq ?_
      refine J_reg ?_
      refine JL_q (q_move) (k := ?_)
      refine JL_q (q_move) (k := ?_)
      refine JL_q (q_nil) (k := ?_)
      refine JL_q (q_fld FO_138_1) (k := ?_)
      refine JL_q (q_load Tryz.isAgg136) (k := ?_)
      refine JL_q (q_move) (k := ?_)
      refine JL_a noMk (a_bslice (l := [_]) Tryz.runUnderlying136 Tryz.sizeOf5 Tryz.zeroValue5) (k := fun r63 hr63 => ?_)
      refine JL_append (x_3 ++ ([(((s.getD x_1 default).toNat : Nat) : Int)] : List Int)) rfl TY_5 Tryz.underlying136 eI_u8_ok hx_3 (qb (qb q0)) (SlJ.lit (xs := ([(((s.getD x_1 default).toNat : Nat) : Int)] : List Int)) eI_u8_ok) ⟨by omega, by omega⟩ (n := x_3.length) (m := 1) (k := fun ax15 cx15 Bx15 hox15 => ?_)
      have hal15 : (x_3 ++ ([(((s.getD x_1 default).toNat : Nat) : Int)] : List Int)).length = x_3.length + 1 := by first | rfl | exact List.length_append | simp
      refine JL_q (q_nil) (k := ?_)
      refine JL_q (q_fld FO_138_1) (k := ?_)
      refine JL_s (w_store (l' := [_, _]) Tryz.sizeOf136) (k := ?_)
      refine JL_nil ?_
      refine JX_seq ?_
      refine J_seq ?_
      refine J_reg ?_
      refine JL_q (q_move) (k := ?_)
      refine JL_q (q_nil) (k := ?_)
      refine JL_q (q_fld FO_138_1) (k := ?_)
      refine JL_q (q_load Tryz.isAgg136) (k := ?_)
      refine JL_q (q_lenS Tryz.runUnderlying136) (k := ?_)
      refine JL_q (q_gtr) (k := ?_)
      refine JL_q (q_build (cs := [_, _]) Tryz.zeroValue145 PL_145) (k := ?_)
      refine JL_a noMk (a_bslice (l := [_, _]) Tryz.runUnderlying193 Tryz.sizeOf145 Tryz.zeroValue145) (k := fun r64 hr64 => ?_)
      refine JL_inl (args := [(Value.slice (some ⟨r64, 0, none⟩) (1) (1))]) (c_callA Tryz.call95) Tryz.func95 Tryz.ntmps95 ?_
      refine J_seq ?_
      refine J_reg ?_
      refine JL_q (q_assign) (k := ?_)
      refine JL_nil ?_
      refine JX_seq ?_
      refine J_seq ?_
      refine J_seq ?_
      refine J_reg ?_
      refine JL_q (q_move) (k := ?_)
      refine JL_q (q_lenS Tryz.runUnderlying193) (k := ?_)
      refine JL_q (q_move) (k := ?_)
      refine JL_nil ?_
      refine JX_seq ?_
      refine J_block ?_
      refine J_unroll ?_
      refine J_seq ?_
      refine J_reg ?_
      refine JL_q (q_lss) (k := ?_)
      refine JL_nil ?_
      refine JX_seq ?_
      refine J_seq ?_
      refine J_true rfl ?_
      refine J_skip ?_
      refine JX_seq ?_
      refine J_seq ?_
      refine J_block ?_
      refine J_seq ?_
      refine J_reg ?_
      refine JL_q (q_idxO Tryz.runUnderlying193 Tryz.sizeOf145 0) (k := ?_)
      refine JL_q (q_loadA Tryz.isAgg145 Tryz.sizeOf145) (k := ?_)
      refine JL_a noMk (a_alloc (l := [_, _]) Tryz.zeroValue145) (k := fun r65 hr65 => ?_)
      refine JL_s (w_store (l' := [_, _]) Tryz.sizeOf145) (k := ?_)
      refine JL_nil ?_
      refine JX_seq ?_
      refine J_seq ?_
      refine J_reg ?_
      refine JL_q (q_fld FO_145_0) (k := ?_)
      refine JL_q (q_load Tryz.isAgg4) (k := ?_)
      refine JL_nil ?_
      refine JX_seq ?_
      refine J_dec rfl (fun hq33 => ?_) (fun hq33 => ?_)
      rotate_left
      · refine J_skip ?_
        refine JX_block ?_
        refine JX_seq ?_
        refine J_reg ?_
        refine JL_q (q_add) (k := ?_)
        refine JL_q (q_move) (k := ?_)
        refine JL_nil ?_
        refine JX_again ?_
        refine J_seq ?_
        refine J_reg ?_
        refine JL_q (q_lss) (k := ?_)
        refine JL_nil ?_
        refine JX_seq ?_
        refine J_seq ?_
        refine J_false rfl ?_
        refine J_exit ?_
        refine JX_seq_exit ?_
        refine JX_inv_exit ?_
        refine JX_block_hit ?_
        refine JX_seq ?_
        refine J_seq ?_
        refine J_reg ?_
        refine JL_q (q_assign) (k := ?_)
        refine JL_nil ?_
        refine JX_seq ?_
        refine J_ret ?_
        refine JX_retI Tryz.results95 (Res.tmp rfl Res.nil) ?_
        refine JL_q (q_assign) (k := ?_)
        refine JL_nil ?_
        refine JX_seq ?_
        refine J_ret ?_
        refine JX_retID ((r65, Obj.cells [(Value.bool (decide (64 < ((((x_3 ++ ([(((s.getD x_1 default).toNat : Nat) : Int)] : List Int)).length) : Nat) : Int)))), (Value.int .i64 (14))].toArray 145) :: ((r64, Obj.cells [(Value.bool (decide (64 < ((((x_3 ++ ([(((s.getD x_1 default).toNat : Nat) : Int)] : List Int)).length) : Nat) : Int)))), (Value.int .i64 (14))].toArray 145) :: (Bx15 ++ ((r63, Obj.cells [(Value.int .u8 ((((s.getD x_1 default).toNat : Nat) : Int)))].toArray 5) :: ((r62, Obj.cells [(Value.bool (false)), (Value.int .i64 (13))].toArray 145) :: ((r61, Obj.cells [(Value.bool (false)), (Value.int .i64 (13))].toArray 145) :: ((l11, loopAt rr11 .busy none) :: ((x_4b, Obj.cells [(Value.pointer (some ⟨r3, 0, none⟩))].toArray 135) :: (x_2B ++ ((rD11, Obj.deferred (some [])) :: ((r10, Obj.cells [(Value.string (bs s))].toArray 9) :: ((r8, Obj.cells [(Value.bool ((!(wIsPlain s)))), (Value.int .i64 (11))].toArray 145) :: ((r6, Obj.cells [(Value.bool (decide (300 < ((s.length : Nat) : Int)))), (Value.int .i64 (10))].toArray 145) :: ((r5, Obj.cells [(Value.bool (decide (300 < ((s.length : Nat) : Int)))), (Value.int .i64 (10)), (Value.bool ((!(wIsPlain s)))), (Value.int .i64 (11))].toArray 145) :: ((r4, Obj.cells [(stV x_4 r3 x_4b)].toArray 142) :: ((r2, Obj.cells [Value.nilIface].toArray 57) :: ((r1, Obj.cells [(Value.slice (none) (0) (0))].toArray 60) :: []))))))))))))))))) ((r3, Obj.cells [(Value.slice (x_2a) (x_2.length) (x_2c)), (Value.slice (ax15) ((x_3 ++ ([(((s.getD x_1 default).toNat : Nat) : Int)] : List Int)).length) (cx15))].toArray 140) :: []) Tryz.results136 (Res.tmp rfl Res.nil) (List.Perm.trans ((((((((((((((((((qa (qa (qc (qa (qa (qa (qa (qa (qa (qc (qa (qa (qa (qa (qa (qa (qa q0))))))))))))))))).trans (qa (qa (qa (qc (qa (qa (qa (qa (qa (qa (qc (qa (qa (qa (qa (qa (qa q0)))))))))))))))))).trans (qa (qa (qa (qa (qc (qa (qa (qa (qa (qa (qa (qc (qa (qa (qa (qa (qa q0)))))))))))))))))).trans (qa (qa (qa (qa (qa (qc (qa (qa (qa (qa (qa (qa (qc (qa (qa (qa (qa q0)))))))))))))))))).trans (qa (qa (qa (qa (qa (qa (qc (qa (qa (qa (qa (qa (qa (qc (qa (qa (qa q0)))))))))))))))))).trans (qa (qa (qa (qa (qa (qa (qa (qc (qa (qa (qa (qa (qa (qa (qc (qa (qa q0)))))))))))))))))).trans (qa (qa (qa (qa (qa (qa (qa (qa (qc (qa (qa (qa (qa (qa (qa (qc (qa q0)))))))))))))))))).trans (qa (qa (qa (qa (qa (qa (qa (qa (qa (qc (qa (qa (qa (qa (qa (qa (qc q0)))))))))))))))))).trans (qb (qb (qb (qb (qb (qb (qb (qb (qb (qb (qd (qb (qb (qb (qb (qb (qb q0)))))))))))))))))).trans (qc (qa (qa (qa (qa (qa (qa (qa (qa (qa (qa (qc (qa (qa (qa (qa (qa q0)))))))))))))))))).trans (qa (qc (qa (qa (qa (qa (qa (qa (qa (qa (qa (qa (qc (qa (qa (qa (qa q0)))))))))))))))))).trans (qa (qa (qc (qa (qa (qa (qa (qa (qa (qa (qa (qa (qa (qc (qa (qa (qa q0)))))))))))))))))).trans (qa (qa (qa (qc (qa (qa (qa (qa (qa (qa (qa (qa (qa (qa (qc (qa (qa q0)))))))))))))))))).trans (qa (qa (qa (qa (qc (qa (qa (qa (qa (qa (qa (qa (qa (qa (qa (qc q0))))))))))))))))).trans (qb (qb (qb (qb (qb (qd (qb (qb (qb (qb (qb (qb (qb (qb (qb (qb q0))))))))))))))))).trans (qc (qa (qa (qa (qa (qa (qc (qa (qa (qa (qa (qa (qa (qa (qa (qa q0))))))))))))))))).trans (qa (qc (qa (qa (qa (qa (qa (qc (qa (qa (qa (qa (qa (qa (qa (qa q0))))))))))))))))).trans (qa (qa (qc (qa (qa (qa (qa (qa (qc (qa (qa (qa (qa (qa (qa (qa (qa q0)))))))))))))))))) (List.Perm.of_eq (by first | rfl | (simp only [List.cons_append, List.nil_append, List.append_assoc, List.append_nil]; done) | (simp only [List.cons_append, List.nil_append, List.append_assoc, List.append_nil]; rfl)))) (List.Sublist.cons _ (List.Sublist.cons _ (List.Sublist.trans (List.Sublist.cons _ (List.Sublist.refl _)) (List.sublist_append_right _ _)))) ?_
        refine JD_q (q_assign) (k := ?_)
        refine JD_q (q_assign) (k := ?_)
        refine JD_nil ?_
        refine JL_eqL (L' := ((r3, Obj.cells [(Value.slice (x_2a) (x_2.length) (x_2c)), (Value.slice (ax15) ((x_3 ++ ([(((s.getD x_1 default).toNat : Nat) : Int)] : List Int)).length) (cx15))].toArray 140) :: ((r65, Obj.cells [(Value.bool (decide (64 < ((((x_3 ++ ([(((s.getD x_1 default).toNat : Nat) : Int)] : List Int)).length) : Nat) : Int)))), (Value.int .i64 (14))].toArray 145) :: ((r64, Obj.cells [(Value.bool (decide (64 < ((((x_3 ++ ([(((s.getD x_1 default).toNat : Nat) : Int)] : List Int)).length) : Nat) : Int)))), (Value.int .i64 (14))].toArray 145) :: (Bx15 ++ ((r63, Obj.cells [(Value.int .u8 ((((s.getD x_1 default).toNat : Nat) : Int)))].toArray 5) :: ((r62, Obj.cells [(Value.bool (false)), (Value.int .i64 (13))].toArray 145) :: ((r61, Obj.cells [(Value.bool (false)), (Value.int .i64 (13))].toArray 145) :: ((l11, loopAt rr11 .busy none) :: ((x_4b, Obj.cells [(Value.pointer (some ⟨r3, 0, none⟩))].toArray 135) :: (x_2B ++ ((rD11, Obj.deferred (some [])) :: ((r10, Obj.cells [(Value.string (bs s))].toArray 9) :: ((r8, Obj.cells [(Value.bool ((!(wIsPlain s)))), (Value.int .i64 (11))].toArray 145) :: ((r6, Obj.cells [(Value.bool (decide (300 < ((s.length : Nat) : Int)))), (Value.int .i64 (10))].toArray 145) :: ((r5, Obj.cells [(Value.bool (decide (300 < ((s.length : Nat) : Int)))), (Value.int .i64 (10)), (Value.bool ((!(wIsPlain s)))), (Value.int .i64 (11))].toArray 145) :: ((r4, Obj.cells [(stV x_4 r3 x_4b)].toArray 142) :: ((r2, Obj.cells [Value.nilIface].toArray 57) :: ((r1, Obj.cells [(Value.slice (none) (0) (0))].toArray 60) :: []))))))))))))))))))) (by simp only [List.append_nil, List.append_assoc, List.cons_append, List.nil_append]) ?_
        refine JL_nil ?_
        refine JX_seq ?_
        refine J_ret ?_
        refine JX_retI Tryz.results152 (Res.tmp rfl (Res.tmp rfl Res.nil)) ?_
        refine JL_q (q_move) (k := ?_)
        refine JL_q (q_ext) (k := ?_)
        refine JL_q (q_ext) (k := ?_)
        refine JL_q (q_assign) (k := ?_)
        refine JL_q (q_assign) (k := ?_)
        refine JL_nil ?_
        refine JX_seq ?_
        refine J_seq ?_
        refine J_seq ?_
        refine J_reg ?_
        refine JL_q (q_move) (k := ?_)
        refine JL_q (q_neS (u := Value.nilIface) (v := Value.nilIface) (b := false) (fun w => by kernel_rfl)) (k := ?_)
        refine JL_nil ?_
        refine JX_seq ?_
        refine J_false rfl ?_
        refine J_skip ?_
        refine JX_seq ?_
        refine J_reg ?_
        refine JL_q (q_move) (k := ?_)
        refine JL_s (w_store (l' := [_]) Tryz.sizeOf142) (k := ?_)
        refine JL_nil ?_
        refine JX_block ?_
        refine JX_roundI (qa (qa (qa (qc (qa (qa (qa q0))))))) ?_
        refine JL_q (q_not) (k := ?_)
        refine JL_nil ?_
        refine JX_seq ?_
        refine J_false rfl ?_
        refine J_skip ?_
        refine JX_block ?_
        refine JX_seq ?_
        refine J_reg ?_
        refine JL_q (q_add) (k := ?_)
        refine JL_q (q_move) (k := ?_)
        refine JL_nil ?_
        refine JX_permL _ ((((((((((((qa (qa (qa (qa (qc (qa (qa (qa (qa (qc (qa (qa (qa (qa (qa (qa (qa q0))))))))))))))))).trans (qa (qa (qa (qa (qa (qc (qa (qa (qa (qa (qc (qa (qa (qa (qa (qa (qa q0)))))))))))))))))).trans (qa (qa (qa q0)))).trans (qa (qa (qa (qa (qa (qa (qc (qa (qa (qa (qa (qc (qa (qa (qa (qa (qa q0)))))))))))))))))).trans (qa (qa (qa (qa (qa (qa (qa (qc (qa (qa (qa (qa (qc (qa (qa (qa (qa q0)))))))))))))))))).trans (qa (qa (qa (qa (qa (qa (qa (qa (qc (qa (qa (qa (qa (qc (qa (qa (qa q0)))))))))))))))))).trans (qa (qa (qa (qa (qa (qa (qa (qa (qa (qc (qa (qa (qa (qa (qc (qa (qa q0)))))))))))))))))).trans (qa (qa (qa (qa (qa (qa (qa (qa (qa (qa (qc (qa (qa (qa (qa (qc (qa q0)))))))))))))))))).trans (qa (qa (qa (qa (qa (qa (qa (qa (qa (qa (qa (qc (qa (qa (qa (qa (qc q0)))))))))))))))))).trans (qa (qa (qa (qa (qa (qa (qa (qa (qa q0)))))))))).trans (qb (qb (qb (qb (qb (qb (qb (qb (qb (qb (qb (qb (qd (qb (qb (qb (qb q0)))))))))))))))))).trans (qd (qb (qb (qb (qb (qb (qb (qb (qb (qb (qb (qb (qb q0)))))))))))))) ?_
        refine JX_subL _ (List.Sublist.append (List.Sublist.refl _) (List.Sublist.append (List.Sublist.refl _) (List.Sublist.cons_cons _ (List.Sublist.cons_cons _ (List.Sublist.cons_cons _ (List.Sublist.cons_cons _ (List.Sublist.cons_cons _ (List.Sublist.cons_cons _ (List.Sublist.cons_cons _ (List.Sublist.cons_cons _ (List.Sublist.cons_cons _ (List.Sublist.cons_cons _ (List.nil_sublist _))))))))))))) ?_
        exact JX_inv12 n_5 (x_1 + 1) x_2 x_2a x_2c x_2B (x_3 ++ ([(((s.getD x_1 default).toNat : Nat) : Int)] : List Int)) ax15 cx15 Bx15 2 0 ⟨by omega, ((((((((hF6.pos hq3).neg hq4).neg hq10).neg hq18).neg hq23).neg hq27).neg hq30).neg hq33), hx_2, hox15, (by omega), (by first | exact lb), (by first | exact lb)⟩ (Nat.lt_succ_self _) se (List.Perm.refl _)
      refine J_seq ?_
      refine J_reg ?_
      refine JL_q (q_fld FO_145_1) (k := ?_)
      refine JL_q (q_load Tryz.isAgg30) (k := ?_)
      refine JL_q (q_build (cs := [_]) Tryz.zeroValue152 PL_152) (k := ?_)
      refine JL_q (q_mkI Tryz.underlying152) (k := ?_)
      refine JL_q (q_assign) (k := ?_)
      refine JL_nil ?_
      refine JX_seq ?_
      refine J_ret ?_
      refine JX_block_ret ?_
      refine JX_seq_ret ?_
      refine JX_inv_ret ?_
      refine JX_block_ret ?_
      refine JX_seq_ret ?_
      refine JX_retI Tryz.results95 (Res.tmp rfl Res.nil) ?_
      refine JL_q (q_assign) (k := ?_)
      refine JL_nil ?_
      refine JX_seq ?_
      refine J_ret ?_
      refine JX_retID ((r65, Obj.cells [(Value.bool (decide (64 < ((((x_3 ++ ([(((s.getD x_1 default).toNat : Nat) : Int)] : List Int)).length) : Nat) : Int)))), (Value.int .i64 (14))].toArray 145) :: ((r64, Obj.cells [(Value.bool (decide (64 < ((((x_3 ++ ([(((s.getD x_1 default).toNat : Nat) : Int)] : List Int)).length) : Nat) : Int)))), (Value.int .i64 (14))].toArray 145) :: (Bx15 ++ ((r63, Obj.cells [(Value.int .u8 ((((s.getD x_1 default).toNat : Nat) : Int)))].toArray 5) :: ((r62, Obj.cells [(Value.bool (false)), (Value.int .i64 (13))].toArray 145) :: ((r61, Obj.cells [(Value.bool (false)), (Value.int .i64 (13))].toArray 145) :: ((l11, loopAt rr11 .busy none) :: ((x_4b, Obj.cells [(Value.pointer (some ⟨r3, 0, none⟩))].toArray 135) :: (x_2B ++ ((rD11, Obj.deferred (some [])) :: ((r10, Obj.cells [(Value.string (bs s))].toArray 9) :: ((r8, Obj.cells [(Value.bool ((!(wIsPlain s)))), (Value.int .i64 (11))].toArray 145) :: ((r6, Obj.cells [(Value.bool (decide (300 < ((s.length : Nat) : Int)))), (Value.int .i64 (10))].toArray 145) :: ((r5, Obj.cells [(Value.bool (decide (300 < ((s.length : Nat) : Int)))), (Value.int .i64 (10)), (Value.bool ((!(wIsPlain s)))), (Value.int .i64 (11))].toArray 145) :: ((r4, Obj.cells [(stV x_4 r3 x_4b)].toArray 142) :: ((r2, Obj.cells [Value.nilIface].toArray 57) :: ((r1, Obj.cells [(Value.slice (none) (0) (0))].toArray 60) :: []))))))))))))))))) ((r3, Obj.cells [(Value.slice (x_2a) (x_2.length) (x_2c)), (Value.slice (ax15) ((x_3 ++ ([(((s.getD x_1 default).toNat : Nat) : Int)] : List Int)).length) (cx15))].toArray 140) :: []) Tryz.results136 (Res.tmp rfl Res.nil) (List.Perm.trans ((((((((((((((((((qa (qa (qc (qa (qa (qa (qa (qa (qa (qc (qa (qa (qa (qa (qa (qa (qa q0))))))))))))))))).trans (qa (qa (qa (qc (qa (qa (qa (qa (qa (qa (qc (qa (qa (qa (qa (qa (qa q0)))))))))))))))))).trans (qa (qa (qa (qa (qc (qa (qa (qa (qa (qa (qa (qc (qa (qa (qa (qa (qa q0)))))))))))))))))).trans (qa (qa (qa (qa (qa (qc (qa (qa (qa (qa (qa (qa (qc (qa (qa (qa (qa q0)))))))))))))))))).trans (qa (qa (qa (qa (qa (qa (qc (qa (qa (qa (qa (qa (qa (qc (qa (qa (qa q0)))))))))))))))))).trans (qa (qa (qa (qa (qa (qa (qa (qc (qa (qa (qa (qa (qa (qa (qc (qa (qa q0)))))))))))))))))).trans (qa (qa (qa (qa (qa (qa (qa (qa (qc (qa (qa (qa (qa (qa (qa (qc (qa q0)))))))))))))))))).trans (qa (qa (qa (qa (qa (qa (qa (qa (qa (qc (qa (qa (qa (qa (qa (qa (qc q0)))))))))))))))))).trans (qb (qb (qb (qb (qb (qb (qb (qb (qb (qb (qd (qb (qb (qb (qb (qb (qb q0)))))))))))))))))).trans (qc (qa (qa (qa (qa (qa (qa (qa (qa (qa (qa (qc (qa (qa (qa (qa (qa q0)))))))))))))))))).trans (qa (qc (qa (qa (qa (qa (qa (qa (qa (qa (qa (qa (qc (qa (qa (qa (qa q0)))))))))))))))))).trans (qa (qa (qc (qa (qa (qa (qa (qa (qa (qa (qa (qa (qa (qc (qa (qa (qa q0)))))))))))))))))).trans (qa (qa (qa (qc (qa (qa (qa (qa (qa (qa (qa (qa (qa (qa (qc (qa (qa q0)))))))))))))))))).trans (qa (qa (qa (qa (qc (qa (qa (qa (qa (qa (qa (qa (qa (qa (qa (qc q0))))))))))))))))).trans (qb (qb (qb (qb (qb (qd (qb (qb (qb (qb (qb (qb (qb (qb (qb (qb q0))))))))))))))))).trans (qc (qa (qa (qa (qa (qa (qc (qa (qa (qa (qa (qa (qa (qa (qa (qa q0))))))))))))))))).trans (qa (qc (qa (qa (qa (qa (qa (qc (qa (qa (qa (qa (qa (qa (qa (qa q0))))))))))))))))).trans (qa (qa (qc (qa (qa (qa (qa (qa (qc (qa (qa (qa (qa (qa (qa (qa (qa q0)))))))))))))))))) (List.Perm.of_eq (by first | rfl | (simp only [List.cons_append, List.nil_append, List.append_assoc, List.append_nil]; done) | (simp only [List.cons_append, List.nil_append, List.append_assoc, List.append_nil]; rfl)))) (List.Sublist.cons _ (List.Sublist.cons _ (List.Sublist.trans (List.Sublist.cons _ (List.Sublist.refl _)) (List.sublist_append_right _ _)))) ?_
      refine JD_q (q_assign) (k := ?_)
      refine JD_q (q_assign) (k := ?_)
      refine JD_nil ?_
      refine JL_eqL (L' := ((r3, Obj.cells [(Value.slice (x_2a) (x_2.length) (x_2c)), (Value.slice (ax15) ((x_3 ++ ([(((s.getD x_1 default).toNat : Nat) : Int)] : List Int)).length) (cx15))].toArray 140) :: ((r65, Obj.cells [(Value.bool (decide (64 < ((((x_3 ++ ([(((s.getD x_1 default).toNat : Nat) : Int)] : List Int)).length) : Nat) : Int)))), (Value.int .i64 (14))].toArray 145) :: ((r64, Obj.cells [(Value.bool (decide (64 < ((((x_3 ++ ([(((s.getD x_1 default).toNat : Nat) : Int)] : List Int)).length) : Nat) : Int)))), (Value.int .i64 (14))].toArray 145) :: (Bx15 ++ ((r63, Obj.cells [(Value.int .u8 ((((s.getD x_1 default).toNat : Nat) : Int)))].toArray 5) :: ((r62, Obj.cells [(Value.bool (false)), (Value.int .i64 (13))].toArray 145) :: ((r61, Obj.cells [(Value.bool (false)), (Value.int .i64 (13))].toArray 145) :: ((l11, loopAt rr11 .busy none) :: ((x_4b, Obj.cells [(Value.pointer (some ⟨r3, 0, none⟩))].toArray 135) :: (x_2B ++ ((rD11, Obj.deferred (some [])) :: ((r10, Obj.cells [(Value.string (bs s))].toArray 9) :: ((r8, Obj.cells [(Value.bool ((!(wIsPlain s)))), (Value.int .i64 (11))].toArray 145) :: ((r6, Obj.cells [(Value.bool (decide (300 < ((s.length : Nat) : Int)))), (Value.int .i64 (10))].toArray 145) :: ((r5, Obj.cells [(Value.bool (decide (300 < ((s.length : Nat) : Int)))), (Value.int .i64 (10)), (Value.bool ((!(wIsPlain s)))), (Value.int .i64 (11))].toArray 145) :: ((r4, Obj.cells [(stV x_4 r3 x_4b)].toArray 142) :: ((r2, Obj.cells [Value.nilIface].toArray 57) :: ((r1, Obj.cells [(Value.slice (none) (0) (0))].toArray 60) :: []))))))))))))))))))) (by simp only [List.append_nil, List.append_assoc, List.cons_append, List.nil_append]) ?_
      refine JL_nil ?_
      refine JX_seq ?_
      refine J_ret ?_
      refine JX_retI Tryz.results152 (Res.tmp rfl (Res.tmp rfl Res.nil)) ?_
      refine JL_q (q_move) (k := ?_)
      refine JL_q (q_ext) (k := ?_)
      refine JL_q (q_ext) (k := ?_)
      refine JL_q (q_assign) (k := ?_)
      refine JL_q (q_assign) (k := ?_)
      refine JL_nil ?_
      refine JX_seq ?_
      refine J_seq ?_
      refine J_seq ?_
      refine J_reg ?_
      refine JL_q (q_move) (k := ?_)
      refine JL_q (q_neS (u := (Value.iface 152 (Value.agg [(Value.int .i64 (14))].toArray))) (v := Value.nilIface) (b := true) (fun w => by kernel_rfl)) (k := ?_)
      refine JL_nil ?_
      refine JX_seq ?_
      refine J_true rfl ?_
      refine J_seq ?_
      refine J_reg ?_
      refine JL_q (q_move) (k := ?_)
      refine JL_s (w_store (l' := [_]) Tryz.sizeOf60) (k := ?_)
      refine JL_s (w_store (l' := [_]) Tryz.sizeOf57) (k := ?_)
      refine JL_nil ?_
      refine JX_seq ?_
      refine J_ret ?_
      refine JX_seq_ret ?_
      refine JX_block_ret ?_
      refine JX_roundI_ret (qa (qa (qa (qc (qa (qa (qa q0))))))) ?_
      refine JL_q (q_not) (k := ?_)
      refine JL_nil ?_
      refine JX_seq ?_
      refine J_true rfl ?_
      refine J_exit ?_
      refine JX_block_miss rfl ?_
      refine JX_seq_exit ?_
      refine JX_inv_exit ?_
      refine JX_block_hit ?_
      refine JX_scope ?_
      refine JX_it1 (.inr rfl) Tryz.results119 q0 ?_
      refine J_ret ?_
      refine JX_block_ret ?_
      refine JX_seq_ret ?_
      refine JX_retIM [rD11] (qa (qa (qa (qa (qc (qa (qa (qa (qa (qc q0)))))))))) Tryz.results59 (Res.word Tryz.isAgg60 rfl me rfl (Res.word Tryz.isAgg57 rfl me rfl Res.nil)) ?_
      refine JL_q (q_move) (k := ?_)
      refine JL_q (q_ext) (k := ?_)
      refine JL_q (q_ext) (k := ?_)
      refine JL_q (q_assign) (k := ?_)
      refine JL_q (q_assign) (k := ?_)
      refine JL_nil ?_
      refine JX_seq ?_
      refine J_seq ?_
      refine J_reg ?_
      refine JL_q (q_move) (k := ?_)
      refine JL_q (q_move) (k := ?_)
      refine JL_inl (args := [(Value.iface 152 (Value.agg [(Value.int .i64 (14))].toArray))]) (c_callA Tryz.call60) Tryz.func60 Tryz.ntmps60 ?_
      refine J_seq ?_
      refine J_reg ?_
      refine JL_q (q_assign) (k := ?_)
      refine JL_nil ?_
      refine JX_seq ?_
      refine J_seq ?_
      refine J_reg ?_
      refine JL_a noMk (a_alloc (l := [_]) Tryz.zeroValue152) (k := fun r66 hr66 => ?_)
      refine JL_nil ?_
      refine JX_seq ?_
      refine J_seq ?_
      refine J_seq ?_
      refine J_reg ?_
      refine JL_q (q_move) (k := ?_)
      refine JL_q (q_mkI Tryz.underlying154) (k := ?_)
      refine JL_p (args := [(Value.iface 152 (Value.agg [(Value.int .i64 (14))].toArray)), (Value.iface 154 (Value.pointer (some ⟨r66, 0, none⟩)))]) (c_callA Tryz.call98) (fun w1 hw1 => as_hit_t w1 (hG.ext hw1.ext_out).ety (hw1.own _ me)) (k := ?_)
      rintro w1_16 e1_16 w2_16 hw1_16 ⟨he_16, hT_16⟩
      refine ⟨_, ((r66, Obj.cells [(Value.int .i64 (14))].toArray 152) :: ((l11, loopAt rr11 .exhausted (some .ret)) :: ((r3, Obj.cells [(Value.slice (x_2a) (x_2.length) (x_2c)), (Value.slice (ax15) ((x_3 ++ ([(((s.getD x_1 default).toNat : Nat) : Int)] : List Int)).length) (cx15))].toArray 140) :: ((r65, Obj.cells [(Value.bool (decide (64 < ((((x_3 ++ ([(((s.getD x_1 default).toNat : Nat) : Int)] : List Int)).length) : Nat) : Int)))), (Value.int .i64 (14))].toArray 145) :: ((r64, Obj.cells [(Value.bool (decide (64 < ((((x_3 ++ ([(((s.getD x_1 default).toNat : Nat) : Int)] : List Int)).length) : Nat) : Int)))), (Value.int .i64 (14))].toArray 145) :: (Bx15 ++ ((r63, Obj.cells [(Value.int .u8 ((((s.getD x_1 default).toNat : Nat) : Int)))].toArray 5) :: ((r62, Obj.cells [(Value.bool (false)), (Value.int .i64 (13))].toArray 145) :: ((r61, Obj.cells [(Value.bool (false)), (Value.int .i64 (13))].toArray 145) :: ((x_4b, Obj.cells [(Value.pointer (some ⟨r3, 0, none⟩))].toArray 135) :: (x_2B ++ ((r10, Obj.cells [(Value.string (bs s))].toArray 9) :: ((r8, Obj.cells [(Value.bool ((!(wIsPlain s)))), (Value.int .i64 (11))].toArray 145) :: ((r6, Obj.cells [(Value.bool (decide (300 < ((s.length : Nat) : Int)))), (Value.int .i64 (10))].toArray 145) :: ((r5, Obj.cells [(Value.bool (decide (300 < ((s.length : Nat) : Int)))), (Value.int .i64 (10)), (Value.bool ((!(wIsPlain s)))), (Value.int .i64 (11))].toArray 145) :: ((r4, Obj.cells [(stV x_4 r3 x_4b)].toArray 142) :: ((r2, Obj.cells [(Value.iface 152 (Value.agg [(Value.int .i64 (14))].toArray))].toArray 57) :: ((r1, Obj.cells [(Value.slice (none) (0) (0))].toArray 60) :: [])))))))))))))))))), he_16, (hw1_16.perm q0).tr hT_16, ?_⟩
      refine JL_nil ?_
      refine JX_seq ?_
      refine J_true rfl ?_
      refine J_seq ?_
      refine J_reg ?_
      refine JL_q (q_fld FO_152_0) (k := ?_)
      refine JL_q (q_load Tryz.isAgg30) (k := ?_)
      refine JL_q (q_assign) (k := ?_)
      refine JL_nil ?_
      refine JX_seq ?_
      refine J_ret ?_
      refine JX_seq_ret ?_
      refine JX_retI Tryz.results60 (Res.tmp rfl Res.nil) ?_
      refine JL_q (q_assign) (k := ?_)
      refine JL_q (q_assign) (k := ?_)
      refine JL_nil ?_
      refine JX_seq ?_
      refine J_ret ?_
      refine JX_ret Tryz.results33 (Res.tmp rfl (Res.tmp rfl Res.nil)) (fun w1 hw1 => ?_)
      exact ⟨none, 0, [], (by rw [((((hF.neg hq1).f hq2).er4 ((((((((hF6.pos hq3).neg hq4).neg hq10).neg hq18).neg hq23).neg hq27).neg hq30).pos hq33))).eq] <;> first | rfl | (simp only [List.length_set] <;> rfl)), (hw1.fresh_out.sub (List.nil_sublist _)), (by rw [((((hF.neg hq1).f hq2).er4 ((((((((hF6.pos hq3).neg hq4).neg hq10).neg hq18).neg hq23).neg hq27).neg hq30).pos hq33))).eq]; exact OwnB.nil)⟩
    refine JL_qg (q_move) (k := ?_)
    refine JL_qg (q_neq) (k := ?_)
    refine JL_qg (q_pickT) (k := ?_)
    refine JL_q (q_pickF) (k := ?_)
    refine JL_q (q_build (cs := [_, _]) Tryz.zeroValue145 PL_145) (k := ?_)
    refine JL_a noMk (a_bslice (l := [_, _]) Tryz.runUnderlying193 Tryz.sizeOf145 Tryz.zeroValue145) (k := fun r54 hr54 => ?_)
    refine JL_inl (args := [(Value.slice (some ⟨r54, 0, none⟩) (1) (1))]) (c_callA Tryz.call95) Tryz.func95 Tryz.ntmps95 ?_
    refine J_seq ?_
    refine J_reg ?_
    refine JL_q (q_assign) (k := ?_)
    refine JL_nil ?_
    refine JX_seq ?_
    refine J_seq ?_
    refine J_seq ?_
    refine J_reg ?_
    refine JL_q (q_move) (k := ?_)
    refine JL_q (q_lenS Tryz.runUnderlying193) (k := ?_)
    refine JL_q (q_move) (k := ?_)
    refine JL_nil ?_
    refine JX_seq ?_
    refine J_block ?_
    refine J_unroll ?_
    refine J_seq ?_
    refine J_reg ?_
    refine JL_q (q_lss) (k := ?_)
    refine JL_nil ?_
    refine JX_seq ?_
    refine J_seq ?_
    refine J_true rfl ?_
    refine J_skip ?_
    refine JX_seq ?_
    refine J_seq ?_
    refine J_block ?_
    refine J_seq ?_
    refine J_reg ?_
    refine JL_q (q_idxO Tryz.runUnderlying193 Tryz.sizeOf145 0) (k := ?_)
    refine JL_q (q_loadA Tryz.isAgg145 Tryz.sizeOf145) (k := ?_)
    refine JL_a noMk (a_alloc (l := [_, _]) Tryz.zeroValue145) (k := fun r55 hr55 => ?_)
    refine JL_s (w_store (l' := [_, _]) Tryz.sizeOf145) (k := ?_)
    refine JL_nil ?_
    refine JX_seq ?_
    refine J_seq ?_
    refine J_reg ?_
    refine JL_q (q_fld FO_145_0) (k := ?_)
    refine JL_q (q_load Tryz.isAgg4) (k := ?_)
    refine JL_nil ?_
    refine JX_seq ?_
    refine J_dec rfl (fun hq31 => ?_) (fun hq31 => ?_)
    · refine J_seq ?_
      refine J_reg ?_
      refine JL_q (q_fld FO_145_1) (k := ?_)
      refine JL_q (q_load Tryz.isAgg30) (k := ?_)
      refine JL_q (q_build (cs := [_]) Tryz.zeroValue152 PL_152) (k := ?_)
      refine JL_q (q_mkI Tryz.underlying152) (k := ?_)
      refine JL_q (q_assign) (k := ?_)
      refine JL_nil ?_
      refine JX_seq ?_
      refine J_ret ?_
      refine JX_block_ret ?_
      refine JX_seq_ret ?_
      refine JX_inv_ret ?_
      refine JX_block_ret ?_
      refine JX_seq_ret ?_
      refine JX_retI Tryz.results95 (Res.tmp rfl Res.nil) ?_
      refine JL_q (q_assign) (k := ?_)
      refine JL_nil ?_
      refine JX_seq ?_
      refine J_seq ?_
      refine J_reg ?_
      refine JL_q (q_move) (k := ?_)
      refine JL_q (q_neS (u := (Value.iface 152 (Value.agg [(Value.int .i64 (13))].toArray))) (v := Value.nilIface) (b := true) (fun w => by kernel_rfl)) (k := ?_)
      refine JL_nil ?_
      refine JX_seq ?_
      refine J_true rfl ?_
      refine J_seq ?_
      refine J_reg ?_
      refine JL_q (q_move) (k := ?_)
      refine JL_q (q_assign) (k := ?_)
      refine JL_q (q_assign) (k := ?_)
      refine JL_nil ?_
      refine JX_seq ?_
      refine J_ret ?_
      refine JX_seq_ret ?_
      refine JX_retI Tryz.results152 (Res.tmp rfl (Res.tmp rfl Res.nil)) ?_
      refine JL_q (q_move) (k := ?_)
      refine JL_q (q_ext) (k := ?_)
      refine JL_q (q_ext) (k := ?_)
      refine JL_q (q_assign) (k := ?_)
      refine JL_q (q_assign) (k := ?_)
      refine JL_nil ?_
      refine JX_seq ?_
      refine J_seq ?_
      refine J_seq ?_
      refine J_reg ?_
      refine JL_q (q_move) (k := ?_)
      refine JL_q (q_neS (u := (Value.iface 152 (Value.agg [(Value.int .i64 (13))].toArray))) (v := Value.nilIface) (b := true) (fun w => by kernel_rfl)) (k := ?_)
      refine JL_nil ?_
      refine JX_seq ?_
      refine J_true rfl ?_
      refine J_seq ?_
      refine J_reg ?_
      refine JL_q (q_move) (k := ?_)
      refine JL_s (w_store (l' := [_]) Tryz.sizeOf60) (k := ?_)
      refine JL_s (w_store (l' := [_]) Tryz.sizeOf57) (k := ?_)
      refine JL_nil ?_
      refine JX_seq ?_
      refine J_ret ?_
      refine JX_seq_ret ?_
      refine JX_block_ret ?_
      refine JX_roundI_ret (qa (qa q0)) ?_
      refine JL_q (q_not) (k := ?_)
      refine JL_nil ?_
      refine JX_seq ?_
      refine J_true rfl ?_
      refine J_exit ?_
      refine JX_block_miss rfl ?_
      refine JX_seq_exit ?_
      refine JX_inv_exit ?_
      refine JX_block_hit ?_
      refine JX_scope ?_
      refine JX_it1 (.inr rfl) Tryz.results119 q0 ?_
      refine J_ret ?_
      refine JX_block_ret ?_
      refine JX_seq_ret ?_
      refine JX_retIM [rD11] (qa (qa (qa (qa (qc (qc q0)))))) Tryz.results59 (Res.word Tryz.isAgg60 rfl me rfl (Res.word Tryz.isAgg57 rfl me rfl Res.nil)) ?_
      refine JL_q (q_move) (k := ?_)
      refine JL_q (q_ext) (k := ?_)
      refine JL_q (q_ext) (k := ?_)
      refine JL_q (q_assign) (k := ?_)
      refine JL_q (q_assign) (k := ?_)
      refine JL_nil ?_
      refine JX_seq ?_
      refine J_seq ?_
      refine J_reg ?_
      refine JL_q (q_move) (k := ?_)
      refine JL_q (q_move) (k := ?_)
      refine JL_inl (args := [(Value.iface 152 (Value.agg [(Value.int .i64 (13))].toArray))]) (c_callA Tryz.call60) Tryz.func60 Tryz.ntmps60 ?_
      refine J_seq ?_
      refine J_reg ?_
      refine JL_q (q_assign) (k := ?_)
      refine JL_nil ?_
      refine JX_seq ?_
      refine J_seq ?_
      refine J_reg ?_
      refine JL_a noMk (a_alloc (l := [_]) Tryz.zeroValue152) (k := fun r56 hr56 => ?_)
      refine JL_nil ?_
      refine JX_seq ?_
      refine J_seq ?_
      refine J_seq ?_
      refine J_reg ?_
      refine JL_q (q_move) (k := ?_)
      refine JL_q (q_mkI Tryz.underlying154) (k := ?_)
      refine JL_p (args := [(Value.iface 152 (Value.agg [(Value.int .i64 (13))].toArray)), (Value.iface 154 (Value.pointer (some ⟨r56, 0, none⟩)))]) (c_callA Tryz.call98) (fun w1 hw1 => as_hit_t w1 (hG.ext hw1.ext_out).ety (hw1.own _ me)) (k := ?_)
      rintro w1_14 e1_14 w2_14 hw1_14 ⟨he_14, hT_14⟩
      refine ⟨_, ((r56, Obj.cells [(Value.int .i64 (13))].toArray 152) :: ((l11, loopAt rr11 .exhausted (some .ret)) :: ((r55, Obj.cells [(Value.bool (decide ((((s.getD x_1 default).toNat : Nat) : Int) ≠ 92))), (Value.int .i64 (13))].toArray 145) :: ((r54, Obj.cells [(Value.bool (decide ((((s.getD x_1 default).toNat : Nat) : Int) ≠ 92))), (Value.int .i64 (13))].toArray 145) :: ((x_4b, Obj.cells [(Value.pointer (some ⟨r3, 0, none⟩))].toArray 135) :: (x_3B ++ (x_2B ++ ((r10, Obj.cells [(Value.string (bs s))].toArray 9) :: ((r8, Obj.cells [(Value.bool ((!(wIsPlain s)))), (Value.int .i64 (11))].toArray 145) :: ((r6, Obj.cells [(Value.bool (decide (300 < ((s.length : Nat) : Int)))), (Value.int .i64 (10))].toArray 145) :: ((r5, Obj.cells [(Value.bool (decide (300 < ((s.length : Nat) : Int)))), (Value.int .i64 (10)), (Value.bool ((!(wIsPlain s)))), (Value.int .i64 (11))].toArray 145) :: ((r4, Obj.cells [(stV x_4 r3 x_4b)].toArray 142) :: ((r3, Obj.cells [(Value.slice (x_2a) (x_2.length) (x_2c)), (Value.slice (x_3a) (x_3.length) (x_3c))].toArray 140) :: ((r2, Obj.cells [(Value.iface 152 (Value.agg [(Value.int .i64 (13))].toArray))].toArray 57) :: ((r1, Obj.cells [(Value.slice (none) (0) (0))].toArray 60) :: []))))))))))))))), he_14, (hw1_14.perm q0).tr hT_14, ?_⟩
      refine JL_nil ?_
      refine JX_seq ?_
      refine J_true rfl ?_
      refine J_seq ?_
      refine J_reg ?_
      refine JL_q (q_fld FO_152_0) (k := ?_)
      refine JL_q (q_load Tryz.isAgg30) (k := ?_)
      refine JL_q (q_assign) (k := ?_)
      refine JL_nil ?_
      refine JX_seq ?_
      refine J_ret ?_
      refine JX_seq_ret ?_
      refine JX_retI Tryz.results60 (Res.tmp rfl Res.nil) ?_
      refine JL_q (q_assign) (k := ?_)
      refine JL_q (q_assign) (k := ?_)
      refine JL_nil ?_
      refine JX_seq ?_
      refine J_ret ?_
      refine JX_ret Tryz.results33 (Res.tmp rfl (Res.tmp rfl Res.nil)) (fun w1 hw1 => ?_)
      exact ⟨none, 0, [], (by rw [((((hF.neg hq1).f hq2).er4 ((((((((hF6.pos hq3).neg hq4).neg hq10).neg hq18).neg hq23).neg hq27).pos hq30).pos hq31))).eq] <;> first | rfl | (simp only [List.length_set] <;> rfl)), (hw1.fresh_out.sub (List.nil_sublist _)), (by rw [((((hF.neg hq1).f hq2).er4 ((((((((hF6.pos hq3).neg hq4).neg hq10).neg hq18).neg hq23).neg hq27).pos hq30).pos hq31))).eq]; exact OwnB.nil)⟩
    refine J_skip ?_
    refine JX_block ?_
    refine JX_seq ?_
    refine J_reg ?_
    refine JL_q (q_add) (k := ?_)
    refine JL_q (q_move) (k := ?_)
    refine JL_nil ?_
    refine JX_again ?_
    refine J_seq ?_
    refine J_reg ?_
    refine JL_q (q_lss) (k := ?_)
    refine JL_nil ?_
    refine JX_seq ?_
    refine J_seq ?_
    refine J_false rfl ?_
    refine J_exit ?_
    refine JX_seq_exit ?_
    refine JX_inv_exit ?_
    refine JX_block_hit ?_
    refine JX_seq ?_
    refine J_seq ?_
    refine J_reg ?_
    refine JL_q (q_assign) (k := ?_)
    refine JL_nil ?_
    refine JX_seq ?_
    refine J_ret ?_
    refine JX_retI Tryz.results95 (Res.tmp rfl Res.nil) ?_
    refine JL_q (q_assign) (k := ?_)
    refine JL_nil ?_
    refine JX_seq ?_
    refine J_seq ?_
    refine J_reg ?_
    refine JL_q (q_move) (k := ?_)
    refine JL_q (q_neS (u := Value.nilIface) (v := Value.nilIface) (b := false) (fun w => by kernel_rfl)) (k := ?_)
    refine JL_nil ?_
    refine JX_seq ?_
    refine J_false rfl ?_
    refine J_skip ?_
    refine JX_seq ?_
    refine J_seq ?_
    refine J_planV ((r55, Obj.cells [(Value.bool (decide ((((s.getD x_1 default).toNat : Nat) : Int) ≠ 92))), (Value.int .i64 (13))].toArray 145) :: ((r54, Obj.cells [(Value.bool (decide ((((s.getD x_1 default).toNat : Nat) : Int) ≠ 92))), (Value.int .i64 (13))].toArray 145) :: ((l11, loopAt rr11 .busy none) :: ((x_4b, Obj.cells [(Value.pointer (some ⟨r3, 0, none⟩))].toArray 135) :: (x_2B ++ ((rD11, Obj.deferred (some [])) :: ((r10, Obj.cells [(Value.string (bs s))].toArray 9) :: ((r8, Obj.cells [(Value.bool ((!(wIsPlain s)))), (Value.int .i64 (11))].toArray 145) :: ((r6, Obj.cells [(Value.bool (decide (300 < ((s.length : Nat) : Int)))), (Value.int .i64 (10))].toArray 145) :: ((r5, Obj.cells [(Value.bool (decide (300 < ((s.length : Nat) : Int)))), (Value.int .i64 (10)), (Value.bool ((!(wIsPlain s)))), (Value.int .i64 (11))].toArray 145) :: ((r4, Obj.cells [(stV x_4 r3 x_4b)].toArray 142) :: ((r2, Obj.cells [Value.nilIface].toArray 57) :: ((r1, Obj.cells [(Value.slice (none) (0) (0))].toArray 60) :: []))))))))))))) ((r3, Obj.cells [(Value.slice (x_2a) (x_2.length) (x_2c)), (Value.slice (x_3a) (x_3.length) (x_3c))].toArray 140) :: (x_3B ++ [])) (List.Perm.trans ((qb (qb (qb (qb q0)))).trans (qc (qa (qa (qa (qa (qc (qa (qa (qa (qa (qa (qa q0))))))))))))) (List.Perm.of_eq (by first | rfl | (simp only [List.cons_append, List.nil_append, List.append_assoc, List.append_nil]; done) | (simp only [List.cons_append, List.nil_append, List.append_assoc, List.append_nil]; rfl)))) mixed 9 [(true, 0), (true, 1), (true, 2), (true, 3), (true, 4), (true, 5), (false, 6), (true, 7), (true, 8)] (by kernel_rfl) ?_
    refine JD_q (q_load Tryz.isAgg135) (k := ?_)
    refine JD_q (q_func) (k := ?_)
    refine JD_q (q_load Tryz.isAgg135) (k := ?_)
    refine JD_q (q_nil) (k := ?_)
    refine JD_q (q_fld FO_140_0) (k := ?_)
    refine JD_q (q_move) (k := ?_)
    refine JD_inl (args := [(Value.pointer (some ⟨r3, 0, none⟩)), (Value.int .u8 ((((s.getD x_1 default).toNat : Nat) : Int)))]) (c_callA Tryz.call136) Tryz.func136 Tryz.ntmps136 ?_
    refine J_permL ((r3, Obj.cells [(Value.slice (x_2a) (x_2.length) (x_2c)), (Value.slice (x_3a) (x_3.length) (x_3c))].toArray 140) :: (x_3B ++ ((r55, Obj.cells [(Value.bool (decide ((((s.getD x_1 default).toNat : Nat) : Int) ≠ 92))), (Value.int .i64 (13))].toArray 145) :: ((r54, Obj.cells [(Value.bool (decide ((((s.getD x_1 default).toNat : Nat) : Int) ≠ 92))), (Value.int .i64 (13))].toArray 145) :: ((l11, loopAt rr11 .busy none) :: ((x_4b, Obj.cells [(Value.pointer (some ⟨r3, 0, none⟩))].toArray 135) :: (x_2B ++ ((rD11, Obj.deferred (some [])) :: ((r10, Obj.cells [(Value.string (bs s))].toArray 9) :: ((r8, Obj.cells [(Value.bool ((!(wIsPlain s)))), (Value.int .i64 (11))].toArray 145) :: ((r6, Obj.cells [(Value.bool (decide (300 < ((s.length : Nat) : Int)))), (Value.int .i64 (10))].toArray 145) :: ((r5, Obj.cells [(Value.bool (decide (300 < ((s.length : Nat) : Int)))), (Value.int .i64 (10)), (Value.bool ((!(wIsPlain s)))), (Value.int .i64 (11))].toArray 145) :: ((r4, Obj.cells [(stV x_4 r3 x_4b)].toArray 142) :: ((r2, Obj.cells [Value.nilIface].toArray 57) :: ((r1, Obj.cells [(Value.slice (none) (0) (0))].toArray 60) :: []))))))))))))))) (List.Perm.of_eq (by simp only [List.append_assoc, List.cons_append, List.nil_append])) ?_
    refine J_seq ?_
    refine J_reg ?_
    refine JL_q (q_assign) (k := ?_)
    refine JL_nil ?_
    refine JX_seq ?_
    refine J_seq ?_
    refine J_reg ?_
    refine JL_q (q_move) (k := ?_)
    refine JL_q (q_move) (k := ?_)
    refine JL_q (q_nil) (k := ?_)
    refine JL_q (q_fld FO_138_1) (k := ?_)
    refine JL_q (q_load Tryz.isAgg136) (k := ?_)
    refine JL_q (q_move) (k := ?_)
    refine JL_a noMk (a_bslice (l := [_]) Tryz.runUnderlying136 Tryz.sizeOf5 Tryz.zeroValue5) (k := fun r57 hr57 => ?_)
    refine JL_append (x_3 ++ ([(((s.getD x_1 default).toNat : Nat) : Int)] : List Int)) rfl TY_5 Tryz.underlying136 eI_u8_ok hx_3 (qb (qb q0)) (SlJ.lit (xs := ([(((s.getD x_1 default).toNat : Nat) : Int)] : List Int)) eI_u8_ok) ⟨by omega, by omega⟩ (n := x_3.length) (m := 1) (k := fun ax13 cx13 Bx13 hox13 => ?_)
    have hal13 : (x_3 ++ ([(((s.getD x_1 default).toNat : Nat) : Int)] : List Int)).length = x_3.length + 1 := by first | rfl | exact List.length_append | simp
    refine JL_q (q_nil) (k := ?_)
    refine JL_q (q_fld FO_138_1) (k := ?_)
    refine JL_s (w_store (l' := [_, _]) Tryz.sizeOf136) (k := ?_)
    refine JL_nil ?_
    refine JX_seq ?_
    refine J_seq ?_
    refine J_reg ?_
    refine JL_q (q_move) (k := ?_)
    refine JL_q (q_nil) (k := ?_)
    refine JL_q (q_fld FO_138_1) (k := ?_)
    refine JL_q (q_load Tryz.isAgg136) (k := ?_)
    refine JL_q (q_lenS Tryz.runUnderlying136) (k := ?_)
    refine JL_q (q_gtr) (k := ?_)
    refine JL_q (q_build (cs := [_, _]) Tryz.zeroValue145 PL_145) (k := ?_)
    refine JL_a noMk (a_bslice (l := [_, _]) Tryz.runUnderlying193 Tryz.sizeOf145 Tryz.zeroValue145) (k := fun r58 hr58 => ?_)
    refine JL_inl (args := [(Value.slice (some ⟨r58, 0, none⟩) (1) (1))]) (c_callA Tryz.call95) Tryz.func95 Tryz.ntmps95 ?_
    refine J_seq ?_
    refine J_reg ?_
    refine JL_q (q_assign) (k := ?_)
    refine JL_nil ?_
    refine JX_seq ?_
    refine J_seq ?_
    refine J_seq ?_
    refine J_reg ?_
    refine JL_q (q_move) (k := ?_)
    refine JL_q (q_lenS Tryz.runUnderlying193) (k := ?_)
    refine JL_q (q_move) (k := ?_)
    refine JL_nil ?_
    refine JX_seq ?_
    refine J_block ?_
    refine J_unroll ?_
    refine J_seq ?_
    refine J_reg ?_
    refine JL_q (q_lss) (k := ?_)
    refine JL_nil ?_
    refine JX_seq ?_
    refine J_seq ?_
    refine J_true rfl ?_
    refine J_skip ?_
    refine JX_seq ?_
    refine J_seq ?_
    refine J_block ?_
    refine J_seq ?_
    refine J_reg ?_
    refine JL_q (q_idxO Tryz.runUnderlying193 Tryz.sizeOf145 0) (k := ?_)
    refine JL_q (q_loadA Tryz.isAgg145 Tryz.sizeOf145) (k := ?_)
    refine JL_a noMk (a_alloc (l := [_, _]) Tryz.zeroValue145) (k := fun r59 hr59 => ?_)
    refine JL_s (w_store (l' := [_, _]) Tryz.sizeOf145) (k := ?_)
    refine JL_nil ?_
    refine JX_seq ?_
    refine J_seq ?_
    refine J_reg ?_
    refine JL_q (q_fld FO_145_0) (k := ?_)
    refine JL_q (q_load Tryz.isAgg4) (k := ?_)
    refine JL_nil ?_
    refine JX_seq ?_
    refine J_dec rfl (fun hq32 => ?_) (fun hq32 => ?_)
    rotate_left
    · refine J_skip ?_
      refine JX_block ?_
      refine JX_seq ?_
      refine J_reg ?_
      refine JL_q (q_add) (k := ?_)
      refine JL_q (q_move) (k := ?_)
      refine JL_nil ?_
      refine JX_again ?_
      refine J_seq ?_
      refine J_reg ?_
      refine JL_q (q_lss) (k := ?_)
      refine JL_nil ?_
      refine JX_seq ?_
      refine J_seq ?_
      refine J_false rfl ?_
      refine J_exit ?_
      refine JX_seq_exit ?_
      refine JX_inv_exit ?_
      refine JX_block_hit ?_
      refine JX_seq ?_
      refine J_seq ?_
      refine J_reg ?_
      refine JL_q (q_assign) (k := ?_)
      refine JL_nil ?_
      refine JX_seq ?_
      refine J_ret ?_
      refine JX_retI Tryz.results95 (Res.tmp rfl Res.nil) ?_
      refine JL_q (q_assign) (k := ?_)
      refine JL_nil ?_
      refine JX_seq ?_
      refine J_ret ?_
      refine JX_retID ((r59, Obj.cells [(Value.bool (decide (64 < ((((x_3 ++ ([(((s.getD x_1 default).toNat : Nat) : Int)] : List Int)).length) : Nat) : Int)))), (Value.int .i64 (14))].toArray 145) :: ((r58, Obj.cells [(Value.bool (decide (64 < ((((x_3 ++ ([(((s.getD x_1 default).toNat : Nat) : Int)] : List Int)).length) : Nat) : Int)))), (Value.int .i64 (14))].toArray 145) :: (Bx13 ++ ((r57, Obj.cells [(Value.int .u8 ((((s.getD x_1 default).toNat : Nat) : Int)))].toArray 5) :: ((r55, Obj.cells [(Value.bool (decide ((((s.getD x_1 default).toNat : Nat) : Int) ≠ 92))), (Value.int .i64 (13))].toArray 145) :: ((r54, Obj.cells [(Value.bool (decide ((((s.getD x_1 default).toNat : Nat) : Int) ≠ 92))), (Value.int .i64 (13))].toArray 145) :: ((l11, loopAt rr11 .busy none) :: ((x_4b, Obj.cells [(Value.pointer (some ⟨r3, 0, none⟩))].toArray 135) :: (x_2B ++ ((rD11, Obj.deferred (some [])) :: ((r10, Obj.cells [(Value.string (bs s))].toArray 9) :: ((r8, Obj.cells [(Value.bool ((!(wIsPlain s)))), (Value.int .i64 (11))].toArray 145) :: ((r6, Obj.cells [(Value.bool (decide (300 < ((s.length : Nat) : Int)))), (Value.int .i64 (10))].toArray 145) :: ((r5, Obj.cells [(Value.bool (decide (300 < ((s.length : Nat) : Int)))), (Value.int .i64 (10)), (Value.bool ((!(wIsPlain s)))), (Value.int .i64 (11))].toArray 145) :: ((r4, Obj.cells [(stV x_4 r3 x_4b)].toArray 142) :: ((r2, Obj.cells [Value.nilIface].toArray 57) :: ((r1, Obj.cells [(Value.slice (none) (0) (0))].toArray 60) :: []))))))))))))))))) ((r3, Obj.cells [(Value.slice (x_2a) (x_2.length) (x_2c)), (Value.slice (ax13) ((x_3 ++ ([(((s.getD x_1 default).toNat : Nat) : Int)] : List Int)).length) (cx13))].toArray 140) :: []) Tryz.results136 (Res.tmp rfl Res.nil) (List.Perm.trans ((((((((((((((((((qa (qa (qc (qa (qa (qa (qa (qa (qa (qc (qa (qa (qa (qa (qa (qa (qa q0))))))))))))))))).trans (qa (qa (qa (qc (qa (qa (qa (qa (qa (qa (qc (qa (qa (qa (qa (qa (qa q0)))))))))))))))))).trans (qa (qa (qa (qa (qc (qa (qa (qa (qa (qa (qa (qc (qa (qa (qa (qa (qa q0)))))))))))))))))).trans (qa (qa (qa (qa (qa (qc (qa (qa (qa (qa (qa (qa (qc (qa (qa (qa (qa q0)))))))))))))))))).trans (qa (qa (qa (qa (qa (qa (qc (qa (qa (qa (qa (qa (qa (qc (qa (qa (qa q0)))))))))))))))))).trans (qa (qa (qa (qa (qa (qa (qa (qc (qa (qa (qa (qa (qa (qa (qc (qa (qa q0)))))))))))))))))).trans (qa (qa (qa (qa (qa (qa (qa (qa (qc (qa (qa (qa (qa (qa (qa (qc (qa q0)))))))))))))))))).trans (qa (qa (qa (qa (qa (qa (qa (qa (qa (qc (qa (qa (qa (qa (qa (qa (qc q0)))))))))))))))))).trans (qb (qb (qb (qb (qb (qb (qb (qb (qb (qb (qd (qb (qb (qb (qb (qb (qb q0)))))))))))))))))).trans (qc (qa (qa (qa (qa (qa (qa (qa (qa (qa (qa (qc (qa (qa (qa (qa (qa q0)))))))))))))))))).trans (qa (qc (qa (qa (qa (qa (qa (qa (qa (qa (qa (qa (qc (qa (qa (qa (qa q0)))))))))))))))))).trans (qa (qa (qc (qa (qa (qa (qa (qa (qa (qa (qa (qa (qa (qc (qa (qa (qa q0)))))))))))))))))).trans (qa (qa (qa (qc (qa (qa (qa (qa (qa (qa (qa (qa (qa (qa (qc (qa (qa q0)))))))))))))))))).trans (qa (qa (qa (qa (qc (qa (qa (qa (qa (qa (qa (qa (qa (qa (qa (qc q0))))))))))))))))).trans (qb (qb (qb (qb (qb (qd (qb (qb (qb (qb (qb (qb (qb (qb (qb (qb q0))))))))))))))))).trans (qc (qa (qa (qa (qa (qa (qc (qa (qa (qa (qa (qa (qa (qa (qa (qa q0))))))))))))))))).trans (qa (qc (qa (qa (qa (qa (qa (qc (qa (qa (qa (qa (qa (qa (qa (qa q0))))))))))))))))).trans (qa (qa (qc (qa (qa (qa (qa (qa (qc (qa (qa (qa (qa (qa (qa (qa (qa q0)))))))))))))))))) (List.Perm.of_eq (by first | rfl | (simp only [List.cons_append, List.nil_append, List.append_assoc, List.append_nil]; done) | (simp only [List.cons_append, List.nil_append, List.append_assoc, List.append_nil]; rfl)))) (List.Sublist.cons _ (List.Sublist.cons _ (List.Sublist.trans (List.Sublist.cons _ (List.Sublist.refl _)) (List.sublist_append_right _ _)))) ?_
      refine JD_q (q_assign) (k := ?_)
      refine JD_q (q_assign) (k := ?_)
      refine JD_nil ?_
      refine JL_eqL (L' := ((r3, Obj.cells [(Value.slice (x_2a) (x_2.length) (x_2c)), (Value.slice (ax13) ((x_3 ++ ([(((s.getD x_1 default).toNat : Nat) : Int)] : List Int)).length) (cx13))].toArray 140) :: ((r59, Obj.cells [(Value.bool (decide (64 < ((((x_3 ++ ([(((s.getD x_1 default).toNat : Nat) : Int)] : List Int)).length) : Nat) : Int)))), (Value.int .i64 (14))].toArray 145) :: ((r58, Obj.cells [(Value.bool (decide (64 < ((((x_3 ++ ([(((s.getD x_1 default).toNat : Nat) : Int)] : List Int)).length) : Nat) : Int)))), (Value.int .i64 (14))].toArray 145) :: (Bx13 ++ ((r57, Obj.cells [(Value.int .u8 ((((s.getD x_1 default).toNat : Nat) : Int)))].toArray 5) :: ((r55, Obj.cells [(Value.bool (decide ((((s.getD x_1 default).toNat : Nat) : Int) ≠ 92))), (Value.int .i64 (13))].toArray 145) :: ((r54, Obj.cells [(Value.bool (decide ((((s.getD x_1 default).toNat : Nat) : Int) ≠ 92))), (Value.int .i64 (13))].toArray 145) :: ((l11, loopAt rr11 .busy none) :: ((x_4b, Obj.cells [(Value.pointer (some ⟨r3, 0, none⟩))].toArray 135) :: (x_2B ++ ((rD11, Obj.deferred (some [])) :: ((r10, Obj.cells [(Value.string (bs s))].toArray 9) :: ((r8, Obj.cells [(Value.bool ((!(wIsPlain s)))), (Value.int .i64 (11))].toArray 145) :: ((r6, Obj.cells [(Value.bool (decide (300 < ((s.length : Nat) : Int)))), (Value.int .i64 (10))].toArray 145) :: ((r5, Obj.cells [(Value.bool (decide (300 < ((s.length : Nat) : Int)))), (Value.int .i64 (10)), (Value.bool ((!(wIsPlain s)))), (Value.int .i64 (11))].toArray 145) :: ((r4, Obj.cells [(stV x_4 r3 x_4b)].toArray 142) :: ((r2, Obj.cells [Value.nilIface].toArray 57) :: ((r1, Obj.cells [(Value.slice (none) (0) (0))].toArray 60) :: []))))))))))))))))))) (by simp only [List.append_nil, List.append_assoc, List.cons_append, List.nil_append]) ?_
      refine JL_nil ?_
      refine JX_seq ?_
      refine J_ret ?_
      refine JX_retI Tryz.results152 (Res.tmp rfl (Res.tmp rfl Res.nil)) ?_
      refine JL_q (q_move) (k := ?_)
      refine JL_q (q_ext) (k := ?_)
      refine JL_q (q_ext) (k := ?_)
      refine JL_q (q_assign) (k := ?_)
      refine JL_q (q_assign) (k := ?_)
      refine JL_nil ?_
      refine JX_seq ?_
      refine J_seq ?_
      refine J_seq ?_
      refine J_reg ?_
      refine JL_q (q_move) (k := ?_)
      refine JL_q (q_neS (u := Value.nilIface) (v := Value.nilIface) (b := false) (fun w => by kernel_rfl)) (k := ?_)
      refine JL_nil ?_
      refine JX_seq ?_
      refine J_false rfl ?_
      refine J_skip ?_
      refine JX_seq ?_
      refine J_reg ?_
      refine JL_q (q_move) (k := ?_)
      refine JL_s (w_store (l' := [_]) Tryz.sizeOf142) (k := ?_)
      refine JL_nil ?_
      refine JX_block ?_
      refine JX_roundI (qa (qa (qa (qc (qa (qa (qa q0))))))) ?_
      refine JL_q (q_not) (k := ?_)
      refine JL_nil ?_
      refine JX_seq ?_
      refine J_false rfl ?_
      refine J_skip ?_
      refine JX_block ?_
      refine JX_seq ?_
      refine J_reg ?_
      refine JL_q (q_add) (k := ?_)
      refine JL_q (q_move) (k := ?_)
      refine JL_nil ?_
      refine JX_permL _ ((((((((((((qa (qa (qa (qa (qc (qa (qa (qa (qa (qc (qa (qa (qa (qa (qa (qa (qa q0))))))))))))))))).trans (qa (qa (qa (qa (qa (qc (qa (qa (qa (qa (qc (qa (qa (qa (qa (qa (qa q0)))))))))))))))))).trans (qa (qa (qa q0)))).trans (qa (qa (qa (qa (qa (qa (qc (qa (qa (qa (qa (qc (qa (qa (qa (qa (qa q0)))))))))))))))))).trans (qa (qa (qa (qa (qa (qa (qa (qc (qa (qa (qa (qa (qc (qa (qa (qa (qa q0)))))))))))))))))).trans (qa (qa (qa (qa (qa (qa (qa (qa (qc (qa (qa (qa (qa (qc (qa (qa (qa q0)))))))))))))))))).trans (qa (qa (qa (qa (qa (qa (qa (qa (qa (qc (qa (qa (qa (qa (qc (qa (qa q0)))))))))))))))))).trans (qa (qa (qa (qa (qa (qa (qa (qa (qa (qa (qc (qa (qa (qa (qa (qc (qa q0)))))))))))))))))).trans (qa (qa (qa (qa (qa (qa (qa (qa (qa (qa (qa (qc (qa (qa (qa (qa (qc q0)))))))))))))))))).trans (qa (qa (qa (qa (qa (qa (qa (qa (qa q0)))))))))).trans (qb (qb (qb (qb (qb (qb (qb (qb (qb (qb (qb (qb (qd (qb (qb (qb (qb q0)))))))))))))))))).trans (qd (qb (qb (qb (qb (qb (qb (qb (qb (qb (qb (qb (qb q0)))))))))))))) ?_
      refine JX_subL _ (List.Sublist.append (List.Sublist.refl _) (List.Sublist.append (List.Sublist.refl _) (List.Sublist.cons_cons _ (List.Sublist.cons_cons _ (List.Sublist.cons_cons _ (List.Sublist.cons_cons _ (List.Sublist.cons_cons _ (List.Sublist.cons_cons _ (List.Sublist.cons_cons _ (List.Sublist.cons_cons _ (List.Sublist.cons_cons _ (List.Sublist.cons_cons _ (List.nil_sublist _))))))))))))) ?_
      exact JX_inv12 n_5 (x_1 + 1) x_2 x_2a x_2c x_2B (x_3 ++ ([(((s.getD x_1 default).toNat : Nat) : Int)] : List Int)) ax13 cx13 Bx13 2 0 ⟨by omega, (((((((((hF6.pos hq3).neg hq4).neg hq10).neg hq18).neg hq23).neg hq27).pos hq30).neg hq31).neg hq32), hx_2, hox13, (by omega), (by first | exact lb), (by first | exact lb)⟩ (Nat.lt_succ_self _) se (List.Perm.refl _)
    refine J_seq ?_
    refine J_reg ?_
    refine JL_q (q_fld FO_145_1) (k := ?_)
    refine JL_q (q_load Tryz.isAgg30) (k := ?_)
    refine JL_q (q_build (cs := [_]) Tryz.zeroValue152 PL_152) (k := ?_)
    refine JL_q (q_mkI Tryz.underlying152) (k := ?_)
    refine JL_q (q_assign) (k := ?_)
    refine JL_nil ?_
    refine JX_seq ?_
    refine J_ret ?_
    refine JX_block_ret ?_
    refine JX_seq_ret ?_
    refine JX_inv_ret ?_
    refine JX_block_ret ?_
    refine JX_seq_ret ?_
    refine JX_retI Tryz.results95 (Res.tmp rfl Res.nil) ?_
    refine JL_q (q_assign) (k := ?_)
    refine JL_nil ?_
    refine JX_seq ?_
    refine J_ret ?_
    refine JX_retID ((r59, Obj.cells [(Value.bool (decide (64 < ((((x_3 ++ ([(((s.getD x_1 default).toNat : Nat) : Int)] : List Int)).length) : Nat) : Int)))), (Value.int .i64 (14))].toArray 145) :: ((r58, Obj.cells [(Value.bool (decide (64 < ((((x_3 ++ ([(((s.getD x_1 default).toNat : Nat) : Int)] : List Int)).length) : Nat) : Int)))), (Value.int .i64 (14))].toArray 145) :: (Bx13 ++ ((r57, Obj.cells [(Value.int .u8 ((((s.getD x_1 default).toNat : Nat) : Int)))].toArray 5) :: ((r55, Obj.cells [(Value.bool (decide ((((s.getD x_1 default).toNat : Nat) : Int) ≠ 92))), (Value.int .i64 (13))].toArray 145) :: ((r54, Obj.cells [(Value.bool (decide ((((s.getD x_1 default).toNat : Nat) : Int) ≠ 92))), (Value.int .i64 (13))].toArray 145) :: ((l11, loopAt rr11 .busy none) :: ((x_4b, Obj.cells [(Value.pointer (some ⟨r3, 0, none⟩))].toArray 135) :: (x_2B ++ ((rD11, Obj.deferred (some [])) :: ((r10, Obj.cells [(Value.string (bs s))].toArray 9) :: ((r8, Obj.cells [(Value.bool ((!(wIsPlain s)))), (Value.int .i64 (11))].toArray 145) :: ((r6, Obj.cells [(Value.bool (decide (300 < ((s.length : Nat) : Int)))), (Value.int .i64 (10))].toArray 145) :: ((r5, Obj.cells [(Value.bool (decide (300 < ((s.length : Nat) : Int)))), (Value.int .i64 (10)), (Value.bool ((!(wIsPlain s)))), (Value.int .i64 (11))].toArray 145) :: ((r4, Obj.cells [(stV x_4 r3 x_4b)].toArray 142) :: ((r2, Obj.cells [Value.nilIface].toArray 57) :: ((r1, Obj.cells [(Value.slice (none) (0) (0))].toArray 60) :: []))))))))))))))))) ((r3, Obj.cells [(Value.slice (x_2a) (x_2.length) (x_2c)), (Value.slice (ax13) ((x_3 ++ ([(((s.getD x_1 default).toNat : Nat) : Int)] : List Int)).length) (cx13))].toArray 140) :: []) Tryz.results136 (Res.tmp rfl Res.nil) (List.Perm.trans ((((((((((((((((((qa (qa (qc (qa (qa (qa (qa (qa (qa (qc (qa (qa (qa (qa (qa (qa (qa q0))))))))))))))))).trans (qa (qa (qa (qc (qa (qa (qa (qa (qa (qa (qc (qa (qa (qa (qa (qa (qa q0)))))))))))))))))).trans (qa (qa (qa (qa (qc (qa (qa (qa (qa (qa (qa (qc (qa (qa (qa (qa (qa q0)))))))))))))))))).trans (qa (qa (qa (qa (qa (qc (qa (qa (qa (qa (qa (qa (qc (qa (qa (qa (qa q0)))))))))))))))))).trans (qa (qa (qa (qa (qa (qa (qc (qa (qa (qa (qa (qa (qa (qc (qa (qa (qa q0)))))))))))))))))).trans (qa (qa (qa (qa (qa (qa (qa (qc (qa (qa (qa (qa (qa (qa (qc (qa (qa q0)))))))))))))))))).trans (qa (qa (qa (qa (qa (qa (qa (qa (qc (qa (qa (qa (qa (qa (qa (qc (qa q0)))))))))))))))))).trans (qa (qa (qa (qa (qa (qa (qa (qa (qa (qc (qa (qa (qa (qa (qa (qa (qc q0)))))))))))))))))).trans (qb (qb (qb (qb (qb (qb (qb (qb (qb (qb (qd (qb (qb (qb (qb (qb (qb q0)))))))))))))))))).trans (qc (qa (qa (qa (qa (qa (qa (qa (qa (qa (qa (qc (qa (qa (qa (qa (qa q0)))))))))))))))))).trans (qa (qc (qa (qa (qa (qa (qa (qa (qa (qa (qa (qa (qc (qa (qa (qa (qa q0)))))))))))))))))).trans (qa (qa (qc (qa (qa (qa (qa (qa (qa (qa (qa (qa (qa (qc (qa (qa (qa q0)))))))))))))))))).trans (qa (qa (qa (qc (qa (qa (qa (qa (qa (qa (qa (qa (qa (qa (qc (qa (qa q0)))))))))))))))))).trans (qa (qa (qa (qa (qc (qa (qa (qa (qa (qa (qa (qa (qa (qa (qa (qc q0))))))))))))))))).trans (qb (qb (qb (qb (qb (qd (qb (qb (qb (qb (qb (qb (qb (qb (qb (qb q0))))))))))))))))).trans (qc (qa (qa (qa (qa (qa (qc (qa (qa (qa (qa (qa (qa (qa (qa (qa q0))))))))))))))))).trans (qa (qc (qa (qa (qa (qa (qa (qc (qa (qa (qa (qa (qa (qa (qa (qa q0))))))))))))))))).trans (qa (qa (qc (qa (qa (qa (qa (qa (qc (qa (qa (qa (qa (qa (qa (qa (qa q0)))))))))))))))))) (List.Perm.of_eq (by first | rfl | (simp only [List.cons_append, List.nil_append, List.append_assoc, List.append_nil]; done) | (simp only [List.cons_append, List.nil_append, List.append_assoc, List.append_nil]; rfl)))) (List.Sublist.cons _ (List.Sublist.cons _ (List.Sublist.trans (List.Sublist.cons _ (List.Sublist.refl _)) (List.sublist_append_right _ _)))) ?_
    refine JD_q (q_assign) (k := ?_)
    refine JD_q (q_assign) (k := ?_)
    refine JD_nil ?_
    refine JL_eqL (L' := ((r3, Obj.cells [(Value.slice (x_2a) (x_2.length) (x_2c)), (Value.slice (ax13) ((x_3 ++ ([(((s.getD x_1 default).toNat : Nat) : Int)] : List Int)).length) (cx13))].toArray 140) :: ((r59, Obj.cells [(Value.bool (decide (64 < ((((x_3 ++ ([(((s.getD x_1 default).toNat : Nat) : Int)] : List Int)).length) : Nat) : Int)))), (Value.int .i64 (14))].toArray 145) :: ((r58, Obj.cells [(Value.bool (decide (64 < ((((x_3 ++ ([(((s.getD x_1 default).toNat : Nat) : Int)] : List Int)).length) : Nat) : Int)))), (Value.int .i64 (14))].toArray 145) :: (Bx13 ++ ((r57, Obj.cells [(Value.int .u8 ((((s.getD x_1 default).toNat : Nat) : Int)))].toArray 5) :: ((r55, Obj.cells [(Value.bool (decide ((((s.getD x_1 default).toNat : Nat) : Int) ≠ 92))), (Value.int .i64 (13))].toArray 145) :: ((r54, Obj.cells [(Value.bool (decide ((((s.getD x_1 default).toNat : Nat) : Int) ≠ 92))), (Value.int .i64 (13))].toArray 145) :: ((l11, loopAt rr11 .busy none) :: ((x_4b, Obj.cells [(Value.pointer (some ⟨r3, 0, none⟩))].toArray 135) :: (x_2B ++ ((rD11, Obj.deferred (some [])) :: ((r10, Obj.cells [(Value.string (bs s))].toArray 9) :: ((r8, Obj.cells [(Value.bool ((!(wIsPlain s)))), (Value.int .i64 (11))].toArray 145) :: ((r6, Obj.cells [(Value.bool (decide (300 < ((s.length : Nat) : Int)))), (Value.int .i64 (10))].toArray 145) :: ((r5, Obj.cells [(Value.bool (decide (300 < ((s.length : Nat) : Int)))), (Value.int .i64 (10)), (Value.bool ((!(wIsPlain s)))), (Value.int .i64 (11))].toArray 145) :: ((r4, Obj.cells [(stV x_4 r3 x_4b)].toArray 142) :: ((r2, Obj.cells [Value.nilIface].toArray 57) :: ((r1, Obj.cells [(Value.slice (none) (0) (0))].toArray 60) :: []))))))))))))))))))) (by simp only [List.append_nil, List.append_assoc, List.cons_append, List.nil_append]) ?_
    refine JL_nil ?_
    refine JX_seq ?_
    refine J_ret ?_
    refine JX_retI Tryz.results152 (Res.tmp rfl (Res.tmp rfl Res.nil)) ?_
    refine JL_q (q_move) (k := ?_)
    refine JL_q (q_ext) (k := ?_)
    refine JL_q (q_ext) (k := ?_)
    refine JL_q (q_assign) (k := ?_)
    refine JL_q (q_assign) (k := ?_)
    refine JL_nil ?_
    refine JX_seq ?_
    refine J_seq ?_
    refine J_seq ?_
    refine J_reg ?_
    refine JL_q (q_move) (k := ?_)
    refine JL_q (q_neS (u := (Value.iface 152 (Value.agg [(Value.int .i64 (14))].toArray))) (v := Value.nilIface) (b := true) (fun w => by kernel_rfl)) (k := ?_)
    refine JL_nil ?_
    refine JX_seq ?_
    refine J_true rfl ?_
    refine J_seq ?_
    refine J_reg ?_
    refine JL_q (q_move) (k := ?_)
    refine JL_s (w_store (l' := [_]) Tryz.sizeOf60) (k := ?_)
    refine JL_s (w_store (l' := [_]) Tryz.sizeOf57) (k := ?_)
    refine JL_nil ?_
    refine JX_seq ?_
    refine J_ret ?_
    refine JX_seq_ret ?_
    refine JX_block_ret ?_
    refine JX_roundI_ret (qa (qa (qa (qc (qa (qa (qa q0))))))) ?_
    refine JL_q (q_not) (k := ?_)
    refine JL_nil ?_
    refine JX_seq ?_
    refine J_true rfl ?_
    refine J_exit ?_
    refine JX_block_miss rfl ?_
    refine JX_seq_exit ?_
    refine JX_inv_exit ?_
    refine JX_block_hit ?_
    refine JX_scope ?_
    refine JX_it1 (.inr rfl) Tryz.results119 q0 ?_
    refine J_ret ?_
    refine JX_block_ret ?_
    refine JX_seq_ret ?_
    refine JX_retIM [rD11] (qa (qa (qa (qa (qc (qa (qa (qa (qa (qc q0)))))))))) Tryz.results59 (Res.word Tryz.isAgg60 rfl me rfl (Res.word Tryz.isAgg57 rfl me rfl Res.nil)) ?_
    refine JL_q (q_move) (k := ?_)
    refine JL_q (q_ext) (k := ?_)
    refine JL_q (q_ext) (k := ?_)
    refine JL_q (q_assign) (k := ?_)
    refine JL_q (q_assign) (k := ?_)
    refine JL_nil ?_
    refine JX_seq ?_
    refine J_seq ?_
    refine J_reg ?_
    refine JL_q (q_move) (k := ?_)
    refine JL_q (q_move) (k := ?_)
    refine JL_inl (args := [(Value.iface 152 (Value.agg [(Value.int .i64 (14))].toArray))]) (c_callA Tryz.call60) Tryz.func60 Tryz.ntmps60 ?_
    refine J_seq ?_
    refine J_reg ?_
    refine JL_q (q_assign) (k := ?_)
    refine JL_nil ?_
    refine JX_seq ?_
    refine J_seq ?_
    refine J_reg ?_
    refine JL_a noMk (a_alloc (l := [_]) Tryz.zeroValue152) (k := fun r60 hr60 => ?_)
    refine JL_nil ?_
    refine JX_seq ?_
    refine J_seq ?_
    refine J_seq ?_
    refine J_reg ?_
    refine JL_q (q_move) (k := ?_)
    refine JL_q (q_mkI Tryz.underlying154) (k := ?_)
    refine JL_p (args := [(Value.iface 152 (Value.agg [(Value.int .i64 (14))].toArray)), (Value.iface 154 (Value.pointer (some ⟨r60, 0, none⟩)))]) (c_callA Tryz.call98) (fun w1 hw1 => as_hit_t w1 (hG.ext hw1.ext_out).ety (hw1.own _ me)) (k := ?_)
    rintro w1_15 e1_15 w2_15 hw1_15 ⟨he_15, hT_15⟩
    refine ⟨_, ((r60, Obj.cells [(Value.int .i64 (14))].toArray 152) :: ((l11, loopAt rr11 .exhausted (some .ret)) :: ((r3, Obj.cells [(Value.slice (x_2a) (x_2.length) (x_2c)), (Value.slice (ax13) ((x_3 ++ ([(((s.getD x_1 default).toNat : Nat) : Int)] : List Int)).length) (cx13))].toArray 140) :: ((r59, Obj.cells [(Value.bool (decide (64 < ((((x_3 ++ ([(((s.getD x_1 default).toNat : Nat) : Int)] : List Int)).length) : Nat) : Int)))), (Value.int .i64 (14))].toArray 145) :: ((r58, Obj.cells [(Value.bool (decide (64 < ((((x_3 ++ ([(((s.getD x_1 default).toNat : Nat) : Int)] : List Int)).length) : Nat) : Int)))), (Value.int .i64 (14))].toArray 145) :: (Bx13 ++ ((r57, Obj.cells [(Value.int .u8 ((((s.getD x_1 default).toNat : Nat) : Int)))].toArray 5) :: ((r55, Obj.cells [(Value.bool (decide ((((s.getD x_1 default).toNat : Nat) : Int) ≠ 92))), (Value.int .i64 (13))].toArray 145) :: ((r54, Obj.cells [(Value.bool (decide ((((s.getD x_1 default).toNat : Nat) : Int) ≠ 92))), (Value.int .i64 (13))].toArray 145) :: ((x_4b, Obj.cells [(Value.pointer (some ⟨r3, 0, none⟩))].toArray 135) :: (x_2B ++ ((r10, Obj.cells [(Value.string (bs s))].toArray 9) :: ((r8, Obj.cells [(Value.bool ((!(wIsPlain s)))), (Value.int .i64 (11))].toArray 145) :: ((r6, Obj.cells [(Value.bool (decide (300 < ((s.length : Nat) : Int)))), (Value.int .i64 (10))].toArray 145) :: ((r5, Obj.cells [(Value.bool (decide (300 < ((s.length : Nat) : Int)))), (Value.int .i64 (10)), (Value.bool ((!(wIsPlain s)))), (Value.int .i64 (11))].toArray 145) :: ((r4, Obj.cells [(stV x_4 r3 x_4b)].toArray 142) :: ((r2, Obj.cells [(Value.iface 152 (Value.agg [(Value.int .i64 (14))].toArray))].toArray 57) :: ((r1, Obj.cells [(Value.slice (none) (0) (0))].toArray 60) :: [])))))))))))))))))), he_15, (hw1_15.perm q0).tr hT_15, ?_⟩
    refine JL_nil ?_
    refine JX_seq ?_
    refine J_true rfl ?_
    refine J_seq ?_
    refine J_reg ?_
    refine JL_q (q_fld FO_152_0) (k := ?_)
    refine JL_q (q_load Tryz.isAgg30) (k := ?_)
    refine JL_q (q_assign) (k := ?_)
    refine JL_nil ?_
    refine JX_seq ?_
    refine J_ret ?_
    refine JX_seq_ret ?_
    refine JX_retI Tryz.results60 (Res.tmp rfl Res.nil) ?_
    refine JL_q (q_assign) (k := ?_)
    refine JL_q (q_assign) (k := ?_)
    refine JL_nil ?_
    refine JX_seq ?_
    refine J_ret ?_
    refine JX_ret Tryz.results33 (Res.tmp rfl (Res.tmp rfl Res.nil)) (fun w1 hw1 => ?_)
    exact ⟨none, 0, [], (by rw [((((hF.neg hq1).f hq2).er4 (((((((((hF6.pos hq3).neg hq4).neg hq10).neg hq18).neg hq23).neg hq27).pos hq30).neg hq31).pos hq32))).eq] <;> first | rfl | (simp only [List.length_set] <;> rfl)), (hw1.fresh_out.sub (List.nil_sublist _)), (by rw [((((hF.neg hq1).f hq2).er4 (((((((((hF6.pos hq3).neg hq4).neg hq10).neg hq18).neg hq23).neg hq27).pos hq30).neg hq31).pos hq32))).eq]; exact OwnB.nil)⟩

end Go.Proofs.YtnblakihpoacjaaGreatDoor.Jd

