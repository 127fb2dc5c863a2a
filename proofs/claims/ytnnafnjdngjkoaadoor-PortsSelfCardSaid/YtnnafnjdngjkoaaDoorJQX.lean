/- Part of the proofs of this seat: walks and plain facts. No condition. -/
import Derived.Test.YtnnafnjdngjkoaaDoorProg
import Derived.Test.YtnnafnjdngjkoaaDoorJQN
import Derived.Test.YtnnafnjdngjkoaaDoorJQP
import Derived.Test.YtnnafnjdngjkoaaDoorJQW
namespace Go.Proofs.YtnnafnjdngjkoaaDoor.Jd
open Go.Proofs
open Go.RowKit (Below)
set_option maxRecDepth 100000
set_option linter.unusedVariables false
set_option linter.unusedSimpArgs false

theorem pShown_ok (w : World) {ea0 : Addr} {ea1 : Addr} (hG : Gl w) (hE : Er w ea0 ea1) : Val Tryd.prog 8 [] w (Value.bool (pShown)) := by
  have hF := Is.refl pShown
  refine enter Tryd.func8 Tryd.ntmps8 (h := ?_)
  refine J_seq ?_
  refine J_reg ?_
  refine JL_q (q_assign) (k := ?_)
  refine JL_nil ?_
  refine JX_seq ?_
  refine J_seq ?_
  refine J_reg ?_
  refine JL_v (args := [(Value.string (bs ([56, 48, 45, 57, 48] : Str)))]) (c_callA Tryd.call12) (fun w1 hw1 => pParse_ok w1 (s := ([56, 48, 45, 57, 48] : Str)) (n_s := by first | omega | (simp only [List.length_append, List.length_take, List.length_drop, List.length_set, List.length_replicate, List.length_cons, List.length_nil, List.length_map]; omega) | (simp only [List.length_append, List.length_take, List.length_drop, List.length_set, List.length_replicate, List.length_cons, List.length_nil, List.length_map] at *; omega) | decide) (hG := hG.ext hw1.ext_out) (hE := hE.ext hw1.ext_out)) (k := ?_)
  refine JL_q (q_move) (k := ?_)
  refine JL_q (q_ext) (k := ?_)
  refine JL_q (q_ext) (k := ?_)
  refine JL_a noMk (a_alloc (l := [_, _]) Tryd.zeroValue23) (k := fun r1 hr1 => ?_)
  refine JL_s (w_store (l' := [_, _]) Tryd.sizeOf23) (k := ?_)
  refine JL_q (q_assign) (k := ?_)
  refine JL_nil ?_
  refine JX_seq ?_
  refine J_seq ?_
  refine J_reg ?_
  refine JL_v (args := [(Value.string (bs ([42] : Str)))]) (c_callA Tryd.call12) (fun w1 hw1 => pParse_ok w1 (s := ([42] : Str)) (n_s := by first | omega | (simp only [List.length_append, List.length_take, List.length_drop, List.length_set, List.length_replicate, List.length_cons, List.length_nil, List.length_map]; omega) | (simp only [List.length_append, List.length_take, List.length_drop, List.length_set, List.length_replicate, List.length_cons, List.length_nil, List.length_map] at *; omega) | decide) (hG := hG.ext hw1.ext_out) (hE := hE.ext hw1.ext_out)) (k := ?_)
  refine JL_q (q_move) (k := ?_)
  refine JL_q (q_ext) (k := ?_)
  refine JL_q (q_ext) (k := ?_)
  refine JL_a noMk (a_alloc (l := [_, _]) Tryd.zeroValue23) (k := fun r2 hr2 => ?_)
  refine JL_s (w_store (l' := [_, _]) Tryd.sizeOf23) (k := ?_)
  refine JL_q (q_assign) (k := ?_)
  refine JL_nil ?_
  refine JX_seq ?_
  refine J_seq ?_
  refine J_reg ?_
  refine JL_v (args := [(Value.string (bs ([49, 46, 50, 46, 51, 46, 52, 58, 56, 48] : Str)))]) (c_callA Tryd.call22) (fun w1 hw1 => tParse_ok w1 (s := ([49, 46, 50, 46, 51, 46, 52, 58, 56, 48] : Str)) (n_s := by first | omega | (simp only [List.length_append, List.length_take, List.length_drop, List.length_set, List.length_replicate, List.length_cons, List.length_nil, List.length_map]; omega) | (simp only [List.length_append, List.length_take, List.length_drop, List.length_set, List.length_replicate, List.length_cons, List.length_nil, List.length_map] at *; omega) | decide) (hG := hG.ext hw1.ext_out) (hE := hE.ext hw1.ext_out)) (k := ?_)
  refine JL_q (q_move) (k := ?_)
  refine JL_q (q_ext) (k := ?_)
  refine JL_q (q_ext) (k := ?_)
  refine JL_a noMk (a_alloc (l := [_, _]) Tryd.zeroValue37) (k := fun r3 hr3 => ?_)
  refine JL_s (w_store (l' := [_, _]) Tryd.sizeOf37) (k := ?_)
  refine JL_q (q_assign) (k := ?_)
  refine JL_nil ?_
  refine JX_seq ?_
  refine J_seq ?_
  refine J_reg ?_
  refine JL_q (q_loadA Tryd.isAgg37 Tryd.sizeOf37) (k := ?_)
  refine JL_v (args := [(Value.agg [(Value.int .i64 (((tParse ([49, 46, 50, 46, 51, 46, 52, 58, 56, 48] : Str)).1.addr))), (Value.int .i64 (((tParse ([49, 46, 50, 46, 51, 46, 52, 58, 56, 48] : Str)).1.port)))].toArray)]) (c_callA Tryd.call20) (fun w1 hw1 => tPrint_ok w1 (t := (tParse ([49, 46, 50, 46, 51, 46, 52, 58, 56, 48] : Str)).1) (hG := hG.ext hw1.ext_out) (hE := hE.ext hw1.ext_out)) (k := ?_)
  have htp_18514 := tPrint_len ((tParse ([49, 46, 50, 46, 51, 46, 52, 58, 56, 48] : Str)).1)
  refine JL_q (q_move) (k := ?_)
  refine JL_q (q_ext) (k := ?_)
  refine JL_q (q_ext) (k := ?_)
  refine JL_q (q_assign) (k := ?_)
  refine JL_q (q_assign) (k := ?_)
  refine JL_nil ?_
  refine JX_seq ?_
  refine J_seq ?_
  refine J_reg ?_
  refine JL_v (args := [(Value.string (bs ([56, 48, 45, 56, 48] : Str)))]) (c_callA Tryd.call12) (fun w1 hw1 => pParse_ok w1 (s := ([56, 48, 45, 56, 48] : Str)) (n_s := by first | omega | (simp only [List.length_append, List.length_take, List.length_drop, List.length_set, List.length_replicate, List.length_cons, List.length_nil, List.length_map]; omega) | (simp only [List.length_append, List.length_take, List.length_drop, List.length_set, List.length_replicate, List.length_cons, List.length_nil, List.length_map] at *; omega) | decide) (hG := hG.ext hw1.ext_out) (hE := hE.ext hw1.ext_out)) (k := ?_)
  refine JL_q (q_move) (k := ?_)
  refine JL_q (q_ext) (k := ?_)
  refine JL_q (q_ext) (k := ?_)
  refine JL_a noMk (a_alloc (l := [_, _]) Tryd.zeroValue23) (k := fun r4 hr4 => ?_)
  refine JL_s (w_store (l' := [_, _]) Tryd.sizeOf23) (k := ?_)
  refine JL_q (q_assign) (k := ?_)
  refine JL_nil ?_
  refine JX_seq ?_
  refine J_seq ?_
  refine J_reg ?_
  refine JL_v (args := [(Value.string (bs ([49, 46, 50, 46, 51, 46, 52, 58, 48] : Str)))]) (c_callA Tryd.call22) (fun w1 hw1 => tParse_ok w1 (s := ([49, 46, 50, 46, 51, 46, 52, 58, 48] : Str)) (n_s := by first | omega | (simp only [List.length_append, List.length_take, List.length_drop, List.length_set, List.length_replicate, List.length_cons, List.length_nil, List.length_map]; omega) | (simp only [List.length_append, List.length_take, List.length_drop, List.length_set, List.length_replicate, List.length_cons, List.length_nil, List.length_map] at *; omega) | decide) (hG := hG.ext hw1.ext_out) (hE := hE.ext hw1.ext_out)) (k := ?_)
  refine JL_q (q_move) (k := ?_)
  refine JL_q (q_ext) (k := ?_)
  refine JL_q (q_ext) (k := ?_)
  refine JL_a noMk (a_alloc (l := [_, _]) Tryd.zeroValue37) (k := fun r5 hr5 => ?_)
  refine JL_s (w_store (l' := [_, _]) Tryd.sizeOf37) (k := ?_)
  refine JL_q (q_assign) (k := ?_)
  refine JL_nil ?_
  refine JX_seq ?_
  refine J_seq ?_
  refine J_reg ?_
  refine JL_q (q_loadA Tryd.isAgg23 Tryd.sizeOf23) (k := ?_)
  refine JL_q (q_loadA Tryd.isAgg23 Tryd.sizeOf23) (k := ?_)
  refine JL_v (args := [(Value.agg [(Value.int .i64 (((pParse ([56, 48, 45, 57, 48] : Str)).1.lo))), (Value.int .i64 (((pParse ([56, 48, 45, 57, 48] : Str)).1.hi)))].toArray), (Value.agg [(Value.int .i64 (((pParse ([42] : Str)).1.lo))), (Value.int .i64 (((pParse ([42] : Str)).1.hi)))].toArray)]) (c_callA Tryd.call14) (fun w1 hw1 => pMeet_ok w1 (p := (pParse ([56, 48, 45, 57, 48] : Str)).1) (q := (pParse ([42] : Str)).1)) (k := ?_)
  refine JL_q (q_move) (k := ?_)
  refine JL_q (q_ext) (k := ?_)
  refine JL_q (q_ext) (k := ?_)
  refine JL_a noMk (a_alloc (l := [_, _]) Tryd.zeroValue23) (k := fun r6 hr6 => ?_)
  refine JL_s (w_store (l' := [_, _]) Tryd.sizeOf23) (k := ?_)
  refine JL_q (q_assign) (k := ?_)
  refine JL_nil ?_
  refine JX_seq ?_
  refine J_seq ?_
  refine J_reg ?_
  refine JL_q (q_loadA Tryd.isAgg23 Tryd.sizeOf23) (k := ?_)
  refine JL_q (q_build (cs := [_, _]) Tryd.zeroValue23 PL_23) (k := ?_)
  refine JL_q (q_eqS (EQ_23 _ _ _ _ _ _)) (k := ?_)
  refine JL_q (q_move) (k := ?_)
  refine JL_dec 49 rfl (fun hq1 => ?_) (fun hq1 => ?_)
  rotate_left
  · refine JL_skips 2 rfl ?_
    refine JL_q (q_pickF) (k := ?_)
    refine JL_q (q_move) (k := ?_)
    refine JL_skips 3 rfl ?_
    refine JL_q (q_pickF) (k := ?_)
    refine JL_q (q_move) (k := ?_)
    refine JL_skips 2 rfl ?_
    refine JL_q (q_pickF) (k := ?_)
    refine JL_q (q_move) (k := ?_)
    refine JL_skips 2 rfl ?_
    refine JL_q (q_pickF) (k := ?_)
    refine JL_q (q_move) (k := ?_)
    refine JL_skips 2 rfl ?_
    refine JL_q (q_pickF) (k := ?_)
    refine JL_q (q_move) (k := ?_)
    refine JL_skips 2 rfl ?_
    refine JL_q (q_pickF) (k := ?_)
    refine JL_q (q_move) (k := ?_)
    refine JL_skips 2 rfl ?_
    refine JL_q (q_pickF) (k := ?_)
    refine JL_q (q_move) (k := ?_)
    refine JL_skips 2 rfl ?_
    refine JL_q (q_pickF) (k := ?_)
    refine JL_q (q_move) (k := ?_)
    refine JL_skips 3 rfl ?_
    refine JL_q (q_pickF) (k := ?_)
    refine JL_q (q_move) (k := ?_)
    refine JL_skip (k := ?_)
    refine JL_q (q_pickF) (k := ?_)
    refine JL_q (q_move) (k := ?_)
    refine JL_skips 2 rfl ?_
    refine JL_q (q_pickF) (k := ?_)
    refine JL_q (q_move) (k := ?_)
    refine JL_skips 3 rfl ?_
    refine JL_q (q_pickF) (k := ?_)
    refine JL_q (q_assign) (k := ?_)
    refine JL_nil ?_
    refine JX_seq ?_
    refine J_ret ?_
    refine JX_ret Tryd.results8 (Res.tmp rfl Res.nil) (fun w1 hw1 => ?_)
    exact ⟨(by rw [((hF.neg hq1)).eq] <;> first | rfl | (simp only [List.length_set] <;> rfl)), hw1.ext_out⟩
  refine JL_qg (q_move) (k := ?_)
  refine JL_qg (q_eql) (k := ?_)
  refine JL_q (q_pickT) (k := ?_)
  refine JL_q (q_move) (k := ?_)
  refine JL_dec 53 rfl (fun hq2 => ?_) (fun hq2 => ?_)
  rotate_left
  · refine JL_skips 3 rfl ?_
    refine JL_q (q_pickF) (k := ?_)
    refine JL_q (q_move) (k := ?_)
    refine JL_skips 2 rfl ?_
    refine JL_q (q_pickF) (k := ?_)
    refine JL_q (q_move) (k := ?_)
    refine JL_skips 2 rfl ?_
    refine JL_q (q_pickF) (k := ?_)
    refine JL_q (q_move) (k := ?_)
    refine JL_skips 2 rfl ?_
    refine JL_q (q_pickF) (k := ?_)
    refine JL_q (q_move) (k := ?_)
    refine JL_skips 2 rfl ?_
    refine JL_q (q_pickF) (k := ?_)
    refine JL_q (q_move) (k := ?_)
    refine JL_skips 2 rfl ?_
    refine JL_q (q_pickF) (k := ?_)
    refine JL_q (q_move) (k := ?_)
    refine JL_skips 2 rfl ?_
    refine JL_q (q_pickF) (k := ?_)
    refine JL_q (q_move) (k := ?_)
    refine JL_skips 3 rfl ?_
    refine JL_q (q_pickF) (k := ?_)
    refine JL_q (q_move) (k := ?_)
    refine JL_skip (k := ?_)
    refine JL_q (q_pickF) (k := ?_)
    refine JL_q (q_move) (k := ?_)
    refine JL_skips 2 rfl ?_
    refine JL_q (q_pickF) (k := ?_)
    refine JL_q (q_move) (k := ?_)
    refine JL_skips 3 rfl ?_
    refine JL_q (q_pickF) (k := ?_)
    refine JL_q (q_assign) (k := ?_)
    refine JL_nil ?_
    refine JX_seq ?_
    refine J_ret ?_
    refine JX_ret Tryd.results8 (Res.tmp rfl Res.nil) (fun w1 hw1 => ?_)
    exact ⟨(by rw [(((hF.pos hq1).neg hq2)).eq] <;> first | rfl | (simp only [List.length_set] <;> rfl)), hw1.ext_out⟩
  refine JL_qg (q_loadA Tryd.isAgg23 Tryd.sizeOf23) (k := ?_)
  refine JL_qg (q_build (cs := [_, _]) Tryd.zeroValue23 PL_23) (k := ?_)
  refine JL_qg (q_eqS (EQ_23 _ _ _ _ _ _)) (k := ?_)
  refine JL_q (q_pickT) (k := ?_)
  refine JL_q (q_move) (k := ?_)
  refine JL_dec 58 rfl (fun hq3 => ?_) (fun hq3 => ?_)
  rotate_left
  · refine JL_skips 2 rfl ?_
    refine JL_q (q_pickF) (k := ?_)
    refine JL_q (q_move) (k := ?_)
    refine JL_skips 2 rfl ?_
    refine JL_q (q_pickF) (k := ?_)
    refine JL_q (q_move) (k := ?_)
    refine JL_skips 2 rfl ?_
    refine JL_q (q_pickF) (k := ?_)
    refine JL_q (q_move) (k := ?_)
    refine JL_skips 2 rfl ?_
    refine JL_q (q_pickF) (k := ?_)
    refine JL_q (q_move) (k := ?_)
    refine JL_skips 2 rfl ?_
    refine JL_q (q_pickF) (k := ?_)
    refine JL_q (q_move) (k := ?_)
    refine JL_skips 2 rfl ?_
    refine JL_q (q_pickF) (k := ?_)
    refine JL_q (q_move) (k := ?_)
    refine JL_skips 3 rfl ?_
    refine JL_q (q_pickF) (k := ?_)
    refine JL_q (q_move) (k := ?_)
    refine JL_skip (k := ?_)
    refine JL_q (q_pickF) (k := ?_)
    refine JL_q (q_move) (k := ?_)
    refine JL_skips 2 rfl ?_
    refine JL_q (q_pickF) (k := ?_)
    refine JL_q (q_move) (k := ?_)
    refine JL_skips 3 rfl ?_
    refine JL_q (q_pickF) (k := ?_)
    refine JL_q (q_assign) (k := ?_)
    refine JL_nil ?_
    refine JX_seq ?_
    refine J_ret ?_
    refine JX_ret Tryd.results8 (Res.tmp rfl Res.nil) (fun w1 hw1 => ?_)
    exact ⟨(by rw [((((hF.pos hq1).pos hq2).neg hq3)).eq] <;> first | rfl | (simp only [List.length_set] <;> rfl)), hw1.ext_out⟩
  refine JL_qg (q_move) (k := ?_)
  refine JL_qg (q_eql) (k := ?_)
  refine JL_q (q_pickT) (k := ?_)
  refine JL_q (q_move) (k := ?_)
  refine JL_dec 62 rfl (fun hq4 => ?_) (fun hq4 => ?_)
  rotate_left
  · refine JL_skips 2 rfl ?_
    refine JL_q (q_pickF) (k := ?_)
    refine JL_q (q_move) (k := ?_)
    refine JL_skips 2 rfl ?_
    refine JL_q (q_pickF) (k := ?_)
    refine JL_q (q_move) (k := ?_)
    refine JL_skips 2 rfl ?_
    refine JL_q (q_pickF) (k := ?_)
    refine JL_q (q_move) (k := ?_)
    refine JL_skips 2 rfl ?_
    refine JL_q (q_pickF) (k := ?_)
    refine JL_q (q_move) (k := ?_)
    refine JL_skips 2 rfl ?_
    refine JL_q (q_pickF) (k := ?_)
    refine JL_q (q_move) (k := ?_)
    refine JL_skips 3 rfl ?_
    refine JL_q (q_pickF) (k := ?_)
    refine JL_q (q_move) (k := ?_)
    refine JL_skip (k := ?_)
    refine JL_q (q_pickF) (k := ?_)
    refine JL_q (q_move) (k := ?_)
    refine JL_skips 2 rfl ?_
    refine JL_q (q_pickF) (k := ?_)
    refine JL_q (q_move) (k := ?_)
    refine JL_skips 3 rfl ?_
    refine JL_q (q_pickF) (k := ?_)
    refine JL_q (q_assign) (k := ?_)
    refine JL_nil ?_
    refine JX_seq ?_
    refine J_ret ?_
    refine JX_ret Tryd.results8 (Res.tmp rfl Res.nil) (fun w1 hw1 => ?_)
    exact ⟨(by rw [(((((hF.pos hq1).pos hq2).pos hq3).neg hq4)).eq] <;> first | rfl | (simp only [List.length_set] <;> rfl)), hw1.ext_out⟩
  refine JL_qg (q_move) (k := ?_)
  refine JL_qg (q_eql) (k := ?_)
  refine JL_q (q_pickT) (k := ?_)
  refine JL_q (q_move) (k := ?_)
  refine JL_dec 66 rfl (fun hq5 => ?_) (fun hq5 => ?_)
  rotate_left
  · refine JL_skips 2 rfl ?_
    refine JL_q (q_pickF) (k := ?_)
    refine JL_q (q_move) (k := ?_)
    refine JL_skips 2 rfl ?_
    refine JL_q (q_pickF) (k := ?_)
    refine JL_q (q_move) (k := ?_)
    refine JL_skips 2 rfl ?_
    refine JL_q (q_pickF) (k := ?_)
    refine JL_q (q_move) (k := ?_)
    refine JL_skips 2 rfl ?_
    refine JL_q (q_pickF) (k := ?_)
    refine JL_q (q_move) (k := ?_)
    refine JL_skips 3 rfl ?_
    refine JL_q (q_pickF) (k := ?_)
    refine JL_q (q_move) (k := ?_)
    refine JL_skip (k := ?_)
    refine JL_q (q_pickF) (k := ?_)
    refine JL_q (q_move) (k := ?_)
    refine JL_skips 2 rfl ?_
    refine JL_q (q_pickF) (k := ?_)
    refine JL_q (q_move) (k := ?_)
    refine JL_skips 3 rfl ?_
    refine JL_q (q_pickF) (k := ?_)
    refine JL_q (q_assign) (k := ?_)
    refine JL_nil ?_
    refine JX_seq ?_
    refine J_ret ?_
    refine JX_ret Tryd.results8 (Res.tmp rfl Res.nil) (fun w1 hw1 => ?_)
    exact ⟨(by rw [((((((hF.pos hq1).pos hq2).pos hq3).pos hq4).neg hq5)).eq] <;> first | rfl | (simp only [List.length_set] <;> rfl)), hw1.ext_out⟩
  refine JL_qg (q_move) (k := ?_)
  refine JL_qg (q_eqT) (k := ?_)
  refine JL_q (q_pickT) (k := ?_)
  refine JL_q (q_move) (k := ?_)
  refine JL_dec 70 rfl (fun hq6 => ?_) (fun hq6 => ?_)
  rotate_left
  · refine JL_skips 2 rfl ?_
    refine JL_q (q_pickF) (k := ?_)
    refine JL_q (q_move) (k := ?_)
    refine JL_skips 2 rfl ?_
    refine JL_q (q_pickF) (k := ?_)
    refine JL_q (q_move) (k := ?_)
    refine JL_skips 2 rfl ?_
    refine JL_q (q_pickF) (k := ?_)
    refine JL_q (q_move) (k := ?_)
    refine JL_skips 3 rfl ?_
    refine JL_q (q_pickF) (k := ?_)
    refine JL_q (q_move) (k := ?_)
    refine JL_skip (k := ?_)
    refine JL_q (q_pickF) (k := ?_)
    refine JL_q (q_move) (k := ?_)
    refine JL_skips 2 rfl ?_
    refine JL_q (q_pickF) (k := ?_)
    refine JL_q (q_move) (k := ?_)
    refine JL_skips 3 rfl ?_
    refine JL_q (q_pickF) (k := ?_)
    refine JL_q (q_assign) (k := ?_)
    refine JL_nil ?_
    refine JX_seq ?_
    refine J_ret ?_
    refine JX_ret Tryd.results8 (Res.tmp rfl Res.nil) (fun w1 hw1 => ?_)
    exact ⟨(by rw [(((((((hF.pos hq1).pos hq2).pos hq3).pos hq4).pos hq5).neg hq6)).eq] <;> first | rfl | (simp only [List.length_set] <;> rfl)), hw1.ext_out⟩
  refine JL_qg (q_move) (k := ?_)
  refine JL_qg (q_eql) (k := ?_)
  refine JL_q (q_pickT) (k := ?_)
  refine JL_q (q_move) (k := ?_)
  refine JL_dec 74 rfl (fun hq7 => ?_) (fun hq7 => ?_)
  rotate_left
  · refine JL_skips 2 rfl ?_
    refine JL_q (q_pickF) (k := ?_)
    refine JL_q (q_move) (k := ?_)
    refine JL_skips 2 rfl ?_
    refine JL_q (q_pickF) (k := ?_)
    refine JL_q (q_move) (k := ?_)
    refine JL_skips 3 rfl ?_
    refine JL_q (q_pickF) (k := ?_)
    refine JL_q (q_move) (k := ?_)
    refine JL_skip (k := ?_)
    refine JL_q (q_pickF) (k := ?_)
    refine JL_q (q_move) (k := ?_)
    refine JL_skips 2 rfl ?_
    refine JL_q (q_pickF) (k := ?_)
    refine JL_q (q_move) (k := ?_)
    refine JL_skips 3 rfl ?_
    refine JL_q (q_pickF) (k := ?_)
    refine JL_q (q_assign) (k := ?_)
    refine JL_nil ?_
    refine JX_seq ?_
    refine J_ret ?_
    refine JX_ret Tryd.results8 (Res.tmp rfl Res.nil) (fun w1 hw1 => ?_)
    exact ⟨(by rw [((((((((hF.pos hq1).pos hq2).pos hq3).pos hq4).pos hq5).pos hq6).neg hq7)).eq] <;> first | rfl | (simp only [List.length_set] <;> rfl)), hw1.ext_out⟩
  refine JL_qg (q_move) (k := ?_)
  refine JL_qg (q_eql) (k := ?_)
  refine JL_q (q_pickT) (k := ?_)
  refine JL_q (q_move) (k := ?_)
  refine JL_dec 78 rfl (fun hq8 => ?_) (fun hq8 => ?_)
  rotate_left
  · refine JL_skips 2 rfl ?_
    refine JL_q (q_pickF) (k := ?_)
    refine JL_q (q_move) (k := ?_)
    refine JL_skips 3 rfl ?_
    refine JL_q (q_pickF) (k := ?_)
    refine JL_q (q_move) (k := ?_)
    refine JL_skip (k := ?_)
    refine JL_q (q_pickF) (k := ?_)
    refine JL_q (q_move) (k := ?_)
    refine JL_skips 2 rfl ?_
    refine JL_q (q_pickF) (k := ?_)
    refine JL_q (q_move) (k := ?_)
    refine JL_skips 3 rfl ?_
    refine JL_q (q_pickF) (k := ?_)
    refine JL_q (q_assign) (k := ?_)
    refine JL_nil ?_
    refine JX_seq ?_
    refine J_ret ?_
    refine JX_ret Tryd.results8 (Res.tmp rfl Res.nil) (fun w1 hw1 => ?_)
    exact ⟨(by rw [(((((((((hF.pos hq1).pos hq2).pos hq3).pos hq4).pos hq5).pos hq6).pos hq7).neg hq8)).eq] <;> first | rfl | (simp only [List.length_set] <;> rfl)), hw1.ext_out⟩
  refine JL_qg (q_move) (k := ?_)
  refine JL_qg (q_eql) (k := ?_)
  refine JL_q (q_pickT) (k := ?_)
  refine JL_q (q_move) (k := ?_)
  refine JL_dec 82 rfl (fun hq9 => ?_) (fun hq9 => ?_)
  rotate_left
  · refine JL_skips 3 rfl ?_
    refine JL_q (q_pickF) (k := ?_)
    refine JL_q (q_move) (k := ?_)
    refine JL_skip (k := ?_)
    refine JL_q (q_pickF) (k := ?_)
    refine JL_q (q_move) (k := ?_)
    refine JL_skips 2 rfl ?_
    refine JL_q (q_pickF) (k := ?_)
    refine JL_q (q_move) (k := ?_)
    refine JL_skips 3 rfl ?_
    refine JL_q (q_pickF) (k := ?_)
    refine JL_q (q_assign) (k := ?_)
    refine JL_nil ?_
    refine JX_seq ?_
    refine J_ret ?_
    refine JX_ret Tryd.results8 (Res.tmp rfl Res.nil) (fun w1 hw1 => ?_)
    exact ⟨(by rw [((((((((((hF.pos hq1).pos hq2).pos hq3).pos hq4).pos hq5).pos hq6).pos hq7).pos hq8).neg hq9)).eq] <;> first | rfl | (simp only [List.length_set] <;> rfl)), hw1.ext_out⟩
  refine JL_qg (q_loadA Tryd.isAgg23 Tryd.sizeOf23) (k := ?_)
  refine JL_qg (q_loadA Tryd.isAgg23 Tryd.sizeOf23) (k := ?_)
  refine JL_qg (q_eqS (EQ_23 _ _ _ _ _ _)) (k := ?_)
  refine JL_q (q_pickT) (k := ?_)
  refine JL_q (q_move) (k := ?_)
  refine JL_dec 87 rfl (fun hq10 => ?_) (fun hq10 => ?_)
  rotate_left
  · refine JL_skip (k := ?_)
    refine JL_q (q_pickF) (k := ?_)
    refine JL_q (q_move) (k := ?_)
    refine JL_skips 2 rfl ?_
    refine JL_q (q_pickF) (k := ?_)
    refine JL_q (q_move) (k := ?_)
    refine JL_skips 3 rfl ?_
    refine JL_q (q_pickF) (k := ?_)
    refine JL_q (q_assign) (k := ?_)
    refine JL_nil ?_
    refine JX_seq ?_
    refine J_ret ?_
    refine JX_ret Tryd.results8 (Res.tmp rfl Res.nil) (fun w1 hw1 => ?_)
    exact ⟨(by rw [(((((((((((hF.pos hq1).pos hq2).pos hq3).pos hq4).pos hq5).pos hq6).pos hq7).pos hq8).pos hq9).neg hq10)).eq] <;> first | rfl | (simp only [List.length_set] <;> rfl)), hw1.ext_out⟩
  refine JL_qg (q_move) (k := ?_)
  refine JL_q (q_pickT) (k := ?_)
  refine JL_q (q_move) (k := ?_)
  refine JL_bool 90 rfl (fun hq11 => ?_) (fun hq11 => ?_)
  rotate_left
  · refine JL_skips 2 rfl ?_
    refine JL_q (q_pickF) (k := ?_)
    refine JL_q (q_move) (k := ?_)
    refine JL_skips 3 rfl ?_
    refine JL_q (q_pickF) (k := ?_)
    refine JL_q (q_assign) (k := ?_)
    refine JL_nil ?_
    refine JX_seq ?_
    refine J_ret ?_
    refine JX_ret Tryd.results8 (Res.tmp rfl Res.nil) (fun w1 hw1 => ?_)
    exact ⟨(by rw [((((((((((((hF.pos hq1).pos hq2).pos hq3).pos hq4).pos hq5).pos hq6).pos hq7).pos hq8).pos hq9).pos hq10).f hq11)).eq] <;> first | rfl | (simp only [List.length_set] <;> rfl)), hw1.ext_out⟩
  refine JL_qg (q_loadA Tryd.isAgg23 Tryd.sizeOf23) (k := ?_)
  refine JL_vg (args := [(Value.agg [(Value.int .i64 (((pParse ([56, 48, 45, 57, 48] : Str)).1.lo))), (Value.int .i64 (((pParse ([56, 48, 45, 57, 48] : Str)).1.hi)))].toArray), (Value.int .i64 (80))]) (c_callA Tryd.call18) (fun w1 hw1 => pHas_ok w1 (p := (pParse ([56, 48, 45, 57, 48] : Str)).1) (n_ := 80)) (k := ?_)
  refine JL_q (q_pickT) (k := ?_)
  refine JL_q (q_move) (k := ?_)
  refine JL_bool 94 rfl (fun hq12 => ?_) (fun hq12 => ?_)
  rotate_left
  · refine JL_skips 3 rfl ?_
    refine JL_q (q_pickF) (k := ?_)
    refine JL_q (q_assign) (k := ?_)
    refine JL_nil ?_
    refine JX_seq ?_
    refine J_ret ?_
    refine JX_ret Tryd.results8 (Res.tmp rfl Res.nil) (fun w1 hw1 => ?_)
    exact ⟨(by rw [(((((((((((((hF.pos hq1).pos hq2).pos hq3).pos hq4).pos hq5).pos hq6).pos hq7).pos hq8).pos hq9).pos hq10).t hq11).f hq12)).eq] <;> first | rfl | (simp only [List.length_set] <;> rfl)), hw1.ext_out⟩
  refine JL_qg (q_loadA Tryd.isAgg23 Tryd.sizeOf23) (k := ?_)
  refine JL_vg (args := [(Value.agg [(Value.int .i64 (((pParse ([56, 48, 45, 57, 48] : Str)).1.lo))), (Value.int .i64 (((pParse ([56, 48, 45, 57, 48] : Str)).1.hi)))].toArray), (Value.int .i64 (91))]) (c_callA Tryd.call18) (fun w1 hw1 => pHas_ok w1 (p := (pParse ([56, 48, 45, 57, 48] : Str)).1) (n_ := 91)) (k := ?_)
  refine JL_qg (q_not) (k := ?_)
  refine JL_q (q_pickT) (k := ?_)
  refine JL_q (q_assign) (k := ?_)
  refine JL_nil ?_
  refine JX_seq ?_
  refine J_ret ?_
  refine JX_ret Tryd.results8 (Res.tmp rfl Res.nil) (fun w1 hw1 => ?_)
  exact ⟨(by rw [(((((((((((((hF.pos hq1).pos hq2).pos hq3).pos hq4).pos hq5).pos hq6).pos hq7).pos hq8).pos hq9).pos hq10).t hq11).t hq12)).eq] <;> first | rfl | (simp only [List.length_set] <;> rfl)), hw1.ext_out⟩

theorem pCut_ok (w : World) {s : Str} : Val Tryd.prog 9 [(Value.string (bs s))] w (Value.string (bs (pCut s))) := by
  have hF := Is.refl (pCut s)
  refine enter Tryd.func9 Tryd.ntmps9 (h := ?_)
  refine J_seq ?_
  refine J_reg ?_
  refine JL_q (q_assign) (k := ?_)
  refine JL_nil ?_
  refine JX_seq ?_
  refine J_seq ?_
  refine J_reg ?_
  refine JL_q (q_move) (k := ?_)
  refine JL_q (q_move) (k := ?_)
  refine JL_q (q_lenT Tryd.runUnderlying9) (k := ?_)
  refine JL_q (q_min) (k := ?_)
  refine JL_q (q_subThi (s := s) (min s.length 40) Tryd.runUnderlying9 (by omega) (hj := by split <;> omega)) (k := ?_)
  refine JL_q (q_assign) (k := ?_)
  refine JL_nil ?_
  refine JX_seq ?_
  refine J_ret ?_
  refine JX_ret Tryd.results9 (Res.tmp rfl Res.nil) (fun w1 hw1 => ?_)
  exact ⟨(by rw [(hF).eq] <;> first | rfl | (simp only [List.length_set] <;> rfl)), hw1.ext_out⟩

theorem lPortsTexts_ok (w : World) {ea0 : Addr} {ea1 : Addr} {p : PortsT} {q : PortsT} {s : Str} {n_ : Int} (hG : Gl w) (hE : Er w ea0 ea1) : Val Tryd.prog 3 [(Value.agg [(Value.int .i64 (p.lo)), (Value.int .i64 (p.hi))].toArray), (Value.agg [(Value.int .i64 (q.lo)), (Value.int .i64 (q.hi))].toArray), (Value.string (bs s)), (Value.int .i64 (n_))] w (Value.bool ((lPortsTexts p q s n_))) := by
  have hF := Is.refl (lPortsTexts p q s n_)
  refine enter Tryd.func3 Tryd.ntmps3 (h := ?_)
  refine J_seq ?_
  refine J_reg ?_
  refine JL_a noMk (a_box (l := [_, _])) (k := fun r1 hr1 => ?_)
  refine JL_a noMk (a_box (l := [_, _])) (k := fun r2 hr2 => ?_)
  refine JL_q (q_assign) (k := ?_)
  refine JL_nil ?_
  refine JX_seq ?_
  refine J_seq ?_
  refine J_reg ?_
  refine JL_v (args := []) (c_callA Tryd.call8) (fun w1 hw1 => pShown_ok w1 (hG := hG.ext hw1.ext_out) (hE := hE.ext hw1.ext_out)) (k := ?_)
  refine JL_q (q_assign) (k := ?_)
  refine JL_nil ?_
  refine JX_seq ?_
  refine J_seq ?_
  refine J_reg ?_
  refine JL_q (q_move) (k := ?_)
  refine JL_v (args := [(Value.string (bs s))]) (c_callA Tryd.call9) (fun w1 hw1 => pCut_ok w1 (s := s)) (k := ?_)
  have hcu_98446 := pCut_len s
  refine JL_q (q_assign) (k := ?_)
  refine JL_nil ?_
  refine JX_seq ?_
  refine J_seq ?_
  refine J_reg ?_
  refine JL_q (q_loadA Tryd.isAgg23 Tryd.sizeOf23) (k := ?_)
  refine JL_v (args := [(Value.agg [(Value.int .i64 (p.lo)), (Value.int .i64 (p.hi))].toArray)]) (c_callA Tryd.call10) (fun w1 hw1 => pPrint_ok w1 (p := p) (hG := hG.ext hw1.ext_out) (hE := hE.ext hw1.ext_out)) (k := ?_)
  have hpp_54316 := pPrint_len p
  refine JL_q (q_move) (k := ?_)
  refine JL_q (q_ext) (k := ?_)
  refine JL_q (q_ext) (k := ?_)
  refine JL_q (q_assign) (k := ?_)
  refine JL_q (q_assign) (k := ?_)
  refine JL_nil ?_
  refine JX_seq ?_
  refine J_seq ?_
  refine J_reg ?_
  refine JL_q (q_loadA Tryd.isAgg23 Tryd.sizeOf23) (k := ?_)
  refine JL_v (args := [(Value.agg [(Value.int .i64 (p.lo)), (Value.int .i64 (p.hi))].toArray)]) (c_callA Tryd.call11) (fun w1 hw1 => rPPrint_ok w1 (p := p)) (k := ?_)
  refine JL_q (q_move) (k := ?_)
  refine JL_q (q_ext) (k := ?_)
  refine JL_q (q_ext) (k := ?_)
  refine JL_q (q_assign) (k := ?_)
  refine JL_q (q_assign) (k := ?_)
  refine JL_nil ?_
  refine JX_seq ?_
  refine J_seq ?_
  refine J_reg ?_
  refine JL_q (q_move) (k := ?_)
  refine JL_v (args := [(Value.string (bs (pCut s)))]) (c_callA Tryd.call12) (fun w1 hw1 => pParse_ok w1 (s := (pCut s)) (n_s := by first | omega | (simp only [List.length_append, List.length_take, List.length_drop, List.length_set, List.length_replicate, List.length_cons, List.length_nil, List.length_map]; omega) | (simp only [List.length_append, List.length_take, List.length_drop, List.length_set, List.length_replicate, List.length_cons, List.length_nil, List.length_map] at *; omega) | decide) (hG := hG.ext hw1.ext_out) (hE := hE.ext hw1.ext_out)) (k := ?_)
  refine JL_q (q_move) (k := ?_)
  refine JL_q (q_ext) (k := ?_)
  refine JL_q (q_ext) (k := ?_)
  refine JL_a noMk (a_alloc (l := [_, _]) Tryd.zeroValue23) (k := fun r3 hr3 => ?_)
  refine JL_s (w_store (l' := [_, _]) Tryd.sizeOf23) (k := ?_)
  refine JL_q (q_assign) (k := ?_)
  refine JL_nil ?_
  refine JX_seq ?_
  refine J_seq ?_
  refine J_reg ?_
  refine JL_q (q_move) (k := ?_)
  refine JL_v (args := [(Value.string (bs (pCut s)))]) (c_callA Tryd.call13) (fun w1 hw1 => rPParse_ok w1 (s := (pCut s)) (n_s := by first | omega | (simp only [List.length_append, List.length_take, List.length_drop, List.length_set, List.length_replicate, List.length_cons, List.length_nil, List.length_map]; omega) | (simp only [List.length_append, List.length_take, List.length_drop, List.length_set, List.length_replicate, List.length_cons, List.length_nil, List.length_map] at *; omega) | decide)) (k := ?_)
  refine JL_q (q_move) (k := ?_)
  refine JL_q (q_ext) (k := ?_)
  refine JL_q (q_ext) (k := ?_)
  refine JL_a noMk (a_alloc (l := [_, _]) Tryd.zeroValue23) (k := fun r4 hr4 => ?_)
  refine JL_s (w_store (l' := [_, _]) Tryd.sizeOf23) (k := ?_)
  refine JL_q (q_assign) (k := ?_)
  refine JL_nil ?_
  refine JX_seq ?_
  refine J_seq ?_
  refine J_reg ?_
  refine JL_q (q_loadA Tryd.isAgg23 Tryd.sizeOf23) (k := ?_)
  refine JL_q (q_loadA Tryd.isAgg23 Tryd.sizeOf23) (k := ?_)
  refine JL_v (args := [(Value.agg [(Value.int .i64 (p.lo)), (Value.int .i64 (p.hi))].toArray), (Value.agg [(Value.int .i64 (q.lo)), (Value.int .i64 (q.hi))].toArray)]) (c_callA Tryd.call14) (fun w1 hw1 => pMeet_ok w1 (p := p) (q := q)) (k := ?_)
  refine JL_q (q_move) (k := ?_)
  refine JL_q (q_ext) (k := ?_)
  refine JL_q (q_ext) (k := ?_)
  refine JL_a noMk (a_alloc (l := [_, _]) Tryd.zeroValue23) (k := fun r5 hr5 => ?_)
  refine JL_s (w_store (l' := [_, _]) Tryd.sizeOf23) (k := ?_)
  refine JL_q (q_assign) (k := ?_)
  refine JL_nil ?_
  refine JX_seq ?_
  refine J_seq ?_
  refine J_reg ?_
  refine JL_q (q_loadA Tryd.isAgg23 Tryd.sizeOf23) (k := ?_)
  refine JL_q (q_loadA Tryd.isAgg23 Tryd.sizeOf23) (k := ?_)
  refine JL_v (args := [(Value.agg [(Value.int .i64 (p.lo)), (Value.int .i64 (p.hi))].toArray), (Value.agg [(Value.int .i64 (q.lo)), (Value.int .i64 (q.hi))].toArray)]) (c_callA Tryd.call15) (fun w1 hw1 => rPMeet_ok w1 (p := p) (q := q)) (k := ?_)
  refine JL_q (q_move) (k := ?_)
  refine JL_q (q_ext) (k := ?_)
  refine JL_q (q_ext) (k := ?_)
  refine JL_a noMk (a_alloc (l := [_, _]) Tryd.zeroValue23) (k := fun r6 hr6 => ?_)
  refine JL_s (w_store (l' := [_, _]) Tryd.sizeOf23) (k := ?_)
  refine JL_q (q_assign) (k := ?_)
  refine JL_nil ?_
  refine JX_seq ?_
  refine J_seq ?_
  refine J_plan mixed 48 [(true, 0), (true, 1), (true, 2), (true, 4), (false, 3), (false, 5), (true, 6), (true, 7), (true, 8), (true, 9), (true, 10), (true, 11), (true, 12), (true, 13), (true, 14), (true, 15), (true, 16), (true, 17), (true, 18), (true, 19), (true, 20), (true, 21), (true, 22), (true, 23), (true, 24), (true, 25), (true, 26), (true, 27), (true, 28), (true, 29), (true, 30), (true, 31), (true, 32), (true, 33), (true, 34), (true, 35), (true, 36), (true, 37), (true, 38), (true, 39), (true, 40), (true, 42), (true, 43), (false, 41), (false, 44), (true, 45), (true, 46), (true, 47)] (by kernel_rfl) ?_
  refine JD_q (q_move) (k := ?_)
  refine JD_q (q_move) (k := ?_)
  refine JD_bool 58 rfl (fun hq1 => ?_) (fun hq1 => ?_)
  rotate_left
  · refine JD_skips 5 rfl ?_
    refine JD_q (q_pickF) (k := ?_)
    refine JD_q (q_move) (k := ?_)
    refine JD_skips 3 rfl ?_
    refine JD_q (q_pickF) (k := ?_)
    refine JD_q (q_move) (k := ?_)
    refine JD_skips 3 rfl ?_
    refine JD_q (q_pickF) (k := ?_)
    refine JD_q (q_move) (k := ?_)
    refine JD_skips 3 rfl ?_
    refine JD_q (q_pickF) (k := ?_)
    refine JD_q (q_move) (k := ?_)
    refine JD_skips 3 rfl ?_
    refine JD_q (q_pickF) (k := ?_)
    refine JD_q (q_move) (k := ?_)
    refine JD_skips 3 rfl ?_
    refine JD_q (q_pickF) (k := ?_)
    refine JD_q (q_move) (k := ?_)
    refine JD_skips 3 rfl ?_
    refine JD_q (q_pickF) (k := ?_)
    refine JD_q (q_move) (k := ?_)
    refine JD_skips 7 rfl ?_
    refine JD_q (q_pickF) (k := ?_)
    refine JD_q (q_assign) (k := ?_)
    refine JD_nil ?_
    refine JL_nil ?_
    refine JX_seq ?_
    refine J_ret ?_
    refine JX_ret Tryd.results3 (Res.tmp rfl Res.nil) (fun w1 hw1 => ?_)
    exact ⟨(by rw [((hF.f hq1)).eq] <;> first | rfl | (simp only [List.length_set] <;> rfl)), hw1.ext_out⟩
  refine JD_qg (q_loadA Tryd.isAgg23 Tryd.sizeOf23) (k := ?_)
  refine JD_qg (q_loadA Tryd.isAgg23 Tryd.sizeOf23) (k := ?_)
  refine JD_vg (args := [(Value.agg [(Value.int .i64 (p.lo)), (Value.int .i64 (p.hi))].toArray)]) (c_callA Tryd.call16) (fun w1 hw1 => pRight_ok w1 (p := p)) (k := ?_)
  refine JD_vg (args := [(Value.agg [(Value.int .i64 (p.lo)), (Value.int .i64 (p.hi))].toArray)]) (c_callA Tryd.call17) (fun w1 hw1 => rPRight_ok w1 (p := p)) (k := ?_)
  refine JD_qg (q_eqlB Tryd.runUnderlying4) (k := ?_)
  refine JD_q (q_pickT) (k := ?_)
  refine JD_q (q_move) (k := ?_)
  refine JD_bool 65 rfl (fun hq2 => ?_) (fun hq2 => ?_)
  rotate_left
  · refine JD_skips 3 rfl ?_
    refine JD_q (q_pickF) (k := ?_)
    refine JD_q (q_move) (k := ?_)
    refine JD_skips 3 rfl ?_
    refine JD_q (q_pickF) (k := ?_)
    refine JD_q (q_move) (k := ?_)
    refine JD_skips 3 rfl ?_
    refine JD_q (q_pickF) (k := ?_)
    refine JD_q (q_move) (k := ?_)
    refine JD_skips 3 rfl ?_
    refine JD_q (q_pickF) (k := ?_)
    refine JD_q (q_move) (k := ?_)
    refine JD_skips 3 rfl ?_
    refine JD_q (q_pickF) (k := ?_)
    refine JD_q (q_move) (k := ?_)
    refine JD_skips 3 rfl ?_
    refine JD_q (q_pickF) (k := ?_)
    refine JD_q (q_move) (k := ?_)
    refine JD_skips 7 rfl ?_
    refine JD_q (q_pickF) (k := ?_)
    refine JD_q (q_assign) (k := ?_)
    refine JD_nil ?_
    refine JL_nil ?_
    refine JX_seq ?_
    refine J_ret ?_
    refine JX_ret Tryd.results3 (Res.tmp rfl Res.nil) (fun w1 hw1 => ?_)
    exact ⟨(by rw [(((hF.t hq1).f hq2)).eq] <;> first | rfl | (simp only [List.length_set] <;> rfl)), hw1.ext_out⟩
  refine JD_qg (q_move) (k := ?_)
  refine JD_qg (q_move) (k := ?_)
  refine JD_qg (q_eqT) (k := ?_)
  refine JD_q (q_pickT) (k := ?_)
  refine JD_q (q_move) (k := ?_)
  refine JD_dec 70 rfl (fun hq3 => ?_) (fun hq3 => ?_)
  rotate_left
  · refine JD_skips 3 rfl ?_
    refine JD_q (q_pickF) (k := ?_)
    refine JD_q (q_move) (k := ?_)
    refine JD_skips 3 rfl ?_
    refine JD_q (q_pickF) (k := ?_)
    refine JD_q (q_move) (k := ?_)
    refine JD_skips 3 rfl ?_
    refine JD_q (q_pickF) (k := ?_)
    refine JD_q (q_move) (k := ?_)
    refine JD_skips 3 rfl ?_
    refine JD_q (q_pickF) (k := ?_)
    refine JD_q (q_move) (k := ?_)
    refine JD_skips 3 rfl ?_
    refine JD_q (q_pickF) (k := ?_)
    refine JD_q (q_move) (k := ?_)
    refine JD_skips 7 rfl ?_
    refine JD_q (q_pickF) (k := ?_)
    refine JD_q (q_assign) (k := ?_)
    refine JD_nil ?_
    refine JL_nil ?_
    refine JX_seq ?_
    refine J_ret ?_
    refine JX_ret Tryd.results3 (Res.tmp rfl Res.nil) (fun w1 hw1 => ?_)
    exact ⟨(by rw [((((hF.t hq1).t hq2).neg hq3)).eq] <;> first | rfl | (simp only [List.length_set] <;> rfl)), hw1.ext_out⟩
  refine JD_qg (q_move) (k := ?_)
  refine JD_qg (q_move) (k := ?_)
  refine JD_qg (q_eql) (k := ?_)
  refine JD_q (q_pickT) (k := ?_)
  refine JD_q (q_move) (k := ?_)
  refine JD_dec 75 rfl (fun hq4 => ?_) (fun hq4 => ?_)
  rotate_left
  · refine JD_skips 3 rfl ?_
    refine JD_q (q_pickF) (k := ?_)
    refine JD_q (q_move) (k := ?_)
    refine JD_skips 3 rfl ?_
    refine JD_q (q_pickF) (k := ?_)
    refine JD_q (q_move) (k := ?_)
    refine JD_skips 3 rfl ?_
    refine JD_q (q_pickF) (k := ?_)
    refine JD_q (q_move) (k := ?_)
    refine JD_skips 3 rfl ?_
    refine JD_q (q_pickF) (k := ?_)
    refine JD_q (q_move) (k := ?_)
    refine JD_skips 7 rfl ?_
    refine JD_q (q_pickF) (k := ?_)
    refine JD_q (q_assign) (k := ?_)
    refine JD_nil ?_
    refine JL_nil ?_
    refine JX_seq ?_
    refine J_ret ?_
    refine JX_ret Tryd.results3 (Res.tmp rfl Res.nil) (fun w1 hw1 => ?_)
    exact ⟨(by rw [(((((hF.t hq1).t hq2).pos hq3).neg hq4)).eq] <;> first | rfl | (simp only [List.length_set] <;> rfl)), hw1.ext_out⟩
  refine JD_qg (q_loadA Tryd.isAgg23 Tryd.sizeOf23) (k := ?_)
  refine JD_qg (q_loadA Tryd.isAgg23 Tryd.sizeOf23) (k := ?_)
  refine JD_qg (q_eqS (EQ_23 _ _ _ _ _ _)) (k := ?_)
  refine JD_q (q_pickT) (k := ?_)
  refine JD_q (q_move) (k := ?_)
  refine JD_dec 80 rfl (fun hq5 => ?_) (fun hq5 => ?_)
  rotate_left
  · refine JD_skips 3 rfl ?_
    refine JD_q (q_pickF) (k := ?_)
    refine JD_q (q_move) (k := ?_)
    refine JD_skips 3 rfl ?_
    refine JD_q (q_pickF) (k := ?_)
    refine JD_q (q_move) (k := ?_)
    refine JD_skips 3 rfl ?_
    refine JD_q (q_pickF) (k := ?_)
    refine JD_q (q_move) (k := ?_)
    refine JD_skips 7 rfl ?_
    refine JD_q (q_pickF) (k := ?_)
    refine JD_q (q_assign) (k := ?_)
    refine JD_nil ?_
    refine JL_nil ?_
    refine JX_seq ?_
    refine J_ret ?_
    refine JX_ret Tryd.results3 (Res.tmp rfl Res.nil) (fun w1 hw1 => ?_)
    exact ⟨(by rw [((((((hF.t hq1).t hq2).pos hq3).pos hq4).neg hq5)).eq] <;> first | rfl | (simp only [List.length_set] <;> rfl)), hw1.ext_out⟩
  refine JD_qg (q_move) (k := ?_)
  refine JD_qg (q_move) (k := ?_)
  refine JD_qg (q_eql) (k := ?_)
  refine JD_q (q_pickT) (k := ?_)
  refine JD_q (q_move) (k := ?_)
  refine JD_dec 85 rfl (fun hq6 => ?_) (fun hq6 => ?_)
  rotate_left
  · refine JD_skips 3 rfl ?_
    refine JD_q (q_pickF) (k := ?_)
    refine JD_q (q_move) (k := ?_)
    refine JD_skips 3 rfl ?_
    refine JD_q (q_pickF) (k := ?_)
    refine JD_q (q_move) (k := ?_)
    refine JD_skips 7 rfl ?_
    refine JD_q (q_pickF) (k := ?_)
    refine JD_q (q_assign) (k := ?_)
    refine JD_nil ?_
    refine JL_nil ?_
    refine JX_seq ?_
    refine J_ret ?_
    refine JX_ret Tryd.results3 (Res.tmp rfl Res.nil) (fun w1 hw1 => ?_)
    exact ⟨(by rw [(((((((hF.t hq1).t hq2).pos hq3).pos hq4).pos hq5).neg hq6)).eq] <;> first | rfl | (simp only [List.length_set] <;> rfl)), hw1.ext_out⟩
  refine JD_qg (q_loadA Tryd.isAgg23 Tryd.sizeOf23) (k := ?_)
  refine JD_qg (q_loadA Tryd.isAgg23 Tryd.sizeOf23) (k := ?_)
  refine JD_qg (q_eqS (EQ_23 _ _ _ _ _ _)) (k := ?_)
  refine JD_q (q_pickT) (k := ?_)
  refine JD_q (q_move) (k := ?_)
  refine JD_dec 90 rfl (fun hq7 => ?_) (fun hq7 => ?_)
  rotate_left
  · refine JD_skips 3 rfl ?_
    refine JD_q (q_pickF) (k := ?_)
    refine JD_q (q_move) (k := ?_)
    refine JD_skips 7 rfl ?_
    refine JD_q (q_pickF) (k := ?_)
    refine JD_q (q_assign) (k := ?_)
    refine JD_nil ?_
    refine JL_nil ?_
    refine JX_seq ?_
    refine J_ret ?_
    refine JX_ret Tryd.results3 (Res.tmp rfl Res.nil) (fun w1 hw1 => ?_)
    exact ⟨(by rw [((((((((hF.t hq1).t hq2).pos hq3).pos hq4).pos hq5).pos hq6).neg hq7)).eq] <;> first | rfl | (simp only [List.length_set] <;> rfl)), hw1.ext_out⟩
  refine JD_qg (q_move) (k := ?_)
  refine JD_qg (q_move) (k := ?_)
  refine JD_qg (q_eqlB Tryd.runUnderlying4) (k := ?_)
  refine JD_q (q_pickT) (k := ?_)
  refine JD_q (q_move) (k := ?_)
  refine JD_bool 95 rfl (fun hq8 => ?_) (fun hq8 => ?_)
  rotate_left
  · refine JD_skips 7 rfl ?_
    refine JD_q (q_pickF) (k := ?_)
    refine JD_q (q_assign) (k := ?_)
    refine JD_nil ?_
    refine JL_nil ?_
    refine JX_seq ?_
    refine J_ret ?_
    refine JX_ret Tryd.results3 (Res.tmp rfl Res.nil) (fun w1 hw1 => ?_)
    exact ⟨(by rw [(((((((((hF.t hq1).t hq2).pos hq3).pos hq4).pos hq5).pos hq6).pos hq7).f hq8)).eq] <;> first | rfl | (simp only [List.length_set] <;> rfl)), hw1.ext_out⟩
  refine JD_qg (q_loadA Tryd.isAgg23 Tryd.sizeOf23) (k := ?_)
  refine JD_qg (q_move) (k := ?_)
  refine JD_qg (q_loadA Tryd.isAgg23 Tryd.sizeOf23) (k := ?_)
  refine JD_qg (q_move) (k := ?_)
  refine JD_vg (args := [(Value.agg [(Value.int .i64 (p.lo)), (Value.int .i64 (p.hi))].toArray), (Value.int .i64 (n_))]) (c_callA Tryd.call18) (fun w1 hw1 => pHas_ok w1 (p := p) (n_ := n_)) (k := ?_)
  refine JD_vg (args := [(Value.agg [(Value.int .i64 (p.lo)), (Value.int .i64 (p.hi))].toArray), (Value.int .i64 (n_))]) (c_callA Tryd.call19) (fun w1 hw1 => rPHas_ok w1 (p := p) (n_ := n_)) (k := ?_)
  refine JD_qg (q_eqlB Tryd.runUnderlying4) (k := ?_)
  refine JD_q (q_pickT) (k := ?_)
  refine JD_q (q_assign) (k := ?_)
  refine JD_nil ?_
  refine JL_nil ?_
  refine JX_seq ?_
  refine J_ret ?_
  refine JX_ret Tryd.results3 (Res.tmp rfl Res.nil) (fun w1 hw1 => ?_)
  exact ⟨(by rw [(((((((((hF.t hq1).t hq2).pos hq3).pos hq4).pos hq5).pos hq6).pos hq7).t hq8)).eq] <;> first | rfl | (simp only [List.length_set] <;> rfl)), hw1.ext_out⟩

theorem lPortsTargets_ok (w : World) {ea0 : Addr} {ea1 : Addr} {t : Target} {s : Str} (hG : Gl w) (hE : Er w ea0 ea1) : Val Tryd.prog 4 [(Value.agg [(Value.int .i64 (t.addr)), (Value.int .i64 (t.port))].toArray), (Value.string (bs s))] w (Value.bool ((lPortsTargets t s))) := by
  have hF := Is.refl (lPortsTargets t s)
  refine enter Tryd.func4 Tryd.ntmps4 (h := ?_)
  refine J_seq ?_
  refine J_reg ?_
  refine JL_a noMk (a_box (l := [_, _])) (k := fun r1 hr1 => ?_)
  refine JL_q (q_assign) (k := ?_)
  refine JL_nil ?_
  refine JX_seq ?_
  refine J_seq ?_
  refine J_reg ?_
  refine JL_v (args := []) (c_callA Tryd.call8) (fun w1 hw1 => pShown_ok w1 (hG := hG.ext hw1.ext_out) (hE := hE.ext hw1.ext_out)) (k := ?_)
  refine JL_q (q_assign) (k := ?_)
  refine JL_nil ?_
  refine JX_seq ?_
  refine J_seq ?_
  refine J_reg ?_
  refine JL_q (q_move) (k := ?_)
  refine JL_v (args := [(Value.string (bs s))]) (c_callA Tryd.call9) (fun w1 hw1 => pCut_ok w1 (s := s)) (k := ?_)
  have hcu_98446 := pCut_len s
  refine JL_q (q_assign) (k := ?_)
  refine JL_nil ?_
  refine JX_seq ?_
  refine J_seq ?_
  refine J_reg ?_
  refine JL_q (q_loadA Tryd.isAgg37 Tryd.sizeOf37) (k := ?_)
  refine JL_v (args := [(Value.agg [(Value.int .i64 (t.addr)), (Value.int .i64 (t.port))].toArray)]) (c_callA Tryd.call20) (fun w1 hw1 => tPrint_ok w1 (t := t) (hG := hG.ext hw1.ext_out) (hE := hE.ext hw1.ext_out)) (k := ?_)
  have htp_45540 := tPrint_len t
  refine JL_q (q_move) (k := ?_)
  refine JL_q (q_ext) (k := ?_)
  refine JL_q (q_ext) (k := ?_)
  refine JL_q (q_assign) (k := ?_)
  refine JL_q (q_assign) (k := ?_)
  refine JL_nil ?_
  refine JX_seq ?_
  refine J_seq ?_
  refine J_reg ?_
  refine JL_q (q_loadA Tryd.isAgg37 Tryd.sizeOf37) (k := ?_)
  refine JL_v (args := [(Value.agg [(Value.int .i64 (t.addr)), (Value.int .i64 (t.port))].toArray)]) (c_callA Tryd.call21) (fun w1 hw1 => rTPrint_ok w1 (t := t)) (k := ?_)
  refine JL_q (q_move) (k := ?_)
  refine JL_q (q_ext) (k := ?_)
  refine JL_q (q_ext) (k := ?_)
  refine JL_q (q_assign) (k := ?_)
  refine JL_q (q_assign) (k := ?_)
  refine JL_nil ?_
  refine JX_seq ?_
  refine J_seq ?_
  refine J_reg ?_
  refine JL_q (q_move) (k := ?_)
  refine JL_v (args := [(Value.string (bs (pCut s)))]) (c_callA Tryd.call22) (fun w1 hw1 => tParse_ok w1 (s := (pCut s)) (n_s := by first | omega | (simp only [List.length_append, List.length_take, List.length_drop, List.length_set, List.length_replicate, List.length_cons, List.length_nil, List.length_map]; omega) | (simp only [List.length_append, List.length_take, List.length_drop, List.length_set, List.length_replicate, List.length_cons, List.length_nil, List.length_map] at *; omega) | decide) (hG := hG.ext hw1.ext_out) (hE := hE.ext hw1.ext_out)) (k := ?_)
  refine JL_q (q_move) (k := ?_)
  refine JL_q (q_ext) (k := ?_)
  refine JL_q (q_ext) (k := ?_)
  refine JL_a noMk (a_alloc (l := [_, _]) Tryd.zeroValue37) (k := fun r2 hr2 => ?_)
  refine JL_s (w_store (l' := [_, _]) Tryd.sizeOf37) (k := ?_)
  refine JL_q (q_assign) (k := ?_)
  refine JL_nil ?_
  refine JX_seq ?_
  refine J_seq ?_
  refine J_reg ?_
  refine JL_q (q_move) (k := ?_)
  refine JL_v (args := [(Value.string (bs (pCut s)))]) (c_callA Tryd.call23) (fun w1 hw1 => rTParse_ok w1 (s := (pCut s)) (n_s := by first | omega | (simp only [List.length_append, List.length_take, List.length_drop, List.length_set, List.length_replicate, List.length_cons, List.length_nil, List.length_map]; omega) | (simp only [List.length_append, List.length_take, List.length_drop, List.length_set, List.length_replicate, List.length_cons, List.length_nil, List.length_map] at *; omega) | decide)) (k := ?_)
  refine JL_q (q_move) (k := ?_)
  refine JL_q (q_ext) (k := ?_)
  refine JL_q (q_ext) (k := ?_)
  refine JL_a noMk (a_alloc (l := [_, _]) Tryd.zeroValue37) (k := fun r3 hr3 => ?_)
  refine JL_s (w_store (l' := [_, _]) Tryd.sizeOf37) (k := ?_)
  refine JL_q (q_assign) (k := ?_)
  refine JL_nil ?_
  refine JX_seq ?_
  refine J_seq ?_
  refine J_reg ?_
  refine JL_q (q_move) (k := ?_)
  refine JL_q (q_move) (k := ?_)
  refine JL_bool 38 rfl (fun hq1 => ?_) (fun hq1 => ?_)
  rotate_left
  · refine JL_skips 3 rfl ?_
    refine JL_q (q_pickF) (k := ?_)
    refine JL_q (q_move) (k := ?_)
    refine JL_skips 3 rfl ?_
    refine JL_q (q_pickF) (k := ?_)
    refine JL_q (q_move) (k := ?_)
    refine JL_skips 3 rfl ?_
    refine JL_q (q_pickF) (k := ?_)
    refine JL_q (q_move) (k := ?_)
    refine JL_skips 3 rfl ?_
    refine JL_q (q_pickF) (k := ?_)
    refine JL_q (q_assign) (k := ?_)
    refine JL_nil ?_
    refine JX_seq ?_
    refine J_ret ?_
    refine JX_ret Tryd.results4 (Res.tmp rfl Res.nil) (fun w1 hw1 => ?_)
    exact ⟨(by rw [((hF.f hq1)).eq] <;> first | rfl | (simp only [List.length_set] <;> rfl)), hw1.ext_out⟩
  refine JL_qg (q_move) (k := ?_)
  refine JL_qg (q_move) (k := ?_)
  refine JL_qg (q_eqT) (k := ?_)
  refine JL_q (q_pickT) (k := ?_)
  refine JL_q (q_move) (k := ?_)
  refine JL_dec 43 rfl (fun hq2 => ?_) (fun hq2 => ?_)
  rotate_left
  · refine JL_skips 3 rfl ?_
    refine JL_q (q_pickF) (k := ?_)
    refine JL_q (q_move) (k := ?_)
    refine JL_skips 3 rfl ?_
    refine JL_q (q_pickF) (k := ?_)
    refine JL_q (q_move) (k := ?_)
    refine JL_skips 3 rfl ?_
    refine JL_q (q_pickF) (k := ?_)
    refine JL_q (q_assign) (k := ?_)
    refine JL_nil ?_
    refine JX_seq ?_
    refine J_ret ?_
    refine JX_ret Tryd.results4 (Res.tmp rfl Res.nil) (fun w1 hw1 => ?_)
    exact ⟨(by rw [(((hF.t hq1).neg hq2)).eq] <;> first | rfl | (simp only [List.length_set] <;> rfl)), hw1.ext_out⟩
  refine JL_qg (q_move) (k := ?_)
  refine JL_qg (q_move) (k := ?_)
  refine JL_qg (q_eql) (k := ?_)
  refine JL_q (q_pickT) (k := ?_)
  refine JL_q (q_move) (k := ?_)
  refine JL_dec 48 rfl (fun hq3 => ?_) (fun hq3 => ?_)
  rotate_left
  · refine JL_skips 3 rfl ?_
    refine JL_q (q_pickF) (k := ?_)
    refine JL_q (q_move) (k := ?_)
    refine JL_skips 3 rfl ?_
    refine JL_q (q_pickF) (k := ?_)
    refine JL_q (q_assign) (k := ?_)
    refine JL_nil ?_
    refine JX_seq ?_
    refine J_ret ?_
    refine JX_ret Tryd.results4 (Res.tmp rfl Res.nil) (fun w1 hw1 => ?_)
    exact ⟨(by rw [((((hF.t hq1).pos hq2).neg hq3)).eq] <;> first | rfl | (simp only [List.length_set] <;> rfl)), hw1.ext_out⟩
  refine JL_qg (q_loadA Tryd.isAgg37 Tryd.sizeOf37) (k := ?_)
  refine JL_qg (q_loadA Tryd.isAgg37 Tryd.sizeOf37) (k := ?_)
  refine JL_qg (q_eqS (EQ_37 _ _ _ _ _ _)) (k := ?_)
  refine JL_q (q_pickT) (k := ?_)
  refine JL_q (q_move) (k := ?_)
  refine JL_dec 53 rfl (fun hq4 => ?_) (fun hq4 => ?_)
  rotate_left
  · refine JL_skips 3 rfl ?_
    refine JL_q (q_pickF) (k := ?_)
    refine JL_q (q_assign) (k := ?_)
    refine JL_nil ?_
    refine JX_seq ?_
    refine J_ret ?_
    refine JX_ret Tryd.results4 (Res.tmp rfl Res.nil) (fun w1 hw1 => ?_)
    exact ⟨(by rw [(((((hF.t hq1).pos hq2).pos hq3).neg hq4)).eq] <;> first | rfl | (simp only [List.length_set] <;> rfl)), hw1.ext_out⟩
  refine JL_qg (q_move) (k := ?_)
  refine JL_qg (q_move) (k := ?_)
  refine JL_qg (q_eql) (k := ?_)
  refine JL_q (q_pickT) (k := ?_)
  refine JL_q (q_assign) (k := ?_)
  refine JL_nil ?_
  refine JX_seq ?_
  refine J_ret ?_
  refine JX_ret Tryd.results4 (Res.tmp rfl Res.nil) (fun w1 hw1 => ?_)
  exact ⟨(by rw [(((((hF.t hq1).pos hq2).pos hq3).pos hq4)).eq] <;> first | rfl | (simp only [List.length_set] <;> rfl)), hw1.ext_out⟩

theorem lPortsBack_ok (w : World) {ea0 : Addr} {ea1 : Addr} {p : PortsT} {t : Target} {s : Str} (hG : Gl w) (hE : Er w ea0 ea1) : Val Tryd.prog 5 [(Value.agg [(Value.int .i64 (p.lo)), (Value.int .i64 (p.hi))].toArray), (Value.agg [(Value.int .i64 (t.addr)), (Value.int .i64 (t.port))].toArray), (Value.string (bs s))] w (Value.bool ((lPortsBack p t s))) := by
  have hF := Is.refl (lPortsBack p t s)
  refine enter Tryd.func5 Tryd.ntmps5 (h := ?_)
  refine J_seq ?_
  refine J_reg ?_
  refine JL_a noMk (a_box (l := [_, _])) (k := fun r1 hr1 => ?_)
  refine JL_a noMk (a_box (l := [_, _])) (k := fun r2 hr2 => ?_)
  refine JL_q (q_assign) (k := ?_)
  refine JL_nil ?_
  refine JX_seq ?_
  refine J_seq ?_
  refine J_reg ?_
  refine JL_v (args := []) (c_callA Tryd.call8) (fun w1 hw1 => pShown_ok w1 (hG := hG.ext hw1.ext_out) (hE := hE.ext hw1.ext_out)) (k := ?_)
  refine JL_q (q_assign) (k := ?_)
  refine JL_nil ?_
  refine JX_seq ?_
  refine J_seq ?_
  refine J_reg ?_
  refine JL_q (q_move) (k := ?_)
  refine JL_v (args := [(Value.string (bs s))]) (c_callA Tryd.call9) (fun w1 hw1 => pCut_ok w1 (s := s)) (k := ?_)
  have hcu_98446 := pCut_len s
  refine JL_q (q_assign) (k := ?_)
  refine JL_nil ?_
  refine JX_seq ?_
  refine J_seq ?_
  refine J_reg ?_
  refine JL_q (q_loadA Tryd.isAgg23 Tryd.sizeOf23) (k := ?_)
  refine JL_v (args := [(Value.agg [(Value.int .i64 (p.lo)), (Value.int .i64 (p.hi))].toArray)]) (c_callA Tryd.call10) (fun w1 hw1 => pPrint_ok w1 (p := p) (hG := hG.ext hw1.ext_out) (hE := hE.ext hw1.ext_out)) (k := ?_)
  have hpp_54316 := pPrint_len p
  refine JL_q (q_move) (k := ?_)
  refine JL_q (q_ext) (k := ?_)
  refine JL_q (q_ext) (k := ?_)
  refine JL_q (q_assign) (k := ?_)
  refine JL_q (q_assign) (k := ?_)
  refine JL_nil ?_
  refine JX_seq ?_
  refine J_seq ?_
  refine J_reg ?_
  refine JL_q (q_move) (k := ?_)
  refine JL_v (args := [(Value.string (bs ((pPrint p).1)))]) (c_callA Tryd.call12) (fun w1 hw1 => pParse_ok w1 (s := ((pPrint p).1)) (n_s := by first | omega | (simp only [List.length_append, List.length_take, List.length_drop, List.length_set, List.length_replicate, List.length_cons, List.length_nil, List.length_map]; omega) | (simp only [List.length_append, List.length_take, List.length_drop, List.length_set, List.length_replicate, List.length_cons, List.length_nil, List.length_map] at *; omega) | decide) (hG := hG.ext hw1.ext_out) (hE := hE.ext hw1.ext_out)) (k := ?_)
  refine JL_q (q_move) (k := ?_)
  refine JL_q (q_ext) (k := ?_)
  refine JL_q (q_ext) (k := ?_)
  refine JL_a noMk (a_alloc (l := [_, _]) Tryd.zeroValue23) (k := fun r3 hr3 => ?_)
  refine JL_s (w_store (l' := [_, _]) Tryd.sizeOf23) (k := ?_)
  refine JL_q (q_assign) (k := ?_)
  refine JL_nil ?_
  refine JX_seq ?_
  refine J_seq ?_
  refine J_reg ?_
  refine JL_q (q_loadA Tryd.isAgg37 Tryd.sizeOf37) (k := ?_)
  refine JL_v (args := [(Value.agg [(Value.int .i64 (t.addr)), (Value.int .i64 (t.port))].toArray)]) (c_callA Tryd.call20) (fun w1 hw1 => tPrint_ok w1 (t := t) (hG := hG.ext hw1.ext_out) (hE := hE.ext hw1.ext_out)) (k := ?_)
  have htp_45540 := tPrint_len t
  refine JL_q (q_move) (k := ?_)
  refine JL_q (q_ext) (k := ?_)
  refine JL_q (q_ext) (k := ?_)
  refine JL_q (q_assign) (k := ?_)
  refine JL_q (q_assign) (k := ?_)
  refine JL_nil ?_
  refine JX_seq ?_
  refine J_seq ?_
  refine J_reg ?_
  refine JL_q (q_move) (k := ?_)
  refine JL_v (args := [(Value.string (bs ((tPrint t).1)))]) (c_callA Tryd.call22) (fun w1 hw1 => tParse_ok w1 (s := ((tPrint t).1)) (n_s := by first | omega | (simp only [List.length_append, List.length_take, List.length_drop, List.length_set, List.length_replicate, List.length_cons, List.length_nil, List.length_map]; omega) | (simp only [List.length_append, List.length_take, List.length_drop, List.length_set, List.length_replicate, List.length_cons, List.length_nil, List.length_map] at *; omega) | decide) (hG := hG.ext hw1.ext_out) (hE := hE.ext hw1.ext_out)) (k := ?_)
  refine JL_q (q_move) (k := ?_)
  refine JL_q (q_ext) (k := ?_)
  refine JL_q (q_ext) (k := ?_)
  refine JL_a noMk (a_alloc (l := [_, _]) Tryd.zeroValue37) (k := fun r4 hr4 => ?_)
  refine JL_s (w_store (l' := [_, _]) Tryd.sizeOf37) (k := ?_)
  refine JL_q (q_assign) (k := ?_)
  refine JL_nil ?_
  refine JX_seq ?_
  refine J_seq ?_
  refine J_seq ?_
  refine J_reg ?_
  refine JL_q (q_move) (k := ?_)
  refine JL_q (q_eql) (k := ?_)
  refine JL_q (q_move) (k := ?_)
  refine JL_dec 49 rfl (fun hq1 => ?_) (fun hq1 => ?_)
  rotate_left
  · refine JL_skips 7 rfl ?_
    refine JL_q (q_pickF) (k := ?_)
    refine JL_q (q_move) (k := ?_)
    refine JL_qg (q_move) (k := ?_)
    refine JL_qg (q_eql) (k := ?_)
    refine JL_qg (q_move) (k := ?_)
    refine JL_dec 61 rfl (fun hq37 => ?_) (fun hq37 => ?_)
    rotate_left
    · refine JL_skips 7 rfl ?_
      refine JL_qg (q_pickF) (k := ?_)
      refine JL_q (q_pickF) (k := ?_)
      refine JL_nil ?_
      refine JX_seq ?_
      refine J_false rfl ?_
      refine J_skip ?_
      refine JX_seq ?_
      refine J_seq ?_
      refine J_reg ?_
      refine JL_q (q_move) (k := ?_)
      refine JL_v (args := [(Value.string (bs (pCut s)))]) (c_callA Tryd.call12) (fun w1 hw1 => pParse_ok w1 (s := (pCut s)) (n_s := by first | omega | (simp only [List.length_append, List.length_take, List.length_drop, List.length_set, List.length_replicate, List.length_cons, List.length_nil, List.length_map]; omega) | (simp only [List.length_append, List.length_take, List.length_drop, List.length_set, List.length_replicate, List.length_cons, List.length_nil, List.length_map] at *; omega) | decide) (hG := hG.ext hw1.ext_out) (hE := hE.ext hw1.ext_out)) (k := ?_)
      refine JL_q (q_move) (k := ?_)
      refine JL_q (q_ext) (k := ?_)
      refine JL_q (q_ext) (k := ?_)
      refine JL_a noMk (a_alloc (l := [_, _]) Tryd.zeroValue23) (k := fun r11 hr11 => ?_)
      refine JL_s (w_store (l' := [_, _]) Tryd.sizeOf23) (k := ?_)
      refine JL_q (q_assign) (k := ?_)
      refine JL_nil ?_
      refine JX_seq ?_
      refine J_seq ?_
      refine J_reg ?_
      refine JL_q (q_loadA Tryd.isAgg23 Tryd.sizeOf23) (k := ?_)
      refine JL_v (args := [(Value.agg [(Value.int .i64 (((pParse (pCut s)).1.lo))), (Value.int .i64 (((pParse (pCut s)).1.hi)))].toArray)]) (c_callA Tryd.call10) (fun w1 hw1 => pPrint_ok w1 (p := (pParse (pCut s)).1) (hG := hG.ext hw1.ext_out) (hE := hE.ext hw1.ext_out)) (k := ?_)
      have hpp_19649 := pPrint_len ((pParse (pCut s)).1)
      refine JL_q (q_move) (k := ?_)
      refine JL_q (q_ext) (k := ?_)
      refine JL_q (q_ext) (k := ?_)
      refine JL_q (q_assign) (k := ?_)
      refine JL_q (q_assign) (k := ?_)
      refine JL_nil ?_
      refine JX_seq ?_
      refine J_seq ?_
      refine J_reg ?_
      refine JL_q (q_move) (k := ?_)
      refine JL_v (args := [(Value.string (bs (pCut s)))]) (c_callA Tryd.call22) (fun w1 hw1 => tParse_ok w1 (s := (pCut s)) (n_s := by first | omega | (simp only [List.length_append, List.length_take, List.length_drop, List.length_set, List.length_replicate, List.length_cons, List.length_nil, List.length_map]; omega) | (simp only [List.length_append, List.length_take, List.length_drop, List.length_set, List.length_replicate, List.length_cons, List.length_nil, List.length_map] at *; omega) | decide) (hG := hG.ext hw1.ext_out) (hE := hE.ext hw1.ext_out)) (k := ?_)
      refine JL_q (q_move) (k := ?_)
      refine JL_q (q_ext) (k := ?_)
      refine JL_q (q_ext) (k := ?_)
      refine JL_a noMk (a_alloc (l := [_, _]) Tryd.zeroValue37) (k := fun r12 hr12 => ?_)
      refine JL_s (w_store (l' := [_, _]) Tryd.sizeOf37) (k := ?_)
      refine JL_q (q_assign) (k := ?_)
      refine JL_nil ?_
      refine JX_seq ?_
      refine J_seq ?_
      refine J_reg ?_
      refine JL_q (q_loadA Tryd.isAgg37 Tryd.sizeOf37) (k := ?_)
      refine JL_v (args := [(Value.agg [(Value.int .i64 (((tParse (pCut s)).1.addr))), (Value.int .i64 (((tParse (pCut s)).1.port)))].toArray)]) (c_callA Tryd.call20) (fun w1 hw1 => tPrint_ok w1 (t := (tParse (pCut s)).1) (hG := hG.ext hw1.ext_out) (hE := hE.ext hw1.ext_out)) (k := ?_)
      have htp_617 := tPrint_len ((tParse (pCut s)).1)
      refine JL_q (q_move) (k := ?_)
      refine JL_q (q_ext) (k := ?_)
      refine JL_q (q_ext) (k := ?_)
      refine JL_q (q_assign) (k := ?_)
      refine JL_q (q_assign) (k := ?_)
      refine JL_nil ?_
      refine JX_seq ?_
      refine J_seq ?_
      refine J_reg ?_
      refine JL_q (q_move) (k := ?_)
      refine JL_q (q_move) (k := ?_)
      refine JL_bool 92 rfl (fun hq55 => ?_) (fun hq55 => ?_)
      rotate_left
      · refine JL_skips 5 rfl ?_
        refine JL_q (q_pickF) (k := ?_)
        refine JL_q (q_move) (k := ?_)
        refine JL_skips 11 rfl ?_
        refine JL_q (q_pickF) (k := ?_)
        refine JL_q (q_move) (k := ?_)
        refine JL_skips 11 rfl ?_
        refine JL_q (q_pickF) (k := ?_)
        refine JL_q (q_move) (k := ?_)
        refine JL_skips 6 rfl ?_
        refine JL_q (q_pickF) (k := ?_)
        refine JL_q (q_assign) (k := ?_)
        refine JL_nil ?_
        refine JX_seq ?_
        refine J_ret ?_
        refine JX_ret Tryd.results5 (Res.tmp rfl Res.nil) (fun w1 hw1 => ?_)
        exact ⟨(by rw [((((hF.neg hq1).neg hq37).f hq55)).eq] <;> first | rfl | (simp only [List.length_set] <;> rfl)), hw1.ext_out⟩
      refine JL_qg (q_move) (k := ?_)
      refine JL_qg (q_eql) (k := ?_)
      refine JL_qg (q_loadA Tryd.isAgg23 Tryd.sizeOf23) (k := ?_)
      refine JL_vg (args := [(Value.agg [(Value.int .i64 (p.lo)), (Value.int .i64 (p.hi))].toArray)]) (c_callA Tryd.call16) (fun w1 hw1 => pRight_ok w1 (p := p)) (k := ?_)
      refine JL_qg (q_eqlB Tryd.runUnderlying4) (k := ?_)
      refine JL_q (q_pickT) (k := ?_)
      refine JL_q (q_move) (k := ?_)
      refine JL_bool 99 rfl (fun hq56 => ?_) (fun hq56 => ?_)
      rotate_left
      · refine JL_skips 11 rfl ?_
        refine JL_q (q_pickF) (k := ?_)
        refine JL_q (q_move) (k := ?_)
        refine JL_skips 11 rfl ?_
        refine JL_q (q_pickF) (k := ?_)
        refine JL_q (q_move) (k := ?_)
        refine JL_skips 6 rfl ?_
        refine JL_q (q_pickF) (k := ?_)
        refine JL_q (q_assign) (k := ?_)
        refine JL_nil ?_
        refine JX_seq ?_
        refine J_ret ?_
        refine JX_ret Tryd.results5 (Res.tmp rfl Res.nil) (fun w1 hw1 => ?_)
        exact ⟨(by rw [(((((hF.neg hq1).neg hq37).t hq55).f hq56)).eq] <;> first | rfl | (simp only [List.length_set] <;> rfl)), hw1.ext_out⟩
      refine JL_qg (q_move) (k := ?_)
      refine JL_qg (q_neq) (k := ?_)
      refine JL_qg (q_move) (k := ?_)
      refine JL_dec 102 rfl (fun hq57 => ?_) (fun hq57 => ?_)
      · refine JL_skips 7 rfl ?_
        refine JL_qg (q_pickT) (k := ?_)
        refine JL_q (q_pickT) (k := ?_)
        refine JL_q (q_move) (k := ?_)
        refine JL_qg (q_move) (k := ?_)
        refine JL_qg (q_neq) (k := ?_)
        refine JL_qg (q_move) (k := ?_)
        refine JL_dec 115 rfl (fun hq58 => ?_) (fun hq58 => ?_)
        · refine JL_skips 7 rfl ?_
          refine JL_qg (q_pickT) (k := ?_)
          refine JL_q (q_pickT) (k := ?_)
          refine JL_q (q_move) (k := ?_)
          refine JL_qg (q_move) (k := ?_)
          refine JL_qg (q_neq) (k := ?_)
          refine JL_qg (q_move) (k := ?_)
          refine JL_dec 128 rfl (fun hq59 => ?_) (fun hq59 => ?_)
          · refine JL_skips 2 rfl ?_
            refine JL_qg (q_pickT) (k := ?_)
            refine JL_q (q_pickT) (k := ?_)
            refine JL_q (q_assign) (k := ?_)
            refine JL_nil ?_
            refine JX_seq ?_
            refine J_ret ?_
            refine JX_ret Tryd.results5 (Res.tmp rfl Res.nil) (fun w1 hw1 => ?_)
            exact ⟨(by rw [((((((((hF.neg hq1).neg hq37).t hq55).t hq56).pos hq57).pos hq58).pos hq59)).eq] <;> first | rfl | (simp only [List.length_set] <;> rfl)), hw1.ext_out⟩
          refine JL_qg (q_move) (k := ?_)
          refine JL_qg (q_neq) (k := ?_)
          refine JL_qg (q_pickF) (k := ?_)
          refine JL_q (q_pickT) (k := ?_)
          refine JL_q (q_assign) (k := ?_)
          refine JL_nil ?_
          refine JX_seq ?_
          refine J_ret ?_
          refine JX_ret Tryd.results5 (Res.tmp rfl Res.nil) (fun w1 hw1 => ?_)
          exact ⟨(by rw [((((((((hF.neg hq1).neg hq37).t hq55).t hq56).pos hq57).pos hq58).neg hq59)).eq] <;> first | rfl | (simp only [List.length_set] <;> rfl)), hw1.ext_out⟩
        refine JL_qg (q_move) (k := ?_)
        refine JL_qg (q_eql) (k := ?_)
        refine JL_qg (q_move) (k := ?_)
        refine JL_dec 118 rfl (fun hq60 => ?_) (fun hq60 => ?_)
        rotate_left
        · refine JL_skips 3 rfl ?_
          refine JL_qg (q_pickF) (k := ?_)
          refine JL_qg (q_pickF) (k := ?_)
          refine JL_q (q_pickT) (k := ?_)
          refine JL_q (q_move) (k := ?_)
          refine JL_skips 6 rfl ?_
          refine JL_q (q_pickF) (k := ?_)
          refine JL_q (q_assign) (k := ?_)
          refine JL_nil ?_
          refine JX_seq ?_
          refine J_ret ?_
          refine JX_ret Tryd.results5 (Res.tmp rfl Res.nil) (fun w1 hw1 => ?_)
          exact ⟨(by rw [((((((((hF.neg hq1).neg hq37).t hq55).t hq56).pos hq57).neg hq58).neg hq60)).eq] <;> first | rfl | (simp only [List.length_set] <;> rfl)), hw1.ext_out⟩
        refine JL_qg (q_move) (k := ?_)
        refine JL_qg (q_move) (k := ?_)
        refine JL_qg (q_eqT) (k := ?_)
        refine JL_qg (q_pickT) (k := ?_)
        refine JL_qg (q_pickF) (k := ?_)
        refine JL_q (q_pickT) (k := ?_)
        refine JL_q (q_move) (k := ?_)
        refine JL_dec 125 rfl (fun hq61 => ?_) (fun hq61 => ?_)
        rotate_left
        · refine JL_skips 6 rfl ?_
          refine JL_q (q_pickF) (k := ?_)
          refine JL_q (q_assign) (k := ?_)
          refine JL_nil ?_
          refine JX_seq ?_
          refine J_ret ?_
          refine JX_ret Tryd.results5 (Res.tmp rfl Res.nil) (fun w1 hw1 => ?_)
          exact ⟨(by rw [(((((((((hF.neg hq1).neg hq37).t hq55).t hq56).pos hq57).neg hq58).pos hq60).neg hq61)).eq] <;> first | rfl | (simp only [List.length_set] <;> rfl)), hw1.ext_out⟩
        refine JL_qg (q_move) (k := ?_)
        refine JL_qg (q_neq) (k := ?_)
        refine JL_qg (q_move) (k := ?_)
        refine JL_dec 128 rfl (fun hq62 => ?_) (fun hq62 => ?_)
        · refine JL_skips 2 rfl ?_
          refine JL_qg (q_pickT) (k := ?_)
          refine JL_q (q_pickT) (k := ?_)
          refine JL_q (q_assign) (k := ?_)
          refine JL_nil ?_
          refine JX_seq ?_
          refine J_ret ?_
          refine JX_ret Tryd.results5 (Res.tmp rfl Res.nil) (fun w1 hw1 => ?_)
          exact ⟨(by rw [((((((((((hF.neg hq1).neg hq37).t hq55).t hq56).pos hq57).neg hq58).pos hq60).pos hq61).pos hq62)).eq] <;> first | rfl | (simp only [List.length_set] <;> rfl)), hw1.ext_out⟩
        refine JL_qg (q_move) (k := ?_)
        refine JL_qg (q_neq) (k := ?_)
        refine JL_qg (q_pickF) (k := ?_)
        refine JL_q (q_pickT) (k := ?_)
        refine JL_q (q_assign) (k := ?_)
        refine JL_nil ?_
        refine JX_seq ?_
        refine J_ret ?_
        refine JX_ret Tryd.results5 (Res.tmp rfl Res.nil) (fun w1 hw1 => ?_)
        exact ⟨(by rw [((((((((((hF.neg hq1).neg hq37).t hq55).t hq56).pos hq57).neg hq58).pos hq60).pos hq61).neg hq62)).eq] <;> first | rfl | (simp only [List.length_set] <;> rfl)), hw1.ext_out⟩
      refine JL_qg (q_move) (k := ?_)
      refine JL_qg (q_eql) (k := ?_)
      refine JL_qg (q_move) (k := ?_)
      refine JL_dec 105 rfl (fun hq63 => ?_) (fun hq63 => ?_)
      rotate_left
      · refine JL_skips 3 rfl ?_
        refine JL_qg (q_pickF) (k := ?_)
        refine JL_qg (q_pickF) (k := ?_)
        refine JL_q (q_pickT) (k := ?_)
        refine JL_q (q_move) (k := ?_)
        refine JL_skips 11 rfl ?_
        refine JL_q (q_pickF) (k := ?_)
        refine JL_q (q_move) (k := ?_)
        refine JL_skips 6 rfl ?_
        refine JL_q (q_pickF) (k := ?_)
        refine JL_q (q_assign) (k := ?_)
        refine JL_nil ?_
        refine JX_seq ?_
        refine J_ret ?_
        refine JX_ret Tryd.results5 (Res.tmp rfl Res.nil) (fun w1 hw1 => ?_)
        exact ⟨(by rw [(((((((hF.neg hq1).neg hq37).t hq55).t hq56).neg hq57).neg hq63)).eq] <;> first | rfl | (simp only [List.length_set] <;> rfl)), hw1.ext_out⟩
      refine JL_qg (q_move) (k := ?_)
      refine JL_qg (q_move) (k := ?_)
      refine JL_qg (q_eqT) (k := ?_)
      refine JL_qg (q_pickT) (k := ?_)
      refine JL_qg (q_pickF) (k := ?_)
      refine JL_q (q_pickT) (k := ?_)
      refine JL_q (q_move) (k := ?_)
      refine JL_dec 112 rfl (fun hq64 => ?_) (fun hq64 => ?_)
      rotate_left
      · refine JL_skips 11 rfl ?_
        refine JL_q (q_pickF) (k := ?_)
        refine JL_q (q_move) (k := ?_)
        refine JL_skips 6 rfl ?_
        refine JL_q (q_pickF) (k := ?_)
        refine JL_q (q_assign) (k := ?_)
        refine JL_nil ?_
        refine JX_seq ?_
        refine J_ret ?_
        refine JX_ret Tryd.results5 (Res.tmp rfl Res.nil) (fun w1 hw1 => ?_)
        exact ⟨(by rw [((((((((hF.neg hq1).neg hq37).t hq55).t hq56).neg hq57).pos hq63).neg hq64)).eq] <;> first | rfl | (simp only [List.length_set] <;> rfl)), hw1.ext_out⟩
      refine JL_qg (q_move) (k := ?_)
      refine JL_qg (q_neq) (k := ?_)
      refine JL_qg (q_move) (k := ?_)
      refine JL_dec 115 rfl (fun hq65 => ?_) (fun hq65 => ?_)
      · refine JL_skips 7 rfl ?_
        refine JL_qg (q_pickT) (k := ?_)
        refine JL_q (q_pickT) (k := ?_)
        refine JL_q (q_move) (k := ?_)
        refine JL_qg (q_move) (k := ?_)
        refine JL_qg (q_neq) (k := ?_)
        refine JL_qg (q_move) (k := ?_)
        refine JL_dec 128 rfl (fun hq66 => ?_) (fun hq66 => ?_)
        · refine JL_skips 2 rfl ?_
          refine JL_qg (q_pickT) (k := ?_)
          refine JL_q (q_pickT) (k := ?_)
          refine JL_q (q_assign) (k := ?_)
          refine JL_nil ?_
          refine JX_seq ?_
          refine J_ret ?_
          refine JX_ret Tryd.results5 (Res.tmp rfl Res.nil) (fun w1 hw1 => ?_)
          exact ⟨(by rw [((((((((((hF.neg hq1).neg hq37).t hq55).t hq56).neg hq57).pos hq63).pos hq64).pos hq65).pos hq66)).eq] <;> first | rfl | (simp only [List.length_set] <;> rfl)), hw1.ext_out⟩
        refine JL_qg (q_move) (k := ?_)
        refine JL_qg (q_neq) (k := ?_)
        refine JL_qg (q_pickF) (k := ?_)
        refine JL_q (q_pickT) (k := ?_)
        refine JL_q (q_assign) (k := ?_)
        refine JL_nil ?_
        refine JX_seq ?_
        refine J_ret ?_
        refine JX_ret Tryd.results5 (Res.tmp rfl Res.nil) (fun w1 hw1 => ?_)
        exact ⟨(by rw [((((((((((hF.neg hq1).neg hq37).t hq55).t hq56).neg hq57).pos hq63).pos hq64).pos hq65).neg hq66)).eq] <;> first | rfl | (simp only [List.length_set] <;> rfl)), hw1.ext_out⟩
      refine JL_qg (q_move) (k := ?_)
      refine JL_qg (q_eql) (k := ?_)
      refine JL_qg (q_move) (k := ?_)
      refine JL_dec 118 rfl (fun hq67 => ?_) (fun hq67 => ?_)
      rotate_left
      · refine JL_skips 3 rfl ?_
        refine JL_qg (q_pickF) (k := ?_)
        refine JL_qg (q_pickF) (k := ?_)
        refine JL_q (q_pickT) (k := ?_)
        refine JL_q (q_move) (k := ?_)
        refine JL_skips 6 rfl ?_
        refine JL_q (q_pickF) (k := ?_)
        refine JL_q (q_assign) (k := ?_)
        refine JL_nil ?_
        refine JX_seq ?_
        refine J_ret ?_
        refine JX_ret Tryd.results5 (Res.tmp rfl Res.nil) (fun w1 hw1 => ?_)
        exact ⟨(by rw [((((((((((hF.neg hq1).neg hq37).t hq55).t hq56).neg hq57).pos hq63).pos hq64).neg hq65).neg hq67)).eq] <;> first | rfl | (simp only [List.length_set] <;> rfl)), hw1.ext_out⟩
      refine JL_qg (q_move) (k := ?_)
      refine JL_qg (q_move) (k := ?_)
      refine JL_qg (q_eqT) (k := ?_)
      refine JL_qg (q_pickT) (k := ?_)
      refine JL_qg (q_pickF) (k := ?_)
      refine JL_q (q_pickT) (k := ?_)
      refine JL_q (q_move) (k := ?_)
      refine JL_dec 125 rfl (fun hq68 => ?_) (fun hq68 => ?_)
      rotate_left
      · refine JL_skips 6 rfl ?_
        refine JL_q (q_pickF) (k := ?_)
        refine JL_q (q_assign) (k := ?_)
        refine JL_nil ?_
        refine JX_seq ?_
        refine J_ret ?_
        refine JX_ret Tryd.results5 (Res.tmp rfl Res.nil) (fun w1 hw1 => ?_)
        exact ⟨(by rw [(((((((((((hF.neg hq1).neg hq37).t hq55).t hq56).neg hq57).pos hq63).pos hq64).neg hq65).pos hq67).neg hq68)).eq] <;> first | rfl | (simp only [List.length_set] <;> rfl)), hw1.ext_out⟩
      refine JL_qg (q_move) (k := ?_)
      refine JL_qg (q_neq) (k := ?_)
      refine JL_qg (q_move) (k := ?_)
      refine JL_dec 128 rfl (fun hq69 => ?_) (fun hq69 => ?_)
      · refine JL_skips 2 rfl ?_
        refine JL_qg (q_pickT) (k := ?_)
        refine JL_q (q_pickT) (k := ?_)
        refine JL_q (q_assign) (k := ?_)
        refine JL_nil ?_
        refine JX_seq ?_
        refine J_ret ?_
        refine JX_ret Tryd.results5 (Res.tmp rfl Res.nil) (fun w1 hw1 => ?_)
        exact ⟨(by rw [((((((((((((hF.neg hq1).neg hq37).t hq55).t hq56).neg hq57).pos hq63).pos hq64).neg hq65).pos hq67).pos hq68).pos hq69)).eq] <;> first | rfl | (simp only [List.length_set] <;> rfl)), hw1.ext_out⟩
      refine JL_qg (q_move) (k := ?_)
      refine JL_qg (q_neq) (k := ?_)
      refine JL_qg (q_pickF) (k := ?_)
      refine JL_q (q_pickT) (k := ?_)
      refine JL_q (q_assign) (k := ?_)
      refine JL_nil ?_
      refine JX_seq ?_
      refine J_ret ?_
      refine JX_ret Tryd.results5 (Res.tmp rfl Res.nil) (fun w1 hw1 => ?_)
      exact ⟨(by rw [((((((((((((hF.neg hq1).neg hq37).t hq55).t hq56).neg hq57).pos hq63).pos hq64).neg hq65).pos hq67).pos hq68).neg hq69)).eq] <;> first | rfl | (simp only [List.length_set] <;> rfl)), hw1.ext_out⟩
    refine JL_qg (q_move) (k := ?_)
    refine JL_qg (q_neq) (k := ?_)
    refine JL_qg (q_move) (k := ?_)
    refine JL_dec 64 rfl (fun hq38 => ?_) (fun hq38 => ?_)
    · refine JL_skips 3 rfl ?_
      refine JL_qg (q_pickT) (k := ?_)
      refine JL_qg (q_pickT) (k := ?_)
      refine JL_q (q_pickF) (k := ?_)
      refine JL_nil ?_
      refine JX_seq ?_
      refine J_true rfl ?_
      refine J_seq ?_
      refine J_reg ?_
      refine JL_q (q_assign) (k := ?_)
      refine JL_nil ?_
      refine JX_seq ?_
      refine J_ret ?_
      refine JX_seq_ret ?_
      refine JX_ret Tryd.results5 (Res.tmp rfl Res.nil) (fun w1 hw1 => ?_)
      exact ⟨(by rw [((((hF.neg hq1).pos hq37).pos hq38)).eq] <;> first | rfl | (simp only [List.length_set] <;> rfl)), hw1.ext_out⟩
    refine JL_qg (q_loadA Tryd.isAgg37 Tryd.sizeOf37) (k := ?_)
    refine JL_qg (q_loadA Tryd.isAgg37 Tryd.sizeOf37) (k := ?_)
    refine JL_qg (q_neS (NE_37 _ _ _ _ _ _)) (k := ?_)
    refine JL_qg (q_pickF) (k := ?_)
    refine JL_qg (q_pickT) (k := ?_)
    refine JL_q (q_pickF) (k := ?_)
    refine JL_nil ?_
    refine JX_seq ?_
    refine J_dec rfl (fun hq39 => ?_) (fun hq39 => ?_)
    · refine J_seq ?_
      refine J_reg ?_
      refine JL_q (q_assign) (k := ?_)
      refine JL_nil ?_
      refine JX_seq ?_
      refine J_ret ?_
      refine JX_seq_ret ?_
      refine JX_ret Tryd.results5 (Res.tmp rfl Res.nil) (fun w1 hw1 => ?_)
      exact ⟨(by rw [(((((hF.neg hq1).pos hq37).neg hq38).pos hq39)).eq] <;> first | rfl | (simp only [List.length_set] <;> rfl)), hw1.ext_out⟩
    refine J_skip ?_
    refine JX_seq ?_
    refine J_seq ?_
    refine J_reg ?_
    refine JL_q (q_move) (k := ?_)
    refine JL_v (args := [(Value.string (bs (pCut s)))]) (c_callA Tryd.call12) (fun w1 hw1 => pParse_ok w1 (s := (pCut s)) (n_s := by first | omega | (simp only [List.length_append, List.length_take, List.length_drop, List.length_set, List.length_replicate, List.length_cons, List.length_nil, List.length_map]; omega) | (simp only [List.length_append, List.length_take, List.length_drop, List.length_set, List.length_replicate, List.length_cons, List.length_nil, List.length_map] at *; omega) | decide) (hG := hG.ext hw1.ext_out) (hE := hE.ext hw1.ext_out)) (k := ?_)
    refine JL_q (q_move) (k := ?_)
    refine JL_q (q_ext) (k := ?_)
    refine JL_q (q_ext) (k := ?_)
    refine JL_a noMk (a_alloc (l := [_, _]) Tryd.zeroValue23) (k := fun r9 hr9 => ?_)
    refine JL_s (w_store (l' := [_, _]) Tryd.sizeOf23) (k := ?_)
    refine JL_q (q_assign) (k := ?_)
    refine JL_nil ?_
    refine JX_seq ?_
    refine J_seq ?_
    refine J_reg ?_
    refine JL_q (q_loadA Tryd.isAgg23 Tryd.sizeOf23) (k := ?_)
    refine JL_v (args := [(Value.agg [(Value.int .i64 (((pParse (pCut s)).1.lo))), (Value.int .i64 (((pParse (pCut s)).1.hi)))].toArray)]) (c_callA Tryd.call10) (fun w1 hw1 => pPrint_ok w1 (p := (pParse (pCut s)).1) (hG := hG.ext hw1.ext_out) (hE := hE.ext hw1.ext_out)) (k := ?_)
    have hpp_19649 := pPrint_len ((pParse (pCut s)).1)
    refine JL_q (q_move) (k := ?_)
    refine JL_q (q_ext) (k := ?_)
    refine JL_q (q_ext) (k := ?_)
    refine JL_q (q_assign) (k := ?_)
    refine JL_q (q_assign) (k := ?_)
    refine JL_nil ?_
    refine JX_seq ?_
    refine J_seq ?_
    refine J_reg ?_
    refine JL_q (q_move) (k := ?_)
    refine JL_v (args := [(Value.string (bs (pCut s)))]) (c_callA Tryd.call22) (fun w1 hw1 => tParse_ok w1 (s := (pCut s)) (n_s := by first | omega | (simp only [List.length_append, List.length_take, List.length_drop, List.length_set, List.length_replicate, List.length_cons, List.length_nil, List.length_map]; omega) | (simp only [List.length_append, List.length_take, List.length_drop, List.length_set, List.length_replicate, List.length_cons, List.length_nil, List.length_map] at *; omega) | decide) (hG := hG.ext hw1.ext_out) (hE := hE.ext hw1.ext_out)) (k := ?_)
    refine JL_q (q_move) (k := ?_)
    refine JL_q (q_ext) (k := ?_)
    refine JL_q (q_ext) (k := ?_)
    refine JL_a noMk (a_alloc (l := [_, _]) Tryd.zeroValue37) (k := fun r10 hr10 => ?_)
    refine JL_s (w_store (l' := [_, _]) Tryd.sizeOf37) (k := ?_)
    refine JL_q (q_assign) (k := ?_)
    refine JL_nil ?_
    refine JX_seq ?_
    refine J_seq ?_
    refine J_reg ?_
    refine JL_q (q_loadA Tryd.isAgg37 Tryd.sizeOf37) (k := ?_)
    refine JL_v (args := [(Value.agg [(Value.int .i64 (((tParse (pCut s)).1.addr))), (Value.int .i64 (((tParse (pCut s)).1.port)))].toArray)]) (c_callA Tryd.call20) (fun w1 hw1 => tPrint_ok w1 (t := (tParse (pCut s)).1) (hG := hG.ext hw1.ext_out) (hE := hE.ext hw1.ext_out)) (k := ?_)
    have htp_617 := tPrint_len ((tParse (pCut s)).1)
    refine JL_q (q_move) (k := ?_)
    refine JL_q (q_ext) (k := ?_)
    refine JL_q (q_ext) (k := ?_)
    refine JL_q (q_assign) (k := ?_)
    refine JL_q (q_assign) (k := ?_)
    refine JL_nil ?_
    refine JX_seq ?_
    refine J_seq ?_
    refine J_reg ?_
    refine JL_q (q_move) (k := ?_)
    refine JL_q (q_move) (k := ?_)
    refine JL_bool 92 rfl (fun hq40 => ?_) (fun hq40 => ?_)
    rotate_left
    · refine JL_skips 5 rfl ?_
      refine JL_q (q_pickF) (k := ?_)
      refine JL_q (q_move) (k := ?_)
      refine JL_skips 11 rfl ?_
      refine JL_q (q_pickF) (k := ?_)
      refine JL_q (q_move) (k := ?_)
      refine JL_skips 11 rfl ?_
      refine JL_q (q_pickF) (k := ?_)
      refine JL_q (q_move) (k := ?_)
      refine JL_skips 6 rfl ?_
      refine JL_q (q_pickF) (k := ?_)
      refine JL_q (q_assign) (k := ?_)
      refine JL_nil ?_
      refine JX_seq ?_
      refine J_ret ?_
      refine JX_ret Tryd.results5 (Res.tmp rfl Res.nil) (fun w1 hw1 => ?_)
      exact ⟨(by rw [((((((hF.neg hq1).pos hq37).neg hq38).neg hq39).f hq40)).eq] <;> first | rfl | (simp only [List.length_set] <;> rfl)), hw1.ext_out⟩
    refine JL_qg (q_move) (k := ?_)
    refine JL_qg (q_eql) (k := ?_)
    refine JL_qg (q_loadA Tryd.isAgg23 Tryd.sizeOf23) (k := ?_)
    refine JL_vg (args := [(Value.agg [(Value.int .i64 (p.lo)), (Value.int .i64 (p.hi))].toArray)]) (c_callA Tryd.call16) (fun w1 hw1 => pRight_ok w1 (p := p)) (k := ?_)
    refine JL_qg (q_eqlB Tryd.runUnderlying4) (k := ?_)
    refine JL_q (q_pickT) (k := ?_)
    refine JL_q (q_move) (k := ?_)
    refine JL_bool 99 rfl (fun hq41 => ?_) (fun hq41 => ?_)
    rotate_left
    · refine JL_skips 11 rfl ?_
      refine JL_q (q_pickF) (k := ?_)
      refine JL_q (q_move) (k := ?_)
      refine JL_skips 11 rfl ?_
      refine JL_q (q_pickF) (k := ?_)
      refine JL_q (q_move) (k := ?_)
      refine JL_skips 6 rfl ?_
      refine JL_q (q_pickF) (k := ?_)
      refine JL_q (q_assign) (k := ?_)
      refine JL_nil ?_
      refine JX_seq ?_
      refine J_ret ?_
      refine JX_ret Tryd.results5 (Res.tmp rfl Res.nil) (fun w1 hw1 => ?_)
      exact ⟨(by rw [(((((((hF.neg hq1).pos hq37).neg hq38).neg hq39).t hq40).f hq41)).eq] <;> first | rfl | (simp only [List.length_set] <;> rfl)), hw1.ext_out⟩
    refine JL_qg (q_move) (k := ?_)
    refine JL_qg (q_neq) (k := ?_)
    refine JL_qg (q_move) (k := ?_)
    refine JL_dec 102 rfl (fun hq42 => ?_) (fun hq42 => ?_)
    · refine JL_skips 7 rfl ?_
      refine JL_qg (q_pickT) (k := ?_)
      refine JL_q (q_pickT) (k := ?_)
      refine JL_q (q_move) (k := ?_)
      refine JL_qg (q_move) (k := ?_)
      refine JL_qg (q_neq) (k := ?_)
      refine JL_qg (q_move) (k := ?_)
      refine JL_dec 115 rfl (fun hq43 => ?_) (fun hq43 => ?_)
      · refine JL_skips 7 rfl ?_
        refine JL_qg (q_pickT) (k := ?_)
        refine JL_q (q_pickT) (k := ?_)
        refine JL_q (q_move) (k := ?_)
        refine JL_qg (q_move) (k := ?_)
        refine JL_qg (q_neq) (k := ?_)
        refine JL_qg (q_move) (k := ?_)
        refine JL_dec 128 rfl (fun hq44 => ?_) (fun hq44 => ?_)
        · refine JL_skips 2 rfl ?_
          refine JL_qg (q_pickT) (k := ?_)
          refine JL_q (q_pickT) (k := ?_)
          refine JL_q (q_assign) (k := ?_)
          refine JL_nil ?_
          refine JX_seq ?_
          refine J_ret ?_
          refine JX_ret Tryd.results5 (Res.tmp rfl Res.nil) (fun w1 hw1 => ?_)
          exact ⟨(by rw [((((((((((hF.neg hq1).pos hq37).neg hq38).neg hq39).t hq40).t hq41).pos hq42).pos hq43).pos hq44)).eq] <;> first | rfl | (simp only [List.length_set] <;> rfl)), hw1.ext_out⟩
        refine JL_qg (q_move) (k := ?_)
        refine JL_qg (q_neq) (k := ?_)
        refine JL_qg (q_pickF) (k := ?_)
        refine JL_q (q_pickT) (k := ?_)
        refine JL_q (q_assign) (k := ?_)
        refine JL_nil ?_
        refine JX_seq ?_
        refine J_ret ?_
        refine JX_ret Tryd.results5 (Res.tmp rfl Res.nil) (fun w1 hw1 => ?_)
        exact ⟨(by rw [((((((((((hF.neg hq1).pos hq37).neg hq38).neg hq39).t hq40).t hq41).pos hq42).pos hq43).neg hq44)).eq] <;> first | rfl | (simp only [List.length_set] <;> rfl)), hw1.ext_out⟩
      refine JL_qg (q_move) (k := ?_)
      refine JL_qg (q_eql) (k := ?_)
      refine JL_qg (q_move) (k := ?_)
      refine JL_dec 118 rfl (fun hq45 => ?_) (fun hq45 => ?_)
      rotate_left
      · refine JL_skips 3 rfl ?_
        refine JL_qg (q_pickF) (k := ?_)
        refine JL_qg (q_pickF) (k := ?_)
        refine JL_q (q_pickT) (k := ?_)
        refine JL_q (q_move) (k := ?_)
        refine JL_skips 6 rfl ?_
        refine JL_q (q_pickF) (k := ?_)
        refine JL_q (q_assign) (k := ?_)
        refine JL_nil ?_
        refine JX_seq ?_
        refine J_ret ?_
        refine JX_ret Tryd.results5 (Res.tmp rfl Res.nil) (fun w1 hw1 => ?_)
        exact ⟨(by rw [((((((((((hF.neg hq1).pos hq37).neg hq38).neg hq39).t hq40).t hq41).pos hq42).neg hq43).neg hq45)).eq] <;> first | rfl | (simp only [List.length_set] <;> rfl)), hw1.ext_out⟩
      refine JL_qg (q_move) (k := ?_)
      refine JL_qg (q_move) (k := ?_)
      refine JL_qg (q_eqT) (k := ?_)
      refine JL_qg (q_pickT) (k := ?_)
      refine JL_qg (q_pickF) (k := ?_)
      refine JL_q (q_pickT) (k := ?_)
      refine JL_q (q_move) (k := ?_)
      refine JL_dec 125 rfl (fun hq46 => ?_) (fun hq46 => ?_)
      rotate_left
      · refine JL_skips 6 rfl ?_
        refine JL_q (q_pickF) (k := ?_)
        refine JL_q (q_assign) (k := ?_)
        refine JL_nil ?_
        refine JX_seq ?_
        refine J_ret ?_
        refine JX_ret Tryd.results5 (Res.tmp rfl Res.nil) (fun w1 hw1 => ?_)
        exact ⟨(by rw [(((((((((((hF.neg hq1).pos hq37).neg hq38).neg hq39).t hq40).t hq41).pos hq42).neg hq43).pos hq45).neg hq46)).eq] <;> first | rfl | (simp only [List.length_set] <;> rfl)), hw1.ext_out⟩
      refine JL_qg (q_move) (k := ?_)
      refine JL_qg (q_neq) (k := ?_)
      refine JL_qg (q_move) (k := ?_)
      refine JL_dec 128 rfl (fun hq47 => ?_) (fun hq47 => ?_)
      · refine JL_skips 2 rfl ?_
        refine JL_qg (q_pickT) (k := ?_)
        refine JL_q (q_pickT) (k := ?_)
        refine JL_q (q_assign) (k := ?_)
        refine JL_nil ?_
        refine JX_seq ?_
        refine J_ret ?_
        refine JX_ret Tryd.results5 (Res.tmp rfl Res.nil) (fun w1 hw1 => ?_)
        exact ⟨(by rw [((((((((((((hF.neg hq1).pos hq37).neg hq38).neg hq39).t hq40).t hq41).pos hq42).neg hq43).pos hq45).pos hq46).pos hq47)).eq] <;> first | rfl | (simp only [List.length_set] <;> rfl)), hw1.ext_out⟩
      refine JL_qg (q_move) (k := ?_)
      refine JL_qg (q_neq) (k := ?_)
      refine JL_qg (q_pickF) (k := ?_)
      refine JL_q (q_pickT) (k := ?_)
      refine JL_q (q_assign) (k := ?_)
      refine JL_nil ?_
      refine JX_seq ?_
      refine J_ret ?_
      refine JX_ret Tryd.results5 (Res.tmp rfl Res.nil) (fun w1 hw1 => ?_)
      exact ⟨(by rw [((((((((((((hF.neg hq1).pos hq37).neg hq38).neg hq39).t hq40).t hq41).pos hq42).neg hq43).pos hq45).pos hq46).neg hq47)).eq] <;> first | rfl | (simp only [List.length_set] <;> rfl)), hw1.ext_out⟩
    refine JL_qg (q_move) (k := ?_)
    refine JL_qg (q_eql) (k := ?_)
    refine JL_qg (q_move) (k := ?_)
    refine JL_dec 105 rfl (fun hq48 => ?_) (fun hq48 => ?_)
    rotate_left
    · refine JL_skips 3 rfl ?_
      refine JL_qg (q_pickF) (k := ?_)
      refine JL_qg (q_pickF) (k := ?_)
      refine JL_q (q_pickT) (k := ?_)
      refine JL_q (q_move) (k := ?_)
      refine JL_skips 11 rfl ?_
      refine JL_q (q_pickF) (k := ?_)
      refine JL_q (q_move) (k := ?_)
      refine JL_skips 6 rfl ?_
      refine JL_q (q_pickF) (k := ?_)
      refine JL_q (q_assign) (k := ?_)
      refine JL_nil ?_
      refine JX_seq ?_
      refine J_ret ?_
      refine JX_ret Tryd.results5 (Res.tmp rfl Res.nil) (fun w1 hw1 => ?_)
      exact ⟨(by rw [(((((((((hF.neg hq1).pos hq37).neg hq38).neg hq39).t hq40).t hq41).neg hq42).neg hq48)).eq] <;> first | rfl | (simp only [List.length_set] <;> rfl)), hw1.ext_out⟩
    refine JL_qg (q_move) (k := ?_)
    refine JL_qg (q_move) (k := ?_)
    refine JL_qg (q_eqT) (k := ?_)
    refine JL_qg (q_pickT) (k := ?_)
    refine JL_qg (q_pickF) (k := ?_)
    refine JL_q (q_pickT) (k := ?_)
    refine JL_q (q_move) (k := ?_)
    refine JL_dec 112 rfl (fun hq49 => ?_) (fun hq49 => ?_)
    rotate_left
    · refine JL_skips 11 rfl ?_
      refine JL_q (q_pickF) (k := ?_)
      refine JL_q (q_move) (k := ?_)
      refine JL_skips 6 rfl ?_
      refine JL_q (q_pickF) (k := ?_)
      refine JL_q (q_assign) (k := ?_)
      refine JL_nil ?_
      refine JX_seq ?_
      refine J_ret ?_
      refine JX_ret Tryd.results5 (Res.tmp rfl Res.nil) (fun w1 hw1 => ?_)
      exact ⟨(by rw [((((((((((hF.neg hq1).pos hq37).neg hq38).neg hq39).t hq40).t hq41).neg hq42).pos hq48).neg hq49)).eq] <;> first | rfl | (simp only [List.length_set] <;> rfl)), hw1.ext_out⟩
    refine JL_qg (q_move) (k := ?_)
    refine JL_qg (q_neq) (k := ?_)
    refine JL_qg (q_move) (k := ?_)
    refine JL_dec 115 rfl (fun hq50 => ?_) (fun hq50 => ?_)
    · refine JL_skips 7 rfl ?_
      refine JL_qg (q_pickT) (k := ?_)
      refine JL_q (q_pickT) (k := ?_)
      refine JL_q (q_move) (k := ?_)
      refine JL_qg (q_move) (k := ?_)
      refine JL_qg (q_neq) (k := ?_)
      refine JL_qg (q_move) (k := ?_)
      refine JL_dec 128 rfl (fun hq51 => ?_) (fun hq51 => ?_)
      · refine JL_skips 2 rfl ?_
        refine JL_qg (q_pickT) (k := ?_)
        refine JL_q (q_pickT) (k := ?_)
        refine JL_q (q_assign) (k := ?_)
        refine JL_nil ?_
        refine JX_seq ?_
        refine J_ret ?_
        refine JX_ret Tryd.results5 (Res.tmp rfl Res.nil) (fun w1 hw1 => ?_)
        exact ⟨(by rw [((((((((((((hF.neg hq1).pos hq37).neg hq38).neg hq39).t hq40).t hq41).neg hq42).pos hq48).pos hq49).pos hq50).pos hq51)).eq] <;> first | rfl | (simp only [List.length_set] <;> rfl)), hw1.ext_out⟩
      refine JL_qg (q_move) (k := ?_)
      refine JL_qg (q_neq) (k := ?_)
      refine JL_qg (q_pickF) (k := ?_)
      refine JL_q (q_pickT) (k := ?_)
      refine JL_q (q_assign) (k := ?_)
      refine JL_nil ?_
      refine JX_seq ?_
      refine J_ret ?_
      refine JX_ret Tryd.results5 (Res.tmp rfl Res.nil) (fun w1 hw1 => ?_)
      exact ⟨(by rw [((((((((((((hF.neg hq1).pos hq37).neg hq38).neg hq39).t hq40).t hq41).neg hq42).pos hq48).pos hq49).pos hq50).neg hq51)).eq] <;> first | rfl | (simp only [List.length_set] <;> rfl)), hw1.ext_out⟩
    refine JL_qg (q_move) (k := ?_)
    refine JL_qg (q_eql) (k := ?_)
    refine JL_qg (q_move) (k := ?_)
    refine JL_dec 118 rfl (fun hq52 => ?_) (fun hq52 => ?_)
    rotate_left
    · refine JL_skips 3 rfl ?_
      refine JL_qg (q_pickF) (k := ?_)
      refine JL_qg (q_pickF) (k := ?_)
      refine JL_q (q_pickT) (k := ?_)
      refine JL_q (q_move) (k := ?_)
      refine JL_skips 6 rfl ?_
      refine JL_q (q_pickF) (k := ?_)
      refine JL_q (q_assign) (k := ?_)
      refine JL_nil ?_
      refine JX_seq ?_
      refine J_ret ?_
      refine JX_ret Tryd.results5 (Res.tmp rfl Res.nil) (fun w1 hw1 => ?_)
      exact ⟨(by rw [((((((((((((hF.neg hq1).pos hq37).neg hq38).neg hq39).t hq40).t hq41).neg hq42).pos hq48).pos hq49).neg hq50).neg hq52)).eq] <;> first | rfl | (simp only [List.length_set] <;> rfl)), hw1.ext_out⟩
    refine JL_qg (q_move) (k := ?_)
    refine JL_qg (q_move) (k := ?_)
    refine JL_qg (q_eqT) (k := ?_)
    refine JL_qg (q_pickT) (k := ?_)
    refine JL_qg (q_pickF) (k := ?_)
    refine JL_q (q_pickT) (k := ?_)
    refine JL_q (q_move) (k := ?_)
    refine JL_dec 125 rfl (fun hq53 => ?_) (fun hq53 => ?_)
    rotate_left
    · refine JL_skips 6 rfl ?_
      refine JL_q (q_pickF) (k := ?_)
      refine JL_q (q_assign) (k := ?_)
      refine JL_nil ?_
      refine JX_seq ?_
      refine J_ret ?_
      refine JX_ret Tryd.results5 (Res.tmp rfl Res.nil) (fun w1 hw1 => ?_)
      exact ⟨(by rw [(((((((((((((hF.neg hq1).pos hq37).neg hq38).neg hq39).t hq40).t hq41).neg hq42).pos hq48).pos hq49).neg hq50).pos hq52).neg hq53)).eq] <;> first | rfl | (simp only [List.length_set] <;> rfl)), hw1.ext_out⟩
    refine JL_qg (q_move) (k := ?_)
    refine JL_qg (q_neq) (k := ?_)
    refine JL_qg (q_move) (k := ?_)
    refine JL_dec 128 rfl (fun hq54 => ?_) (fun hq54 => ?_)
    · refine JL_skips 2 rfl ?_
      refine JL_qg (q_pickT) (k := ?_)
      refine JL_q (q_pickT) (k := ?_)
      refine JL_q (q_assign) (k := ?_)
      refine JL_nil ?_
      refine JX_seq ?_
      refine J_ret ?_
      refine JX_ret Tryd.results5 (Res.tmp rfl Res.nil) (fun w1 hw1 => ?_)
      exact ⟨(by rw [((((((((((((((hF.neg hq1).pos hq37).neg hq38).neg hq39).t hq40).t hq41).neg hq42).pos hq48).pos hq49).neg hq50).pos hq52).pos hq53).pos hq54)).eq] <;> first | rfl | (simp only [List.length_set] <;> rfl)), hw1.ext_out⟩
    refine JL_qg (q_move) (k := ?_)
    refine JL_qg (q_neq) (k := ?_)
    refine JL_qg (q_pickF) (k := ?_)
    refine JL_q (q_pickT) (k := ?_)
    refine JL_q (q_assign) (k := ?_)
    refine JL_nil ?_
    refine JX_seq ?_
    refine J_ret ?_
    refine JX_ret Tryd.results5 (Res.tmp rfl Res.nil) (fun w1 hw1 => ?_)
    exact ⟨(by rw [((((((((((((((hF.neg hq1).pos hq37).neg hq38).neg hq39).t hq40).t hq41).neg hq42).pos hq48).pos hq49).neg hq50).pos hq52).pos hq53).neg hq54)).eq] <;> first | rfl | (simp only [List.length_set] <;> rfl)), hw1.ext_out⟩
  refine JL_qg (q_move) (k := ?_)
  refine JL_qg (q_neq) (k := ?_)
  refine JL_qg (q_move) (k := ?_)
  refine JL_dec 52 rfl (fun hq2 => ?_) (fun hq2 => ?_)
  · refine JL_skips 3 rfl ?_
    refine JL_qg (q_pickT) (k := ?_)
    refine JL_q (q_pickT) (k := ?_)
    refine JL_q (q_move) (k := ?_)
    refine JL_skips 11 rfl ?_
    refine JL_q (q_pickT) (k := ?_)
    refine JL_nil ?_
    refine JX_seq ?_
    refine J_true rfl ?_
    refine J_seq ?_
    refine J_reg ?_
    refine JL_q (q_assign) (k := ?_)
    refine JL_nil ?_
    refine JX_seq ?_
    refine J_ret ?_
    refine JX_seq_ret ?_
    refine JX_ret Tryd.results5 (Res.tmp rfl Res.nil) (fun w1 hw1 => ?_)
    exact ⟨(by rw [(((hF.pos hq1).pos hq2)).eq] <;> first | rfl | (simp only [List.length_set] <;> rfl)), hw1.ext_out⟩
  refine JL_qg (q_loadA Tryd.isAgg23 Tryd.sizeOf23) (k := ?_)
  refine JL_qg (q_loadA Tryd.isAgg23 Tryd.sizeOf23) (k := ?_)
  refine JL_qg (q_neS (NE_23 _ _ _ _ _ _)) (k := ?_)
  refine JL_qg (q_pickF) (k := ?_)
  refine JL_q (q_pickT) (k := ?_)
  refine JL_q (q_move) (k := ?_)
  refine JL_dec 58 rfl (fun hq3 => ?_) (fun hq3 => ?_)
  · refine JL_skips 11 rfl ?_
    refine JL_q (q_pickT) (k := ?_)
    refine JL_nil ?_
    refine JX_seq ?_
    refine J_true rfl ?_
    refine J_seq ?_
    refine J_reg ?_
    refine JL_q (q_assign) (k := ?_)
    refine JL_nil ?_
    refine JX_seq ?_
    refine J_ret ?_
    refine JX_seq_ret ?_
    refine JX_ret Tryd.results5 (Res.tmp rfl Res.nil) (fun w1 hw1 => ?_)
    exact ⟨(by rw [((((hF.pos hq1).neg hq2).pos hq3)).eq] <;> first | rfl | (simp only [List.length_set] <;> rfl)), hw1.ext_out⟩
  refine JL_qg (q_move) (k := ?_)
  refine JL_qg (q_eql) (k := ?_)
  refine JL_qg (q_move) (k := ?_)
  refine JL_dec 61 rfl (fun hq4 => ?_) (fun hq4 => ?_)
  rotate_left
  · refine JL_skips 7 rfl ?_
    refine JL_qg (q_pickF) (k := ?_)
    refine JL_q (q_pickF) (k := ?_)
    refine JL_nil ?_
    refine JX_seq ?_
    refine J_false rfl ?_
    refine J_skip ?_
    refine JX_seq ?_
    refine J_seq ?_
    refine J_reg ?_
    refine JL_q (q_move) (k := ?_)
    refine JL_v (args := [(Value.string (bs (pCut s)))]) (c_callA Tryd.call12) (fun w1 hw1 => pParse_ok w1 (s := (pCut s)) (n_s := by first | omega | (simp only [List.length_append, List.length_take, List.length_drop, List.length_set, List.length_replicate, List.length_cons, List.length_nil, List.length_map]; omega) | (simp only [List.length_append, List.length_take, List.length_drop, List.length_set, List.length_replicate, List.length_cons, List.length_nil, List.length_map] at *; omega) | decide) (hG := hG.ext hw1.ext_out) (hE := hE.ext hw1.ext_out)) (k := ?_)
    refine JL_q (q_move) (k := ?_)
    refine JL_q (q_ext) (k := ?_)
    refine JL_q (q_ext) (k := ?_)
    refine JL_a noMk (a_alloc (l := [_, _]) Tryd.zeroValue23) (k := fun r7 hr7 => ?_)
    refine JL_s (w_store (l' := [_, _]) Tryd.sizeOf23) (k := ?_)
    refine JL_q (q_assign) (k := ?_)
    refine JL_nil ?_
    refine JX_seq ?_
    refine J_seq ?_
    refine J_reg ?_
    refine JL_q (q_loadA Tryd.isAgg23 Tryd.sizeOf23) (k := ?_)
    refine JL_v (args := [(Value.agg [(Value.int .i64 (((pParse (pCut s)).1.lo))), (Value.int .i64 (((pParse (pCut s)).1.hi)))].toArray)]) (c_callA Tryd.call10) (fun w1 hw1 => pPrint_ok w1 (p := (pParse (pCut s)).1) (hG := hG.ext hw1.ext_out) (hE := hE.ext hw1.ext_out)) (k := ?_)
    have hpp_19649 := pPrint_len ((pParse (pCut s)).1)
    refine JL_q (q_move) (k := ?_)
    refine JL_q (q_ext) (k := ?_)
    refine JL_q (q_ext) (k := ?_)
    refine JL_q (q_assign) (k := ?_)
    refine JL_q (q_assign) (k := ?_)
    refine JL_nil ?_
    refine JX_seq ?_
    refine J_seq ?_
    refine J_reg ?_
    refine JL_q (q_move) (k := ?_)
    refine JL_v (args := [(Value.string (bs (pCut s)))]) (c_callA Tryd.call22) (fun w1 hw1 => tParse_ok w1 (s := (pCut s)) (n_s := by first | omega | (simp only [List.length_append, List.length_take, List.length_drop, List.length_set, List.length_replicate, List.length_cons, List.length_nil, List.length_map]; omega) | (simp only [List.length_append, List.length_take, List.length_drop, List.length_set, List.length_replicate, List.length_cons, List.length_nil, List.length_map] at *; omega) | decide) (hG := hG.ext hw1.ext_out) (hE := hE.ext hw1.ext_out)) (k := ?_)
    refine JL_q (q_move) (k := ?_)
    refine JL_q (q_ext) (k := ?_)
    refine JL_q (q_ext) (k := ?_)
    refine JL_a noMk (a_alloc (l := [_, _]) Tryd.zeroValue37) (k := fun r8 hr8 => ?_)
    refine JL_s (w_store (l' := [_, _]) Tryd.sizeOf37) (k := ?_)
    refine JL_q (q_assign) (k := ?_)
    refine JL_nil ?_
    refine JX_seq ?_
    refine J_seq ?_
    refine J_reg ?_
    refine JL_q (q_loadA Tryd.isAgg37 Tryd.sizeOf37) (k := ?_)
    refine JL_v (args := [(Value.agg [(Value.int .i64 (((tParse (pCut s)).1.addr))), (Value.int .i64 (((tParse (pCut s)).1.port)))].toArray)]) (c_callA Tryd.call20) (fun w1 hw1 => tPrint_ok w1 (t := (tParse (pCut s)).1) (hG := hG.ext hw1.ext_out) (hE := hE.ext hw1.ext_out)) (k := ?_)
    have htp_617 := tPrint_len ((tParse (pCut s)).1)
    refine JL_q (q_move) (k := ?_)
    refine JL_q (q_ext) (k := ?_)
    refine JL_q (q_ext) (k := ?_)
    refine JL_q (q_assign) (k := ?_)
    refine JL_q (q_assign) (k := ?_)
    refine JL_nil ?_
    refine JX_seq ?_
    refine J_seq ?_
    refine J_reg ?_
    refine JL_q (q_move) (k := ?_)
    refine JL_q (q_move) (k := ?_)
    refine JL_bool 92 rfl (fun hq22 => ?_) (fun hq22 => ?_)
    rotate_left
    · refine JL_skips 5 rfl ?_
      refine JL_q (q_pickF) (k := ?_)
      refine JL_q (q_move) (k := ?_)
      refine JL_skips 11 rfl ?_
      refine JL_q (q_pickF) (k := ?_)
      refine JL_q (q_move) (k := ?_)
      refine JL_skips 11 rfl ?_
      refine JL_q (q_pickF) (k := ?_)
      refine JL_q (q_move) (k := ?_)
      refine JL_skips 6 rfl ?_
      refine JL_q (q_pickF) (k := ?_)
      refine JL_q (q_assign) (k := ?_)
      refine JL_nil ?_
      refine JX_seq ?_
      refine J_ret ?_
      refine JX_ret Tryd.results5 (Res.tmp rfl Res.nil) (fun w1 hw1 => ?_)
      exact ⟨(by rw [((((((hF.pos hq1).neg hq2).neg hq3).neg hq4).f hq22)).eq] <;> first | rfl | (simp only [List.length_set] <;> rfl)), hw1.ext_out⟩
    refine JL_qg (q_move) (k := ?_)
    refine JL_qg (q_eql) (k := ?_)
    refine JL_qg (q_loadA Tryd.isAgg23 Tryd.sizeOf23) (k := ?_)
    refine JL_vg (args := [(Value.agg [(Value.int .i64 (p.lo)), (Value.int .i64 (p.hi))].toArray)]) (c_callA Tryd.call16) (fun w1 hw1 => pRight_ok w1 (p := p)) (k := ?_)
    refine JL_qg (q_eqlB Tryd.runUnderlying4) (k := ?_)
    refine JL_q (q_pickT) (k := ?_)
    refine JL_q (q_move) (k := ?_)
    refine JL_bool 99 rfl (fun hq23 => ?_) (fun hq23 => ?_)
    rotate_left
    · refine JL_skips 11 rfl ?_
      refine JL_q (q_pickF) (k := ?_)
      refine JL_q (q_move) (k := ?_)
      refine JL_skips 11 rfl ?_
      refine JL_q (q_pickF) (k := ?_)
      refine JL_q (q_move) (k := ?_)
      refine JL_skips 6 rfl ?_
      refine JL_q (q_pickF) (k := ?_)
      refine JL_q (q_assign) (k := ?_)
      refine JL_nil ?_
      refine JX_seq ?_
      refine J_ret ?_
      refine JX_ret Tryd.results5 (Res.tmp rfl Res.nil) (fun w1 hw1 => ?_)
      exact ⟨(by rw [(((((((hF.pos hq1).neg hq2).neg hq3).neg hq4).t hq22).f hq23)).eq] <;> first | rfl | (simp only [List.length_set] <;> rfl)), hw1.ext_out⟩
    refine JL_qg (q_move) (k := ?_)
    refine JL_qg (q_neq) (k := ?_)
    refine JL_qg (q_move) (k := ?_)
    refine JL_dec 102 rfl (fun hq24 => ?_) (fun hq24 => ?_)
    · refine JL_skips 7 rfl ?_
      refine JL_qg (q_pickT) (k := ?_)
      refine JL_q (q_pickT) (k := ?_)
      refine JL_q (q_move) (k := ?_)
      refine JL_qg (q_move) (k := ?_)
      refine JL_qg (q_neq) (k := ?_)
      refine JL_qg (q_move) (k := ?_)
      refine JL_dec 115 rfl (fun hq25 => ?_) (fun hq25 => ?_)
      · refine JL_skips 7 rfl ?_
        refine JL_qg (q_pickT) (k := ?_)
        refine JL_q (q_pickT) (k := ?_)
        refine JL_q (q_move) (k := ?_)
        refine JL_qg (q_move) (k := ?_)
        refine JL_qg (q_neq) (k := ?_)
        refine JL_qg (q_move) (k := ?_)
        refine JL_dec 128 rfl (fun hq26 => ?_) (fun hq26 => ?_)
        · refine JL_skips 2 rfl ?_
          refine JL_qg (q_pickT) (k := ?_)
          refine JL_q (q_pickT) (k := ?_)
          refine JL_q (q_assign) (k := ?_)
          refine JL_nil ?_
          refine JX_seq ?_
          refine J_ret ?_
          refine JX_ret Tryd.results5 (Res.tmp rfl Res.nil) (fun w1 hw1 => ?_)
          exact ⟨(by rw [((((((((((hF.pos hq1).neg hq2).neg hq3).neg hq4).t hq22).t hq23).pos hq24).pos hq25).pos hq26)).eq] <;> first | rfl | (simp only [List.length_set] <;> rfl)), hw1.ext_out⟩
        refine JL_qg (q_move) (k := ?_)
        refine JL_qg (q_neq) (k := ?_)
        refine JL_qg (q_pickF) (k := ?_)
        refine JL_q (q_pickT) (k := ?_)
        refine JL_q (q_assign) (k := ?_)
        refine JL_nil ?_
        refine JX_seq ?_
        refine J_ret ?_
        refine JX_ret Tryd.results5 (Res.tmp rfl Res.nil) (fun w1 hw1 => ?_)
        exact ⟨(by rw [((((((((((hF.pos hq1).neg hq2).neg hq3).neg hq4).t hq22).t hq23).pos hq24).pos hq25).neg hq26)).eq] <;> first | rfl | (simp only [List.length_set] <;> rfl)), hw1.ext_out⟩
      refine JL_qg (q_move) (k := ?_)
      refine JL_qg (q_eql) (k := ?_)
      refine JL_qg (q_move) (k := ?_)
      refine JL_dec 118 rfl (fun hq27 => ?_) (fun hq27 => ?_)
      rotate_left
      · refine JL_skips 3 rfl ?_
        refine JL_qg (q_pickF) (k := ?_)
        refine JL_qg (q_pickF) (k := ?_)
        refine JL_q (q_pickT) (k := ?_)
        refine JL_q (q_move) (k := ?_)
        refine JL_skips 6 rfl ?_
        refine JL_q (q_pickF) (k := ?_)
        refine JL_q (q_assign) (k := ?_)
        refine JL_nil ?_
        refine JX_seq ?_
        refine J_ret ?_
        refine JX_ret Tryd.results5 (Res.tmp rfl Res.nil) (fun w1 hw1 => ?_)
        exact ⟨(by rw [((((((((((hF.pos hq1).neg hq2).neg hq3).neg hq4).t hq22).t hq23).pos hq24).neg hq25).neg hq27)).eq] <;> first | rfl | (simp only [List.length_set] <;> rfl)), hw1.ext_out⟩
      refine JL_qg (q_move) (k := ?_)
      refine JL_qg (q_move) (k := ?_)
      refine JL_qg (q_eqT) (k := ?_)
      refine JL_qg (q_pickT) (k := ?_)
      refine JL_qg (q_pickF) (k := ?_)
      refine JL_q (q_pickT) (k := ?_)
      refine JL_q (q_move) (k := ?_)
      refine JL_dec 125 rfl (fun hq28 => ?_) (fun hq28 => ?_)
      rotate_left
      · refine JL_skips 6 rfl ?_
        refine JL_q (q_pickF) (k := ?_)
        refine JL_q (q_assign) (k := ?_)
        refine JL_nil ?_
        refine JX_seq ?_
        refine J_ret ?_
        refine JX_ret Tryd.results5 (Res.tmp rfl Res.nil) (fun w1 hw1 => ?_)
        exact ⟨(by rw [(((((((((((hF.pos hq1).neg hq2).neg hq3).neg hq4).t hq22).t hq23).pos hq24).neg hq25).pos hq27).neg hq28)).eq] <;> first | rfl | (simp only [List.length_set] <;> rfl)), hw1.ext_out⟩
      refine JL_qg (q_move) (k := ?_)
      refine JL_qg (q_neq) (k := ?_)
      refine JL_qg (q_move) (k := ?_)
      refine JL_dec 128 rfl (fun hq29 => ?_) (fun hq29 => ?_)
      · refine JL_skips 2 rfl ?_
        refine JL_qg (q_pickT) (k := ?_)
        refine JL_q (q_pickT) (k := ?_)
        refine JL_q (q_assign) (k := ?_)
        refine JL_nil ?_
        refine JX_seq ?_
        refine J_ret ?_
        refine JX_ret Tryd.results5 (Res.tmp rfl Res.nil) (fun w1 hw1 => ?_)
        exact ⟨(by rw [((((((((((((hF.pos hq1).neg hq2).neg hq3).neg hq4).t hq22).t hq23).pos hq24).neg hq25).pos hq27).pos hq28).pos hq29)).eq] <;> first | rfl | (simp only [List.length_set] <;> rfl)), hw1.ext_out⟩
      refine JL_qg (q_move) (k := ?_)
      refine JL_qg (q_neq) (k := ?_)
      refine JL_qg (q_pickF) (k := ?_)
      refine JL_q (q_pickT) (k := ?_)
      refine JL_q (q_assign) (k := ?_)
      refine JL_nil ?_
      refine JX_seq ?_
      refine J_ret ?_
      refine JX_ret Tryd.results5 (Res.tmp rfl Res.nil) (fun w1 hw1 => ?_)
      exact ⟨(by rw [((((((((((((hF.pos hq1).neg hq2).neg hq3).neg hq4).t hq22).t hq23).pos hq24).neg hq25).pos hq27).pos hq28).neg hq29)).eq] <;> first | rfl | (simp only [List.length_set] <;> rfl)), hw1.ext_out⟩
    refine JL_qg (q_move) (k := ?_)
    refine JL_qg (q_eql) (k := ?_)
    refine JL_qg (q_move) (k := ?_)
    refine JL_dec 105 rfl (fun hq30 => ?_) (fun hq30 => ?_)
    rotate_left
    · refine JL_skips 3 rfl ?_
      refine JL_qg (q_pickF) (k := ?_)
      refine JL_qg (q_pickF) (k := ?_)
      refine JL_q (q_pickT) (k := ?_)
      refine JL_q (q_move) (k := ?_)
      refine JL_skips 11 rfl ?_
      refine JL_q (q_pickF) (k := ?_)
      refine JL_q (q_move) (k := ?_)
      refine JL_skips 6 rfl ?_
      refine JL_q (q_pickF) (k := ?_)
      refine JL_q (q_assign) (k := ?_)
      refine JL_nil ?_
      refine JX_seq ?_
      refine J_ret ?_
      refine JX_ret Tryd.results5 (Res.tmp rfl Res.nil) (fun w1 hw1 => ?_)
      exact ⟨(by rw [(((((((((hF.pos hq1).neg hq2).neg hq3).neg hq4).t hq22).t hq23).neg hq24).neg hq30)).eq] <;> first | rfl | (simp only [List.length_set] <;> rfl)), hw1.ext_out⟩
    refine JL_qg (q_move) (k := ?_)
    refine JL_qg (q_move) (k := ?_)
    refine JL_qg (q_eqT) (k := ?_)
    refine JL_qg (q_pickT) (k := ?_)
    refine JL_qg (q_pickF) (k := ?_)
    refine JL_q (q_pickT) (k := ?_)
    refine JL_q (q_move) (k := ?_)
    refine JL_dec 112 rfl (fun hq31 => ?_) (fun hq31 => ?_)
    rotate_left
    · refine JL_skips 11 rfl ?_
      refine JL_q (q_pickF) (k := ?_)
      refine JL_q (q_move) (k := ?_)
      refine JL_skips 6 rfl ?_
      refine JL_q (q_pickF) (k := ?_)
      refine JL_q (q_assign) (k := ?_)
      refine JL_nil ?_
      refine JX_seq ?_
      refine J_ret ?_
      refine JX_ret Tryd.results5 (Res.tmp rfl Res.nil) (fun w1 hw1 => ?_)
      exact ⟨(by rw [((((((((((hF.pos hq1).neg hq2).neg hq3).neg hq4).t hq22).t hq23).neg hq24).pos hq30).neg hq31)).eq] <;> first | rfl | (simp only [List.length_set] <;> rfl)), hw1.ext_out⟩
    refine JL_qg (q_move) (k := ?_)
    refine JL_qg (q_neq) (k := ?_)
    refine JL_qg (q_move) (k := ?_)
    refine JL_dec 115 rfl (fun hq32 => ?_) (fun hq32 => ?_)
    · refine JL_skips 7 rfl ?_
      refine JL_qg (q_pickT) (k := ?_)
      refine JL_q (q_pickT) (k := ?_)
      refine JL_q (q_move) (k := ?_)
      refine JL_qg (q_move) (k := ?_)
      refine JL_qg (q_neq) (k := ?_)
      refine JL_qg (q_move) (k := ?_)
      refine JL_dec 128 rfl (fun hq33 => ?_) (fun hq33 => ?_)
      · refine JL_skips 2 rfl ?_
        refine JL_qg (q_pickT) (k := ?_)
        refine JL_q (q_pickT) (k := ?_)
        refine JL_q (q_assign) (k := ?_)
        refine JL_nil ?_
        refine JX_seq ?_
        refine J_ret ?_
        refine JX_ret Tryd.results5 (Res.tmp rfl Res.nil) (fun w1 hw1 => ?_)
        exact ⟨(by rw [((((((((((((hF.pos hq1).neg hq2).neg hq3).neg hq4).t hq22).t hq23).neg hq24).pos hq30).pos hq31).pos hq32).pos hq33)).eq] <;> first | rfl | (simp only [List.length_set] <;> rfl)), hw1.ext_out⟩
      refine JL_qg (q_move) (k := ?_)
      refine JL_qg (q_neq) (k := ?_)
      refine JL_qg (q_pickF) (k := ?_)
      refine JL_q (q_pickT) (k := ?_)
      refine JL_q (q_assign) (k := ?_)
      refine JL_nil ?_
      refine JX_seq ?_
      refine J_ret ?_
      refine JX_ret Tryd.results5 (Res.tmp rfl Res.nil) (fun w1 hw1 => ?_)
      exact ⟨(by rw [((((((((((((hF.pos hq1).neg hq2).neg hq3).neg hq4).t hq22).t hq23).neg hq24).pos hq30).pos hq31).pos hq32).neg hq33)).eq] <;> first | rfl | (simp only [List.length_set] <;> rfl)), hw1.ext_out⟩
    refine JL_qg (q_move) (k := ?_)
    refine JL_qg (q_eql) (k := ?_)
    refine JL_qg (q_move) (k := ?_)
    refine JL_dec 118 rfl (fun hq34 => ?_) (fun hq34 => ?_)
    rotate_left
    · refine JL_skips 3 rfl ?_
      refine JL_qg (q_pickF) (k := ?_)
      refine JL_qg (q_pickF) (k := ?_)
      refine JL_q (q_pickT) (k := ?_)
      refine JL_q (q_move) (k := ?_)
      refine JL_skips 6 rfl ?_
      refine JL_q (q_pickF) (k := ?_)
      refine JL_q (q_assign) (k := ?_)
      refine JL_nil ?_
      refine JX_seq ?_
      refine J_ret ?_
      refine JX_ret Tryd.results5 (Res.tmp rfl Res.nil) (fun w1 hw1 => ?_)
      exact ⟨(by rw [((((((((((((hF.pos hq1).neg hq2).neg hq3).neg hq4).t hq22).t hq23).neg hq24).pos hq30).pos hq31).neg hq32).neg hq34)).eq] <;> first | rfl | (simp only [List.length_set] <;> rfl)), hw1.ext_out⟩
    refine JL_qg (q_move) (k := ?_)
    refine JL_qg (q_move) (k := ?_)
    refine JL_qg (q_eqT) (k := ?_)
    refine JL_qg (q_pickT) (k := ?_)
    refine JL_qg (q_pickF) (k := ?_)
    refine JL_q (q_pickT) (k := ?_)
    refine JL_q (q_move) (k := ?_)
    refine JL_dec 125 rfl (fun hq35 => ?_) (fun hq35 => ?_)
    rotate_left
    · refine JL_skips 6 rfl ?_
      refine JL_q (q_pickF) (k := ?_)
      refine JL_q (q_assign) (k := ?_)
      refine JL_nil ?_
      refine JX_seq ?_
      refine J_ret ?_
      refine JX_ret Tryd.results5 (Res.tmp rfl Res.nil) (fun w1 hw1 => ?_)
      exact ⟨(by rw [(((((((((((((hF.pos hq1).neg hq2).neg hq3).neg hq4).t hq22).t hq23).neg hq24).pos hq30).pos hq31).neg hq32).pos hq34).neg hq35)).eq] <;> first | rfl | (simp only [List.length_set] <;> rfl)), hw1.ext_out⟩
    refine JL_qg (q_move) (k := ?_)
    refine JL_qg (q_neq) (k := ?_)
    refine JL_qg (q_move) (k := ?_)
    refine JL_dec 128 rfl (fun hq36 => ?_) (fun hq36 => ?_)
    · refine JL_skips 2 rfl ?_
      refine JL_qg (q_pickT) (k := ?_)
      refine JL_q (q_pickT) (k := ?_)
      refine JL_q (q_assign) (k := ?_)
      refine JL_nil ?_
      refine JX_seq ?_
      refine J_ret ?_
      refine JX_ret Tryd.results5 (Res.tmp rfl Res.nil) (fun w1 hw1 => ?_)
      exact ⟨(by rw [((((((((((((((hF.pos hq1).neg hq2).neg hq3).neg hq4).t hq22).t hq23).neg hq24).pos hq30).pos hq31).neg hq32).pos hq34).pos hq35).pos hq36)).eq] <;> first | rfl | (simp only [List.length_set] <;> rfl)), hw1.ext_out⟩
    refine JL_qg (q_move) (k := ?_)
    refine JL_qg (q_neq) (k := ?_)
    refine JL_qg (q_pickF) (k := ?_)
    refine JL_q (q_pickT) (k := ?_)
    refine JL_q (q_assign) (k := ?_)
    refine JL_nil ?_
    refine JX_seq ?_
    refine J_ret ?_
    refine JX_ret Tryd.results5 (Res.tmp rfl Res.nil) (fun w1 hw1 => ?_)
    exact ⟨(by rw [((((((((((((((hF.pos hq1).neg hq2).neg hq3).neg hq4).t hq22).t hq23).neg hq24).pos hq30).pos hq31).neg hq32).pos hq34).pos hq35).neg hq36)).eq] <;> first | rfl | (simp only [List.length_set] <;> rfl)), hw1.ext_out⟩
  refine JL_qg (q_move) (k := ?_)
  refine JL_qg (q_neq) (k := ?_)
  refine JL_qg (q_move) (k := ?_)
  refine JL_dec 64 rfl (fun hq5 => ?_) (fun hq5 => ?_)
  · refine JL_skips 3 rfl ?_
    refine JL_qg (q_pickT) (k := ?_)
    refine JL_qg (q_pickT) (k := ?_)
    refine JL_q (q_pickF) (k := ?_)
    refine JL_nil ?_
    refine JX_seq ?_
    refine J_true rfl ?_
    refine J_seq ?_
    refine J_reg ?_
    refine JL_q (q_assign) (k := ?_)
    refine JL_nil ?_
    refine JX_seq ?_
    refine J_ret ?_
    refine JX_seq_ret ?_
    refine JX_ret Tryd.results5 (Res.tmp rfl Res.nil) (fun w1 hw1 => ?_)
    exact ⟨(by rw [((((((hF.pos hq1).neg hq2).neg hq3).pos hq4).pos hq5)).eq] <;> first | rfl | (simp only [List.length_set] <;> rfl)), hw1.ext_out⟩
  refine JL_qg (q_loadA Tryd.isAgg37 Tryd.sizeOf37) (k := ?_)
  refine JL_qg (q_loadA Tryd.isAgg37 Tryd.sizeOf37) (k := ?_)
  refine JL_qg (q_neS (NE_37 _ _ _ _ _ _)) (k := ?_)
  refine JL_qg (q_pickF) (k := ?_)
  refine JL_qg (q_pickT) (k := ?_)
  refine JL_q (q_pickF) (k := ?_)
  refine JL_nil ?_
  refine JX_seq ?_
  refine J_dec rfl (fun hq6 => ?_) (fun hq6 => ?_)
  · refine J_seq ?_
    refine J_reg ?_
    refine JL_q (q_assign) (k := ?_)
    refine JL_nil ?_
    refine JX_seq ?_
    refine J_ret ?_
    refine JX_seq_ret ?_
    refine JX_ret Tryd.results5 (Res.tmp rfl Res.nil) (fun w1 hw1 => ?_)
    exact ⟨(by rw [(((((((hF.pos hq1).neg hq2).neg hq3).pos hq4).neg hq5).pos hq6)).eq] <;> first | rfl | (simp only [List.length_set] <;> rfl)), hw1.ext_out⟩
  refine J_skip ?_
  refine JX_seq ?_
  refine J_seq ?_
  refine J_reg ?_
  refine JL_q (q_move) (k := ?_)
  refine JL_v (args := [(Value.string (bs (pCut s)))]) (c_callA Tryd.call12) (fun w1 hw1 => pParse_ok w1 (s := (pCut s)) (n_s := by first | omega | (simp only [List.length_append, List.length_take, List.length_drop, List.length_set, List.length_replicate, List.length_cons, List.length_nil, List.length_map]; omega) | (simp only [List.length_append, List.length_take, List.length_drop, List.length_set, List.length_replicate, List.length_cons, List.length_nil, List.length_map] at *; omega) | decide) (hG := hG.ext hw1.ext_out) (hE := hE.ext hw1.ext_out)) (k := ?_)
  refine JL_q (q_move) (k := ?_)
  refine JL_q (q_ext) (k := ?_)
  refine JL_q (q_ext) (k := ?_)
  refine JL_a noMk (a_alloc (l := [_, _]) Tryd.zeroValue23) (k := fun r5 hr5 => ?_)
  refine JL_s (w_store (l' := [_, _]) Tryd.sizeOf23) (k := ?_)
  refine JL_q (q_assign) (k := ?_)
  refine JL_nil ?_
  refine JX_seq ?_
  refine J_seq ?_
  refine J_reg ?_
  refine JL_q (q_loadA Tryd.isAgg23 Tryd.sizeOf23) (k := ?_)
  refine JL_v (args := [(Value.agg [(Value.int .i64 (((pParse (pCut s)).1.lo))), (Value.int .i64 (((pParse (pCut s)).1.hi)))].toArray)]) (c_callA Tryd.call10) (fun w1 hw1 => pPrint_ok w1 (p := (pParse (pCut s)).1) (hG := hG.ext hw1.ext_out) (hE := hE.ext hw1.ext_out)) (k := ?_)
  have hpp_19649 := pPrint_len ((pParse (pCut s)).1)
  refine JL_q (q_move) (k := ?_)
  refine JL_q (q_ext) (k := ?_)
  refine JL_q (q_ext) (k := ?_)
  refine JL_q (q_assign) (k := ?_)
  refine JL_q (q_assign) (k := ?_)
  refine JL_nil ?_
  refine JX_seq ?_
  refine J_seq ?_
  refine J_reg ?_
  refine JL_q (q_move) (k := ?_)
  refine JL_v (args := [(Value.string (bs (pCut s)))]) (c_callA Tryd.call22) (fun w1 hw1 => tParse_ok w1 (s := (pCut s)) (n_s := by first | omega | (simp only [List.length_append, List.length_take, List.length_drop, List.length_set, List.length_replicate, List.length_cons, List.length_nil, List.length_map]; omega) | (simp only [List.length_append, List.length_take, List.length_drop, List.length_set, List.length_replicate, List.length_cons, List.length_nil, List.length_map] at *; omega) | decide) (hG := hG.ext hw1.ext_out) (hE := hE.ext hw1.ext_out)) (k := ?_)
  refine JL_q (q_move) (k := ?_)
  refine JL_q (q_ext) (k := ?_)
  refine JL_q (q_ext) (k := ?_)
  refine JL_a noMk (a_alloc (l := [_, _]) Tryd.zeroValue37) (k := fun r6 hr6 => ?_)
  refine JL_s (w_store (l' := [_, _]) Tryd.sizeOf37) (k := ?_)
  refine JL_q (q_assign) (k := ?_)
  refine JL_nil ?_
  refine JX_seq ?_
  refine J_seq ?_
  refine J_reg ?_
  refine JL_q (q_loadA Tryd.isAgg37 Tryd.sizeOf37) (k := ?_)
  refine JL_v (args := [(Value.agg [(Value.int .i64 (((tParse (pCut s)).1.addr))), (Value.int .i64 (((tParse (pCut s)).1.port)))].toArray)]) (c_callA Tryd.call20) (fun w1 hw1 => tPrint_ok w1 (t := (tParse (pCut s)).1) (hG := hG.ext hw1.ext_out) (hE := hE.ext hw1.ext_out)) (k := ?_)
  have htp_617 := tPrint_len ((tParse (pCut s)).1)
  refine JL_q (q_move) (k := ?_)
  refine JL_q (q_ext) (k := ?_)
  refine JL_q (q_ext) (k := ?_)
  refine JL_q (q_assign) (k := ?_)
  refine JL_q (q_assign) (k := ?_)
  refine JL_nil ?_
  refine JX_seq ?_
  refine J_seq ?_
  refine J_reg ?_
  refine JL_q (q_move) (k := ?_)
  refine JL_q (q_move) (k := ?_)
  refine JL_bool 92 rfl (fun hq7 => ?_) (fun hq7 => ?_)
  rotate_left
  · refine JL_skips 5 rfl ?_
    refine JL_q (q_pickF) (k := ?_)
    refine JL_q (q_move) (k := ?_)
    refine JL_skips 11 rfl ?_
    refine JL_q (q_pickF) (k := ?_)
    refine JL_q (q_move) (k := ?_)
    refine JL_skips 11 rfl ?_
    refine JL_q (q_pickF) (k := ?_)
    refine JL_q (q_move) (k := ?_)
    refine JL_skips 6 rfl ?_
    refine JL_q (q_pickF) (k := ?_)
    refine JL_q (q_assign) (k := ?_)
    refine JL_nil ?_
    refine JX_seq ?_
    refine J_ret ?_
    refine JX_ret Tryd.results5 (Res.tmp rfl Res.nil) (fun w1 hw1 => ?_)
    exact ⟨(by rw [((((((((hF.pos hq1).neg hq2).neg hq3).pos hq4).neg hq5).neg hq6).f hq7)).eq] <;> first | rfl | (simp only [List.length_set] <;> rfl)), hw1.ext_out⟩
  refine JL_qg (q_move) (k := ?_)
  refine JL_qg (q_eql) (k := ?_)
  refine JL_qg (q_loadA Tryd.isAgg23 Tryd.sizeOf23) (k := ?_)
  refine JL_vg (args := [(Value.agg [(Value.int .i64 (p.lo)), (Value.int .i64 (p.hi))].toArray)]) (c_callA Tryd.call16) (fun w1 hw1 => pRight_ok w1 (p := p)) (k := ?_)
  refine JL_qg (q_eqlB Tryd.runUnderlying4) (k := ?_)
  refine JL_q (q_pickT) (k := ?_)
  refine JL_q (q_move) (k := ?_)
  refine JL_bool 99 rfl (fun hq8 => ?_) (fun hq8 => ?_)
  rotate_left
  · refine JL_skips 11 rfl ?_
    refine JL_q (q_pickF) (k := ?_)
    refine JL_q (q_move) (k := ?_)
    refine JL_skips 11 rfl ?_
    refine JL_q (q_pickF) (k := ?_)
    refine JL_q (q_move) (k := ?_)
    refine JL_skips 6 rfl ?_
    refine JL_q (q_pickF) (k := ?_)
    refine JL_q (q_assign) (k := ?_)
    refine JL_nil ?_
    refine JX_seq ?_
    refine J_ret ?_
    refine JX_ret Tryd.results5 (Res.tmp rfl Res.nil) (fun w1 hw1 => ?_)
    exact ⟨(by rw [(((((((((hF.pos hq1).neg hq2).neg hq3).pos hq4).neg hq5).neg hq6).t hq7).f hq8)).eq] <;> first | rfl | (simp only [List.length_set] <;> rfl)), hw1.ext_out⟩
  refine JL_qg (q_move) (k := ?_)
  refine JL_qg (q_neq) (k := ?_)
  refine JL_qg (q_move) (k := ?_)
  refine JL_dec 102 rfl (fun hq9 => ?_) (fun hq9 => ?_)
  · refine JL_skips 7 rfl ?_
    refine JL_qg (q_pickT) (k := ?_)
    refine JL_q (q_pickT) (k := ?_)
    refine JL_q (q_move) (k := ?_)
    refine JL_qg (q_move) (k := ?_)
    refine JL_qg (q_neq) (k := ?_)
    refine JL_qg (q_move) (k := ?_)
    refine JL_dec 115 rfl (fun hq10 => ?_) (fun hq10 => ?_)
    · refine JL_skips 7 rfl ?_
      refine JL_qg (q_pickT) (k := ?_)
      refine JL_q (q_pickT) (k := ?_)
      refine JL_q (q_move) (k := ?_)
      refine JL_qg (q_move) (k := ?_)
      refine JL_qg (q_neq) (k := ?_)
      refine JL_qg (q_move) (k := ?_)
      refine JL_dec 128 rfl (fun hq11 => ?_) (fun hq11 => ?_)
      · refine JL_skips 2 rfl ?_
        refine JL_qg (q_pickT) (k := ?_)
        refine JL_q (q_pickT) (k := ?_)
        refine JL_q (q_assign) (k := ?_)
        refine JL_nil ?_
        refine JX_seq ?_
        refine J_ret ?_
        refine JX_ret Tryd.results5 (Res.tmp rfl Res.nil) (fun w1 hw1 => ?_)
        exact ⟨(by rw [((((((((((((hF.pos hq1).neg hq2).neg hq3).pos hq4).neg hq5).neg hq6).t hq7).t hq8).pos hq9).pos hq10).pos hq11)).eq] <;> first | rfl | (simp only [List.length_set] <;> rfl)), hw1.ext_out⟩
      refine JL_qg (q_move) (k := ?_)
      refine JL_qg (q_neq) (k := ?_)
      refine JL_qg (q_pickF) (k := ?_)
      refine JL_q (q_pickT) (k := ?_)
      refine JL_q (q_assign) (k := ?_)
      refine JL_nil ?_
      refine JX_seq ?_
      refine J_ret ?_
      refine JX_ret Tryd.results5 (Res.tmp rfl Res.nil) (fun w1 hw1 => ?_)
      exact ⟨(by rw [((((((((((((hF.pos hq1).neg hq2).neg hq3).pos hq4).neg hq5).neg hq6).t hq7).t hq8).pos hq9).pos hq10).neg hq11)).eq] <;> first | rfl | (simp only [List.length_set] <;> rfl)), hw1.ext_out⟩
    refine JL_qg (q_move) (k := ?_)
    refine JL_qg (q_eql) (k := ?_)
    refine JL_qg (q_move) (k := ?_)
    refine JL_dec 118 rfl (fun hq12 => ?_) (fun hq12 => ?_)
    rotate_left
    · refine JL_skips 3 rfl ?_
      refine JL_qg (q_pickF) (k := ?_)
      refine JL_qg (q_pickF) (k := ?_)
      refine JL_q (q_pickT) (k := ?_)
      refine JL_q (q_move) (k := ?_)
      refine JL_skips 6 rfl ?_
      refine JL_q (q_pickF) (k := ?_)
      refine JL_q (q_assign) (k := ?_)
      refine JL_nil ?_
      refine JX_seq ?_
      refine J_ret ?_
      refine JX_ret Tryd.results5 (Res.tmp rfl Res.nil) (fun w1 hw1 => ?_)
      exact ⟨(by rw [((((((((((((hF.pos hq1).neg hq2).neg hq3).pos hq4).neg hq5).neg hq6).t hq7).t hq8).pos hq9).neg hq10).neg hq12)).eq] <;> first | rfl | (simp only [List.length_set] <;> rfl)), hw1.ext_out⟩
    refine JL_qg (q_move) (k := ?_)
    refine JL_qg (q_move) (k := ?_)
    refine JL_qg (q_eqT) (k := ?_)
    refine JL_qg (q_pickT) (k := ?_)
    refine JL_qg (q_pickF) (k := ?_)
    refine JL_q (q_pickT) (k := ?_)
    refine JL_q (q_move) (k := ?_)
    refine JL_dec 125 rfl (fun hq13 => ?_) (fun hq13 => ?_)
    rotate_left
    · refine JL_skips 6 rfl ?_
      refine JL_q (q_pickF) (k := ?_)
      refine JL_q (q_assign) (k := ?_)
      refine JL_nil ?_
      refine JX_seq ?_
      refine J_ret ?_
      refine JX_ret Tryd.results5 (Res.tmp rfl Res.nil) (fun w1 hw1 => ?_)
      exact ⟨(by rw [(((((((((((((hF.pos hq1).neg hq2).neg hq3).pos hq4).neg hq5).neg hq6).t hq7).t hq8).pos hq9).neg hq10).pos hq12).neg hq13)).eq] <;> first | rfl | (simp only [List.length_set] <;> rfl)), hw1.ext_out⟩
    refine JL_qg (q_move) (k := ?_)
    refine JL_qg (q_neq) (k := ?_)
    refine JL_qg (q_move) (k := ?_)
    refine JL_dec 128 rfl (fun hq14 => ?_) (fun hq14 => ?_)
    · refine JL_skips 2 rfl ?_
      refine JL_qg (q_pickT) (k := ?_)
      refine JL_q (q_pickT) (k := ?_)
      refine JL_q (q_assign) (k := ?_)
      refine JL_nil ?_
      refine JX_seq ?_
      refine J_ret ?_
      refine JX_ret Tryd.results5 (Res.tmp rfl Res.nil) (fun w1 hw1 => ?_)
      exact ⟨(by rw [((((((((((((((hF.pos hq1).neg hq2).neg hq3).pos hq4).neg hq5).neg hq6).t hq7).t hq8).pos hq9).neg hq10).pos hq12).pos hq13).pos hq14)).eq] <;> first | rfl | (simp only [List.length_set] <;> rfl)), hw1.ext_out⟩
    refine JL_qg (q_move) (k := ?_)
    refine JL_qg (q_neq) (k := ?_)
    refine JL_qg (q_pickF) (k := ?_)
    refine JL_q (q_pickT) (k := ?_)
    refine JL_q (q_assign) (k := ?_)
    refine JL_nil ?_
    refine JX_seq ?_
    refine J_ret ?_
    refine JX_ret Tryd.results5 (Res.tmp rfl Res.nil) (fun w1 hw1 => ?_)
    exact ⟨(by rw [((((((((((((((hF.pos hq1).neg hq2).neg hq3).pos hq4).neg hq5).neg hq6).t hq7).t hq8).pos hq9).neg hq10).pos hq12).pos hq13).neg hq14)).eq] <;> first | rfl | (simp only [List.length_set] <;> rfl)), hw1.ext_out⟩
  refine JL_qg (q_move) (k := ?_)
  refine JL_qg (q_eql) (k := ?_)
  refine JL_qg (q_move) (k := ?_)
  refine JL_dec 105 rfl (fun hq15 => ?_) (fun hq15 => ?_)
  rotate_left
  · refine JL_skips 3 rfl ?_
    refine JL_qg (q_pickF) (k := ?_)
    refine JL_qg (q_pickF) (k := ?_)
    refine JL_q (q_pickT) (k := ?_)
    refine JL_q (q_move) (k := ?_)
    refine JL_skips 11 rfl ?_
    refine JL_q (q_pickF) (k := ?_)
    refine JL_q (q_move) (k := ?_)
    refine JL_skips 6 rfl ?_
    refine JL_q (q_pickF) (k := ?_)
    refine JL_q (q_assign) (k := ?_)
    refine JL_nil ?_
    refine JX_seq ?_
    refine J_ret ?_
    refine JX_ret Tryd.results5 (Res.tmp rfl Res.nil) (fun w1 hw1 => ?_)
    exact ⟨(by rw [(((((((((((hF.pos hq1).neg hq2).neg hq3).pos hq4).neg hq5).neg hq6).t hq7).t hq8).neg hq9).neg hq15)).eq] <;> first | rfl | (simp only [List.length_set] <;> rfl)), hw1.ext_out⟩
  refine JL_qg (q_move) (k := ?_)
  refine JL_qg (q_move) (k := ?_)
  refine JL_qg (q_eqT) (k := ?_)
  refine JL_qg (q_pickT) (k := ?_)
  refine JL_qg (q_pickF) (k := ?_)
  refine JL_q (q_pickT) (k := ?_)
  refine JL_q (q_move) (k := ?_)
  refine JL_dec 112 rfl (fun hq16 => ?_) (fun hq16 => ?_)
  rotate_left
  · refine JL_skips 11 rfl ?_
    refine JL_q (q_pickF) (k := ?_)
    refine JL_q (q_move) (k := ?_)
    refine JL_skips 6 rfl ?_
    refine JL_q (q_pickF) (k := ?_)
    refine JL_q (q_assign) (k := ?_)
    refine JL_nil ?_
    refine JX_seq ?_
    refine J_ret ?_
    refine JX_ret Tryd.results5 (Res.tmp rfl Res.nil) (fun w1 hw1 => ?_)
    exact ⟨(by rw [((((((((((((hF.pos hq1).neg hq2).neg hq3).pos hq4).neg hq5).neg hq6).t hq7).t hq8).neg hq9).pos hq15).neg hq16)).eq] <;> first | rfl | (simp only [List.length_set] <;> rfl)), hw1.ext_out⟩
  refine JL_qg (q_move) (k := ?_)
  refine JL_qg (q_neq) (k := ?_)
  refine JL_qg (q_move) (k := ?_)
  refine JL_dec 115 rfl (fun hq17 => ?_) (fun hq17 => ?_)
  · refine JL_skips 7 rfl ?_
    refine JL_qg (q_pickT) (k := ?_)
    refine JL_q (q_pickT) (k := ?_)
    refine JL_q (q_move) (k := ?_)
    refine JL_qg (q_move) (k := ?_)
    refine JL_qg (q_neq) (k := ?_)
    refine JL_qg (q_move) (k := ?_)
    refine JL_dec 128 rfl (fun hq18 => ?_) (fun hq18 => ?_)
    · refine JL_skips 2 rfl ?_
      refine JL_qg (q_pickT) (k := ?_)
      refine JL_q (q_pickT) (k := ?_)
      refine JL_q (q_assign) (k := ?_)
      refine JL_nil ?_
      refine JX_seq ?_
      refine J_ret ?_
      refine JX_ret Tryd.results5 (Res.tmp rfl Res.nil) (fun w1 hw1 => ?_)
      exact ⟨(by rw [((((((((((((((hF.pos hq1).neg hq2).neg hq3).pos hq4).neg hq5).neg hq6).t hq7).t hq8).neg hq9).pos hq15).pos hq16).pos hq17).pos hq18)).eq] <;> first | rfl | (simp only [List.length_set] <;> rfl)), hw1.ext_out⟩
    refine JL_qg (q_move) (k := ?_)
    refine JL_qg (q_neq) (k := ?_)
    refine JL_qg (q_pickF) (k := ?_)
    refine JL_q (q_pickT) (k := ?_)
    refine JL_q (q_assign) (k := ?_)
    refine JL_nil ?_
    refine JX_seq ?_
    refine J_ret ?_
    refine JX_ret Tryd.results5 (Res.tmp rfl Res.nil) (fun w1 hw1 => ?_)
    exact ⟨(by rw [((((((((((((((hF.pos hq1).neg hq2).neg hq3).pos hq4).neg hq5).neg hq6).t hq7).t hq8).neg hq9).pos hq15).pos hq16).pos hq17).neg hq18)).eq] <;> first | rfl | (simp only [List.length_set] <;> rfl)), hw1.ext_out⟩
  refine JL_qg (q_move) (k := ?_)
  refine JL_qg (q_eql) (k := ?_)
  refine JL_qg (q_move) (k := ?_)
  refine JL_dec 118 rfl (fun hq19 => ?_) (fun hq19 => ?_)
  rotate_left
  · refine JL_skips 3 rfl ?_
    refine JL_qg (q_pickF) (k := ?_)
    refine JL_qg (q_pickF) (k := ?_)
    refine JL_q (q_pickT) (k := ?_)
    refine JL_q (q_move) (k := ?_)
    refine JL_skips 6 rfl ?_
    refine JL_q (q_pickF) (k := ?_)
    refine JL_q (q_assign) (k := ?_)
    refine JL_nil ?_
    refine JX_seq ?_
    refine J_ret ?_
    refine JX_ret Tryd.results5 (Res.tmp rfl Res.nil) (fun w1 hw1 => ?_)
    exact ⟨(by rw [((((((((((((((hF.pos hq1).neg hq2).neg hq3).pos hq4).neg hq5).neg hq6).t hq7).t hq8).neg hq9).pos hq15).pos hq16).neg hq17).neg hq19)).eq] <;> first | rfl | (simp only [List.length_set] <;> rfl)), hw1.ext_out⟩
  refine JL_qg (q_move) (k := ?_)
  refine JL_qg (q_move) (k := ?_)
  refine JL_qg (q_eqT) (k := ?_)
  refine JL_qg (q_pickT) (k := ?_)
  refine JL_qg (q_pickF) (k := ?_)
  refine JL_q (q_pickT) (k := ?_)
  refine JL_q (q_move) (k := ?_)
  refine JL_dec 125 rfl (fun hq20 => ?_) (fun hq20 => ?_)
  rotate_left
  · refine JL_skips 6 rfl ?_
    refine JL_q (q_pickF) (k := ?_)
    refine JL_q (q_assign) (k := ?_)
    refine JL_nil ?_
    refine JX_seq ?_
    refine J_ret ?_
    refine JX_ret Tryd.results5 (Res.tmp rfl Res.nil) (fun w1 hw1 => ?_)
    exact ⟨(by rw [(((((((((((((((hF.pos hq1).neg hq2).neg hq3).pos hq4).neg hq5).neg hq6).t hq7).t hq8).neg hq9).pos hq15).pos hq16).neg hq17).pos hq19).neg hq20)).eq] <;> first | rfl | (simp only [List.length_set] <;> rfl)), hw1.ext_out⟩
  refine JL_qg (q_move) (k := ?_)
  refine JL_qg (q_neq) (k := ?_)
  refine JL_qg (q_move) (k := ?_)
  refine JL_dec 128 rfl (fun hq21 => ?_) (fun hq21 => ?_)
  · refine JL_skips 2 rfl ?_
    refine JL_qg (q_pickT) (k := ?_)
    refine JL_q (q_pickT) (k := ?_)
    refine JL_q (q_assign) (k := ?_)
    refine JL_nil ?_
    refine JX_seq ?_
    refine J_ret ?_
    refine JX_ret Tryd.results5 (Res.tmp rfl Res.nil) (fun w1 hw1 => ?_)
    exact ⟨(by rw [((((((((((((((((hF.pos hq1).neg hq2).neg hq3).pos hq4).neg hq5).neg hq6).t hq7).t hq8).neg hq9).pos hq15).pos hq16).neg hq17).pos hq19).pos hq20).pos hq21)).eq] <;> first | rfl | (simp only [List.length_set] <;> rfl)), hw1.ext_out⟩
  refine JL_qg (q_move) (k := ?_)
  refine JL_qg (q_neq) (k := ?_)
  refine JL_qg (q_pickF) (k := ?_)
  refine JL_q (q_pickT) (k := ?_)
  refine JL_q (q_assign) (k := ?_)
  refine JL_nil ?_
  refine JX_seq ?_
  refine J_ret ?_
  refine JX_ret Tryd.results5 (Res.tmp rfl Res.nil) (fun w1 hw1 => ?_)
  exact ⟨(by rw [((((((((((((((((hF.pos hq1).neg hq2).neg hq3).pos hq4).neg hq5).neg hq6).t hq7).t hq8).neg hq9).pos hq15).pos hq16).neg hq17).pos hq19).pos hq20).neg hq21)).eq] <;> first | rfl | (simp only [List.length_set] <;> rfl)), hw1.ext_out⟩

theorem lPortsMeet_ok (w : World) {ea0 : Addr} {ea1 : Addr} {p : PortsT} {q : PortsT} {n_ : Int} (hG : Gl w) (hE : Er w ea0 ea1) : Val Tryd.prog 6 [(Value.agg [(Value.int .i64 (p.lo)), (Value.int .i64 (p.hi))].toArray), (Value.agg [(Value.int .i64 (q.lo)), (Value.int .i64 (q.hi))].toArray), (Value.int .i64 (n_))] w (Value.bool ((lPortsMeet p q n_))) := by
  have hF := Is.refl (lPortsMeet p q n_)
  refine enter Tryd.func6 Tryd.ntmps6 (h := ?_)
  refine J_seq ?_
  refine J_reg ?_
  refine JL_a noMk (a_box (l := [_, _])) (k := fun r1 hr1 => ?_)
  refine JL_a noMk (a_box (l := [_, _])) (k := fun r2 hr2 => ?_)
  refine JL_q (q_assign) (k := ?_)
  refine JL_nil ?_
  refine JX_seq ?_
  refine J_seq ?_
  refine J_reg ?_
  refine JL_v (args := []) (c_callA Tryd.call8) (fun w1 hw1 => pShown_ok w1 (hG := hG.ext hw1.ext_out) (hE := hE.ext hw1.ext_out)) (k := ?_)
  refine JL_q (q_assign) (k := ?_)
  refine JL_nil ?_
  refine JX_seq ?_
  refine J_seq ?_
  refine J_reg ?_
  refine JL_q (q_loadA Tryd.isAgg23 Tryd.sizeOf23) (k := ?_)
  refine JL_q (q_loadA Tryd.isAgg23 Tryd.sizeOf23) (k := ?_)
  refine JL_v (args := [(Value.agg [(Value.int .i64 (p.lo)), (Value.int .i64 (p.hi))].toArray), (Value.agg [(Value.int .i64 (q.lo)), (Value.int .i64 (q.hi))].toArray)]) (c_callA Tryd.call14) (fun w1 hw1 => pMeet_ok w1 (p := p) (q := q)) (k := ?_)
  refine JL_q (q_move) (k := ?_)
  refine JL_q (q_ext) (k := ?_)
  refine JL_q (q_ext) (k := ?_)
  refine JL_a noMk (a_alloc (l := [_, _]) Tryd.zeroValue23) (k := fun r3 hr3 => ?_)
  refine JL_s (w_store (l' := [_, _]) Tryd.sizeOf23) (k := ?_)
  refine JL_q (q_assign) (k := ?_)
  refine JL_nil ?_
  refine JX_seq ?_
  refine J_seq ?_
  refine J_reg ?_
  refine JL_q (q_loadA Tryd.isAgg23 Tryd.sizeOf23) (k := ?_)
  refine JL_q (q_loadA Tryd.isAgg23 Tryd.sizeOf23) (k := ?_)
  refine JL_v (args := [(Value.agg [(Value.int .i64 (q.lo)), (Value.int .i64 (q.hi))].toArray), (Value.agg [(Value.int .i64 (p.lo)), (Value.int .i64 (p.hi))].toArray)]) (c_callA Tryd.call14) (fun w1 hw1 => pMeet_ok w1 (p := q) (q := p)) (k := ?_)
  refine JL_q (q_move) (k := ?_)
  refine JL_q (q_ext) (k := ?_)
  refine JL_q (q_ext) (k := ?_)
  refine JL_a noMk (a_alloc (l := [_, _]) Tryd.zeroValue23) (k := fun r4 hr4 => ?_)
  refine JL_s (w_store (l' := [_, _]) Tryd.sizeOf23) (k := ?_)
  refine JL_q (q_assign) (k := ?_)
  refine JL_nil ?_
  refine JX_seq ?_
  refine J_seq ?_
  refine J_reg ?_
  refine JL_q (q_loadA Tryd.isAgg23 Tryd.sizeOf23) (k := ?_)
  refine JL_q (q_move) (k := ?_)
  refine JL_v (args := [(Value.agg [(Value.int .i64 (p.lo)), (Value.int .i64 (p.hi))].toArray), (Value.int .i64 (n_))]) (c_callA Tryd.call18) (fun w1 hw1 => pHas_ok w1 (p := p) (n_ := n_)) (k := ?_)
  refine JL_q (q_move) (k := ?_)
  refine JL_bool 29 rfl (fun hq1 => ?_) (fun hq1 => ?_)
  rotate_left
  · refine JL_skips 3 rfl ?_
    refine JL_q (q_pickF) (k := ?_)
    refine JL_q (q_assign) (k := ?_)
    refine JL_nil ?_
    refine JX_seq ?_
    refine J_seq ?_
    refine J_reg ?_
    refine JL_q (q_move) (k := ?_)
    refine JL_q (q_move) (k := ?_)
    refine JL_bool 35 rfl (fun hq11 => ?_) (fun hq11 => ?_)
    rotate_left
    · refine JL_skips 3 rfl ?_
      refine JL_q (q_pickF) (k := ?_)
      refine JL_q (q_move) (k := ?_)
      refine JL_skips 3 rfl ?_
      refine JL_q (q_pickF) (k := ?_)
      refine JL_q (q_move) (k := ?_)
      refine JL_skips 20 rfl ?_
      refine JL_q (q_pickF) (k := ?_)
      refine JL_q (q_assign) (k := ?_)
      refine JL_nil ?_
      refine JX_seq ?_
      refine J_ret ?_
      refine JX_ret Tryd.results6 (Res.tmp rfl Res.nil) (fun w1 hw1 => ?_)
      exact ⟨(by rw [(((hF.f hq1).f hq11)).eq] <;> first | rfl | (simp only [List.length_set] <;> rfl)), hw1.ext_out⟩
    refine JL_qg (q_loadA Tryd.isAgg23 Tryd.sizeOf23) (k := ?_)
    refine JL_qg (q_loadA Tryd.isAgg23 Tryd.sizeOf23) (k := ?_)
    refine JL_qg (q_eqS (EQ_23 _ _ _ _ _ _)) (k := ?_)
    refine JL_q (q_pickT) (k := ?_)
    refine JL_q (q_move) (k := ?_)
    refine JL_dec 40 rfl (fun hq12 => ?_) (fun hq12 => ?_)
    rotate_left
    · refine JL_skips 3 rfl ?_
      refine JL_q (q_pickF) (k := ?_)
      refine JL_q (q_move) (k := ?_)
      refine JL_skips 20 rfl ?_
      refine JL_q (q_pickF) (k := ?_)
      refine JL_q (q_assign) (k := ?_)
      refine JL_nil ?_
      refine JX_seq ?_
      refine J_ret ?_
      refine JX_ret Tryd.results6 (Res.tmp rfl Res.nil) (fun w1 hw1 => ?_)
      exact ⟨(by rw [((((hF.f hq1).t hq11).neg hq12)).eq] <;> first | rfl | (simp only [List.length_set] <;> rfl)), hw1.ext_out⟩
    refine JL_qg (q_move) (k := ?_)
    refine JL_qg (q_move) (k := ?_)
    refine JL_qg (q_eqlB Tryd.runUnderlying4) (k := ?_)
    refine JL_q (q_pickT) (k := ?_)
    refine JL_q (q_move) (k := ?_)
    refine JL_bool 45 rfl (fun hq13 => ?_) (fun hq13 => ?_)
    rotate_left
    · refine JL_skips 20 rfl ?_
      refine JL_q (q_pickF) (k := ?_)
      refine JL_q (q_assign) (k := ?_)
      refine JL_nil ?_
      refine JX_seq ?_
      refine J_ret ?_
      refine JX_ret Tryd.results6 (Res.tmp rfl Res.nil) (fun w1 hw1 => ?_)
      exact ⟨(by rw [(((((hF.f hq1).t hq11).pos hq12).f hq13)).eq] <;> first | rfl | (simp only [List.length_set] <;> rfl)), hw1.ext_out⟩
    refine JL_qg (q_move) (k := ?_)
    refine JL_qg (q_not) (k := ?_)
    refine JL_qg (q_move) (k := ?_)
    refine JL_bool 48 rfl (fun hq14 => ?_) (fun hq14 => ?_)
    · refine JL_qg (q_move) (k := ?_)
      refine JL_qg (q_not) (k := ?_)
      refine JL_qg (q_pickT) (k := ?_)
      refine JL_qg (q_move) (k := ?_)
      refine JL_skips 12 rfl ?_
      refine JL_qg (q_pickT) (k := ?_)
      refine JL_q (q_pickT) (k := ?_)
      refine JL_q (q_assign) (k := ?_)
      refine JL_nil ?_
      refine JX_seq ?_
      refine J_ret ?_
      refine JX_ret Tryd.results6 (Res.tmp rfl Res.nil) (fun w1 hw1 => ?_)
      exact ⟨(by rw [((((((hF.f hq1).t hq11).pos hq12).t hq13).t hq14)).eq] <;> first | rfl | (simp only [List.length_set] <;> rfl)), hw1.ext_out⟩
    refine JL_skips 2 rfl ?_
    refine JL_qg (q_pickF) (k := ?_)
    refine JL_qg (q_move) (k := ?_)
    refine JL_qg (q_move) (k := ?_)
    refine JL_qg (q_move) (k := ?_)
    refine JL_bool 54 rfl (fun hq15 => ?_) (fun hq15 => ?_)
    rotate_left
    · refine JL_skips 2 rfl ?_
      refine JL_qg (q_pickF) (k := ?_)
      refine JL_qg (q_move) (k := ?_)
      refine JL_skips 5 rfl ?_
      refine JL_qg (q_pickF) (k := ?_)
      refine JL_qg (q_pickF) (k := ?_)
      refine JL_q (q_pickT) (k := ?_)
      refine JL_q (q_assign) (k := ?_)
      refine JL_nil ?_
      refine JX_seq ?_
      refine J_ret ?_
      refine JX_ret Tryd.results6 (Res.tmp rfl Res.nil) (fun w1 hw1 => ?_)
      exact ⟨(by rw [(((((((hF.f hq1).t hq11).pos hq12).t hq13).f hq14).f hq15)).eq] <;> first | rfl | (simp only [List.length_set] <;> rfl)), hw1.ext_out⟩
    refine JL_qg (q_loadA Tryd.isAgg23 Tryd.sizeOf23) (k := ?_)
    refine JL_vg (args := [(Value.agg [(Value.int .i64 (((pMeet p q).1.lo))), (Value.int .i64 (((pMeet p q).1.hi)))].toArray)]) (c_callA Tryd.call16) (fun w1 hw1 => pRight_ok w1 (p := (pMeet p q).1)) (k := ?_)
    refine JL_qg (q_pickT) (k := ?_)
    refine JL_qg (q_move) (k := ?_)
    refine JL_bool 58 rfl (fun hq16 => ?_) (fun hq16 => ?_)
    rotate_left
    · refine JL_skips 5 rfl ?_
      refine JL_qg (q_pickF) (k := ?_)
      refine JL_qg (q_pickF) (k := ?_)
      refine JL_q (q_pickT) (k := ?_)
      refine JL_q (q_assign) (k := ?_)
      refine JL_nil ?_
      refine JX_seq ?_
      refine J_ret ?_
      refine JX_ret Tryd.results6 (Res.tmp rfl Res.nil) (fun w1 hw1 => ?_)
      exact ⟨(by rw [((((((((hF.f hq1).t hq11).pos hq12).t hq13).f hq14).t hq15).f hq16)).eq] <;> first | rfl | (simp only [List.length_set] <;> rfl)), hw1.ext_out⟩
    have hfhq16 := pRight_t hq16
    refine JL_qg (q_loadA Tryd.isAgg23 Tryd.sizeOf23) (k := ?_)
    refine JL_qg (q_move) (k := ?_)
    refine JL_vg (args := [(Value.agg [(Value.int .i64 (((pMeet p q).1.lo))), (Value.int .i64 (((pMeet p q).1.hi)))].toArray), (Value.int .i64 (n_))]) (c_callA Tryd.call18) (fun w1 hw1 => pHas_ok w1 (p := (pMeet p q).1) (n_ := n_)) (k := ?_)
    refine JL_qg (q_move) (k := ?_)
    refine JL_qg (q_eqlB Tryd.runUnderlying4) (k := ?_)
    refine JL_qg (q_pickT) (k := ?_)
    refine JL_qg (q_pickF) (k := ?_)
    refine JL_q (q_pickT) (k := ?_)
    refine JL_q (q_assign) (k := ?_)
    refine JL_nil ?_
    refine JX_seq ?_
    refine J_ret ?_
    refine JX_ret Tryd.results6 (Res.tmp rfl Res.nil) (fun w1 hw1 => ?_)
    exact ⟨(by rw [((((((((hF.f hq1).t hq11).pos hq12).t hq13).f hq14).t hq15).t hq16)).eq] <;> first | rfl | (simp only [List.length_set] <;> rfl)), hw1.ext_out⟩
  refine JL_qg (q_loadA Tryd.isAgg23 Tryd.sizeOf23) (k := ?_)
  refine JL_qg (q_move) (k := ?_)
  refine JL_vg (args := [(Value.agg [(Value.int .i64 (q.lo)), (Value.int .i64 (q.hi))].toArray), (Value.int .i64 (n_))]) (c_callA Tryd.call18) (fun w1 hw1 => pHas_ok w1 (p := q) (n_ := n_)) (k := ?_)
  refine JL_q (q_pickT) (k := ?_)
  refine JL_q (q_assign) (k := ?_)
  refine JL_nil ?_
  refine JX_seq ?_
  refine J_seq ?_
  refine J_reg ?_
  refine JL_q (q_move) (k := ?_)
  refine JL_q (q_move) (k := ?_)
  refine JL_bool 35 rfl (fun hq2 => ?_) (fun hq2 => ?_)
  rotate_left
  · refine JL_skips 3 rfl ?_
    refine JL_q (q_pickF) (k := ?_)
    refine JL_q (q_move) (k := ?_)
    refine JL_skips 3 rfl ?_
    refine JL_q (q_pickF) (k := ?_)
    refine JL_q (q_move) (k := ?_)
    refine JL_skips 20 rfl ?_
    refine JL_q (q_pickF) (k := ?_)
    refine JL_q (q_assign) (k := ?_)
    refine JL_nil ?_
    refine JX_seq ?_
    refine J_ret ?_
    refine JX_ret Tryd.results6 (Res.tmp rfl Res.nil) (fun w1 hw1 => ?_)
    exact ⟨(by rw [(((hF.t hq1).f hq2)).eq] <;> first | rfl | (simp only [List.length_set] <;> rfl)), hw1.ext_out⟩
  refine JL_qg (q_loadA Tryd.isAgg23 Tryd.sizeOf23) (k := ?_)
  refine JL_qg (q_loadA Tryd.isAgg23 Tryd.sizeOf23) (k := ?_)
  refine JL_qg (q_eqS (EQ_23 _ _ _ _ _ _)) (k := ?_)
  refine JL_q (q_pickT) (k := ?_)
  refine JL_q (q_move) (k := ?_)
  refine JL_dec 40 rfl (fun hq3 => ?_) (fun hq3 => ?_)
  rotate_left
  · refine JL_skips 3 rfl ?_
    refine JL_q (q_pickF) (k := ?_)
    refine JL_q (q_move) (k := ?_)
    refine JL_skips 20 rfl ?_
    refine JL_q (q_pickF) (k := ?_)
    refine JL_q (q_assign) (k := ?_)
    refine JL_nil ?_
    refine JX_seq ?_
    refine J_ret ?_
    refine JX_ret Tryd.results6 (Res.tmp rfl Res.nil) (fun w1 hw1 => ?_)
    exact ⟨(by rw [((((hF.t hq1).t hq2).neg hq3)).eq] <;> first | rfl | (simp only [List.length_set] <;> rfl)), hw1.ext_out⟩
  refine JL_qg (q_move) (k := ?_)
  refine JL_qg (q_move) (k := ?_)
  refine JL_qg (q_eqlB Tryd.runUnderlying4) (k := ?_)
  refine JL_q (q_pickT) (k := ?_)
  refine JL_q (q_move) (k := ?_)
  refine JL_bool 45 rfl (fun hq4 => ?_) (fun hq4 => ?_)
  rotate_left
  · refine JL_skips 20 rfl ?_
    refine JL_q (q_pickF) (k := ?_)
    refine JL_q (q_assign) (k := ?_)
    refine JL_nil ?_
    refine JX_seq ?_
    refine J_ret ?_
    refine JX_ret Tryd.results6 (Res.tmp rfl Res.nil) (fun w1 hw1 => ?_)
    exact ⟨(by rw [(((((hF.t hq1).t hq2).pos hq3).f hq4)).eq] <;> first | rfl | (simp only [List.length_set] <;> rfl)), hw1.ext_out⟩
  refine JL_qg (q_move) (k := ?_)
  refine JL_qg (q_not) (k := ?_)
  refine JL_qg (q_move) (k := ?_)
  refine JL_bool 48 rfl (fun hq5 => ?_) (fun hq5 => ?_)
  rotate_left
  · refine JL_skips 2 rfl ?_
    refine JL_qg (q_pickF) (k := ?_)
    refine JL_qg (q_move) (k := ?_)
    refine JL_qg (q_move) (k := ?_)
    refine JL_qg (q_move) (k := ?_)
    refine JL_bool 54 rfl (fun hq9 => ?_) (fun hq9 => ?_)
    rotate_left
    · refine JL_skips 2 rfl ?_
      refine JL_qg (q_pickF) (k := ?_)
      refine JL_qg (q_move) (k := ?_)
      refine JL_skips 5 rfl ?_
      refine JL_qg (q_pickF) (k := ?_)
      refine JL_qg (q_pickF) (k := ?_)
      refine JL_q (q_pickT) (k := ?_)
      refine JL_q (q_assign) (k := ?_)
      refine JL_nil ?_
      refine JX_seq ?_
      refine J_ret ?_
      refine JX_ret Tryd.results6 (Res.tmp rfl Res.nil) (fun w1 hw1 => ?_)
      exact ⟨(by rw [(((((((hF.t hq1).t hq2).pos hq3).t hq4).f hq5).f hq9)).eq] <;> first | rfl | (simp only [List.length_set] <;> rfl)), hw1.ext_out⟩
    refine JL_qg (q_loadA Tryd.isAgg23 Tryd.sizeOf23) (k := ?_)
    refine JL_vg (args := [(Value.agg [(Value.int .i64 (((pMeet p q).1.lo))), (Value.int .i64 (((pMeet p q).1.hi)))].toArray)]) (c_callA Tryd.call16) (fun w1 hw1 => pRight_ok w1 (p := (pMeet p q).1)) (k := ?_)
    refine JL_qg (q_pickT) (k := ?_)
    refine JL_qg (q_move) (k := ?_)
    refine JL_bool 58 rfl (fun hq10 => ?_) (fun hq10 => ?_)
    rotate_left
    · refine JL_skips 5 rfl ?_
      refine JL_qg (q_pickF) (k := ?_)
      refine JL_qg (q_pickF) (k := ?_)
      refine JL_q (q_pickT) (k := ?_)
      refine JL_q (q_assign) (k := ?_)
      refine JL_nil ?_
      refine JX_seq ?_
      refine J_ret ?_
      refine JX_ret Tryd.results6 (Res.tmp rfl Res.nil) (fun w1 hw1 => ?_)
      exact ⟨(by rw [((((((((hF.t hq1).t hq2).pos hq3).t hq4).f hq5).t hq9).f hq10)).eq] <;> first | rfl | (simp only [List.length_set] <;> rfl)), hw1.ext_out⟩
    have hfhq10 := pRight_t hq10
    refine JL_qg (q_loadA Tryd.isAgg23 Tryd.sizeOf23) (k := ?_)
    refine JL_qg (q_move) (k := ?_)
    refine JL_vg (args := [(Value.agg [(Value.int .i64 (((pMeet p q).1.lo))), (Value.int .i64 (((pMeet p q).1.hi)))].toArray), (Value.int .i64 (n_))]) (c_callA Tryd.call18) (fun w1 hw1 => pHas_ok w1 (p := (pMeet p q).1) (n_ := n_)) (k := ?_)
    refine JL_qg (q_move) (k := ?_)
    refine JL_qg (q_eqlB Tryd.runUnderlying4) (k := ?_)
    refine JL_qg (q_pickT) (k := ?_)
    refine JL_qg (q_pickF) (k := ?_)
    refine JL_q (q_pickT) (k := ?_)
    refine JL_q (q_assign) (k := ?_)
    refine JL_nil ?_
    refine JX_seq ?_
    refine J_ret ?_
    refine JX_ret Tryd.results6 (Res.tmp rfl Res.nil) (fun w1 hw1 => ?_)
    exact ⟨(by rw [((((((((hF.t hq1).t hq2).pos hq3).t hq4).f hq5).t hq9).t hq10)).eq] <;> first | rfl | (simp only [List.length_set] <;> rfl)), hw1.ext_out⟩
  refine JL_qg (q_move) (k := ?_)
  refine JL_qg (q_not) (k := ?_)
  refine JL_qg (q_pickT) (k := ?_)
  refine JL_qg (q_move) (k := ?_)
  refine JL_bool 52 rfl (fun hq6 => ?_) (fun hq6 => ?_)
  · refine JL_skips 12 rfl ?_
    refine JL_qg (q_pickT) (k := ?_)
    refine JL_q (q_pickT) (k := ?_)
    refine JL_q (q_assign) (k := ?_)
    refine JL_nil ?_
    refine JX_seq ?_
    refine J_ret ?_
    refine JX_ret Tryd.results6 (Res.tmp rfl Res.nil) (fun w1 hw1 => ?_)
    exact ⟨(by rw [(((((((hF.t hq1).t hq2).pos hq3).t hq4).t hq5).t hq6)).eq] <;> first | rfl | (simp only [List.length_set] <;> rfl)), hw1.ext_out⟩
  refine JL_qg (q_move) (k := ?_)
  refine JL_qg (q_move) (k := ?_)
  refine JL_bool 54 rfl (fun hq7 => ?_) (fun hq7 => ?_)
  rotate_left
  · refine JL_skips 2 rfl ?_
    refine JL_qg (q_pickF) (k := ?_)
    refine JL_qg (q_move) (k := ?_)
    refine JL_skips 5 rfl ?_
    refine JL_qg (q_pickF) (k := ?_)
    refine JL_qg (q_pickF) (k := ?_)
    refine JL_q (q_pickT) (k := ?_)
    refine JL_q (q_assign) (k := ?_)
    refine JL_nil ?_
    refine JX_seq ?_
    refine J_ret ?_
    refine JX_ret Tryd.results6 (Res.tmp rfl Res.nil) (fun w1 hw1 => ?_)
    exact ⟨(by rw [((((((((hF.t hq1).t hq2).pos hq3).t hq4).t hq5).f hq6).f hq7)).eq] <;> first | rfl | (simp only [List.length_set] <;> rfl)), hw1.ext_out⟩
  refine JL_qg (q_loadA Tryd.isAgg23 Tryd.sizeOf23) (k := ?_)
  refine JL_vg (args := [(Value.agg [(Value.int .i64 (((pMeet p q).1.lo))), (Value.int .i64 (((pMeet p q).1.hi)))].toArray)]) (c_callA Tryd.call16) (fun w1 hw1 => pRight_ok w1 (p := (pMeet p q).1)) (k := ?_)
  refine JL_qg (q_pickT) (k := ?_)
  refine JL_qg (q_move) (k := ?_)
  refine JL_bool 58 rfl (fun hq8 => ?_) (fun hq8 => ?_)
  rotate_left
  · refine JL_skips 5 rfl ?_
    refine JL_qg (q_pickF) (k := ?_)
    refine JL_qg (q_pickF) (k := ?_)
    refine JL_q (q_pickT) (k := ?_)
    refine JL_q (q_assign) (k := ?_)
    refine JL_nil ?_
    refine JX_seq ?_
    refine J_ret ?_
    refine JX_ret Tryd.results6 (Res.tmp rfl Res.nil) (fun w1 hw1 => ?_)
    exact ⟨(by rw [(((((((((hF.t hq1).t hq2).pos hq3).t hq4).t hq5).f hq6).t hq7).f hq8)).eq] <;> first | rfl | (simp only [List.length_set] <;> rfl)), hw1.ext_out⟩
  have hfhq8 := pRight_t hq8
  refine JL_qg (q_loadA Tryd.isAgg23 Tryd.sizeOf23) (k := ?_)
  refine JL_qg (q_move) (k := ?_)
  refine JL_vg (args := [(Value.agg [(Value.int .i64 (((pMeet p q).1.lo))), (Value.int .i64 (((pMeet p q).1.hi)))].toArray), (Value.int .i64 (n_))]) (c_callA Tryd.call18) (fun w1 hw1 => pHas_ok w1 (p := (pMeet p q).1) (n_ := n_)) (k := ?_)
  refine JL_qg (q_move) (k := ?_)
  refine JL_qg (q_eqlB Tryd.runUnderlying4) (k := ?_)
  refine JL_qg (q_pickT) (k := ?_)
  refine JL_qg (q_pickF) (k := ?_)
  refine JL_q (q_pickT) (k := ?_)
  refine JL_q (q_assign) (k := ?_)
  refine JL_nil ?_
  refine JX_seq ?_
  refine J_ret ?_
  refine JX_ret Tryd.results6 (Res.tmp rfl Res.nil) (fun w1 hw1 => ?_)
  exact ⟨(by rw [(((((((((hF.t hq1).t hq2).pos hq3).t hq4).t hq5).f hq6).t hq7).t hq8)).eq] <;> first | rfl | (simp only [List.length_set] <;> rfl)), hw1.ext_out⟩

theorem lPortsSelf_ok (w : World) {ea0 : Addr} {ea1 : Addr} {p : PortsT} (i_p_lo : -9223372036854775808 ≤ p.lo ∧ p.lo ≤ 9223372036854775807) (i_p_hi : -9223372036854775808 ≤ p.hi ∧ p.hi ≤ 9223372036854775807) (hG : Gl w) (hE : Er w ea0 ea1) : Val Tryd.prog 7 [(Value.agg [(Value.int .i64 (p.lo)), (Value.int .i64 (p.hi))].toArray)] w (Value.bool ((lPortsSelf p))) := by
  have hF := Is.refl (lPortsSelf p)
  refine enter Tryd.func7 Tryd.ntmps7 (h := ?_)
  refine J_seq ?_
  refine J_reg ?_
  refine JL_a noMk (a_box (l := [_, _])) (k := fun r1 hr1 => ?_)
  refine JL_q (q_assign) (k := ?_)
  refine JL_nil ?_
  refine JX_seq ?_
  refine J_seq ?_
  refine J_reg ?_
  refine JL_v (args := []) (c_callA Tryd.call8) (fun w1 hw1 => pShown_ok w1 (hG := hG.ext hw1.ext_out) (hE := hE.ext hw1.ext_out)) (k := ?_)
  refine JL_q (q_assign) (k := ?_)
  refine JL_nil ?_
  refine JX_seq ?_
  refine J_seq ?_
  refine J_reg ?_
  refine JL_q (q_loadA Tryd.isAgg23 Tryd.sizeOf23) (k := ?_)
  refine JL_q (q_loadA Tryd.isAgg23 Tryd.sizeOf23) (k := ?_)
  refine JL_v (args := [(Value.agg [(Value.int .i64 (p.lo)), (Value.int .i64 (p.hi))].toArray), (Value.agg [(Value.int .i64 (p.lo)), (Value.int .i64 (p.hi))].toArray)]) (c_callA Tryd.call14) (fun w1 hw1 => pMeet_ok w1 (p := p) (q := p)) (k := ?_)
  refine JL_q (q_move) (k := ?_)
  refine JL_q (q_ext) (k := ?_)
  refine JL_q (q_ext) (k := ?_)
  refine JL_a noMk (a_alloc (l := [_, _]) Tryd.zeroValue23) (k := fun r2 hr2 => ?_)
  refine JL_s (w_store (l' := [_, _]) Tryd.sizeOf23) (k := ?_)
  refine JL_q (q_assign) (k := ?_)
  refine JL_nil ?_
  refine JX_seq ?_
  refine J_seq ?_
  refine J_reg ?_
  refine JL_q (q_loadA Tryd.isAgg23 Tryd.sizeOf23) (k := ?_)
  refine JL_q (q_build (cs := [_, _]) Tryd.zeroValue23 PL_23) (k := ?_)
  refine JL_v (args := [(Value.agg [(Value.int .i64 (p.lo)), (Value.int .i64 (p.hi))].toArray), (Value.agg [(Value.int .i64 (0)), (Value.int .i64 (65535))].toArray)]) (c_callA Tryd.call14) (fun w1 hw1 => pMeet_ok w1 (p := p) (q := (PortsT.mk 0 65535))) (k := ?_)
  refine JL_q (q_move) (k := ?_)
  refine JL_q (q_ext) (k := ?_)
  refine JL_q (q_ext) (k := ?_)
  refine JL_a noMk (a_alloc (l := [_, _]) Tryd.zeroValue23) (k := fun r3 hr3 => ?_)
  refine JL_s (w_store (l' := [_, _]) Tryd.sizeOf23) (k := ?_)
  refine JL_q (q_assign) (k := ?_)
  refine JL_nil ?_
  refine JX_seq ?_
  refine J_seq ?_
  refine J_seq ?_
  refine J_reg ?_
  refine JL_q (q_loadA Tryd.isAgg23 Tryd.sizeOf23) (k := ?_)
  refine JL_v (args := [(Value.agg [(Value.int .i64 (p.lo)), (Value.int .i64 (p.hi))].toArray)]) (c_callA Tryd.call16) (fun w1 hw1 => pRight_ok w1 (p := p)) (k := ?_)
  refine JL_q (q_not) (k := ?_)
  refine JL_nil ?_
  refine JX_seq ?_
  refine J_cond rfl (fun hq1 => ?_) (fun hq1 => ?_)
  · refine J_seq ?_
    refine J_reg ?_
    refine JL_q (q_move) (k := ?_)
    refine JL_q (q_move) (k := ?_)
    refine JL_bool 25 rfl (fun hq2 => ?_) (fun hq2 => ?_)
    rotate_left
    · refine JL_skips 2 rfl ?_
      refine JL_q (q_pickF) (k := ?_)
      refine JL_q (q_move) (k := ?_)
      refine JL_skips 2 rfl ?_
      refine JL_q (q_pickF) (k := ?_)
      refine JL_q (q_move) (k := ?_)
      refine JL_skips 3 rfl ?_
      refine JL_q (q_pickF) (k := ?_)
      refine JL_q (q_move) (k := ?_)
      refine JL_skips 3 rfl ?_
      refine JL_q (q_pickF) (k := ?_)
      refine JL_q (q_assign) (k := ?_)
      refine JL_nil ?_
      refine JX_seq ?_
      refine J_ret ?_
      refine JX_seq_ret ?_
      refine JX_ret Tryd.results7 (Res.tmp rfl Res.nil) (fun w1 hw1 => ?_)
      exact ⟨(by rw [(((hF.t hq1).f hq2)).eq] <;> first | rfl | (simp only [List.length_set] <;> rfl)), hw1.ext_out⟩
    refine JL_qg (q_move) (k := ?_)
    refine JL_qg (q_not) (k := ?_)
    refine JL_q (q_pickT) (k := ?_)
    refine JL_q (q_move) (k := ?_)
    refine JL_bool 29 rfl (fun hq3 => ?_) (fun hq3 => ?_)
    rotate_left
    · refine JL_skips 2 rfl ?_
      refine JL_q (q_pickF) (k := ?_)
      refine JL_q (q_move) (k := ?_)
      refine JL_skips 3 rfl ?_
      refine JL_q (q_pickF) (k := ?_)
      refine JL_q (q_move) (k := ?_)
      refine JL_skips 3 rfl ?_
      refine JL_q (q_pickF) (k := ?_)
      refine JL_q (q_assign) (k := ?_)
      refine JL_nil ?_
      refine JX_seq ?_
      refine J_ret ?_
      refine JX_seq_ret ?_
      refine JX_ret Tryd.results7 (Res.tmp rfl Res.nil) (fun w1 hw1 => ?_)
      exact ⟨(by rw [((((hF.t hq1).t hq2).f hq3)).eq] <;> first | rfl | (simp only [List.length_set] <;> rfl)), hw1.ext_out⟩
    refine JL_qg (q_move) (k := ?_)
    refine JL_qg (q_not) (k := ?_)
    refine JL_q (q_pickT) (k := ?_)
    refine JL_q (q_move) (k := ?_)
    refine JL_bool 33 rfl (fun hq4 => ?_) (fun hq4 => ?_)
    rotate_left
    · refine JL_skips 3 rfl ?_
      refine JL_q (q_pickF) (k := ?_)
      refine JL_q (q_move) (k := ?_)
      refine JL_skips 3 rfl ?_
      refine JL_q (q_pickF) (k := ?_)
      refine JL_q (q_assign) (k := ?_)
      refine JL_nil ?_
      refine JX_seq ?_
      refine J_ret ?_
      refine JX_seq_ret ?_
      refine JX_ret Tryd.results7 (Res.tmp rfl Res.nil) (fun w1 hw1 => ?_)
      exact ⟨(by rw [(((((hF.t hq1).t hq2).t hq3).f hq4)).eq] <;> first | rfl | (simp only [List.length_set] <;> rfl)), hw1.ext_out⟩
    refine JL_qg (q_loadA Tryd.isAgg23 Tryd.sizeOf23) (k := ?_)
    refine JL_qg (q_build (cs := [_, _]) Tryd.zeroValue23 PL_23) (k := ?_)
    refine JL_qg (q_eqS (EQ_23 _ _ _ _ _ _)) (k := ?_)
    refine JL_q (q_pickT) (k := ?_)
    refine JL_q (q_move) (k := ?_)
    refine JL_dec 38 rfl (fun hq5 => ?_) (fun hq5 => ?_)
    rotate_left
    · refine JL_skips 3 rfl ?_
      refine JL_q (q_pickF) (k := ?_)
      refine JL_q (q_assign) (k := ?_)
      refine JL_nil ?_
      refine JX_seq ?_
      refine J_ret ?_
      refine JX_seq_ret ?_
      refine JX_ret Tryd.results7 (Res.tmp rfl Res.nil) (fun w1 hw1 => ?_)
      exact ⟨(by rw [((((((hF.t hq1).t hq2).t hq3).t hq4).neg hq5)).eq] <;> first | rfl | (simp only [List.length_set] <;> rfl)), hw1.ext_out⟩
    refine JL_qg (q_loadA Tryd.isAgg23 Tryd.sizeOf23) (k := ?_)
    refine JL_qg (q_build (cs := [_, _]) Tryd.zeroValue23 PL_23) (k := ?_)
    refine JL_qg (q_eqS (EQ_23 _ _ _ _ _ _)) (k := ?_)
    refine JL_q (q_pickT) (k := ?_)
    refine JL_q (q_assign) (k := ?_)
    refine JL_nil ?_
    refine JX_seq ?_
    refine J_ret ?_
    refine JX_seq_ret ?_
    refine JX_ret Tryd.results7 (Res.tmp rfl Res.nil) (fun w1 hw1 => ?_)
    exact ⟨(by rw [((((((hF.t hq1).t hq2).t hq3).t hq4).pos hq5)).eq] <;> first | rfl | (simp only [List.length_set] <;> rfl)), hw1.ext_out⟩
  have hfhq1 := pRight_t (by simpa using hq1)
  refine J_skip ?_
  refine JX_seq ?_
  refine J_seq ?_
  refine J_reg ?_
  refine JL_q (q_move) (k := ?_)
  refine JL_q (q_move) (k := ?_)
  refine JL_bool 44 rfl (fun hq6 => ?_) (fun hq6 => ?_)
  rotate_left
  · refine JL_skip (k := ?_)
    refine JL_q (q_pickF) (k := ?_)
    refine JL_q (q_move) (k := ?_)
    refine JL_skip (k := ?_)
    refine JL_q (q_pickF) (k := ?_)
    refine JL_q (q_move) (k := ?_)
    refine JL_skips 3 rfl ?_
    refine JL_q (q_pickF) (k := ?_)
    refine JL_q (q_move) (k := ?_)
    refine JL_skips 3 rfl ?_
    refine JL_q (q_pickF) (k := ?_)
    refine JL_q (q_move) (k := ?_)
    refine JL_skips 4 rfl ?_
    refine JL_q (q_pickF) (k := ?_)
    refine JL_q (q_move) (k := ?_)
    refine JL_skips 4 rfl ?_
    refine JL_q (q_pickF) (k := ?_)
    refine JL_q (q_move) (k := ?_)
    refine JL_skips 6 rfl ?_
    refine JL_q (q_pickF) (k := ?_)
    refine JL_q (q_move) (k := ?_)
    refine JL_skips 6 rfl ?_
    refine JL_q (q_pickF) (k := ?_)
    refine JL_q (q_assign) (k := ?_)
    refine JL_nil ?_
    refine JX_seq ?_
    refine J_ret ?_
    refine JX_ret Tryd.results7 (Res.tmp rfl Res.nil) (fun w1 hw1 => ?_)
    exact ⟨(by rw [(((hF.f hq1).f hq6)).eq] <;> first | rfl | (simp only [List.length_set] <;> rfl)), hw1.ext_out⟩
  refine JL_qg (q_move) (k := ?_)
  refine JL_q (q_pickT) (k := ?_)
  refine JL_q (q_move) (k := ?_)
  refine JL_bool 47 rfl (fun hq7 => ?_) (fun hq7 => ?_)
  rotate_left
  · refine JL_skip (k := ?_)
    refine JL_q (q_pickF) (k := ?_)
    refine JL_q (q_move) (k := ?_)
    refine JL_skips 3 rfl ?_
    refine JL_q (q_pickF) (k := ?_)
    refine JL_q (q_move) (k := ?_)
    refine JL_skips 3 rfl ?_
    refine JL_q (q_pickF) (k := ?_)
    refine JL_q (q_move) (k := ?_)
    refine JL_skips 4 rfl ?_
    refine JL_q (q_pickF) (k := ?_)
    refine JL_q (q_move) (k := ?_)
    refine JL_skips 4 rfl ?_
    refine JL_q (q_pickF) (k := ?_)
    refine JL_q (q_move) (k := ?_)
    refine JL_skips 6 rfl ?_
    refine JL_q (q_pickF) (k := ?_)
    refine JL_q (q_move) (k := ?_)
    refine JL_skips 6 rfl ?_
    refine JL_q (q_pickF) (k := ?_)
    refine JL_q (q_assign) (k := ?_)
    refine JL_nil ?_
    refine JX_seq ?_
    refine J_ret ?_
    refine JX_ret Tryd.results7 (Res.tmp rfl Res.nil) (fun w1 hw1 => ?_)
    exact ⟨(by rw [((((hF.f hq1).t hq6).f hq7)).eq] <;> first | rfl | (simp only [List.length_set] <;> rfl)), hw1.ext_out⟩
  refine JL_qg (q_move) (k := ?_)
  refine JL_q (q_pickT) (k := ?_)
  refine JL_q (q_move) (k := ?_)
  refine JL_bool 50 rfl (fun hq8 => ?_) (fun hq8 => ?_)
  rotate_left
  · refine JL_skips 3 rfl ?_
    refine JL_q (q_pickF) (k := ?_)
    refine JL_q (q_move) (k := ?_)
    refine JL_skips 3 rfl ?_
    refine JL_q (q_pickF) (k := ?_)
    refine JL_q (q_move) (k := ?_)
    refine JL_skips 4 rfl ?_
    refine JL_q (q_pickF) (k := ?_)
    refine JL_q (q_move) (k := ?_)
    refine JL_skips 4 rfl ?_
    refine JL_q (q_pickF) (k := ?_)
    refine JL_q (q_move) (k := ?_)
    refine JL_skips 6 rfl ?_
    refine JL_q (q_pickF) (k := ?_)
    refine JL_q (q_move) (k := ?_)
    refine JL_skips 6 rfl ?_
    refine JL_q (q_pickF) (k := ?_)
    refine JL_q (q_assign) (k := ?_)
    refine JL_nil ?_
    refine JX_seq ?_
    refine J_ret ?_
    refine JX_ret Tryd.results7 (Res.tmp rfl Res.nil) (fun w1 hw1 => ?_)
    exact ⟨(by rw [(((((hF.f hq1).t hq6).t hq7).f hq8)).eq] <;> first | rfl | (simp only [List.length_set] <;> rfl)), hw1.ext_out⟩
  refine JL_qg (q_loadA Tryd.isAgg23 Tryd.sizeOf23) (k := ?_)
  refine JL_qg (q_loadA Tryd.isAgg23 Tryd.sizeOf23) (k := ?_)
  refine JL_qg (q_eqS (EQ_23 _ _ _ _ _ _)) (k := ?_)
  refine JL_q (q_pickT) (k := ?_)
  refine JL_q (q_move) (k := ?_)
  refine JL_dec 55 rfl (fun hq9 => ?_) (fun hq9 => ?_)
  rotate_left
  · refine JL_skips 3 rfl ?_
    refine JL_q (q_pickF) (k := ?_)
    refine JL_q (q_move) (k := ?_)
    refine JL_skips 4 rfl ?_
    refine JL_q (q_pickF) (k := ?_)
    refine JL_q (q_move) (k := ?_)
    refine JL_skips 4 rfl ?_
    refine JL_q (q_pickF) (k := ?_)
    refine JL_q (q_move) (k := ?_)
    refine JL_skips 6 rfl ?_
    refine JL_q (q_pickF) (k := ?_)
    refine JL_q (q_move) (k := ?_)
    refine JL_skips 6 rfl ?_
    refine JL_q (q_pickF) (k := ?_)
    refine JL_q (q_assign) (k := ?_)
    refine JL_nil ?_
    refine JX_seq ?_
    refine J_ret ?_
    refine JX_ret Tryd.results7 (Res.tmp rfl Res.nil) (fun w1 hw1 => ?_)
    exact ⟨(by rw [((((((hF.f hq1).t hq6).t hq7).t hq8).neg hq9)).eq] <;> first | rfl | (simp only [List.length_set] <;> rfl)), hw1.ext_out⟩
  refine JL_qg (q_loadA Tryd.isAgg23 Tryd.sizeOf23) (k := ?_)
  refine JL_qg (q_loadA Tryd.isAgg23 Tryd.sizeOf23) (k := ?_)
  refine JL_qg (q_eqS (EQ_23 _ _ _ _ _ _)) (k := ?_)
  refine JL_q (q_pickT) (k := ?_)
  refine JL_q (q_move) (k := ?_)
  refine JL_dec 60 rfl (fun hq10 => ?_) (fun hq10 => ?_)
  rotate_left
  · refine JL_skips 4 rfl ?_
    refine JL_q (q_pickF) (k := ?_)
    refine JL_q (q_move) (k := ?_)
    refine JL_skips 4 rfl ?_
    refine JL_q (q_pickF) (k := ?_)
    refine JL_q (q_move) (k := ?_)
    refine JL_skips 6 rfl ?_
    refine JL_q (q_pickF) (k := ?_)
    refine JL_q (q_move) (k := ?_)
    refine JL_skips 6 rfl ?_
    refine JL_q (q_pickF) (k := ?_)
    refine JL_q (q_assign) (k := ?_)
    refine JL_nil ?_
    refine JX_seq ?_
    refine J_ret ?_
    refine JX_ret Tryd.results7 (Res.tmp rfl Res.nil) (fun w1 hw1 => ?_)
    exact ⟨(by rw [(((((((hF.f hq1).t hq6).t hq7).t hq8).pos hq9).neg hq10)).eq] <;> first | rfl | (simp only [List.length_set] <;> rfl)), hw1.ext_out⟩
  refine JL_qg (q_loadA Tryd.isAgg23 Tryd.sizeOf23) (k := ?_)
  refine JL_qg (q_fld FO_23_0) (k := ?_)
  refine JL_qg (q_load Tryd.isAgg3) (k := ?_)
  refine JL_vg (args := [(Value.agg [(Value.int .i64 (p.lo)), (Value.int .i64 (p.hi))].toArray), (Value.int .i64 (p.lo))]) (c_callA Tryd.call18) (fun w1 hw1 => pHas_ok w1 (p := p) (n_ := p.lo)) (k := ?_)
  refine JL_q (q_pickT) (k := ?_)
  refine JL_q (q_move) (k := ?_)
  refine JL_bool 66 rfl (fun hq11 => ?_) (fun hq11 => ?_)
  rotate_left
  · refine JL_skips 4 rfl ?_
    refine JL_q (q_pickF) (k := ?_)
    refine JL_q (q_move) (k := ?_)
    refine JL_skips 6 rfl ?_
    refine JL_q (q_pickF) (k := ?_)
    refine JL_q (q_move) (k := ?_)
    refine JL_skips 6 rfl ?_
    refine JL_q (q_pickF) (k := ?_)
    refine JL_q (q_assign) (k := ?_)
    refine JL_nil ?_
    refine JX_seq ?_
    refine J_ret ?_
    refine JX_ret Tryd.results7 (Res.tmp rfl Res.nil) (fun w1 hw1 => ?_)
    exact ⟨(by rw [((((((((hF.f hq1).t hq6).t hq7).t hq8).pos hq9).pos hq10).f hq11)).eq] <;> first | rfl | (simp only [List.length_set] <;> rfl)), hw1.ext_out⟩
  refine JL_qg (q_loadA Tryd.isAgg23 Tryd.sizeOf23) (k := ?_)
  refine JL_qg (q_fld FO_23_1) (k := ?_)
  refine JL_qg (q_load Tryd.isAgg3) (k := ?_)
  refine JL_vg (args := [(Value.agg [(Value.int .i64 (p.lo)), (Value.int .i64 (p.hi))].toArray), (Value.int .i64 (p.hi))]) (c_callA Tryd.call18) (fun w1 hw1 => pHas_ok w1 (p := p) (n_ := p.hi)) (k := ?_)
  refine JL_q (q_pickT) (k := ?_)
  refine JL_q (q_move) (k := ?_)
  refine JL_bool 72 rfl (fun hq12 => ?_) (fun hq12 => ?_)
  rotate_left
  · refine JL_skips 6 rfl ?_
    refine JL_q (q_pickF) (k := ?_)
    refine JL_q (q_move) (k := ?_)
    refine JL_skips 6 rfl ?_
    refine JL_q (q_pickF) (k := ?_)
    refine JL_q (q_assign) (k := ?_)
    refine JL_nil ?_
    refine JX_seq ?_
    refine J_ret ?_
    refine JX_ret Tryd.results7 (Res.tmp rfl Res.nil) (fun w1 hw1 => ?_)
    exact ⟨(by rw [(((((((((hF.f hq1).t hq6).t hq7).t hq8).pos hq9).pos hq10).t hq11).f hq12)).eq] <;> first | rfl | (simp only [List.length_set] <;> rfl)), hw1.ext_out⟩
  refine JL_qg (q_loadA Tryd.isAgg23 Tryd.sizeOf23) (k := ?_)
  refine JL_qg (q_fld FO_23_0) (k := ?_)
  refine JL_qg (q_load Tryd.isAgg3) (k := ?_)
  refine JL_qg (q_sub) (k := ?_)
  refine JL_vg (args := [(Value.agg [(Value.int .i64 (p.lo)), (Value.int .i64 (p.hi))].toArray), (Value.int .i64 ((p.lo - 1)))]) (c_callA Tryd.call18) (fun w1 hw1 => pHas_ok w1 (p := p) (n_ := (p.lo - 1))) (k := ?_)
  refine JL_qg (q_not) (k := ?_)
  refine JL_q (q_pickT) (k := ?_)
  refine JL_q (q_move) (k := ?_)
  refine JL_bool 80 rfl (fun hq13 => ?_) (fun hq13 => ?_)
  rotate_left
  · refine JL_skips 6 rfl ?_
    refine JL_q (q_pickF) (k := ?_)
    refine JL_q (q_assign) (k := ?_)
    refine JL_nil ?_
    refine JX_seq ?_
    refine J_ret ?_
    refine JX_ret Tryd.results7 (Res.tmp rfl Res.nil) (fun w1 hw1 => ?_)
    exact ⟨(by rw [((((((((((hF.f hq1).t hq6).t hq7).t hq8).pos hq9).pos hq10).t hq11).t hq12).f hq13)).eq] <;> first | rfl | (simp only [List.length_set] <;> rfl)), hw1.ext_out⟩
  refine JL_qg (q_loadA Tryd.isAgg23 Tryd.sizeOf23) (k := ?_)
  refine JL_qg (q_fld FO_23_1) (k := ?_)
  refine JL_qg (q_load Tryd.isAgg3) (k := ?_)
  refine JL_qg (q_add) (k := ?_)
  refine JL_vg (args := [(Value.agg [(Value.int .i64 (p.lo)), (Value.int .i64 (p.hi))].toArray), (Value.int .i64 ((p.hi + 1)))]) (c_callA Tryd.call18) (fun w1 hw1 => pHas_ok w1 (p := p) (n_ := (p.hi + 1))) (k := ?_)
  refine JL_qg (q_not) (k := ?_)
  refine JL_q (q_pickT) (k := ?_)
  refine JL_q (q_assign) (k := ?_)
  refine JL_nil ?_
  refine JX_seq ?_
  refine J_ret ?_
  refine JX_ret Tryd.results7 (Res.tmp rfl Res.nil) (fun w1 hw1 => ?_)
  exact ⟨(by rw [((((((((((hF.f hq1).t hq6).t hq7).t hq8).pos hq9).pos hq10).t hq11).t hq12).t hq13)).eq] <;> first | rfl | (simp only [List.length_set] <;> rfl)), hw1.ext_out⟩

end Go.Proofs.YtnnafnjdngjkoaaDoor.Jd
