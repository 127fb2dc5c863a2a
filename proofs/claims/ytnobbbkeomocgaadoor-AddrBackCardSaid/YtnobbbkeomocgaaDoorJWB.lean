/- Part of the proofs of this seat: walks and plain facts. No condition. -/
import Derived.Test.YtnobbbkeomocgaaDoorProg
import Derived.Test.YtnobbbkeomocgaaDoorJMB
import Derived.Test.YtnobbbkeomocgaaDoorJPC
import Derived.Test.YtnobbbkeomocgaaDoorJWA
namespace Go.Proofs.YtnobbbkeomocgaaDoor.Jd
open Go.Proofs
open Go.RowKit (Below)
set_option maxRecDepth 100000
set_option linter.unusedVariables false
set_option linter.unusedSimpArgs false

theorem aShown_ok (w : World) (hG : Gl w) : Val Tryd.prog 10 [] w (Value.bool (aShown)) := by
  have hF := Is.refl aShown
  refine enter Tryd.func10 Tryd.ntmps10 (h := ?_)
  refine J_seq ?_
  refine J_reg ?_
  refine JL_q (q_assign) (k := ?_)
  refine JL_nil ?_
  refine JX_seq ?_
  refine J_seq ?_
  refine J_reg ?_
  refine JL_v (args := [(Value.string (bs ([49, 48, 46, 49, 46, 48, 46, 48, 47, 49, 54] : Str)))]) (c_callA Tryd.call22) (fun w1 hw1 => aParsePrefix_ok w1 (s := ([49, 48, 46, 49, 46, 48, 46, 48, 47, 49, 54] : Str)) (n_s := by first | omega | (simp only [List.length_append, List.length_take, List.length_drop, List.length_set, List.length_replicate, List.length_cons, List.length_nil, List.length_map]; omega) | (simp only [List.length_append, List.length_take, List.length_drop, List.length_set, List.length_replicate, List.length_cons, List.length_nil, List.length_map] at *; omega) | decide) (hG := hG.ext hw1.ext_out)) (k := ?_)
  refine JL_q (q_move) (k := ?_)
  refine JL_q (q_ext) (k := ?_)
  refine JL_q (q_ext) (k := ?_)
  refine JL_a noMk (a_alloc (l := [_, _]) Tryd.zeroValue23) (k := fun r1 hr1 => ?_)
  refine JL_s (w_store (l' := [_, _]) Tryd.sizeOf23) (k := ?_)
  refine JL_q (q_assign) (k := ?_)
  refine JL_nil ?_
  refine JX_seq ?_
  refine J_seq ?_
  refine J_reg ?_
  refine JL_v (args := [(Value.string (bs ([49, 48, 46, 49, 46, 50, 46, 51] : Str)))]) (c_callA Tryd.call18) (fun w1 hw1 => aParse_ok w1 (s := ([49, 48, 46, 49, 46, 50, 46, 51] : Str)) (n_s := by first | omega | (simp only [List.length_append, List.length_take, List.length_drop, List.length_set, List.length_replicate, List.length_cons, List.length_nil, List.length_map]; omega) | (simp only [List.length_append, List.length_take, List.length_drop, List.length_set, List.length_replicate, List.length_cons, List.length_nil, List.length_map] at *; omega) | decide) (hG := hG.ext hw1.ext_out)) (k := ?_)
  refine JL_q (q_move) (k := ?_)
  refine JL_q (q_ext) (k := ?_)
  refine JL_q (q_ext) (k := ?_)
  refine JL_q (q_assign) (k := ?_)
  refine JL_q (q_assign) (k := ?_)
  refine JL_nil ?_
  refine JX_seq ?_
  refine J_seq ?_
  refine J_reg ?_
  refine JL_v (args := [(Value.string (bs ([49, 48, 46, 50, 46, 48, 46, 48] : Str)))]) (c_callA Tryd.call18) (fun w1 hw1 => aParse_ok w1 (s := ([49, 48, 46, 50, 46, 48, 46, 48] : Str)) (n_s := by first | omega | (simp only [List.length_append, List.length_take, List.length_drop, List.length_set, List.length_replicate, List.length_cons, List.length_nil, List.length_map]; omega) | (simp only [List.length_append, List.length_take, List.length_drop, List.length_set, List.length_replicate, List.length_cons, List.length_nil, List.length_map] at *; omega) | decide) (hG := hG.ext hw1.ext_out)) (k := ?_)
  refine JL_q (q_move) (k := ?_)
  refine JL_q (q_ext) (k := ?_)
  refine JL_q (q_ext) (k := ?_)
  refine JL_q (q_assign) (k := ?_)
  refine JL_q (q_assign) (k := ?_)
  refine JL_nil ?_
  refine JX_seq ?_
  refine J_seq ?_
  refine J_reg ?_
  refine JL_q (q_loadA Tryd.isAgg23 Tryd.sizeOf23) (k := ?_)
  refine JL_v (args := [(Value.agg [(Value.int .i64 (((aParsePrefix ([49, 48, 46, 49, 46, 48, 46, 48, 47, 49, 54] : Str)).1.addr))), (Value.int .i64 (((aParsePrefix ([49, 48, 46, 49, 46, 48, 46, 48, 47, 49, 54] : Str)).1.bits)))].toArray)]) (c_callA Tryd.call11) (fun w1 hw1 => aEnds_ok w1 (p := (aParsePrefix ([49, 48, 46, 49, 46, 48, 46, 48, 47, 49, 54] : Str)).1)) (k := ?_)
  have hen_27385 := aEnds_bd ((aParsePrefix ([49, 48, 46, 49, 46, 48, 46, 48, 47, 49, 54] : Str)).1)
  refine JL_q (q_move) (k := ?_)
  refine JL_q (q_ext) (k := ?_)
  refine JL_q (q_ext) (k := ?_)
  refine JL_q (q_ext) (k := ?_)
  refine JL_q (q_assign) (k := ?_)
  refine JL_q (q_assign) (k := ?_)
  refine JL_q (q_assign) (k := ?_)
  refine JL_nil ?_
  refine JX_seq ?_
  refine J_seq ?_
  refine J_reg ?_
  refine JL_q (q_move) (k := ?_)
  refine JL_v (args := [(Value.int .i64 (((aEnds ((aParsePrefix ([49, 48, 46, 49, 46, 48, 46, 48, 47, 49, 54] : Str)).1)).2.1)))]) (c_callA Tryd.call16) (fun w1 hw1 => aPrint_ok w1 (a := ((aEnds ((aParsePrefix ([49, 48, 46, 49, 46, 48, 46, 48, 47, 49, 54] : Str)).1)).2.1)) (hG := hG.ext hw1.ext_out)) (k := ?_)
  have hpl_24513 := aPrint_len ((aEnds ((aParsePrefix ([49, 48, 46, 49, 46, 48, 46, 48, 47, 49, 54] : Str)).1)).2.1)
  refine JL_q (q_move) (k := ?_)
  refine JL_q (q_ext) (k := ?_)
  refine JL_q (q_ext) (k := ?_)
  refine JL_q (q_assign) (k := ?_)
  refine JL_q (q_assign) (k := ?_)
  refine JL_nil ?_
  refine JX_seq ?_
  refine J_seq ?_
  refine J_reg ?_
  refine JL_v (args := [(Value.string (bs ([49, 46, 50, 46, 51, 46, 48, 52] : Str)))]) (c_callA Tryd.call18) (fun w1 hw1 => aParse_ok w1 (s := ([49, 46, 50, 46, 51, 46, 48, 52] : Str)) (n_s := by first | omega | (simp only [List.length_append, List.length_take, List.length_drop, List.length_set, List.length_replicate, List.length_cons, List.length_nil, List.length_map]; omega) | (simp only [List.length_append, List.length_take, List.length_drop, List.length_set, List.length_replicate, List.length_cons, List.length_nil, List.length_map] at *; omega) | decide) (hG := hG.ext hw1.ext_out)) (k := ?_)
  refine JL_q (q_move) (k := ?_)
  refine JL_q (q_ext) (k := ?_)
  refine JL_q (q_ext) (k := ?_)
  refine JL_q (q_assign) (k := ?_)
  refine JL_q (q_assign) (k := ?_)
  refine JL_nil ?_
  refine JX_seq ?_
  refine J_seq ?_
  refine J_reg ?_
  refine JL_v (args := [(Value.string (bs ([49, 48, 46, 49, 46, 48, 46, 49, 47, 49, 54] : Str)))]) (c_callA Tryd.call22) (fun w1 hw1 => aParsePrefix_ok w1 (s := ([49, 48, 46, 49, 46, 48, 46, 49, 47, 49, 54] : Str)) (n_s := by first | omega | (simp only [List.length_append, List.length_take, List.length_drop, List.length_set, List.length_replicate, List.length_cons, List.length_nil, List.length_map]; omega) | (simp only [List.length_append, List.length_take, List.length_drop, List.length_set, List.length_replicate, List.length_cons, List.length_nil, List.length_map] at *; omega) | decide) (hG := hG.ext hw1.ext_out)) (k := ?_)
  refine JL_q (q_move) (k := ?_)
  refine JL_q (q_ext) (k := ?_)
  refine JL_q (q_ext) (k := ?_)
  refine JL_a noMk (a_alloc (l := [_, _]) Tryd.zeroValue23) (k := fun r2 hr2 => ?_)
  refine JL_s (w_store (l' := [_, _]) Tryd.sizeOf23) (k := ?_)
  refine JL_q (q_assign) (k := ?_)
  refine JL_nil ?_
  refine JX_seq ?_
  refine J_seq ?_
  refine J_reg ?_
  refine JL_q (q_move) (k := ?_)
  refine JL_q (q_eql) (k := ?_)
  refine JL_q (q_move) (k := ?_)
  refine JL_dec 49 rfl (fun hq1 => ?_) (fun hq1 => ?_)
  rotate_left
  · refine JL_skips 2 rfl ?_
    refine JL_q (q_pickF) (k := ?_)
    refine JL_q (q_move) (k := ?_)
    refine JL_skips 2 rfl ?_
    refine JL_q (q_pickF) (k := ?_)
    refine JL_q (q_move) (k := ?_)
    refine JL_skips 3 rfl ?_
    refine JL_q (q_pickF) (k := ?_)
    refine JL_q (q_move) (k := ?_)
    refine JL_skips 4 rfl ?_
    refine JL_q (q_pickF) (k := ?_)
    refine JL_q (q_move) (k := ?_)
    refine JL_skips 4 rfl ?_
    refine JL_q (q_pickF) (k := ?_)
    refine JL_q (q_move) (k := ?_)
    refine JL_skips 2 rfl ?_
    refine JL_q (q_pickF) (k := ?_)
    refine JL_q (q_move) (k := ?_)
    refine JL_skips 2 rfl ?_
    refine JL_q (q_pickF) (k := ?_)
    refine JL_q (q_move) (k := ?_)
    refine JL_skips 2 rfl ?_
    refine JL_q (q_pickF) (k := ?_)
    refine JL_q (q_move) (k := ?_)
    refine JL_skips 2 rfl ?_
    refine JL_q (q_pickF) (k := ?_)
    refine JL_q (q_move) (k := ?_)
    refine JL_skips 2 rfl ?_
    refine JL_q (q_pickF) (k := ?_)
    refine JL_q (q_assign) (k := ?_)
    refine JL_nil ?_
    refine JX_seq ?_
    refine J_ret ?_
    refine JX_ret Tryd.results10 (Res.tmp rfl Res.nil) (fun w1 hw1 => ?_)
    exact ⟨(by rw [((hF.neg hq1)).eq] <;> rfl), hw1.ext_out⟩
  refine JL_qg (q_move) (k := ?_)
  refine JL_qg (q_eql) (k := ?_)
  refine JL_q (q_pickT) (k := ?_)
  refine JL_q (q_move) (k := ?_)
  refine JL_dec 53 rfl (fun hq2 => ?_) (fun hq2 => ?_)
  rotate_left
  · refine JL_skips 2 rfl ?_
    refine JL_q (q_pickF) (k := ?_)
    refine JL_q (q_move) (k := ?_)
    refine JL_skips 3 rfl ?_
    refine JL_q (q_pickF) (k := ?_)
    refine JL_q (q_move) (k := ?_)
    refine JL_skips 4 rfl ?_
    refine JL_q (q_pickF) (k := ?_)
    refine JL_q (q_move) (k := ?_)
    refine JL_skips 4 rfl ?_
    refine JL_q (q_pickF) (k := ?_)
    refine JL_q (q_move) (k := ?_)
    refine JL_skips 2 rfl ?_
    refine JL_q (q_pickF) (k := ?_)
    refine JL_q (q_move) (k := ?_)
    refine JL_skips 2 rfl ?_
    refine JL_q (q_pickF) (k := ?_)
    refine JL_q (q_move) (k := ?_)
    refine JL_skips 2 rfl ?_
    refine JL_q (q_pickF) (k := ?_)
    refine JL_q (q_move) (k := ?_)
    refine JL_skips 2 rfl ?_
    refine JL_q (q_pickF) (k := ?_)
    refine JL_q (q_move) (k := ?_)
    refine JL_skips 2 rfl ?_
    refine JL_q (q_pickF) (k := ?_)
    refine JL_q (q_assign) (k := ?_)
    refine JL_nil ?_
    refine JX_seq ?_
    refine J_ret ?_
    refine JX_ret Tryd.results10 (Res.tmp rfl Res.nil) (fun w1 hw1 => ?_)
    exact ⟨(by rw [(((hF.pos hq1).neg hq2)).eq] <;> rfl), hw1.ext_out⟩
  refine JL_qg (q_move) (k := ?_)
  refine JL_qg (q_eql) (k := ?_)
  refine JL_q (q_pickT) (k := ?_)
  refine JL_q (q_move) (k := ?_)
  refine JL_dec 57 rfl (fun hq3 => ?_) (fun hq3 => ?_)
  rotate_left
  · refine JL_skips 3 rfl ?_
    refine JL_q (q_pickF) (k := ?_)
    refine JL_q (q_move) (k := ?_)
    refine JL_skips 4 rfl ?_
    refine JL_q (q_pickF) (k := ?_)
    refine JL_q (q_move) (k := ?_)
    refine JL_skips 4 rfl ?_
    refine JL_q (q_pickF) (k := ?_)
    refine JL_q (q_move) (k := ?_)
    refine JL_skips 2 rfl ?_
    refine JL_q (q_pickF) (k := ?_)
    refine JL_q (q_move) (k := ?_)
    refine JL_skips 2 rfl ?_
    refine JL_q (q_pickF) (k := ?_)
    refine JL_q (q_move) (k := ?_)
    refine JL_skips 2 rfl ?_
    refine JL_q (q_pickF) (k := ?_)
    refine JL_q (q_move) (k := ?_)
    refine JL_skips 2 rfl ?_
    refine JL_q (q_pickF) (k := ?_)
    refine JL_q (q_move) (k := ?_)
    refine JL_skips 2 rfl ?_
    refine JL_q (q_pickF) (k := ?_)
    refine JL_q (q_assign) (k := ?_)
    refine JL_nil ?_
    refine JX_seq ?_
    refine J_ret ?_
    refine JX_ret Tryd.results10 (Res.tmp rfl Res.nil) (fun w1 hw1 => ?_)
    exact ⟨(by rw [((((hF.pos hq1).pos hq2).neg hq3)).eq] <;> rfl), hw1.ext_out⟩
  refine JL_qg (q_loadA Tryd.isAgg23 Tryd.sizeOf23) (k := ?_)
  refine JL_qg (q_move) (k := ?_)
  refine JL_vg (args := [(Value.agg [(Value.int .i64 (((aParsePrefix ([49, 48, 46, 49, 46, 48, 46, 48, 47, 49, 54] : Str)).1.addr))), (Value.int .i64 (((aParsePrefix ([49, 48, 46, 49, 46, 48, 46, 48, 47, 49, 54] : Str)).1.bits)))].toArray), (Value.int .i64 (((aParse ([49, 48, 46, 49, 46, 50, 46, 51] : Str)).1)))]) (c_callA Tryd.call12) (fun w1 hw1 => aHas_ok w1 (p := (aParsePrefix ([49, 48, 46, 49, 46, 48, 46, 48, 47, 49, 54] : Str)).1) (a := ((aParse ([49, 48, 46, 49, 46, 50, 46, 51] : Str)).1))) (k := ?_)
  refine JL_q (q_pickT) (k := ?_)
  refine JL_q (q_move) (k := ?_)
  refine JL_bool 62 rfl (fun hq4 => ?_) (fun hq4 => ?_)
  rotate_left
  · refine JL_skips 4 rfl ?_
    refine JL_q (q_pickF) (k := ?_)
    refine JL_q (q_move) (k := ?_)
    refine JL_skips 4 rfl ?_
    refine JL_q (q_pickF) (k := ?_)
    refine JL_q (q_move) (k := ?_)
    refine JL_skips 2 rfl ?_
    refine JL_q (q_pickF) (k := ?_)
    refine JL_q (q_move) (k := ?_)
    refine JL_skips 2 rfl ?_
    refine JL_q (q_pickF) (k := ?_)
    refine JL_q (q_move) (k := ?_)
    refine JL_skips 2 rfl ?_
    refine JL_q (q_pickF) (k := ?_)
    refine JL_q (q_move) (k := ?_)
    refine JL_skips 2 rfl ?_
    refine JL_q (q_pickF) (k := ?_)
    refine JL_q (q_move) (k := ?_)
    refine JL_skips 2 rfl ?_
    refine JL_q (q_pickF) (k := ?_)
    refine JL_q (q_assign) (k := ?_)
    refine JL_nil ?_
    refine JX_seq ?_
    refine J_ret ?_
    refine JX_ret Tryd.results10 (Res.tmp rfl Res.nil) (fun w1 hw1 => ?_)
    exact ⟨(by rw [(((((hF.pos hq1).pos hq2).pos hq3).f hq4)).eq] <;> rfl), hw1.ext_out⟩
  refine JL_qg (q_loadA Tryd.isAgg23 Tryd.sizeOf23) (k := ?_)
  refine JL_qg (q_move) (k := ?_)
  refine JL_vg (args := [(Value.agg [(Value.int .i64 (((aParsePrefix ([49, 48, 46, 49, 46, 48, 46, 48, 47, 49, 54] : Str)).1.addr))), (Value.int .i64 (((aParsePrefix ([49, 48, 46, 49, 46, 48, 46, 48, 47, 49, 54] : Str)).1.bits)))].toArray), (Value.int .i64 (((aParse ([49, 48, 46, 50, 46, 48, 46, 48] : Str)).1)))]) (c_callA Tryd.call12) (fun w1 hw1 => aHas_ok w1 (p := (aParsePrefix ([49, 48, 46, 49, 46, 48, 46, 48, 47, 49, 54] : Str)).1) (a := ((aParse ([49, 48, 46, 50, 46, 48, 46, 48] : Str)).1))) (k := ?_)
  refine JL_qg (q_not) (k := ?_)
  refine JL_q (q_pickT) (k := ?_)
  refine JL_q (q_move) (k := ?_)
  refine JL_bool 68 rfl (fun hq5 => ?_) (fun hq5 => ?_)
  rotate_left
  · refine JL_skips 4 rfl ?_
    refine JL_q (q_pickF) (k := ?_)
    refine JL_q (q_move) (k := ?_)
    refine JL_skips 2 rfl ?_
    refine JL_q (q_pickF) (k := ?_)
    refine JL_q (q_move) (k := ?_)
    refine JL_skips 2 rfl ?_
    refine JL_q (q_pickF) (k := ?_)
    refine JL_q (q_move) (k := ?_)
    refine JL_skips 2 rfl ?_
    refine JL_q (q_pickF) (k := ?_)
    refine JL_q (q_move) (k := ?_)
    refine JL_skips 2 rfl ?_
    refine JL_q (q_pickF) (k := ?_)
    refine JL_q (q_move) (k := ?_)
    refine JL_skips 2 rfl ?_
    refine JL_q (q_pickF) (k := ?_)
    refine JL_q (q_assign) (k := ?_)
    refine JL_nil ?_
    refine JX_seq ?_
    refine J_ret ?_
    refine JX_ret Tryd.results10 (Res.tmp rfl Res.nil) (fun w1 hw1 => ?_)
    exact ⟨(by rw [((((((hF.pos hq1).pos hq2).pos hq3).t hq4).f hq5)).eq] <;> rfl), hw1.ext_out⟩
  refine JL_qg (q_move) (k := ?_)
  refine JL_qg (q_fld FO_23_0) (k := ?_)
  refine JL_qg (q_load Tryd.isAgg3) (k := ?_)
  refine JL_qg (q_eql) (k := ?_)
  refine JL_q (q_pickT) (k := ?_)
  refine JL_q (q_move) (k := ?_)
  refine JL_dec 74 rfl (fun hq6 => ?_) (fun hq6 => ?_)
  rotate_left
  · refine JL_skips 2 rfl ?_
    refine JL_q (q_pickF) (k := ?_)
    refine JL_q (q_move) (k := ?_)
    refine JL_skips 2 rfl ?_
    refine JL_q (q_pickF) (k := ?_)
    refine JL_q (q_move) (k := ?_)
    refine JL_skips 2 rfl ?_
    refine JL_q (q_pickF) (k := ?_)
    refine JL_q (q_move) (k := ?_)
    refine JL_skips 2 rfl ?_
    refine JL_q (q_pickF) (k := ?_)
    refine JL_q (q_move) (k := ?_)
    refine JL_skips 2 rfl ?_
    refine JL_q (q_pickF) (k := ?_)
    refine JL_q (q_assign) (k := ?_)
    refine JL_nil ?_
    refine JX_seq ?_
    refine J_ret ?_
    refine JX_ret Tryd.results10 (Res.tmp rfl Res.nil) (fun w1 hw1 => ?_)
    exact ⟨(by rw [(((((((hF.pos hq1).pos hq2).pos hq3).t hq4).t hq5).neg hq6)).eq] <;> rfl), hw1.ext_out⟩
  refine JL_qg (q_move) (k := ?_)
  refine JL_qg (q_eql) (k := ?_)
  refine JL_q (q_pickT) (k := ?_)
  refine JL_q (q_move) (k := ?_)
  refine JL_dec 78 rfl (fun hq7 => ?_) (fun hq7 => ?_)
  rotate_left
  · refine JL_skips 2 rfl ?_
    refine JL_q (q_pickF) (k := ?_)
    refine JL_q (q_move) (k := ?_)
    refine JL_skips 2 rfl ?_
    refine JL_q (q_pickF) (k := ?_)
    refine JL_q (q_move) (k := ?_)
    refine JL_skips 2 rfl ?_
    refine JL_q (q_pickF) (k := ?_)
    refine JL_q (q_move) (k := ?_)
    refine JL_skips 2 rfl ?_
    refine JL_q (q_pickF) (k := ?_)
    refine JL_q (q_assign) (k := ?_)
    refine JL_nil ?_
    refine JX_seq ?_
    refine J_ret ?_
    refine JX_ret Tryd.results10 (Res.tmp rfl Res.nil) (fun w1 hw1 => ?_)
    exact ⟨(by rw [((((((((hF.pos hq1).pos hq2).pos hq3).t hq4).t hq5).pos hq6).neg hq7)).eq] <;> rfl), hw1.ext_out⟩
  refine JL_qg (q_move) (k := ?_)
  refine JL_qg (q_eqT) (k := ?_)
  refine JL_q (q_pickT) (k := ?_)
  refine JL_q (q_move) (k := ?_)
  refine JL_dec 82 rfl (fun hq8 => ?_) (fun hq8 => ?_)
  rotate_left
  · refine JL_skips 2 rfl ?_
    refine JL_q (q_pickF) (k := ?_)
    refine JL_q (q_move) (k := ?_)
    refine JL_skips 2 rfl ?_
    refine JL_q (q_pickF) (k := ?_)
    refine JL_q (q_move) (k := ?_)
    refine JL_skips 2 rfl ?_
    refine JL_q (q_pickF) (k := ?_)
    refine JL_q (q_assign) (k := ?_)
    refine JL_nil ?_
    refine JX_seq ?_
    refine J_ret ?_
    refine JX_ret Tryd.results10 (Res.tmp rfl Res.nil) (fun w1 hw1 => ?_)
    exact ⟨(by rw [(((((((((hF.pos hq1).pos hq2).pos hq3).t hq4).t hq5).pos hq6).pos hq7).neg hq8)).eq] <;> rfl), hw1.ext_out⟩
  refine JL_qg (q_move) (k := ?_)
  refine JL_qg (q_eql) (k := ?_)
  refine JL_q (q_pickT) (k := ?_)
  refine JL_q (q_move) (k := ?_)
  refine JL_dec 86 rfl (fun hq9 => ?_) (fun hq9 => ?_)
  rotate_left
  · refine JL_skips 2 rfl ?_
    refine JL_q (q_pickF) (k := ?_)
    refine JL_q (q_move) (k := ?_)
    refine JL_skips 2 rfl ?_
    refine JL_q (q_pickF) (k := ?_)
    refine JL_q (q_assign) (k := ?_)
    refine JL_nil ?_
    refine JX_seq ?_
    refine J_ret ?_
    refine JX_ret Tryd.results10 (Res.tmp rfl Res.nil) (fun w1 hw1 => ?_)
    exact ⟨(by rw [((((((((((hF.pos hq1).pos hq2).pos hq3).t hq4).t hq5).pos hq6).pos hq7).pos hq8).neg hq9)).eq] <;> rfl), hw1.ext_out⟩
  refine JL_qg (q_move) (k := ?_)
  refine JL_qg (q_eql) (k := ?_)
  refine JL_q (q_pickT) (k := ?_)
  refine JL_q (q_move) (k := ?_)
  refine JL_dec 90 rfl (fun hq10 => ?_) (fun hq10 => ?_)
  rotate_left
  · refine JL_skips 2 rfl ?_
    refine JL_q (q_pickF) (k := ?_)
    refine JL_q (q_assign) (k := ?_)
    refine JL_nil ?_
    refine JX_seq ?_
    refine J_ret ?_
    refine JX_ret Tryd.results10 (Res.tmp rfl Res.nil) (fun w1 hw1 => ?_)
    exact ⟨(by rw [(((((((((((hF.pos hq1).pos hq2).pos hq3).t hq4).t hq5).pos hq6).pos hq7).pos hq8).pos hq9).neg hq10)).eq] <;> rfl), hw1.ext_out⟩
  refine JL_qg (q_move) (k := ?_)
  refine JL_qg (q_eql) (k := ?_)
  refine JL_q (q_pickT) (k := ?_)
  refine JL_q (q_assign) (k := ?_)
  refine JL_nil ?_
  refine JX_seq ?_
  refine J_ret ?_
  refine JX_ret Tryd.results10 (Res.tmp rfl Res.nil) (fun w1 hw1 => ?_)
  exact ⟨(by rw [(((((((((((hF.pos hq1).pos hq2).pos hq3).t hq4).t hq5).pos hq6).pos hq7).pos hq8).pos hq9).pos hq10)).eq] <;> rfl), hw1.ext_out⟩

theorem aCut_ok (w : World) {s : Str} : Val Tryd.prog 15 [(Value.string (bs s))] w (Value.string (bs (aCut s))) := by
  have hF := Is.refl (aCut s)
  refine enter Tryd.func15 Tryd.ntmps15 (h := ?_)
  refine J_seq ?_
  refine J_reg ?_
  refine JL_q (q_assign) (k := ?_)
  refine JL_nil ?_
  refine JX_seq ?_
  refine J_seq ?_
  refine J_reg ?_
  refine JL_q (q_move) (k := ?_)
  refine JL_q (q_move) (k := ?_)
  refine JL_q (q_lenT Tryd.runUnderlying9) (k := ?_)
  refine JL_q (q_min) (k := ?_)
  refine JL_q (q_subThi (s := s) (min s.length 40) Tryd.runUnderlying9 (by omega) (hj := by split <;> omega)) (k := ?_)
  refine JL_q (q_assign) (k := ?_)
  refine JL_nil ?_
  refine JX_seq ?_
  refine J_ret ?_
  refine JX_ret Tryd.results15 (Res.tmp rfl Res.nil) (fun w1 hw1 => ?_)
  exact ⟨(by rw [(hF).eq] <;> rfl), hw1.ext_out⟩

theorem lAddrEnds_ok (w : World) {p : Prefix} {a : Int} (hG : Gl w) : Val Tryd.prog 3 [(Value.agg [(Value.int .i64 (p.addr)), (Value.int .i64 (p.bits))].toArray), (Value.int .i64 (a))] w (Value.bool ((lAddrEnds p a))) := by
  have hF := Is.refl (lAddrEnds p a)
  refine enter Tryd.func3 Tryd.ntmps3 (h := ?_)
  refine J_seq ?_
  refine J_reg ?_
  refine JL_a noMk (a_box (l := [_, _])) (k := fun r1 hr1 => ?_)
  refine JL_q (q_assign) (k := ?_)
  refine JL_nil ?_
  refine JX_seq ?_
  refine J_seq ?_
  refine J_reg ?_
  refine JL_v (args := []) (c_callA Tryd.call10) (fun w1 hw1 => aShown_ok w1 (hG := hG.ext hw1.ext_out)) (k := ?_)
  refine JL_q (q_assign) (k := ?_)
  refine JL_nil ?_
  refine JX_seq ?_
  refine J_seq ?_
  refine J_reg ?_
  refine JL_q (q_loadA Tryd.isAgg23 Tryd.sizeOf23) (k := ?_)
  refine JL_v (args := [(Value.agg [(Value.int .i64 (p.addr)), (Value.int .i64 (p.bits))].toArray)]) (c_callA Tryd.call11) (fun w1 hw1 => aEnds_ok w1 (p := p)) (k := ?_)
  have hen_55713 := aEnds_bd p
  refine JL_q (q_move) (k := ?_)
  refine JL_q (q_ext) (k := ?_)
  refine JL_q (q_ext) (k := ?_)
  refine JL_q (q_ext) (k := ?_)
  refine JL_q (q_assign) (k := ?_)
  refine JL_q (q_assign) (k := ?_)
  refine JL_q (q_assign) (k := ?_)
  refine JL_nil ?_
  refine JX_seq ?_
  refine J_seq ?_
  refine J_seq ?_
  refine J_reg ?_
  refine JL_q (q_move) (k := ?_)
  refine JL_q (q_neq) (k := ?_)
  refine JL_nil ?_
  refine JX_seq ?_
  refine J_dec rfl (fun hq1 => ?_) (fun hq1 => ?_)
  · refine J_seq ?_
    refine J_reg ?_
    refine JL_q (q_move) (k := ?_)
    refine JL_q (q_move) (k := ?_)
    refine JL_bool 19 rfl (fun hq2 => ?_) (fun hq2 => ?_)
    rotate_left
    · refine JL_skips 4 rfl ?_
      refine JL_q (q_pickF) (k := ?_)
      refine JL_q (q_move) (k := ?_)
      refine JL_skips 3 rfl ?_
      refine JL_q (q_pickF) (k := ?_)
      refine JL_q (q_assign) (k := ?_)
      refine JL_nil ?_
      refine JX_seq ?_
      refine J_ret ?_
      refine JX_seq_ret ?_
      refine JX_ret Tryd.results3 (Res.tmp rfl Res.nil) (fun w1 hw1 => ?_)
      exact ⟨(by rw [(((hF.pos hq1).f hq2)).eq] <;> rfl), hw1.ext_out⟩
    refine JL_qg (q_loadA Tryd.isAgg23 Tryd.sizeOf23) (k := ?_)
    refine JL_qg (q_move) (k := ?_)
    refine JL_vg (args := [(Value.agg [(Value.int .i64 (p.addr)), (Value.int .i64 (p.bits))].toArray), (Value.int .i64 (a))]) (c_callA Tryd.call12) (fun w1 hw1 => aHas_ok w1 (p := p) (a := a)) (k := ?_)
    refine JL_qg (q_not) (k := ?_)
    refine JL_q (q_pickT) (k := ?_)
    refine JL_q (q_move) (k := ?_)
    refine JL_bool 25 rfl (fun hq3 => ?_) (fun hq3 => ?_)
    rotate_left
    · refine JL_skips 3 rfl ?_
      refine JL_q (q_pickF) (k := ?_)
      refine JL_q (q_assign) (k := ?_)
      refine JL_nil ?_
      refine JX_seq ?_
      refine J_ret ?_
      refine JX_seq_ret ?_
      refine JX_ret Tryd.results3 (Res.tmp rfl Res.nil) (fun w1 hw1 => ?_)
      exact ⟨(by rw [((((hF.pos hq1).t hq2).f hq3)).eq] <;> rfl), hw1.ext_out⟩
    refine JL_qg (q_loadA Tryd.isAgg23 Tryd.sizeOf23) (k := ?_)
    refine JL_vg (args := [(Value.agg [(Value.int .i64 (p.addr)), (Value.int .i64 (p.bits))].toArray)]) (c_callA Tryd.call13) (fun w1 hw1 => aRight_ok w1 (p := p)) (k := ?_)
    refine JL_qg (q_not) (k := ?_)
    refine JL_q (q_pickT) (k := ?_)
    refine JL_q (q_assign) (k := ?_)
    refine JL_nil ?_
    refine JX_seq ?_
    refine J_ret ?_
    refine JX_seq_ret ?_
    refine JX_ret Tryd.results3 (Res.tmp rfl Res.nil) (fun w1 hw1 => ?_)
    exact ⟨(by rw [((((hF.pos hq1).t hq2).t hq3)).eq] <;> rfl), hw1.ext_out⟩
  refine J_skip ?_
  refine JX_seq ?_
  refine J_seq ?_
  refine J_reg ?_
  refine JL_q (q_move) (k := ?_)
  refine JL_q (q_move) (k := ?_)
  refine JL_bool 31 rfl (fun hq4 => ?_) (fun hq4 => ?_)
  rotate_left
  · refine JL_skips 3 rfl ?_
    refine JL_q (q_pickF) (k := ?_)
    refine JL_q (q_move) (k := ?_)
    refine JL_skips 3 rfl ?_
    refine JL_q (q_pickF) (k := ?_)
    refine JL_q (q_move) (k := ?_)
    refine JL_skips 3 rfl ?_
    refine JL_q (q_pickF) (k := ?_)
    refine JL_q (q_move) (k := ?_)
    refine JL_skips 12 rfl ?_
    refine JL_q (q_pickF) (k := ?_)
    refine JL_q (q_move) (k := ?_)
    refine JL_skips 5 rfl ?_
    refine JL_q (q_pickF) (k := ?_)
    refine JL_q (q_move) (k := ?_)
    refine JL_skips 5 rfl ?_
    refine JL_q (q_pickF) (k := ?_)
    refine JL_q (q_assign) (k := ?_)
    refine JL_nil ?_
    refine JX_seq ?_
    refine J_ret ?_
    refine JX_ret Tryd.results3 (Res.tmp rfl Res.nil) (fun w1 hw1 => ?_)
    exact ⟨(by rw [(((hF.neg hq1).f hq4)).eq] <;> rfl), hw1.ext_out⟩
  refine JL_qg (q_loadA Tryd.isAgg23 Tryd.sizeOf23) (k := ?_)
  refine JL_qg (q_move) (k := ?_)
  refine JL_vg (args := [(Value.agg [(Value.int .i64 (p.addr)), (Value.int .i64 (p.bits))].toArray), (Value.int .i64 (((aEnds p).1)))]) (c_callA Tryd.call12) (fun w1 hw1 => aHas_ok w1 (p := p) (a := ((aEnds p).1))) (k := ?_)
  refine JL_q (q_pickT) (k := ?_)
  refine JL_q (q_move) (k := ?_)
  refine JL_bool 36 rfl (fun hq5 => ?_) (fun hq5 => ?_)
  rotate_left
  · refine JL_skips 3 rfl ?_
    refine JL_q (q_pickF) (k := ?_)
    refine JL_q (q_move) (k := ?_)
    refine JL_skips 3 rfl ?_
    refine JL_q (q_pickF) (k := ?_)
    refine JL_q (q_move) (k := ?_)
    refine JL_skips 12 rfl ?_
    refine JL_q (q_pickF) (k := ?_)
    refine JL_q (q_move) (k := ?_)
    refine JL_skips 5 rfl ?_
    refine JL_q (q_pickF) (k := ?_)
    refine JL_q (q_move) (k := ?_)
    refine JL_skips 5 rfl ?_
    refine JL_q (q_pickF) (k := ?_)
    refine JL_q (q_assign) (k := ?_)
    refine JL_nil ?_
    refine JX_seq ?_
    refine J_ret ?_
    refine JX_ret Tryd.results3 (Res.tmp rfl Res.nil) (fun w1 hw1 => ?_)
    exact ⟨(by rw [((((hF.neg hq1).t hq4).f hq5)).eq] <;> rfl), hw1.ext_out⟩
  refine JL_qg (q_loadA Tryd.isAgg23 Tryd.sizeOf23) (k := ?_)
  refine JL_qg (q_move) (k := ?_)
  refine JL_vg (args := [(Value.agg [(Value.int .i64 (p.addr)), (Value.int .i64 (p.bits))].toArray), (Value.int .i64 (((aEnds p).2.1)))]) (c_callA Tryd.call12) (fun w1 hw1 => aHas_ok w1 (p := p) (a := ((aEnds p).2.1))) (k := ?_)
  refine JL_q (q_pickT) (k := ?_)
  refine JL_q (q_move) (k := ?_)
  refine JL_bool 41 rfl (fun hq6 => ?_) (fun hq6 => ?_)
  rotate_left
  · refine JL_skips 3 rfl ?_
    refine JL_q (q_pickF) (k := ?_)
    refine JL_q (q_move) (k := ?_)
    refine JL_skips 12 rfl ?_
    refine JL_q (q_pickF) (k := ?_)
    refine JL_q (q_move) (k := ?_)
    refine JL_skips 5 rfl ?_
    refine JL_q (q_pickF) (k := ?_)
    refine JL_q (q_move) (k := ?_)
    refine JL_skips 5 rfl ?_
    refine JL_q (q_pickF) (k := ?_)
    refine JL_q (q_assign) (k := ?_)
    refine JL_nil ?_
    refine JX_seq ?_
    refine J_ret ?_
    refine JX_ret Tryd.results3 (Res.tmp rfl Res.nil) (fun w1 hw1 => ?_)
    exact ⟨(by rw [(((((hF.neg hq1).t hq4).t hq5).f hq6)).eq] <;> rfl), hw1.ext_out⟩
  refine JL_qg (q_move) (k := ?_)
  refine JL_qg (q_move) (k := ?_)
  refine JL_qg (q_leq) (k := ?_)
  refine JL_q (q_pickT) (k := ?_)
  refine JL_q (q_move) (k := ?_)
  refine JL_dec 46 rfl (fun hq7 => ?_) (fun hq7 => ?_)
  rotate_left
  · refine JL_skips 12 rfl ?_
    refine JL_q (q_pickF) (k := ?_)
    refine JL_q (q_move) (k := ?_)
    refine JL_skips 5 rfl ?_
    refine JL_q (q_pickF) (k := ?_)
    refine JL_q (q_move) (k := ?_)
    refine JL_skips 5 rfl ?_
    refine JL_q (q_pickF) (k := ?_)
    refine JL_q (q_assign) (k := ?_)
    refine JL_nil ?_
    refine JX_seq ?_
    refine J_ret ?_
    refine JX_ret Tryd.results3 (Res.tmp rfl Res.nil) (fun w1 hw1 => ?_)
    exact ⟨(by rw [((((((hF.neg hq1).t hq4).t hq5).t hq6).neg hq7)).eq] <;> rfl), hw1.ext_out⟩
  refine JL_qg (q_loadA Tryd.isAgg23 Tryd.sizeOf23) (k := ?_)
  refine JL_qg (q_move) (k := ?_)
  refine JL_vg (args := [(Value.agg [(Value.int .i64 (p.addr)), (Value.int .i64 (p.bits))].toArray), (Value.int .i64 (a))]) (c_callA Tryd.call12) (fun w1 hw1 => aHas_ok w1 (p := p) (a := a)) (k := ?_)
  refine JL_qg (q_move) (k := ?_)
  refine JL_qg (q_move) (k := ?_)
  refine JL_qg (q_geq) (k := ?_)
  refine JL_qg (q_move) (k := ?_)
  refine JL_dec 53 rfl (fun hq8 => ?_) (fun hq8 => ?_)
  rotate_left
  · refine JL_skips 3 rfl ?_
    refine JL_qg (q_pickF) (k := ?_)
    refine JL_qg (q_eqlB Tryd.runUnderlying4) (k := ?_)
    refine JL_q (q_pickT) (k := ?_)
    refine JL_q (q_move) (k := ?_)
    refine JL_bool 60 rfl (fun hq11 => ?_) (fun hq11 => ?_)
    rotate_left
    · refine JL_skips 5 rfl ?_
      refine JL_q (q_pickF) (k := ?_)
      refine JL_q (q_move) (k := ?_)
      refine JL_skips 5 rfl ?_
      refine JL_q (q_pickF) (k := ?_)
      refine JL_q (q_assign) (k := ?_)
      refine JL_nil ?_
      refine JX_seq ?_
      refine J_ret ?_
      refine JX_ret Tryd.results3 (Res.tmp rfl Res.nil) (fun w1 hw1 => ?_)
      exact ⟨(by rw [((((((((hF.neg hq1).t hq4).t hq5).t hq6).pos hq7).neg hq8).f hq11)).eq] <;> rfl), hw1.ext_out⟩
    refine JL_qg (q_loadA Tryd.isAgg23 Tryd.sizeOf23) (k := ?_)
    refine JL_qg (q_move) (k := ?_)
    refine JL_qg (q_sub) (k := ?_)
    refine JL_vg (args := [(Value.agg [(Value.int .i64 (p.addr)), (Value.int .i64 (p.bits))].toArray), (Value.int .i64 ((((aEnds p).1) - 1)))]) (c_callA Tryd.call12) (fun w1 hw1 => aHas_ok w1 (p := p) (a := (((aEnds p).1) - 1))) (k := ?_)
    refine JL_qg (q_not) (k := ?_)
    refine JL_q (q_pickT) (k := ?_)
    refine JL_q (q_move) (k := ?_)
    refine JL_bool 67 rfl (fun hq12 => ?_) (fun hq12 => ?_)
    rotate_left
    · refine JL_skips 5 rfl ?_
      refine JL_q (q_pickF) (k := ?_)
      refine JL_q (q_assign) (k := ?_)
      refine JL_nil ?_
      refine JX_seq ?_
      refine J_ret ?_
      refine JX_ret Tryd.results3 (Res.tmp rfl Res.nil) (fun w1 hw1 => ?_)
      exact ⟨(by rw [(((((((((hF.neg hq1).t hq4).t hq5).t hq6).pos hq7).neg hq8).t hq11).f hq12)).eq] <;> rfl), hw1.ext_out⟩
    refine JL_qg (q_loadA Tryd.isAgg23 Tryd.sizeOf23) (k := ?_)
    refine JL_qg (q_move) (k := ?_)
    refine JL_qg (q_add) (k := ?_)
    refine JL_vg (args := [(Value.agg [(Value.int .i64 (p.addr)), (Value.int .i64 (p.bits))].toArray), (Value.int .i64 ((((aEnds p).2.1) + 1)))]) (c_callA Tryd.call12) (fun w1 hw1 => aHas_ok w1 (p := p) (a := (((aEnds p).2.1) + 1))) (k := ?_)
    refine JL_qg (q_not) (k := ?_)
    refine JL_q (q_pickT) (k := ?_)
    refine JL_q (q_assign) (k := ?_)
    refine JL_nil ?_
    refine JX_seq ?_
    refine J_ret ?_
    refine JX_ret Tryd.results3 (Res.tmp rfl Res.nil) (fun w1 hw1 => ?_)
    exact ⟨(by rw [(((((((((hF.neg hq1).t hq4).t hq5).t hq6).pos hq7).neg hq8).t hq11).t hq12)).eq] <;> rfl), hw1.ext_out⟩
  refine JL_qg (q_move) (k := ?_)
  refine JL_qg (q_move) (k := ?_)
  refine JL_qg (q_leq) (k := ?_)
  refine JL_qg (q_pickT) (k := ?_)
  refine JL_qg (q_eqlB Tryd.runUnderlying4) (k := ?_)
  refine JL_q (q_pickT) (k := ?_)
  refine JL_q (q_move) (k := ?_)
  refine JL_bool 60 rfl (fun hq9 => ?_) (fun hq9 => ?_)
  rotate_left
  · refine JL_skips 5 rfl ?_
    refine JL_q (q_pickF) (k := ?_)
    refine JL_q (q_move) (k := ?_)
    refine JL_skips 5 rfl ?_
    refine JL_q (q_pickF) (k := ?_)
    refine JL_q (q_assign) (k := ?_)
    refine JL_nil ?_
    refine JX_seq ?_
    refine J_ret ?_
    refine JX_ret Tryd.results3 (Res.tmp rfl Res.nil) (fun w1 hw1 => ?_)
    exact ⟨(by rw [((((((((hF.neg hq1).t hq4).t hq5).t hq6).pos hq7).pos hq8).f hq9)).eq] <;> rfl), hw1.ext_out⟩
  refine JL_qg (q_loadA Tryd.isAgg23 Tryd.sizeOf23) (k := ?_)
  refine JL_qg (q_move) (k := ?_)
  refine JL_qg (q_sub) (k := ?_)
  refine JL_vg (args := [(Value.agg [(Value.int .i64 (p.addr)), (Value.int .i64 (p.bits))].toArray), (Value.int .i64 ((((aEnds p).1) - 1)))]) (c_callA Tryd.call12) (fun w1 hw1 => aHas_ok w1 (p := p) (a := (((aEnds p).1) - 1))) (k := ?_)
  refine JL_qg (q_not) (k := ?_)
  refine JL_q (q_pickT) (k := ?_)
  refine JL_q (q_move) (k := ?_)
  refine JL_bool 67 rfl (fun hq10 => ?_) (fun hq10 => ?_)
  rotate_left
  · refine JL_skips 5 rfl ?_
    refine JL_q (q_pickF) (k := ?_)
    refine JL_q (q_assign) (k := ?_)
    refine JL_nil ?_
    refine JX_seq ?_
    refine J_ret ?_
    refine JX_ret Tryd.results3 (Res.tmp rfl Res.nil) (fun w1 hw1 => ?_)
    exact ⟨(by rw [(((((((((hF.neg hq1).t hq4).t hq5).t hq6).pos hq7).pos hq8).t hq9).f hq10)).eq] <;> rfl), hw1.ext_out⟩
  refine JL_qg (q_loadA Tryd.isAgg23 Tryd.sizeOf23) (k := ?_)
  refine JL_qg (q_move) (k := ?_)
  refine JL_qg (q_add) (k := ?_)
  refine JL_vg (args := [(Value.agg [(Value.int .i64 (p.addr)), (Value.int .i64 (p.bits))].toArray), (Value.int .i64 ((((aEnds p).2.1) + 1)))]) (c_callA Tryd.call12) (fun w1 hw1 => aHas_ok w1 (p := p) (a := (((aEnds p).2.1) + 1))) (k := ?_)
  refine JL_qg (q_not) (k := ?_)
  refine JL_q (q_pickT) (k := ?_)
  refine JL_q (q_assign) (k := ?_)
  refine JL_nil ?_
  refine JX_seq ?_
  refine J_ret ?_
  refine JX_ret Tryd.results3 (Res.tmp rfl Res.nil) (fun w1 hw1 => ?_)
  exact ⟨(by rw [(((((((((hF.neg hq1).t hq4).t hq5).t hq6).pos hq7).pos hq8).t hq9).t hq10)).eq] <;> rfl), hw1.ext_out⟩

theorem lAddrNested_ok (w : World) {p : Prefix} {q : Prefix} {a : Int} (hG : Gl w) : Val Tryd.prog 4 [(Value.agg [(Value.int .i64 (p.addr)), (Value.int .i64 (p.bits))].toArray), (Value.agg [(Value.int .i64 (q.addr)), (Value.int .i64 (q.bits))].toArray), (Value.int .i64 (a))] w (Value.bool ((lAddrNested p q a))) := by
  have hF := Is.refl (lAddrNested p q a)
  refine enter Tryd.func4 Tryd.ntmps4 (h := ?_)
  refine J_seq ?_
  refine J_reg ?_
  refine JL_a noMk (a_box (l := [_, _])) (k := fun r1 hr1 => ?_)
  refine JL_a noMk (a_box (l := [_, _])) (k := fun r2 hr2 => ?_)
  refine JL_q (q_assign) (k := ?_)
  refine JL_nil ?_
  refine JX_seq ?_
  refine J_seq ?_
  refine J_reg ?_
  refine JL_v (args := []) (c_callA Tryd.call10) (fun w1 hw1 => aShown_ok w1 (hG := hG.ext hw1.ext_out)) (k := ?_)
  refine JL_q (q_assign) (k := ?_)
  refine JL_nil ?_
  refine JX_seq ?_
  refine J_seq ?_
  refine J_reg ?_
  refine JL_q (q_loadA Tryd.isAgg23 Tryd.sizeOf23) (k := ?_)
  refine JL_q (q_loadA Tryd.isAgg23 Tryd.sizeOf23) (k := ?_)
  refine JL_v (args := [(Value.agg [(Value.int .i64 (p.addr)), (Value.int .i64 (p.bits))].toArray), (Value.agg [(Value.int .i64 (q.addr)), (Value.int .i64 (q.bits))].toArray)]) (c_callA Tryd.call14) (fun w1 hw1 => aIn_ok w1 (p := p) (q := q)) (k := ?_)
  refine JL_q (q_assign) (k := ?_)
  refine JL_nil ?_
  refine JX_seq ?_
  refine J_seq ?_
  refine J_reg ?_
  refine JL_q (q_loadA Tryd.isAgg23 Tryd.sizeOf23) (k := ?_)
  refine JL_q (q_loadA Tryd.isAgg23 Tryd.sizeOf23) (k := ?_)
  refine JL_v (args := [(Value.agg [(Value.int .i64 (q.addr)), (Value.int .i64 (q.bits))].toArray), (Value.agg [(Value.int .i64 (p.addr)), (Value.int .i64 (p.bits))].toArray)]) (c_callA Tryd.call14) (fun w1 hw1 => aIn_ok w1 (p := q) (q := p)) (k := ?_)
  refine JL_q (q_assign) (k := ?_)
  refine JL_nil ?_
  refine JX_seq ?_
  refine J_seq ?_
  refine J_seq ?_
  refine J_reg ?_
  refine JL_q (q_loadA Tryd.isAgg23 Tryd.sizeOf23) (k := ?_)
  refine JL_v (args := [(Value.agg [(Value.int .i64 (p.addr)), (Value.int .i64 (p.bits))].toArray)]) (c_callA Tryd.call13) (fun w1 hw1 => aRight_ok w1 (p := p)) (k := ?_)
  refine JL_q (q_not) (k := ?_)
  refine JL_q (q_move) (k := ?_)
  refine JL_bool 21 rfl (fun hq1 => ?_) (fun hq1 => ?_)
  · refine JL_skips 3 rfl ?_
    refine JL_q (q_pickT) (k := ?_)
    refine JL_nil ?_
    refine JX_seq ?_
    refine J_true rfl ?_
    refine J_seq ?_
    refine J_reg ?_
    refine JL_q (q_move) (k := ?_)
    refine JL_q (q_move) (k := ?_)
    refine JL_bool 27 rfl (fun hq2 => ?_) (fun hq2 => ?_)
    rotate_left
    · refine JL_skips 2 rfl ?_
      refine JL_q (q_pickF) (k := ?_)
      refine JL_q (q_move) (k := ?_)
      refine JL_skips 2 rfl ?_
      refine JL_q (q_pickF) (k := ?_)
      refine JL_q (q_assign) (k := ?_)
      refine JL_nil ?_
      refine JX_seq ?_
      refine J_ret ?_
      refine JX_seq_ret ?_
      refine JX_ret Tryd.results4 (Res.tmp rfl Res.nil) (fun w1 hw1 => ?_)
      exact ⟨(by rw [(((hF.t hq1).f hq2)).eq] <;> rfl), hw1.ext_out⟩
    refine JL_qg (q_move) (k := ?_)
    refine JL_qg (q_not) (k := ?_)
    refine JL_q (q_pickT) (k := ?_)
    refine JL_q (q_move) (k := ?_)
    refine JL_bool 31 rfl (fun hq3 => ?_) (fun hq3 => ?_)
    rotate_left
    · refine JL_skips 2 rfl ?_
      refine JL_q (q_pickF) (k := ?_)
      refine JL_q (q_assign) (k := ?_)
      refine JL_nil ?_
      refine JX_seq ?_
      refine J_ret ?_
      refine JX_seq_ret ?_
      refine JX_ret Tryd.results4 (Res.tmp rfl Res.nil) (fun w1 hw1 => ?_)
      exact ⟨(by rw [((((hF.t hq1).t hq2).f hq3)).eq] <;> rfl), hw1.ext_out⟩
    refine JL_qg (q_move) (k := ?_)
    refine JL_qg (q_not) (k := ?_)
    refine JL_q (q_pickT) (k := ?_)
    refine JL_q (q_assign) (k := ?_)
    refine JL_nil ?_
    refine JX_seq ?_
    refine J_ret ?_
    refine JX_seq_ret ?_
    refine JX_ret Tryd.results4 (Res.tmp rfl Res.nil) (fun w1 hw1 => ?_)
    exact ⟨(by rw [((((hF.t hq1).t hq2).t hq3)).eq] <;> rfl), hw1.ext_out⟩
  have hfhq1 := aRight_t (by simpa using hq1)
  refine JL_qg (q_loadA Tryd.isAgg23 Tryd.sizeOf23) (k := ?_)
  refine JL_vg (args := [(Value.agg [(Value.int .i64 (q.addr)), (Value.int .i64 (q.bits))].toArray)]) (c_callA Tryd.call13) (fun w1 hw1 => aRight_ok w1 (p := q)) (k := ?_)
  refine JL_qg (q_not) (k := ?_)
  refine JL_q (q_pickF) (k := ?_)
  refine JL_nil ?_
  refine JX_seq ?_
  refine J_cond rfl (fun hq4 => ?_) (fun hq4 => ?_)
  · refine J_seq ?_
    refine J_reg ?_
    refine JL_q (q_move) (k := ?_)
    refine JL_q (q_move) (k := ?_)
    refine JL_bool 27 rfl (fun hq5 => ?_) (fun hq5 => ?_)
    rotate_left
    · refine JL_skips 2 rfl ?_
      refine JL_q (q_pickF) (k := ?_)
      refine JL_q (q_move) (k := ?_)
      refine JL_skips 2 rfl ?_
      refine JL_q (q_pickF) (k := ?_)
      refine JL_q (q_assign) (k := ?_)
      refine JL_nil ?_
      refine JX_seq ?_
      refine J_ret ?_
      refine JX_seq_ret ?_
      refine JX_ret Tryd.results4 (Res.tmp rfl Res.nil) (fun w1 hw1 => ?_)
      exact ⟨(by rw [((((hF.f hq1).t hq4).f hq5)).eq] <;> rfl), hw1.ext_out⟩
    refine JL_qg (q_move) (k := ?_)
    refine JL_qg (q_not) (k := ?_)
    refine JL_q (q_pickT) (k := ?_)
    refine JL_q (q_move) (k := ?_)
    refine JL_bool 31 rfl (fun hq6 => ?_) (fun hq6 => ?_)
    rotate_left
    · refine JL_skips 2 rfl ?_
      refine JL_q (q_pickF) (k := ?_)
      refine JL_q (q_assign) (k := ?_)
      refine JL_nil ?_
      refine JX_seq ?_
      refine J_ret ?_
      refine JX_seq_ret ?_
      refine JX_ret Tryd.results4 (Res.tmp rfl Res.nil) (fun w1 hw1 => ?_)
      exact ⟨(by rw [(((((hF.f hq1).t hq4).t hq5).f hq6)).eq] <;> rfl), hw1.ext_out⟩
    refine JL_qg (q_move) (k := ?_)
    refine JL_qg (q_not) (k := ?_)
    refine JL_q (q_pickT) (k := ?_)
    refine JL_q (q_assign) (k := ?_)
    refine JL_nil ?_
    refine JX_seq ?_
    refine J_ret ?_
    refine JX_seq_ret ?_
    refine JX_ret Tryd.results4 (Res.tmp rfl Res.nil) (fun w1 hw1 => ?_)
    exact ⟨(by rw [(((((hF.f hq1).t hq4).t hq5).t hq6)).eq] <;> rfl), hw1.ext_out⟩
  have hfhq4 := aRight_t (by simpa using hq4)
  refine J_skip ?_
  refine JX_seq ?_
  refine J_seq ?_
  refine J_reg ?_
  refine JL_q (q_loadA Tryd.isAgg23 Tryd.sizeOf23) (k := ?_)
  refine JL_q (q_move) (k := ?_)
  refine JL_v (args := [(Value.agg [(Value.int .i64 (p.addr)), (Value.int .i64 (p.bits))].toArray), (Value.int .i64 (a))]) (c_callA Tryd.call12) (fun w1 hw1 => aHas_ok w1 (p := p) (a := a)) (k := ?_)
  refine JL_q (q_move) (k := ?_)
  refine JL_bool 38 rfl (fun hq7 => ?_) (fun hq7 => ?_)
  rotate_left
  · refine JL_skips 3 rfl ?_
    refine JL_q (q_pickF) (k := ?_)
    refine JL_q (q_assign) (k := ?_)
    refine JL_nil ?_
    refine JX_seq ?_
    refine J_seq ?_
    refine J_reg ?_
    refine JL_q (q_move) (k := ?_)
    refine JL_q (q_move) (k := ?_)
    refine JL_bool 44 rfl (fun hq30 => ?_) (fun hq30 => ?_)
    rotate_left
    · refine JL_skips 8 rfl ?_
      refine JL_q (q_pickF) (k := ?_)
      refine JL_q (q_move) (k := ?_)
      refine JL_skips 13 rfl ?_
      refine JL_q (q_pickF) (k := ?_)
      refine JL_q (q_move) (k := ?_)
      refine JL_skips 8 rfl ?_
      refine JL_q (q_pickF) (k := ?_)
      refine JL_q (q_assign) (k := ?_)
      refine JL_nil ?_
      refine JX_seq ?_
      refine J_ret ?_
      refine JX_ret Tryd.results4 (Res.tmp rfl Res.nil) (fun w1 hw1 => ?_)
      exact ⟨(by rw [(((((hF.f hq1).f hq4).f hq7).f hq30)).eq] <;> rfl), hw1.ext_out⟩
    refine JL_qg (q_move) (k := ?_)
    refine JL_qg (q_move) (k := ?_)
    refine JL_bool 46 rfl (fun hq31 => ?_) (fun hq31 => ?_)
    · refine JL_skip (k := ?_)
      refine JL_qg (q_pickT) (k := ?_)
      refine JL_qg (q_move) (k := ?_)
      refine JL_skips 2 rfl ?_
      refine JL_qg (q_pickT) (k := ?_)
      refine JL_q (q_pickT) (k := ?_)
      refine JL_q (q_move) (k := ?_)
      refine JL_qg (q_move) (k := ?_)
      refine JL_qg (q_not) (k := ?_)
      refine JL_qg (q_move) (k := ?_)
      refine JL_bool 57 rfl (fun hq32 => ?_) (fun hq32 => ?_)
      · refine JL_skips 4 rfl ?_
        refine JL_qg (q_pickT) (k := ?_)
        refine JL_qg (q_move) (k := ?_)
        refine JL_skips 3 rfl ?_
        refine JL_qg (q_pickT) (k := ?_)
        refine JL_q (q_pickT) (k := ?_)
        refine JL_q (q_move) (k := ?_)
        refine JL_qg (q_move) (k := ?_)
        refine JL_qg (q_move) (k := ?_)
        refine JL_bool 71 rfl (fun hq33 => ?_) (fun hq33 => ?_)
        · refine JL_qg (q_move) (k := ?_)
          refine JL_qg (q_pickT) (k := ?_)
          refine JL_qg (q_loadA Tryd.isAgg23 Tryd.sizeOf23) (k := ?_)
          refine JL_qg (q_loadA Tryd.isAgg23 Tryd.sizeOf23) (k := ?_)
          refine JL_qg (q_eqS (EQ_23 _ _ _ _ _ _)) (k := ?_)
          refine JL_qg (q_eqlB Tryd.runUnderlying4) (k := ?_)
          refine JL_q (q_pickT) (k := ?_)
          refine JL_q (q_assign) (k := ?_)
          refine JL_nil ?_
          refine JX_seq ?_
          refine J_ret ?_
          refine JX_ret Tryd.results4 (Res.tmp rfl Res.nil) (fun w1 hw1 => ?_)
          exact ⟨(by rw [((((((((hF.f hq1).f hq4).f hq7).t hq30).t hq31).t hq32).t hq33)).eq] <;> rfl), hw1.ext_out⟩
        refine JL_skip (k := ?_)
        refine JL_qg (q_pickF) (k := ?_)
        refine JL_qg (q_loadA Tryd.isAgg23 Tryd.sizeOf23) (k := ?_)
        refine JL_qg (q_loadA Tryd.isAgg23 Tryd.sizeOf23) (k := ?_)
        refine JL_qg (q_eqS (EQ_23 _ _ _ _ _ _)) (k := ?_)
        refine JL_qg (q_eqlB Tryd.runUnderlying4) (k := ?_)
        refine JL_q (q_pickT) (k := ?_)
        refine JL_q (q_assign) (k := ?_)
        refine JL_nil ?_
        refine JX_seq ?_
        refine J_ret ?_
        refine JX_ret Tryd.results4 (Res.tmp rfl Res.nil) (fun w1 hw1 => ?_)
        exact ⟨(by rw [((((((((hF.f hq1).f hq4).f hq7).t hq30).t hq31).t hq32).f hq33)).eq] <;> rfl), hw1.ext_out⟩
      refine JL_qg (q_loadA Tryd.isAgg23 Tryd.sizeOf23) (k := ?_)
      refine JL_qg (q_move) (k := ?_)
      refine JL_vg (args := [(Value.agg [(Value.int .i64 (p.addr)), (Value.int .i64 (p.bits))].toArray), (Value.int .i64 (a))]) (c_callA Tryd.call12) (fun w1 hw1 => aHas_ok w1 (p := p) (a := a)) (k := ?_)
      refine JL_qg (q_not) (k := ?_)
      refine JL_qg (q_pickF) (k := ?_)
      refine JL_qg (q_move) (k := ?_)
      refine JL_bool 63 rfl (fun hq34 => ?_) (fun hq34 => ?_)
      · refine JL_skips 3 rfl ?_
        refine JL_qg (q_pickT) (k := ?_)
        refine JL_q (q_pickT) (k := ?_)
        refine JL_q (q_move) (k := ?_)
        refine JL_qg (q_move) (k := ?_)
        refine JL_qg (q_move) (k := ?_)
        refine JL_bool 71 rfl (fun hq35 => ?_) (fun hq35 => ?_)
        · refine JL_qg (q_move) (k := ?_)
          refine JL_qg (q_pickT) (k := ?_)
          refine JL_qg (q_loadA Tryd.isAgg23 Tryd.sizeOf23) (k := ?_)
          refine JL_qg (q_loadA Tryd.isAgg23 Tryd.sizeOf23) (k := ?_)
          refine JL_qg (q_eqS (EQ_23 _ _ _ _ _ _)) (k := ?_)
          refine JL_qg (q_eqlB Tryd.runUnderlying4) (k := ?_)
          refine JL_q (q_pickT) (k := ?_)
          refine JL_q (q_assign) (k := ?_)
          refine JL_nil ?_
          refine JX_seq ?_
          refine J_ret ?_
          refine JX_ret Tryd.results4 (Res.tmp rfl Res.nil) (fun w1 hw1 => ?_)
          exact ⟨(by rw [(((((((((hF.f hq1).f hq4).f hq7).t hq30).t hq31).f hq32).t hq34).t hq35)).eq] <;> rfl), hw1.ext_out⟩
        refine JL_skip (k := ?_)
        refine JL_qg (q_pickF) (k := ?_)
        refine JL_qg (q_loadA Tryd.isAgg23 Tryd.sizeOf23) (k := ?_)
        refine JL_qg (q_loadA Tryd.isAgg23 Tryd.sizeOf23) (k := ?_)
        refine JL_qg (q_eqS (EQ_23 _ _ _ _ _ _)) (k := ?_)
        refine JL_qg (q_eqlB Tryd.runUnderlying4) (k := ?_)
        refine JL_q (q_pickT) (k := ?_)
        refine JL_q (q_assign) (k := ?_)
        refine JL_nil ?_
        refine JX_seq ?_
        refine J_ret ?_
        refine JX_ret Tryd.results4 (Res.tmp rfl Res.nil) (fun w1 hw1 => ?_)
        exact ⟨(by rw [(((((((((hF.f hq1).f hq4).f hq7).t hq30).t hq31).f hq32).t hq34).f hq35)).eq] <;> rfl), hw1.ext_out⟩
      refine JL_qg (q_loadA Tryd.isAgg23 Tryd.sizeOf23) (k := ?_)
      refine JL_qg (q_move) (k := ?_)
      refine JL_vg (args := [(Value.agg [(Value.int .i64 (q.addr)), (Value.int .i64 (q.bits))].toArray), (Value.int .i64 (a))]) (c_callA Tryd.call12) (fun w1 hw1 => aHas_ok w1 (p := q) (a := a)) (k := ?_)
      refine JL_qg (q_pickF) (k := ?_)
      refine JL_q (q_pickT) (k := ?_)
      refine JL_q (q_move) (k := ?_)
      refine JL_bool 69 rfl (fun hq36 => ?_) (fun hq36 => ?_)
      rotate_left
      · refine JL_skips 8 rfl ?_
        refine JL_q (q_pickF) (k := ?_)
        refine JL_q (q_assign) (k := ?_)
        refine JL_nil ?_
        refine JX_seq ?_
        refine J_ret ?_
        refine JX_ret Tryd.results4 (Res.tmp rfl Res.nil) (fun w1 hw1 => ?_)
        exact ⟨(by rw [(((((((((hF.f hq1).f hq4).f hq7).t hq30).t hq31).f hq32).f hq34).f hq36)).eq] <;> rfl), hw1.ext_out⟩
      refine JL_qg (q_move) (k := ?_)
      refine JL_qg (q_move) (k := ?_)
      refine JL_bool 71 rfl (fun hq37 => ?_) (fun hq37 => ?_)
      · refine JL_qg (q_move) (k := ?_)
        refine JL_qg (q_pickT) (k := ?_)
        refine JL_qg (q_loadA Tryd.isAgg23 Tryd.sizeOf23) (k := ?_)
        refine JL_qg (q_loadA Tryd.isAgg23 Tryd.sizeOf23) (k := ?_)
        refine JL_qg (q_eqS (EQ_23 _ _ _ _ _ _)) (k := ?_)
        refine JL_qg (q_eqlB Tryd.runUnderlying4) (k := ?_)
        refine JL_q (q_pickT) (k := ?_)
        refine JL_q (q_assign) (k := ?_)
        refine JL_nil ?_
        refine JX_seq ?_
        refine J_ret ?_
        refine JX_ret Tryd.results4 (Res.tmp rfl Res.nil) (fun w1 hw1 => ?_)
        exact ⟨(by rw [((((((((((hF.f hq1).f hq4).f hq7).t hq30).t hq31).f hq32).f hq34).t hq36).t hq37)).eq] <;> rfl), hw1.ext_out⟩
      refine JL_skip (k := ?_)
      refine JL_qg (q_pickF) (k := ?_)
      refine JL_qg (q_loadA Tryd.isAgg23 Tryd.sizeOf23) (k := ?_)
      refine JL_qg (q_loadA Tryd.isAgg23 Tryd.sizeOf23) (k := ?_)
      refine JL_qg (q_eqS (EQ_23 _ _ _ _ _ _)) (k := ?_)
      refine JL_qg (q_eqlB Tryd.runUnderlying4) (k := ?_)
      refine JL_q (q_pickT) (k := ?_)
      refine JL_q (q_assign) (k := ?_)
      refine JL_nil ?_
      refine JX_seq ?_
      refine J_ret ?_
      refine JX_ret Tryd.results4 (Res.tmp rfl Res.nil) (fun w1 hw1 => ?_)
      exact ⟨(by rw [((((((((((hF.f hq1).f hq4).f hq7).t hq30).t hq31).f hq32).f hq34).t hq36).f hq37)).eq] <;> rfl), hw1.ext_out⟩
    refine JL_qg (q_move) (k := ?_)
    refine JL_qg (q_pickF) (k := ?_)
    refine JL_qg (q_move) (k := ?_)
    refine JL_bool 49 rfl (fun hq38 => ?_) (fun hq38 => ?_)
    · refine JL_skips 2 rfl ?_
      refine JL_qg (q_pickT) (k := ?_)
      refine JL_q (q_pickT) (k := ?_)
      refine JL_q (q_move) (k := ?_)
      refine JL_qg (q_move) (k := ?_)
      refine JL_qg (q_not) (k := ?_)
      refine JL_qg (q_move) (k := ?_)
      refine JL_bool 57 rfl (fun hq39 => ?_) (fun hq39 => ?_)
      · refine JL_skips 4 rfl ?_
        refine JL_qg (q_pickT) (k := ?_)
        refine JL_qg (q_move) (k := ?_)
        refine JL_skips 3 rfl ?_
        refine JL_qg (q_pickT) (k := ?_)
        refine JL_q (q_pickT) (k := ?_)
        refine JL_q (q_move) (k := ?_)
        refine JL_qg (q_move) (k := ?_)
        refine JL_qg (q_move) (k := ?_)
        refine JL_bool 71 rfl (fun hq40 => ?_) (fun hq40 => ?_)
        · refine JL_qg (q_move) (k := ?_)
          refine JL_qg (q_pickT) (k := ?_)
          refine JL_qg (q_loadA Tryd.isAgg23 Tryd.sizeOf23) (k := ?_)
          refine JL_qg (q_loadA Tryd.isAgg23 Tryd.sizeOf23) (k := ?_)
          refine JL_qg (q_eqS (EQ_23 _ _ _ _ _ _)) (k := ?_)
          refine JL_qg (q_eqlB Tryd.runUnderlying4) (k := ?_)
          refine JL_q (q_pickT) (k := ?_)
          refine JL_q (q_assign) (k := ?_)
          refine JL_nil ?_
          refine JX_seq ?_
          refine J_ret ?_
          refine JX_ret Tryd.results4 (Res.tmp rfl Res.nil) (fun w1 hw1 => ?_)
          exact ⟨(by rw [(((((((((hF.f hq1).f hq4).f hq7).t hq30).f hq31).t hq38).t hq39).t hq40)).eq] <;> rfl), hw1.ext_out⟩
        refine JL_skip (k := ?_)
        refine JL_qg (q_pickF) (k := ?_)
        refine JL_qg (q_loadA Tryd.isAgg23 Tryd.sizeOf23) (k := ?_)
        refine JL_qg (q_loadA Tryd.isAgg23 Tryd.sizeOf23) (k := ?_)
        refine JL_qg (q_eqS (EQ_23 _ _ _ _ _ _)) (k := ?_)
        refine JL_qg (q_eqlB Tryd.runUnderlying4) (k := ?_)
        refine JL_q (q_pickT) (k := ?_)
        refine JL_q (q_assign) (k := ?_)
        refine JL_nil ?_
        refine JX_seq ?_
        refine J_ret ?_
        refine JX_ret Tryd.results4 (Res.tmp rfl Res.nil) (fun w1 hw1 => ?_)
        exact ⟨(by rw [(((((((((hF.f hq1).f hq4).f hq7).t hq30).f hq31).t hq38).t hq39).f hq40)).eq] <;> rfl), hw1.ext_out⟩
      refine JL_qg (q_loadA Tryd.isAgg23 Tryd.sizeOf23) (k := ?_)
      refine JL_qg (q_move) (k := ?_)
      refine JL_vg (args := [(Value.agg [(Value.int .i64 (p.addr)), (Value.int .i64 (p.bits))].toArray), (Value.int .i64 (a))]) (c_callA Tryd.call12) (fun w1 hw1 => aHas_ok w1 (p := p) (a := a)) (k := ?_)
      refine JL_qg (q_not) (k := ?_)
      refine JL_qg (q_pickF) (k := ?_)
      refine JL_qg (q_move) (k := ?_)
      refine JL_bool 63 rfl (fun hq41 => ?_) (fun hq41 => ?_)
      · refine JL_skips 3 rfl ?_
        refine JL_qg (q_pickT) (k := ?_)
        refine JL_q (q_pickT) (k := ?_)
        refine JL_q (q_move) (k := ?_)
        refine JL_qg (q_move) (k := ?_)
        refine JL_qg (q_move) (k := ?_)
        refine JL_bool 71 rfl (fun hq42 => ?_) (fun hq42 => ?_)
        · refine JL_qg (q_move) (k := ?_)
          refine JL_qg (q_pickT) (k := ?_)
          refine JL_qg (q_loadA Tryd.isAgg23 Tryd.sizeOf23) (k := ?_)
          refine JL_qg (q_loadA Tryd.isAgg23 Tryd.sizeOf23) (k := ?_)
          refine JL_qg (q_eqS (EQ_23 _ _ _ _ _ _)) (k := ?_)
          refine JL_qg (q_eqlB Tryd.runUnderlying4) (k := ?_)
          refine JL_q (q_pickT) (k := ?_)
          refine JL_q (q_assign) (k := ?_)
          refine JL_nil ?_
          refine JX_seq ?_
          refine J_ret ?_
          refine JX_ret Tryd.results4 (Res.tmp rfl Res.nil) (fun w1 hw1 => ?_)
          exact ⟨(by rw [((((((((((hF.f hq1).f hq4).f hq7).t hq30).f hq31).t hq38).f hq39).t hq41).t hq42)).eq] <;> rfl), hw1.ext_out⟩
        refine JL_skip (k := ?_)
        refine JL_qg (q_pickF) (k := ?_)
        refine JL_qg (q_loadA Tryd.isAgg23 Tryd.sizeOf23) (k := ?_)
        refine JL_qg (q_loadA Tryd.isAgg23 Tryd.sizeOf23) (k := ?_)
        refine JL_qg (q_eqS (EQ_23 _ _ _ _ _ _)) (k := ?_)
        refine JL_qg (q_eqlB Tryd.runUnderlying4) (k := ?_)
        refine JL_q (q_pickT) (k := ?_)
        refine JL_q (q_assign) (k := ?_)
        refine JL_nil ?_
        refine JX_seq ?_
        refine J_ret ?_
        refine JX_ret Tryd.results4 (Res.tmp rfl Res.nil) (fun w1 hw1 => ?_)
        exact ⟨(by rw [((((((((((hF.f hq1).f hq4).f hq7).t hq30).f hq31).t hq38).f hq39).t hq41).f hq42)).eq] <;> rfl), hw1.ext_out⟩
      refine JL_qg (q_loadA Tryd.isAgg23 Tryd.sizeOf23) (k := ?_)
      refine JL_qg (q_move) (k := ?_)
      refine JL_vg (args := [(Value.agg [(Value.int .i64 (q.addr)), (Value.int .i64 (q.bits))].toArray), (Value.int .i64 (a))]) (c_callA Tryd.call12) (fun w1 hw1 => aHas_ok w1 (p := q) (a := a)) (k := ?_)
      refine JL_qg (q_pickF) (k := ?_)
      refine JL_q (q_pickT) (k := ?_)
      refine JL_q (q_move) (k := ?_)
      refine JL_bool 69 rfl (fun hq43 => ?_) (fun hq43 => ?_)
      rotate_left
      · refine JL_skips 8 rfl ?_
        refine JL_q (q_pickF) (k := ?_)
        refine JL_q (q_assign) (k := ?_)
        refine JL_nil ?_
        refine JX_seq ?_
        refine J_ret ?_
        refine JX_ret Tryd.results4 (Res.tmp rfl Res.nil) (fun w1 hw1 => ?_)
        exact ⟨(by rw [((((((((((hF.f hq1).f hq4).f hq7).t hq30).f hq31).t hq38).f hq39).f hq41).f hq43)).eq] <;> rfl), hw1.ext_out⟩
      refine JL_qg (q_move) (k := ?_)
      refine JL_qg (q_move) (k := ?_)
      refine JL_bool 71 rfl (fun hq44 => ?_) (fun hq44 => ?_)
      · refine JL_qg (q_move) (k := ?_)
        refine JL_qg (q_pickT) (k := ?_)
        refine JL_qg (q_loadA Tryd.isAgg23 Tryd.sizeOf23) (k := ?_)
        refine JL_qg (q_loadA Tryd.isAgg23 Tryd.sizeOf23) (k := ?_)
        refine JL_qg (q_eqS (EQ_23 _ _ _ _ _ _)) (k := ?_)
        refine JL_qg (q_eqlB Tryd.runUnderlying4) (k := ?_)
        refine JL_q (q_pickT) (k := ?_)
        refine JL_q (q_assign) (k := ?_)
        refine JL_nil ?_
        refine JX_seq ?_
        refine J_ret ?_
        refine JX_ret Tryd.results4 (Res.tmp rfl Res.nil) (fun w1 hw1 => ?_)
        exact ⟨(by rw [(((((((((((hF.f hq1).f hq4).f hq7).t hq30).f hq31).t hq38).f hq39).f hq41).t hq43).t hq44)).eq] <;> rfl), hw1.ext_out⟩
      refine JL_skip (k := ?_)
      refine JL_qg (q_pickF) (k := ?_)
      refine JL_qg (q_loadA Tryd.isAgg23 Tryd.sizeOf23) (k := ?_)
      refine JL_qg (q_loadA Tryd.isAgg23 Tryd.sizeOf23) (k := ?_)
      refine JL_qg (q_eqS (EQ_23 _ _ _ _ _ _)) (k := ?_)
      refine JL_qg (q_eqlB Tryd.runUnderlying4) (k := ?_)
      refine JL_q (q_pickT) (k := ?_)
      refine JL_q (q_assign) (k := ?_)
      refine JL_nil ?_
      refine JX_seq ?_
      refine J_ret ?_
      refine JX_ret Tryd.results4 (Res.tmp rfl Res.nil) (fun w1 hw1 => ?_)
      exact ⟨(by rw [(((((((((((hF.f hq1).f hq4).f hq7).t hq30).f hq31).t hq38).f hq39).f hq41).t hq43).f hq44)).eq] <;> rfl), hw1.ext_out⟩
    refine JL_qg (q_move) (k := ?_)
    refine JL_qg (q_not) (k := ?_)
    refine JL_qg (q_pickF) (k := ?_)
    refine JL_q (q_pickT) (k := ?_)
    refine JL_q (q_move) (k := ?_)
    refine JL_qg (q_move) (k := ?_)
    refine JL_qg (q_not) (k := ?_)
    refine JL_qg (q_move) (k := ?_)
    refine JL_bool 57 rfl (fun hq45 => ?_) (fun hq45 => ?_)
    · refine JL_skips 4 rfl ?_
      refine JL_qg (q_pickT) (k := ?_)
      refine JL_qg (q_move) (k := ?_)
      refine JL_skips 3 rfl ?_
      refine JL_qg (q_pickT) (k := ?_)
      refine JL_q (q_pickT) (k := ?_)
      refine JL_q (q_move) (k := ?_)
      refine JL_qg (q_move) (k := ?_)
      refine JL_qg (q_move) (k := ?_)
      refine JL_bool 71 rfl (fun hq46 => ?_) (fun hq46 => ?_)
      · refine JL_qg (q_move) (k := ?_)
        refine JL_qg (q_pickT) (k := ?_)
        refine JL_qg (q_loadA Tryd.isAgg23 Tryd.sizeOf23) (k := ?_)
        refine JL_qg (q_loadA Tryd.isAgg23 Tryd.sizeOf23) (k := ?_)
        refine JL_qg (q_eqS (EQ_23 _ _ _ _ _ _)) (k := ?_)
        refine JL_qg (q_eqlB Tryd.runUnderlying4) (k := ?_)
        refine JL_q (q_pickT) (k := ?_)
        refine JL_q (q_assign) (k := ?_)
        refine JL_nil ?_
        refine JX_seq ?_
        refine J_ret ?_
        refine JX_ret Tryd.results4 (Res.tmp rfl Res.nil) (fun w1 hw1 => ?_)
        exact ⟨(by rw [(((((((((hF.f hq1).f hq4).f hq7).t hq30).f hq31).f hq38).t hq45).t hq46)).eq] <;> rfl), hw1.ext_out⟩
      refine JL_skip (k := ?_)
      refine JL_qg (q_pickF) (k := ?_)
      refine JL_qg (q_loadA Tryd.isAgg23 Tryd.sizeOf23) (k := ?_)
      refine JL_qg (q_loadA Tryd.isAgg23 Tryd.sizeOf23) (k := ?_)
      refine JL_qg (q_eqS (EQ_23 _ _ _ _ _ _)) (k := ?_)
      refine JL_qg (q_eqlB Tryd.runUnderlying4) (k := ?_)
      refine JL_q (q_pickT) (k := ?_)
      refine JL_q (q_assign) (k := ?_)
      refine JL_nil ?_
      refine JX_seq ?_
      refine J_ret ?_
      refine JX_ret Tryd.results4 (Res.tmp rfl Res.nil) (fun w1 hw1 => ?_)
      exact ⟨(by rw [(((((((((hF.f hq1).f hq4).f hq7).t hq30).f hq31).f hq38).t hq45).f hq46)).eq] <;> rfl), hw1.ext_out⟩
    refine JL_qg (q_loadA Tryd.isAgg23 Tryd.sizeOf23) (k := ?_)
    refine JL_qg (q_move) (k := ?_)
    refine JL_vg (args := [(Value.agg [(Value.int .i64 (p.addr)), (Value.int .i64 (p.bits))].toArray), (Value.int .i64 (a))]) (c_callA Tryd.call12) (fun w1 hw1 => aHas_ok w1 (p := p) (a := a)) (k := ?_)
    refine JL_qg (q_not) (k := ?_)
    refine JL_qg (q_pickF) (k := ?_)
    refine JL_qg (q_move) (k := ?_)
    refine JL_bool 63 rfl (fun hq47 => ?_) (fun hq47 => ?_)
    · refine JL_skips 3 rfl ?_
      refine JL_qg (q_pickT) (k := ?_)
      refine JL_q (q_pickT) (k := ?_)
      refine JL_q (q_move) (k := ?_)
      refine JL_qg (q_move) (k := ?_)
      refine JL_qg (q_move) (k := ?_)
      refine JL_bool 71 rfl (fun hq48 => ?_) (fun hq48 => ?_)
      · refine JL_qg (q_move) (k := ?_)
        refine JL_qg (q_pickT) (k := ?_)
        refine JL_qg (q_loadA Tryd.isAgg23 Tryd.sizeOf23) (k := ?_)
        refine JL_qg (q_loadA Tryd.isAgg23 Tryd.sizeOf23) (k := ?_)
        refine JL_qg (q_eqS (EQ_23 _ _ _ _ _ _)) (k := ?_)
        refine JL_qg (q_eqlB Tryd.runUnderlying4) (k := ?_)
        refine JL_q (q_pickT) (k := ?_)
        refine JL_q (q_assign) (k := ?_)
        refine JL_nil ?_
        refine JX_seq ?_
        refine J_ret ?_
        refine JX_ret Tryd.results4 (Res.tmp rfl Res.nil) (fun w1 hw1 => ?_)
        exact ⟨(by rw [((((((((((hF.f hq1).f hq4).f hq7).t hq30).f hq31).f hq38).f hq45).t hq47).t hq48)).eq] <;> rfl), hw1.ext_out⟩
      refine JL_skip (k := ?_)
      refine JL_qg (q_pickF) (k := ?_)
      refine JL_qg (q_loadA Tryd.isAgg23 Tryd.sizeOf23) (k := ?_)
      refine JL_qg (q_loadA Tryd.isAgg23 Tryd.sizeOf23) (k := ?_)
      refine JL_qg (q_eqS (EQ_23 _ _ _ _ _ _)) (k := ?_)
      refine JL_qg (q_eqlB Tryd.runUnderlying4) (k := ?_)
      refine JL_q (q_pickT) (k := ?_)
      refine JL_q (q_assign) (k := ?_)
      refine JL_nil ?_
      refine JX_seq ?_
      refine J_ret ?_
      refine JX_ret Tryd.results4 (Res.tmp rfl Res.nil) (fun w1 hw1 => ?_)
      exact ⟨(by rw [((((((((((hF.f hq1).f hq4).f hq7).t hq30).f hq31).f hq38).f hq45).t hq47).f hq48)).eq] <;> rfl), hw1.ext_out⟩
    refine JL_qg (q_loadA Tryd.isAgg23 Tryd.sizeOf23) (k := ?_)
    refine JL_qg (q_move) (k := ?_)
    refine JL_vg (args := [(Value.agg [(Value.int .i64 (q.addr)), (Value.int .i64 (q.bits))].toArray), (Value.int .i64 (a))]) (c_callA Tryd.call12) (fun w1 hw1 => aHas_ok w1 (p := q) (a := a)) (k := ?_)
    refine JL_qg (q_pickF) (k := ?_)
    refine JL_q (q_pickT) (k := ?_)
    refine JL_q (q_move) (k := ?_)
    refine JL_bool 69 rfl (fun hq49 => ?_) (fun hq49 => ?_)
    rotate_left
    · refine JL_skips 8 rfl ?_
      refine JL_q (q_pickF) (k := ?_)
      refine JL_q (q_assign) (k := ?_)
      refine JL_nil ?_
      refine JX_seq ?_
      refine J_ret ?_
      refine JX_ret Tryd.results4 (Res.tmp rfl Res.nil) (fun w1 hw1 => ?_)
      exact ⟨(by rw [((((((((((hF.f hq1).f hq4).f hq7).t hq30).f hq31).f hq38).f hq45).f hq47).f hq49)).eq] <;> rfl), hw1.ext_out⟩
    refine JL_qg (q_move) (k := ?_)
    refine JL_qg (q_move) (k := ?_)
    refine JL_bool 71 rfl (fun hq50 => ?_) (fun hq50 => ?_)
    · refine JL_qg (q_move) (k := ?_)
      refine JL_qg (q_pickT) (k := ?_)
      refine JL_qg (q_loadA Tryd.isAgg23 Tryd.sizeOf23) (k := ?_)
      refine JL_qg (q_loadA Tryd.isAgg23 Tryd.sizeOf23) (k := ?_)
      refine JL_qg (q_eqS (EQ_23 _ _ _ _ _ _)) (k := ?_)
      refine JL_qg (q_eqlB Tryd.runUnderlying4) (k := ?_)
      refine JL_q (q_pickT) (k := ?_)
      refine JL_q (q_assign) (k := ?_)
      refine JL_nil ?_
      refine JX_seq ?_
      refine J_ret ?_
      refine JX_ret Tryd.results4 (Res.tmp rfl Res.nil) (fun w1 hw1 => ?_)
      exact ⟨(by rw [(((((((((((hF.f hq1).f hq4).f hq7).t hq30).f hq31).f hq38).f hq45).f hq47).t hq49).t hq50)).eq] <;> rfl), hw1.ext_out⟩
    refine JL_skip (k := ?_)
    refine JL_qg (q_pickF) (k := ?_)
    refine JL_qg (q_loadA Tryd.isAgg23 Tryd.sizeOf23) (k := ?_)
    refine JL_qg (q_loadA Tryd.isAgg23 Tryd.sizeOf23) (k := ?_)
    refine JL_qg (q_eqS (EQ_23 _ _ _ _ _ _)) (k := ?_)
    refine JL_qg (q_eqlB Tryd.runUnderlying4) (k := ?_)
    refine JL_q (q_pickT) (k := ?_)
    refine JL_q (q_assign) (k := ?_)
    refine JL_nil ?_
    refine JX_seq ?_
    refine J_ret ?_
    refine JX_ret Tryd.results4 (Res.tmp rfl Res.nil) (fun w1 hw1 => ?_)
    exact ⟨(by rw [(((((((((((hF.f hq1).f hq4).f hq7).t hq30).f hq31).f hq38).f hq45).f hq47).t hq49).f hq50)).eq] <;> rfl), hw1.ext_out⟩
  refine JL_qg (q_loadA Tryd.isAgg23 Tryd.sizeOf23) (k := ?_)
  refine JL_qg (q_move) (k := ?_)
  refine JL_vg (args := [(Value.agg [(Value.int .i64 (q.addr)), (Value.int .i64 (q.bits))].toArray), (Value.int .i64 (a))]) (c_callA Tryd.call12) (fun w1 hw1 => aHas_ok w1 (p := q) (a := a)) (k := ?_)
  refine JL_q (q_pickT) (k := ?_)
  refine JL_q (q_assign) (k := ?_)
  refine JL_nil ?_
  refine JX_seq ?_
  refine J_seq ?_
  refine J_reg ?_
  refine JL_q (q_move) (k := ?_)
  refine JL_q (q_move) (k := ?_)
  refine JL_bool 44 rfl (fun hq8 => ?_) (fun hq8 => ?_)
  rotate_left
  · refine JL_skips 8 rfl ?_
    refine JL_q (q_pickF) (k := ?_)
    refine JL_q (q_move) (k := ?_)
    refine JL_skips 13 rfl ?_
    refine JL_q (q_pickF) (k := ?_)
    refine JL_q (q_move) (k := ?_)
    refine JL_skips 8 rfl ?_
    refine JL_q (q_pickF) (k := ?_)
    refine JL_q (q_assign) (k := ?_)
    refine JL_nil ?_
    refine JX_seq ?_
    refine J_ret ?_
    refine JX_ret Tryd.results4 (Res.tmp rfl Res.nil) (fun w1 hw1 => ?_)
    exact ⟨(by rw [(((((hF.f hq1).f hq4).t hq7).f hq8)).eq] <;> rfl), hw1.ext_out⟩
  refine JL_qg (q_move) (k := ?_)
  refine JL_qg (q_move) (k := ?_)
  refine JL_bool 46 rfl (fun hq9 => ?_) (fun hq9 => ?_)
  · refine JL_skip (k := ?_)
    refine JL_qg (q_pickT) (k := ?_)
    refine JL_qg (q_move) (k := ?_)
    refine JL_skips 2 rfl ?_
    refine JL_qg (q_pickT) (k := ?_)
    refine JL_q (q_pickT) (k := ?_)
    refine JL_q (q_move) (k := ?_)
    refine JL_qg (q_move) (k := ?_)
    refine JL_qg (q_not) (k := ?_)
    refine JL_qg (q_move) (k := ?_)
    refine JL_bool 57 rfl (fun hq10 => ?_) (fun hq10 => ?_)
    · refine JL_skips 4 rfl ?_
      refine JL_qg (q_pickT) (k := ?_)
      refine JL_qg (q_move) (k := ?_)
      refine JL_skips 3 rfl ?_
      refine JL_qg (q_pickT) (k := ?_)
      refine JL_q (q_pickT) (k := ?_)
      refine JL_q (q_move) (k := ?_)
      refine JL_qg (q_move) (k := ?_)
      refine JL_qg (q_move) (k := ?_)
      refine JL_bool 71 rfl (fun hq11 => ?_) (fun hq11 => ?_)
      · refine JL_qg (q_move) (k := ?_)
        refine JL_qg (q_pickT) (k := ?_)
        refine JL_qg (q_loadA Tryd.isAgg23 Tryd.sizeOf23) (k := ?_)
        refine JL_qg (q_loadA Tryd.isAgg23 Tryd.sizeOf23) (k := ?_)
        refine JL_qg (q_eqS (EQ_23 _ _ _ _ _ _)) (k := ?_)
        refine JL_qg (q_eqlB Tryd.runUnderlying4) (k := ?_)
        refine JL_q (q_pickT) (k := ?_)
        refine JL_q (q_assign) (k := ?_)
        refine JL_nil ?_
        refine JX_seq ?_
        refine J_ret ?_
        refine JX_ret Tryd.results4 (Res.tmp rfl Res.nil) (fun w1 hw1 => ?_)
        exact ⟨(by rw [((((((((hF.f hq1).f hq4).t hq7).t hq8).t hq9).t hq10).t hq11)).eq] <;> rfl), hw1.ext_out⟩
      refine JL_skip (k := ?_)
      refine JL_qg (q_pickF) (k := ?_)
      refine JL_qg (q_loadA Tryd.isAgg23 Tryd.sizeOf23) (k := ?_)
      refine JL_qg (q_loadA Tryd.isAgg23 Tryd.sizeOf23) (k := ?_)
      refine JL_qg (q_eqS (EQ_23 _ _ _ _ _ _)) (k := ?_)
      refine JL_qg (q_eqlB Tryd.runUnderlying4) (k := ?_)
      refine JL_q (q_pickT) (k := ?_)
      refine JL_q (q_assign) (k := ?_)
      refine JL_nil ?_
      refine JX_seq ?_
      refine J_ret ?_
      refine JX_ret Tryd.results4 (Res.tmp rfl Res.nil) (fun w1 hw1 => ?_)
      exact ⟨(by rw [((((((((hF.f hq1).f hq4).t hq7).t hq8).t hq9).t hq10).f hq11)).eq] <;> rfl), hw1.ext_out⟩
    refine JL_qg (q_loadA Tryd.isAgg23 Tryd.sizeOf23) (k := ?_)
    refine JL_qg (q_move) (k := ?_)
    refine JL_vg (args := [(Value.agg [(Value.int .i64 (p.addr)), (Value.int .i64 (p.bits))].toArray), (Value.int .i64 (a))]) (c_callA Tryd.call12) (fun w1 hw1 => aHas_ok w1 (p := p) (a := a)) (k := ?_)
    refine JL_qg (q_not) (k := ?_)
    refine JL_qg (q_pickF) (k := ?_)
    refine JL_qg (q_move) (k := ?_)
    refine JL_bool 63 rfl (fun hq12 => ?_) (fun hq12 => ?_)
    · refine JL_skips 3 rfl ?_
      refine JL_qg (q_pickT) (k := ?_)
      refine JL_q (q_pickT) (k := ?_)
      refine JL_q (q_move) (k := ?_)
      refine JL_qg (q_move) (k := ?_)
      refine JL_qg (q_move) (k := ?_)
      refine JL_bool 71 rfl (fun hq13 => ?_) (fun hq13 => ?_)
      · refine JL_qg (q_move) (k := ?_)
        refine JL_qg (q_pickT) (k := ?_)
        refine JL_qg (q_loadA Tryd.isAgg23 Tryd.sizeOf23) (k := ?_)
        refine JL_qg (q_loadA Tryd.isAgg23 Tryd.sizeOf23) (k := ?_)
        refine JL_qg (q_eqS (EQ_23 _ _ _ _ _ _)) (k := ?_)
        refine JL_qg (q_eqlB Tryd.runUnderlying4) (k := ?_)
        refine JL_q (q_pickT) (k := ?_)
        refine JL_q (q_assign) (k := ?_)
        refine JL_nil ?_
        refine JX_seq ?_
        refine J_ret ?_
        refine JX_ret Tryd.results4 (Res.tmp rfl Res.nil) (fun w1 hw1 => ?_)
        exact ⟨(by rw [(((((((((hF.f hq1).f hq4).t hq7).t hq8).t hq9).f hq10).t hq12).t hq13)).eq] <;> rfl), hw1.ext_out⟩
      refine JL_skip (k := ?_)
      refine JL_qg (q_pickF) (k := ?_)
      refine JL_qg (q_loadA Tryd.isAgg23 Tryd.sizeOf23) (k := ?_)
      refine JL_qg (q_loadA Tryd.isAgg23 Tryd.sizeOf23) (k := ?_)
      refine JL_qg (q_eqS (EQ_23 _ _ _ _ _ _)) (k := ?_)
      refine JL_qg (q_eqlB Tryd.runUnderlying4) (k := ?_)
      refine JL_q (q_pickT) (k := ?_)
      refine JL_q (q_assign) (k := ?_)
      refine JL_nil ?_
      refine JX_seq ?_
      refine J_ret ?_
      refine JX_ret Tryd.results4 (Res.tmp rfl Res.nil) (fun w1 hw1 => ?_)
      exact ⟨(by rw [(((((((((hF.f hq1).f hq4).t hq7).t hq8).t hq9).f hq10).t hq12).f hq13)).eq] <;> rfl), hw1.ext_out⟩
    refine JL_qg (q_loadA Tryd.isAgg23 Tryd.sizeOf23) (k := ?_)
    refine JL_qg (q_move) (k := ?_)
    refine JL_vg (args := [(Value.agg [(Value.int .i64 (q.addr)), (Value.int .i64 (q.bits))].toArray), (Value.int .i64 (a))]) (c_callA Tryd.call12) (fun w1 hw1 => aHas_ok w1 (p := q) (a := a)) (k := ?_)
    refine JL_qg (q_pickF) (k := ?_)
    refine JL_q (q_pickT) (k := ?_)
    refine JL_q (q_move) (k := ?_)
    refine JL_bool 69 rfl (fun hq14 => ?_) (fun hq14 => ?_)
    rotate_left
    · refine JL_skips 8 rfl ?_
      refine JL_q (q_pickF) (k := ?_)
      refine JL_q (q_assign) (k := ?_)
      refine JL_nil ?_
      refine JX_seq ?_
      refine J_ret ?_
      refine JX_ret Tryd.results4 (Res.tmp rfl Res.nil) (fun w1 hw1 => ?_)
      exact ⟨(by rw [(((((((((hF.f hq1).f hq4).t hq7).t hq8).t hq9).f hq10).f hq12).f hq14)).eq] <;> rfl), hw1.ext_out⟩
    refine JL_qg (q_move) (k := ?_)
    refine JL_qg (q_move) (k := ?_)
    refine JL_bool 71 rfl (fun hq15 => ?_) (fun hq15 => ?_)
    · refine JL_qg (q_move) (k := ?_)
      refine JL_qg (q_pickT) (k := ?_)
      refine JL_qg (q_loadA Tryd.isAgg23 Tryd.sizeOf23) (k := ?_)
      refine JL_qg (q_loadA Tryd.isAgg23 Tryd.sizeOf23) (k := ?_)
      refine JL_qg (q_eqS (EQ_23 _ _ _ _ _ _)) (k := ?_)
      refine JL_qg (q_eqlB Tryd.runUnderlying4) (k := ?_)
      refine JL_q (q_pickT) (k := ?_)
      refine JL_q (q_assign) (k := ?_)
      refine JL_nil ?_
      refine JX_seq ?_
      refine J_ret ?_
      refine JX_ret Tryd.results4 (Res.tmp rfl Res.nil) (fun w1 hw1 => ?_)
      exact ⟨(by rw [((((((((((hF.f hq1).f hq4).t hq7).t hq8).t hq9).f hq10).f hq12).t hq14).t hq15)).eq] <;> rfl), hw1.ext_out⟩
    refine JL_skip (k := ?_)
    refine JL_qg (q_pickF) (k := ?_)
    refine JL_qg (q_loadA Tryd.isAgg23 Tryd.sizeOf23) (k := ?_)
    refine JL_qg (q_loadA Tryd.isAgg23 Tryd.sizeOf23) (k := ?_)
    refine JL_qg (q_eqS (EQ_23 _ _ _ _ _ _)) (k := ?_)
    refine JL_qg (q_eqlB Tryd.runUnderlying4) (k := ?_)
    refine JL_q (q_pickT) (k := ?_)
    refine JL_q (q_assign) (k := ?_)
    refine JL_nil ?_
    refine JX_seq ?_
    refine J_ret ?_
    refine JX_ret Tryd.results4 (Res.tmp rfl Res.nil) (fun w1 hw1 => ?_)
    exact ⟨(by rw [((((((((((hF.f hq1).f hq4).t hq7).t hq8).t hq9).f hq10).f hq12).t hq14).f hq15)).eq] <;> rfl), hw1.ext_out⟩
  refine JL_qg (q_move) (k := ?_)
  refine JL_qg (q_pickF) (k := ?_)
  refine JL_qg (q_move) (k := ?_)
  refine JL_bool 49 rfl (fun hq16 => ?_) (fun hq16 => ?_)
  · refine JL_skips 2 rfl ?_
    refine JL_qg (q_pickT) (k := ?_)
    refine JL_q (q_pickT) (k := ?_)
    refine JL_q (q_move) (k := ?_)
    refine JL_qg (q_move) (k := ?_)
    refine JL_qg (q_not) (k := ?_)
    refine JL_qg (q_move) (k := ?_)
    refine JL_bool 57 rfl (fun hq17 => ?_) (fun hq17 => ?_)
    · refine JL_skips 4 rfl ?_
      refine JL_qg (q_pickT) (k := ?_)
      refine JL_qg (q_move) (k := ?_)
      refine JL_skips 3 rfl ?_
      refine JL_qg (q_pickT) (k := ?_)
      refine JL_q (q_pickT) (k := ?_)
      refine JL_q (q_move) (k := ?_)
      refine JL_qg (q_move) (k := ?_)
      refine JL_qg (q_move) (k := ?_)
      refine JL_bool 71 rfl (fun hq18 => ?_) (fun hq18 => ?_)
      · refine JL_qg (q_move) (k := ?_)
        refine JL_qg (q_pickT) (k := ?_)
        refine JL_qg (q_loadA Tryd.isAgg23 Tryd.sizeOf23) (k := ?_)
        refine JL_qg (q_loadA Tryd.isAgg23 Tryd.sizeOf23) (k := ?_)
        refine JL_qg (q_eqS (EQ_23 _ _ _ _ _ _)) (k := ?_)
        refine JL_qg (q_eqlB Tryd.runUnderlying4) (k := ?_)
        refine JL_q (q_pickT) (k := ?_)
        refine JL_q (q_assign) (k := ?_)
        refine JL_nil ?_
        refine JX_seq ?_
        refine J_ret ?_
        refine JX_ret Tryd.results4 (Res.tmp rfl Res.nil) (fun w1 hw1 => ?_)
        exact ⟨(by rw [(((((((((hF.f hq1).f hq4).t hq7).t hq8).f hq9).t hq16).t hq17).t hq18)).eq] <;> rfl), hw1.ext_out⟩
      refine JL_skip (k := ?_)
      refine JL_qg (q_pickF) (k := ?_)
      refine JL_qg (q_loadA Tryd.isAgg23 Tryd.sizeOf23) (k := ?_)
      refine JL_qg (q_loadA Tryd.isAgg23 Tryd.sizeOf23) (k := ?_)
      refine JL_qg (q_eqS (EQ_23 _ _ _ _ _ _)) (k := ?_)
      refine JL_qg (q_eqlB Tryd.runUnderlying4) (k := ?_)
      refine JL_q (q_pickT) (k := ?_)
      refine JL_q (q_assign) (k := ?_)
      refine JL_nil ?_
      refine JX_seq ?_
      refine J_ret ?_
      refine JX_ret Tryd.results4 (Res.tmp rfl Res.nil) (fun w1 hw1 => ?_)
      exact ⟨(by rw [(((((((((hF.f hq1).f hq4).t hq7).t hq8).f hq9).t hq16).t hq17).f hq18)).eq] <;> rfl), hw1.ext_out⟩
    refine JL_qg (q_loadA Tryd.isAgg23 Tryd.sizeOf23) (k := ?_)
    refine JL_qg (q_move) (k := ?_)
    refine JL_vg (args := [(Value.agg [(Value.int .i64 (p.addr)), (Value.int .i64 (p.bits))].toArray), (Value.int .i64 (a))]) (c_callA Tryd.call12) (fun w1 hw1 => aHas_ok w1 (p := p) (a := a)) (k := ?_)
    refine JL_qg (q_not) (k := ?_)
    refine JL_qg (q_pickF) (k := ?_)
    refine JL_qg (q_move) (k := ?_)
    refine JL_bool 63 rfl (fun hq19 => ?_) (fun hq19 => ?_)
    · refine JL_skips 3 rfl ?_
      refine JL_qg (q_pickT) (k := ?_)
      refine JL_q (q_pickT) (k := ?_)
      refine JL_q (q_move) (k := ?_)
      refine JL_qg (q_move) (k := ?_)
      refine JL_qg (q_move) (k := ?_)
      refine JL_bool 71 rfl (fun hq20 => ?_) (fun hq20 => ?_)
      · refine JL_qg (q_move) (k := ?_)
        refine JL_qg (q_pickT) (k := ?_)
        refine JL_qg (q_loadA Tryd.isAgg23 Tryd.sizeOf23) (k := ?_)
        refine JL_qg (q_loadA Tryd.isAgg23 Tryd.sizeOf23) (k := ?_)
        refine JL_qg (q_eqS (EQ_23 _ _ _ _ _ _)) (k := ?_)
        refine JL_qg (q_eqlB Tryd.runUnderlying4) (k := ?_)
        refine JL_q (q_pickT) (k := ?_)
        refine JL_q (q_assign) (k := ?_)
        refine JL_nil ?_
        refine JX_seq ?_
        refine J_ret ?_
        refine JX_ret Tryd.results4 (Res.tmp rfl Res.nil) (fun w1 hw1 => ?_)
        exact ⟨(by rw [((((((((((hF.f hq1).f hq4).t hq7).t hq8).f hq9).t hq16).f hq17).t hq19).t hq20)).eq] <;> rfl), hw1.ext_out⟩
      refine JL_skip (k := ?_)
      refine JL_qg (q_pickF) (k := ?_)
      refine JL_qg (q_loadA Tryd.isAgg23 Tryd.sizeOf23) (k := ?_)
      refine JL_qg (q_loadA Tryd.isAgg23 Tryd.sizeOf23) (k := ?_)
      refine JL_qg (q_eqS (EQ_23 _ _ _ _ _ _)) (k := ?_)
      refine JL_qg (q_eqlB Tryd.runUnderlying4) (k := ?_)
      refine JL_q (q_pickT) (k := ?_)
      refine JL_q (q_assign) (k := ?_)
      refine JL_nil ?_
      refine JX_seq ?_
      refine J_ret ?_
      refine JX_ret Tryd.results4 (Res.tmp rfl Res.nil) (fun w1 hw1 => ?_)
      exact ⟨(by rw [((((((((((hF.f hq1).f hq4).t hq7).t hq8).f hq9).t hq16).f hq17).t hq19).f hq20)).eq] <;> rfl), hw1.ext_out⟩
    refine JL_qg (q_loadA Tryd.isAgg23 Tryd.sizeOf23) (k := ?_)
    refine JL_qg (q_move) (k := ?_)
    refine JL_vg (args := [(Value.agg [(Value.int .i64 (q.addr)), (Value.int .i64 (q.bits))].toArray), (Value.int .i64 (a))]) (c_callA Tryd.call12) (fun w1 hw1 => aHas_ok w1 (p := q) (a := a)) (k := ?_)
    refine JL_qg (q_pickF) (k := ?_)
    refine JL_q (q_pickT) (k := ?_)
    refine JL_q (q_move) (k := ?_)
    refine JL_bool 69 rfl (fun hq21 => ?_) (fun hq21 => ?_)
    rotate_left
    · refine JL_skips 8 rfl ?_
      refine JL_q (q_pickF) (k := ?_)
      refine JL_q (q_assign) (k := ?_)
      refine JL_nil ?_
      refine JX_seq ?_
      refine J_ret ?_
      refine JX_ret Tryd.results4 (Res.tmp rfl Res.nil) (fun w1 hw1 => ?_)
      exact ⟨(by rw [((((((((((hF.f hq1).f hq4).t hq7).t hq8).f hq9).t hq16).f hq17).f hq19).f hq21)).eq] <;> rfl), hw1.ext_out⟩
    refine JL_qg (q_move) (k := ?_)
    refine JL_qg (q_move) (k := ?_)
    refine JL_bool 71 rfl (fun hq22 => ?_) (fun hq22 => ?_)
    · refine JL_qg (q_move) (k := ?_)
      refine JL_qg (q_pickT) (k := ?_)
      refine JL_qg (q_loadA Tryd.isAgg23 Tryd.sizeOf23) (k := ?_)
      refine JL_qg (q_loadA Tryd.isAgg23 Tryd.sizeOf23) (k := ?_)
      refine JL_qg (q_eqS (EQ_23 _ _ _ _ _ _)) (k := ?_)
      refine JL_qg (q_eqlB Tryd.runUnderlying4) (k := ?_)
      refine JL_q (q_pickT) (k := ?_)
      refine JL_q (q_assign) (k := ?_)
      refine JL_nil ?_
      refine JX_seq ?_
      refine J_ret ?_
      refine JX_ret Tryd.results4 (Res.tmp rfl Res.nil) (fun w1 hw1 => ?_)
      exact ⟨(by rw [(((((((((((hF.f hq1).f hq4).t hq7).t hq8).f hq9).t hq16).f hq17).f hq19).t hq21).t hq22)).eq] <;> rfl), hw1.ext_out⟩
    refine JL_skip (k := ?_)
    refine JL_qg (q_pickF) (k := ?_)
    refine JL_qg (q_loadA Tryd.isAgg23 Tryd.sizeOf23) (k := ?_)
    refine JL_qg (q_loadA Tryd.isAgg23 Tryd.sizeOf23) (k := ?_)
    refine JL_qg (q_eqS (EQ_23 _ _ _ _ _ _)) (k := ?_)
    refine JL_qg (q_eqlB Tryd.runUnderlying4) (k := ?_)
    refine JL_q (q_pickT) (k := ?_)
    refine JL_q (q_assign) (k := ?_)
    refine JL_nil ?_
    refine JX_seq ?_
    refine J_ret ?_
    refine JX_ret Tryd.results4 (Res.tmp rfl Res.nil) (fun w1 hw1 => ?_)
    exact ⟨(by rw [(((((((((((hF.f hq1).f hq4).t hq7).t hq8).f hq9).t hq16).f hq17).f hq19).t hq21).f hq22)).eq] <;> rfl), hw1.ext_out⟩
  refine JL_qg (q_move) (k := ?_)
  refine JL_qg (q_not) (k := ?_)
  refine JL_qg (q_pickF) (k := ?_)
  refine JL_q (q_pickT) (k := ?_)
  refine JL_q (q_move) (k := ?_)
  refine JL_bool 54 rfl (fun hq23 => ?_) (fun hq23 => ?_)
  rotate_left
  · refine JL_skips 13 rfl ?_
    refine JL_q (q_pickF) (k := ?_)
    refine JL_q (q_move) (k := ?_)
    refine JL_skips 8 rfl ?_
    refine JL_q (q_pickF) (k := ?_)
    refine JL_q (q_assign) (k := ?_)
    refine JL_nil ?_
    refine JX_seq ?_
    refine J_ret ?_
    refine JX_ret Tryd.results4 (Res.tmp rfl Res.nil) (fun w1 hw1 => ?_)
    exact ⟨(by rw [((((((((hF.f hq1).f hq4).t hq7).t hq8).f hq9).f hq16).f hq23)).eq] <;> rfl), hw1.ext_out⟩
  refine JL_qg (q_move) (k := ?_)
  refine JL_qg (q_not) (k := ?_)
  refine JL_qg (q_move) (k := ?_)
  refine JL_bool 57 rfl (fun hq24 => ?_) (fun hq24 => ?_)
  · refine JL_skips 4 rfl ?_
    refine JL_qg (q_pickT) (k := ?_)
    refine JL_qg (q_move) (k := ?_)
    refine JL_skips 3 rfl ?_
    refine JL_qg (q_pickT) (k := ?_)
    refine JL_q (q_pickT) (k := ?_)
    refine JL_q (q_move) (k := ?_)
    refine JL_qg (q_move) (k := ?_)
    refine JL_qg (q_move) (k := ?_)
    refine JL_bool 71 rfl (fun hq25 => ?_) (fun hq25 => ?_)
    · refine JL_qg (q_move) (k := ?_)
      refine JL_qg (q_pickT) (k := ?_)
      refine JL_qg (q_loadA Tryd.isAgg23 Tryd.sizeOf23) (k := ?_)
      refine JL_qg (q_loadA Tryd.isAgg23 Tryd.sizeOf23) (k := ?_)
      refine JL_qg (q_eqS (EQ_23 _ _ _ _ _ _)) (k := ?_)
      refine JL_qg (q_eqlB Tryd.runUnderlying4) (k := ?_)
      refine JL_q (q_pickT) (k := ?_)
      refine JL_q (q_assign) (k := ?_)
      refine JL_nil ?_
      refine JX_seq ?_
      refine J_ret ?_
      refine JX_ret Tryd.results4 (Res.tmp rfl Res.nil) (fun w1 hw1 => ?_)
      exact ⟨(by rw [((((((((((hF.f hq1).f hq4).t hq7).t hq8).f hq9).f hq16).t hq23).t hq24).t hq25)).eq] <;> rfl), hw1.ext_out⟩
    refine JL_skip (k := ?_)
    refine JL_qg (q_pickF) (k := ?_)
    refine JL_qg (q_loadA Tryd.isAgg23 Tryd.sizeOf23) (k := ?_)
    refine JL_qg (q_loadA Tryd.isAgg23 Tryd.sizeOf23) (k := ?_)
    refine JL_qg (q_eqS (EQ_23 _ _ _ _ _ _)) (k := ?_)
    refine JL_qg (q_eqlB Tryd.runUnderlying4) (k := ?_)
    refine JL_q (q_pickT) (k := ?_)
    refine JL_q (q_assign) (k := ?_)
    refine JL_nil ?_
    refine JX_seq ?_
    refine J_ret ?_
    refine JX_ret Tryd.results4 (Res.tmp rfl Res.nil) (fun w1 hw1 => ?_)
    exact ⟨(by rw [((((((((((hF.f hq1).f hq4).t hq7).t hq8).f hq9).f hq16).t hq23).t hq24).f hq25)).eq] <;> rfl), hw1.ext_out⟩
  refine JL_qg (q_loadA Tryd.isAgg23 Tryd.sizeOf23) (k := ?_)
  refine JL_qg (q_move) (k := ?_)
  refine JL_vg (args := [(Value.agg [(Value.int .i64 (p.addr)), (Value.int .i64 (p.bits))].toArray), (Value.int .i64 (a))]) (c_callA Tryd.call12) (fun w1 hw1 => aHas_ok w1 (p := p) (a := a)) (k := ?_)
  refine JL_qg (q_not) (k := ?_)
  refine JL_qg (q_pickF) (k := ?_)
  refine JL_qg (q_move) (k := ?_)
  refine JL_bool 63 rfl (fun hq26 => ?_) (fun hq26 => ?_)
  · refine JL_skips 3 rfl ?_
    refine JL_qg (q_pickT) (k := ?_)
    refine JL_q (q_pickT) (k := ?_)
    refine JL_q (q_move) (k := ?_)
    refine JL_qg (q_move) (k := ?_)
    refine JL_qg (q_move) (k := ?_)
    refine JL_bool 71 rfl (fun hq27 => ?_) (fun hq27 => ?_)
    · refine JL_qg (q_move) (k := ?_)
      refine JL_qg (q_pickT) (k := ?_)
      refine JL_qg (q_loadA Tryd.isAgg23 Tryd.sizeOf23) (k := ?_)
      refine JL_qg (q_loadA Tryd.isAgg23 Tryd.sizeOf23) (k := ?_)
      refine JL_qg (q_eqS (EQ_23 _ _ _ _ _ _)) (k := ?_)
      refine JL_qg (q_eqlB Tryd.runUnderlying4) (k := ?_)
      refine JL_q (q_pickT) (k := ?_)
      refine JL_q (q_assign) (k := ?_)
      refine JL_nil ?_
      refine JX_seq ?_
      refine J_ret ?_
      refine JX_ret Tryd.results4 (Res.tmp rfl Res.nil) (fun w1 hw1 => ?_)
      exact ⟨(by rw [(((((((((((hF.f hq1).f hq4).t hq7).t hq8).f hq9).f hq16).t hq23).f hq24).t hq26).t hq27)).eq] <;> rfl), hw1.ext_out⟩
    refine JL_skip (k := ?_)
    refine JL_qg (q_pickF) (k := ?_)
    refine JL_qg (q_loadA Tryd.isAgg23 Tryd.sizeOf23) (k := ?_)
    refine JL_qg (q_loadA Tryd.isAgg23 Tryd.sizeOf23) (k := ?_)
    refine JL_qg (q_eqS (EQ_23 _ _ _ _ _ _)) (k := ?_)
    refine JL_qg (q_eqlB Tryd.runUnderlying4) (k := ?_)
    refine JL_q (q_pickT) (k := ?_)
    refine JL_q (q_assign) (k := ?_)
    refine JL_nil ?_
    refine JX_seq ?_
    refine J_ret ?_
    refine JX_ret Tryd.results4 (Res.tmp rfl Res.nil) (fun w1 hw1 => ?_)
    exact ⟨(by rw [(((((((((((hF.f hq1).f hq4).t hq7).t hq8).f hq9).f hq16).t hq23).f hq24).t hq26).f hq27)).eq] <;> rfl), hw1.ext_out⟩
  refine JL_qg (q_loadA Tryd.isAgg23 Tryd.sizeOf23) (k := ?_)
  refine JL_qg (q_move) (k := ?_)
  refine JL_vg (args := [(Value.agg [(Value.int .i64 (q.addr)), (Value.int .i64 (q.bits))].toArray), (Value.int .i64 (a))]) (c_callA Tryd.call12) (fun w1 hw1 => aHas_ok w1 (p := q) (a := a)) (k := ?_)
  refine JL_qg (q_pickF) (k := ?_)
  refine JL_q (q_pickT) (k := ?_)
  refine JL_q (q_move) (k := ?_)
  refine JL_bool 69 rfl (fun hq28 => ?_) (fun hq28 => ?_)
  rotate_left
  · refine JL_skips 8 rfl ?_
    refine JL_q (q_pickF) (k := ?_)
    refine JL_q (q_assign) (k := ?_)
    refine JL_nil ?_
    refine JX_seq ?_
    refine J_ret ?_
    refine JX_ret Tryd.results4 (Res.tmp rfl Res.nil) (fun w1 hw1 => ?_)
    exact ⟨(by rw [(((((((((((hF.f hq1).f hq4).t hq7).t hq8).f hq9).f hq16).t hq23).f hq24).f hq26).f hq28)).eq] <;> rfl), hw1.ext_out⟩
  refine JL_qg (q_move) (k := ?_)
  refine JL_qg (q_move) (k := ?_)
  refine JL_bool 71 rfl (fun hq29 => ?_) (fun hq29 => ?_)
  · refine JL_qg (q_move) (k := ?_)
    refine JL_qg (q_pickT) (k := ?_)
    refine JL_qg (q_loadA Tryd.isAgg23 Tryd.sizeOf23) (k := ?_)
    refine JL_qg (q_loadA Tryd.isAgg23 Tryd.sizeOf23) (k := ?_)
    refine JL_qg (q_eqS (EQ_23 _ _ _ _ _ _)) (k := ?_)
    refine JL_qg (q_eqlB Tryd.runUnderlying4) (k := ?_)
    refine JL_q (q_pickT) (k := ?_)
    refine JL_q (q_assign) (k := ?_)
    refine JL_nil ?_
    refine JX_seq ?_
    refine J_ret ?_
    refine JX_ret Tryd.results4 (Res.tmp rfl Res.nil) (fun w1 hw1 => ?_)
    exact ⟨(by rw [((((((((((((hF.f hq1).f hq4).t hq7).t hq8).f hq9).f hq16).t hq23).f hq24).f hq26).t hq28).t hq29)).eq] <;> rfl), hw1.ext_out⟩
  refine JL_skip (k := ?_)
  refine JL_qg (q_pickF) (k := ?_)
  refine JL_qg (q_loadA Tryd.isAgg23 Tryd.sizeOf23) (k := ?_)
  refine JL_qg (q_loadA Tryd.isAgg23 Tryd.sizeOf23) (k := ?_)
  refine JL_qg (q_eqS (EQ_23 _ _ _ _ _ _)) (k := ?_)
  refine JL_qg (q_eqlB Tryd.runUnderlying4) (k := ?_)
  refine JL_q (q_pickT) (k := ?_)
  refine JL_q (q_assign) (k := ?_)
  refine JL_nil ?_
  refine JX_seq ?_
  refine J_ret ?_
  refine JX_ret Tryd.results4 (Res.tmp rfl Res.nil) (fun w1 hw1 => ?_)
  exact ⟨(by rw [((((((((((((hF.f hq1).f hq4).t hq7).t hq8).f hq9).f hq16).t hq23).f hq24).f hq26).t hq28).f hq29)).eq] <;> rfl), hw1.ext_out⟩

theorem lAddrOf_ok (w : World) {a : Int} {bits : Int} {less : Int} (hG : Gl w) : Val Tryd.prog 8 [(Value.int .i64 (a)), (Value.int .i64 (bits)), (Value.int .i64 (less))] w (Value.bool ((lAddrOf a bits less))) := by
  have hF := Is.refl (lAddrOf a bits less)
  refine enter Tryd.func8 Tryd.ntmps8 (h := ?_)
  refine J_seq ?_
  refine J_reg ?_
  refine JL_q (q_assign) (k := ?_)
  refine JL_nil ?_
  refine JX_seq ?_
  refine J_seq ?_
  refine J_reg ?_
  refine JL_v (args := []) (c_callA Tryd.call10) (fun w1 hw1 => aShown_ok w1 (hG := hG.ext hw1.ext_out)) (k := ?_)
  refine JL_q (q_assign) (k := ?_)
  refine JL_nil ?_
  refine JX_seq ?_
  refine J_seq ?_
  refine J_reg ?_
  refine JL_q (q_move) (k := ?_)
  refine JL_q (q_move) (k := ?_)
  refine JL_v (args := [(Value.int .i64 (a)), (Value.int .i64 (bits))]) (c_callA Tryd.call26) (fun w1 hw1 => aOf_ok w1 (a := a) (n_ := bits)) (k := ?_)
  refine JL_q (q_move) (k := ?_)
  refine JL_q (q_ext) (k := ?_)
  refine JL_q (q_ext) (k := ?_)
  refine JL_a noMk (a_alloc (l := [_, _]) Tryd.zeroValue23) (k := fun r1 hr1 => ?_)
  refine JL_s (w_store (l' := [_, _]) Tryd.sizeOf23) (k := ?_)
  refine JL_q (q_assign) (k := ?_)
  refine JL_nil ?_
  refine JX_seq ?_
  refine J_seq ?_
  refine J_reg ?_
  refine JL_q (q_move) (k := ?_)
  refine JL_q (q_move) (k := ?_)
  refine JL_v (args := [(Value.int .i64 (a)), (Value.int .i64 (less))]) (c_callA Tryd.call26) (fun w1 hw1 => aOf_ok w1 (a := a) (n_ := less)) (k := ?_)
  refine JL_q (q_move) (k := ?_)
  refine JL_q (q_ext) (k := ?_)
  refine JL_q (q_ext) (k := ?_)
  refine JL_a noMk (a_alloc (l := [_, _]) Tryd.zeroValue23) (k := fun r2 hr2 => ?_)
  refine JL_s (w_store (l' := [_, _]) Tryd.sizeOf23) (k := ?_)
  refine JL_q (q_assign) (k := ?_)
  refine JL_nil ?_
  refine JX_seq ?_
  refine J_seq ?_
  refine J_seq ?_
  refine J_reg ?_
  refine JL_q (q_move) (k := ?_)
  refine JL_q (q_neq) (k := ?_)
  refine JL_nil ?_
  refine JX_seq ?_
  refine J_dec rfl (fun hq1 => ?_) (fun hq1 => ?_)
  · refine J_seq ?_
    refine J_reg ?_
    refine JL_q (q_move) (k := ?_)
    refine JL_q (q_move) (k := ?_)
    refine JL_bool 28 rfl (fun hq2 => ?_) (fun hq2 => ?_)
    rotate_left
    · refine JL_skips 3 rfl ?_
      refine JL_q (q_pickF) (k := ?_)
      refine JL_q (q_move) (k := ?_)
      refine JL_skips 7 rfl ?_
      refine JL_q (q_pickF) (k := ?_)
      refine JL_q (q_assign) (k := ?_)
      refine JL_nil ?_
      refine JX_seq ?_
      refine J_ret ?_
      refine JX_seq_ret ?_
      refine JX_ret Tryd.results8 (Res.tmp rfl Res.nil) (fun w1 hw1 => ?_)
      exact ⟨(by rw [(((hF.pos hq1).f hq2)).eq] <;> rfl), hw1.ext_out⟩
    refine JL_qg (q_loadA Tryd.isAgg23 Tryd.sizeOf23) (k := ?_)
    refine JL_qg (q_build (cs := [_, _]) Tryd.zeroValue23 PL_23) (k := ?_)
    refine JL_qg (q_eqS (EQ_23 _ _ _ _ _ _)) (k := ?_)
    refine JL_q (q_pickT) (k := ?_)
    refine JL_q (q_move) (k := ?_)
    refine JL_dec 33 rfl (fun hq3 => ?_) (fun hq3 => ?_)
    rotate_left
    · refine JL_skips 7 rfl ?_
      refine JL_q (q_pickF) (k := ?_)
      refine JL_q (q_assign) (k := ?_)
      refine JL_nil ?_
      refine JX_seq ?_
      refine J_ret ?_
      refine JX_seq_ret ?_
      refine JX_ret Tryd.results8 (Res.tmp rfl Res.nil) (fun w1 hw1 => ?_)
      exact ⟨(by rw [((((hF.pos hq1).t hq2).neg hq3)).eq] <;> rfl), hw1.ext_out⟩
    refine JL_qg (q_move) (k := ?_)
    refine JL_qg (q_neq) (k := ?_)
    refine JL_qg (q_move) (k := ?_)
    refine JL_dec 36 rfl (fun hq4 => ?_) (fun hq4 => ?_)
    · refine JL_skips 3 rfl ?_
      refine JL_qg (q_pickT) (k := ?_)
      refine JL_q (q_pickT) (k := ?_)
      refine JL_q (q_assign) (k := ?_)
      refine JL_nil ?_
      refine JX_seq ?_
      refine J_ret ?_
      refine JX_seq_ret ?_
      refine JX_ret Tryd.results8 (Res.tmp rfl Res.nil) (fun w1 hw1 => ?_)
      exact ⟨(by rw [(((((hF.pos hq1).t hq2).pos hq3).pos hq4)).eq] <;> rfl), hw1.ext_out⟩
    refine JL_qg (q_loadA Tryd.isAgg23 Tryd.sizeOf23) (k := ?_)
    refine JL_qg (q_move) (k := ?_)
    refine JL_vg (args := [(Value.agg [(Value.int .i64 (((aOf a less).1.addr))), (Value.int .i64 (((aOf a less).1.bits)))].toArray), (Value.int .i64 (a))]) (c_callA Tryd.call12) (fun w1 hw1 => aHas_ok w1 (p := (aOf a less).1) (a := a)) (k := ?_)
    refine JL_qg (q_pickF) (k := ?_)
    refine JL_q (q_pickT) (k := ?_)
    refine JL_q (q_assign) (k := ?_)
    refine JL_nil ?_
    refine JX_seq ?_
    refine J_ret ?_
    refine JX_seq_ret ?_
    refine JX_ret Tryd.results8 (Res.tmp rfl Res.nil) (fun w1 hw1 => ?_)
    exact ⟨(by rw [(((((hF.pos hq1).t hq2).pos hq3).neg hq4)).eq] <;> rfl), hw1.ext_out⟩
  refine J_skip ?_
  refine JX_seq ?_
  refine J_seq ?_
  refine J_reg ?_
  refine JL_q (q_move) (k := ?_)
  refine JL_q (q_move) (k := ?_)
  refine JL_bool 43 rfl (fun hq5 => ?_) (fun hq5 => ?_)
  rotate_left
  · refine JL_skips 2 rfl ?_
    refine JL_q (q_pickF) (k := ?_)
    refine JL_q (q_move) (k := ?_)
    refine JL_skips 4 rfl ?_
    refine JL_q (q_pickF) (k := ?_)
    refine JL_q (q_move) (k := ?_)
    refine JL_skips 3 rfl ?_
    refine JL_q (q_pickF) (k := ?_)
    refine JL_q (q_move) (k := ?_)
    refine JL_skips 12 rfl ?_
    refine JL_q (q_pickF) (k := ?_)
    refine JL_q (q_assign) (k := ?_)
    refine JL_nil ?_
    refine JX_seq ?_
    refine J_ret ?_
    refine JX_ret Tryd.results8 (Res.tmp rfl Res.nil) (fun w1 hw1 => ?_)
    exact ⟨(by rw [(((hF.neg hq1).f hq5)).eq] <;> rfl), hw1.ext_out⟩
  refine JL_qg (q_loadA Tryd.isAgg23 Tryd.sizeOf23) (k := ?_)
  refine JL_vg (args := [(Value.agg [(Value.int .i64 (((aOf a bits).1.addr))), (Value.int .i64 (((aOf a bits).1.bits)))].toArray)]) (c_callA Tryd.call13) (fun w1 hw1 => aRight_ok w1 (p := (aOf a bits).1)) (k := ?_)
  refine JL_q (q_pickT) (k := ?_)
  refine JL_q (q_move) (k := ?_)
  refine JL_bool 47 rfl (fun hq6 => ?_) (fun hq6 => ?_)
  rotate_left
  · refine JL_skips 4 rfl ?_
    refine JL_q (q_pickF) (k := ?_)
    refine JL_q (q_move) (k := ?_)
    refine JL_skips 3 rfl ?_
    refine JL_q (q_pickF) (k := ?_)
    refine JL_q (q_move) (k := ?_)
    refine JL_skips 12 rfl ?_
    refine JL_q (q_pickF) (k := ?_)
    refine JL_q (q_assign) (k := ?_)
    refine JL_nil ?_
    refine JX_seq ?_
    refine J_ret ?_
    refine JX_ret Tryd.results8 (Res.tmp rfl Res.nil) (fun w1 hw1 => ?_)
    exact ⟨(by rw [((((hF.neg hq1).t hq5).f hq6)).eq] <;> rfl), hw1.ext_out⟩
  have hfhq6 := aRight_t hq6
  refine JL_qg (q_fld FO_23_1) (k := ?_)
  refine JL_qg (q_load Tryd.isAgg3) (k := ?_)
  refine JL_qg (q_move) (k := ?_)
  refine JL_qg (q_eql) (k := ?_)
  refine JL_q (q_pickT) (k := ?_)
  refine JL_q (q_move) (k := ?_)
  refine JL_dec 53 rfl (fun hq7 => ?_) (fun hq7 => ?_)
  rotate_left
  · refine JL_skips 3 rfl ?_
    refine JL_q (q_pickF) (k := ?_)
    refine JL_q (q_move) (k := ?_)
    refine JL_skips 12 rfl ?_
    refine JL_q (q_pickF) (k := ?_)
    refine JL_q (q_assign) (k := ?_)
    refine JL_nil ?_
    refine JX_seq ?_
    refine J_ret ?_
    refine JX_ret Tryd.results8 (Res.tmp rfl Res.nil) (fun w1 hw1 => ?_)
    exact ⟨(by rw [(((((hF.neg hq1).t hq5).t hq6).neg hq7)).eq] <;> rfl), hw1.ext_out⟩
  refine JL_qg (q_loadA Tryd.isAgg23 Tryd.sizeOf23) (k := ?_)
  refine JL_qg (q_move) (k := ?_)
  refine JL_vg (args := [(Value.agg [(Value.int .i64 (((aOf a bits).1.addr))), (Value.int .i64 (((aOf a bits).1.bits)))].toArray), (Value.int .i64 (a))]) (c_callA Tryd.call12) (fun w1 hw1 => aHas_ok w1 (p := (aOf a bits).1) (a := a)) (k := ?_)
  refine JL_q (q_pickT) (k := ?_)
  refine JL_q (q_move) (k := ?_)
  refine JL_bool 58 rfl (fun hq8 => ?_) (fun hq8 => ?_)
  rotate_left
  · refine JL_skips 12 rfl ?_
    refine JL_q (q_pickF) (k := ?_)
    refine JL_q (q_assign) (k := ?_)
    refine JL_nil ?_
    refine JX_seq ?_
    refine J_ret ?_
    refine JX_ret Tryd.results8 (Res.tmp rfl Res.nil) (fun w1 hw1 => ?_)
    exact ⟨(by rw [((((((hF.neg hq1).t hq5).t hq6).pos hq7).f hq8)).eq] <;> rfl), hw1.ext_out⟩
  refine JL_qg (q_move) (k := ?_)
  refine JL_qg (q_neq) (k := ?_)
  refine JL_qg (q_move) (k := ?_)
  refine JL_dec 61 rfl (fun hq9 => ?_) (fun hq9 => ?_)
  · refine JL_skips 3 rfl ?_
    refine JL_qg (q_pickT) (k := ?_)
    refine JL_qg (q_move) (k := ?_)
    refine JL_skips 3 rfl ?_
    refine JL_qg (q_pickT) (k := ?_)
    refine JL_q (q_pickT) (k := ?_)
    refine JL_q (q_assign) (k := ?_)
    refine JL_nil ?_
    refine JX_seq ?_
    refine J_ret ?_
    refine JX_ret Tryd.results8 (Res.tmp rfl Res.nil) (fun w1 hw1 => ?_)
    exact ⟨(by rw [(((((((hF.neg hq1).t hq5).t hq6).pos hq7).t hq8).pos hq9)).eq] <;> rfl), hw1.ext_out⟩
  refine JL_qg (q_move) (k := ?_)
  refine JL_qg (q_move) (k := ?_)
  refine JL_qg (q_gtr) (k := ?_)
  refine JL_qg (q_pickF) (k := ?_)
  refine JL_qg (q_move) (k := ?_)
  refine JL_dec 66 rfl (fun hq10 => ?_) (fun hq10 => ?_)
  · refine JL_skips 3 rfl ?_
    refine JL_qg (q_pickT) (k := ?_)
    refine JL_q (q_pickT) (k := ?_)
    refine JL_q (q_assign) (k := ?_)
    refine JL_nil ?_
    refine JX_seq ?_
    refine J_ret ?_
    refine JX_ret Tryd.results8 (Res.tmp rfl Res.nil) (fun w1 hw1 => ?_)
    exact ⟨(by rw [((((((((hF.neg hq1).t hq5).t hq6).pos hq7).t hq8).neg hq9).pos hq10)).eq] <;> rfl), hw1.ext_out⟩
  refine JL_qg (q_loadA Tryd.isAgg23 Tryd.sizeOf23) (k := ?_)
  refine JL_qg (q_loadA Tryd.isAgg23 Tryd.sizeOf23) (k := ?_)
  refine JL_vg (args := [(Value.agg [(Value.int .i64 (((aOf a bits).1.addr))), (Value.int .i64 (((aOf a bits).1.bits)))].toArray), (Value.agg [(Value.int .i64 (((aOf a less).1.addr))), (Value.int .i64 (((aOf a less).1.bits)))].toArray)]) (c_callA Tryd.call14) (fun w1 hw1 => aIn_ok w1 (p := (aOf a bits).1) (q := (aOf a less).1)) (k := ?_)
  refine JL_qg (q_pickF) (k := ?_)
  refine JL_q (q_pickT) (k := ?_)
  refine JL_q (q_assign) (k := ?_)
  refine JL_nil ?_
  refine JX_seq ?_
  refine J_ret ?_
  refine JX_ret Tryd.results8 (Res.tmp rfl Res.nil) (fun w1 hw1 => ?_)
  exact ⟨(by rw [((((((((hF.neg hq1).t hq5).t hq6).pos hq7).t hq8).neg hq9).neg hq10)).eq] <;> rfl), hw1.ext_out⟩

theorem lAddrSplits_ok (w : World) {p : Prefix} {a : Int} (i_p_bits : -9223372036854775808 ≤ p.bits ∧ p.bits ≤ 9223372036854775807) (hG : Gl w) : Val Tryd.prog 9 [(Value.agg [(Value.int .i64 (p.addr)), (Value.int .i64 (p.bits))].toArray), (Value.int .i64 (a))] w (Value.bool ((lAddrSplits p a))) := by
  have hF := Is.refl (lAddrSplits p a)
  refine enter Tryd.func9 Tryd.ntmps9 (h := ?_)
  refine J_seq ?_
  refine J_reg ?_
  refine JL_a noMk (a_box (l := [_, _])) (k := fun r1 hr1 => ?_)
  refine JL_q (q_assign) (k := ?_)
  refine JL_nil ?_
  refine JX_seq ?_
  refine J_seq ?_
  refine J_reg ?_
  refine JL_v (args := []) (c_callA Tryd.call10) (fun w1 hw1 => aShown_ok w1 (hG := hG.ext hw1.ext_out)) (k := ?_)
  refine JL_q (q_assign) (k := ?_)
  refine JL_nil ?_
  refine JX_seq ?_
  refine J_seq ?_
  refine J_reg ?_
  refine JL_q (q_loadA Tryd.isAgg23 Tryd.sizeOf23) (k := ?_)
  refine JL_v (args := [(Value.agg [(Value.int .i64 (p.addr)), (Value.int .i64 (p.bits))].toArray)]) (c_callA Tryd.call11) (fun w1 hw1 => aEnds_ok w1 (p := p)) (k := ?_)
  have hen_55713 := aEnds_bd p
  refine JL_q (q_move) (k := ?_)
  refine JL_q (q_ext) (k := ?_)
  refine JL_q (q_ext) (k := ?_)
  refine JL_q (q_ext) (k := ?_)
  refine JL_q (q_assign) (k := ?_)
  refine JL_q (q_assign) (k := ?_)
  refine JL_q (q_assign) (k := ?_)
  refine JL_nil ?_
  refine JX_seq ?_
  refine J_seq ?_
  refine J_seq ?_
  refine J_reg ?_
  refine JL_q (q_move) (k := ?_)
  refine JL_q (q_neq) (k := ?_)
  refine JL_q (q_move) (k := ?_)
  refine JL_dec 22 rfl (fun hq1 => ?_) (fun hq1 => ?_)
  · refine JL_skips 3 rfl ?_
    refine JL_q (q_pickT) (k := ?_)
    refine JL_nil ?_
    refine JX_seq ?_
    refine J_true rfl ?_
    refine J_seq ?_
    refine J_reg ?_
    refine JL_q (q_move) (k := ?_)
    refine JL_q (q_move) (k := ?_)
    refine JL_bool 28 rfl (fun hq2 => ?_) (fun hq2 => ?_)
    rotate_left
    · refine JL_skips 7 rfl ?_
      refine JL_q (q_pickF) (k := ?_)
      refine JL_q (q_assign) (k := ?_)
      refine JL_nil ?_
      refine JX_seq ?_
      refine J_ret ?_
      refine JX_seq_ret ?_
      refine JX_ret Tryd.results9 (Res.tmp rfl Res.nil) (fun w1 hw1 => ?_)
      exact ⟨(by rw [(((hF.pos hq1).f hq2)).eq] <;> rfl), hw1.ext_out⟩
    refine JL_qg (q_move) (k := ?_)
    refine JL_qg (q_neq) (k := ?_)
    refine JL_qg (q_move) (k := ?_)
    refine JL_dec 31 rfl (fun hq3 => ?_) (fun hq3 => ?_)
    · refine JL_skips 3 rfl ?_
      refine JL_qg (q_pickT) (k := ?_)
      refine JL_q (q_pickT) (k := ?_)
      refine JL_q (q_assign) (k := ?_)
      refine JL_nil ?_
      refine JX_seq ?_
      refine J_ret ?_
      refine JX_seq_ret ?_
      refine JX_ret Tryd.results9 (Res.tmp rfl Res.nil) (fun w1 hw1 => ?_)
      exact ⟨(by rw [((((hF.pos hq1).t hq2).pos hq3)).eq] <;> rfl), hw1.ext_out⟩
    refine JL_qg (q_move) (k := ?_)
    refine JL_qg (q_move) (k := ?_)
    refine JL_qg (q_eql) (k := ?_)
    refine JL_qg (q_pickF) (k := ?_)
    refine JL_q (q_pickT) (k := ?_)
    refine JL_q (q_assign) (k := ?_)
    refine JL_nil ?_
    refine JX_seq ?_
    refine J_ret ?_
    refine JX_seq_ret ?_
    refine JX_ret Tryd.results9 (Res.tmp rfl Res.nil) (fun w1 hw1 => ?_)
    exact ⟨(by rw [((((hF.pos hq1).t hq2).neg hq3)).eq] <;> rfl), hw1.ext_out⟩
  refine JL_qg (q_fld FO_23_1) (k := ?_)
  refine JL_qg (q_load Tryd.isAgg3) (k := ?_)
  refine JL_qg (q_geq) (k := ?_)
  refine JL_q (q_pickF) (k := ?_)
  refine JL_nil ?_
  refine JX_seq ?_
  refine J_dec rfl (fun hq4 => ?_) (fun hq4 => ?_)
  · refine J_seq ?_
    refine J_reg ?_
    refine JL_q (q_move) (k := ?_)
    refine JL_q (q_move) (k := ?_)
    refine JL_bool 28 rfl (fun hq5 => ?_) (fun hq5 => ?_)
    rotate_left
    · refine JL_skips 7 rfl ?_
      refine JL_q (q_pickF) (k := ?_)
      refine JL_q (q_assign) (k := ?_)
      refine JL_nil ?_
      refine JX_seq ?_
      refine J_ret ?_
      refine JX_seq_ret ?_
      refine JX_ret Tryd.results9 (Res.tmp rfl Res.nil) (fun w1 hw1 => ?_)
      exact ⟨(by rw [((((hF.neg hq1).pos hq4).f hq5)).eq] <;> rfl), hw1.ext_out⟩
    refine JL_qg (q_move) (k := ?_)
    refine JL_qg (q_neq) (k := ?_)
    refine JL_qg (q_move) (k := ?_)
    refine JL_dec 31 rfl (fun hq6 => ?_) (fun hq6 => ?_)
    · refine JL_skips 3 rfl ?_
      refine JL_qg (q_pickT) (k := ?_)
      refine JL_q (q_pickT) (k := ?_)
      refine JL_q (q_assign) (k := ?_)
      refine JL_nil ?_
      refine JX_seq ?_
      refine J_ret ?_
      refine JX_seq_ret ?_
      refine JX_ret Tryd.results9 (Res.tmp rfl Res.nil) (fun w1 hw1 => ?_)
      exact ⟨(by rw [(((((hF.neg hq1).pos hq4).t hq5).pos hq6)).eq] <;> rfl), hw1.ext_out⟩
    refine JL_qg (q_move) (k := ?_)
    refine JL_qg (q_move) (k := ?_)
    refine JL_qg (q_eql) (k := ?_)
    refine JL_qg (q_pickF) (k := ?_)
    refine JL_q (q_pickT) (k := ?_)
    refine JL_q (q_assign) (k := ?_)
    refine JL_nil ?_
    refine JX_seq ?_
    refine J_ret ?_
    refine JX_seq_ret ?_
    refine JX_ret Tryd.results9 (Res.tmp rfl Res.nil) (fun w1 hw1 => ?_)
    exact ⟨(by rw [(((((hF.neg hq1).pos hq4).t hq5).neg hq6)).eq] <;> rfl), hw1.ext_out⟩
  refine J_skip ?_
  refine JX_seq ?_
  refine J_seq ?_
  refine J_reg ?_
  refine JL_q (q_move) (k := ?_)
  refine JL_q (q_fld FO_23_1) (k := ?_)
  refine JL_q (q_load Tryd.isAgg3) (k := ?_)
  refine JL_q (q_add) (k := ?_)
  refine JL_v (args := [(Value.int .i64 (((aEnds p).1))), (Value.int .i64 ((p.bits + 1)))]) (c_callA Tryd.call26) (fun w1 hw1 => aOf_ok w1 (a := ((aEnds p).1)) (n_ := (p.bits + 1))) (k := ?_)
  refine JL_q (q_move) (k := ?_)
  refine JL_q (q_ext) (k := ?_)
  refine JL_q (q_ext) (k := ?_)
  refine JL_a noMk (a_alloc (l := [_, _]) Tryd.zeroValue23) (k := fun r2 hr2 => ?_)
  refine JL_s (w_store (l' := [_, _]) Tryd.sizeOf23) (k := ?_)
  refine JL_q (q_assign) (k := ?_)
  refine JL_nil ?_
  refine JX_seq ?_
  refine J_seq ?_
  refine J_reg ?_
  refine JL_q (q_move) (k := ?_)
  refine JL_q (q_fld FO_23_1) (k := ?_)
  refine JL_q (q_load Tryd.isAgg3) (k := ?_)
  refine JL_q (q_add) (k := ?_)
  refine JL_v (args := [(Value.int .i64 (((aEnds p).2.1))), (Value.int .i64 ((p.bits + 1)))]) (c_callA Tryd.call26) (fun w1 hw1 => aOf_ok w1 (a := ((aEnds p).2.1)) (n_ := (p.bits + 1))) (k := ?_)
  refine JL_q (q_move) (k := ?_)
  refine JL_q (q_ext) (k := ?_)
  refine JL_q (q_ext) (k := ?_)
  refine JL_a noMk (a_alloc (l := [_, _]) Tryd.zeroValue23) (k := fun r3 hr3 => ?_)
  refine JL_s (w_store (l' := [_, _]) Tryd.sizeOf23) (k := ?_)
  refine JL_q (q_assign) (k := ?_)
  refine JL_nil ?_
  refine JX_seq ?_
  refine J_seq ?_
  refine J_plan mixed 50 [(true, 0), (true, 1), (true, 2), (true, 3), (true, 4), (true, 5), (true, 6), (true, 7), (true, 8), (true, 9), (true, 10), (true, 11), (true, 12), (true, 13), (true, 14), (true, 15), (true, 16), (false, 17), (true, 18), (true, 19), (true, 20), (true, 21), (false, 22), (true, 23), (true, 24), (true, 25), (true, 26), (true, 28), (true, 29), (false, 27), (false, 30), (true, 31), (true, 32), (true, 33), (false, 34), (true, 35), (true, 36), (true, 37), (true, 38), (true, 39), (true, 40), (false, 41), (true, 42), (true, 43), (true, 44), (false, 45), (true, 46), (true, 47), (true, 48), (true, 49)] (by kernel_rfl) ?_
  refine JD_q (q_move) (k := ?_)
  refine JD_q (q_move) (k := ?_)
  refine JD_bool 54 rfl (fun hq7 => ?_) (fun hq7 => ?_)
  rotate_left
  · refine JD_skips 2 rfl ?_
    refine JD_q (q_pickF) (k := ?_)
    refine JD_q (q_move) (k := ?_)
    refine JD_skips 2 rfl ?_
    refine JD_q (q_pickF) (k := ?_)
    refine JD_q (q_move) (k := ?_)
    refine JD_skips 3 rfl ?_
    refine JD_q (q_pickF) (k := ?_)
    refine JD_q (q_move) (k := ?_)
    refine JD_skips 3 rfl ?_
    refine JD_q (q_pickF) (k := ?_)
    refine JD_q (q_move) (k := ?_)
    refine JD_skips 3 rfl ?_
    refine JD_q (q_pickF) (k := ?_)
    refine JD_q (q_move) (k := ?_)
    refine JD_skips 12 rfl ?_
    refine JD_q (q_pickF) (k := ?_)
    refine JD_q (q_move) (k := ?_)
    refine JD_skips 9 rfl ?_
    refine JD_q (q_pickF) (k := ?_)
    refine JD_q (q_assign) (k := ?_)
    refine JD_nil ?_
    refine JL_nil ?_
    refine JX_seq ?_
    refine J_ret ?_
    refine JX_ret Tryd.results9 (Res.tmp rfl Res.nil) (fun w1 hw1 => ?_)
    exact ⟨(by rw [((((hF.neg hq1).neg hq4).f hq7)).eq] <;> rfl), hw1.ext_out⟩
  refine JD_qg (q_move) (k := ?_)
  refine JD_qg (q_eql) (k := ?_)
  refine JD_q (q_pickT) (k := ?_)
  refine JD_q (q_move) (k := ?_)
  refine JD_dec 58 rfl (fun hq8 => ?_) (fun hq8 => ?_)
  rotate_left
  · refine JD_skips 2 rfl ?_
    refine JD_q (q_pickF) (k := ?_)
    refine JD_q (q_move) (k := ?_)
    refine JD_skips 3 rfl ?_
    refine JD_q (q_pickF) (k := ?_)
    refine JD_q (q_move) (k := ?_)
    refine JD_skips 3 rfl ?_
    refine JD_q (q_pickF) (k := ?_)
    refine JD_q (q_move) (k := ?_)
    refine JD_skips 3 rfl ?_
    refine JD_q (q_pickF) (k := ?_)
    refine JD_q (q_move) (k := ?_)
    refine JD_skips 12 rfl ?_
    refine JD_q (q_pickF) (k := ?_)
    refine JD_q (q_move) (k := ?_)
    refine JD_skips 9 rfl ?_
    refine JD_q (q_pickF) (k := ?_)
    refine JD_q (q_assign) (k := ?_)
    refine JD_nil ?_
    refine JL_nil ?_
    refine JX_seq ?_
    refine J_ret ?_
    refine JX_ret Tryd.results9 (Res.tmp rfl Res.nil) (fun w1 hw1 => ?_)
    exact ⟨(by rw [(((((hF.neg hq1).neg hq4).t hq7).neg hq8)).eq] <;> rfl), hw1.ext_out⟩
  refine JD_qg (q_move) (k := ?_)
  refine JD_qg (q_eql) (k := ?_)
  refine JD_q (q_pickT) (k := ?_)
  refine JD_q (q_move) (k := ?_)
  refine JD_dec 62 rfl (fun hq9 => ?_) (fun hq9 => ?_)
  rotate_left
  · refine JD_skips 3 rfl ?_
    refine JD_q (q_pickF) (k := ?_)
    refine JD_q (q_move) (k := ?_)
    refine JD_skips 3 rfl ?_
    refine JD_q (q_pickF) (k := ?_)
    refine JD_q (q_move) (k := ?_)
    refine JD_skips 3 rfl ?_
    refine JD_q (q_pickF) (k := ?_)
    refine JD_q (q_move) (k := ?_)
    refine JD_skips 12 rfl ?_
    refine JD_q (q_pickF) (k := ?_)
    refine JD_q (q_move) (k := ?_)
    refine JD_skips 9 rfl ?_
    refine JD_q (q_pickF) (k := ?_)
    refine JD_q (q_assign) (k := ?_)
    refine JD_nil ?_
    refine JL_nil ?_
    refine JX_seq ?_
    refine J_ret ?_
    refine JX_ret Tryd.results9 (Res.tmp rfl Res.nil) (fun w1 hw1 => ?_)
    exact ⟨(by rw [((((((hF.neg hq1).neg hq4).t hq7).pos hq8).neg hq9)).eq] <;> rfl), hw1.ext_out⟩
  refine JD_qg (q_loadA Tryd.isAgg23 Tryd.sizeOf23) (k := ?_)
  refine JD_qg (q_loadA Tryd.isAgg23 Tryd.sizeOf23) (k := ?_)
  refine JD_qg (q_neS (NE_23 _ _ _ _ _ _)) (k := ?_)
  refine JD_q (q_pickT) (k := ?_)
  refine JD_q (q_move) (k := ?_)
  refine JD_dec 67 rfl (fun hq10 => ?_) (fun hq10 => ?_)
  rotate_left
  · refine JD_skips 3 rfl ?_
    refine JD_q (q_pickF) (k := ?_)
    refine JD_q (q_move) (k := ?_)
    refine JD_skips 3 rfl ?_
    refine JD_q (q_pickF) (k := ?_)
    refine JD_q (q_move) (k := ?_)
    refine JD_skips 12 rfl ?_
    refine JD_q (q_pickF) (k := ?_)
    refine JD_q (q_move) (k := ?_)
    refine JD_skips 9 rfl ?_
    refine JD_q (q_pickF) (k := ?_)
    refine JD_q (q_assign) (k := ?_)
    refine JD_nil ?_
    refine JL_nil ?_
    refine JX_seq ?_
    refine J_ret ?_
    refine JX_ret Tryd.results9 (Res.tmp rfl Res.nil) (fun w1 hw1 => ?_)
    exact ⟨(by rw [(((((((hF.neg hq1).neg hq4).t hq7).pos hq8).pos hq9).neg hq10)).eq] <;> rfl), hw1.ext_out⟩
  refine JD_qg (q_loadA Tryd.isAgg23 Tryd.sizeOf23) (k := ?_)
  refine JD_qg (q_loadA Tryd.isAgg23 Tryd.sizeOf23) (k := ?_)
  refine JD_vg (args := [(Value.agg [(Value.int .i64 (((aOf ((aEnds p).1) (p.bits + 1)).1.addr))), (Value.int .i64 (((aOf ((aEnds p).1) (p.bits + 1)).1.bits)))].toArray), (Value.agg [(Value.int .i64 (p.addr)), (Value.int .i64 (p.bits))].toArray)]) (c_callA Tryd.call14) (fun w1 hw1 => aIn_ok w1 (p := (aOf ((aEnds p).1) (p.bits + 1)).1) (q := p)) (k := ?_)
  refine JD_q (q_pickT) (k := ?_)
  refine JD_q (q_move) (k := ?_)
  refine JD_bool 72 rfl (fun hq11 => ?_) (fun hq11 => ?_)
  rotate_left
  · refine JD_skips 3 rfl ?_
    refine JD_q (q_pickF) (k := ?_)
    refine JD_q (q_move) (k := ?_)
    refine JD_skips 12 rfl ?_
    refine JD_q (q_pickF) (k := ?_)
    refine JD_q (q_move) (k := ?_)
    refine JD_skips 9 rfl ?_
    refine JD_q (q_pickF) (k := ?_)
    refine JD_q (q_assign) (k := ?_)
    refine JD_nil ?_
    refine JL_nil ?_
    refine JX_seq ?_
    refine J_ret ?_
    refine JX_ret Tryd.results9 (Res.tmp rfl Res.nil) (fun w1 hw1 => ?_)
    exact ⟨(by rw [((((((((hF.neg hq1).neg hq4).t hq7).pos hq8).pos hq9).pos hq10).f hq11)).eq] <;> rfl), hw1.ext_out⟩
  refine JD_qg (q_loadA Tryd.isAgg23 Tryd.sizeOf23) (k := ?_)
  refine JD_qg (q_loadA Tryd.isAgg23 Tryd.sizeOf23) (k := ?_)
  refine JD_vg (args := [(Value.agg [(Value.int .i64 (((aOf ((aEnds p).2.1) (p.bits + 1)).1.addr))), (Value.int .i64 (((aOf ((aEnds p).2.1) (p.bits + 1)).1.bits)))].toArray), (Value.agg [(Value.int .i64 (p.addr)), (Value.int .i64 (p.bits))].toArray)]) (c_callA Tryd.call14) (fun w1 hw1 => aIn_ok w1 (p := (aOf ((aEnds p).2.1) (p.bits + 1)).1) (q := p)) (k := ?_)
  refine JD_q (q_pickT) (k := ?_)
  refine JD_q (q_move) (k := ?_)
  refine JD_bool 77 rfl (fun hq12 => ?_) (fun hq12 => ?_)
  rotate_left
  · refine JD_skips 12 rfl ?_
    refine JD_q (q_pickF) (k := ?_)
    refine JD_q (q_move) (k := ?_)
    refine JD_skips 9 rfl ?_
    refine JD_q (q_pickF) (k := ?_)
    refine JD_q (q_assign) (k := ?_)
    refine JD_nil ?_
    refine JL_nil ?_
    refine JX_seq ?_
    refine J_ret ?_
    refine JX_ret Tryd.results9 (Res.tmp rfl Res.nil) (fun w1 hw1 => ?_)
    exact ⟨(by rw [(((((((((hF.neg hq1).neg hq4).t hq7).pos hq8).pos hq9).pos hq10).t hq11).f hq12)).eq] <;> rfl), hw1.ext_out⟩
  refine JD_qg (q_loadA Tryd.isAgg23 Tryd.sizeOf23) (k := ?_)
  refine JD_qg (q_move) (k := ?_)
  refine JD_qg (q_loadA Tryd.isAgg23 Tryd.sizeOf23) (k := ?_)
  refine JD_qg (q_move) (k := ?_)
  refine JD_vg (args := [(Value.agg [(Value.int .i64 (p.addr)), (Value.int .i64 (p.bits))].toArray), (Value.int .i64 (a))]) (c_callA Tryd.call12) (fun w1 hw1 => aHas_ok w1 (p := p) (a := a)) (k := ?_)
  refine JD_vg (args := [(Value.agg [(Value.int .i64 (((aOf ((aEnds p).1) (p.bits + 1)).1.addr))), (Value.int .i64 (((aOf ((aEnds p).1) (p.bits + 1)).1.bits)))].toArray), (Value.int .i64 (a))]) (c_callA Tryd.call12) (fun w1 hw1 => aHas_ok w1 (p := (aOf ((aEnds p).1) (p.bits + 1)).1) (a := a)) (k := ?_)
  refine JD_qg (q_move) (k := ?_)
  refine JD_bool 84 rfl (fun hq13 => ?_) (fun hq13 => ?_)
  · refine JD_skips 3 rfl ?_
    refine JD_qg (q_pickT) (k := ?_)
    refine JD_qg (q_eqlB Tryd.runUnderlying4) (k := ?_)
    refine JD_q (q_pickT) (k := ?_)
    refine JD_q (q_move) (k := ?_)
    refine JD_bool 91 rfl (fun hq14 => ?_) (fun hq14 => ?_)
    rotate_left
    · refine JD_skips 9 rfl ?_
      refine JD_q (q_pickF) (k := ?_)
      refine JD_q (q_assign) (k := ?_)
      refine JD_nil ?_
      refine JL_nil ?_
      refine JX_seq ?_
      refine J_ret ?_
      refine JX_ret Tryd.results9 (Res.tmp rfl Res.nil) (fun w1 hw1 => ?_)
      exact ⟨(by rw [(((((((((((hF.neg hq1).neg hq4).t hq7).pos hq8).pos hq9).pos hq10).t hq11).t hq12).t hq13).f hq14)).eq] <;> rfl), hw1.ext_out⟩
    refine JD_qg (q_loadA Tryd.isAgg23 Tryd.sizeOf23) (k := ?_)
    refine JD_qg (q_move) (k := ?_)
    refine JD_vg (args := [(Value.agg [(Value.int .i64 (((aOf ((aEnds p).1) (p.bits + 1)).1.addr))), (Value.int .i64 (((aOf ((aEnds p).1) (p.bits + 1)).1.bits)))].toArray), (Value.int .i64 (a))]) (c_callA Tryd.call12) (fun w1 hw1 => aHas_ok w1 (p := (aOf ((aEnds p).1) (p.bits + 1)).1) (a := a)) (k := ?_)
    refine JD_qg (q_move) (k := ?_)
    refine JD_bool 95 rfl (fun hq15 => ?_) (fun hq15 => ?_)
    rotate_left
    · refine JD_skips 3 rfl ?_
      refine JD_qg (q_pickF) (k := ?_)
      refine JD_qg (q_not) (k := ?_)
      refine JD_q (q_pickT) (k := ?_)
      refine JD_q (q_assign) (k := ?_)
      refine JD_nil ?_
      refine JL_nil ?_
      refine JX_seq ?_
      refine J_ret ?_
      refine JX_ret Tryd.results9 (Res.tmp rfl Res.nil) (fun w1 hw1 => ?_)
      exact ⟨(by rw [((((((((((((hF.neg hq1).neg hq4).t hq7).pos hq8).pos hq9).pos hq10).t hq11).t hq12).t hq13).t hq14).f hq15)).eq] <;> rfl), hw1.ext_out⟩
    refine JD_qg (q_loadA Tryd.isAgg23 Tryd.sizeOf23) (k := ?_)
    refine JD_qg (q_move) (k := ?_)
    refine JD_vg (args := [(Value.agg [(Value.int .i64 (((aOf ((aEnds p).2.1) (p.bits + 1)).1.addr))), (Value.int .i64 (((aOf ((aEnds p).2.1) (p.bits + 1)).1.bits)))].toArray), (Value.int .i64 (a))]) (c_callA Tryd.call12) (fun w1 hw1 => aHas_ok w1 (p := (aOf ((aEnds p).2.1) (p.bits + 1)).1) (a := a)) (k := ?_)
    refine JD_qg (q_pickT) (k := ?_)
    refine JD_qg (q_not) (k := ?_)
    refine JD_q (q_pickT) (k := ?_)
    refine JD_q (q_assign) (k := ?_)
    refine JD_nil ?_
    refine JL_nil ?_
    refine JX_seq ?_
    refine J_ret ?_
    refine JX_ret Tryd.results9 (Res.tmp rfl Res.nil) (fun w1 hw1 => ?_)
    exact ⟨(by rw [((((((((((((hF.neg hq1).neg hq4).t hq7).pos hq8).pos hq9).pos hq10).t hq11).t hq12).t hq13).t hq14).t hq15)).eq] <;> rfl), hw1.ext_out⟩
  refine JD_qg (q_loadA Tryd.isAgg23 Tryd.sizeOf23) (k := ?_)
  refine JD_qg (q_move) (k := ?_)
  refine JD_vg (args := [(Value.agg [(Value.int .i64 (((aOf ((aEnds p).2.1) (p.bits + 1)).1.addr))), (Value.int .i64 (((aOf ((aEnds p).2.1) (p.bits + 1)).1.bits)))].toArray), (Value.int .i64 (a))]) (c_callA Tryd.call12) (fun w1 hw1 => aHas_ok w1 (p := (aOf ((aEnds p).2.1) (p.bits + 1)).1) (a := a)) (k := ?_)
  refine JD_qg (q_pickF) (k := ?_)
  refine JD_qg (q_eqlB Tryd.runUnderlying4) (k := ?_)
  refine JD_q (q_pickT) (k := ?_)
  refine JD_q (q_move) (k := ?_)
  refine JD_bool 91 rfl (fun hq16 => ?_) (fun hq16 => ?_)
  rotate_left
  · refine JD_skips 9 rfl ?_
    refine JD_q (q_pickF) (k := ?_)
    refine JD_q (q_assign) (k := ?_)
    refine JD_nil ?_
    refine JL_nil ?_
    refine JX_seq ?_
    refine J_ret ?_
    refine JX_ret Tryd.results9 (Res.tmp rfl Res.nil) (fun w1 hw1 => ?_)
    exact ⟨(by rw [(((((((((((hF.neg hq1).neg hq4).t hq7).pos hq8).pos hq9).pos hq10).t hq11).t hq12).f hq13).f hq16)).eq] <;> rfl), hw1.ext_out⟩
  refine JD_qg (q_loadA Tryd.isAgg23 Tryd.sizeOf23) (k := ?_)
  refine JD_qg (q_move) (k := ?_)
  refine JD_vg (args := [(Value.agg [(Value.int .i64 (((aOf ((aEnds p).1) (p.bits + 1)).1.addr))), (Value.int .i64 (((aOf ((aEnds p).1) (p.bits + 1)).1.bits)))].toArray), (Value.int .i64 (a))]) (c_callA Tryd.call12) (fun w1 hw1 => aHas_ok w1 (p := (aOf ((aEnds p).1) (p.bits + 1)).1) (a := a)) (k := ?_)
  refine JD_qg (q_move) (k := ?_)
  refine JD_bool 95 rfl (fun hq17 => ?_) (fun hq17 => ?_)
  rotate_left
  · refine JD_skips 3 rfl ?_
    refine JD_qg (q_pickF) (k := ?_)
    refine JD_qg (q_not) (k := ?_)
    refine JD_q (q_pickT) (k := ?_)
    refine JD_q (q_assign) (k := ?_)
    refine JD_nil ?_
    refine JL_nil ?_
    refine JX_seq ?_
    refine J_ret ?_
    refine JX_ret Tryd.results9 (Res.tmp rfl Res.nil) (fun w1 hw1 => ?_)
    exact ⟨(by rw [((((((((((((hF.neg hq1).neg hq4).t hq7).pos hq8).pos hq9).pos hq10).t hq11).t hq12).f hq13).t hq16).f hq17)).eq] <;> rfl), hw1.ext_out⟩
  refine JD_qg (q_loadA Tryd.isAgg23 Tryd.sizeOf23) (k := ?_)
  refine JD_qg (q_move) (k := ?_)
  refine JD_vg (args := [(Value.agg [(Value.int .i64 (((aOf ((aEnds p).2.1) (p.bits + 1)).1.addr))), (Value.int .i64 (((aOf ((aEnds p).2.1) (p.bits + 1)).1.bits)))].toArray), (Value.int .i64 (a))]) (c_callA Tryd.call12) (fun w1 hw1 => aHas_ok w1 (p := (aOf ((aEnds p).2.1) (p.bits + 1)).1) (a := a)) (k := ?_)
  refine JD_qg (q_pickT) (k := ?_)
  refine JD_qg (q_not) (k := ?_)
  refine JD_q (q_pickT) (k := ?_)
  refine JD_q (q_assign) (k := ?_)
  refine JD_nil ?_
  refine JL_nil ?_
  refine JX_seq ?_
  refine J_ret ?_
  refine JX_ret Tryd.results9 (Res.tmp rfl Res.nil) (fun w1 hw1 => ?_)
  exact ⟨(by rw [((((((((((((hF.neg hq1).neg hq4).t hq7).pos hq8).pos hq9).pos hq10).t hq11).t hq12).f hq13).t hq16).t hq17)).eq] <;> rfl), hw1.ext_out⟩

theorem lAddrHas_ok (w : World) {p : Prefix} {q : Prefix} {a : Int} {bits : Int} (hG : Gl w) : Val Tryd.prog 7 [(Value.agg [(Value.int .i64 (p.addr)), (Value.int .i64 (p.bits))].toArray), (Value.agg [(Value.int .i64 (q.addr)), (Value.int .i64 (q.bits))].toArray), (Value.int .i64 (a)), (Value.int .i64 (bits))] w (Value.bool ((lAddrHas p q a bits))) := by
  have hF := Is.refl (lAddrHas p q a bits)
  refine enter Tryd.func7 Tryd.ntmps7 (h := ?_)
  refine J_seq ?_
  refine J_reg ?_
  refine JL_a noMk (a_box (l := [_, _])) (k := fun r1 hr1 => ?_)
  refine JL_a noMk (a_box (l := [_, _])) (k := fun r2 hr2 => ?_)
  refine JL_q (q_assign) (k := ?_)
  refine JL_nil ?_
  refine JX_seq ?_
  refine J_seq ?_
  refine J_reg ?_
  refine JL_v (args := []) (c_callA Tryd.call10) (fun w1 hw1 => aShown_ok w1 (hG := hG.ext hw1.ext_out)) (k := ?_)
  refine JL_q (q_assign) (k := ?_)
  refine JL_nil ?_
  refine JX_seq ?_
  refine J_seq ?_
  refine J_reg ?_
  refine JL_q (q_loadA Tryd.isAgg23 Tryd.sizeOf23) (k := ?_)
  refine JL_v (args := [(Value.agg [(Value.int .i64 (p.addr)), (Value.int .i64 (p.bits))].toArray)]) (c_callA Tryd.call11) (fun w1 hw1 => aEnds_ok w1 (p := p)) (k := ?_)
  have hen_55713 := aEnds_bd p
  refine JL_q (q_move) (k := ?_)
  refine JL_q (q_ext) (k := ?_)
  refine JL_q (q_ext) (k := ?_)
  refine JL_q (q_ext) (k := ?_)
  refine JL_q (q_assign) (k := ?_)
  refine JL_q (q_assign) (k := ?_)
  refine JL_q (q_assign) (k := ?_)
  refine JL_nil ?_
  refine JX_seq ?_
  refine J_seq ?_
  refine J_reg ?_
  refine JL_q (q_loadA Tryd.isAgg23 Tryd.sizeOf23) (k := ?_)
  refine JL_v (args := [(Value.agg [(Value.int .i64 (p.addr)), (Value.int .i64 (p.bits))].toArray)]) (c_callA Tryd.call25) (fun w1 hw1 => rEnds_ok w1 (p := p)) (k := ?_)
  refine JL_q (q_move) (k := ?_)
  refine JL_q (q_ext) (k := ?_)
  refine JL_q (q_ext) (k := ?_)
  refine JL_q (q_ext) (k := ?_)
  refine JL_q (q_assign) (k := ?_)
  refine JL_q (q_assign) (k := ?_)
  refine JL_q (q_assign) (k := ?_)
  refine JL_nil ?_
  refine JX_seq ?_
  refine J_seq ?_
  refine J_reg ?_
  refine JL_q (q_move) (k := ?_)
  refine JL_q (q_move) (k := ?_)
  refine JL_v (args := [(Value.int .i64 (a)), (Value.int .i64 (bits))]) (c_callA Tryd.call26) (fun w1 hw1 => aOf_ok w1 (a := a) (n_ := bits)) (k := ?_)
  refine JL_q (q_move) (k := ?_)
  refine JL_q (q_ext) (k := ?_)
  refine JL_q (q_ext) (k := ?_)
  refine JL_a noMk (a_alloc (l := [_, _]) Tryd.zeroValue23) (k := fun r3 hr3 => ?_)
  refine JL_s (w_store (l' := [_, _]) Tryd.sizeOf23) (k := ?_)
  refine JL_q (q_assign) (k := ?_)
  refine JL_nil ?_
  refine JX_seq ?_
  refine J_seq ?_
  refine J_reg ?_
  refine JL_q (q_move) (k := ?_)
  refine JL_q (q_move) (k := ?_)
  refine JL_v (args := [(Value.int .i64 (a)), (Value.int .i64 (bits))]) (c_callA Tryd.call27) (fun w1 hw1 => rOf_ok w1 (a := a) (bits := bits)) (k := ?_)
  refine JL_q (q_move) (k := ?_)
  refine JL_q (q_ext) (k := ?_)
  refine JL_q (q_ext) (k := ?_)
  refine JL_a noMk (a_alloc (l := [_, _]) Tryd.zeroValue23) (k := fun r4 hr4 => ?_)
  refine JL_s (w_store (l' := [_, _]) Tryd.sizeOf23) (k := ?_)
  refine JL_q (q_assign) (k := ?_)
  refine JL_nil ?_
  refine JX_seq ?_
  refine J_seq ?_
  refine J_plan mixed 45 [(true, 0), (true, 1), (true, 2), (true, 3), (true, 5), (true, 6), (false, 4), (false, 7), (true, 8), (true, 9), (true, 10), (true, 11), (true, 12), (true, 14), (true, 15), (false, 13), (false, 16), (true, 17), (true, 18), (true, 19), (true, 20), (true, 21), (true, 22), (true, 23), (true, 24), (true, 25), (true, 26), (true, 27), (true, 28), (true, 29), (true, 30), (true, 31), (true, 32), (true, 33), (true, 34), (true, 35), (true, 36), (true, 37), (true, 38), (true, 39), (true, 40), (true, 41), (true, 42), (true, 43), (true, 44)] (by kernel_rfl) ?_
  refine JD_q (q_move) (k := ?_)
  refine JD_q (q_move) (k := ?_)
  refine JD_bool 46 rfl (fun hq1 => ?_) (fun hq1 => ?_)
  rotate_left
  · refine JD_skips 7 rfl ?_
    refine JD_q (q_pickF) (k := ?_)
    refine JD_q (q_move) (k := ?_)
    refine JD_skips 7 rfl ?_
    refine JD_q (q_pickF) (k := ?_)
    refine JD_q (q_move) (k := ?_)
    refine JD_skips 3 rfl ?_
    refine JD_q (q_pickF) (k := ?_)
    refine JD_q (q_move) (k := ?_)
    refine JD_skips 3 rfl ?_
    refine JD_q (q_pickF) (k := ?_)
    refine JD_q (q_move) (k := ?_)
    refine JD_skips 3 rfl ?_
    refine JD_q (q_pickF) (k := ?_)
    refine JD_q (q_move) (k := ?_)
    refine JD_skips 3 rfl ?_
    refine JD_q (q_pickF) (k := ?_)
    refine JD_q (q_move) (k := ?_)
    refine JD_skips 3 rfl ?_
    refine JD_q (q_pickF) (k := ?_)
    refine JD_q (q_assign) (k := ?_)
    refine JD_nil ?_
    refine JL_nil ?_
    refine JX_seq ?_
    refine J_ret ?_
    refine JX_ret Tryd.results7 (Res.tmp rfl Res.nil) (fun w1 hw1 => ?_)
    exact ⟨(by rw [((hF.f hq1)).eq] <;> rfl), hw1.ext_out⟩
  refine JD_qg (q_loadA Tryd.isAgg23 Tryd.sizeOf23) (k := ?_)
  refine JD_qg (q_move) (k := ?_)
  refine JD_qg (q_loadA Tryd.isAgg23 Tryd.sizeOf23) (k := ?_)
  refine JD_qg (q_move) (k := ?_)
  refine JD_vg (args := [(Value.agg [(Value.int .i64 (p.addr)), (Value.int .i64 (p.bits))].toArray), (Value.int .i64 (a))]) (c_callA Tryd.call12) (fun w1 hw1 => aHas_ok w1 (p := p) (a := a)) (k := ?_)
  refine JD_vg (args := [(Value.agg [(Value.int .i64 (p.addr)), (Value.int .i64 (p.bits))].toArray), (Value.int .i64 (a))]) (c_callA Tryd.call28) (fun w1 hw1 => rHas_ok w1 (p := p) (a := a)) (k := ?_)
  refine JD_qg (q_eqlB Tryd.runUnderlying4) (k := ?_)
  refine JD_q (q_pickT) (k := ?_)
  refine JD_q (q_move) (k := ?_)
  refine JD_bool 55 rfl (fun hq2 => ?_) (fun hq2 => ?_)
  rotate_left
  · refine JD_skips 7 rfl ?_
    refine JD_q (q_pickF) (k := ?_)
    refine JD_q (q_move) (k := ?_)
    refine JD_skips 3 rfl ?_
    refine JD_q (q_pickF) (k := ?_)
    refine JD_q (q_move) (k := ?_)
    refine JD_skips 3 rfl ?_
    refine JD_q (q_pickF) (k := ?_)
    refine JD_q (q_move) (k := ?_)
    refine JD_skips 3 rfl ?_
    refine JD_q (q_pickF) (k := ?_)
    refine JD_q (q_move) (k := ?_)
    refine JD_skips 3 rfl ?_
    refine JD_q (q_pickF) (k := ?_)
    refine JD_q (q_move) (k := ?_)
    refine JD_skips 3 rfl ?_
    refine JD_q (q_pickF) (k := ?_)
    refine JD_q (q_assign) (k := ?_)
    refine JD_nil ?_
    refine JL_nil ?_
    refine JX_seq ?_
    refine J_ret ?_
    refine JX_ret Tryd.results7 (Res.tmp rfl Res.nil) (fun w1 hw1 => ?_)
    exact ⟨(by rw [(((hF.t hq1).f hq2)).eq] <;> rfl), hw1.ext_out⟩
  refine JD_qg (q_loadA Tryd.isAgg23 Tryd.sizeOf23) (k := ?_)
  refine JD_qg (q_loadA Tryd.isAgg23 Tryd.sizeOf23) (k := ?_)
  refine JD_qg (q_loadA Tryd.isAgg23 Tryd.sizeOf23) (k := ?_)
  refine JD_qg (q_loadA Tryd.isAgg23 Tryd.sizeOf23) (k := ?_)
  refine JD_vg (args := [(Value.agg [(Value.int .i64 (p.addr)), (Value.int .i64 (p.bits))].toArray), (Value.agg [(Value.int .i64 (q.addr)), (Value.int .i64 (q.bits))].toArray)]) (c_callA Tryd.call14) (fun w1 hw1 => aIn_ok w1 (p := p) (q := q)) (k := ?_)
  refine JD_vg (args := [(Value.agg [(Value.int .i64 (p.addr)), (Value.int .i64 (p.bits))].toArray), (Value.agg [(Value.int .i64 (q.addr)), (Value.int .i64 (q.bits))].toArray)]) (c_callA Tryd.call29) (fun w1 hw1 => rIn_ok w1 (p := p) (q := q)) (k := ?_)
  refine JD_qg (q_eqlB Tryd.runUnderlying4) (k := ?_)
  refine JD_q (q_pickT) (k := ?_)
  refine JD_q (q_move) (k := ?_)
  refine JD_bool 64 rfl (fun hq3 => ?_) (fun hq3 => ?_)
  rotate_left
  · refine JD_skips 3 rfl ?_
    refine JD_q (q_pickF) (k := ?_)
    refine JD_q (q_move) (k := ?_)
    refine JD_skips 3 rfl ?_
    refine JD_q (q_pickF) (k := ?_)
    refine JD_q (q_move) (k := ?_)
    refine JD_skips 3 rfl ?_
    refine JD_q (q_pickF) (k := ?_)
    refine JD_q (q_move) (k := ?_)
    refine JD_skips 3 rfl ?_
    refine JD_q (q_pickF) (k := ?_)
    refine JD_q (q_move) (k := ?_)
    refine JD_skips 3 rfl ?_
    refine JD_q (q_pickF) (k := ?_)
    refine JD_q (q_assign) (k := ?_)
    refine JD_nil ?_
    refine JL_nil ?_
    refine JX_seq ?_
    refine J_ret ?_
    refine JX_ret Tryd.results7 (Res.tmp rfl Res.nil) (fun w1 hw1 => ?_)
    exact ⟨(by rw [((((hF.t hq1).t hq2).f hq3)).eq] <;> rfl), hw1.ext_out⟩
  refine JD_qg (q_move) (k := ?_)
  refine JD_qg (q_move) (k := ?_)
  refine JD_qg (q_eql) (k := ?_)
  refine JD_q (q_pickT) (k := ?_)
  refine JD_q (q_move) (k := ?_)
  refine JD_dec 69 rfl (fun hq4 => ?_) (fun hq4 => ?_)
  rotate_left
  · refine JD_skips 3 rfl ?_
    refine JD_q (q_pickF) (k := ?_)
    refine JD_q (q_move) (k := ?_)
    refine JD_skips 3 rfl ?_
    refine JD_q (q_pickF) (k := ?_)
    refine JD_q (q_move) (k := ?_)
    refine JD_skips 3 rfl ?_
    refine JD_q (q_pickF) (k := ?_)
    refine JD_q (q_move) (k := ?_)
    refine JD_skips 3 rfl ?_
    refine JD_q (q_pickF) (k := ?_)
    refine JD_q (q_assign) (k := ?_)
    refine JD_nil ?_
    refine JL_nil ?_
    refine JX_seq ?_
    refine J_ret ?_
    refine JX_ret Tryd.results7 (Res.tmp rfl Res.nil) (fun w1 hw1 => ?_)
    exact ⟨(by rw [(((((hF.t hq1).t hq2).t hq3).neg hq4)).eq] <;> rfl), hw1.ext_out⟩
  refine JD_qg (q_move) (k := ?_)
  refine JD_qg (q_move) (k := ?_)
  refine JD_qg (q_eql) (k := ?_)
  refine JD_q (q_pickT) (k := ?_)
  refine JD_q (q_move) (k := ?_)
  refine JD_dec 74 rfl (fun hq5 => ?_) (fun hq5 => ?_)
  rotate_left
  · refine JD_skips 3 rfl ?_
    refine JD_q (q_pickF) (k := ?_)
    refine JD_q (q_move) (k := ?_)
    refine JD_skips 3 rfl ?_
    refine JD_q (q_pickF) (k := ?_)
    refine JD_q (q_move) (k := ?_)
    refine JD_skips 3 rfl ?_
    refine JD_q (q_pickF) (k := ?_)
    refine JD_q (q_assign) (k := ?_)
    refine JD_nil ?_
    refine JL_nil ?_
    refine JX_seq ?_
    refine J_ret ?_
    refine JX_ret Tryd.results7 (Res.tmp rfl Res.nil) (fun w1 hw1 => ?_)
    exact ⟨(by rw [((((((hF.t hq1).t hq2).t hq3).pos hq4).neg hq5)).eq] <;> rfl), hw1.ext_out⟩
  refine JD_qg (q_move) (k := ?_)
  refine JD_qg (q_move) (k := ?_)
  refine JD_qg (q_eql) (k := ?_)
  refine JD_q (q_pickT) (k := ?_)
  refine JD_q (q_move) (k := ?_)
  refine JD_dec 79 rfl (fun hq6 => ?_) (fun hq6 => ?_)
  rotate_left
  · refine JD_skips 3 rfl ?_
    refine JD_q (q_pickF) (k := ?_)
    refine JD_q (q_move) (k := ?_)
    refine JD_skips 3 rfl ?_
    refine JD_q (q_pickF) (k := ?_)
    refine JD_q (q_assign) (k := ?_)
    refine JD_nil ?_
    refine JL_nil ?_
    refine JX_seq ?_
    refine J_ret ?_
    refine JX_ret Tryd.results7 (Res.tmp rfl Res.nil) (fun w1 hw1 => ?_)
    exact ⟨(by rw [(((((((hF.t hq1).t hq2).t hq3).pos hq4).pos hq5).neg hq6)).eq] <;> rfl), hw1.ext_out⟩
  refine JD_qg (q_loadA Tryd.isAgg23 Tryd.sizeOf23) (k := ?_)
  refine JD_qg (q_loadA Tryd.isAgg23 Tryd.sizeOf23) (k := ?_)
  refine JD_qg (q_eqS (EQ_23 _ _ _ _ _ _)) (k := ?_)
  refine JD_q (q_pickT) (k := ?_)
  refine JD_q (q_move) (k := ?_)
  refine JD_dec 84 rfl (fun hq7 => ?_) (fun hq7 => ?_)
  rotate_left
  · refine JD_skips 3 rfl ?_
    refine JD_q (q_pickF) (k := ?_)
    refine JD_q (q_assign) (k := ?_)
    refine JD_nil ?_
    refine JL_nil ?_
    refine JX_seq ?_
    refine J_ret ?_
    refine JX_ret Tryd.results7 (Res.tmp rfl Res.nil) (fun w1 hw1 => ?_)
    exact ⟨(by rw [((((((((hF.t hq1).t hq2).t hq3).pos hq4).pos hq5).pos hq6).neg hq7)).eq] <;> rfl), hw1.ext_out⟩
  refine JD_qg (q_move) (k := ?_)
  refine JD_qg (q_move) (k := ?_)
  refine JD_qg (q_eql) (k := ?_)
  refine JD_q (q_pickT) (k := ?_)
  refine JD_q (q_assign) (k := ?_)
  refine JD_nil ?_
  refine JL_nil ?_
  refine JX_seq ?_
  refine J_ret ?_
  refine JX_ret Tryd.results7 (Res.tmp rfl Res.nil) (fun w1 hw1 => ?_)
  exact ⟨(by rw [((((((((hF.t hq1).t hq2).t hq3).pos hq4).pos hq5).pos hq6).pos hq7)).eq] <;> rfl), hw1.ext_out⟩

theorem lAddrTexts_ok (w : World) {a : Int} {p : Prefix} {s : Str} (hG : Gl w) : Val Tryd.prog 5 [(Value.int .i64 (a)), (Value.agg [(Value.int .i64 (p.addr)), (Value.int .i64 (p.bits))].toArray), (Value.string (bs s))] w (Value.bool ((lAddrTexts a p s))) := by
  have hF := Is.refl (lAddrTexts a p s)
  refine enter Tryd.func5 Tryd.ntmps5 (h := ?_)
  refine J_seq ?_
  refine J_reg ?_
  refine JL_a noMk (a_box (l := [_, _])) (k := fun r1 hr1 => ?_)
  refine JL_q (q_assign) (k := ?_)
  refine JL_nil ?_
  refine JX_seq ?_
  refine J_seq ?_
  refine J_reg ?_
  refine JL_v (args := []) (c_callA Tryd.call10) (fun w1 hw1 => aShown_ok w1 (hG := hG.ext hw1.ext_out)) (k := ?_)
  refine JL_q (q_assign) (k := ?_)
  refine JL_nil ?_
  refine JX_seq ?_
  refine J_seq ?_
  refine J_reg ?_
  refine JL_q (q_move) (k := ?_)
  refine JL_v (args := [(Value.string (bs s))]) (c_callA Tryd.call15) (fun w1 hw1 => aCut_ok w1 (s := s)) (k := ?_)
  have hcu_18836 := aCut_len s
  refine JL_q (q_assign) (k := ?_)
  refine JL_nil ?_
  refine JX_seq ?_
  refine J_seq ?_
  refine J_reg ?_
  refine JL_q (q_move) (k := ?_)
  refine JL_v (args := [(Value.int .i64 (a))]) (c_callA Tryd.call16) (fun w1 hw1 => aPrint_ok w1 (a := a) (hG := hG.ext hw1.ext_out)) (k := ?_)
  have hpl_55907 := aPrint_len a
  refine JL_q (q_move) (k := ?_)
  refine JL_q (q_ext) (k := ?_)
  refine JL_q (q_ext) (k := ?_)
  refine JL_q (q_assign) (k := ?_)
  refine JL_q (q_assign) (k := ?_)
  refine JL_nil ?_
  refine JX_seq ?_
  refine J_seq ?_
  refine J_reg ?_
  refine JL_q (q_move) (k := ?_)
  refine JL_v (args := [(Value.int .i64 (a))]) (c_callA Tryd.call17) (fun w1 hw1 => rPrint_ok w1 (a := a)) (k := ?_)
  have hpl_55907 := rPrint_len a
  refine JL_q (q_move) (k := ?_)
  refine JL_q (q_ext) (k := ?_)
  refine JL_q (q_ext) (k := ?_)
  refine JL_q (q_assign) (k := ?_)
  refine JL_q (q_assign) (k := ?_)
  refine JL_nil ?_
  refine JX_seq ?_
  refine J_seq ?_
  refine J_reg ?_
  refine JL_q (q_move) (k := ?_)
  refine JL_v (args := [(Value.string (bs (aCut s)))]) (c_callA Tryd.call18) (fun w1 hw1 => aParse_ok w1 (s := (aCut s)) (n_s := by first | omega | (simp only [List.length_append, List.length_take, List.length_drop, List.length_set, List.length_replicate, List.length_cons, List.length_nil, List.length_map]; omega) | (simp only [List.length_append, List.length_take, List.length_drop, List.length_set, List.length_replicate, List.length_cons, List.length_nil, List.length_map] at *; omega) | decide) (hG := hG.ext hw1.ext_out)) (k := ?_)
  refine JL_q (q_move) (k := ?_)
  refine JL_q (q_ext) (k := ?_)
  refine JL_q (q_ext) (k := ?_)
  refine JL_q (q_assign) (k := ?_)
  refine JL_q (q_assign) (k := ?_)
  refine JL_nil ?_
  refine JX_seq ?_
  refine J_seq ?_
  refine J_reg ?_
  refine JL_q (q_move) (k := ?_)
  refine JL_v (args := [(Value.string (bs (aCut s)))]) (c_callA Tryd.call19) (fun w1 hw1 => rParse_ok w1 (s := (aCut s)) (n_s := by first | omega | (simp only [List.length_append, List.length_take, List.length_drop, List.length_set, List.length_replicate, List.length_cons, List.length_nil, List.length_map]; omega) | (simp only [List.length_append, List.length_take, List.length_drop, List.length_set, List.length_replicate, List.length_cons, List.length_nil, List.length_map] at *; omega) | decide)) (k := ?_)
  refine JL_q (q_move) (k := ?_)
  refine JL_q (q_ext) (k := ?_)
  refine JL_q (q_ext) (k := ?_)
  refine JL_q (q_assign) (k := ?_)
  refine JL_q (q_assign) (k := ?_)
  refine JL_nil ?_
  refine JX_seq ?_
  refine J_seq ?_
  refine J_reg ?_
  refine JL_q (q_loadA Tryd.isAgg23 Tryd.sizeOf23) (k := ?_)
  refine JL_v (args := [(Value.agg [(Value.int .i64 (p.addr)), (Value.int .i64 (p.bits))].toArray)]) (c_callA Tryd.call20) (fun w1 hw1 => aPrintPrefix_ok w1 (p := p) (hG := hG.ext hw1.ext_out)) (k := ?_)
  have hpp_51920 := aPrintPrefix_len p
  refine JL_q (q_move) (k := ?_)
  refine JL_q (q_ext) (k := ?_)
  refine JL_q (q_ext) (k := ?_)
  refine JL_q (q_assign) (k := ?_)
  refine JL_q (q_assign) (k := ?_)
  refine JL_nil ?_
  refine JX_seq ?_
  refine J_seq ?_
  refine J_reg ?_
  refine JL_q (q_loadA Tryd.isAgg23 Tryd.sizeOf23) (k := ?_)
  refine JL_v (args := [(Value.agg [(Value.int .i64 (p.addr)), (Value.int .i64 (p.bits))].toArray)]) (c_callA Tryd.call21) (fun w1 hw1 => rPrintPrefix_ok w1 (p := p)) (k := ?_)
  refine JL_q (q_move) (k := ?_)
  refine JL_q (q_ext) (k := ?_)
  refine JL_q (q_ext) (k := ?_)
  refine JL_q (q_assign) (k := ?_)
  refine JL_q (q_assign) (k := ?_)
  refine JL_nil ?_
  refine JX_seq ?_
  refine J_seq ?_
  refine J_reg ?_
  refine JL_q (q_move) (k := ?_)
  refine JL_v (args := [(Value.string (bs (aCut s)))]) (c_callA Tryd.call22) (fun w1 hw1 => aParsePrefix_ok w1 (s := (aCut s)) (n_s := by first | omega | (simp only [List.length_append, List.length_take, List.length_drop, List.length_set, List.length_replicate, List.length_cons, List.length_nil, List.length_map]; omega) | (simp only [List.length_append, List.length_take, List.length_drop, List.length_set, List.length_replicate, List.length_cons, List.length_nil, List.length_map] at *; omega) | decide) (hG := hG.ext hw1.ext_out)) (k := ?_)
  refine JL_q (q_move) (k := ?_)
  refine JL_q (q_ext) (k := ?_)
  refine JL_q (q_ext) (k := ?_)
  refine JL_a noMk (a_alloc (l := [_, _]) Tryd.zeroValue23) (k := fun r2 hr2 => ?_)
  refine JL_s (w_store (l' := [_, _]) Tryd.sizeOf23) (k := ?_)
  refine JL_q (q_assign) (k := ?_)
  refine JL_nil ?_
  refine JX_seq ?_
  refine J_seq ?_
  refine J_reg ?_
  refine JL_q (q_move) (k := ?_)
  refine JL_v (args := [(Value.string (bs (aCut s)))]) (c_callA Tryd.call23) (fun w1 hw1 => rParsePrefix_ok w1 (s := (aCut s)) (n_s := by first | omega | (simp only [List.length_append, List.length_take, List.length_drop, List.length_set, List.length_replicate, List.length_cons, List.length_nil, List.length_map]; omega) | (simp only [List.length_append, List.length_take, List.length_drop, List.length_set, List.length_replicate, List.length_cons, List.length_nil, List.length_map] at *; omega) | decide)) (k := ?_)
  refine JL_q (q_move) (k := ?_)
  refine JL_q (q_ext) (k := ?_)
  refine JL_q (q_ext) (k := ?_)
  refine JL_a noMk (a_alloc (l := [_, _]) Tryd.zeroValue23) (k := fun r3 hr3 => ?_)
  refine JL_s (w_store (l' := [_, _]) Tryd.sizeOf23) (k := ?_)
  refine JL_q (q_assign) (k := ?_)
  refine JL_nil ?_
  refine JX_seq ?_
  refine J_seq ?_
  refine J_plan mixed 49 [(true, 0), (true, 1), (true, 2), (true, 3), (true, 4), (true, 5), (true, 6), (true, 7), (true, 8), (true, 9), (true, 10), (true, 11), (true, 12), (true, 13), (true, 14), (true, 15), (true, 16), (true, 17), (true, 18), (true, 19), (true, 20), (true, 21), (true, 22), (true, 23), (true, 24), (true, 25), (true, 26), (true, 27), (true, 28), (true, 29), (true, 30), (true, 31), (true, 32), (true, 33), (true, 34), (true, 35), (true, 36), (true, 37), (true, 38), (true, 39), (true, 40), (true, 41), (true, 42), (true, 44), (false, 43), (false, 45), (true, 46), (true, 47), (true, 48)] (by kernel_rfl) ?_
  refine JD_q (q_move) (k := ?_)
  refine JD_q (q_move) (k := ?_)
  refine JD_bool 68 rfl (fun hq1 => ?_) (fun hq1 => ?_)
  rotate_left
  · refine JD_skips 3 rfl ?_
    refine JD_q (q_pickF) (k := ?_)
    refine JD_q (q_move) (k := ?_)
    refine JD_skips 3 rfl ?_
    refine JD_q (q_pickF) (k := ?_)
    refine JD_q (q_move) (k := ?_)
    refine JD_skips 3 rfl ?_
    refine JD_q (q_pickF) (k := ?_)
    refine JD_q (q_move) (k := ?_)
    refine JD_skips 3 rfl ?_
    refine JD_q (q_pickF) (k := ?_)
    refine JD_q (q_move) (k := ?_)
    refine JD_skips 3 rfl ?_
    refine JD_q (q_pickF) (k := ?_)
    refine JD_q (q_move) (k := ?_)
    refine JD_skips 3 rfl ?_
    refine JD_q (q_pickF) (k := ?_)
    refine JD_q (q_move) (k := ?_)
    refine JD_skips 3 rfl ?_
    refine JD_q (q_pickF) (k := ?_)
    refine JD_q (q_move) (k := ?_)
    refine JD_skips 3 rfl ?_
    refine JD_q (q_pickF) (k := ?_)
    refine JD_q (q_move) (k := ?_)
    refine JD_skips 5 rfl ?_
    refine JD_q (q_pickF) (k := ?_)
    refine JD_q (q_assign) (k := ?_)
    refine JD_nil ?_
    refine JL_nil ?_
    refine JX_seq ?_
    refine J_ret ?_
    refine JX_ret Tryd.results5 (Res.tmp rfl Res.nil) (fun w1 hw1 => ?_)
    exact ⟨(by rw [((hF.f hq1)).eq] <;> rfl), hw1.ext_out⟩
  refine JD_qg (q_move) (k := ?_)
  refine JD_qg (q_move) (k := ?_)
  refine JD_qg (q_eqT) (k := ?_)
  refine JD_q (q_pickT) (k := ?_)
  refine JD_q (q_move) (k := ?_)
  refine JD_dec 73 rfl (fun hq2 => ?_) (fun hq2 => ?_)
  rotate_left
  · refine JD_skips 3 rfl ?_
    refine JD_q (q_pickF) (k := ?_)
    refine JD_q (q_move) (k := ?_)
    refine JD_skips 3 rfl ?_
    refine JD_q (q_pickF) (k := ?_)
    refine JD_q (q_move) (k := ?_)
    refine JD_skips 3 rfl ?_
    refine JD_q (q_pickF) (k := ?_)
    refine JD_q (q_move) (k := ?_)
    refine JD_skips 3 rfl ?_
    refine JD_q (q_pickF) (k := ?_)
    refine JD_q (q_move) (k := ?_)
    refine JD_skips 3 rfl ?_
    refine JD_q (q_pickF) (k := ?_)
    refine JD_q (q_move) (k := ?_)
    refine JD_skips 3 rfl ?_
    refine JD_q (q_pickF) (k := ?_)
    refine JD_q (q_move) (k := ?_)
    refine JD_skips 3 rfl ?_
    refine JD_q (q_pickF) (k := ?_)
    refine JD_q (q_move) (k := ?_)
    refine JD_skips 5 rfl ?_
    refine JD_q (q_pickF) (k := ?_)
    refine JD_q (q_assign) (k := ?_)
    refine JD_nil ?_
    refine JL_nil ?_
    refine JX_seq ?_
    refine J_ret ?_
    refine JX_ret Tryd.results5 (Res.tmp rfl Res.nil) (fun w1 hw1 => ?_)
    exact ⟨(by rw [(((hF.t hq1).neg hq2)).eq] <;> rfl), hw1.ext_out⟩
  refine JD_qg (q_move) (k := ?_)
  refine JD_qg (q_move) (k := ?_)
  refine JD_qg (q_eql) (k := ?_)
  refine JD_q (q_pickT) (k := ?_)
  refine JD_q (q_move) (k := ?_)
  refine JD_dec 78 rfl (fun hq3 => ?_) (fun hq3 => ?_)
  rotate_left
  · refine JD_skips 3 rfl ?_
    refine JD_q (q_pickF) (k := ?_)
    refine JD_q (q_move) (k := ?_)
    refine JD_skips 3 rfl ?_
    refine JD_q (q_pickF) (k := ?_)
    refine JD_q (q_move) (k := ?_)
    refine JD_skips 3 rfl ?_
    refine JD_q (q_pickF) (k := ?_)
    refine JD_q (q_move) (k := ?_)
    refine JD_skips 3 rfl ?_
    refine JD_q (q_pickF) (k := ?_)
    refine JD_q (q_move) (k := ?_)
    refine JD_skips 3 rfl ?_
    refine JD_q (q_pickF) (k := ?_)
    refine JD_q (q_move) (k := ?_)
    refine JD_skips 3 rfl ?_
    refine JD_q (q_pickF) (k := ?_)
    refine JD_q (q_move) (k := ?_)
    refine JD_skips 5 rfl ?_
    refine JD_q (q_pickF) (k := ?_)
    refine JD_q (q_assign) (k := ?_)
    refine JD_nil ?_
    refine JL_nil ?_
    refine JX_seq ?_
    refine J_ret ?_
    refine JX_ret Tryd.results5 (Res.tmp rfl Res.nil) (fun w1 hw1 => ?_)
    exact ⟨(by rw [((((hF.t hq1).pos hq2).neg hq3)).eq] <;> rfl), hw1.ext_out⟩
  refine JD_qg (q_move) (k := ?_)
  refine JD_qg (q_move) (k := ?_)
  refine JD_qg (q_eql) (k := ?_)
  refine JD_q (q_pickT) (k := ?_)
  refine JD_q (q_move) (k := ?_)
  refine JD_dec 83 rfl (fun hq4 => ?_) (fun hq4 => ?_)
  rotate_left
  · refine JD_skips 3 rfl ?_
    refine JD_q (q_pickF) (k := ?_)
    refine JD_q (q_move) (k := ?_)
    refine JD_skips 3 rfl ?_
    refine JD_q (q_pickF) (k := ?_)
    refine JD_q (q_move) (k := ?_)
    refine JD_skips 3 rfl ?_
    refine JD_q (q_pickF) (k := ?_)
    refine JD_q (q_move) (k := ?_)
    refine JD_skips 3 rfl ?_
    refine JD_q (q_pickF) (k := ?_)
    refine JD_q (q_move) (k := ?_)
    refine JD_skips 3 rfl ?_
    refine JD_q (q_pickF) (k := ?_)
    refine JD_q (q_move) (k := ?_)
    refine JD_skips 5 rfl ?_
    refine JD_q (q_pickF) (k := ?_)
    refine JD_q (q_assign) (k := ?_)
    refine JD_nil ?_
    refine JL_nil ?_
    refine JX_seq ?_
    refine J_ret ?_
    refine JX_ret Tryd.results5 (Res.tmp rfl Res.nil) (fun w1 hw1 => ?_)
    exact ⟨(by rw [(((((hF.t hq1).pos hq2).pos hq3).neg hq4)).eq] <;> rfl), hw1.ext_out⟩
  refine JD_qg (q_move) (k := ?_)
  refine JD_qg (q_move) (k := ?_)
  refine JD_qg (q_eql) (k := ?_)
  refine JD_q (q_pickT) (k := ?_)
  refine JD_q (q_move) (k := ?_)
  refine JD_dec 88 rfl (fun hq5 => ?_) (fun hq5 => ?_)
  rotate_left
  · refine JD_skips 3 rfl ?_
    refine JD_q (q_pickF) (k := ?_)
    refine JD_q (q_move) (k := ?_)
    refine JD_skips 3 rfl ?_
    refine JD_q (q_pickF) (k := ?_)
    refine JD_q (q_move) (k := ?_)
    refine JD_skips 3 rfl ?_
    refine JD_q (q_pickF) (k := ?_)
    refine JD_q (q_move) (k := ?_)
    refine JD_skips 3 rfl ?_
    refine JD_q (q_pickF) (k := ?_)
    refine JD_q (q_move) (k := ?_)
    refine JD_skips 5 rfl ?_
    refine JD_q (q_pickF) (k := ?_)
    refine JD_q (q_assign) (k := ?_)
    refine JD_nil ?_
    refine JL_nil ?_
    refine JX_seq ?_
    refine J_ret ?_
    refine JX_ret Tryd.results5 (Res.tmp rfl Res.nil) (fun w1 hw1 => ?_)
    exact ⟨(by rw [((((((hF.t hq1).pos hq2).pos hq3).pos hq4).neg hq5)).eq] <;> rfl), hw1.ext_out⟩
  refine JD_qg (q_move) (k := ?_)
  refine JD_qg (q_move) (k := ?_)
  refine JD_qg (q_eqT) (k := ?_)
  refine JD_q (q_pickT) (k := ?_)
  refine JD_q (q_move) (k := ?_)
  refine JD_dec 93 rfl (fun hq6 => ?_) (fun hq6 => ?_)
  rotate_left
  · refine JD_skips 3 rfl ?_
    refine JD_q (q_pickF) (k := ?_)
    refine JD_q (q_move) (k := ?_)
    refine JD_skips 3 rfl ?_
    refine JD_q (q_pickF) (k := ?_)
    refine JD_q (q_move) (k := ?_)
    refine JD_skips 3 rfl ?_
    refine JD_q (q_pickF) (k := ?_)
    refine JD_q (q_move) (k := ?_)
    refine JD_skips 5 rfl ?_
    refine JD_q (q_pickF) (k := ?_)
    refine JD_q (q_assign) (k := ?_)
    refine JD_nil ?_
    refine JL_nil ?_
    refine JX_seq ?_
    refine J_ret ?_
    refine JX_ret Tryd.results5 (Res.tmp rfl Res.nil) (fun w1 hw1 => ?_)
    exact ⟨(by rw [(((((((hF.t hq1).pos hq2).pos hq3).pos hq4).pos hq5).neg hq6)).eq] <;> rfl), hw1.ext_out⟩
  refine JD_qg (q_move) (k := ?_)
  refine JD_qg (q_move) (k := ?_)
  refine JD_qg (q_eql) (k := ?_)
  refine JD_q (q_pickT) (k := ?_)
  refine JD_q (q_move) (k := ?_)
  refine JD_dec 98 rfl (fun hq7 => ?_) (fun hq7 => ?_)
  rotate_left
  · refine JD_skips 3 rfl ?_
    refine JD_q (q_pickF) (k := ?_)
    refine JD_q (q_move) (k := ?_)
    refine JD_skips 3 rfl ?_
    refine JD_q (q_pickF) (k := ?_)
    refine JD_q (q_move) (k := ?_)
    refine JD_skips 5 rfl ?_
    refine JD_q (q_pickF) (k := ?_)
    refine JD_q (q_assign) (k := ?_)
    refine JD_nil ?_
    refine JL_nil ?_
    refine JX_seq ?_
    refine J_ret ?_
    refine JX_ret Tryd.results5 (Res.tmp rfl Res.nil) (fun w1 hw1 => ?_)
    exact ⟨(by rw [((((((((hF.t hq1).pos hq2).pos hq3).pos hq4).pos hq5).pos hq6).neg hq7)).eq] <;> rfl), hw1.ext_out⟩
  refine JD_qg (q_loadA Tryd.isAgg23 Tryd.sizeOf23) (k := ?_)
  refine JD_qg (q_loadA Tryd.isAgg23 Tryd.sizeOf23) (k := ?_)
  refine JD_qg (q_eqS (EQ_23 _ _ _ _ _ _)) (k := ?_)
  refine JD_q (q_pickT) (k := ?_)
  refine JD_q (q_move) (k := ?_)
  refine JD_dec 103 rfl (fun hq8 => ?_) (fun hq8 => ?_)
  rotate_left
  · refine JD_skips 3 rfl ?_
    refine JD_q (q_pickF) (k := ?_)
    refine JD_q (q_move) (k := ?_)
    refine JD_skips 5 rfl ?_
    refine JD_q (q_pickF) (k := ?_)
    refine JD_q (q_assign) (k := ?_)
    refine JD_nil ?_
    refine JL_nil ?_
    refine JX_seq ?_
    refine J_ret ?_
    refine JX_ret Tryd.results5 (Res.tmp rfl Res.nil) (fun w1 hw1 => ?_)
    exact ⟨(by rw [(((((((((hF.t hq1).pos hq2).pos hq3).pos hq4).pos hq5).pos hq6).pos hq7).neg hq8)).eq] <;> rfl), hw1.ext_out⟩
  refine JD_qg (q_move) (k := ?_)
  refine JD_qg (q_move) (k := ?_)
  refine JD_qg (q_eql) (k := ?_)
  refine JD_q (q_pickT) (k := ?_)
  refine JD_q (q_move) (k := ?_)
  refine JD_dec 108 rfl (fun hq9 => ?_) (fun hq9 => ?_)
  rotate_left
  · refine JD_skips 5 rfl ?_
    refine JD_q (q_pickF) (k := ?_)
    refine JD_q (q_assign) (k := ?_)
    refine JD_nil ?_
    refine JL_nil ?_
    refine JX_seq ?_
    refine J_ret ?_
    refine JX_ret Tryd.results5 (Res.tmp rfl Res.nil) (fun w1 hw1 => ?_)
    exact ⟨(by rw [((((((((((hF.t hq1).pos hq2).pos hq3).pos hq4).pos hq5).pos hq6).pos hq7).pos hq8).neg hq9)).eq] <;> rfl), hw1.ext_out⟩
  refine JD_qg (q_loadA Tryd.isAgg23 Tryd.sizeOf23) (k := ?_)
  refine JD_qg (q_loadA Tryd.isAgg23 Tryd.sizeOf23) (k := ?_)
  refine JD_vg (args := [(Value.agg [(Value.int .i64 (p.addr)), (Value.int .i64 (p.bits))].toArray)]) (c_callA Tryd.call13) (fun w1 hw1 => aRight_ok w1 (p := p)) (k := ?_)
  refine JD_vg (args := [(Value.agg [(Value.int .i64 (p.addr)), (Value.int .i64 (p.bits))].toArray)]) (c_callA Tryd.call24) (fun w1 hw1 => rRight_ok w1 (p := p)) (k := ?_)
  refine JD_qg (q_eqlB Tryd.runUnderlying4) (k := ?_)
  refine JD_q (q_pickT) (k := ?_)
  refine JD_q (q_assign) (k := ?_)
  refine JD_nil ?_
  refine JL_nil ?_
  refine JX_seq ?_
  refine J_ret ?_
  refine JX_ret Tryd.results5 (Res.tmp rfl Res.nil) (fun w1 hw1 => ?_)
  exact ⟨(by rw [((((((((((hF.t hq1).pos hq2).pos hq3).pos hq4).pos hq5).pos hq6).pos hq7).pos hq8).pos hq9)).eq] <;> rfl), hw1.ext_out⟩

theorem lAddrBack_ok (w : World) {a : Int} {p : Prefix} {s : Str} (hG : Gl w) : Val Tryd.prog 6 [(Value.int .i64 (a)), (Value.agg [(Value.int .i64 (p.addr)), (Value.int .i64 (p.bits))].toArray), (Value.string (bs s))] w (Value.bool ((lAddrBack a p s))) := by
  have hF := Is.refl (lAddrBack a p s)
  refine enter Tryd.func6 Tryd.ntmps6 (h := ?_)
  refine J_seq ?_
  refine J_reg ?_
  refine JL_a noMk (a_box (l := [_, _])) (k := fun r1 hr1 => ?_)
  refine JL_q (q_assign) (k := ?_)
  refine JL_nil ?_
  refine JX_seq ?_
  refine J_seq ?_
  refine J_reg ?_
  refine JL_v (args := []) (c_callA Tryd.call10) (fun w1 hw1 => aShown_ok w1 (hG := hG.ext hw1.ext_out)) (k := ?_)
  refine JL_q (q_assign) (k := ?_)
  refine JL_nil ?_
  refine JX_seq ?_
  refine J_seq ?_
  refine J_reg ?_
  refine JL_q (q_move) (k := ?_)
  refine JL_v (args := [(Value.string (bs s))]) (c_callA Tryd.call15) (fun w1 hw1 => aCut_ok w1 (s := s)) (k := ?_)
  have hcu_18836 := aCut_len s
  refine JL_q (q_assign) (k := ?_)
  refine JL_nil ?_
  refine JX_seq ?_
  refine J_seq ?_
  refine J_reg ?_
  refine JL_q (q_move) (k := ?_)
  refine JL_v (args := [(Value.int .i64 (a))]) (c_callA Tryd.call16) (fun w1 hw1 => aPrint_ok w1 (a := a) (hG := hG.ext hw1.ext_out)) (k := ?_)
  have hpl_55907 := aPrint_len a
  refine JL_q (q_move) (k := ?_)
  refine JL_q (q_ext) (k := ?_)
  refine JL_q (q_ext) (k := ?_)
  refine JL_q (q_assign) (k := ?_)
  refine JL_q (q_assign) (k := ?_)
  refine JL_nil ?_
  refine JX_seq ?_
  refine J_seq ?_
  refine J_reg ?_
  refine JL_q (q_move) (k := ?_)
  refine JL_v (args := [(Value.string (bs ((aPrint a).1)))]) (c_callA Tryd.call18) (fun w1 hw1 => aParse_ok w1 (s := ((aPrint a).1)) (n_s := by first | omega | (simp only [List.length_append, List.length_take, List.length_drop, List.length_set, List.length_replicate, List.length_cons, List.length_nil, List.length_map]; omega) | (simp only [List.length_append, List.length_take, List.length_drop, List.length_set, List.length_replicate, List.length_cons, List.length_nil, List.length_map] at *; omega) | decide) (hG := hG.ext hw1.ext_out)) (k := ?_)
  refine JL_q (q_move) (k := ?_)
  refine JL_q (q_ext) (k := ?_)
  refine JL_q (q_ext) (k := ?_)
  refine JL_q (q_assign) (k := ?_)
  refine JL_q (q_assign) (k := ?_)
  refine JL_nil ?_
  refine JX_seq ?_
  refine J_seq ?_
  refine J_reg ?_
  refine JL_q (q_loadA Tryd.isAgg23 Tryd.sizeOf23) (k := ?_)
  refine JL_v (args := [(Value.agg [(Value.int .i64 (p.addr)), (Value.int .i64 (p.bits))].toArray)]) (c_callA Tryd.call20) (fun w1 hw1 => aPrintPrefix_ok w1 (p := p) (hG := hG.ext hw1.ext_out)) (k := ?_)
  have hpp_51920 := aPrintPrefix_len p
  refine JL_q (q_move) (k := ?_)
  refine JL_q (q_ext) (k := ?_)
  refine JL_q (q_ext) (k := ?_)
  refine JL_q (q_assign) (k := ?_)
  refine JL_q (q_assign) (k := ?_)
  refine JL_nil ?_
  refine JX_seq ?_
  refine J_seq ?_
  refine J_reg ?_
  refine JL_q (q_move) (k := ?_)
  refine JL_v (args := [(Value.string (bs ((aPrintPrefix p).1)))]) (c_callA Tryd.call22) (fun w1 hw1 => aParsePrefix_ok w1 (s := ((aPrintPrefix p).1)) (n_s := by first | omega | (simp only [List.length_append, List.length_take, List.length_drop, List.length_set, List.length_replicate, List.length_cons, List.length_nil, List.length_map]; omega) | (simp only [List.length_append, List.length_take, List.length_drop, List.length_set, List.length_replicate, List.length_cons, List.length_nil, List.length_map] at *; omega) | decide) (hG := hG.ext hw1.ext_out)) (k := ?_)
  refine JL_q (q_move) (k := ?_)
  refine JL_q (q_ext) (k := ?_)
  refine JL_q (q_ext) (k := ?_)
  refine JL_a noMk (a_alloc (l := [_, _]) Tryd.zeroValue23) (k := fun r2 hr2 => ?_)
  refine JL_s (w_store (l' := [_, _]) Tryd.sizeOf23) (k := ?_)
  refine JL_q (q_assign) (k := ?_)
  refine JL_nil ?_
  refine JX_seq ?_
  refine J_seq ?_
  refine J_seq ?_
  refine J_reg ?_
  refine JL_q (q_move) (k := ?_)
  refine JL_q (q_eql) (k := ?_)
  refine JL_q (q_move) (k := ?_)
  refine JL_dec 49 rfl (fun hq1 => ?_) (fun hq1 => ?_)
  rotate_left
  · refine JL_skips 7 rfl ?_
    refine JL_q (q_pickF) (k := ?_)
    refine JL_q (q_move) (k := ?_)
    refine JL_qg (q_move) (k := ?_)
    refine JL_qg (q_eql) (k := ?_)
    refine JL_qg (q_move) (k := ?_)
    refine JL_dec 61 rfl (fun hq39 => ?_) (fun hq39 => ?_)
    rotate_left
    · refine JL_skips 7 rfl ?_
      refine JL_qg (q_pickF) (k := ?_)
      refine JL_q (q_pickF) (k := ?_)
      refine JL_nil ?_
      refine JX_seq ?_
      refine J_false rfl ?_
      refine J_skip ?_
      refine JX_seq ?_
      refine J_seq ?_
      refine J_reg ?_
      refine JL_q (q_move) (k := ?_)
      refine JL_v (args := [(Value.string (bs (aCut s)))]) (c_callA Tryd.call18) (fun w1 hw1 => aParse_ok w1 (s := (aCut s)) (n_s := by first | omega | (simp only [List.length_append, List.length_take, List.length_drop, List.length_set, List.length_replicate, List.length_cons, List.length_nil, List.length_map]; omega) | (simp only [List.length_append, List.length_take, List.length_drop, List.length_set, List.length_replicate, List.length_cons, List.length_nil, List.length_map] at *; omega) | decide) (hG := hG.ext hw1.ext_out)) (k := ?_)
      refine JL_q (q_move) (k := ?_)
      refine JL_q (q_ext) (k := ?_)
      refine JL_q (q_ext) (k := ?_)
      refine JL_q (q_assign) (k := ?_)
      refine JL_q (q_assign) (k := ?_)
      refine JL_nil ?_
      refine JX_seq ?_
      refine J_seq ?_
      refine J_reg ?_
      refine JL_q (q_move) (k := ?_)
      refine JL_v (args := [(Value.int .i64 (((aParse (aCut s)).1)))]) (c_callA Tryd.call16) (fun w1 hw1 => aPrint_ok w1 (a := ((aParse (aCut s)).1)) (hG := hG.ext hw1.ext_out)) (k := ?_)
      have hpl_51896 := aPrint_len ((aParse (aCut s)).1)
      refine JL_q (q_move) (k := ?_)
      refine JL_q (q_ext) (k := ?_)
      refine JL_q (q_ext) (k := ?_)
      refine JL_q (q_assign) (k := ?_)
      refine JL_q (q_assign) (k := ?_)
      refine JL_nil ?_
      refine JX_seq ?_
      refine J_seq ?_
      refine J_reg ?_
      refine JL_q (q_move) (k := ?_)
      refine JL_v (args := [(Value.string (bs (aCut s)))]) (c_callA Tryd.call22) (fun w1 hw1 => aParsePrefix_ok w1 (s := (aCut s)) (n_s := by first | omega | (simp only [List.length_append, List.length_take, List.length_drop, List.length_set, List.length_replicate, List.length_cons, List.length_nil, List.length_map]; omega) | (simp only [List.length_append, List.length_take, List.length_drop, List.length_set, List.length_replicate, List.length_cons, List.length_nil, List.length_map] at *; omega) | decide) (hG := hG.ext hw1.ext_out)) (k := ?_)
      refine JL_q (q_move) (k := ?_)
      refine JL_q (q_ext) (k := ?_)
      refine JL_q (q_ext) (k := ?_)
      refine JL_a noMk (a_alloc (l := [_, _]) Tryd.zeroValue23) (k := fun r6 hr6 => ?_)
      refine JL_s (w_store (l' := [_, _]) Tryd.sizeOf23) (k := ?_)
      refine JL_q (q_assign) (k := ?_)
      refine JL_nil ?_
      refine JX_seq ?_
      refine J_seq ?_
      refine J_reg ?_
      refine JL_q (q_loadA Tryd.isAgg23 Tryd.sizeOf23) (k := ?_)
      refine JL_v (args := [(Value.agg [(Value.int .i64 (((aParsePrefix (aCut s)).1.addr))), (Value.int .i64 (((aParsePrefix (aCut s)).1.bits)))].toArray)]) (c_callA Tryd.call20) (fun w1 hw1 => aPrintPrefix_ok w1 (p := (aParsePrefix (aCut s)).1) (hG := hG.ext hw1.ext_out)) (k := ?_)
      have hpp_65843 := aPrintPrefix_len ((aParsePrefix (aCut s)).1)
      refine JL_q (q_move) (k := ?_)
      refine JL_q (q_ext) (k := ?_)
      refine JL_q (q_ext) (k := ?_)
      refine JL_q (q_assign) (k := ?_)
      refine JL_q (q_assign) (k := ?_)
      refine JL_nil ?_
      refine JX_seq ?_
      refine J_seq ?_
      refine J_reg ?_
      refine JL_q (q_move) (k := ?_)
      refine JL_q (q_move) (k := ?_)
      refine JL_bool 92 rfl (fun hq58 => ?_) (fun hq58 => ?_)
      rotate_left
      · refine JL_skips 5 rfl ?_
        refine JL_q (q_pickF) (k := ?_)
        refine JL_q (q_move) (k := ?_)
        refine JL_skips 19 rfl ?_
        refine JL_q (q_pickF) (k := ?_)
        refine JL_q (q_move) (k := ?_)
        refine JL_skips 11 rfl ?_
        refine JL_q (q_pickF) (k := ?_)
        refine JL_q (q_assign) (k := ?_)
        refine JL_nil ?_
        refine JX_seq ?_
        refine J_ret ?_
        refine JX_ret Tryd.results6 (Res.tmp rfl Res.nil) (fun w1 hw1 => ?_)
        exact ⟨(by rw [((((hF.neg hq1).neg hq39).f hq58)).eq] <;> rfl), hw1.ext_out⟩
      refine JL_qg (q_move) (k := ?_)
      refine JL_qg (q_eql) (k := ?_)
      refine JL_qg (q_loadA Tryd.isAgg23 Tryd.sizeOf23) (k := ?_)
      refine JL_vg (args := [(Value.agg [(Value.int .i64 (p.addr)), (Value.int .i64 (p.bits))].toArray)]) (c_callA Tryd.call13) (fun w1 hw1 => aRight_ok w1 (p := p)) (k := ?_)
      refine JL_qg (q_eqlB Tryd.runUnderlying4) (k := ?_)
      refine JL_q (q_pickT) (k := ?_)
      refine JL_q (q_move) (k := ?_)
      refine JL_bool 99 rfl (fun hq59 => ?_) (fun hq59 => ?_)
      rotate_left
      · refine JL_skips 19 rfl ?_
        refine JL_q (q_pickF) (k := ?_)
        refine JL_q (q_move) (k := ?_)
        refine JL_skips 11 rfl ?_
        refine JL_q (q_pickF) (k := ?_)
        refine JL_q (q_assign) (k := ?_)
        refine JL_nil ?_
        refine JX_seq ?_
        refine J_ret ?_
        refine JX_ret Tryd.results6 (Res.tmp rfl Res.nil) (fun w1 hw1 => ?_)
        exact ⟨(by rw [(((((hF.neg hq1).neg hq39).t hq58).f hq59)).eq] <;> rfl), hw1.ext_out⟩
      refine JL_qg (q_move) (k := ?_)
      refine JL_qg (q_neq) (k := ?_)
      refine JL_qg (q_move) (k := ?_)
      refine JL_dec 102 rfl (fun hq60 => ?_) (fun hq60 => ?_)
      rotate_left
      · refine JL_skips 2 rfl ?_
        refine JL_qg (q_pickF) (k := ?_)
        refine JL_qg (q_move) (k := ?_)
        refine JL_qg (q_move) (k := ?_)
        refine JL_qg (q_eql) (k := ?_)
        refine JL_qg (q_move) (k := ?_)
        refine JL_dec 109 rfl (fun hq69 => ?_) (fun hq69 => ?_)
        rotate_left
        · refine JL_skips 2 rfl ?_
          refine JL_qg (q_pickF) (k := ?_)
          refine JL_qg (q_move) (k := ?_)
          refine JL_skips 3 rfl ?_
          refine JL_qg (q_pickF) (k := ?_)
          refine JL_qg (q_pickF) (k := ?_)
          refine JL_q (q_pickT) (k := ?_)
          refine JL_q (q_move) (k := ?_)
          refine JL_skips 11 rfl ?_
          refine JL_q (q_pickF) (k := ?_)
          refine JL_q (q_assign) (k := ?_)
          refine JL_nil ?_
          refine JX_seq ?_
          refine J_ret ?_
          refine JX_ret Tryd.results6 (Res.tmp rfl Res.nil) (fun w1 hw1 => ?_)
          exact ⟨(by rw [(((((((hF.neg hq1).neg hq39).t hq58).t hq59).neg hq60).neg hq69)).eq] <;> rfl), hw1.ext_out⟩
        refine JL_qg (q_move) (k := ?_)
        refine JL_qg (q_eql) (k := ?_)
        refine JL_qg (q_pickT) (k := ?_)
        refine JL_qg (q_move) (k := ?_)
        refine JL_dec 113 rfl (fun hq70 => ?_) (fun hq70 => ?_)
        rotate_left
        · refine JL_skips 3 rfl ?_
          refine JL_qg (q_pickF) (k := ?_)
          refine JL_qg (q_pickF) (k := ?_)
          refine JL_q (q_pickT) (k := ?_)
          refine JL_q (q_move) (k := ?_)
          refine JL_skips 11 rfl ?_
          refine JL_q (q_pickF) (k := ?_)
          refine JL_q (q_assign) (k := ?_)
          refine JL_nil ?_
          refine JX_seq ?_
          refine J_ret ?_
          refine JX_ret Tryd.results6 (Res.tmp rfl Res.nil) (fun w1 hw1 => ?_)
          exact ⟨(by rw [((((((((hF.neg hq1).neg hq39).t hq58).t hq59).neg hq60).pos hq69).neg hq70)).eq] <;> rfl), hw1.ext_out⟩
        refine JL_qg (q_move) (k := ?_)
        refine JL_qg (q_move) (k := ?_)
        refine JL_qg (q_eqT) (k := ?_)
        refine JL_qg (q_pickT) (k := ?_)
        refine JL_qg (q_pickF) (k := ?_)
        refine JL_q (q_pickT) (k := ?_)
        refine JL_q (q_move) (k := ?_)
        refine JL_dec 120 rfl (fun hq71 => ?_) (fun hq71 => ?_)
        rotate_left
        · refine JL_skips 11 rfl ?_
          refine JL_q (q_pickF) (k := ?_)
          refine JL_q (q_assign) (k := ?_)
          refine JL_nil ?_
          refine JX_seq ?_
          refine J_ret ?_
          refine JX_ret Tryd.results6 (Res.tmp rfl Res.nil) (fun w1 hw1 => ?_)
          exact ⟨(by rw [(((((((((hF.neg hq1).neg hq39).t hq58).t hq59).neg hq60).pos hq69).pos hq70).neg hq71)).eq] <;> rfl), hw1.ext_out⟩
        refine JL_qg (q_move) (k := ?_)
        refine JL_qg (q_neq) (k := ?_)
        refine JL_qg (q_move) (k := ?_)
        refine JL_dec 123 rfl (fun hq72 => ?_) (fun hq72 => ?_)
        · refine JL_skips 7 rfl ?_
          refine JL_qg (q_pickT) (k := ?_)
          refine JL_q (q_pickT) (k := ?_)
          refine JL_q (q_assign) (k := ?_)
          refine JL_nil ?_
          refine JX_seq ?_
          refine J_ret ?_
          refine JX_ret Tryd.results6 (Res.tmp rfl Res.nil) (fun w1 hw1 => ?_)
          exact ⟨(by rw [((((((((((hF.neg hq1).neg hq39).t hq58).t hq59).neg hq60).pos hq69).pos hq70).pos hq71).pos hq72)).eq] <;> rfl), hw1.ext_out⟩
        refine JL_qg (q_move) (k := ?_)
        refine JL_qg (q_eql) (k := ?_)
        refine JL_qg (q_move) (k := ?_)
        refine JL_dec 126 rfl (fun hq73 => ?_) (fun hq73 => ?_)
        rotate_left
        · refine JL_skips 3 rfl ?_
          refine JL_qg (q_pickF) (k := ?_)
          refine JL_qg (q_pickF) (k := ?_)
          refine JL_q (q_pickT) (k := ?_)
          refine JL_q (q_assign) (k := ?_)
          refine JL_nil ?_
          refine JX_seq ?_
          refine J_ret ?_
          refine JX_ret Tryd.results6 (Res.tmp rfl Res.nil) (fun w1 hw1 => ?_)
          exact ⟨(by rw [(((((((((((hF.neg hq1).neg hq39).t hq58).t hq59).neg hq60).pos hq69).pos hq70).pos hq71).neg hq72).neg hq73)).eq] <;> rfl), hw1.ext_out⟩
        refine JL_qg (q_move) (k := ?_)
        refine JL_qg (q_move) (k := ?_)
        refine JL_qg (q_eqT) (k := ?_)
        refine JL_qg (q_pickT) (k := ?_)
        refine JL_qg (q_pickF) (k := ?_)
        refine JL_q (q_pickT) (k := ?_)
        refine JL_q (q_assign) (k := ?_)
        refine JL_nil ?_
        refine JX_seq ?_
        refine J_ret ?_
        refine JX_ret Tryd.results6 (Res.tmp rfl Res.nil) (fun w1 hw1 => ?_)
        exact ⟨(by rw [(((((((((((hF.neg hq1).neg hq39).t hq58).t hq59).neg hq60).pos hq69).pos hq70).pos hq71).neg hq72).pos hq73)).eq] <;> rfl), hw1.ext_out⟩
      refine JL_qg (q_move) (k := ?_)
      refine JL_qg (q_eql) (k := ?_)
      refine JL_qg (q_pickT) (k := ?_)
      refine JL_qg (q_move) (k := ?_)
      refine JL_dec 106 rfl (fun hq61 => ?_) (fun hq61 => ?_)
      · refine JL_skips 11 rfl ?_
        refine JL_qg (q_pickT) (k := ?_)
        refine JL_q (q_pickT) (k := ?_)
        refine JL_q (q_move) (k := ?_)
        refine JL_qg (q_move) (k := ?_)
        refine JL_qg (q_neq) (k := ?_)
        refine JL_qg (q_move) (k := ?_)
        refine JL_dec 123 rfl (fun hq62 => ?_) (fun hq62 => ?_)
        · refine JL_skips 7 rfl ?_
          refine JL_qg (q_pickT) (k := ?_)
          refine JL_q (q_pickT) (k := ?_)
          refine JL_q (q_assign) (k := ?_)
          refine JL_nil ?_
          refine JX_seq ?_
          refine J_ret ?_
          refine JX_ret Tryd.results6 (Res.tmp rfl Res.nil) (fun w1 hw1 => ?_)
          exact ⟨(by rw [((((((((hF.neg hq1).neg hq39).t hq58).t hq59).pos hq60).pos hq61).pos hq62)).eq] <;> rfl), hw1.ext_out⟩
        refine JL_qg (q_move) (k := ?_)
        refine JL_qg (q_eql) (k := ?_)
        refine JL_qg (q_move) (k := ?_)
        refine JL_dec 126 rfl (fun hq63 => ?_) (fun hq63 => ?_)
        rotate_left
        · refine JL_skips 3 rfl ?_
          refine JL_qg (q_pickF) (k := ?_)
          refine JL_qg (q_pickF) (k := ?_)
          refine JL_q (q_pickT) (k := ?_)
          refine JL_q (q_assign) (k := ?_)
          refine JL_nil ?_
          refine JX_seq ?_
          refine J_ret ?_
          refine JX_ret Tryd.results6 (Res.tmp rfl Res.nil) (fun w1 hw1 => ?_)
          exact ⟨(by rw [(((((((((hF.neg hq1).neg hq39).t hq58).t hq59).pos hq60).pos hq61).neg hq62).neg hq63)).eq] <;> rfl), hw1.ext_out⟩
        refine JL_qg (q_move) (k := ?_)
        refine JL_qg (q_move) (k := ?_)
        refine JL_qg (q_eqT) (k := ?_)
        refine JL_qg (q_pickT) (k := ?_)
        refine JL_qg (q_pickF) (k := ?_)
        refine JL_q (q_pickT) (k := ?_)
        refine JL_q (q_assign) (k := ?_)
        refine JL_nil ?_
        refine JX_seq ?_
        refine J_ret ?_
        refine JX_ret Tryd.results6 (Res.tmp rfl Res.nil) (fun w1 hw1 => ?_)
        exact ⟨(by rw [(((((((((hF.neg hq1).neg hq39).t hq58).t hq59).pos hq60).pos hq61).neg hq62).pos hq63)).eq] <;> rfl), hw1.ext_out⟩
      refine JL_qg (q_move) (k := ?_)
      refine JL_qg (q_eql) (k := ?_)
      refine JL_qg (q_move) (k := ?_)
      refine JL_dec 109 rfl (fun hq64 => ?_) (fun hq64 => ?_)
      rotate_left
      · refine JL_skips 2 rfl ?_
        refine JL_qg (q_pickF) (k := ?_)
        refine JL_qg (q_move) (k := ?_)
        refine JL_skips 3 rfl ?_
        refine JL_qg (q_pickF) (k := ?_)
        refine JL_qg (q_pickF) (k := ?_)
        refine JL_q (q_pickT) (k := ?_)
        refine JL_q (q_move) (k := ?_)
        refine JL_skips 11 rfl ?_
        refine JL_q (q_pickF) (k := ?_)
        refine JL_q (q_assign) (k := ?_)
        refine JL_nil ?_
        refine JX_seq ?_
        refine J_ret ?_
        refine JX_ret Tryd.results6 (Res.tmp rfl Res.nil) (fun w1 hw1 => ?_)
        exact ⟨(by rw [((((((((hF.neg hq1).neg hq39).t hq58).t hq59).pos hq60).neg hq61).neg hq64)).eq] <;> rfl), hw1.ext_out⟩
      refine JL_qg (q_move) (k := ?_)
      refine JL_qg (q_eql) (k := ?_)
      refine JL_qg (q_pickT) (k := ?_)
      refine JL_qg (q_move) (k := ?_)
      refine JL_dec 113 rfl (fun hq65 => ?_) (fun hq65 => ?_)
      rotate_left
      · refine JL_skips 3 rfl ?_
        refine JL_qg (q_pickF) (k := ?_)
        refine JL_qg (q_pickF) (k := ?_)
        refine JL_q (q_pickT) (k := ?_)
        refine JL_q (q_move) (k := ?_)
        refine JL_skips 11 rfl ?_
        refine JL_q (q_pickF) (k := ?_)
        refine JL_q (q_assign) (k := ?_)
        refine JL_nil ?_
        refine JX_seq ?_
        refine J_ret ?_
        refine JX_ret Tryd.results6 (Res.tmp rfl Res.nil) (fun w1 hw1 => ?_)
        exact ⟨(by rw [(((((((((hF.neg hq1).neg hq39).t hq58).t hq59).pos hq60).neg hq61).pos hq64).neg hq65)).eq] <;> rfl), hw1.ext_out⟩
      refine JL_qg (q_move) (k := ?_)
      refine JL_qg (q_move) (k := ?_)
      refine JL_qg (q_eqT) (k := ?_)
      refine JL_qg (q_pickT) (k := ?_)
      refine JL_qg (q_pickF) (k := ?_)
      refine JL_q (q_pickT) (k := ?_)
      refine JL_q (q_move) (k := ?_)
      refine JL_dec 120 rfl (fun hq66 => ?_) (fun hq66 => ?_)
      rotate_left
      · refine JL_skips 11 rfl ?_
        refine JL_q (q_pickF) (k := ?_)
        refine JL_q (q_assign) (k := ?_)
        refine JL_nil ?_
        refine JX_seq ?_
        refine J_ret ?_
        refine JX_ret Tryd.results6 (Res.tmp rfl Res.nil) (fun w1 hw1 => ?_)
        exact ⟨(by rw [((((((((((hF.neg hq1).neg hq39).t hq58).t hq59).pos hq60).neg hq61).pos hq64).pos hq65).neg hq66)).eq] <;> rfl), hw1.ext_out⟩
      refine JL_qg (q_move) (k := ?_)
      refine JL_qg (q_neq) (k := ?_)
      refine JL_qg (q_move) (k := ?_)
      refine JL_dec 123 rfl (fun hq67 => ?_) (fun hq67 => ?_)
      · refine JL_skips 7 rfl ?_
        refine JL_qg (q_pickT) (k := ?_)
        refine JL_q (q_pickT) (k := ?_)
        refine JL_q (q_assign) (k := ?_)
        refine JL_nil ?_
        refine JX_seq ?_
        refine J_ret ?_
        refine JX_ret Tryd.results6 (Res.tmp rfl Res.nil) (fun w1 hw1 => ?_)
        exact ⟨(by rw [(((((((((((hF.neg hq1).neg hq39).t hq58).t hq59).pos hq60).neg hq61).pos hq64).pos hq65).pos hq66).pos hq67)).eq] <;> rfl), hw1.ext_out⟩
      refine JL_qg (q_move) (k := ?_)
      refine JL_qg (q_eql) (k := ?_)
      refine JL_qg (q_move) (k := ?_)
      refine JL_dec 126 rfl (fun hq68 => ?_) (fun hq68 => ?_)
      rotate_left
      · refine JL_skips 3 rfl ?_
        refine JL_qg (q_pickF) (k := ?_)
        refine JL_qg (q_pickF) (k := ?_)
        refine JL_q (q_pickT) (k := ?_)
        refine JL_q (q_assign) (k := ?_)
        refine JL_nil ?_
        refine JX_seq ?_
        refine J_ret ?_
        refine JX_ret Tryd.results6 (Res.tmp rfl Res.nil) (fun w1 hw1 => ?_)
        exact ⟨(by rw [((((((((((((hF.neg hq1).neg hq39).t hq58).t hq59).pos hq60).neg hq61).pos hq64).pos hq65).pos hq66).neg hq67).neg hq68)).eq] <;> rfl), hw1.ext_out⟩
      refine JL_qg (q_move) (k := ?_)
      refine JL_qg (q_move) (k := ?_)
      refine JL_qg (q_eqT) (k := ?_)
      refine JL_qg (q_pickT) (k := ?_)
      refine JL_qg (q_pickF) (k := ?_)
      refine JL_q (q_pickT) (k := ?_)
      refine JL_q (q_assign) (k := ?_)
      refine JL_nil ?_
      refine JX_seq ?_
      refine J_ret ?_
      refine JX_ret Tryd.results6 (Res.tmp rfl Res.nil) (fun w1 hw1 => ?_)
      exact ⟨(by rw [((((((((((((hF.neg hq1).neg hq39).t hq58).t hq59).pos hq60).neg hq61).pos hq64).pos hq65).pos hq66).neg hq67).pos hq68)).eq] <;> rfl), hw1.ext_out⟩
    refine JL_qg (q_move) (k := ?_)
    refine JL_qg (q_neq) (k := ?_)
    refine JL_qg (q_move) (k := ?_)
    refine JL_dec 64 rfl (fun hq40 => ?_) (fun hq40 => ?_)
    · refine JL_skips 3 rfl ?_
      refine JL_qg (q_pickT) (k := ?_)
      refine JL_qg (q_pickT) (k := ?_)
      refine JL_q (q_pickF) (k := ?_)
      refine JL_nil ?_
      refine JX_seq ?_
      refine J_true rfl ?_
      refine J_seq ?_
      refine J_reg ?_
      refine JL_q (q_assign) (k := ?_)
      refine JL_nil ?_
      refine JX_seq ?_
      refine J_ret ?_
      refine JX_seq_ret ?_
      refine JX_ret Tryd.results6 (Res.tmp rfl Res.nil) (fun w1 hw1 => ?_)
      exact ⟨(by rw [((((hF.neg hq1).pos hq39).pos hq40)).eq] <;> rfl), hw1.ext_out⟩
    refine JL_qg (q_loadA Tryd.isAgg23 Tryd.sizeOf23) (k := ?_)
    refine JL_qg (q_loadA Tryd.isAgg23 Tryd.sizeOf23) (k := ?_)
    refine JL_qg (q_neS (NE_23 _ _ _ _ _ _)) (k := ?_)
    refine JL_qg (q_pickF) (k := ?_)
    refine JL_qg (q_pickT) (k := ?_)
    refine JL_q (q_pickF) (k := ?_)
    refine JL_nil ?_
    refine JX_seq ?_
    refine J_dec rfl (fun hq41 => ?_) (fun hq41 => ?_)
    · refine J_seq ?_
      refine J_reg ?_
      refine JL_q (q_assign) (k := ?_)
      refine JL_nil ?_
      refine JX_seq ?_
      refine J_ret ?_
      refine JX_seq_ret ?_
      refine JX_ret Tryd.results6 (Res.tmp rfl Res.nil) (fun w1 hw1 => ?_)
      exact ⟨(by rw [(((((hF.neg hq1).pos hq39).neg hq40).pos hq41)).eq] <;> rfl), hw1.ext_out⟩
    refine J_skip ?_
    refine JX_seq ?_
    refine J_seq ?_
    refine J_reg ?_
    refine JL_q (q_move) (k := ?_)
    refine JL_v (args := [(Value.string (bs (aCut s)))]) (c_callA Tryd.call18) (fun w1 hw1 => aParse_ok w1 (s := (aCut s)) (n_s := by first | omega | (simp only [List.length_append, List.length_take, List.length_drop, List.length_set, List.length_replicate, List.length_cons, List.length_nil, List.length_map]; omega) | (simp only [List.length_append, List.length_take, List.length_drop, List.length_set, List.length_replicate, List.length_cons, List.length_nil, List.length_map] at *; omega) | decide) (hG := hG.ext hw1.ext_out)) (k := ?_)
    refine JL_q (q_move) (k := ?_)
    refine JL_q (q_ext) (k := ?_)
    refine JL_q (q_ext) (k := ?_)
    refine JL_q (q_assign) (k := ?_)
    refine JL_q (q_assign) (k := ?_)
    refine JL_nil ?_
    refine JX_seq ?_
    refine J_seq ?_
    refine J_reg ?_
    refine JL_q (q_move) (k := ?_)
    refine JL_v (args := [(Value.int .i64 (((aParse (aCut s)).1)))]) (c_callA Tryd.call16) (fun w1 hw1 => aPrint_ok w1 (a := ((aParse (aCut s)).1)) (hG := hG.ext hw1.ext_out)) (k := ?_)
    have hpl_51896 := aPrint_len ((aParse (aCut s)).1)
    refine JL_q (q_move) (k := ?_)
    refine JL_q (q_ext) (k := ?_)
    refine JL_q (q_ext) (k := ?_)
    refine JL_q (q_assign) (k := ?_)
    refine JL_q (q_assign) (k := ?_)
    refine JL_nil ?_
    refine JX_seq ?_
    refine J_seq ?_
    refine J_reg ?_
    refine JL_q (q_move) (k := ?_)
    refine JL_v (args := [(Value.string (bs (aCut s)))]) (c_callA Tryd.call22) (fun w1 hw1 => aParsePrefix_ok w1 (s := (aCut s)) (n_s := by first | omega | (simp only [List.length_append, List.length_take, List.length_drop, List.length_set, List.length_replicate, List.length_cons, List.length_nil, List.length_map]; omega) | (simp only [List.length_append, List.length_take, List.length_drop, List.length_set, List.length_replicate, List.length_cons, List.length_nil, List.length_map] at *; omega) | decide) (hG := hG.ext hw1.ext_out)) (k := ?_)
    refine JL_q (q_move) (k := ?_)
    refine JL_q (q_ext) (k := ?_)
    refine JL_q (q_ext) (k := ?_)
    refine JL_a noMk (a_alloc (l := [_, _]) Tryd.zeroValue23) (k := fun r5 hr5 => ?_)
    refine JL_s (w_store (l' := [_, _]) Tryd.sizeOf23) (k := ?_)
    refine JL_q (q_assign) (k := ?_)
    refine JL_nil ?_
    refine JX_seq ?_
    refine J_seq ?_
    refine J_reg ?_
    refine JL_q (q_loadA Tryd.isAgg23 Tryd.sizeOf23) (k := ?_)
    refine JL_v (args := [(Value.agg [(Value.int .i64 (((aParsePrefix (aCut s)).1.addr))), (Value.int .i64 (((aParsePrefix (aCut s)).1.bits)))].toArray)]) (c_callA Tryd.call20) (fun w1 hw1 => aPrintPrefix_ok w1 (p := (aParsePrefix (aCut s)).1) (hG := hG.ext hw1.ext_out)) (k := ?_)
    have hpp_65843 := aPrintPrefix_len ((aParsePrefix (aCut s)).1)
    refine JL_q (q_move) (k := ?_)
    refine JL_q (q_ext) (k := ?_)
    refine JL_q (q_ext) (k := ?_)
    refine JL_q (q_assign) (k := ?_)
    refine JL_q (q_assign) (k := ?_)
    refine JL_nil ?_
    refine JX_seq ?_
    refine J_seq ?_
    refine J_reg ?_
    refine JL_q (q_move) (k := ?_)
    refine JL_q (q_move) (k := ?_)
    refine JL_bool 92 rfl (fun hq42 => ?_) (fun hq42 => ?_)
    rotate_left
    · refine JL_skips 5 rfl ?_
      refine JL_q (q_pickF) (k := ?_)
      refine JL_q (q_move) (k := ?_)
      refine JL_skips 19 rfl ?_
      refine JL_q (q_pickF) (k := ?_)
      refine JL_q (q_move) (k := ?_)
      refine JL_skips 11 rfl ?_
      refine JL_q (q_pickF) (k := ?_)
      refine JL_q (q_assign) (k := ?_)
      refine JL_nil ?_
      refine JX_seq ?_
      refine J_ret ?_
      refine JX_ret Tryd.results6 (Res.tmp rfl Res.nil) (fun w1 hw1 => ?_)
      exact ⟨(by rw [((((((hF.neg hq1).pos hq39).neg hq40).neg hq41).f hq42)).eq] <;> rfl), hw1.ext_out⟩
    refine JL_qg (q_move) (k := ?_)
    refine JL_qg (q_eql) (k := ?_)
    refine JL_qg (q_loadA Tryd.isAgg23 Tryd.sizeOf23) (k := ?_)
    refine JL_vg (args := [(Value.agg [(Value.int .i64 (p.addr)), (Value.int .i64 (p.bits))].toArray)]) (c_callA Tryd.call13) (fun w1 hw1 => aRight_ok w1 (p := p)) (k := ?_)
    refine JL_qg (q_eqlB Tryd.runUnderlying4) (k := ?_)
    refine JL_q (q_pickT) (k := ?_)
    refine JL_q (q_move) (k := ?_)
    refine JL_bool 99 rfl (fun hq43 => ?_) (fun hq43 => ?_)
    rotate_left
    · refine JL_skips 19 rfl ?_
      refine JL_q (q_pickF) (k := ?_)
      refine JL_q (q_move) (k := ?_)
      refine JL_skips 11 rfl ?_
      refine JL_q (q_pickF) (k := ?_)
      refine JL_q (q_assign) (k := ?_)
      refine JL_nil ?_
      refine JX_seq ?_
      refine J_ret ?_
      refine JX_ret Tryd.results6 (Res.tmp rfl Res.nil) (fun w1 hw1 => ?_)
      exact ⟨(by rw [(((((((hF.neg hq1).pos hq39).neg hq40).neg hq41).t hq42).f hq43)).eq] <;> rfl), hw1.ext_out⟩
    refine JL_qg (q_move) (k := ?_)
    refine JL_qg (q_neq) (k := ?_)
    refine JL_qg (q_move) (k := ?_)
    refine JL_dec 102 rfl (fun hq44 => ?_) (fun hq44 => ?_)
    rotate_left
    · refine JL_skips 2 rfl ?_
      refine JL_qg (q_pickF) (k := ?_)
      refine JL_qg (q_move) (k := ?_)
      refine JL_qg (q_move) (k := ?_)
      refine JL_qg (q_eql) (k := ?_)
      refine JL_qg (q_move) (k := ?_)
      refine JL_dec 109 rfl (fun hq53 => ?_) (fun hq53 => ?_)
      rotate_left
      · refine JL_skips 2 rfl ?_
        refine JL_qg (q_pickF) (k := ?_)
        refine JL_qg (q_move) (k := ?_)
        refine JL_skips 3 rfl ?_
        refine JL_qg (q_pickF) (k := ?_)
        refine JL_qg (q_pickF) (k := ?_)
        refine JL_q (q_pickT) (k := ?_)
        refine JL_q (q_move) (k := ?_)
        refine JL_skips 11 rfl ?_
        refine JL_q (q_pickF) (k := ?_)
        refine JL_q (q_assign) (k := ?_)
        refine JL_nil ?_
        refine JX_seq ?_
        refine J_ret ?_
        refine JX_ret Tryd.results6 (Res.tmp rfl Res.nil) (fun w1 hw1 => ?_)
        exact ⟨(by rw [(((((((((hF.neg hq1).pos hq39).neg hq40).neg hq41).t hq42).t hq43).neg hq44).neg hq53)).eq] <;> rfl), hw1.ext_out⟩
      refine JL_qg (q_move) (k := ?_)
      refine JL_qg (q_eql) (k := ?_)
      refine JL_qg (q_pickT) (k := ?_)
      refine JL_qg (q_move) (k := ?_)
      refine JL_dec 113 rfl (fun hq54 => ?_) (fun hq54 => ?_)
      rotate_left
      · refine JL_skips 3 rfl ?_
        refine JL_qg (q_pickF) (k := ?_)
        refine JL_qg (q_pickF) (k := ?_)
        refine JL_q (q_pickT) (k := ?_)
        refine JL_q (q_move) (k := ?_)
        refine JL_skips 11 rfl ?_
        refine JL_q (q_pickF) (k := ?_)
        refine JL_q (q_assign) (k := ?_)
        refine JL_nil ?_
        refine JX_seq ?_
        refine J_ret ?_
        refine JX_ret Tryd.results6 (Res.tmp rfl Res.nil) (fun w1 hw1 => ?_)
        exact ⟨(by rw [((((((((((hF.neg hq1).pos hq39).neg hq40).neg hq41).t hq42).t hq43).neg hq44).pos hq53).neg hq54)).eq] <;> rfl), hw1.ext_out⟩
      refine JL_qg (q_move) (k := ?_)
      refine JL_qg (q_move) (k := ?_)
      refine JL_qg (q_eqT) (k := ?_)
      refine JL_qg (q_pickT) (k := ?_)
      refine JL_qg (q_pickF) (k := ?_)
      refine JL_q (q_pickT) (k := ?_)
      refine JL_q (q_move) (k := ?_)
      refine JL_dec 120 rfl (fun hq55 => ?_) (fun hq55 => ?_)
      rotate_left
      · refine JL_skips 11 rfl ?_
        refine JL_q (q_pickF) (k := ?_)
        refine JL_q (q_assign) (k := ?_)
        refine JL_nil ?_
        refine JX_seq ?_
        refine J_ret ?_
        refine JX_ret Tryd.results6 (Res.tmp rfl Res.nil) (fun w1 hw1 => ?_)
        exact ⟨(by rw [(((((((((((hF.neg hq1).pos hq39).neg hq40).neg hq41).t hq42).t hq43).neg hq44).pos hq53).pos hq54).neg hq55)).eq] <;> rfl), hw1.ext_out⟩
      refine JL_qg (q_move) (k := ?_)
      refine JL_qg (q_neq) (k := ?_)
      refine JL_qg (q_move) (k := ?_)
      refine JL_dec 123 rfl (fun hq56 => ?_) (fun hq56 => ?_)
      · refine JL_skips 7 rfl ?_
        refine JL_qg (q_pickT) (k := ?_)
        refine JL_q (q_pickT) (k := ?_)
        refine JL_q (q_assign) (k := ?_)
        refine JL_nil ?_
        refine JX_seq ?_
        refine J_ret ?_
        refine JX_ret Tryd.results6 (Res.tmp rfl Res.nil) (fun w1 hw1 => ?_)
        exact ⟨(by rw [((((((((((((hF.neg hq1).pos hq39).neg hq40).neg hq41).t hq42).t hq43).neg hq44).pos hq53).pos hq54).pos hq55).pos hq56)).eq] <;> rfl), hw1.ext_out⟩
      refine JL_qg (q_move) (k := ?_)
      refine JL_qg (q_eql) (k := ?_)
      refine JL_qg (q_move) (k := ?_)
      refine JL_dec 126 rfl (fun hq57 => ?_) (fun hq57 => ?_)
      rotate_left
      · refine JL_skips 3 rfl ?_
        refine JL_qg (q_pickF) (k := ?_)
        refine JL_qg (q_pickF) (k := ?_)
        refine JL_q (q_pickT) (k := ?_)
        refine JL_q (q_assign) (k := ?_)
        refine JL_nil ?_
        refine JX_seq ?_
        refine J_ret ?_
        refine JX_ret Tryd.results6 (Res.tmp rfl Res.nil) (fun w1 hw1 => ?_)
        exact ⟨(by rw [(((((((((((((hF.neg hq1).pos hq39).neg hq40).neg hq41).t hq42).t hq43).neg hq44).pos hq53).pos hq54).pos hq55).neg hq56).neg hq57)).eq] <;> rfl), hw1.ext_out⟩
      refine JL_qg (q_move) (k := ?_)
      refine JL_qg (q_move) (k := ?_)
      refine JL_qg (q_eqT) (k := ?_)
      refine JL_qg (q_pickT) (k := ?_)
      refine JL_qg (q_pickF) (k := ?_)
      refine JL_q (q_pickT) (k := ?_)
      refine JL_q (q_assign) (k := ?_)
      refine JL_nil ?_
      refine JX_seq ?_
      refine J_ret ?_
      refine JX_ret Tryd.results6 (Res.tmp rfl Res.nil) (fun w1 hw1 => ?_)
      exact ⟨(by rw [(((((((((((((hF.neg hq1).pos hq39).neg hq40).neg hq41).t hq42).t hq43).neg hq44).pos hq53).pos hq54).pos hq55).neg hq56).pos hq57)).eq] <;> rfl), hw1.ext_out⟩
    refine JL_qg (q_move) (k := ?_)
    refine JL_qg (q_eql) (k := ?_)
    refine JL_qg (q_pickT) (k := ?_)
    refine JL_qg (q_move) (k := ?_)
    refine JL_dec 106 rfl (fun hq45 => ?_) (fun hq45 => ?_)
    · refine JL_skips 11 rfl ?_
      refine JL_qg (q_pickT) (k := ?_)
      refine JL_q (q_pickT) (k := ?_)
      refine JL_q (q_move) (k := ?_)
      refine JL_qg (q_move) (k := ?_)
      refine JL_qg (q_neq) (k := ?_)
      refine JL_qg (q_move) (k := ?_)
      refine JL_dec 123 rfl (fun hq46 => ?_) (fun hq46 => ?_)
      · refine JL_skips 7 rfl ?_
        refine JL_qg (q_pickT) (k := ?_)
        refine JL_q (q_pickT) (k := ?_)
        refine JL_q (q_assign) (k := ?_)
        refine JL_nil ?_
        refine JX_seq ?_
        refine J_ret ?_
        refine JX_ret Tryd.results6 (Res.tmp rfl Res.nil) (fun w1 hw1 => ?_)
        exact ⟨(by rw [((((((((((hF.neg hq1).pos hq39).neg hq40).neg hq41).t hq42).t hq43).pos hq44).pos hq45).pos hq46)).eq] <;> rfl), hw1.ext_out⟩
      refine JL_qg (q_move) (k := ?_)
      refine JL_qg (q_eql) (k := ?_)
      refine JL_qg (q_move) (k := ?_)
      refine JL_dec 126 rfl (fun hq47 => ?_) (fun hq47 => ?_)
      rotate_left
      · refine JL_skips 3 rfl ?_
        refine JL_qg (q_pickF) (k := ?_)
        refine JL_qg (q_pickF) (k := ?_)
        refine JL_q (q_pickT) (k := ?_)
        refine JL_q (q_assign) (k := ?_)
        refine JL_nil ?_
        refine JX_seq ?_
        refine J_ret ?_
        refine JX_ret Tryd.results6 (Res.tmp rfl Res.nil) (fun w1 hw1 => ?_)
        exact ⟨(by rw [(((((((((((hF.neg hq1).pos hq39).neg hq40).neg hq41).t hq42).t hq43).pos hq44).pos hq45).neg hq46).neg hq47)).eq] <;> rfl), hw1.ext_out⟩
      refine JL_qg (q_move) (k := ?_)
      refine JL_qg (q_move) (k := ?_)
      refine JL_qg (q_eqT) (k := ?_)
      refine JL_qg (q_pickT) (k := ?_)
      refine JL_qg (q_pickF) (k := ?_)
      refine JL_q (q_pickT) (k := ?_)
      refine JL_q (q_assign) (k := ?_)
      refine JL_nil ?_
      refine JX_seq ?_
      refine J_ret ?_
      refine JX_ret Tryd.results6 (Res.tmp rfl Res.nil) (fun w1 hw1 => ?_)
      exact ⟨(by rw [(((((((((((hF.neg hq1).pos hq39).neg hq40).neg hq41).t hq42).t hq43).pos hq44).pos hq45).neg hq46).pos hq47)).eq] <;> rfl), hw1.ext_out⟩
    refine JL_qg (q_move) (k := ?_)
    refine JL_qg (q_eql) (k := ?_)
    refine JL_qg (q_move) (k := ?_)
    refine JL_dec 109 rfl (fun hq48 => ?_) (fun hq48 => ?_)
    rotate_left
    · refine JL_skips 2 rfl ?_
      refine JL_qg (q_pickF) (k := ?_)
      refine JL_qg (q_move) (k := ?_)
      refine JL_skips 3 rfl ?_
      refine JL_qg (q_pickF) (k := ?_)
      refine JL_qg (q_pickF) (k := ?_)
      refine JL_q (q_pickT) (k := ?_)
      refine JL_q (q_move) (k := ?_)
      refine JL_skips 11 rfl ?_
      refine JL_q (q_pickF) (k := ?_)
      refine JL_q (q_assign) (k := ?_)
      refine JL_nil ?_
      refine JX_seq ?_
      refine J_ret ?_
      refine JX_ret Tryd.results6 (Res.tmp rfl Res.nil) (fun w1 hw1 => ?_)
      exact ⟨(by rw [((((((((((hF.neg hq1).pos hq39).neg hq40).neg hq41).t hq42).t hq43).pos hq44).neg hq45).neg hq48)).eq] <;> rfl), hw1.ext_out⟩
    refine JL_qg (q_move) (k := ?_)
    refine JL_qg (q_eql) (k := ?_)
    refine JL_qg (q_pickT) (k := ?_)
    refine JL_qg (q_move) (k := ?_)
    refine JL_dec 113 rfl (fun hq49 => ?_) (fun hq49 => ?_)
    rotate_left
    · refine JL_skips 3 rfl ?_
      refine JL_qg (q_pickF) (k := ?_)
      refine JL_qg (q_pickF) (k := ?_)
      refine JL_q (q_pickT) (k := ?_)
      refine JL_q (q_move) (k := ?_)
      refine JL_skips 11 rfl ?_
      refine JL_q (q_pickF) (k := ?_)
      refine JL_q (q_assign) (k := ?_)
      refine JL_nil ?_
      refine JX_seq ?_
      refine J_ret ?_
      refine JX_ret Tryd.results6 (Res.tmp rfl Res.nil) (fun w1 hw1 => ?_)
      exact ⟨(by rw [(((((((((((hF.neg hq1).pos hq39).neg hq40).neg hq41).t hq42).t hq43).pos hq44).neg hq45).pos hq48).neg hq49)).eq] <;> rfl), hw1.ext_out⟩
    refine JL_qg (q_move) (k := ?_)
    refine JL_qg (q_move) (k := ?_)
    refine JL_qg (q_eqT) (k := ?_)
    refine JL_qg (q_pickT) (k := ?_)
    refine JL_qg (q_pickF) (k := ?_)
    refine JL_q (q_pickT) (k := ?_)
    refine JL_q (q_move) (k := ?_)
    refine JL_dec 120 rfl (fun hq50 => ?_) (fun hq50 => ?_)
    rotate_left
    · refine JL_skips 11 rfl ?_
      refine JL_q (q_pickF) (k := ?_)
      refine JL_q (q_assign) (k := ?_)
      refine JL_nil ?_
      refine JX_seq ?_
      refine J_ret ?_
      refine JX_ret Tryd.results6 (Res.tmp rfl Res.nil) (fun w1 hw1 => ?_)
      exact ⟨(by rw [((((((((((((hF.neg hq1).pos hq39).neg hq40).neg hq41).t hq42).t hq43).pos hq44).neg hq45).pos hq48).pos hq49).neg hq50)).eq] <;> rfl), hw1.ext_out⟩
    refine JL_qg (q_move) (k := ?_)
    refine JL_qg (q_neq) (k := ?_)
    refine JL_qg (q_move) (k := ?_)
    refine JL_dec 123 rfl (fun hq51 => ?_) (fun hq51 => ?_)
    · refine JL_skips 7 rfl ?_
      refine JL_qg (q_pickT) (k := ?_)
      refine JL_q (q_pickT) (k := ?_)
      refine JL_q (q_assign) (k := ?_)
      refine JL_nil ?_
      refine JX_seq ?_
      refine J_ret ?_
      refine JX_ret Tryd.results6 (Res.tmp rfl Res.nil) (fun w1 hw1 => ?_)
      exact ⟨(by rw [(((((((((((((hF.neg hq1).pos hq39).neg hq40).neg hq41).t hq42).t hq43).pos hq44).neg hq45).pos hq48).pos hq49).pos hq50).pos hq51)).eq] <;> rfl), hw1.ext_out⟩
    refine JL_qg (q_move) (k := ?_)
    refine JL_qg (q_eql) (k := ?_)
    refine JL_qg (q_move) (k := ?_)
    refine JL_dec 126 rfl (fun hq52 => ?_) (fun hq52 => ?_)
    rotate_left
    · refine JL_skips 3 rfl ?_
      refine JL_qg (q_pickF) (k := ?_)
      refine JL_qg (q_pickF) (k := ?_)
      refine JL_q (q_pickT) (k := ?_)
      refine JL_q (q_assign) (k := ?_)
      refine JL_nil ?_
      refine JX_seq ?_
      refine J_ret ?_
      refine JX_ret Tryd.results6 (Res.tmp rfl Res.nil) (fun w1 hw1 => ?_)
      exact ⟨(by rw [((((((((((((((hF.neg hq1).pos hq39).neg hq40).neg hq41).t hq42).t hq43).pos hq44).neg hq45).pos hq48).pos hq49).pos hq50).neg hq51).neg hq52)).eq] <;> rfl), hw1.ext_out⟩
    refine JL_qg (q_move) (k := ?_)
    refine JL_qg (q_move) (k := ?_)
    refine JL_qg (q_eqT) (k := ?_)
    refine JL_qg (q_pickT) (k := ?_)
    refine JL_qg (q_pickF) (k := ?_)
    refine JL_q (q_pickT) (k := ?_)
    refine JL_q (q_assign) (k := ?_)
    refine JL_nil ?_
    refine JX_seq ?_
    refine J_ret ?_
    refine JX_ret Tryd.results6 (Res.tmp rfl Res.nil) (fun w1 hw1 => ?_)
    exact ⟨(by rw [((((((((((((((hF.neg hq1).pos hq39).neg hq40).neg hq41).t hq42).t hq43).pos hq44).neg hq45).pos hq48).pos hq49).pos hq50).neg hq51).pos hq52)).eq] <;> rfl), hw1.ext_out⟩
  refine JL_qg (q_move) (k := ?_)
  refine JL_qg (q_neq) (k := ?_)
  refine JL_qg (q_move) (k := ?_)
  refine JL_dec 52 rfl (fun hq2 => ?_) (fun hq2 => ?_)
  · refine JL_skips 3 rfl ?_
    refine JL_qg (q_pickT) (k := ?_)
    refine JL_q (q_pickT) (k := ?_)
    refine JL_q (q_move) (k := ?_)
    refine JL_skips 11 rfl ?_
    refine JL_q (q_pickT) (k := ?_)
    refine JL_nil ?_
    refine JX_seq ?_
    refine J_true rfl ?_
    refine J_seq ?_
    refine J_reg ?_
    refine JL_q (q_assign) (k := ?_)
    refine JL_nil ?_
    refine JX_seq ?_
    refine J_ret ?_
    refine JX_seq_ret ?_
    refine JX_ret Tryd.results6 (Res.tmp rfl Res.nil) (fun w1 hw1 => ?_)
    exact ⟨(by rw [(((hF.pos hq1).pos hq2)).eq] <;> rfl), hw1.ext_out⟩
  refine JL_qg (q_move) (k := ?_)
  refine JL_qg (q_move) (k := ?_)
  refine JL_qg (q_neq) (k := ?_)
  refine JL_qg (q_pickF) (k := ?_)
  refine JL_q (q_pickT) (k := ?_)
  refine JL_q (q_move) (k := ?_)
  refine JL_dec 58 rfl (fun hq3 => ?_) (fun hq3 => ?_)
  · refine JL_skips 11 rfl ?_
    refine JL_q (q_pickT) (k := ?_)
    refine JL_nil ?_
    refine JX_seq ?_
    refine J_true rfl ?_
    refine J_seq ?_
    refine J_reg ?_
    refine JL_q (q_assign) (k := ?_)
    refine JL_nil ?_
    refine JX_seq ?_
    refine J_ret ?_
    refine JX_seq_ret ?_
    refine JX_ret Tryd.results6 (Res.tmp rfl Res.nil) (fun w1 hw1 => ?_)
    exact ⟨(by rw [((((hF.pos hq1).neg hq2).pos hq3)).eq] <;> rfl), hw1.ext_out⟩
  refine JL_qg (q_move) (k := ?_)
  refine JL_qg (q_eql) (k := ?_)
  refine JL_qg (q_move) (k := ?_)
  refine JL_dec 61 rfl (fun hq4 => ?_) (fun hq4 => ?_)
  rotate_left
  · refine JL_skips 7 rfl ?_
    refine JL_qg (q_pickF) (k := ?_)
    refine JL_q (q_pickF) (k := ?_)
    refine JL_nil ?_
    refine JX_seq ?_
    refine J_false rfl ?_
    refine J_skip ?_
    refine JX_seq ?_
    refine J_seq ?_
    refine J_reg ?_
    refine JL_q (q_move) (k := ?_)
    refine JL_v (args := [(Value.string (bs (aCut s)))]) (c_callA Tryd.call18) (fun w1 hw1 => aParse_ok w1 (s := (aCut s)) (n_s := by first | omega | (simp only [List.length_append, List.length_take, List.length_drop, List.length_set, List.length_replicate, List.length_cons, List.length_nil, List.length_map]; omega) | (simp only [List.length_append, List.length_take, List.length_drop, List.length_set, List.length_replicate, List.length_cons, List.length_nil, List.length_map] at *; omega) | decide) (hG := hG.ext hw1.ext_out)) (k := ?_)
    refine JL_q (q_move) (k := ?_)
    refine JL_q (q_ext) (k := ?_)
    refine JL_q (q_ext) (k := ?_)
    refine JL_q (q_assign) (k := ?_)
    refine JL_q (q_assign) (k := ?_)
    refine JL_nil ?_
    refine JX_seq ?_
    refine J_seq ?_
    refine J_reg ?_
    refine JL_q (q_move) (k := ?_)
    refine JL_v (args := [(Value.int .i64 (((aParse (aCut s)).1)))]) (c_callA Tryd.call16) (fun w1 hw1 => aPrint_ok w1 (a := ((aParse (aCut s)).1)) (hG := hG.ext hw1.ext_out)) (k := ?_)
    have hpl_51896 := aPrint_len ((aParse (aCut s)).1)
    refine JL_q (q_move) (k := ?_)
    refine JL_q (q_ext) (k := ?_)
    refine JL_q (q_ext) (k := ?_)
    refine JL_q (q_assign) (k := ?_)
    refine JL_q (q_assign) (k := ?_)
    refine JL_nil ?_
    refine JX_seq ?_
    refine J_seq ?_
    refine J_reg ?_
    refine JL_q (q_move) (k := ?_)
    refine JL_v (args := [(Value.string (bs (aCut s)))]) (c_callA Tryd.call22) (fun w1 hw1 => aParsePrefix_ok w1 (s := (aCut s)) (n_s := by first | omega | (simp only [List.length_append, List.length_take, List.length_drop, List.length_set, List.length_replicate, List.length_cons, List.length_nil, List.length_map]; omega) | (simp only [List.length_append, List.length_take, List.length_drop, List.length_set, List.length_replicate, List.length_cons, List.length_nil, List.length_map] at *; omega) | decide) (hG := hG.ext hw1.ext_out)) (k := ?_)
    refine JL_q (q_move) (k := ?_)
    refine JL_q (q_ext) (k := ?_)
    refine JL_q (q_ext) (k := ?_)
    refine JL_a noMk (a_alloc (l := [_, _]) Tryd.zeroValue23) (k := fun r4 hr4 => ?_)
    refine JL_s (w_store (l' := [_, _]) Tryd.sizeOf23) (k := ?_)
    refine JL_q (q_assign) (k := ?_)
    refine JL_nil ?_
    refine JX_seq ?_
    refine J_seq ?_
    refine J_reg ?_
    refine JL_q (q_loadA Tryd.isAgg23 Tryd.sizeOf23) (k := ?_)
    refine JL_v (args := [(Value.agg [(Value.int .i64 (((aParsePrefix (aCut s)).1.addr))), (Value.int .i64 (((aParsePrefix (aCut s)).1.bits)))].toArray)]) (c_callA Tryd.call20) (fun w1 hw1 => aPrintPrefix_ok w1 (p := (aParsePrefix (aCut s)).1) (hG := hG.ext hw1.ext_out)) (k := ?_)
    have hpp_65843 := aPrintPrefix_len ((aParsePrefix (aCut s)).1)
    refine JL_q (q_move) (k := ?_)
    refine JL_q (q_ext) (k := ?_)
    refine JL_q (q_ext) (k := ?_)
    refine JL_q (q_assign) (k := ?_)
    refine JL_q (q_assign) (k := ?_)
    refine JL_nil ?_
    refine JX_seq ?_
    refine J_seq ?_
    refine J_reg ?_
    refine JL_q (q_move) (k := ?_)
    refine JL_q (q_move) (k := ?_)
    refine JL_bool 92 rfl (fun hq23 => ?_) (fun hq23 => ?_)
    rotate_left
    · refine JL_skips 5 rfl ?_
      refine JL_q (q_pickF) (k := ?_)
      refine JL_q (q_move) (k := ?_)
      refine JL_skips 19 rfl ?_
      refine JL_q (q_pickF) (k := ?_)
      refine JL_q (q_move) (k := ?_)
      refine JL_skips 11 rfl ?_
      refine JL_q (q_pickF) (k := ?_)
      refine JL_q (q_assign) (k := ?_)
      refine JL_nil ?_
      refine JX_seq ?_
      refine J_ret ?_
      refine JX_ret Tryd.results6 (Res.tmp rfl Res.nil) (fun w1 hw1 => ?_)
      exact ⟨(by rw [((((((hF.pos hq1).neg hq2).neg hq3).neg hq4).f hq23)).eq] <;> rfl), hw1.ext_out⟩
    refine JL_qg (q_move) (k := ?_)
    refine JL_qg (q_eql) (k := ?_)
    refine JL_qg (q_loadA Tryd.isAgg23 Tryd.sizeOf23) (k := ?_)
    refine JL_vg (args := [(Value.agg [(Value.int .i64 (p.addr)), (Value.int .i64 (p.bits))].toArray)]) (c_callA Tryd.call13) (fun w1 hw1 => aRight_ok w1 (p := p)) (k := ?_)
    refine JL_qg (q_eqlB Tryd.runUnderlying4) (k := ?_)
    refine JL_q (q_pickT) (k := ?_)
    refine JL_q (q_move) (k := ?_)
    refine JL_bool 99 rfl (fun hq24 => ?_) (fun hq24 => ?_)
    rotate_left
    · refine JL_skips 19 rfl ?_
      refine JL_q (q_pickF) (k := ?_)
      refine JL_q (q_move) (k := ?_)
      refine JL_skips 11 rfl ?_
      refine JL_q (q_pickF) (k := ?_)
      refine JL_q (q_assign) (k := ?_)
      refine JL_nil ?_
      refine JX_seq ?_
      refine J_ret ?_
      refine JX_ret Tryd.results6 (Res.tmp rfl Res.nil) (fun w1 hw1 => ?_)
      exact ⟨(by rw [(((((((hF.pos hq1).neg hq2).neg hq3).neg hq4).t hq23).f hq24)).eq] <;> rfl), hw1.ext_out⟩
    refine JL_qg (q_move) (k := ?_)
    refine JL_qg (q_neq) (k := ?_)
    refine JL_qg (q_move) (k := ?_)
    refine JL_dec 102 rfl (fun hq25 => ?_) (fun hq25 => ?_)
    rotate_left
    · refine JL_skips 2 rfl ?_
      refine JL_qg (q_pickF) (k := ?_)
      refine JL_qg (q_move) (k := ?_)
      refine JL_qg (q_move) (k := ?_)
      refine JL_qg (q_eql) (k := ?_)
      refine JL_qg (q_move) (k := ?_)
      refine JL_dec 109 rfl (fun hq34 => ?_) (fun hq34 => ?_)
      rotate_left
      · refine JL_skips 2 rfl ?_
        refine JL_qg (q_pickF) (k := ?_)
        refine JL_qg (q_move) (k := ?_)
        refine JL_skips 3 rfl ?_
        refine JL_qg (q_pickF) (k := ?_)
        refine JL_qg (q_pickF) (k := ?_)
        refine JL_q (q_pickT) (k := ?_)
        refine JL_q (q_move) (k := ?_)
        refine JL_skips 11 rfl ?_
        refine JL_q (q_pickF) (k := ?_)
        refine JL_q (q_assign) (k := ?_)
        refine JL_nil ?_
        refine JX_seq ?_
        refine J_ret ?_
        refine JX_ret Tryd.results6 (Res.tmp rfl Res.nil) (fun w1 hw1 => ?_)
        exact ⟨(by rw [(((((((((hF.pos hq1).neg hq2).neg hq3).neg hq4).t hq23).t hq24).neg hq25).neg hq34)).eq] <;> rfl), hw1.ext_out⟩
      refine JL_qg (q_move) (k := ?_)
      refine JL_qg (q_eql) (k := ?_)
      refine JL_qg (q_pickT) (k := ?_)
      refine JL_qg (q_move) (k := ?_)
      refine JL_dec 113 rfl (fun hq35 => ?_) (fun hq35 => ?_)
      rotate_left
      · refine JL_skips 3 rfl ?_
        refine JL_qg (q_pickF) (k := ?_)
        refine JL_qg (q_pickF) (k := ?_)
        refine JL_q (q_pickT) (k := ?_)
        refine JL_q (q_move) (k := ?_)
        refine JL_skips 11 rfl ?_
        refine JL_q (q_pickF) (k := ?_)
        refine JL_q (q_assign) (k := ?_)
        refine JL_nil ?_
        refine JX_seq ?_
        refine J_ret ?_
        refine JX_ret Tryd.results6 (Res.tmp rfl Res.nil) (fun w1 hw1 => ?_)
        exact ⟨(by rw [((((((((((hF.pos hq1).neg hq2).neg hq3).neg hq4).t hq23).t hq24).neg hq25).pos hq34).neg hq35)).eq] <;> rfl), hw1.ext_out⟩
      refine JL_qg (q_move) (k := ?_)
      refine JL_qg (q_move) (k := ?_)
      refine JL_qg (q_eqT) (k := ?_)
      refine JL_qg (q_pickT) (k := ?_)
      refine JL_qg (q_pickF) (k := ?_)
      refine JL_q (q_pickT) (k := ?_)
      refine JL_q (q_move) (k := ?_)
      refine JL_dec 120 rfl (fun hq36 => ?_) (fun hq36 => ?_)
      rotate_left
      · refine JL_skips 11 rfl ?_
        refine JL_q (q_pickF) (k := ?_)
        refine JL_q (q_assign) (k := ?_)
        refine JL_nil ?_
        refine JX_seq ?_
        refine J_ret ?_
        refine JX_ret Tryd.results6 (Res.tmp rfl Res.nil) (fun w1 hw1 => ?_)
        exact ⟨(by rw [(((((((((((hF.pos hq1).neg hq2).neg hq3).neg hq4).t hq23).t hq24).neg hq25).pos hq34).pos hq35).neg hq36)).eq] <;> rfl), hw1.ext_out⟩
      refine JL_qg (q_move) (k := ?_)
      refine JL_qg (q_neq) (k := ?_)
      refine JL_qg (q_move) (k := ?_)
      refine JL_dec 123 rfl (fun hq37 => ?_) (fun hq37 => ?_)
      · refine JL_skips 7 rfl ?_
        refine JL_qg (q_pickT) (k := ?_)
        refine JL_q (q_pickT) (k := ?_)
        refine JL_q (q_assign) (k := ?_)
        refine JL_nil ?_
        refine JX_seq ?_
        refine J_ret ?_
        refine JX_ret Tryd.results6 (Res.tmp rfl Res.nil) (fun w1 hw1 => ?_)
        exact ⟨(by rw [((((((((((((hF.pos hq1).neg hq2).neg hq3).neg hq4).t hq23).t hq24).neg hq25).pos hq34).pos hq35).pos hq36).pos hq37)).eq] <;> rfl), hw1.ext_out⟩
      refine JL_qg (q_move) (k := ?_)
      refine JL_qg (q_eql) (k := ?_)
      refine JL_qg (q_move) (k := ?_)
      refine JL_dec 126 rfl (fun hq38 => ?_) (fun hq38 => ?_)
      rotate_left
      · refine JL_skips 3 rfl ?_
        refine JL_qg (q_pickF) (k := ?_)
        refine JL_qg (q_pickF) (k := ?_)
        refine JL_q (q_pickT) (k := ?_)
        refine JL_q (q_assign) (k := ?_)
        refine JL_nil ?_
        refine JX_seq ?_
        refine J_ret ?_
        refine JX_ret Tryd.results6 (Res.tmp rfl Res.nil) (fun w1 hw1 => ?_)
        exact ⟨(by rw [(((((((((((((hF.pos hq1).neg hq2).neg hq3).neg hq4).t hq23).t hq24).neg hq25).pos hq34).pos hq35).pos hq36).neg hq37).neg hq38)).eq] <;> rfl), hw1.ext_out⟩
      refine JL_qg (q_move) (k := ?_)
      refine JL_qg (q_move) (k := ?_)
      refine JL_qg (q_eqT) (k := ?_)
      refine JL_qg (q_pickT) (k := ?_)
      refine JL_qg (q_pickF) (k := ?_)
      refine JL_q (q_pickT) (k := ?_)
      refine JL_q (q_assign) (k := ?_)
      refine JL_nil ?_
      refine JX_seq ?_
      refine J_ret ?_
      refine JX_ret Tryd.results6 (Res.tmp rfl Res.nil) (fun w1 hw1 => ?_)
      exact ⟨(by rw [(((((((((((((hF.pos hq1).neg hq2).neg hq3).neg hq4).t hq23).t hq24).neg hq25).pos hq34).pos hq35).pos hq36).neg hq37).pos hq38)).eq] <;> rfl), hw1.ext_out⟩
    refine JL_qg (q_move) (k := ?_)
    refine JL_qg (q_eql) (k := ?_)
    refine JL_qg (q_pickT) (k := ?_)
    refine JL_qg (q_move) (k := ?_)
    refine JL_dec 106 rfl (fun hq26 => ?_) (fun hq26 => ?_)
    · refine JL_skips 11 rfl ?_
      refine JL_qg (q_pickT) (k := ?_)
      refine JL_q (q_pickT) (k := ?_)
      refine JL_q (q_move) (k := ?_)
      refine JL_qg (q_move) (k := ?_)
      refine JL_qg (q_neq) (k := ?_)
      refine JL_qg (q_move) (k := ?_)
      refine JL_dec 123 rfl (fun hq27 => ?_) (fun hq27 => ?_)
      · refine JL_skips 7 rfl ?_
        refine JL_qg (q_pickT) (k := ?_)
        refine JL_q (q_pickT) (k := ?_)
        refine JL_q (q_assign) (k := ?_)
        refine JL_nil ?_
        refine JX_seq ?_
        refine J_ret ?_
        refine JX_ret Tryd.results6 (Res.tmp rfl Res.nil) (fun w1 hw1 => ?_)
        exact ⟨(by rw [((((((((((hF.pos hq1).neg hq2).neg hq3).neg hq4).t hq23).t hq24).pos hq25).pos hq26).pos hq27)).eq] <;> rfl), hw1.ext_out⟩
      refine JL_qg (q_move) (k := ?_)
      refine JL_qg (q_eql) (k := ?_)
      refine JL_qg (q_move) (k := ?_)
      refine JL_dec 126 rfl (fun hq28 => ?_) (fun hq28 => ?_)
      rotate_left
      · refine JL_skips 3 rfl ?_
        refine JL_qg (q_pickF) (k := ?_)
        refine JL_qg (q_pickF) (k := ?_)
        refine JL_q (q_pickT) (k := ?_)
        refine JL_q (q_assign) (k := ?_)
        refine JL_nil ?_
        refine JX_seq ?_
        refine J_ret ?_
        refine JX_ret Tryd.results6 (Res.tmp rfl Res.nil) (fun w1 hw1 => ?_)
        exact ⟨(by rw [(((((((((((hF.pos hq1).neg hq2).neg hq3).neg hq4).t hq23).t hq24).pos hq25).pos hq26).neg hq27).neg hq28)).eq] <;> rfl), hw1.ext_out⟩
      refine JL_qg (q_move) (k := ?_)
      refine JL_qg (q_move) (k := ?_)
      refine JL_qg (q_eqT) (k := ?_)
      refine JL_qg (q_pickT) (k := ?_)
      refine JL_qg (q_pickF) (k := ?_)
      refine JL_q (q_pickT) (k := ?_)
      refine JL_q (q_assign) (k := ?_)
      refine JL_nil ?_
      refine JX_seq ?_
      refine J_ret ?_
      refine JX_ret Tryd.results6 (Res.tmp rfl Res.nil) (fun w1 hw1 => ?_)
      exact ⟨(by rw [(((((((((((hF.pos hq1).neg hq2).neg hq3).neg hq4).t hq23).t hq24).pos hq25).pos hq26).neg hq27).pos hq28)).eq] <;> rfl), hw1.ext_out⟩
    refine JL_qg (q_move) (k := ?_)
    refine JL_qg (q_eql) (k := ?_)
    refine JL_qg (q_move) (k := ?_)
    refine JL_dec 109 rfl (fun hq29 => ?_) (fun hq29 => ?_)
    rotate_left
    · refine JL_skips 2 rfl ?_
      refine JL_qg (q_pickF) (k := ?_)
      refine JL_qg (q_move) (k := ?_)
      refine JL_skips 3 rfl ?_
      refine JL_qg (q_pickF) (k := ?_)
      refine JL_qg (q_pickF) (k := ?_)
      refine JL_q (q_pickT) (k := ?_)
      refine JL_q (q_move) (k := ?_)
      refine JL_skips 11 rfl ?_
      refine JL_q (q_pickF) (k := ?_)
      refine JL_q (q_assign) (k := ?_)
      refine JL_nil ?_
      refine JX_seq ?_
      refine J_ret ?_
      refine JX_ret Tryd.results6 (Res.tmp rfl Res.nil) (fun w1 hw1 => ?_)
      exact ⟨(by rw [((((((((((hF.pos hq1).neg hq2).neg hq3).neg hq4).t hq23).t hq24).pos hq25).neg hq26).neg hq29)).eq] <;> rfl), hw1.ext_out⟩
    refine JL_qg (q_move) (k := ?_)
    refine JL_qg (q_eql) (k := ?_)
    refine JL_qg (q_pickT) (k := ?_)
    refine JL_qg (q_move) (k := ?_)
    refine JL_dec 113 rfl (fun hq30 => ?_) (fun hq30 => ?_)
    rotate_left
    · refine JL_skips 3 rfl ?_
      refine JL_qg (q_pickF) (k := ?_)
      refine JL_qg (q_pickF) (k := ?_)
      refine JL_q (q_pickT) (k := ?_)
      refine JL_q (q_move) (k := ?_)
      refine JL_skips 11 rfl ?_
      refine JL_q (q_pickF) (k := ?_)
      refine JL_q (q_assign) (k := ?_)
      refine JL_nil ?_
      refine JX_seq ?_
      refine J_ret ?_
      refine JX_ret Tryd.results6 (Res.tmp rfl Res.nil) (fun w1 hw1 => ?_)
      exact ⟨(by rw [(((((((((((hF.pos hq1).neg hq2).neg hq3).neg hq4).t hq23).t hq24).pos hq25).neg hq26).pos hq29).neg hq30)).eq] <;> rfl), hw1.ext_out⟩
    refine JL_qg (q_move) (k := ?_)
    refine JL_qg (q_move) (k := ?_)
    refine JL_qg (q_eqT) (k := ?_)
    refine JL_qg (q_pickT) (k := ?_)
    refine JL_qg (q_pickF) (k := ?_)
    refine JL_q (q_pickT) (k := ?_)
    refine JL_q (q_move) (k := ?_)
    refine JL_dec 120 rfl (fun hq31 => ?_) (fun hq31 => ?_)
    rotate_left
    · refine JL_skips 11 rfl ?_
      refine JL_q (q_pickF) (k := ?_)
      refine JL_q (q_assign) (k := ?_)
      refine JL_nil ?_
      refine JX_seq ?_
      refine J_ret ?_
      refine JX_ret Tryd.results6 (Res.tmp rfl Res.nil) (fun w1 hw1 => ?_)
      exact ⟨(by rw [((((((((((((hF.pos hq1).neg hq2).neg hq3).neg hq4).t hq23).t hq24).pos hq25).neg hq26).pos hq29).pos hq30).neg hq31)).eq] <;> rfl), hw1.ext_out⟩
    refine JL_qg (q_move) (k := ?_)
    refine JL_qg (q_neq) (k := ?_)
    refine JL_qg (q_move) (k := ?_)
    refine JL_dec 123 rfl (fun hq32 => ?_) (fun hq32 => ?_)
    · refine JL_skips 7 rfl ?_
      refine JL_qg (q_pickT) (k := ?_)
      refine JL_q (q_pickT) (k := ?_)
      refine JL_q (q_assign) (k := ?_)
      refine JL_nil ?_
      refine JX_seq ?_
      refine J_ret ?_
      refine JX_ret Tryd.results6 (Res.tmp rfl Res.nil) (fun w1 hw1 => ?_)
      exact ⟨(by rw [(((((((((((((hF.pos hq1).neg hq2).neg hq3).neg hq4).t hq23).t hq24).pos hq25).neg hq26).pos hq29).pos hq30).pos hq31).pos hq32)).eq] <;> rfl), hw1.ext_out⟩
    refine JL_qg (q_move) (k := ?_)
    refine JL_qg (q_eql) (k := ?_)
    refine JL_qg (q_move) (k := ?_)
    refine JL_dec 126 rfl (fun hq33 => ?_) (fun hq33 => ?_)
    rotate_left
    · refine JL_skips 3 rfl ?_
      refine JL_qg (q_pickF) (k := ?_)
      refine JL_qg (q_pickF) (k := ?_)
      refine JL_q (q_pickT) (k := ?_)
      refine JL_q (q_assign) (k := ?_)
      refine JL_nil ?_
      refine JX_seq ?_
      refine J_ret ?_
      refine JX_ret Tryd.results6 (Res.tmp rfl Res.nil) (fun w1 hw1 => ?_)
      exact ⟨(by rw [((((((((((((((hF.pos hq1).neg hq2).neg hq3).neg hq4).t hq23).t hq24).pos hq25).neg hq26).pos hq29).pos hq30).pos hq31).neg hq32).neg hq33)).eq] <;> rfl), hw1.ext_out⟩
    refine JL_qg (q_move) (k := ?_)
    refine JL_qg (q_move) (k := ?_)
    refine JL_qg (q_eqT) (k := ?_)
    refine JL_qg (q_pickT) (k := ?_)
    refine JL_qg (q_pickF) (k := ?_)
    refine JL_q (q_pickT) (k := ?_)
    refine JL_q (q_assign) (k := ?_)
    refine JL_nil ?_
    refine JX_seq ?_
    refine J_ret ?_
    refine JX_ret Tryd.results6 (Res.tmp rfl Res.nil) (fun w1 hw1 => ?_)
    exact ⟨(by rw [((((((((((((((hF.pos hq1).neg hq2).neg hq3).neg hq4).t hq23).t hq24).pos hq25).neg hq26).pos hq29).pos hq30).pos hq31).neg hq32).pos hq33)).eq] <;> rfl), hw1.ext_out⟩
  refine JL_qg (q_move) (k := ?_)
  refine JL_qg (q_neq) (k := ?_)
  refine JL_qg (q_move) (k := ?_)
  refine JL_dec 64 rfl (fun hq5 => ?_) (fun hq5 => ?_)
  · refine JL_skips 3 rfl ?_
    refine JL_qg (q_pickT) (k := ?_)
    refine JL_qg (q_pickT) (k := ?_)
    refine JL_q (q_pickF) (k := ?_)
    refine JL_nil ?_
    refine JX_seq ?_
    refine J_true rfl ?_
    refine J_seq ?_
    refine J_reg ?_
    refine JL_q (q_assign) (k := ?_)
    refine JL_nil ?_
    refine JX_seq ?_
    refine J_ret ?_
    refine JX_seq_ret ?_
    refine JX_ret Tryd.results6 (Res.tmp rfl Res.nil) (fun w1 hw1 => ?_)
    exact ⟨(by rw [((((((hF.pos hq1).neg hq2).neg hq3).pos hq4).pos hq5)).eq] <;> rfl), hw1.ext_out⟩
  refine JL_qg (q_loadA Tryd.isAgg23 Tryd.sizeOf23) (k := ?_)
  refine JL_qg (q_loadA Tryd.isAgg23 Tryd.sizeOf23) (k := ?_)
  refine JL_qg (q_neS (NE_23 _ _ _ _ _ _)) (k := ?_)
  refine JL_qg (q_pickF) (k := ?_)
  refine JL_qg (q_pickT) (k := ?_)
  refine JL_q (q_pickF) (k := ?_)
  refine JL_nil ?_
  refine JX_seq ?_
  refine J_dec rfl (fun hq6 => ?_) (fun hq6 => ?_)
  · refine J_seq ?_
    refine J_reg ?_
    refine JL_q (q_assign) (k := ?_)
    refine JL_nil ?_
    refine JX_seq ?_
    refine J_ret ?_
    refine JX_seq_ret ?_
    refine JX_ret Tryd.results6 (Res.tmp rfl Res.nil) (fun w1 hw1 => ?_)
    exact ⟨(by rw [(((((((hF.pos hq1).neg hq2).neg hq3).pos hq4).neg hq5).pos hq6)).eq] <;> rfl), hw1.ext_out⟩
  refine J_skip ?_
  refine JX_seq ?_
  refine J_seq ?_
  refine J_reg ?_
  refine JL_q (q_move) (k := ?_)
  refine JL_v (args := [(Value.string (bs (aCut s)))]) (c_callA Tryd.call18) (fun w1 hw1 => aParse_ok w1 (s := (aCut s)) (n_s := by first | omega | (simp only [List.length_append, List.length_take, List.length_drop, List.length_set, List.length_replicate, List.length_cons, List.length_nil, List.length_map]; omega) | (simp only [List.length_append, List.length_take, List.length_drop, List.length_set, List.length_replicate, List.length_cons, List.length_nil, List.length_map] at *; omega) | decide) (hG := hG.ext hw1.ext_out)) (k := ?_)
  refine JL_q (q_move) (k := ?_)
  refine JL_q (q_ext) (k := ?_)
  refine JL_q (q_ext) (k := ?_)
  refine JL_q (q_assign) (k := ?_)
  refine JL_q (q_assign) (k := ?_)
  refine JL_nil ?_
  refine JX_seq ?_
  refine J_seq ?_
  refine J_reg ?_
  refine JL_q (q_move) (k := ?_)
  refine JL_v (args := [(Value.int .i64 (((aParse (aCut s)).1)))]) (c_callA Tryd.call16) (fun w1 hw1 => aPrint_ok w1 (a := ((aParse (aCut s)).1)) (hG := hG.ext hw1.ext_out)) (k := ?_)
  have hpl_51896 := aPrint_len ((aParse (aCut s)).1)
  refine JL_q (q_move) (k := ?_)
  refine JL_q (q_ext) (k := ?_)
  refine JL_q (q_ext) (k := ?_)
  refine JL_q (q_assign) (k := ?_)
  refine JL_q (q_assign) (k := ?_)
  refine JL_nil ?_
  refine JX_seq ?_
  refine J_seq ?_
  refine J_reg ?_
  refine JL_q (q_move) (k := ?_)
  refine JL_v (args := [(Value.string (bs (aCut s)))]) (c_callA Tryd.call22) (fun w1 hw1 => aParsePrefix_ok w1 (s := (aCut s)) (n_s := by first | omega | (simp only [List.length_append, List.length_take, List.length_drop, List.length_set, List.length_replicate, List.length_cons, List.length_nil, List.length_map]; omega) | (simp only [List.length_append, List.length_take, List.length_drop, List.length_set, List.length_replicate, List.length_cons, List.length_nil, List.length_map] at *; omega) | decide) (hG := hG.ext hw1.ext_out)) (k := ?_)
  refine JL_q (q_move) (k := ?_)
  refine JL_q (q_ext) (k := ?_)
  refine JL_q (q_ext) (k := ?_)
  refine JL_a noMk (a_alloc (l := [_, _]) Tryd.zeroValue23) (k := fun r3 hr3 => ?_)
  refine JL_s (w_store (l' := [_, _]) Tryd.sizeOf23) (k := ?_)
  refine JL_q (q_assign) (k := ?_)
  refine JL_nil ?_
  refine JX_seq ?_
  refine J_seq ?_
  refine J_reg ?_
  refine JL_q (q_loadA Tryd.isAgg23 Tryd.sizeOf23) (k := ?_)
  refine JL_v (args := [(Value.agg [(Value.int .i64 (((aParsePrefix (aCut s)).1.addr))), (Value.int .i64 (((aParsePrefix (aCut s)).1.bits)))].toArray)]) (c_callA Tryd.call20) (fun w1 hw1 => aPrintPrefix_ok w1 (p := (aParsePrefix (aCut s)).1) (hG := hG.ext hw1.ext_out)) (k := ?_)
  have hpp_65843 := aPrintPrefix_len ((aParsePrefix (aCut s)).1)
  refine JL_q (q_move) (k := ?_)
  refine JL_q (q_ext) (k := ?_)
  refine JL_q (q_ext) (k := ?_)
  refine JL_q (q_assign) (k := ?_)
  refine JL_q (q_assign) (k := ?_)
  refine JL_nil ?_
  refine JX_seq ?_
  refine J_seq ?_
  refine J_reg ?_
  refine JL_q (q_move) (k := ?_)
  refine JL_q (q_move) (k := ?_)
  refine JL_bool 92 rfl (fun hq7 => ?_) (fun hq7 => ?_)
  rotate_left
  · refine JL_skips 5 rfl ?_
    refine JL_q (q_pickF) (k := ?_)
    refine JL_q (q_move) (k := ?_)
    refine JL_skips 19 rfl ?_
    refine JL_q (q_pickF) (k := ?_)
    refine JL_q (q_move) (k := ?_)
    refine JL_skips 11 rfl ?_
    refine JL_q (q_pickF) (k := ?_)
    refine JL_q (q_assign) (k := ?_)
    refine JL_nil ?_
    refine JX_seq ?_
    refine J_ret ?_
    refine JX_ret Tryd.results6 (Res.tmp rfl Res.nil) (fun w1 hw1 => ?_)
    exact ⟨(by rw [((((((((hF.pos hq1).neg hq2).neg hq3).pos hq4).neg hq5).neg hq6).f hq7)).eq] <;> rfl), hw1.ext_out⟩
  refine JL_qg (q_move) (k := ?_)
  refine JL_qg (q_eql) (k := ?_)
  refine JL_qg (q_loadA Tryd.isAgg23 Tryd.sizeOf23) (k := ?_)
  refine JL_vg (args := [(Value.agg [(Value.int .i64 (p.addr)), (Value.int .i64 (p.bits))].toArray)]) (c_callA Tryd.call13) (fun w1 hw1 => aRight_ok w1 (p := p)) (k := ?_)
  refine JL_qg (q_eqlB Tryd.runUnderlying4) (k := ?_)
  refine JL_q (q_pickT) (k := ?_)
  refine JL_q (q_move) (k := ?_)
  refine JL_bool 99 rfl (fun hq8 => ?_) (fun hq8 => ?_)
  rotate_left
  · refine JL_skips 19 rfl ?_
    refine JL_q (q_pickF) (k := ?_)
    refine JL_q (q_move) (k := ?_)
    refine JL_skips 11 rfl ?_
    refine JL_q (q_pickF) (k := ?_)
    refine JL_q (q_assign) (k := ?_)
    refine JL_nil ?_
    refine JX_seq ?_
    refine J_ret ?_
    refine JX_ret Tryd.results6 (Res.tmp rfl Res.nil) (fun w1 hw1 => ?_)
    exact ⟨(by rw [(((((((((hF.pos hq1).neg hq2).neg hq3).pos hq4).neg hq5).neg hq6).t hq7).f hq8)).eq] <;> rfl), hw1.ext_out⟩
  refine JL_qg (q_move) (k := ?_)
  refine JL_qg (q_neq) (k := ?_)
  refine JL_qg (q_move) (k := ?_)
  refine JL_dec 102 rfl (fun hq9 => ?_) (fun hq9 => ?_)
  rotate_left
  · refine JL_skips 2 rfl ?_
    refine JL_qg (q_pickF) (k := ?_)
    refine JL_qg (q_move) (k := ?_)
    refine JL_qg (q_move) (k := ?_)
    refine JL_qg (q_eql) (k := ?_)
    refine JL_qg (q_move) (k := ?_)
    refine JL_dec 109 rfl (fun hq18 => ?_) (fun hq18 => ?_)
    rotate_left
    · refine JL_skips 2 rfl ?_
      refine JL_qg (q_pickF) (k := ?_)
      refine JL_qg (q_move) (k := ?_)
      refine JL_skips 3 rfl ?_
      refine JL_qg (q_pickF) (k := ?_)
      refine JL_qg (q_pickF) (k := ?_)
      refine JL_q (q_pickT) (k := ?_)
      refine JL_q (q_move) (k := ?_)
      refine JL_skips 11 rfl ?_
      refine JL_q (q_pickF) (k := ?_)
      refine JL_q (q_assign) (k := ?_)
      refine JL_nil ?_
      refine JX_seq ?_
      refine J_ret ?_
      refine JX_ret Tryd.results6 (Res.tmp rfl Res.nil) (fun w1 hw1 => ?_)
      exact ⟨(by rw [(((((((((((hF.pos hq1).neg hq2).neg hq3).pos hq4).neg hq5).neg hq6).t hq7).t hq8).neg hq9).neg hq18)).eq] <;> rfl), hw1.ext_out⟩
    refine JL_qg (q_move) (k := ?_)
    refine JL_qg (q_eql) (k := ?_)
    refine JL_qg (q_pickT) (k := ?_)
    refine JL_qg (q_move) (k := ?_)
    refine JL_dec 113 rfl (fun hq19 => ?_) (fun hq19 => ?_)
    rotate_left
    · refine JL_skips 3 rfl ?_
      refine JL_qg (q_pickF) (k := ?_)
      refine JL_qg (q_pickF) (k := ?_)
      refine JL_q (q_pickT) (k := ?_)
      refine JL_q (q_move) (k := ?_)
      refine JL_skips 11 rfl ?_
      refine JL_q (q_pickF) (k := ?_)
      refine JL_q (q_assign) (k := ?_)
      refine JL_nil ?_
      refine JX_seq ?_
      refine J_ret ?_
      refine JX_ret Tryd.results6 (Res.tmp rfl Res.nil) (fun w1 hw1 => ?_)
      exact ⟨(by rw [((((((((((((hF.pos hq1).neg hq2).neg hq3).pos hq4).neg hq5).neg hq6).t hq7).t hq8).neg hq9).pos hq18).neg hq19)).eq] <;> rfl), hw1.ext_out⟩
    refine JL_qg (q_move) (k := ?_)
    refine JL_qg (q_move) (k := ?_)
    refine JL_qg (q_eqT) (k := ?_)
    refine JL_qg (q_pickT) (k := ?_)
    refine JL_qg (q_pickF) (k := ?_)
    refine JL_q (q_pickT) (k := ?_)
    refine JL_q (q_move) (k := ?_)
    refine JL_dec 120 rfl (fun hq20 => ?_) (fun hq20 => ?_)
    rotate_left
    · refine JL_skips 11 rfl ?_
      refine JL_q (q_pickF) (k := ?_)
      refine JL_q (q_assign) (k := ?_)
      refine JL_nil ?_
      refine JX_seq ?_
      refine J_ret ?_
      refine JX_ret Tryd.results6 (Res.tmp rfl Res.nil) (fun w1 hw1 => ?_)
      exact ⟨(by rw [(((((((((((((hF.pos hq1).neg hq2).neg hq3).pos hq4).neg hq5).neg hq6).t hq7).t hq8).neg hq9).pos hq18).pos hq19).neg hq20)).eq] <;> rfl), hw1.ext_out⟩
    refine JL_qg (q_move) (k := ?_)
    refine JL_qg (q_neq) (k := ?_)
    refine JL_qg (q_move) (k := ?_)
    refine JL_dec 123 rfl (fun hq21 => ?_) (fun hq21 => ?_)
    · refine JL_skips 7 rfl ?_
      refine JL_qg (q_pickT) (k := ?_)
      refine JL_q (q_pickT) (k := ?_)
      refine JL_q (q_assign) (k := ?_)
      refine JL_nil ?_
      refine JX_seq ?_
      refine J_ret ?_
      refine JX_ret Tryd.results6 (Res.tmp rfl Res.nil) (fun w1 hw1 => ?_)
      exact ⟨(by rw [((((((((((((((hF.pos hq1).neg hq2).neg hq3).pos hq4).neg hq5).neg hq6).t hq7).t hq8).neg hq9).pos hq18).pos hq19).pos hq20).pos hq21)).eq] <;> rfl), hw1.ext_out⟩
    refine JL_qg (q_move) (k := ?_)
    refine JL_qg (q_eql) (k := ?_)
    refine JL_qg (q_move) (k := ?_)
    refine JL_dec 126 rfl (fun hq22 => ?_) (fun hq22 => ?_)
    rotate_left
    · refine JL_skips 3 rfl ?_
      refine JL_qg (q_pickF) (k := ?_)
      refine JL_qg (q_pickF) (k := ?_)
      refine JL_q (q_pickT) (k := ?_)
      refine JL_q (q_assign) (k := ?_)
      refine JL_nil ?_
      refine JX_seq ?_
      refine J_ret ?_
      refine JX_ret Tryd.results6 (Res.tmp rfl Res.nil) (fun w1 hw1 => ?_)
      exact ⟨(by rw [(((((((((((((((hF.pos hq1).neg hq2).neg hq3).pos hq4).neg hq5).neg hq6).t hq7).t hq8).neg hq9).pos hq18).pos hq19).pos hq20).neg hq21).neg hq22)).eq] <;> rfl), hw1.ext_out⟩
    refine JL_qg (q_move) (k := ?_)
    refine JL_qg (q_move) (k := ?_)
    refine JL_qg (q_eqT) (k := ?_)
    refine JL_qg (q_pickT) (k := ?_)
    refine JL_qg (q_pickF) (k := ?_)
    refine JL_q (q_pickT) (k := ?_)
    refine JL_q (q_assign) (k := ?_)
    refine JL_nil ?_
    refine JX_seq ?_
    refine J_ret ?_
    refine JX_ret Tryd.results6 (Res.tmp rfl Res.nil) (fun w1 hw1 => ?_)
    exact ⟨(by rw [(((((((((((((((hF.pos hq1).neg hq2).neg hq3).pos hq4).neg hq5).neg hq6).t hq7).t hq8).neg hq9).pos hq18).pos hq19).pos hq20).neg hq21).pos hq22)).eq] <;> rfl), hw1.ext_out⟩
  refine JL_qg (q_move) (k := ?_)
  refine JL_qg (q_eql) (k := ?_)
  refine JL_qg (q_pickT) (k := ?_)
  refine JL_qg (q_move) (k := ?_)
  refine JL_dec 106 rfl (fun hq10 => ?_) (fun hq10 => ?_)
  · refine JL_skips 11 rfl ?_
    refine JL_qg (q_pickT) (k := ?_)
    refine JL_q (q_pickT) (k := ?_)
    refine JL_q (q_move) (k := ?_)
    refine JL_qg (q_move) (k := ?_)
    refine JL_qg (q_neq) (k := ?_)
    refine JL_qg (q_move) (k := ?_)
    refine JL_dec 123 rfl (fun hq11 => ?_) (fun hq11 => ?_)
    · refine JL_skips 7 rfl ?_
      refine JL_qg (q_pickT) (k := ?_)
      refine JL_q (q_pickT) (k := ?_)
      refine JL_q (q_assign) (k := ?_)
      refine JL_nil ?_
      refine JX_seq ?_
      refine J_ret ?_
      refine JX_ret Tryd.results6 (Res.tmp rfl Res.nil) (fun w1 hw1 => ?_)
      exact ⟨(by rw [((((((((((((hF.pos hq1).neg hq2).neg hq3).pos hq4).neg hq5).neg hq6).t hq7).t hq8).pos hq9).pos hq10).pos hq11)).eq] <;> rfl), hw1.ext_out⟩
    refine JL_qg (q_move) (k := ?_)
    refine JL_qg (q_eql) (k := ?_)
    refine JL_qg (q_move) (k := ?_)
    refine JL_dec 126 rfl (fun hq12 => ?_) (fun hq12 => ?_)
    rotate_left
    · refine JL_skips 3 rfl ?_
      refine JL_qg (q_pickF) (k := ?_)
      refine JL_qg (q_pickF) (k := ?_)
      refine JL_q (q_pickT) (k := ?_)
      refine JL_q (q_assign) (k := ?_)
      refine JL_nil ?_
      refine JX_seq ?_
      refine J_ret ?_
      refine JX_ret Tryd.results6 (Res.tmp rfl Res.nil) (fun w1 hw1 => ?_)
      exact ⟨(by rw [(((((((((((((hF.pos hq1).neg hq2).neg hq3).pos hq4).neg hq5).neg hq6).t hq7).t hq8).pos hq9).pos hq10).neg hq11).neg hq12)).eq] <;> rfl), hw1.ext_out⟩
    refine JL_qg (q_move) (k := ?_)
    refine JL_qg (q_move) (k := ?_)
    refine JL_qg (q_eqT) (k := ?_)
    refine JL_qg (q_pickT) (k := ?_)
    refine JL_qg (q_pickF) (k := ?_)
    refine JL_q (q_pickT) (k := ?_)
    refine JL_q (q_assign) (k := ?_)
    refine JL_nil ?_
    refine JX_seq ?_
    refine J_ret ?_
    refine JX_ret Tryd.results6 (Res.tmp rfl Res.nil) (fun w1 hw1 => ?_)
    exact ⟨(by rw [(((((((((((((hF.pos hq1).neg hq2).neg hq3).pos hq4).neg hq5).neg hq6).t hq7).t hq8).pos hq9).pos hq10).neg hq11).pos hq12)).eq] <;> rfl), hw1.ext_out⟩
  refine JL_qg (q_move) (k := ?_)
  refine JL_qg (q_eql) (k := ?_)
  refine JL_qg (q_move) (k := ?_)
  refine JL_dec 109 rfl (fun hq13 => ?_) (fun hq13 => ?_)
  rotate_left
  · refine JL_skips 2 rfl ?_
    refine JL_qg (q_pickF) (k := ?_)
    refine JL_qg (q_move) (k := ?_)
    refine JL_skips 3 rfl ?_
    refine JL_qg (q_pickF) (k := ?_)
    refine JL_qg (q_pickF) (k := ?_)
    refine JL_q (q_pickT) (k := ?_)
    refine JL_q (q_move) (k := ?_)
    refine JL_skips 11 rfl ?_
    refine JL_q (q_pickF) (k := ?_)
    refine JL_q (q_assign) (k := ?_)
    refine JL_nil ?_
    refine JX_seq ?_
    refine J_ret ?_
    refine JX_ret Tryd.results6 (Res.tmp rfl Res.nil) (fun w1 hw1 => ?_)
    exact ⟨(by rw [((((((((((((hF.pos hq1).neg hq2).neg hq3).pos hq4).neg hq5).neg hq6).t hq7).t hq8).pos hq9).neg hq10).neg hq13)).eq] <;> rfl), hw1.ext_out⟩
  refine JL_qg (q_move) (k := ?_)
  refine JL_qg (q_eql) (k := ?_)
  refine JL_qg (q_pickT) (k := ?_)
  refine JL_qg (q_move) (k := ?_)
  refine JL_dec 113 rfl (fun hq14 => ?_) (fun hq14 => ?_)
  rotate_left
  · refine JL_skips 3 rfl ?_
    refine JL_qg (q_pickF) (k := ?_)
    refine JL_qg (q_pickF) (k := ?_)
    refine JL_q (q_pickT) (k := ?_)
    refine JL_q (q_move) (k := ?_)
    refine JL_skips 11 rfl ?_
    refine JL_q (q_pickF) (k := ?_)
    refine JL_q (q_assign) (k := ?_)
    refine JL_nil ?_
    refine JX_seq ?_
    refine J_ret ?_
    refine JX_ret Tryd.results6 (Res.tmp rfl Res.nil) (fun w1 hw1 => ?_)
    exact ⟨(by rw [(((((((((((((hF.pos hq1).neg hq2).neg hq3).pos hq4).neg hq5).neg hq6).t hq7).t hq8).pos hq9).neg hq10).pos hq13).neg hq14)).eq] <;> rfl), hw1.ext_out⟩
  refine JL_qg (q_move) (k := ?_)
  refine JL_qg (q_move) (k := ?_)
  refine JL_qg (q_eqT) (k := ?_)
  refine JL_qg (q_pickT) (k := ?_)
  refine JL_qg (q_pickF) (k := ?_)
  refine JL_q (q_pickT) (k := ?_)
  refine JL_q (q_move) (k := ?_)
  refine JL_dec 120 rfl (fun hq15 => ?_) (fun hq15 => ?_)
  rotate_left
  · refine JL_skips 11 rfl ?_
    refine JL_q (q_pickF) (k := ?_)
    refine JL_q (q_assign) (k := ?_)
    refine JL_nil ?_
    refine JX_seq ?_
    refine J_ret ?_
    refine JX_ret Tryd.results6 (Res.tmp rfl Res.nil) (fun w1 hw1 => ?_)
    exact ⟨(by rw [((((((((((((((hF.pos hq1).neg hq2).neg hq3).pos hq4).neg hq5).neg hq6).t hq7).t hq8).pos hq9).neg hq10).pos hq13).pos hq14).neg hq15)).eq] <;> rfl), hw1.ext_out⟩
  refine JL_qg (q_move) (k := ?_)
  refine JL_qg (q_neq) (k := ?_)
  refine JL_qg (q_move) (k := ?_)
  refine JL_dec 123 rfl (fun hq16 => ?_) (fun hq16 => ?_)
  · refine JL_skips 7 rfl ?_
    refine JL_qg (q_pickT) (k := ?_)
    refine JL_q (q_pickT) (k := ?_)
    refine JL_q (q_assign) (k := ?_)
    refine JL_nil ?_
    refine JX_seq ?_
    refine J_ret ?_
    refine JX_ret Tryd.results6 (Res.tmp rfl Res.nil) (fun w1 hw1 => ?_)
    exact ⟨(by rw [(((((((((((((((hF.pos hq1).neg hq2).neg hq3).pos hq4).neg hq5).neg hq6).t hq7).t hq8).pos hq9).neg hq10).pos hq13).pos hq14).pos hq15).pos hq16)).eq] <;> rfl), hw1.ext_out⟩
  refine JL_qg (q_move) (k := ?_)
  refine JL_qg (q_eql) (k := ?_)
  refine JL_qg (q_move) (k := ?_)
  refine JL_dec 126 rfl (fun hq17 => ?_) (fun hq17 => ?_)
  rotate_left
  · refine JL_skips 3 rfl ?_
    refine JL_qg (q_pickF) (k := ?_)
    refine JL_qg (q_pickF) (k := ?_)
    refine JL_q (q_pickT) (k := ?_)
    refine JL_q (q_assign) (k := ?_)
    refine JL_nil ?_
    refine JX_seq ?_
    refine J_ret ?_
    refine JX_ret Tryd.results6 (Res.tmp rfl Res.nil) (fun w1 hw1 => ?_)
    exact ⟨(by rw [((((((((((((((((hF.pos hq1).neg hq2).neg hq3).pos hq4).neg hq5).neg hq6).t hq7).t hq8).pos hq9).neg hq10).pos hq13).pos hq14).pos hq15).neg hq16).neg hq17)).eq] <;> rfl), hw1.ext_out⟩
  refine JL_qg (q_move) (k := ?_)
  refine JL_qg (q_move) (k := ?_)
  refine JL_qg (q_eqT) (k := ?_)
  refine JL_qg (q_pickT) (k := ?_)
  refine JL_qg (q_pickF) (k := ?_)
  refine JL_q (q_pickT) (k := ?_)
  refine JL_q (q_assign) (k := ?_)
  refine JL_nil ?_
  refine JX_seq ?_
  refine J_ret ?_
  refine JX_ret Tryd.results6 (Res.tmp rfl Res.nil) (fun w1 hw1 => ?_)
  exact ⟨(by rw [((((((((((((((((hF.pos hq1).neg hq2).neg hq3).pos hq4).neg hq5).neg hq6).t hq7).t hq8).pos hq9).neg hq10).pos hq13).pos hq14).pos hq15).neg hq16).pos hq17)).eq] <;> rfl), hw1.ext_out⟩

end Go.Proofs.YtnobbbkeomocgaaDoor.Jd
