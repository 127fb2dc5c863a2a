/- Part of the proofs of the laws of slots: walks of functions. No condition. -/
import Derived.Test.YtofkflecgnmemaaProg
import Derived.Test.YtofkflecgnmemaaWalkA
import Derived.Test.YtofkflecgnmemaaPlainA
namespace Go.Proofs.Ytofkflecgnmemaa.Jd
open Go.Proofs
open Go.RowKit (Below)
set_option maxRecDepth 100000
set_option linter.unusedVariables false
set_option linter.unusedSimpArgs false

theorem SlotsKeeps_a (w : World) {ga ua fa : Option Addr} {gc uc fc : Nat} {gl : List Int} {ul : List Bool} {fl : List Int} {h1 h2 : Int} (hg : Sl w eI 1 ga gl) (hu : Sl w eB 1 ua ul) (hfr : Sl w eI 1 fa fl) (kg : gl.length ≤ gc) (ku : ul.length ≤ uc) (kf : fl.length ≤ fc) (hr : rightB (gl.take 66) (ul.take 66) (fl.take 66) = false) (hT : takeD (gl.take 66) (ul.take 66) (fl.take 66) = (([], [], []), (0, 0), 90)) : Val Try.prog 4 [(Value.agg [(Value.slice (ga) (gl.length) (gc)), (Value.slice (ua) (ul.length) (uc)), (Value.slice (fa) (fl.length) (fc))].toArray), (Value.agg [(Value.int .i64 (h1)), (Value.int .i64 (h2))].toArray)] w (Value.bool (true)) := by
  have hal := allD_le (gl := gl.take 66) (ul := ul.take 66) (fl := fl.take 66)
  have h66 : (ul.take 66).length ≤ 66 := by rw [List.length_take]; omega
  have h66f : (fl.take 66).length ≤ 66 := by rw [List.length_take]; omega
  have h66g : (gl.take 66).length ≤ 66 := by rw [List.length_take]; omega
  refine enter Try.func4 Try.ntmps4 (h := ?_)
  refine J_seq ?_
  refine J_reg ?_
  refine JL_a noMk (a_box (l := [_, _, _])) (k := fun r1 hr1 => ?_)
  refine JL_a noMk (a_box (l := [_, _])) (k := fun r2 hr2 => ?_)
  refine JL_q (q_assign) (k := ?_)
  refine JL_nil ?_
  refine JX_seq ?_
  refine J_seq ?_
  refine J_reg ?_
  refine JL_v (args := []) (c_callA Try.call9) (fun w1 hw1 => shown_ok w1 ) (k := ?_)
  refine JL_q (q_assign) (k := ?_)
  refine JL_nil ?_
  refine JX_seq ?_
  refine J_seq ?_
  refine J_reg ?_
  refine JL_q (q_loadA Try.isAgg25 Try.sizeOf25) (k := ?_)
  refine JL_v (args := [(Value.agg [(Value.slice (ga) (gl.length) (gc)), (Value.slice (ua) (ul.length) (uc)), (Value.slice (fa) (fl.length) (fc))].toArray)]) (c_callA Try.call10) (fun w1 hw1 => Cut_ok w1 (fl := fl) (ul := ul) (gl := gl) (hg := (SlJ.of_base hg) w1 hw1) (hu := (SlJ.of_base hu) w1 hw1) (hfr := (SlJ.of_base hfr) w1 hw1) (kg := by first | omega | decide | (simp only [List.length_set, List.length_take]; omega)) (ku := by first | omega | decide | (simp only [List.length_set, List.length_take]; omega)) (kf := by first | omega | decide | (simp only [List.length_set, List.length_take]; omega))) (k := ?_)
  refine JL_s (w_store (l' := [_, _, _]) Try.sizeOf25) (k := ?_)
  refine JL_nil ?_
  refine JX_seq ?_
  refine J_seq ?_
  refine J_reg ?_
  refine JL_q (q_loadA Try.isAgg25 Try.sizeOf25) (k := ?_)
  refine JL_p (args := [(Value.agg [(Value.slice (ga) ((gl.take 66).length) (gc)), (Value.slice (ua) ((ul.take 66).length) (uc)), (Value.slice (fa) ((fl.take 66).length) (fc))].toArray)]) (c_callA Try.call11) (fun w1 hw1 => Take_ok w1 (fl := fl.take 66) (ul := ul.take 66) (gl := gl.take 66) (hg := ((SlJ.of_base hg).take 66) w1 hw1) (hu := ((SlJ.of_base hu).take 66) w1 hw1) (hfr := ((SlJ.of_base hfr).take 66) w1 hw1) (ng := by first | omega | decide | (simp only [List.length_set, List.length_take]; omega)) (nu := by first | omega | decide | (simp only [List.length_set, List.length_take]; omega)) (nf := by first | omega | decide | (simp only [List.length_set, List.length_take]; omega))) (k := ?_)
  rintro w1_1 e1_1 w2_1 hw1_1 ⟨a1_1, c1_1, a2_1, c2_1, a3_1, c3_1, B_1, he_1, hf_1, hs1_1, hs2_1, hs3_1⟩
  rw [hT] at he_1 hs1_1 hs2_1 hs3_1
  refine ⟨_, (B_1 ++ ((r2, Obj.cells [(Value.int .i64 (h1)), (Value.int .i64 (h2))].toArray 27) :: ((r1, Obj.cells [(Value.slice (ga) ((gl.take 66).length) (gc)), (Value.slice (ua) ((ul.take 66).length) (uc)), (Value.slice (fa) ((fl.take 66).length) (fc))].toArray 25) :: []))), he_1, hw1_1.fresh hf_1, ?_⟩
  refine JL_q (q_move) (k := ?_)
  refine JL_q (q_ext) (k := ?_)
  refine JL_q (q_ext) (k := ?_)
  refine JL_q (q_ext) (k := ?_)
  refine JL_a noMk (a_alloc (l := [_, _, _]) Try.zeroValue25) (k := fun r3 hr3 => ?_)
  refine JL_a noMk (a_alloc (l := [_, _]) Try.zeroValue27) (k := fun r4 hr4 => ?_)
  refine JL_s (w_store (l' := [_, _, _]) Try.sizeOf25) (k := ?_)
  refine JL_s (w_store (l' := [_, _]) Try.sizeOf27) (k := ?_)
  refine JL_q (q_assign) (k := ?_)
  refine JL_nil ?_
  refine JX_seq ?_
  refine J_seq ?_
  refine J_seq ?_
  refine J_reg ?_
  refine JL_q (q_move) (k := ?_)
  refine JL_q (q_neq) (k := ?_)
  refine JL_nil ?_
  refine JX_seq ?_
  refine J_true rfl ?_
  refine J_seq ?_
  refine J_reg ?_
  refine JL_q (q_move) (k := ?_)
  refine JL_q (q_move) (k := ?_)
  refine JL_qg (q_fld FO_25_0) (k := ?_)
  refine JL_qg (q_load Try.isAgg22) (k := ?_)
  refine JL_qg (q_lenS Try.runUnderlying22) (k := ?_)
  refine JL_qg (q_eql) (k := ?_)
  refine JL_q (q_pickT) (k := ?_)
  refine JL_q (q_move) (k := ?_)
  refine JL_qg (q_move) (k := ?_)
  refine JL_qg (q_eql) (k := ?_)
  refine JL_qg (q_loadA Try.isAgg25 Try.sizeOf25) (k := ?_)
  refine JL_vg (args := [(Value.agg [(Value.slice (ga) ((gl.take 66).length) (gc)), (Value.slice (ua) ((ul.take 66).length) (uc)), (Value.slice (fa) ((fl.take 66).length) (fc))].toArray)]) (c_callA Try.call16) (fun w1 hw1 => Right_ok w1 (fl := fl.take 66) (ul := ul.take 66) (gl := gl.take 66) (hg := ((SlJ.of_base hg).take 66) w1 hw1) (hu := ((SlJ.of_base hu).take 66) w1 hw1) (hfr := ((SlJ.of_base hfr).take 66) w1 hw1) (ng := by first | omega | decide | (simp only [List.length_set, List.length_take]; omega)) (nu := by first | omega | decide | (simp only [List.length_set, List.length_take]; omega)) (nf := by first | omega | decide | (simp only [List.length_set, List.length_take]; omega))) (k := ?_)
  refine JL_qg (q_not) (k := ?_)
  refine JL_qg (q_eqlB Try.runUnderlying4) (k := ?_)
  refine JL_alter 33 (Value.bool (true)) rfl (congrArg Value.bool (by rw [hr]; rfl)) ?_
  refine JL_q (q_pickT) (k := ?_)
  refine JL_q (q_assign) (k := ?_)
  refine JL_nil ?_
  refine JX_seq ?_
  refine J_ret ?_
  refine JX_seq_ret ?_
  refine JX_ret Try.results4 (Res.tmp rfl Res.nil) (fun w1 hw1 => ?_)
  exact ⟨congrArg Ending.returned (congrArg Value.bool (by rfl)), hw1.ext_out⟩
theorem SlotsKeeps_b (w : World) {ga ua fa : Option Addr} {gc uc fc : Nat} {gl : List Int} {ul : List Bool} {fl : List Int} {h1 h2 : Int} (hg : Sl w eI 1 ga gl) (hu : Sl w eB 1 ua ul) (hfr : Sl w eI 1 fa fl) (kg : gl.length ≤ gc) (ku : ul.length ≤ uc) (kf : fl.length ≤ fc) (hr : rightB (gl.take 66) (ul.take 66) (fl.take 66) = true) (hT : takeD (gl.take 66) (ul.take 66) (fl.take 66) = (([], [], []), (0, 0), 92)) : Val Try.prog 4 [(Value.agg [(Value.slice (ga) (gl.length) (gc)), (Value.slice (ua) (ul.length) (uc)), (Value.slice (fa) (fl.length) (fc))].toArray), (Value.agg [(Value.int .i64 (h1)), (Value.int .i64 (h2))].toArray)] w (Value.bool (true)) := by
  have hal := allD_le (gl := gl.take 66) (ul := ul.take 66) (fl := fl.take 66)
  have h66 : (ul.take 66).length ≤ 66 := by rw [List.length_take]; omega
  have h66f : (fl.take 66).length ≤ 66 := by rw [List.length_take]; omega
  have h66g : (gl.take 66).length ≤ 66 := by rw [List.length_take]; omega
  refine enter Try.func4 Try.ntmps4 (h := ?_)
  refine J_seq ?_
  refine J_reg ?_
  refine JL_a noMk (a_box (l := [_, _, _])) (k := fun r1 hr1 => ?_)
  refine JL_a noMk (a_box (l := [_, _])) (k := fun r2 hr2 => ?_)
  refine JL_q (q_assign) (k := ?_)
  refine JL_nil ?_
  refine JX_seq ?_
  refine J_seq ?_
  refine J_reg ?_
  refine JL_v (args := []) (c_callA Try.call9) (fun w1 hw1 => shown_ok w1 ) (k := ?_)
  refine JL_q (q_assign) (k := ?_)
  refine JL_nil ?_
  refine JX_seq ?_
  refine J_seq ?_
  refine J_reg ?_
  refine JL_q (q_loadA Try.isAgg25 Try.sizeOf25) (k := ?_)
  refine JL_v (args := [(Value.agg [(Value.slice (ga) (gl.length) (gc)), (Value.slice (ua) (ul.length) (uc)), (Value.slice (fa) (fl.length) (fc))].toArray)]) (c_callA Try.call10) (fun w1 hw1 => Cut_ok w1 (fl := fl) (ul := ul) (gl := gl) (hg := (SlJ.of_base hg) w1 hw1) (hu := (SlJ.of_base hu) w1 hw1) (hfr := (SlJ.of_base hfr) w1 hw1) (kg := by first | omega | decide | (simp only [List.length_set, List.length_take]; omega)) (ku := by first | omega | decide | (simp only [List.length_set, List.length_take]; omega)) (kf := by first | omega | decide | (simp only [List.length_set, List.length_take]; omega))) (k := ?_)
  refine JL_s (w_store (l' := [_, _, _]) Try.sizeOf25) (k := ?_)
  refine JL_nil ?_
  refine JX_seq ?_
  refine J_seq ?_
  refine J_reg ?_
  refine JL_q (q_loadA Try.isAgg25 Try.sizeOf25) (k := ?_)
  refine JL_p (args := [(Value.agg [(Value.slice (ga) ((gl.take 66).length) (gc)), (Value.slice (ua) ((ul.take 66).length) (uc)), (Value.slice (fa) ((fl.take 66).length) (fc))].toArray)]) (c_callA Try.call11) (fun w1 hw1 => Take_ok w1 (fl := fl.take 66) (ul := ul.take 66) (gl := gl.take 66) (hg := ((SlJ.of_base hg).take 66) w1 hw1) (hu := ((SlJ.of_base hu).take 66) w1 hw1) (hfr := ((SlJ.of_base hfr).take 66) w1 hw1) (ng := by first | omega | decide | (simp only [List.length_set, List.length_take]; omega)) (nu := by first | omega | decide | (simp only [List.length_set, List.length_take]; omega)) (nf := by first | omega | decide | (simp only [List.length_set, List.length_take]; omega))) (k := ?_)
  rintro w1_1 e1_1 w2_1 hw1_1 ⟨a1_1, c1_1, a2_1, c2_1, a3_1, c3_1, B_1, he_1, hf_1, hs1_1, hs2_1, hs3_1⟩
  rw [hT] at he_1 hs1_1 hs2_1 hs3_1
  refine ⟨_, (B_1 ++ ((r2, Obj.cells [(Value.int .i64 (h1)), (Value.int .i64 (h2))].toArray 27) :: ((r1, Obj.cells [(Value.slice (ga) ((gl.take 66).length) (gc)), (Value.slice (ua) ((ul.take 66).length) (uc)), (Value.slice (fa) ((fl.take 66).length) (fc))].toArray 25) :: []))), he_1, hw1_1.fresh hf_1, ?_⟩
  refine JL_q (q_move) (k := ?_)
  refine JL_q (q_ext) (k := ?_)
  refine JL_q (q_ext) (k := ?_)
  refine JL_q (q_ext) (k := ?_)
  refine JL_a noMk (a_alloc (l := [_, _, _]) Try.zeroValue25) (k := fun r3 hr3 => ?_)
  refine JL_a noMk (a_alloc (l := [_, _]) Try.zeroValue27) (k := fun r4 hr4 => ?_)
  refine JL_s (w_store (l' := [_, _, _]) Try.sizeOf25) (k := ?_)
  refine JL_s (w_store (l' := [_, _]) Try.sizeOf27) (k := ?_)
  refine JL_q (q_assign) (k := ?_)
  refine JL_nil ?_
  refine JX_seq ?_
  refine J_seq ?_
  refine J_seq ?_
  refine J_reg ?_
  refine JL_q (q_move) (k := ?_)
  refine JL_q (q_neq) (k := ?_)
  refine JL_nil ?_
  refine JX_seq ?_
  refine J_true rfl ?_
  refine J_seq ?_
  refine J_reg ?_
  refine JL_q (q_move) (k := ?_)
  refine JL_q (q_move) (k := ?_)
  refine JL_qg (q_fld FO_25_0) (k := ?_)
  refine JL_qg (q_load Try.isAgg22) (k := ?_)
  refine JL_qg (q_lenS Try.runUnderlying22) (k := ?_)
  refine JL_qg (q_eql) (k := ?_)
  refine JL_q (q_pickT) (k := ?_)
  refine JL_q (q_move) (k := ?_)
  refine JL_qg (q_move) (k := ?_)
  refine JL_qg (q_eql) (k := ?_)
  refine JL_qg (q_loadA Try.isAgg25 Try.sizeOf25) (k := ?_)
  refine JL_vg (args := [(Value.agg [(Value.slice (ga) ((gl.take 66).length) (gc)), (Value.slice (ua) ((ul.take 66).length) (uc)), (Value.slice (fa) ((fl.take 66).length) (fc))].toArray)]) (c_callA Try.call16) (fun w1 hw1 => Right_ok w1 (fl := fl.take 66) (ul := ul.take 66) (gl := gl.take 66) (hg := ((SlJ.of_base hg).take 66) w1 hw1) (hu := ((SlJ.of_base hu).take 66) w1 hw1) (hfr := ((SlJ.of_base hfr).take 66) w1 hw1) (ng := by first | omega | decide | (simp only [List.length_set, List.length_take]; omega)) (nu := by first | omega | decide | (simp only [List.length_set, List.length_take]; omega)) (nf := by first | omega | decide | (simp only [List.length_set, List.length_take]; omega))) (k := ?_)
  refine JL_qg (q_not) (k := ?_)
  refine JL_qg (q_eqlB Try.runUnderlying4) (k := ?_)
  refine JL_alter 33 (Value.bool (true)) rfl (congrArg Value.bool (by rw [hr]; rfl)) ?_
  refine JL_q (q_pickT) (k := ?_)
  refine JL_q (q_assign) (k := ?_)
  refine JL_nil ?_
  refine JX_seq ?_
  refine J_ret ?_
  refine JX_seq_ret ?_
  refine JX_ret Try.results4 (Res.tmp rfl Res.nil) (fun w1 hw1 => ?_)
  exact ⟨congrArg Ending.returned (congrArg Value.bool (by rfl)), hw1.ext_out⟩
theorem SlotsKeeps_c (w : World) {i : Nat} {ga ua fa : Option Addr} {gc uc fc : Nat} {gl : List Int} {ul : List Bool} {fl : List Int} {h1 h2 : Int} (hg : Sl w eI 1 ga gl) (hu : Sl w eB 1 ua ul) (hfr : Sl w eI 1 fa fl) (kg : gl.length ≤ gc) (ku : ul.length ≤ uc) (kf : fl.length ≤ fc) (hT : TakeOk (gl.take 66) (ul.take 66) (fl.take 66) i) : Val Try.prog 4 [(Value.agg [(Value.slice (ga) (gl.length) (gc)), (Value.slice (ua) (ul.length) (uc)), (Value.slice (fa) (fl.length) (fc))].toArray), (Value.agg [(Value.int .i64 (h1)), (Value.int .i64 (h2))].toArray)] w (Value.bool (true)) := by
  have hal := allD_le (gl := gl.take 66) (ul := ul.take 66) (fl := fl.take 66)
  have h66 : (ul.take 66).length ≤ 66 := by rw [List.length_take]; omega
  have h66f : (fl.take 66).length ≤ 66 := by rw [List.length_take]; omega
  have h66g : (gl.take 66).length ≤ 66 := by rw [List.length_take]; omega
  have hcn := take_count hT
  refine enter Try.func4 Try.ntmps4 (h := ?_)
  refine J_seq ?_
  refine J_reg ?_
  refine JL_a noMk (a_box (l := [_, _, _])) (k := fun r1 hr1 => ?_)
  refine JL_a noMk (a_box (l := [_, _])) (k := fun r2 hr2 => ?_)
  refine JL_q (q_assign) (k := ?_)
  refine JL_nil ?_
  refine JX_seq ?_
  refine J_seq ?_
  refine J_reg ?_
  refine JL_v (args := []) (c_callA Try.call9) (fun w1 hw1 => shown_ok w1 ) (k := ?_)
  refine JL_q (q_assign) (k := ?_)
  refine JL_nil ?_
  refine JX_seq ?_
  refine J_seq ?_
  refine J_reg ?_
  refine JL_q (q_loadA Try.isAgg25 Try.sizeOf25) (k := ?_)
  refine JL_v (args := [(Value.agg [(Value.slice (ga) (gl.length) (gc)), (Value.slice (ua) (ul.length) (uc)), (Value.slice (fa) (fl.length) (fc))].toArray)]) (c_callA Try.call10) (fun w1 hw1 => Cut_ok w1 (fl := fl) (ul := ul) (gl := gl) (hg := (SlJ.of_base hg) w1 hw1) (hu := (SlJ.of_base hu) w1 hw1) (hfr := (SlJ.of_base hfr) w1 hw1) (kg := by first | omega | decide | (simp only [List.length_set, List.length_take]; omega)) (ku := by first | omega | decide | (simp only [List.length_set, List.length_take]; omega)) (kf := by first | omega | decide | (simp only [List.length_set, List.length_take]; omega))) (k := ?_)
  refine JL_s (w_store (l' := [_, _, _]) Try.sizeOf25) (k := ?_)
  refine JL_nil ?_
  refine JX_seq ?_
  refine J_seq ?_
  refine J_reg ?_
  refine JL_q (q_loadA Try.isAgg25 Try.sizeOf25) (k := ?_)
  refine JL_p (args := [(Value.agg [(Value.slice (ga) ((gl.take 66).length) (gc)), (Value.slice (ua) ((ul.take 66).length) (uc)), (Value.slice (fa) ((fl.take 66).length) (fc))].toArray)]) (c_callA Try.call11) (fun w1 hw1 => Take_ok w1 (fl := fl.take 66) (ul := ul.take 66) (gl := gl.take 66) (hg := ((SlJ.of_base hg).take 66) w1 hw1) (hu := ((SlJ.of_base hu).take 66) w1 hw1) (hfr := ((SlJ.of_base hfr).take 66) w1 hw1) (ng := by first | omega | decide | (simp only [List.length_set, List.length_take]; omega)) (nu := by first | omega | decide | (simp only [List.length_set, List.length_take]; omega)) (nf := by first | omega | decide | (simp only [List.length_set, List.length_take]; omega))) (k := ?_)
  rintro w1_1 e1_1 w2_1 hw1_1 ⟨a1_1, c1_1, a2_1, c2_1, a3_1, c3_1, B_1, he_1, hf_1, hs1_1, hs2_1, hs3_1⟩
  rw [hT.eq] at he_1 hs1_1 hs2_1 hs3_1
  refine ⟨_, (B_1 ++ ((r2, Obj.cells [(Value.int .i64 (h1)), (Value.int .i64 (h2))].toArray 27) :: ((r1, Obj.cells [(Value.slice (ga) ((gl.take 66).length) (gc)), (Value.slice (ua) ((ul.take 66).length) (uc)), (Value.slice (fa) ((fl.take 66).length) (fc))].toArray 25) :: []))), he_1, hw1_1.fresh hf_1, ?_⟩
  refine JL_q (q_move) (k := ?_)
  refine JL_q (q_ext) (k := ?_)
  refine JL_q (q_ext) (k := ?_)
  refine JL_q (q_ext) (k := ?_)
  refine JL_a noMk (a_alloc (l := [_, _, _]) Try.zeroValue25) (k := fun r3 hr3 => ?_)
  refine JL_a noMk (a_alloc (l := [_, _]) Try.zeroValue27) (k := fun r4 hr4 => ?_)
  refine JL_s (w_store (l' := [_, _, _]) Try.sizeOf25) (k := ?_)
  refine JL_s (w_store (l' := [_, _]) Try.sizeOf27) (k := ?_)
  refine JL_q (q_assign) (k := ?_)
  refine JL_nil ?_
  refine JX_seq ?_
  refine J_seq ?_
  refine J_seq ?_
  refine J_reg ?_
  refine JL_q (q_move) (k := ?_)
  refine JL_q (q_neq) (k := ?_)
  refine JL_nil ?_
  refine JX_seq ?_
  refine J_false rfl ?_
  refine J_skip ?_
  refine JX_seq ?_
  refine J_seq ?_
  refine J_plan mixed 41 [(true, 0), (true, 1), (true, 2), (false, 3), (true, 4), (true, 5), (true, 6), (true, 7), (false, 8), (true, 9), (true, 10), (true, 11), (true, 12), (true, 13), (false, 14), (true, 15), (true, 16), (true, 17), (true, 18), (true, 19), (true, 20), (true, 21), (true, 22), (true, 24), (true, 25), (false, 23), (false, 26), (true, 27), (true, 28), (true, 29), (true, 30), (true, 31), (true, 34), (false, 32), (true, 33), (false, 35), (true, 36), (true, 37), (true, 38), (true, 39), (true, 40)] (by kernel_rfl) ?_
  refine JD_q (q_move) (k := ?_)
  refine JD_q (q_move) (k := ?_)
  refine JD_qg (q_loadA Try.isAgg25 Try.sizeOf25) (k := ?_)
  refine JD_vg (args := [(Value.agg [(Value.slice (a1_1) ((((gl.take 66).set i ((gl.take 66).getD i default + 1))).length) (c1_1)), (Value.slice (a2_1) ((((ul.take 66).set i true)).length) (c2_1)), (Value.slice (a3_1) ((((fl.take 66).take ((fl.take 66).length - 1))).length) (c3_1))].toArray)]) (c_callA Try.call16) (fun w1 hw1 => Right_ok w1 (fl := ((fl.take 66).take ((fl.take 66).length - 1))) (ul := ((ul.take 66).set i true)) (gl := ((gl.take 66).set i ((gl.take 66).getD i default + 1))) (hg := (SlB.slj hs1_1) w1 hw1) (hu := (SlB.slj hs2_1) w1 hw1) (hfr := (SlB.slj hs3_1) w1 hw1) (ng := by first | omega | decide | (simp only [List.length_set, List.length_take]; omega)) (nu := by first | omega | decide | (simp only [List.length_set, List.length_take]; omega)) (nf := by first | omega | decide | (simp only [List.length_set, List.length_take]; omega))) (k := ?_)
  refine JD_alter 38 (Value.bool (true)) rfl (congrArg Value.bool (take_right hT)) ?_
  refine JD_q (q_pickT) (k := ?_)
  refine JD_q (q_move) (k := ?_)
  refine JD_qg (q_loadA Try.isAgg25 Try.sizeOf25) (k := ?_)
  refine JD_qg (q_loadA Try.isAgg27 Try.sizeOf27) (k := ?_)
  refine JD_vg (args := [(Value.agg [(Value.slice (ga) ((gl.take 66).length) (gc)), (Value.slice (ua) ((ul.take 66).length) (uc)), (Value.slice (fa) ((fl.take 66).length) (fc))].toArray), (Value.agg [(Value.int .i64 (((i : Nat) : Int))), (Value.int .i64 (((gl.take 66).getD i default + 1)))].toArray)]) (c_callA Try.call17) (fun w1 hw1 => Valid_ok w1 (fl := fl.take 66) (ul := ul.take 66) (gl := gl.take 66) (hg := ((SlJ.of_base hg).take 66) w1 hw1) (hu := ((SlJ.of_base hu).take 66) w1 hw1) (hfr := ((SlJ.of_base hfr).take 66) w1 hw1) (ng := by first | omega | decide | (simp only [List.length_set, List.length_take]; omega)) (nu := by first | omega | decide | (simp only [List.length_set, List.length_take]; omega)) (nf := by first | omega | decide | (simp only [List.length_set, List.length_take]; omega))) (k := ?_)
  refine JD_qg (q_notD) (k := ?_)
  refine JD_alter 44 (Value.bool (true)) rfl (congrArg Value.bool (decide_eq_true (take_new hT))) ?_
  refine JD_q (q_pickT) (k := ?_)
  refine JD_q (q_move) (k := ?_)
  refine JD_qg (q_loadA Try.isAgg25 Try.sizeOf25) (k := ?_)
  refine JD_qg (q_loadA Try.isAgg27 Try.sizeOf27) (k := ?_)
  refine JD_vg (args := [(Value.agg [(Value.slice (a1_1) ((((gl.take 66).set i ((gl.take 66).getD i default + 1))).length) (c1_1)), (Value.slice (a2_1) ((((ul.take 66).set i true)).length) (c2_1)), (Value.slice (a3_1) ((((fl.take 66).take ((fl.take 66).length - 1))).length) (c3_1))].toArray), (Value.agg [(Value.int .i64 (((i : Nat) : Int))), (Value.int .i64 (((gl.take 66).getD i default + 1)))].toArray)]) (c_callA Try.call17) (fun w1 hw1 => Valid_ok w1 (fl := ((fl.take 66).take ((fl.take 66).length - 1))) (ul := ((ul.take 66).set i true)) (gl := ((gl.take 66).set i ((gl.take 66).getD i default + 1))) (hg := (SlB.slj hs1_1) w1 hw1) (hu := (SlB.slj hs2_1) w1 hw1) (hfr := (SlB.slj hs3_1) w1 hw1) (ng := by first | omega | decide | (simp only [List.length_set, List.length_take]; omega)) (nu := by first | omega | decide | (simp only [List.length_set, List.length_take]; omega)) (nf := by first | omega | decide | (simp only [List.length_set, List.length_take]; omega))) (k := ?_)
  refine JD_alter 49 (Value.bool (true)) rfl (congrArg Value.bool (decide_eq_true (take_has hT))) ?_
  refine JD_q (q_pickT) (k := ?_)
  refine JD_q (q_move) (k := ?_)
  refine JD_qg (q_loadA Try.isAgg27 Try.sizeOf27) (k := ?_)
  refine JD_qg (q_loadA Try.isAgg27 Try.sizeOf27) (k := ?_)
  refine JD_qg (q_eqS (EQ_27 _ _ _ _ _ _)) (k := ?_)
  refine JD_qg (q_move) (k := ?_)
  refine JD_dec 55 rfl (fun hq1 => ?_) (fun hq1 => ?_)
  · first
    | (exfalso; omega)
    |
      refine JD_skip (k := ?_)
      refine JD_skip (k := ?_)
      refine JD_skip (k := ?_)
      refine JD_skip (k := ?_)
      refine JD_skip (k := ?_)
      refine JD_skip (k := ?_)
      refine JD_skip (k := ?_)
      refine JD_qg (q_pickT) (k := ?_)
      refine JD_q (q_pickT) (k := ?_)
      refine JD_q (q_move) (k := ?_)
      refine JD_qg (q_loadA Try.isAgg25 Try.sizeOf25) (k := ?_)
      refine JD_qg (q_loadA Try.isAgg25 Try.sizeOf25) (k := ?_)
      refine JD_pg (args := [(Value.agg [(Value.slice (a1_1) ((((gl.take 66).set i ((gl.take 66).getD i default + 1))).length) (c1_1)), (Value.slice (a2_1) ((((ul.take 66).set i true)).length) (c2_1)), (Value.slice (a3_1) ((((fl.take 66).take ((fl.take 66).length - 1))).length) (c3_1))].toArray)]) (c_callA Try.call18) (fun w1 hw1 => All_ok w1 (fl := ((fl.take 66).take ((fl.take 66).length - 1))) (ul := ((ul.take 66).set i true)) (gl := ((gl.take 66).set i ((gl.take 66).getD i default + 1))) (hg := (SlB.slj hs1_1) w1 hw1) (hu := (SlB.slj hs2_1) w1 hw1) (hfr := (SlB.slj hs3_1) w1 hw1) (ng := by first | omega | decide | (simp only [List.length_set, List.length_take]; omega)) (nu := by first | omega | decide | (simp only [List.length_set, List.length_take]; omega)) (nf := by first | omega | decide | (simp only [List.length_set, List.length_take]; omega))) (k := ?_)
      rintro w1_2 e1_2 w2_2 hw1_2 ⟨a2_2, c2_2, B_2, he_2, hf_2, ho_2⟩
      refine ⟨_, _, (B_2 ++ ((r4, Obj.cells [(Value.int .i64 (((i : Nat) : Int))), (Value.int .i64 (((gl.take 66).getD i default + 1)))].toArray 27) :: ((r3, Obj.cells [(Value.slice (a1_1) ((((gl.take 66).set i ((gl.take 66).getD i default + 1))).length) (c1_1)), (Value.slice (a2_1) ((((ul.take 66).set i true)).length) (c2_1)), (Value.slice (a3_1) ((((fl.take 66).take ((fl.take 66).length - 1))).length) (c3_1))].toArray 25) :: (B_1 ++ ((r2, Obj.cells [(Value.int .i64 (h1)), (Value.int .i64 (h2))].toArray 27) :: ((r1, Obj.cells [(Value.slice (ga) ((gl.take 66).length) (gc)), (Value.slice (ua) ((ul.take 66).length) (uc)), (Value.slice (fa) ((fl.take 66).length) (fc))].toArray 25) :: [])))))), he_2, hf_2, rfl, ?_⟩
      refine JD_qg (q_lenS Try.runUnderlying38) (k := ?_)
      refine JD_pg (args := [(Value.agg [(Value.slice (ga) ((gl.take 66).length) (gc)), (Value.slice (ua) ((ul.take 66).length) (uc)), (Value.slice (fa) ((fl.take 66).length) (fc))].toArray)]) (c_callA Try.call18) (fun w1 hw1 => All_ok w1 (fl := fl.take 66) (ul := ul.take 66) (gl := gl.take 66) (hg := ((SlJ.of_base hg).take 66) w1 hw1) (hu := ((SlJ.of_base hu).take 66) w1 hw1) (hfr := ((SlJ.of_base hfr).take 66) w1 hw1) (ng := by first | omega | decide | (simp only [List.length_set, List.length_take]; omega)) (nu := by first | omega | decide | (simp only [List.length_set, List.length_take]; omega)) (nf := by first | omega | decide | (simp only [List.length_set, List.length_take]; omega))) (k := ?_)
      rintro w1_3 e1_3 w2_3 hw1_3 ⟨a2_3, c2_3, B_3, he_3, hf_3, ho_3⟩
      refine ⟨_, _, (B_3 ++ (B_2 ++ ((r4, Obj.cells [(Value.int .i64 (((i : Nat) : Int))), (Value.int .i64 (((gl.take 66).getD i default + 1)))].toArray 27) :: ((r3, Obj.cells [(Value.slice (a1_1) ((((gl.take 66).set i ((gl.take 66).getD i default + 1))).length) (c1_1)), (Value.slice (a2_1) ((((ul.take 66).set i true)).length) (c2_1)), (Value.slice (a3_1) ((((fl.take 66).take ((fl.take 66).length - 1))).length) (c3_1))].toArray 25) :: (B_1 ++ ((r2, Obj.cells [(Value.int .i64 (h1)), (Value.int .i64 (h2))].toArray 27) :: ((r1, Obj.cells [(Value.slice (ga) ((gl.take 66).length) (gc)), (Value.slice (ua) ((ul.take 66).length) (uc)), (Value.slice (fa) ((fl.take 66).length) (fc))].toArray 25) :: []))))))), he_3, hf_3, rfl, ?_⟩
      refine JD_qg (q_lenS Try.runUnderlying38) (k := ?_)
      refine JD_qg (q_add) (k := ?_)
      refine JD_qg (q_eql) (k := ?_)
      refine JD_alter 73 (Value.bool (true)) rfl (congrArg Value.bool (decide_eq_true (by omega))) ?_
      refine JD_q (q_pickT) (k := ?_)
      refine JD_q (q_assign) (k := ?_)
      refine JD_nil ?_
      refine JL_nil ?_
      refine JX_seq ?_
      refine J_ret ?_
      refine JX_ret Try.results4 (Res.tmp rfl Res.nil) (fun w1 hw1 => ?_)
      exact ⟨congrArg Ending.returned (congrArg Value.bool (by rfl)), hw1.ext_out⟩
  · first
    | (exfalso; omega)
    |
      refine JD_qg (q_loadA Try.isAgg25 Try.sizeOf25) (k := ?_)
      refine JD_qg (q_loadA Try.isAgg27 Try.sizeOf27) (k := ?_)
      refine JD_qg (q_loadA Try.isAgg25 Try.sizeOf25) (k := ?_)
      refine JD_qg (q_loadA Try.isAgg27 Try.sizeOf27) (k := ?_)
      refine JD_vg (args := [(Value.agg [(Value.slice (ga) ((gl.take 66).length) (gc)), (Value.slice (ua) ((ul.take 66).length) (uc)), (Value.slice (fa) ((fl.take 66).length) (fc))].toArray), (Value.agg [(Value.int .i64 (h1)), (Value.int .i64 (h2))].toArray)]) (c_callA Try.call17) (fun w1 hw1 => Valid_ok w1 (fl := fl.take 66) (ul := ul.take 66) (gl := gl.take 66) (hg := ((SlJ.of_base hg).take 66) w1 hw1) (hu := ((SlJ.of_base hu).take 66) w1 hw1) (hfr := ((SlJ.of_base hfr).take 66) w1 hw1) (ng := by first | omega | decide | (simp only [List.length_set, List.length_take]; omega)) (nu := by first | omega | decide | (simp only [List.length_set, List.length_take]; omega)) (nf := by first | omega | decide | (simp only [List.length_set, List.length_take]; omega))) (k := ?_)
      refine JD_vg (args := [(Value.agg [(Value.slice (a1_1) ((((gl.take 66).set i ((gl.take 66).getD i default + 1))).length) (c1_1)), (Value.slice (a2_1) ((((ul.take 66).set i true)).length) (c2_1)), (Value.slice (a3_1) ((((fl.take 66).take ((fl.take 66).length - 1))).length) (c3_1))].toArray), (Value.agg [(Value.int .i64 (h1)), (Value.int .i64 (h2))].toArray)]) (c_callA Try.call17) (fun w1 hw1 => Valid_ok w1 (fl := ((fl.take 66).take ((fl.take 66).length - 1))) (ul := ((ul.take 66).set i true)) (gl := ((gl.take 66).set i ((gl.take 66).getD i default + 1))) (hg := (SlB.slj hs1_1) w1 hw1) (hu := (SlB.slj hs2_1) w1 hw1) (hfr := (SlB.slj hs3_1) w1 hw1) (ng := by first | omega | decide | (simp only [List.length_set, List.length_take]; omega)) (nu := by first | omega | decide | (simp only [List.length_set, List.length_take]; omega)) (nf := by first | omega | decide | (simp only [List.length_set, List.length_take]; omega))) (k := ?_)
      refine JD_qg (q_eqlB Try.runUnderlying4) (k := ?_)
      refine JD_alter 62 (Value.bool (true)) rfl (congrArg Value.bool (by rw [beq_iff_eq, decide_eq_decide]; exact take_others hT (by assumption))) ?_
      refine JD_qg (q_pickF) (k := ?_)
      refine JD_q (q_pickT) (k := ?_)
      refine JD_q (q_move) (k := ?_)
      refine JD_qg (q_loadA Try.isAgg25 Try.sizeOf25) (k := ?_)
      refine JD_qg (q_loadA Try.isAgg25 Try.sizeOf25) (k := ?_)
      refine JD_pg (args := [(Value.agg [(Value.slice (a1_1) ((((gl.take 66).set i ((gl.take 66).getD i default + 1))).length) (c1_1)), (Value.slice (a2_1) ((((ul.take 66).set i true)).length) (c2_1)), (Value.slice (a3_1) ((((fl.take 66).take ((fl.take 66).length - 1))).length) (c3_1))].toArray)]) (c_callA Try.call18) (fun w1 hw1 => All_ok w1 (fl := ((fl.take 66).take ((fl.take 66).length - 1))) (ul := ((ul.take 66).set i true)) (gl := ((gl.take 66).set i ((gl.take 66).getD i default + 1))) (hg := (SlB.slj hs1_1) w1 hw1) (hu := (SlB.slj hs2_1) w1 hw1) (hfr := (SlB.slj hs3_1) w1 hw1) (ng := by first | omega | decide | (simp only [List.length_set, List.length_take]; omega)) (nu := by first | omega | decide | (simp only [List.length_set, List.length_take]; omega)) (nf := by first | omega | decide | (simp only [List.length_set, List.length_take]; omega))) (k := ?_)
      rintro w1_4 e1_4 w2_4 hw1_4 ⟨a2_4, c2_4, B_4, he_4, hf_4, ho_4⟩
      refine ⟨_, _, (B_4 ++ ((r4, Obj.cells [(Value.int .i64 (((i : Nat) : Int))), (Value.int .i64 (((gl.take 66).getD i default + 1)))].toArray 27) :: ((r3, Obj.cells [(Value.slice (a1_1) ((((gl.take 66).set i ((gl.take 66).getD i default + 1))).length) (c1_1)), (Value.slice (a2_1) ((((ul.take 66).set i true)).length) (c2_1)), (Value.slice (a3_1) ((((fl.take 66).take ((fl.take 66).length - 1))).length) (c3_1))].toArray 25) :: (B_1 ++ ((r2, Obj.cells [(Value.int .i64 (h1)), (Value.int .i64 (h2))].toArray 27) :: ((r1, Obj.cells [(Value.slice (ga) ((gl.take 66).length) (gc)), (Value.slice (ua) ((ul.take 66).length) (uc)), (Value.slice (fa) ((fl.take 66).length) (fc))].toArray 25) :: [])))))), he_4, hf_4, rfl, ?_⟩
      refine JD_qg (q_lenS Try.runUnderlying38) (k := ?_)
      refine JD_pg (args := [(Value.agg [(Value.slice (ga) ((gl.take 66).length) (gc)), (Value.slice (ua) ((ul.take 66).length) (uc)), (Value.slice (fa) ((fl.take 66).length) (fc))].toArray)]) (c_callA Try.call18) (fun w1 hw1 => All_ok w1 (fl := fl.take 66) (ul := ul.take 66) (gl := gl.take 66) (hg := ((SlJ.of_base hg).take 66) w1 hw1) (hu := ((SlJ.of_base hu).take 66) w1 hw1) (hfr := ((SlJ.of_base hfr).take 66) w1 hw1) (ng := by first | omega | decide | (simp only [List.length_set, List.length_take]; omega)) (nu := by first | omega | decide | (simp only [List.length_set, List.length_take]; omega)) (nf := by first | omega | decide | (simp only [List.length_set, List.length_take]; omega))) (k := ?_)
      rintro w1_5 e1_5 w2_5 hw1_5 ⟨a2_5, c2_5, B_5, he_5, hf_5, ho_5⟩
      refine ⟨_, _, (B_5 ++ (B_4 ++ ((r4, Obj.cells [(Value.int .i64 (((i : Nat) : Int))), (Value.int .i64 (((gl.take 66).getD i default + 1)))].toArray 27) :: ((r3, Obj.cells [(Value.slice (a1_1) ((((gl.take 66).set i ((gl.take 66).getD i default + 1))).length) (c1_1)), (Value.slice (a2_1) ((((ul.take 66).set i true)).length) (c2_1)), (Value.slice (a3_1) ((((fl.take 66).take ((fl.take 66).length - 1))).length) (c3_1))].toArray 25) :: (B_1 ++ ((r2, Obj.cells [(Value.int .i64 (h1)), (Value.int .i64 (h2))].toArray 27) :: ((r1, Obj.cells [(Value.slice (ga) ((gl.take 66).length) (gc)), (Value.slice (ua) ((ul.take 66).length) (uc)), (Value.slice (fa) ((fl.take 66).length) (fc))].toArray 25) :: []))))))), he_5, hf_5, rfl, ?_⟩
      refine JD_qg (q_lenS Try.runUnderlying38) (k := ?_)
      refine JD_qg (q_add) (k := ?_)
      refine JD_qg (q_eql) (k := ?_)
      refine JD_alter 73 (Value.bool (true)) rfl (congrArg Value.bool (decide_eq_true (by omega))) ?_
      refine JD_q (q_pickT) (k := ?_)
      refine JD_q (q_assign) (k := ?_)
      refine JD_nil ?_
      refine JL_nil ?_
      refine JX_seq ?_
      refine J_ret ?_
      refine JX_ret Try.results4 (Res.tmp rfl Res.nil) (fun w1 hw1 => ?_)
      exact ⟨congrArg Ending.returned (congrArg Value.bool (by rfl)), hw1.ext_out⟩
theorem SlotsKeeps_ok (w : World) {ga ua fa : Option Addr} {gc uc fc : Nat} {gl : List Int} {ul : List Bool} {fl : List Int} {h1 h2 : Int} (hg : Sl w eI 1 ga gl) (hu : Sl w eB 1 ua ul) (hfr : Sl w eI 1 fa fl) (kg : gl.length ≤ gc) (ku : ul.length ≤ uc) (kf : fl.length ≤ fc) : Val Try.prog 4 [(Value.agg [(Value.slice (ga) (gl.length) (gc)), (Value.slice (ua) (ul.length) (uc)), (Value.slice (fa) (fl.length) (fc))].toArray), (Value.agg [(Value.int .i64 (h1)), (Value.int .i64 (h2))].toArray)] w (Value.bool true) := by
  rcases take_cases (gl.take 66) (ul.take 66) (fl.take 66) with ⟨hr, hT⟩ | ⟨hr, hT⟩ | ⟨i, hT⟩
  · exact SlotsKeeps_a w hg hu hfr kg ku kf hr hT
  · exact SlotsKeeps_b w hg hu hfr kg ku kf hr hT
  · exact SlotsKeeps_c w hg hu hfr kg ku kf hT
end Go.Proofs.Ytofkflecgnmemaa.Jd
