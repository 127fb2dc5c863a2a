/- Part of the proofs of this seat: walks and plain facts. No condition. -/
import Derived.Test.YtofkflecgnmemaaProg
import Derived.Test.YtofkflecgnmemaaJSE
import Derived.Test.YtofkflecgnmemaaJSQ
import Derived.Test.YtofkflecgnmemaaJSD
namespace Go.Proofs.Ytofkflecgnmemaa.Jd
open Go.Proofs
open Go.RowKit (Below)
set_option maxRecDepth 100000
set_option linter.unusedVariables false
set_option linter.unusedSimpArgs false

theorem lSlotsTells_ok (w : World) {s_1_a : Option Addr} {s_1_c : Nat} {s_2_1_a : Option Addr} {s_2_1_c : Nat} {s_2_2_a : Option Addr} {s_2_2_c : Nat} {t_1_a : Option Addr} {t_1_c : Nat} {t_2_1_a : Option Addr} {t_2_1_c : Nat} {t_2_2_a : Option Addr} {t_2_2_c : Nat} {s : (List Int × List Bool × List Int)} {t : (List Int × List Bool × List Int)} {n_ : Int} {h : (Int × Int)} (h_s_1 : Sl w eI 1 s_1_a s.1) (k_s_1 : s.1.length ≤ s_1_c) (h_s_2_1 : Sl w eB 1 s_2_1_a s.2.1) (k_s_2_1 : s.2.1.length ≤ s_2_1_c) (h_s_2_2 : Sl w eI 1 s_2_2_a s.2.2) (k_s_2_2 : s.2.2.length ≤ s_2_2_c) (h_t_1 : Sl w eI 1 t_1_a t.1) (k_t_1 : t.1.length ≤ t_1_c) (h_t_2_1 : Sl w eB 1 t_2_1_a t.2.1) (k_t_2_1 : t.2.1.length ≤ t_2_1_c) (h_t_2_2 : Sl w eI 1 t_2_2_a t.2.2) (k_t_2_2 : t.2.2.length ≤ t_2_2_c) : Val Try.prog 8 [(Value.agg [(Value.slice (s_1_a) (s.1.length) (s_1_c)), (Value.slice (s_2_1_a) (s.2.1.length) (s_2_1_c)), (Value.slice (s_2_2_a) (s.2.2.length) (s_2_2_c))].toArray), (Value.agg [(Value.slice (t_1_a) (t.1.length) (t_1_c)), (Value.slice (t_2_1_a) (t.2.1.length) (t_2_1_c)), (Value.slice (t_2_2_a) (t.2.2.length) (t_2_2_c))].toArray), (Value.int .i64 (n_)), (Value.agg [(Value.int .i64 (h.1)), (Value.int .i64 (h.2))].toArray)] w (Value.bool ((lSlotsTells s t n_ h))) := by
  have hF := Is.refl (lSlotsTells s t n_ h)
  refine enter Try.func8 Try.ntmps8 (h := ?_)
  refine J_seq ?_
  refine J_reg ?_
  refine JL_a noMk (a_box (l := [_, _, _])) (k := fun r1 hr1 => ?_)
  refine JL_a noMk (a_box (l := [_, _, _])) (k := fun r2 hr2 => ?_)
  refine JL_a noMk (a_box (l := [_, _])) (k := fun r3 hr3 => ?_)
  refine JL_q (q_assign) (k := ?_)
  refine JL_nil ?_
  refine JX_seq ?_
  refine J_seq ?_
  refine J_reg ?_
  refine JL_v (args := []) (c_callA Try.call9) (fun w1 hw1 => sshown_ok w1 ) (k := ?_)
  refine JL_q (q_assign) (k := ?_)
  refine JL_nil ?_
  refine JX_seq ?_
  refine J_seq ?_
  refine J_reg ?_
  refine JL_q (q_loadA Try.isAgg25 Try.sizeOf25) (k := ?_)
  refine JL_v (args := [(Value.agg [(Value.slice (s_1_a) (s.1.length) (s_1_c)), (Value.slice (s_2_1_a) (s.2.1.length) (s_2_1_c)), (Value.slice (s_2_2_a) (s.2.2.length) (s_2_2_c))].toArray)]) (c_callA Try.call10) (fun w1 hw1 => Cut_ok w1 (hg := (SlJ.of_base h_s_1) w1 hw1) (hu := (SlJ.of_base h_s_2_1) w1 hw1) (hfr := (SlJ.of_base h_s_2_2) w1 hw1) (by omega) (by omega) (by omega)) (k := ?_)
  have hcu1 : (s.1.take 66).length ≤ 66 := by rw [List.length_take]; omega
  have hcu2 : (s.2.1.take 66).length ≤ 66 := by rw [List.length_take]; omega
  have hcu3 : (s.2.2.take 66).length ≤ 66 := by rw [List.length_take]; omega
  refine JL_s (w_store (l' := [_, _, _]) Try.sizeOf25) (k := ?_)
  refine JL_nil ?_
  refine JX_seq ?_
  refine J_seq ?_
  refine J_reg ?_
  refine JL_q (q_loadA Try.isAgg25 Try.sizeOf25) (k := ?_)
  refine JL_v (args := [(Value.agg [(Value.slice (t_1_a) (t.1.length) (t_1_c)), (Value.slice (t_2_1_a) (t.2.1.length) (t_2_1_c)), (Value.slice (t_2_2_a) (t.2.2.length) (t_2_2_c))].toArray)]) (c_callA Try.call10) (fun w1 hw1 => Cut_ok w1 (hg := (SlJ.of_base h_t_1) w1 hw1) (hu := (SlJ.of_base h_t_2_1) w1 hw1) (hfr := (SlJ.of_base h_t_2_2) w1 hw1) (by omega) (by omega) (by omega)) (k := ?_)
  have hcu4 : (t.1.take 66).length ≤ 66 := by rw [List.length_take]; omega
  have hcu5 : (t.2.1.take 66).length ≤ 66 := by rw [List.length_take]; omega
  have hcu6 : (t.2.2.take 66).length ≤ 66 := by rw [List.length_take]; omega
  refine JL_s (w_store (l' := [_, _, _]) Try.sizeOf25) (k := ?_)
  refine JL_nil ?_
  refine JX_seq ?_
  refine J_seq ?_
  refine J_reg ?_
  refine JL_q (q_move) (k := ?_)
  refine JL_p (args := [(Value.int .i64 (n_))]) (c_callA Try.call19) (fun w1 hw1 => sNew_ok w1 (n_ := n_)) (k := ?_)
  rintro w1_1 e1_1 w2_1 hw1_1 ⟨a1_1, c1_1, a2_1, c2_1, a3_1, c3_1, B_1, he_1, hf_1, hs1_1, hs2_1, hs3_1⟩
  refine ⟨_, (B_1 ++ ((r3, Obj.cells [(Value.int .i64 (h.1)), (Value.int .i64 (h.2))].toArray 27) :: ((r2, Obj.cells [(Value.slice (t_1_a) ((t.1.take 66).length) (t_1_c)), (Value.slice (t_2_1_a) ((t.2.1.take 66).length) (t_2_1_c)), (Value.slice (t_2_2_a) ((t.2.2.take 66).length) (t_2_2_c))].toArray 25) :: ((r1, Obj.cells [(Value.slice (s_1_a) ((s.1.take 66).length) (s_1_c)), (Value.slice (s_2_1_a) ((s.2.1.take 66).length) (s_2_1_c)), (Value.slice (s_2_2_a) ((s.2.2.take 66).length) (s_2_2_c))].toArray 25) :: [])))), he_1, hw1_1.fresh hf_1, ?_⟩
  have hnl_34829 := newD_len n_
  refine JL_q (q_move) (k := ?_)
  refine JL_q (q_ext) (k := ?_)
  refine JL_q (q_ext) (k := ?_)
  refine JL_a noMk (a_alloc (l := [_, _, _]) Try.zeroValue25) (k := fun r4 hr4 => ?_)
  refine JL_s (w_store (l' := [_, _, _]) Try.sizeOf25) (k := ?_)
  refine JL_q (q_assign) (k := ?_)
  refine JL_nil ?_
  refine JX_seq ?_
  refine J_seq ?_
  refine J_reg ?_
  refine JL_q (q_move) (k := ?_)
  refine JL_p (args := [(Value.int .i64 (n_))]) (c_callA Try.call20) (fun w1 hw1 => rNew_ok w1 (n_ := n_)) (k := ?_)
  rintro w1_2 e1_2 w2_2 hw1_2 ⟨a1_2, c1_2, a2_2, c2_2, a3_2, c3_2, B1_2, B2_2, B3_2, he_2, hf_2, ho1_2, ho2_2, ho3_2⟩
  refine ⟨_, (B1_2 ++ (B2_2 ++ (B3_2 ++ ((r4, Obj.cells [(Value.slice (a1_1) ((newD n_).1.1.length) (c1_1)), (Value.slice (a2_1) ((newD n_).1.2.1.length) (c2_1)), (Value.slice (a3_1) ((newD n_).1.2.2.length) (c3_1))].toArray 25) :: (B_1 ++ ((r3, Obj.cells [(Value.int .i64 (h.1)), (Value.int .i64 (h.2))].toArray 27) :: ((r2, Obj.cells [(Value.slice (t_1_a) ((t.1.take 66).length) (t_1_c)), (Value.slice (t_2_1_a) ((t.2.1.take 66).length) (t_2_1_c)), (Value.slice (t_2_2_a) ((t.2.2.take 66).length) (t_2_2_c))].toArray 25) :: ((r1, Obj.cells [(Value.slice (s_1_a) ((s.1.take 66).length) (s_1_c)), (Value.slice (s_2_1_a) ((s.2.1.take 66).length) (s_2_1_c)), (Value.slice (s_2_2_a) ((s.2.2.take 66).length) (s_2_2_c))].toArray 25) :: [])))))))), he_2, (hw1_2.fresh hf_2).perm (List.Perm.of_eq (by first | (simp only [List.append_assoc]; done) | (simp only [List.append_assoc, List.nil_append, List.cons_append]; done) | rfl)), ?_⟩
  have hnr_38697 := rNew_len n_
  refine JL_q (q_move) (k := ?_)
  refine JL_q (q_ext) (k := ?_)
  refine JL_q (q_ext) (k := ?_)
  refine JL_a noMk (a_alloc (l := [_, _, _]) Try.zeroValue25) (k := fun r5 hr5 => ?_)
  refine JL_s (w_store (l' := [_, _, _]) Try.sizeOf25) (k := ?_)
  refine JL_q (q_assign) (k := ?_)
  refine JL_nil ?_
  refine JX_seq ?_
  refine J_seq ?_
  refine J_plan mixed 49 [(true, 0), (true, 1), (true, 2), (true, 3), (false, 4), (true, 5), (true, 6), (true, 7), (true, 8), (true, 9), (true, 10), (true, 11), (true, 12), (true, 14), (false, 13), (false, 15), (true, 16), (true, 17), (true, 18), (true, 19), (true, 20), (true, 22), (true, 23), (false, 21), (false, 24), (true, 25), (true, 26), (true, 27), (true, 28), (true, 29), (false, 30), (true, 31), (true, 32), (true, 33), (true, 34), (true, 36), (true, 37), (false, 35), (false, 38), (true, 39), (true, 40), (true, 41), (true, 42), (true, 44), (false, 43), (false, 45), (false, 46), (true, 47), (true, 48)] (by kernel_rfl) ?_
  refine JD_q (q_move) (k := ?_)
  refine JD_q (q_move) (k := ?_)
  refine JD_bool 30 rfl (fun hq7 => ?_) (fun hq7 => ?_)
  rotate_left
  · refine JD_skips 3 rfl ?_
    refine JD_q (q_pickF) (k := ?_)
    refine JD_q (q_move) (k := ?_)
    refine JD_skips 3 rfl ?_
    refine JD_q (q_pickF) (k := ?_)
    refine JD_q (q_move) (k := ?_)
    refine JD_skips 5 rfl ?_
    refine JD_q (q_pickF) (k := ?_)
    refine JD_q (q_move) (k := ?_)
    refine JD_skips 7 rfl ?_
    refine JD_q (q_pickF) (k := ?_)
    refine JD_q (q_move) (k := ?_)
    refine JD_skips 3 rfl ?_
    refine JD_q (q_pickF) (k := ?_)
    refine JD_q (q_move) (k := ?_)
    refine JD_skips 7 rfl ?_
    refine JD_q (q_pickF) (k := ?_)
    refine JD_q (q_move) (k := ?_)
    refine JD_skips 5 rfl ?_
    refine JD_q (q_pickF) (k := ?_)
    refine JD_q (q_assign) (k := ?_)
    refine JD_nil ?_
    refine JL_nil ?_
    refine JX_seq ?_
    refine J_ret ?_
    refine JX_ret Try.results8 (Res.tmp rfl Res.nil) (fun w1 hw1 => ?_)
    exact ⟨(by rw [((hF.f hq7)).eq] <;> first | rfl | (simp only [List.length_set] <;> rfl)), hw1.ext_out⟩
  refine JD_qg (q_loadA Try.isAgg25 Try.sizeOf25) (k := ?_)
  refine JD_qg (q_loadA Try.isAgg25 Try.sizeOf25) (k := ?_)
  refine JD_vg (args := [(Value.agg [(Value.slice (a1_1) ((newD n_).1.1.length) (c1_1)), (Value.slice (a2_1) ((newD n_).1.2.1.length) (c2_1)), (Value.slice (a3_1) ((newD n_).1.2.2.length) (c3_1))].toArray), (Value.agg [(Value.slice (a1_2) ((rNew n_).1.1.length) (c1_2)), (Value.slice (a2_2) ((rNew n_).1.2.1.length) (c2_2)), (Value.slice (a3_2) ((rNew n_).1.2.2.length) (c3_2))].toArray)]) (c_callA Try.call15) (fun w1 hw1 => rSame_ok w1 (a := (newD n_).1) (b := (rNew n_).1) (h_a_1 := (SlB.slj hs1_1) w1 hw1) (n_a_1 := by first | omega | (simp only [List.length_append, List.length_take, List.length_drop, List.length_set, List.length_replicate, List.length_cons, List.length_nil, List.length_map]; omega) | (simp only [List.length_append, List.length_take, List.length_drop, List.length_set, List.length_replicate, List.length_cons, List.length_nil, List.length_map] at *; omega) | decide) (h_a_2_1 := (SlB.slj hs2_1) w1 hw1) (n_a_2_1 := by first | omega | (simp only [List.length_append, List.length_take, List.length_drop, List.length_set, List.length_replicate, List.length_cons, List.length_nil, List.length_map]; omega) | (simp only [List.length_append, List.length_take, List.length_drop, List.length_set, List.length_replicate, List.length_cons, List.length_nil, List.length_map] at *; omega) | decide) (h_a_2_2 := (SlB.slj hs3_1) w1 hw1) (n_a_2_2 := by first | omega | (simp only [List.length_append, List.length_take, List.length_drop, List.length_set, List.length_replicate, List.length_cons, List.length_nil, List.length_map]; omega) | (simp only [List.length_append, List.length_take, List.length_drop, List.length_set, List.length_replicate, List.length_cons, List.length_nil, List.length_map] at *; omega) | decide) (h_b_1 := (ho1_2.slj eI_ok) w1 hw1) (n_b_1 := by first | omega | (simp only [List.length_append, List.length_take, List.length_drop, List.length_set, List.length_replicate, List.length_cons, List.length_nil, List.length_map]; omega) | (simp only [List.length_append, List.length_take, List.length_drop, List.length_set, List.length_replicate, List.length_cons, List.length_nil, List.length_map] at *; omega) | decide) (h_b_2_1 := (ho2_2.slj eB_ok) w1 hw1) (n_b_2_1 := by first | omega | (simp only [List.length_append, List.length_take, List.length_drop, List.length_set, List.length_replicate, List.length_cons, List.length_nil, List.length_map]; omega) | (simp only [List.length_append, List.length_take, List.length_drop, List.length_set, List.length_replicate, List.length_cons, List.length_nil, List.length_map] at *; omega) | decide) (h_b_2_2 := (ho3_2.slj eI_ok) w1 hw1) (n_b_2_2 := by first | omega | (simp only [List.length_append, List.length_take, List.length_drop, List.length_set, List.length_replicate, List.length_cons, List.length_nil, List.length_map]; omega) | (simp only [List.length_append, List.length_take, List.length_drop, List.length_set, List.length_replicate, List.length_cons, List.length_nil, List.length_map] at *; omega) | decide)) (k := ?_)
  refine JD_q (q_pickT) (k := ?_)
  refine JD_q (q_move) (k := ?_)
  refine JD_bool 35 rfl (fun hq8 => ?_) (fun hq8 => ?_)
  rotate_left
  · refine JD_skips 3 rfl ?_
    refine JD_q (q_pickF) (k := ?_)
    refine JD_q (q_move) (k := ?_)
    refine JD_skips 5 rfl ?_
    refine JD_q (q_pickF) (k := ?_)
    refine JD_q (q_move) (k := ?_)
    refine JD_skips 7 rfl ?_
    refine JD_q (q_pickF) (k := ?_)
    refine JD_q (q_move) (k := ?_)
    refine JD_skips 3 rfl ?_
    refine JD_q (q_pickF) (k := ?_)
    refine JD_q (q_move) (k := ?_)
    refine JD_skips 7 rfl ?_
    refine JD_q (q_pickF) (k := ?_)
    refine JD_q (q_move) (k := ?_)
    refine JD_skips 5 rfl ?_
    refine JD_q (q_pickF) (k := ?_)
    refine JD_q (q_assign) (k := ?_)
    refine JD_nil ?_
    refine JL_nil ?_
    refine JX_seq ?_
    refine J_ret ?_
    refine JX_ret Try.results8 (Res.tmp rfl Res.nil) (fun w1 hw1 => ?_)
    exact ⟨(by rw [(((hF.t hq7).f hq8)).eq] <;> first | rfl | (simp only [List.length_set] <;> rfl)), hw1.ext_out⟩
  refine JD_qg (q_move) (k := ?_)
  refine JD_qg (q_move) (k := ?_)
  refine JD_qg (q_eql) (k := ?_)
  refine JD_q (q_pickT) (k := ?_)
  refine JD_q (q_move) (k := ?_)
  refine JD_dec 40 rfl (fun hq9 => ?_) (fun hq9 => ?_)
  rotate_left
  · refine JD_skips 5 rfl ?_
    refine JD_q (q_pickF) (k := ?_)
    refine JD_q (q_move) (k := ?_)
    refine JD_skips 7 rfl ?_
    refine JD_q (q_pickF) (k := ?_)
    refine JD_q (q_move) (k := ?_)
    refine JD_skips 3 rfl ?_
    refine JD_q (q_pickF) (k := ?_)
    refine JD_q (q_move) (k := ?_)
    refine JD_skips 7 rfl ?_
    refine JD_q (q_pickF) (k := ?_)
    refine JD_q (q_move) (k := ?_)
    refine JD_skips 5 rfl ?_
    refine JD_q (q_pickF) (k := ?_)
    refine JD_q (q_assign) (k := ?_)
    refine JD_nil ?_
    refine JL_nil ?_
    refine JX_seq ?_
    refine J_ret ?_
    refine JX_ret Try.results8 (Res.tmp rfl Res.nil) (fun w1 hw1 => ?_)
    exact ⟨(by rw [((((hF.t hq7).t hq8).neg hq9)).eq] <;> first | rfl | (simp only [List.length_set] <;> rfl)), hw1.ext_out⟩
  refine JD_qg (q_loadA Try.isAgg25 Try.sizeOf25) (k := ?_)
  refine JD_qg (q_loadA Try.isAgg25 Try.sizeOf25) (k := ?_)
  refine JD_vg (args := [(Value.agg [(Value.slice (s_1_a) ((s.1.take 66).length) (s_1_c)), (Value.slice (s_2_1_a) ((s.2.1.take 66).length) (s_2_1_c)), (Value.slice (s_2_2_a) ((s.2.2.take 66).length) (s_2_2_c))].toArray)]) (c_callA Try.call16) (fun w1 hw1 => sRight_ok w1 (s := ((s.1.take 66), (s.2.1.take 66), (s.2.2.take 66))) (h_s_1 := ((SlJ.of_base h_s_1).take 66) w1 hw1) (n_s_1 := by first | omega | (simp only [List.length_append, List.length_take, List.length_drop, List.length_set, List.length_replicate, List.length_cons, List.length_nil, List.length_map]; omega) | (simp only [List.length_append, List.length_take, List.length_drop, List.length_set, List.length_replicate, List.length_cons, List.length_nil, List.length_map] at *; omega) | decide) (h_s_2_1 := ((SlJ.of_base h_s_2_1).take 66) w1 hw1) (n_s_2_1 := by first | omega | (simp only [List.length_append, List.length_take, List.length_drop, List.length_set, List.length_replicate, List.length_cons, List.length_nil, List.length_map]; omega) | (simp only [List.length_append, List.length_take, List.length_drop, List.length_set, List.length_replicate, List.length_cons, List.length_nil, List.length_map] at *; omega) | decide) (h_s_2_2 := ((SlJ.of_base h_s_2_2).take 66) w1 hw1) (n_s_2_2 := by first | omega | (simp only [List.length_append, List.length_take, List.length_drop, List.length_set, List.length_replicate, List.length_cons, List.length_nil, List.length_map]; omega) | (simp only [List.length_append, List.length_take, List.length_drop, List.length_set, List.length_replicate, List.length_cons, List.length_nil, List.length_map] at *; omega) | decide)) (k := ?_)
  refine JD_vg (args := [(Value.agg [(Value.slice (s_1_a) ((s.1.take 66).length) (s_1_c)), (Value.slice (s_2_1_a) ((s.2.1.take 66).length) (s_2_1_c)), (Value.slice (s_2_2_a) ((s.2.2.take 66).length) (s_2_2_c))].toArray)]) (c_callA Try.call21) (fun w1 hw1 => rRight_ok w1 (s := ((s.1.take 66), (s.2.1.take 66), (s.2.2.take 66))) (h_s_1 := ((SlJ.of_base h_s_1).take 66) w1 hw1) (n_s_1 := by first | omega | (simp only [List.length_append, List.length_take, List.length_drop, List.length_set, List.length_replicate, List.length_cons, List.length_nil, List.length_map]; omega) | (simp only [List.length_append, List.length_take, List.length_drop, List.length_set, List.length_replicate, List.length_cons, List.length_nil, List.length_map] at *; omega) | decide) (h_s_2_1 := ((SlJ.of_base h_s_2_1).take 66) w1 hw1) (n_s_2_1 := by first | omega | (simp only [List.length_append, List.length_take, List.length_drop, List.length_set, List.length_replicate, List.length_cons, List.length_nil, List.length_map]; omega) | (simp only [List.length_append, List.length_take, List.length_drop, List.length_set, List.length_replicate, List.length_cons, List.length_nil, List.length_map] at *; omega) | decide) (h_s_2_2 := ((SlJ.of_base h_s_2_2).take 66) w1 hw1) (n_s_2_2 := by first | omega | (simp only [List.length_append, List.length_take, List.length_drop, List.length_set, List.length_replicate, List.length_cons, List.length_nil, List.length_map]; omega) | (simp only [List.length_append, List.length_take, List.length_drop, List.length_set, List.length_replicate, List.length_cons, List.length_nil, List.length_map] at *; omega) | decide)) (k := ?_)
  refine JD_qg (q_eqlB Try.runUnderlying4) (k := ?_)
  refine JD_q (q_pickT) (k := ?_)
  refine JD_q (q_move) (k := ?_)
  refine JD_bool 47 rfl (fun hq10 => ?_) (fun hq10 => ?_)
  rotate_left
  · refine JD_skips 7 rfl ?_
    refine JD_q (q_pickF) (k := ?_)
    refine JD_q (q_move) (k := ?_)
    refine JD_skips 3 rfl ?_
    refine JD_q (q_pickF) (k := ?_)
    refine JD_q (q_move) (k := ?_)
    refine JD_skips 7 rfl ?_
    refine JD_q (q_pickF) (k := ?_)
    refine JD_q (q_move) (k := ?_)
    refine JD_skips 5 rfl ?_
    refine JD_q (q_pickF) (k := ?_)
    refine JD_q (q_assign) (k := ?_)
    refine JD_nil ?_
    refine JL_nil ?_
    refine JX_seq ?_
    refine J_ret ?_
    refine JX_ret Try.results8 (Res.tmp rfl Res.nil) (fun w1 hw1 => ?_)
    exact ⟨(by rw [(((((hF.t hq7).t hq8).pos hq9).f hq10)).eq] <;> first | rfl | (simp only [List.length_set] <;> rfl)), hw1.ext_out⟩
  refine JD_qg (q_loadA Try.isAgg25 Try.sizeOf25) (k := ?_)
  refine JD_qg (q_loadA Try.isAgg25 Try.sizeOf25) (k := ?_)
  refine JD_qg (q_loadA Try.isAgg25 Try.sizeOf25) (k := ?_)
  refine JD_qg (q_loadA Try.isAgg25 Try.sizeOf25) (k := ?_)
  refine JD_vg (args := [(Value.agg [(Value.slice (s_1_a) ((s.1.take 66).length) (s_1_c)), (Value.slice (s_2_1_a) ((s.2.1.take 66).length) (s_2_1_c)), (Value.slice (s_2_2_a) ((s.2.2.take 66).length) (s_2_2_c))].toArray), (Value.agg [(Value.slice (t_1_a) ((t.1.take 66).length) (t_1_c)), (Value.slice (t_2_1_a) ((t.2.1.take 66).length) (t_2_1_c)), (Value.slice (t_2_2_a) ((t.2.2.take 66).length) (t_2_2_c))].toArray)]) (c_callA Try.call22) (fun w1 hw1 => aSame_ok w1 (a := ((s.1.take 66), (s.2.1.take 66), (s.2.2.take 66))) (b := ((t.1.take 66), (t.2.1.take 66), (t.2.2.take 66))) (h_a_1 := ((SlJ.of_base h_s_1).take 66) w1 hw1) (n_a_1 := by first | omega | (simp only [List.length_append, List.length_take, List.length_drop, List.length_set, List.length_replicate, List.length_cons, List.length_nil, List.length_map]; omega) | (simp only [List.length_append, List.length_take, List.length_drop, List.length_set, List.length_replicate, List.length_cons, List.length_nil, List.length_map] at *; omega) | decide) (h_a_2_1 := ((SlJ.of_base h_s_2_1).take 66) w1 hw1) (n_a_2_1 := by first | omega | (simp only [List.length_append, List.length_take, List.length_drop, List.length_set, List.length_replicate, List.length_cons, List.length_nil, List.length_map]; omega) | (simp only [List.length_append, List.length_take, List.length_drop, List.length_set, List.length_replicate, List.length_cons, List.length_nil, List.length_map] at *; omega) | decide) (h_a_2_2 := ((SlJ.of_base h_s_2_2).take 66) w1 hw1) (n_a_2_2 := by first | omega | (simp only [List.length_append, List.length_take, List.length_drop, List.length_set, List.length_replicate, List.length_cons, List.length_nil, List.length_map]; omega) | (simp only [List.length_append, List.length_take, List.length_drop, List.length_set, List.length_replicate, List.length_cons, List.length_nil, List.length_map] at *; omega) | decide) (h_b_1 := ((SlJ.of_base h_t_1).take 66) w1 hw1) (n_b_1 := by first | omega | (simp only [List.length_append, List.length_take, List.length_drop, List.length_set, List.length_replicate, List.length_cons, List.length_nil, List.length_map]; omega) | (simp only [List.length_append, List.length_take, List.length_drop, List.length_set, List.length_replicate, List.length_cons, List.length_nil, List.length_map] at *; omega) | decide) (h_b_2_1 := ((SlJ.of_base h_t_2_1).take 66) w1 hw1) (n_b_2_1 := by first | omega | (simp only [List.length_append, List.length_take, List.length_drop, List.length_set, List.length_replicate, List.length_cons, List.length_nil, List.length_map]; omega) | (simp only [List.length_append, List.length_take, List.length_drop, List.length_set, List.length_replicate, List.length_cons, List.length_nil, List.length_map] at *; omega) | decide) (h_b_2_2 := ((SlJ.of_base h_t_2_2).take 66) w1 hw1) (n_b_2_2 := by first | omega | (simp only [List.length_append, List.length_take, List.length_drop, List.length_set, List.length_replicate, List.length_cons, List.length_nil, List.length_map]; omega) | (simp only [List.length_append, List.length_take, List.length_drop, List.length_set, List.length_replicate, List.length_cons, List.length_nil, List.length_map] at *; omega) | decide)) (k := ?_)
  refine JD_vg (args := [(Value.agg [(Value.slice (s_1_a) ((s.1.take 66).length) (s_1_c)), (Value.slice (s_2_1_a) ((s.2.1.take 66).length) (s_2_1_c)), (Value.slice (s_2_2_a) ((s.2.2.take 66).length) (s_2_2_c))].toArray), (Value.agg [(Value.slice (t_1_a) ((t.1.take 66).length) (t_1_c)), (Value.slice (t_2_1_a) ((t.2.1.take 66).length) (t_2_1_c)), (Value.slice (t_2_2_a) ((t.2.2.take 66).length) (t_2_2_c))].toArray)]) (c_callA Try.call15) (fun w1 hw1 => rSame_ok w1 (a := ((s.1.take 66), (s.2.1.take 66), (s.2.2.take 66))) (b := ((t.1.take 66), (t.2.1.take 66), (t.2.2.take 66))) (h_a_1 := ((SlJ.of_base h_s_1).take 66) w1 hw1) (n_a_1 := by first | omega | (simp only [List.length_append, List.length_take, List.length_drop, List.length_set, List.length_replicate, List.length_cons, List.length_nil, List.length_map]; omega) | (simp only [List.length_append, List.length_take, List.length_drop, List.length_set, List.length_replicate, List.length_cons, List.length_nil, List.length_map] at *; omega) | decide) (h_a_2_1 := ((SlJ.of_base h_s_2_1).take 66) w1 hw1) (n_a_2_1 := by first | omega | (simp only [List.length_append, List.length_take, List.length_drop, List.length_set, List.length_replicate, List.length_cons, List.length_nil, List.length_map]; omega) | (simp only [List.length_append, List.length_take, List.length_drop, List.length_set, List.length_replicate, List.length_cons, List.length_nil, List.length_map] at *; omega) | decide) (h_a_2_2 := ((SlJ.of_base h_s_2_2).take 66) w1 hw1) (n_a_2_2 := by first | omega | (simp only [List.length_append, List.length_take, List.length_drop, List.length_set, List.length_replicate, List.length_cons, List.length_nil, List.length_map]; omega) | (simp only [List.length_append, List.length_take, List.length_drop, List.length_set, List.length_replicate, List.length_cons, List.length_nil, List.length_map] at *; omega) | decide) (h_b_1 := ((SlJ.of_base h_t_1).take 66) w1 hw1) (n_b_1 := by first | omega | (simp only [List.length_append, List.length_take, List.length_drop, List.length_set, List.length_replicate, List.length_cons, List.length_nil, List.length_map]; omega) | (simp only [List.length_append, List.length_take, List.length_drop, List.length_set, List.length_replicate, List.length_cons, List.length_nil, List.length_map] at *; omega) | decide) (h_b_2_1 := ((SlJ.of_base h_t_2_1).take 66) w1 hw1) (n_b_2_1 := by first | omega | (simp only [List.length_append, List.length_take, List.length_drop, List.length_set, List.length_replicate, List.length_cons, List.length_nil, List.length_map]; omega) | (simp only [List.length_append, List.length_take, List.length_drop, List.length_set, List.length_replicate, List.length_cons, List.length_nil, List.length_map] at *; omega) | decide) (h_b_2_2 := ((SlJ.of_base h_t_2_2).take 66) w1 hw1) (n_b_2_2 := by first | omega | (simp only [List.length_append, List.length_take, List.length_drop, List.length_set, List.length_replicate, List.length_cons, List.length_nil, List.length_map]; omega) | (simp only [List.length_append, List.length_take, List.length_drop, List.length_set, List.length_replicate, List.length_cons, List.length_nil, List.length_map] at *; omega) | decide)) (k := ?_)
  refine JD_qg (q_eqlB Try.runUnderlying4) (k := ?_)
  refine JD_q (q_pickT) (k := ?_)
  refine JD_q (q_move) (k := ?_)
  refine JD_bool 56 rfl (fun hq11 => ?_) (fun hq11 => ?_)
  rotate_left
  · refine JD_skips 3 rfl ?_
    refine JD_q (q_pickF) (k := ?_)
    refine JD_q (q_move) (k := ?_)
    refine JD_skips 7 rfl ?_
    refine JD_q (q_pickF) (k := ?_)
    refine JD_q (q_move) (k := ?_)
    refine JD_skips 5 rfl ?_
    refine JD_q (q_pickF) (k := ?_)
    refine JD_q (q_assign) (k := ?_)
    refine JD_nil ?_
    refine JL_nil ?_
    refine JX_seq ?_
    refine J_ret ?_
    refine JX_ret Try.results8 (Res.tmp rfl Res.nil) (fun w1 hw1 => ?_)
    exact ⟨(by rw [((((((hF.t hq7).t hq8).pos hq9).t hq10).f hq11)).eq] <;> first | rfl | (simp only [List.length_set] <;> rfl)), hw1.ext_out⟩
  refine JD_qg (q_loadA Try.isAgg25 Try.sizeOf25) (k := ?_)
  refine JD_qg (q_loadA Try.isAgg25 Try.sizeOf25) (k := ?_)
  refine JD_vg (args := [(Value.agg [(Value.slice (s_1_a) ((s.1.take 66).length) (s_1_c)), (Value.slice (s_2_1_a) ((s.2.1.take 66).length) (s_2_1_c)), (Value.slice (s_2_2_a) ((s.2.2.take 66).length) (s_2_2_c))].toArray), (Value.agg [(Value.slice (s_1_a) ((s.1.take 66).length) (s_1_c)), (Value.slice (s_2_1_a) ((s.2.1.take 66).length) (s_2_1_c)), (Value.slice (s_2_2_a) ((s.2.2.take 66).length) (s_2_2_c))].toArray)]) (c_callA Try.call22) (fun w1 hw1 => aSame_ok w1 (a := ((s.1.take 66), (s.2.1.take 66), (s.2.2.take 66))) (b := ((s.1.take 66), (s.2.1.take 66), (s.2.2.take 66))) (h_a_1 := ((SlJ.of_base h_s_1).take 66) w1 hw1) (n_a_1 := by first | omega | (simp only [List.length_append, List.length_take, List.length_drop, List.length_set, List.length_replicate, List.length_cons, List.length_nil, List.length_map]; omega) | (simp only [List.length_append, List.length_take, List.length_drop, List.length_set, List.length_replicate, List.length_cons, List.length_nil, List.length_map] at *; omega) | decide) (h_a_2_1 := ((SlJ.of_base h_s_2_1).take 66) w1 hw1) (n_a_2_1 := by first | omega | (simp only [List.length_append, List.length_take, List.length_drop, List.length_set, List.length_replicate, List.length_cons, List.length_nil, List.length_map]; omega) | (simp only [List.length_append, List.length_take, List.length_drop, List.length_set, List.length_replicate, List.length_cons, List.length_nil, List.length_map] at *; omega) | decide) (h_a_2_2 := ((SlJ.of_base h_s_2_2).take 66) w1 hw1) (n_a_2_2 := by first | omega | (simp only [List.length_append, List.length_take, List.length_drop, List.length_set, List.length_replicate, List.length_cons, List.length_nil, List.length_map]; omega) | (simp only [List.length_append, List.length_take, List.length_drop, List.length_set, List.length_replicate, List.length_cons, List.length_nil, List.length_map] at *; omega) | decide) (h_b_1 := ((SlJ.of_base h_s_1).take 66) w1 hw1) (n_b_1 := by first | omega | (simp only [List.length_append, List.length_take, List.length_drop, List.length_set, List.length_replicate, List.length_cons, List.length_nil, List.length_map]; omega) | (simp only [List.length_append, List.length_take, List.length_drop, List.length_set, List.length_replicate, List.length_cons, List.length_nil, List.length_map] at *; omega) | decide) (h_b_2_1 := ((SlJ.of_base h_s_2_1).take 66) w1 hw1) (n_b_2_1 := by first | omega | (simp only [List.length_append, List.length_take, List.length_drop, List.length_set, List.length_replicate, List.length_cons, List.length_nil, List.length_map]; omega) | (simp only [List.length_append, List.length_take, List.length_drop, List.length_set, List.length_replicate, List.length_cons, List.length_nil, List.length_map] at *; omega) | decide) (h_b_2_2 := ((SlJ.of_base h_s_2_2).take 66) w1 hw1) (n_b_2_2 := by first | omega | (simp only [List.length_append, List.length_take, List.length_drop, List.length_set, List.length_replicate, List.length_cons, List.length_nil, List.length_map]; omega) | (simp only [List.length_append, List.length_take, List.length_drop, List.length_set, List.length_replicate, List.length_cons, List.length_nil, List.length_map] at *; omega) | decide)) (k := ?_)
  refine JD_q (q_pickT) (k := ?_)
  refine JD_q (q_move) (k := ?_)
  refine JD_bool 61 rfl (fun hq12 => ?_) (fun hq12 => ?_)
  rotate_left
  · refine JD_skips 7 rfl ?_
    refine JD_q (q_pickF) (k := ?_)
    refine JD_q (q_move) (k := ?_)
    refine JD_skips 5 rfl ?_
    refine JD_q (q_pickF) (k := ?_)
    refine JD_q (q_assign) (k := ?_)
    refine JD_nil ?_
    refine JL_nil ?_
    refine JX_seq ?_
    refine J_ret ?_
    refine JX_ret Try.results8 (Res.tmp rfl Res.nil) (fun w1 hw1 => ?_)
    exact ⟨(by rw [(((((((hF.t hq7).t hq8).pos hq9).t hq10).t hq11).f hq12)).eq] <;> first | rfl | (simp only [List.length_set] <;> rfl)), hw1.ext_out⟩
  refine JD_qg (q_loadA Try.isAgg25 Try.sizeOf25) (k := ?_)
  refine JD_qg (q_loadA Try.isAgg27 Try.sizeOf27) (k := ?_)
  refine JD_qg (q_loadA Try.isAgg25 Try.sizeOf25) (k := ?_)
  refine JD_qg (q_loadA Try.isAgg27 Try.sizeOf27) (k := ?_)
  refine JD_vg (args := [(Value.agg [(Value.slice (s_1_a) ((s.1.take 66).length) (s_1_c)), (Value.slice (s_2_1_a) ((s.2.1.take 66).length) (s_2_1_c)), (Value.slice (s_2_2_a) ((s.2.2.take 66).length) (s_2_2_c))].toArray), (Value.agg [(Value.int .i64 (h.1)), (Value.int .i64 (h.2))].toArray)]) (c_callA Try.call17) (fun w1 hw1 => sValid_ok w1 (s := ((s.1.take 66), (s.2.1.take 66), (s.2.2.take 66))) (h := h) (h_s_1 := ((SlJ.of_base h_s_1).take 66) w1 hw1) (n_s_1 := by first | omega | (simp only [List.length_append, List.length_take, List.length_drop, List.length_set, List.length_replicate, List.length_cons, List.length_nil, List.length_map]; omega) | (simp only [List.length_append, List.length_take, List.length_drop, List.length_set, List.length_replicate, List.length_cons, List.length_nil, List.length_map] at *; omega) | decide) (h_s_2_1 := ((SlJ.of_base h_s_2_1).take 66) w1 hw1) (n_s_2_1 := by first | omega | (simp only [List.length_append, List.length_take, List.length_drop, List.length_set, List.length_replicate, List.length_cons, List.length_nil, List.length_map]; omega) | (simp only [List.length_append, List.length_take, List.length_drop, List.length_set, List.length_replicate, List.length_cons, List.length_nil, List.length_map] at *; omega) | decide) (h_s_2_2 := ((SlJ.of_base h_s_2_2).take 66) w1 hw1) (n_s_2_2 := by first | omega | (simp only [List.length_append, List.length_take, List.length_drop, List.length_set, List.length_replicate, List.length_cons, List.length_nil, List.length_map]; omega) | (simp only [List.length_append, List.length_take, List.length_drop, List.length_set, List.length_replicate, List.length_cons, List.length_nil, List.length_map] at *; omega) | decide)) (k := ?_)
  refine JD_vg (args := [(Value.agg [(Value.slice (s_1_a) ((s.1.take 66).length) (s_1_c)), (Value.slice (s_2_1_a) ((s.2.1.take 66).length) (s_2_1_c)), (Value.slice (s_2_2_a) ((s.2.2.take 66).length) (s_2_2_c))].toArray), (Value.agg [(Value.int .i64 (h.1)), (Value.int .i64 (h.2))].toArray)]) (c_callA Try.call23) (fun w1 hw1 => rValid_ok w1 (s := ((s.1.take 66), (s.2.1.take 66), (s.2.2.take 66))) (h := h) (h_s_1 := ((SlJ.of_base h_s_1).take 66) w1 hw1) (n_s_1 := by first | omega | (simp only [List.length_append, List.length_take, List.length_drop, List.length_set, List.length_replicate, List.length_cons, List.length_nil, List.length_map]; omega) | (simp only [List.length_append, List.length_take, List.length_drop, List.length_set, List.length_replicate, List.length_cons, List.length_nil, List.length_map] at *; omega) | decide) (h_s_2_1 := ((SlJ.of_base h_s_2_1).take 66) w1 hw1) (n_s_2_1 := by first | omega | (simp only [List.length_append, List.length_take, List.length_drop, List.length_set, List.length_replicate, List.length_cons, List.length_nil, List.length_map]; omega) | (simp only [List.length_append, List.length_take, List.length_drop, List.length_set, List.length_replicate, List.length_cons, List.length_nil, List.length_map] at *; omega) | decide) (h_s_2_2 := ((SlJ.of_base h_s_2_2).take 66) w1 hw1) (n_s_2_2 := by first | omega | (simp only [List.length_append, List.length_take, List.length_drop, List.length_set, List.length_replicate, List.length_cons, List.length_nil, List.length_map]; omega) | (simp only [List.length_append, List.length_take, List.length_drop, List.length_set, List.length_replicate, List.length_cons, List.length_nil, List.length_map] at *; omega) | decide)) (k := ?_)
  refine JD_qg (q_eqlB Try.runUnderlying4) (k := ?_)
  refine JD_q (q_pickT) (k := ?_)
  refine JD_q (q_move) (k := ?_)
  refine JD_bool 70 rfl (fun hq13 => ?_) (fun hq13 => ?_)
  rotate_left
  · refine JD_skips 5 rfl ?_
    refine JD_q (q_pickF) (k := ?_)
    refine JD_q (q_assign) (k := ?_)
    refine JD_nil ?_
    refine JL_nil ?_
    refine JX_seq ?_
    refine J_ret ?_
    refine JX_ret Try.results8 (Res.tmp rfl Res.nil) (fun w1 hw1 => ?_)
    exact ⟨(by rw [((((((((hF.t hq7).t hq8).pos hq9).t hq10).t hq11).t hq12).f hq13)).eq] <;> first | rfl | (simp only [List.length_set] <;> rfl)), hw1.ext_out⟩
  refine JD_qg (q_loadA Try.isAgg25 Try.sizeOf25) (k := ?_)
  refine JD_qg (q_loadA Try.isAgg25 Try.sizeOf25) (k := ?_)
  refine JD_pg (args := [(Value.agg [(Value.slice (s_1_a) ((s.1.take 66).length) (s_1_c)), (Value.slice (s_2_1_a) ((s.2.1.take 66).length) (s_2_1_c)), (Value.slice (s_2_2_a) ((s.2.2.take 66).length) (s_2_2_c))].toArray)]) (c_callA Try.call18) (fun w1 hw1 => sAll_ok w1 (s := ((s.1.take 66), (s.2.1.take 66), (s.2.2.take 66))) (h_s_1 := ((SlJ.of_base h_s_1).take 66) w1 hw1) (n_s_1 := by first | omega | (simp only [List.length_append, List.length_take, List.length_drop, List.length_set, List.length_replicate, List.length_cons, List.length_nil, List.length_map]; omega) | (simp only [List.length_append, List.length_take, List.length_drop, List.length_set, List.length_replicate, List.length_cons, List.length_nil, List.length_map] at *; omega) | decide) (h_s_2_1 := ((SlJ.of_base h_s_2_1).take 66) w1 hw1) (n_s_2_1 := by first | omega | (simp only [List.length_append, List.length_take, List.length_drop, List.length_set, List.length_replicate, List.length_cons, List.length_nil, List.length_map]; omega) | (simp only [List.length_append, List.length_take, List.length_drop, List.length_set, List.length_replicate, List.length_cons, List.length_nil, List.length_map] at *; omega) | decide) (h_s_2_2 := ((SlJ.of_base h_s_2_2).take 66) w1 hw1) (n_s_2_2 := by first | omega | (simp only [List.length_append, List.length_take, List.length_drop, List.length_set, List.length_replicate, List.length_cons, List.length_nil, List.length_map]; omega) | (simp only [List.length_append, List.length_take, List.length_drop, List.length_set, List.length_replicate, List.length_cons, List.length_nil, List.length_map] at *; omega) | decide)) (k := ?_)
  rintro w1_3 e1_3 w2_3 hw1_3 ⟨a1_3, c1_3, B1_3, he_3, hf_3, ho1_3⟩
  refine ⟨_, _, (B1_3 ++ ((r5, Obj.cells [(Value.slice (a1_2) ((rNew n_).1.1.length) (c1_2)), (Value.slice (a2_2) ((rNew n_).1.2.1.length) (c2_2)), (Value.slice (a3_2) ((rNew n_).1.2.2.length) (c3_2))].toArray 25) :: (B1_2 ++ (B2_2 ++ (B3_2 ++ ((r4, Obj.cells [(Value.slice (a1_1) ((newD n_).1.1.length) (c1_1)), (Value.slice (a2_1) ((newD n_).1.2.1.length) (c2_1)), (Value.slice (a3_1) ((newD n_).1.2.2.length) (c3_1))].toArray 25) :: (B_1 ++ ((r3, Obj.cells [(Value.int .i64 (h.1)), (Value.int .i64 (h.2))].toArray 27) :: ((r2, Obj.cells [(Value.slice (t_1_a) ((t.1.take 66).length) (t_1_c)), (Value.slice (t_2_1_a) ((t.2.1.take 66).length) (t_2_1_c)), (Value.slice (t_2_2_a) ((t.2.2.take 66).length) (t_2_2_c))].toArray 25) :: ((r1, Obj.cells [(Value.slice (s_1_a) ((s.1.take 66).length) (s_1_c)), (Value.slice (s_2_1_a) ((s.2.1.take 66).length) (s_2_1_c)), (Value.slice (s_2_2_a) ((s.2.2.take 66).length) (s_2_2_c))].toArray 25) :: [])))))))))), he_3, hf_3, rfl, ?_⟩
  have hal_20558 := allD_len66 (s.1.take 66) (s.2.1.take 66) (s.2.2.take 66)
  refine JD_pg (args := [(Value.agg [(Value.slice (s_1_a) ((s.1.take 66).length) (s_1_c)), (Value.slice (s_2_1_a) ((s.2.1.take 66).length) (s_2_1_c)), (Value.slice (s_2_2_a) ((s.2.2.take 66).length) (s_2_2_c))].toArray)]) (c_callA Try.call25) (fun w1 hw1 => rAll_ok w1 (s := ((s.1.take 66), (s.2.1.take 66), (s.2.2.take 66))) (h_s_1 := ((SlJ.of_base h_s_1).take 66) w1 hw1) (n_s_1 := by first | omega | (simp only [List.length_append, List.length_take, List.length_drop, List.length_set, List.length_replicate, List.length_cons, List.length_nil, List.length_map]; omega) | (simp only [List.length_append, List.length_take, List.length_drop, List.length_set, List.length_replicate, List.length_cons, List.length_nil, List.length_map] at *; omega) | decide) (h_s_2_1 := ((SlJ.of_base h_s_2_1).take 66) w1 hw1) (n_s_2_1 := by first | omega | (simp only [List.length_append, List.length_take, List.length_drop, List.length_set, List.length_replicate, List.length_cons, List.length_nil, List.length_map]; omega) | (simp only [List.length_append, List.length_take, List.length_drop, List.length_set, List.length_replicate, List.length_cons, List.length_nil, List.length_map] at *; omega) | decide) (h_s_2_2 := ((SlJ.of_base h_s_2_2).take 66) w1 hw1) (n_s_2_2 := by first | omega | (simp only [List.length_append, List.length_take, List.length_drop, List.length_set, List.length_replicate, List.length_cons, List.length_nil, List.length_map]; omega) | (simp only [List.length_append, List.length_take, List.length_drop, List.length_set, List.length_replicate, List.length_cons, List.length_nil, List.length_map] at *; omega) | decide)) (k := ?_)
  rintro w1_4 e1_4 w2_4 hw1_4 ⟨a1_4, c1_4, B1_4, he_4, hf_4, ho1_4⟩
  refine ⟨_, _, (B1_4 ++ (B1_3 ++ ((r5, Obj.cells [(Value.slice (a1_2) ((rNew n_).1.1.length) (c1_2)), (Value.slice (a2_2) ((rNew n_).1.2.1.length) (c2_2)), (Value.slice (a3_2) ((rNew n_).1.2.2.length) (c3_2))].toArray 25) :: (B1_2 ++ (B2_2 ++ (B3_2 ++ ((r4, Obj.cells [(Value.slice (a1_1) ((newD n_).1.1.length) (c1_1)), (Value.slice (a2_1) ((newD n_).1.2.1.length) (c2_1)), (Value.slice (a3_1) ((newD n_).1.2.2.length) (c3_1))].toArray 25) :: (B_1 ++ ((r3, Obj.cells [(Value.int .i64 (h.1)), (Value.int .i64 (h.2))].toArray 27) :: ((r2, Obj.cells [(Value.slice (t_1_a) ((t.1.take 66).length) (t_1_c)), (Value.slice (t_2_1_a) ((t.2.1.take 66).length) (t_2_1_c)), (Value.slice (t_2_2_a) ((t.2.2.take 66).length) (t_2_2_c))].toArray 25) :: ((r1, Obj.cells [(Value.slice (s_1_a) ((s.1.take 66).length) (s_1_c)), (Value.slice (s_2_1_a) ((s.2.1.take 66).length) (s_2_1_c)), (Value.slice (s_2_2_a) ((s.2.2.take 66).length) (s_2_2_c))].toArray 25) :: []))))))))))), he_4, hf_4, rfl, ?_⟩
  have har_51920 := rAll_len ((s.1.take 66), (s.2.1.take 66), (s.2.2.take 66))
  refine JD_vg (args := [(Value.slice (a1_3) ((allD (s.1.take 66) (s.2.1.take 66) (s.2.2.take 66)).length) (c1_3)), (Value.slice (a1_4) ((rAll ((s.1.take 66), (s.2.1.take 66), (s.2.2.take 66))).length) (c1_4))]) (c_callA Try.call24) (fun w1 hw1 => rHandles_ok w1 (a := (allD (s.1.take 66) (s.2.1.take 66) (s.2.2.take 66))) (b := (rAll ((s.1.take 66), (s.2.1.take 66), (s.2.2.take 66)))) (h_a := (ho1_3.slj eH_ok) w1 hw1) (n_a := by first | omega | (simp only [List.length_append, List.length_take, List.length_drop, List.length_set, List.length_replicate, List.length_cons, List.length_nil, List.length_map]; omega) | (simp only [List.length_append, List.length_take, List.length_drop, List.length_set, List.length_replicate, List.length_cons, List.length_nil, List.length_map] at *; omega) | decide) (h_b := (ho1_4.slj eH_ok) w1 hw1) (n_b := by first | omega | (simp only [List.length_append, List.length_take, List.length_drop, List.length_set, List.length_replicate, List.length_cons, List.length_nil, List.length_map]; omega) | (simp only [List.length_append, List.length_take, List.length_drop, List.length_set, List.length_replicate, List.length_cons, List.length_nil, List.length_map] at *; omega) | decide)) (k := ?_)
  refine JD_q (q_pickT) (k := ?_)
  refine JD_q (q_assign) (k := ?_)
  refine JD_nil ?_
  refine JL_nil ?_
  refine JX_seq ?_
  refine J_ret ?_
  refine JX_ret Try.results8 (Res.tmp rfl Res.nil) (fun w1 hw1 => ?_)
  exact ⟨(by rw [((((((((hF.t hq7).t hq8).pos hq9).t hq10).t hq11).t hq12).t hq13)).eq] <;> first | rfl | (simp only [List.length_set] <;> rfl)), hw1.ext_out⟩

theorem lSlotsTurns_ok (w : World) {s_1_a : Option Addr} {s_1_c : Nat} {s_2_1_a : Option Addr} {s_2_1_c : Nat} {s_2_2_a : Option Addr} {s_2_2_c : Nat} {s : (List Int × List Bool × List Int)} {h : (Int × Int)} (h_s_1 : Sl w eI 1 s_1_a s.1) (k_s_1 : s.1.length ≤ s_1_c) (h_s_2_1 : Sl w eB 1 s_2_1_a s.2.1) (k_s_2_1 : s.2.1.length ≤ s_2_1_c) (h_s_2_2 : Sl w eI 1 s_2_2_a s.2.2) (k_s_2_2 : s.2.2.length ≤ s_2_2_c) : Val Try.prog 3 [(Value.agg [(Value.slice (s_1_a) (s.1.length) (s_1_c)), (Value.slice (s_2_1_a) (s.2.1.length) (s_2_1_c)), (Value.slice (s_2_2_a) (s.2.2.length) (s_2_2_c))].toArray), (Value.agg [(Value.int .i64 (h.1)), (Value.int .i64 (h.2))].toArray)] w (Value.bool ((lSlotsTurns s h))) := by
  have hF := Is.refl (lSlotsTurns s h)
  refine enter Try.func3 Try.ntmps3 (h := ?_)
  refine J_seq ?_
  refine J_reg ?_
  refine JL_a noMk (a_box (l := [_, _, _])) (k := fun r1 hr1 => ?_)
  refine JL_a noMk (a_box (l := [_, _])) (k := fun r2 hr2 => ?_)
  refine JL_q (q_assign) (k := ?_)
  refine JL_nil ?_
  refine JX_seq ?_
  refine J_seq ?_
  refine J_reg ?_
  refine JL_v (args := []) (c_callA Try.call9) (fun w1 hw1 => sshown_ok w1 ) (k := ?_)
  refine JL_q (q_assign) (k := ?_)
  refine JL_nil ?_
  refine JX_seq ?_
  refine J_seq ?_
  refine J_reg ?_
  refine JL_q (q_loadA Try.isAgg25 Try.sizeOf25) (k := ?_)
  refine JL_v (args := [(Value.agg [(Value.slice (s_1_a) (s.1.length) (s_1_c)), (Value.slice (s_2_1_a) (s.2.1.length) (s_2_1_c)), (Value.slice (s_2_2_a) (s.2.2.length) (s_2_2_c))].toArray)]) (c_callA Try.call10) (fun w1 hw1 => Cut_ok w1 (hg := (SlJ.of_base h_s_1) w1 hw1) (hu := (SlJ.of_base h_s_2_1) w1 hw1) (hfr := (SlJ.of_base h_s_2_2) w1 hw1) (by omega) (by omega) (by omega)) (k := ?_)
  have hcu1 : (s.1.take 66).length ≤ 66 := by rw [List.length_take]; omega
  have hcu2 : (s.2.1.take 66).length ≤ 66 := by rw [List.length_take]; omega
  have hcu3 : (s.2.2.take 66).length ≤ 66 := by rw [List.length_take]; omega
  refine JL_s (w_store (l' := [_, _, _]) Try.sizeOf25) (k := ?_)
  refine JL_nil ?_
  refine JX_seq ?_
  refine J_seq ?_
  refine J_reg ?_
  refine JL_q (q_loadA Try.isAgg25 Try.sizeOf25) (k := ?_)
  refine JL_p (args := [(Value.agg [(Value.slice (s_1_a) ((s.1.take 66).length) (s_1_c)), (Value.slice (s_2_1_a) ((s.2.1.take 66).length) (s_2_1_c)), (Value.slice (s_2_2_a) ((s.2.2.take 66).length) (s_2_2_c))].toArray)]) (c_callA Try.call11) (fun w1 hw1 => sTake_ok w1 (s := ((s.1.take 66), (s.2.1.take 66), (s.2.2.take 66))) (h_s_1 := ((SlJ.of_base h_s_1).take 66) w1 hw1) (n_s_1 := by first | omega | (simp only [List.length_append, List.length_take, List.length_drop, List.length_set, List.length_replicate, List.length_cons, List.length_nil, List.length_map]; omega) | (simp only [List.length_append, List.length_take, List.length_drop, List.length_set, List.length_replicate, List.length_cons, List.length_nil, List.length_map] at *; omega) | decide) (h_s_2_1 := ((SlJ.of_base h_s_2_1).take 66) w1 hw1) (n_s_2_1 := by first | omega | (simp only [List.length_append, List.length_take, List.length_drop, List.length_set, List.length_replicate, List.length_cons, List.length_nil, List.length_map]; omega) | (simp only [List.length_append, List.length_take, List.length_drop, List.length_set, List.length_replicate, List.length_cons, List.length_nil, List.length_map] at *; omega) | decide) (h_s_2_2 := ((SlJ.of_base h_s_2_2).take 66) w1 hw1) (n_s_2_2 := by first | omega | (simp only [List.length_append, List.length_take, List.length_drop, List.length_set, List.length_replicate, List.length_cons, List.length_nil, List.length_map]; omega) | (simp only [List.length_append, List.length_take, List.length_drop, List.length_set, List.length_replicate, List.length_cons, List.length_nil, List.length_map] at *; omega) | decide)) (k := ?_)
  rintro w1_1 e1_1 w2_1 hw1_1 ⟨a1_1, c1_1, a2_1, c2_1, a3_1, c3_1, B_1, he_1, hf_1, hs1_1, hs2_1, hs3_1⟩
  refine ⟨_, (B_1 ++ ((r2, Obj.cells [(Value.int .i64 (h.1)), (Value.int .i64 (h.2))].toArray 27) :: ((r1, Obj.cells [(Value.slice (s_1_a) ((s.1.take 66).length) (s_1_c)), (Value.slice (s_2_1_a) ((s.2.1.take 66).length) (s_2_1_c)), (Value.slice (s_2_2_a) ((s.2.2.take 66).length) (s_2_2_c))].toArray 25) :: []))), he_1, hw1_1.fresh hf_1, ?_⟩
  have htl_84885 := takeD_len (s.1.take 66) (s.2.1.take 66) (s.2.2.take 66)
  refine JL_q (q_move) (k := ?_)
  refine JL_q (q_ext) (k := ?_)
  refine JL_q (q_ext) (k := ?_)
  refine JL_q (q_ext) (k := ?_)
  refine JL_a noMk (a_alloc (l := [_, _, _]) Try.zeroValue25) (k := fun r3 hr3 => ?_)
  refine JL_a noMk (a_alloc (l := [_, _]) Try.zeroValue27) (k := fun r4 hr4 => ?_)
  refine JL_s (w_store (l' := [_, _, _]) Try.sizeOf25) (k := ?_)
  refine JL_s (w_store (l' := [_, _]) Try.sizeOf27) (k := ?_)
  refine JL_q (q_assign) (k := ?_)
  refine JL_nil ?_
  refine JX_seq ?_
  refine J_seq ?_
  refine J_reg ?_
  refine JL_q (q_loadA Try.isAgg25 Try.sizeOf25) (k := ?_)
  refine JL_p (args := [(Value.agg [(Value.slice (s_1_a) ((s.1.take 66).length) (s_1_c)), (Value.slice (s_2_1_a) ((s.2.1.take 66).length) (s_2_1_c)), (Value.slice (s_2_2_a) ((s.2.2.take 66).length) (s_2_2_c))].toArray)]) (c_callA Try.call12) (fun w1 hw1 => rTake_ok w1 (s := ((s.1.take 66), (s.2.1.take 66), (s.2.2.take 66))) (h_s_1 := ((SlJ.of_base h_s_1).take 66) w1 hw1) (n_s_1 := by first | omega | (simp only [List.length_append, List.length_take, List.length_drop, List.length_set, List.length_replicate, List.length_cons, List.length_nil, List.length_map]; omega) | (simp only [List.length_append, List.length_take, List.length_drop, List.length_set, List.length_replicate, List.length_cons, List.length_nil, List.length_map] at *; omega) | decide) (h_s_2_1 := ((SlJ.of_base h_s_2_1).take 66) w1 hw1) (n_s_2_1 := by first | omega | (simp only [List.length_append, List.length_take, List.length_drop, List.length_set, List.length_replicate, List.length_cons, List.length_nil, List.length_map]; omega) | (simp only [List.length_append, List.length_take, List.length_drop, List.length_set, List.length_replicate, List.length_cons, List.length_nil, List.length_map] at *; omega) | decide) (h_s_2_2 := ((SlJ.of_base h_s_2_2).take 66) w1 hw1) (n_s_2_2 := by first | omega | (simp only [List.length_append, List.length_take, List.length_drop, List.length_set, List.length_replicate, List.length_cons, List.length_nil, List.length_map]; omega) | (simp only [List.length_append, List.length_take, List.length_drop, List.length_set, List.length_replicate, List.length_cons, List.length_nil, List.length_map] at *; omega) | decide)) (k := ?_)
  rintro w1_2 e1_2 w2_2 hw1_2 ⟨a1_2, c1_2, a2_2, c2_2, a3_2, c3_2, B1_2, B2_2, B3_2, he_2, hf_2, ho1_2, ho2_2, ho3_2⟩
  refine ⟨_, (B1_2 ++ (B2_2 ++ (B3_2 ++ ((r4, Obj.cells [(Value.int .i64 (((takeD (s.1.take 66) (s.2.1.take 66) (s.2.2.take 66)).2.1.1))), (Value.int .i64 (((takeD (s.1.take 66) (s.2.1.take 66) (s.2.2.take 66)).2.1.2)))].toArray 27) :: ((r3, Obj.cells [(Value.slice (a1_1) ((takeD (s.1.take 66) (s.2.1.take 66) (s.2.2.take 66)).1.1.length) (c1_1)), (Value.slice (a2_1) ((takeD (s.1.take 66) (s.2.1.take 66) (s.2.2.take 66)).1.2.1.length) (c2_1)), (Value.slice (a3_1) ((takeD (s.1.take 66) (s.2.1.take 66) (s.2.2.take 66)).1.2.2.length) (c3_1))].toArray 25) :: (B_1 ++ ((r2, Obj.cells [(Value.int .i64 (h.1)), (Value.int .i64 (h.2))].toArray 27) :: ((r1, Obj.cells [(Value.slice (s_1_a) ((s.1.take 66).length) (s_1_c)), (Value.slice (s_2_1_a) ((s.2.1.take 66).length) (s_2_1_c)), (Value.slice (s_2_2_a) ((s.2.2.take 66).length) (s_2_2_c))].toArray 25) :: [])))))))), he_2, (hw1_2.fresh hf_2).perm (List.Perm.of_eq (by first | (simp only [List.append_assoc]; done) | (simp only [List.append_assoc, List.nil_append, List.cons_append]; done) | rfl)), ?_⟩
  have htr_85859 := rTake_len ((s.1.take 66), (s.2.1.take 66), (s.2.2.take 66))
  refine JL_q (q_move) (k := ?_)
  refine JL_q (q_ext) (k := ?_)
  refine JL_q (q_ext) (k := ?_)
  refine JL_q (q_ext) (k := ?_)
  refine JL_a noMk (a_alloc (l := [_, _, _]) Try.zeroValue25) (k := fun r5 hr5 => ?_)
  refine JL_a noMk (a_alloc (l := [_, _]) Try.zeroValue27) (k := fun r6 hr6 => ?_)
  refine JL_s (w_store (l' := [_, _, _]) Try.sizeOf25) (k := ?_)
  refine JL_s (w_store (l' := [_, _]) Try.sizeOf27) (k := ?_)
  refine JL_q (q_assign) (k := ?_)
  refine JL_nil ?_
  refine JX_seq ?_
  refine J_seq ?_
  refine J_reg ?_
  refine JL_q (q_loadA Try.isAgg25 Try.sizeOf25) (k := ?_)
  refine JL_q (q_loadA Try.isAgg27 Try.sizeOf27) (k := ?_)
  refine JL_p (args := [(Value.agg [(Value.slice (s_1_a) ((s.1.take 66).length) (s_1_c)), (Value.slice (s_2_1_a) ((s.2.1.take 66).length) (s_2_1_c)), (Value.slice (s_2_2_a) ((s.2.2.take 66).length) (s_2_2_c))].toArray), (Value.agg [(Value.int .i64 (h.1)), (Value.int .i64 (h.2))].toArray)]) (c_callA Try.call13) (fun w1 hw1 => sGive_ok w1 (s := ((s.1.take 66), (s.2.1.take 66), (s.2.2.take 66))) (h := h) (h_s_1 := ((SlJ.of_base h_s_1).take 66) w1 hw1) (n_s_1 := by first | omega | (simp only [List.length_append, List.length_take, List.length_drop, List.length_set, List.length_replicate, List.length_cons, List.length_nil, List.length_map]; omega) | (simp only [List.length_append, List.length_take, List.length_drop, List.length_set, List.length_replicate, List.length_cons, List.length_nil, List.length_map] at *; omega) | decide) (h_s_2_1 := ((SlJ.of_base h_s_2_1).take 66) w1 hw1) (n_s_2_1 := by first | omega | (simp only [List.length_append, List.length_take, List.length_drop, List.length_set, List.length_replicate, List.length_cons, List.length_nil, List.length_map]; omega) | (simp only [List.length_append, List.length_take, List.length_drop, List.length_set, List.length_replicate, List.length_cons, List.length_nil, List.length_map] at *; omega) | decide) (h_s_2_2 := ((SlJ.of_base h_s_2_2).take 66) w1 hw1) (n_s_2_2 := by first | omega | (simp only [List.length_append, List.length_take, List.length_drop, List.length_set, List.length_replicate, List.length_cons, List.length_nil, List.length_map]; omega) | (simp only [List.length_append, List.length_take, List.length_drop, List.length_set, List.length_replicate, List.length_cons, List.length_nil, List.length_map] at *; omega) | decide)) (k := ?_)
  rintro w1_3 e1_3 w2_3 hw1_3 ⟨a1_3, c1_3, a2_3, c2_3, a3_3, c3_3, B_3, he_3, hf_3, hs1_3, hs2_3, hs3_3⟩
  refine ⟨_, (B_3 ++ ((r6, Obj.cells [(Value.int .i64 (((rTake ((s.1.take 66), (s.2.1.take 66), (s.2.2.take 66))).2.1.1))), (Value.int .i64 (((rTake ((s.1.take 66), (s.2.1.take 66), (s.2.2.take 66))).2.1.2)))].toArray 27) :: ((r5, Obj.cells [(Value.slice (a1_2) ((rTake ((s.1.take 66), (s.2.1.take 66), (s.2.2.take 66))).1.1.length) (c1_2)), (Value.slice (a2_2) ((rTake ((s.1.take 66), (s.2.1.take 66), (s.2.2.take 66))).1.2.1.length) (c2_2)), (Value.slice (a3_2) ((rTake ((s.1.take 66), (s.2.1.take 66), (s.2.2.take 66))).1.2.2.length) (c3_2))].toArray 25) :: (B1_2 ++ (B2_2 ++ (B3_2 ++ ((r4, Obj.cells [(Value.int .i64 (((takeD (s.1.take 66) (s.2.1.take 66) (s.2.2.take 66)).2.1.1))), (Value.int .i64 (((takeD (s.1.take 66) (s.2.1.take 66) (s.2.2.take 66)).2.1.2)))].toArray 27) :: ((r3, Obj.cells [(Value.slice (a1_1) ((takeD (s.1.take 66) (s.2.1.take 66) (s.2.2.take 66)).1.1.length) (c1_1)), (Value.slice (a2_1) ((takeD (s.1.take 66) (s.2.1.take 66) (s.2.2.take 66)).1.2.1.length) (c2_1)), (Value.slice (a3_1) ((takeD (s.1.take 66) (s.2.1.take 66) (s.2.2.take 66)).1.2.2.length) (c3_1))].toArray 25) :: (B_1 ++ ((r2, Obj.cells [(Value.int .i64 (h.1)), (Value.int .i64 (h.2))].toArray 27) :: ((r1, Obj.cells [(Value.slice (s_1_a) ((s.1.take 66).length) (s_1_c)), (Value.slice (s_2_1_a) ((s.2.1.take 66).length) (s_2_1_c)), (Value.slice (s_2_2_a) ((s.2.2.take 66).length) (s_2_2_c))].toArray 25) :: []))))))))))), he_3, hw1_3.fresh hf_3, ?_⟩
  have hgl_65803 := giveD_len (s.1.take 66) (s.2.1.take 66) (s.2.2.take 66) h.1 h.2
  refine JL_q (q_move) (k := ?_)
  refine JL_q (q_ext) (k := ?_)
  refine JL_q (q_ext) (k := ?_)
  refine JL_a noMk (a_alloc (l := [_, _, _]) Try.zeroValue25) (k := fun r7 hr7 => ?_)
  refine JL_s (w_store (l' := [_, _, _]) Try.sizeOf25) (k := ?_)
  refine JL_q (q_assign) (k := ?_)
  refine JL_nil ?_
  refine JX_seq ?_
  refine J_seq ?_
  refine J_reg ?_
  refine JL_q (q_loadA Try.isAgg25 Try.sizeOf25) (k := ?_)
  refine JL_q (q_loadA Try.isAgg27 Try.sizeOf27) (k := ?_)
  refine JL_p (args := [(Value.agg [(Value.slice (s_1_a) ((s.1.take 66).length) (s_1_c)), (Value.slice (s_2_1_a) ((s.2.1.take 66).length) (s_2_1_c)), (Value.slice (s_2_2_a) ((s.2.2.take 66).length) (s_2_2_c))].toArray), (Value.agg [(Value.int .i64 (h.1)), (Value.int .i64 (h.2))].toArray)]) (c_callA Try.call14) (fun w1 hw1 => rGive_ok w1 (s := ((s.1.take 66), (s.2.1.take 66), (s.2.2.take 66))) (h := h) (h_s_1 := ((SlJ.of_base h_s_1).take 66) w1 hw1) (n_s_1 := by first | omega | (simp only [List.length_append, List.length_take, List.length_drop, List.length_set, List.length_replicate, List.length_cons, List.length_nil, List.length_map]; omega) | (simp only [List.length_append, List.length_take, List.length_drop, List.length_set, List.length_replicate, List.length_cons, List.length_nil, List.length_map] at *; omega) | decide) (h_s_2_1 := ((SlJ.of_base h_s_2_1).take 66) w1 hw1) (n_s_2_1 := by first | omega | (simp only [List.length_append, List.length_take, List.length_drop, List.length_set, List.length_replicate, List.length_cons, List.length_nil, List.length_map]; omega) | (simp only [List.length_append, List.length_take, List.length_drop, List.length_set, List.length_replicate, List.length_cons, List.length_nil, List.length_map] at *; omega) | decide) (h_s_2_2 := ((SlJ.of_base h_s_2_2).take 66) w1 hw1) (n_s_2_2 := by first | omega | (simp only [List.length_append, List.length_take, List.length_drop, List.length_set, List.length_replicate, List.length_cons, List.length_nil, List.length_map]; omega) | (simp only [List.length_append, List.length_take, List.length_drop, List.length_set, List.length_replicate, List.length_cons, List.length_nil, List.length_map] at *; omega) | decide)) (k := ?_)
  rintro w1_4 e1_4 w2_4 hw1_4 ⟨a1_4, c1_4, a2_4, c2_4, a3_4, c3_4, B1_4, B2_4, B3_4, he_4, hf_4, ho1_4, ho2_4, ho3_4⟩
  refine ⟨_, (B1_4 ++ (B2_4 ++ (B3_4 ++ ((r7, Obj.cells [(Value.slice (a1_3) ((giveD (s.1.take 66) (s.2.1.take 66) (s.2.2.take 66) h.1 h.2).1.1.length) (c1_3)), (Value.slice (a2_3) ((giveD (s.1.take 66) (s.2.1.take 66) (s.2.2.take 66) h.1 h.2).1.2.1.length) (c2_3)), (Value.slice (a3_3) ((giveD (s.1.take 66) (s.2.1.take 66) (s.2.2.take 66) h.1 h.2).1.2.2.length) (c3_3))].toArray 25) :: (B_3 ++ ((r6, Obj.cells [(Value.int .i64 (((rTake ((s.1.take 66), (s.2.1.take 66), (s.2.2.take 66))).2.1.1))), (Value.int .i64 (((rTake ((s.1.take 66), (s.2.1.take 66), (s.2.2.take 66))).2.1.2)))].toArray 27) :: ((r5, Obj.cells [(Value.slice (a1_2) ((rTake ((s.1.take 66), (s.2.1.take 66), (s.2.2.take 66))).1.1.length) (c1_2)), (Value.slice (a2_2) ((rTake ((s.1.take 66), (s.2.1.take 66), (s.2.2.take 66))).1.2.1.length) (c2_2)), (Value.slice (a3_2) ((rTake ((s.1.take 66), (s.2.1.take 66), (s.2.2.take 66))).1.2.2.length) (c3_2))].toArray 25) :: (B1_2 ++ (B2_2 ++ (B3_2 ++ ((r4, Obj.cells [(Value.int .i64 (((takeD (s.1.take 66) (s.2.1.take 66) (s.2.2.take 66)).2.1.1))), (Value.int .i64 (((takeD (s.1.take 66) (s.2.1.take 66) (s.2.2.take 66)).2.1.2)))].toArray 27) :: ((r3, Obj.cells [(Value.slice (a1_1) ((takeD (s.1.take 66) (s.2.1.take 66) (s.2.2.take 66)).1.1.length) (c1_1)), (Value.slice (a2_1) ((takeD (s.1.take 66) (s.2.1.take 66) (s.2.2.take 66)).1.2.1.length) (c2_1)), (Value.slice (a3_1) ((takeD (s.1.take 66) (s.2.1.take 66) (s.2.2.take 66)).1.2.2.length) (c3_1))].toArray 25) :: (B_1 ++ ((r2, Obj.cells [(Value.int .i64 (h.1)), (Value.int .i64 (h.2))].toArray 27) :: ((r1, Obj.cells [(Value.slice (s_1_a) ((s.1.take 66).length) (s_1_c)), (Value.slice (s_2_1_a) ((s.2.1.take 66).length) (s_2_1_c)), (Value.slice (s_2_2_a) ((s.2.2.take 66).length) (s_2_2_c))].toArray 25) :: []))))))))))))))), he_4, (hw1_4.fresh hf_4).perm (List.Perm.of_eq (by first | (simp only [List.append_assoc]; done) | (simp only [List.append_assoc, List.nil_append, List.cons_append]; done) | rfl)), ?_⟩
  have hgr_47854 := rGive_len ((s.1.take 66), (s.2.1.take 66), (s.2.2.take 66)) h
  refine JL_q (q_move) (k := ?_)
  refine JL_q (q_ext) (k := ?_)
  refine JL_q (q_ext) (k := ?_)
  refine JL_a noMk (a_alloc (l := [_, _, _]) Try.zeroValue25) (k := fun r8 hr8 => ?_)
  refine JL_s (w_store (l' := [_, _, _]) Try.sizeOf25) (k := ?_)
  refine JL_q (q_assign) (k := ?_)
  refine JL_nil ?_
  refine JX_seq ?_
  refine J_seq ?_
  refine J_reg ?_
  refine JL_q (q_move) (k := ?_)
  refine JL_q (q_move) (k := ?_)
  refine JL_bool 44 rfl (fun hq4 => ?_) (fun hq4 => ?_)
  rotate_left
  · refine JL_skips 3 rfl ?_
    refine JL_q (q_pickF) (k := ?_)
    refine JL_q (q_move) (k := ?_)
    refine JL_skips 3 rfl ?_
    refine JL_q (q_pickF) (k := ?_)
    refine JL_q (q_move) (k := ?_)
    refine JL_skips 3 rfl ?_
    refine JL_q (q_pickF) (k := ?_)
    refine JL_q (q_move) (k := ?_)
    refine JL_skips 3 rfl ?_
    refine JL_q (q_pickF) (k := ?_)
    refine JL_q (q_move) (k := ?_)
    refine JL_skips 3 rfl ?_
    refine JL_q (q_pickF) (k := ?_)
    refine JL_q (q_assign) (k := ?_)
    refine JL_nil ?_
    refine JX_seq ?_
    refine J_ret ?_
    refine JX_ret Try.results3 (Res.tmp rfl Res.nil) (fun w1 hw1 => ?_)
    exact ⟨(by rw [((hF.f hq4)).eq] <;> first | rfl | (simp only [List.length_set] <;> rfl)), hw1.ext_out⟩
  refine JL_qg (q_loadA Try.isAgg25 Try.sizeOf25) (k := ?_)
  refine JL_qg (q_loadA Try.isAgg25 Try.sizeOf25) (k := ?_)
  refine JL_vg (args := [(Value.agg [(Value.slice (a1_1) ((takeD (s.1.take 66) (s.2.1.take 66) (s.2.2.take 66)).1.1.length) (c1_1)), (Value.slice (a2_1) ((takeD (s.1.take 66) (s.2.1.take 66) (s.2.2.take 66)).1.2.1.length) (c2_1)), (Value.slice (a3_1) ((takeD (s.1.take 66) (s.2.1.take 66) (s.2.2.take 66)).1.2.2.length) (c3_1))].toArray), (Value.agg [(Value.slice (a1_2) ((rTake ((s.1.take 66), (s.2.1.take 66), (s.2.2.take 66))).1.1.length) (c1_2)), (Value.slice (a2_2) ((rTake ((s.1.take 66), (s.2.1.take 66), (s.2.2.take 66))).1.2.1.length) (c2_2)), (Value.slice (a3_2) ((rTake ((s.1.take 66), (s.2.1.take 66), (s.2.2.take 66))).1.2.2.length) (c3_2))].toArray)]) (c_callA Try.call15) (fun w1 hw1 => rSame_ok w1 (a := (takeD (s.1.take 66) (s.2.1.take 66) (s.2.2.take 66)).1) (b := (rTake ((s.1.take 66), (s.2.1.take 66), (s.2.2.take 66))).1) (h_a_1 := (SlB.slj hs1_1) w1 hw1) (n_a_1 := by first | omega | (simp only [List.length_append, List.length_take, List.length_drop, List.length_set, List.length_replicate, List.length_cons, List.length_nil, List.length_map]; omega) | (simp only [List.length_append, List.length_take, List.length_drop, List.length_set, List.length_replicate, List.length_cons, List.length_nil, List.length_map] at *; omega) | decide) (h_a_2_1 := (SlB.slj hs2_1) w1 hw1) (n_a_2_1 := by first | omega | (simp only [List.length_append, List.length_take, List.length_drop, List.length_set, List.length_replicate, List.length_cons, List.length_nil, List.length_map]; omega) | (simp only [List.length_append, List.length_take, List.length_drop, List.length_set, List.length_replicate, List.length_cons, List.length_nil, List.length_map] at *; omega) | decide) (h_a_2_2 := (SlB.slj hs3_1) w1 hw1) (n_a_2_2 := by first | omega | (simp only [List.length_append, List.length_take, List.length_drop, List.length_set, List.length_replicate, List.length_cons, List.length_nil, List.length_map]; omega) | (simp only [List.length_append, List.length_take, List.length_drop, List.length_set, List.length_replicate, List.length_cons, List.length_nil, List.length_map] at *; omega) | decide) (h_b_1 := (ho1_2.slj eI_ok) w1 hw1) (n_b_1 := by first | omega | (simp only [List.length_append, List.length_take, List.length_drop, List.length_set, List.length_replicate, List.length_cons, List.length_nil, List.length_map]; omega) | (simp only [List.length_append, List.length_take, List.length_drop, List.length_set, List.length_replicate, List.length_cons, List.length_nil, List.length_map] at *; omega) | decide) (h_b_2_1 := (ho2_2.slj eB_ok) w1 hw1) (n_b_2_1 := by first | omega | (simp only [List.length_append, List.length_take, List.length_drop, List.length_set, List.length_replicate, List.length_cons, List.length_nil, List.length_map]; omega) | (simp only [List.length_append, List.length_take, List.length_drop, List.length_set, List.length_replicate, List.length_cons, List.length_nil, List.length_map] at *; omega) | decide) (h_b_2_2 := (ho3_2.slj eI_ok) w1 hw1) (n_b_2_2 := by first | omega | (simp only [List.length_append, List.length_take, List.length_drop, List.length_set, List.length_replicate, List.length_cons, List.length_nil, List.length_map]; omega) | (simp only [List.length_append, List.length_take, List.length_drop, List.length_set, List.length_replicate, List.length_cons, List.length_nil, List.length_map] at *; omega) | decide)) (k := ?_)
  refine JL_q (q_pickT) (k := ?_)
  refine JL_q (q_move) (k := ?_)
  refine JL_bool 49 rfl (fun hq5 => ?_) (fun hq5 => ?_)
  rotate_left
  · refine JL_skips 3 rfl ?_
    refine JL_q (q_pickF) (k := ?_)
    refine JL_q (q_move) (k := ?_)
    refine JL_skips 3 rfl ?_
    refine JL_q (q_pickF) (k := ?_)
    refine JL_q (q_move) (k := ?_)
    refine JL_skips 3 rfl ?_
    refine JL_q (q_pickF) (k := ?_)
    refine JL_q (q_move) (k := ?_)
    refine JL_skips 3 rfl ?_
    refine JL_q (q_pickF) (k := ?_)
    refine JL_q (q_assign) (k := ?_)
    refine JL_nil ?_
    refine JX_seq ?_
    refine J_ret ?_
    refine JX_ret Try.results3 (Res.tmp rfl Res.nil) (fun w1 hw1 => ?_)
    exact ⟨(by rw [(((hF.t hq4).f hq5)).eq] <;> first | rfl | (simp only [List.length_set] <;> rfl)), hw1.ext_out⟩
  refine JL_qg (q_loadA Try.isAgg27 Try.sizeOf27) (k := ?_)
  refine JL_qg (q_loadA Try.isAgg27 Try.sizeOf27) (k := ?_)
  refine JL_qg (q_eqS (EQ_27 _ _ _ _ _ _)) (k := ?_)
  refine JL_q (q_pickT) (k := ?_)
  refine JL_q (q_move) (k := ?_)
  refine JL_dec 54 rfl (fun hq6 => ?_) (fun hq6 => ?_)
  rotate_left
  · refine JL_skips 3 rfl ?_
    refine JL_q (q_pickF) (k := ?_)
    refine JL_q (q_move) (k := ?_)
    refine JL_skips 3 rfl ?_
    refine JL_q (q_pickF) (k := ?_)
    refine JL_q (q_move) (k := ?_)
    refine JL_skips 3 rfl ?_
    refine JL_q (q_pickF) (k := ?_)
    refine JL_q (q_assign) (k := ?_)
    refine JL_nil ?_
    refine JX_seq ?_
    refine J_ret ?_
    refine JX_ret Try.results3 (Res.tmp rfl Res.nil) (fun w1 hw1 => ?_)
    exact ⟨(by rw [((((hF.t hq4).t hq5).neg hq6)).eq] <;> first | rfl | (simp only [List.length_set] <;> rfl)), hw1.ext_out⟩
  refine JL_qg (q_move) (k := ?_)
  refine JL_qg (q_move) (k := ?_)
  refine JL_qg (q_eql) (k := ?_)
  refine JL_q (q_pickT) (k := ?_)
  refine JL_q (q_move) (k := ?_)
  refine JL_dec 59 rfl (fun hq7 => ?_) (fun hq7 => ?_)
  rotate_left
  · refine JL_skips 3 rfl ?_
    refine JL_q (q_pickF) (k := ?_)
    refine JL_q (q_move) (k := ?_)
    refine JL_skips 3 rfl ?_
    refine JL_q (q_pickF) (k := ?_)
    refine JL_q (q_assign) (k := ?_)
    refine JL_nil ?_
    refine JX_seq ?_
    refine J_ret ?_
    refine JX_ret Try.results3 (Res.tmp rfl Res.nil) (fun w1 hw1 => ?_)
    exact ⟨(by rw [(((((hF.t hq4).t hq5).pos hq6).neg hq7)).eq] <;> first | rfl | (simp only [List.length_set] <;> rfl)), hw1.ext_out⟩
  refine JL_qg (q_loadA Try.isAgg25 Try.sizeOf25) (k := ?_)
  refine JL_qg (q_loadA Try.isAgg25 Try.sizeOf25) (k := ?_)
  refine JL_vg (args := [(Value.agg [(Value.slice (a1_3) ((giveD (s.1.take 66) (s.2.1.take 66) (s.2.2.take 66) h.1 h.2).1.1.length) (c1_3)), (Value.slice (a2_3) ((giveD (s.1.take 66) (s.2.1.take 66) (s.2.2.take 66) h.1 h.2).1.2.1.length) (c2_3)), (Value.slice (a3_3) ((giveD (s.1.take 66) (s.2.1.take 66) (s.2.2.take 66) h.1 h.2).1.2.2.length) (c3_3))].toArray), (Value.agg [(Value.slice (a1_4) ((rGive ((s.1.take 66), (s.2.1.take 66), (s.2.2.take 66)) h).1.1.length) (c1_4)), (Value.slice (a2_4) ((rGive ((s.1.take 66), (s.2.1.take 66), (s.2.2.take 66)) h).1.2.1.length) (c2_4)), (Value.slice (a3_4) ((rGive ((s.1.take 66), (s.2.1.take 66), (s.2.2.take 66)) h).1.2.2.length) (c3_4))].toArray)]) (c_callA Try.call15) (fun w1 hw1 => rSame_ok w1 (a := (giveD (s.1.take 66) (s.2.1.take 66) (s.2.2.take 66) h.1 h.2).1) (b := (rGive ((s.1.take 66), (s.2.1.take 66), (s.2.2.take 66)) h).1) (h_a_1 := (SlB.slj hs1_3) w1 hw1) (n_a_1 := by first | omega | (simp only [List.length_append, List.length_take, List.length_drop, List.length_set, List.length_replicate, List.length_cons, List.length_nil, List.length_map]; omega) | (simp only [List.length_append, List.length_take, List.length_drop, List.length_set, List.length_replicate, List.length_cons, List.length_nil, List.length_map] at *; omega) | decide) (h_a_2_1 := (SlB.slj hs2_3) w1 hw1) (n_a_2_1 := by first | omega | (simp only [List.length_append, List.length_take, List.length_drop, List.length_set, List.length_replicate, List.length_cons, List.length_nil, List.length_map]; omega) | (simp only [List.length_append, List.length_take, List.length_drop, List.length_set, List.length_replicate, List.length_cons, List.length_nil, List.length_map] at *; omega) | decide) (h_a_2_2 := (SlB.slj hs3_3) w1 hw1) (n_a_2_2 := by first | omega | (simp only [List.length_append, List.length_take, List.length_drop, List.length_set, List.length_replicate, List.length_cons, List.length_nil, List.length_map]; omega) | (simp only [List.length_append, List.length_take, List.length_drop, List.length_set, List.length_replicate, List.length_cons, List.length_nil, List.length_map] at *; omega) | decide) (h_b_1 := (ho1_4.slj eI_ok) w1 hw1) (n_b_1 := by first | omega | (simp only [List.length_append, List.length_take, List.length_drop, List.length_set, List.length_replicate, List.length_cons, List.length_nil, List.length_map]; omega) | (simp only [List.length_append, List.length_take, List.length_drop, List.length_set, List.length_replicate, List.length_cons, List.length_nil, List.length_map] at *; omega) | decide) (h_b_2_1 := (ho2_4.slj eB_ok) w1 hw1) (n_b_2_1 := by first | omega | (simp only [List.length_append, List.length_take, List.length_drop, List.length_set, List.length_replicate, List.length_cons, List.length_nil, List.length_map]; omega) | (simp only [List.length_append, List.length_take, List.length_drop, List.length_set, List.length_replicate, List.length_cons, List.length_nil, List.length_map] at *; omega) | decide) (h_b_2_2 := (ho3_4.slj eI_ok) w1 hw1) (n_b_2_2 := by first | omega | (simp only [List.length_append, List.length_take, List.length_drop, List.length_set, List.length_replicate, List.length_cons, List.length_nil, List.length_map]; omega) | (simp only [List.length_append, List.length_take, List.length_drop, List.length_set, List.length_replicate, List.length_cons, List.length_nil, List.length_map] at *; omega) | decide)) (k := ?_)
  refine JL_q (q_pickT) (k := ?_)
  refine JL_q (q_move) (k := ?_)
  refine JL_bool 64 rfl (fun hq8 => ?_) (fun hq8 => ?_)
  rotate_left
  · refine JL_skips 3 rfl ?_
    refine JL_q (q_pickF) (k := ?_)
    refine JL_q (q_assign) (k := ?_)
    refine JL_nil ?_
    refine JX_seq ?_
    refine J_ret ?_
    refine JX_ret Try.results3 (Res.tmp rfl Res.nil) (fun w1 hw1 => ?_)
    exact ⟨(by rw [((((((hF.t hq4).t hq5).pos hq6).pos hq7).f hq8)).eq] <;> first | rfl | (simp only [List.length_set] <;> rfl)), hw1.ext_out⟩
  refine JL_qg (q_move) (k := ?_)
  refine JL_qg (q_move) (k := ?_)
  refine JL_qg (q_eql) (k := ?_)
  refine JL_q (q_pickT) (k := ?_)
  refine JL_q (q_assign) (k := ?_)
  refine JL_nil ?_
  refine JX_seq ?_
  refine J_ret ?_
  refine JX_ret Try.results3 (Res.tmp rfl Res.nil) (fun w1 hw1 => ?_)
  exact ⟨(by rw [((((((hF.t hq4).t hq5).pos hq6).pos hq7).t hq8)).eq] <;> first | rfl | (simp only [List.length_set] <;> rfl)), hw1.ext_out⟩

end Go.Proofs.Ytofkflecgnmemaa.Jd
