/- Part of the proofs of this seat: walks and plain facts. No condition. -/
import Derived.Test.YtcmondhpiahchaaGreatDoorProg
import Derived.Test.YtcmondhpiahchaaGreatDoorJLM
import Derived.Test.YtcmondhpiahchaaGreatDoorJLN
import Derived.Test.YtcmondhpiahchaaGreatDoorJRW
namespace Go.Proofs.YtcmondhpiahchaaGreatDoor.Jd
open Go.Proofs
open Go.RowKit (Below)
set_option maxRecDepth 100000
set_option linter.unusedVariables false
set_option linter.unusedSimpArgs false

theorem cShown_ok (w : World) {ea0 : Addr} {ea1 : Addr} (hG : Gl w) (hE : Er w ea0 ea1) : Val Tryz.prog 8 [] w (Value.bool (cShown)) := by
  have hF := Is.refl cShown
  refine enter Tryz.func8 Tryz.ntmps8 (h := ?_)
  refine J_seq ?_
  refine J_reg ?_
  refine JL_q (q_assign) (k := ?_)
  refine JL_nil ?_
  refine JX_seq ?_
  refine J_seq ?_
  refine J_reg ?_
  refine JL_q (q_build (cs := [_, _, _, _]) Tryz.zeroValue37 PL_37) (k := ?_)
  refine JL_a noMk (a_bslice (l := [_, _, _, _]) Tryz.runUnderlying22 Tryz.sizeOf37 Tryz.zeroValue37) (k := fun r1 hr1 => ?_)
  refine JL_q (q_assign) (k := ?_)
  refine JL_nil ?_
  refine JX_seq ?_
  refine J_seq ?_
  refine J_reg ?_
  refine JL_q (q_move) (k := ?_)
  refine JL_p (args := [(Value.slice (some ⟨r1, 0, none⟩) (1) (1)), (Value.string (bs ([110, 101, 119] : Str))), (Value.int .i64 (50)), (Value.int .i64 (10)), (Value.int .i64 (100))]) (c_callA Tryz.call11) (fun w1 hw1 => cRot_ok w1 (l := ([(Cred.mk 1 ([111, 108, 100] : Str) 0 100)] : List Cred)) (key := ([110, 101, 119] : Str)) (now := 50) (overlap := 10) (span := 100) (h_l := (SlJ.lit (xs := ([(Cred.mk 1 ([111, 108, 100] : Str) 0 100)] : List Cred)) eCred_ok) w1 hw1) (n_l := by first | omega | (simp only [List.length_append, List.length_take, List.length_drop, List.length_set, List.length_replicate, List.length_cons, List.length_nil, List.length_map, toS_length, toI_length]; omega) | (simp only [List.length_append, List.length_take, List.length_drop, List.length_set, List.length_replicate, List.length_cons, List.length_nil, List.length_map, toS_length, toI_length] at *; omega) | decide) (hG := hG.ext hw1.ext_out) (hE := hE.ext hw1.ext_out)) (k := ?_)
  rintro w1_1 e1_1 w2_1 hw1_1 ⟨a1_1, c1_1, B1_1, he_1, hf_1, ho1_1, hl1_1⟩
  refine ⟨_, (B1_1 ++ ((r1, Obj.cells [(Value.int .i64 (1)), (Value.string (bs ([111, 108, 100] : Str))), (Value.int .i64 (0)), (Value.int .i64 (100))].toArray 37) :: [])), he_1, hw1_1.fresh hf_1, ?_⟩
  have hrot_46767 := cRot_bd ([(Cred.mk 1 ([111, 108, 100] : Str) 0 100)] : List Cred) ([110, 101, 119] : Str) 50 10 100
  refine JL_q (q_move) (k := ?_)
  refine JL_q (q_ext) (k := ?_)
  refine JL_q (q_ext) (k := ?_)
  refine JL_q (q_ext) (k := ?_)
  refine JL_q (q_assign) (k := ?_)
  refine JL_q (q_assign) (k := ?_)
  refine JL_q (q_assign) (k := ?_)
  refine JL_nil ?_
  refine JX_seq ?_
  refine J_seq ?_
  refine J_reg ?_
  refine JL_v (args := [(Value.int .i64 (1)), (Value.int .i64 (2))]) (c_callA Tryz.call19) (fun w1 hw1 => mChal_ok w1 (a := 1) (b := 2) (i_a := by first | omega | (simp only [List.length_append, List.length_take, List.length_drop, List.length_set, List.length_replicate, List.length_cons, List.length_nil, List.length_map, toS_length, toI_length]; omega) | (simp only [List.length_append, List.length_take, List.length_drop, List.length_set, List.length_replicate, List.length_cons, List.length_nil, List.length_map, toS_length, toI_length] at *; omega) | decide) (i_b := by first | omega | (simp only [List.length_append, List.length_take, List.length_drop, List.length_set, List.length_replicate, List.length_cons, List.length_nil, List.length_map, toS_length, toI_length]; omega) | (simp only [List.length_append, List.length_take, List.length_drop, List.length_set, List.length_replicate, List.length_cons, List.length_nil, List.length_map, toS_length, toI_length] at *; omega) | decide) (hG := hG.ext hw1.ext_out) (hE := hE.ext hw1.ext_out)) (k := ?_)
  have hch_82623 := mChal_len 1 2
  refine JL_q (q_move) (k := ?_)
  refine JL_q (q_ext) (k := ?_)
  refine JL_q (q_ext) (k := ?_)
  refine JL_q (q_assign) (k := ?_)
  refine JL_q (q_assign) (k := ?_)
  refine JL_nil ?_
  refine JX_seq ?_
  refine J_seq ?_
  refine J_reg ?_
  refine JL_q (q_move) (k := ?_)
  refine JL_v (args := [(Value.string (bs ([111, 108, 100] : Str))), (Value.string (bs ((mChal 1 2).1))), (Value.string (bs ([97, 99, 109, 101] : Str)))]) (c_callA Tryz.call20) (fun w1 hw1 => mAns_ok w1 (key := ([111, 108, 100] : Str)) (challenge := ((mChal 1 2).1)) (name := ([97, 99, 109, 101] : Str)) (n_name := by first | omega | (simp only [List.length_append, List.length_take, List.length_drop, List.length_set, List.length_replicate, List.length_cons, List.length_nil, List.length_map, toS_length, toI_length]; omega) | (simp only [List.length_append, List.length_take, List.length_drop, List.length_set, List.length_replicate, List.length_cons, List.length_nil, List.length_map, toS_length, toI_length] at *; omega) | decide) (hG := hG.ext hw1.ext_out) (hE := hE.ext hw1.ext_out)) (k := ?_)
  have han_64819 := mAns_len ([111, 108, 100] : Str) ((mChal 1 2).1) ([97, 99, 109, 101] : Str)
  refine JL_q (q_move) (k := ?_)
  refine JL_q (q_ext) (k := ?_)
  refine JL_q (q_ext) (k := ?_)
  refine JL_q (q_assign) (k := ?_)
  refine JL_q (q_assign) (k := ?_)
  refine JL_nil ?_
  refine JX_seq ?_
  refine J_seq ?_
  refine J_reg ?_
  refine JL_q (q_move) (k := ?_)
  refine JL_q (q_move) (k := ?_)
  refine JL_q (q_move) (k := ?_)
  refine JL_v (args := [(Value.slice (a1_1) ((cRot ([(Cred.mk 1 ([111, 108, 100] : Str) 0 100)] : List Cred) ([110, 101, 119] : Str) 50 10 100).1.length) (c1_1)), (Value.int .i64 (55)), (Value.string (bs ((mChal 1 2).1))), (Value.string (bs ([97, 99, 109, 101] : Str))), (Value.string (bs ((mAns ([111, 108, 100] : Str) ((mChal 1 2).1) ([97, 99, 109, 101] : Str)).1)))]) (c_callA Tryz.call21) (fun w1 hw1 => cCheck_ok w1 (l := ((cRot ([(Cred.mk 1 ([111, 108, 100] : Str) 0 100)] : List Cred) ([110, 101, 119] : Str) 50 10 100).1)) (now := 55) (challenge := ((mChal 1 2).1)) (name := ([97, 99, 109, 101] : Str)) (proof := ((mAns ([111, 108, 100] : Str) ((mChal 1 2).1) ([97, 99, 109, 101] : Str)).1)) (h_l := (ho1_1.slj eCred_ok) w1 hw1) (n_l := by first | omega | (simp only [List.length_append, List.length_take, List.length_drop, List.length_set, List.length_replicate, List.length_cons, List.length_nil, List.length_map, toS_length, toI_length]; omega) | (simp only [List.length_append, List.length_take, List.length_drop, List.length_set, List.length_replicate, List.length_cons, List.length_nil, List.length_map, toS_length, toI_length] at *; omega) | decide) (n_name := by first | omega | (simp only [List.length_append, List.length_take, List.length_drop, List.length_set, List.length_replicate, List.length_cons, List.length_nil, List.length_map, toS_length, toI_length]; omega) | (simp only [List.length_append, List.length_take, List.length_drop, List.length_set, List.length_replicate, List.length_cons, List.length_nil, List.length_map, toS_length, toI_length] at *; omega) | decide) (n_proof := by first | omega | (simp only [List.length_append, List.length_take, List.length_drop, List.length_set, List.length_replicate, List.length_cons, List.length_nil, List.length_map, toS_length, toI_length]; omega) | (simp only [List.length_append, List.length_take, List.length_drop, List.length_set, List.length_replicate, List.length_cons, List.length_nil, List.length_map, toS_length, toI_length] at *; omega) | decide) (hG := hG.ext hw1.ext_out) (hE := hE.ext hw1.ext_out)) (k := ?_)
  refine JL_q (q_move) (k := ?_)
  refine JL_q (q_ext) (k := ?_)
  refine JL_q (q_ext) (k := ?_)
  refine JL_q (q_assign) (k := ?_)
  refine JL_q (q_assign) (k := ?_)
  refine JL_nil ?_
  refine JX_seq ?_
  refine J_seq ?_
  refine J_reg ?_
  refine JL_q (q_move) (k := ?_)
  refine JL_q (q_move) (k := ?_)
  refine JL_q (q_move) (k := ?_)
  refine JL_v (args := [(Value.slice (a1_1) ((cRot ([(Cred.mk 1 ([111, 108, 100] : Str) 0 100)] : List Cred) ([110, 101, 119] : Str) 50 10 100).1.length) (c1_1)), (Value.int .i64 (60)), (Value.string (bs ((mChal 1 2).1))), (Value.string (bs ([97, 99, 109, 101] : Str))), (Value.string (bs ((mAns ([111, 108, 100] : Str) ((mChal 1 2).1) ([97, 99, 109, 101] : Str)).1)))]) (c_callA Tryz.call21) (fun w1 hw1 => cCheck_ok w1 (l := ((cRot ([(Cred.mk 1 ([111, 108, 100] : Str) 0 100)] : List Cred) ([110, 101, 119] : Str) 50 10 100).1)) (now := 60) (challenge := ((mChal 1 2).1)) (name := ([97, 99, 109, 101] : Str)) (proof := ((mAns ([111, 108, 100] : Str) ((mChal 1 2).1) ([97, 99, 109, 101] : Str)).1)) (h_l := (ho1_1.slj eCred_ok) w1 hw1) (n_l := by first | omega | (simp only [List.length_append, List.length_take, List.length_drop, List.length_set, List.length_replicate, List.length_cons, List.length_nil, List.length_map, toS_length, toI_length]; omega) | (simp only [List.length_append, List.length_take, List.length_drop, List.length_set, List.length_replicate, List.length_cons, List.length_nil, List.length_map, toS_length, toI_length] at *; omega) | decide) (n_name := by first | omega | (simp only [List.length_append, List.length_take, List.length_drop, List.length_set, List.length_replicate, List.length_cons, List.length_nil, List.length_map, toS_length, toI_length]; omega) | (simp only [List.length_append, List.length_take, List.length_drop, List.length_set, List.length_replicate, List.length_cons, List.length_nil, List.length_map, toS_length, toI_length] at *; omega) | decide) (n_proof := by first | omega | (simp only [List.length_append, List.length_take, List.length_drop, List.length_set, List.length_replicate, List.length_cons, List.length_nil, List.length_map, toS_length, toI_length]; omega) | (simp only [List.length_append, List.length_take, List.length_drop, List.length_set, List.length_replicate, List.length_cons, List.length_nil, List.length_map, toS_length, toI_length] at *; omega) | decide) (hG := hG.ext hw1.ext_out) (hE := hE.ext hw1.ext_out)) (k := ?_)
  refine JL_q (q_move) (k := ?_)
  refine JL_q (q_ext) (k := ?_)
  refine JL_q (q_ext) (k := ?_)
  refine JL_q (q_assign) (k := ?_)
  refine JL_q (q_assign) (k := ?_)
  refine JL_nil ?_
  refine JX_seq ?_
  refine J_seq ?_
  refine J_reg ?_
  refine JL_q (q_move) (k := ?_)
  refine JL_p (args := [(Value.slice (a1_1) ((cRot ([(Cred.mk 1 ([111, 108, 100] : Str) 0 100)] : List Cred) ([110, 101, 119] : Str) 50 10 100).1.length) (c1_1)), (Value.int .i64 (2)), (Value.int .i64 (55))]) (c_callA Tryz.call13) (fun w1 hw1 => cEnd_ok w1 (l := ((cRot ([(Cred.mk 1 ([111, 108, 100] : Str) 0 100)] : List Cred) ([110, 101, 119] : Str) 50 10 100).1)) (id := 2) (now := 55) (h_l := (ho1_1.slj eCred_ok) w1 hw1) (n_l := by first | omega | (simp only [List.length_append, List.length_take, List.length_drop, List.length_set, List.length_replicate, List.length_cons, List.length_nil, List.length_map, toS_length, toI_length]; omega) | (simp only [List.length_append, List.length_take, List.length_drop, List.length_set, List.length_replicate, List.length_cons, List.length_nil, List.length_map, toS_length, toI_length] at *; omega) | decide) (hG := hG.ext hw1.ext_out) (hE := hE.ext hw1.ext_out)) (k := ?_)
  rintro w1_2 e1_2 w2_2 hw1_2 ⟨a1_2, c1_2, B1_2, he_2, hf_2, ho1_2, hl1_2⟩
  refine ⟨_, (B1_2 ++ (B1_1 ++ ((r1, Obj.cells [(Value.int .i64 (1)), (Value.string (bs ([111, 108, 100] : Str))), (Value.int .i64 (0)), (Value.int .i64 (100))].toArray 37) :: []))), he_2, hw1_2.fresh hf_2, ?_⟩
  refine JL_q (q_move) (k := ?_)
  refine JL_q (q_ext) (k := ?_)
  refine JL_q (q_ext) (k := ?_)
  refine JL_q (q_assign) (k := ?_)
  refine JL_q (q_assign) (k := ?_)
  refine JL_nil ?_
  refine JX_seq ?_
  refine J_seq ?_
  refine J_reg ?_
  refine JL_q (q_move) (k := ?_)
  refine JL_q (q_eql) (k := ?_)
  refine JL_q (q_move) (k := ?_)
  refine JL_dec 53 rfl (fun hq1 => ?_) (fun hq1 => ?_)
  rotate_left
  · refine JL_skips 2 rfl ?_
    refine JL_q (q_pickF) (k := ?_)
    refine JL_q (q_move) (k := ?_)
    refine JL_skips 2 rfl ?_
    refine JL_q (q_pickF) (k := ?_)
    refine JL_q (q_move) (k := ?_)
    refine JL_skips 2 rfl ?_
    refine JL_q (q_pickF) (k := ?_)
    refine JL_q (q_move) (k := ?_)
    refine JL_skips 2 rfl ?_
    refine JL_q (q_pickF) (k := ?_)
    refine JL_q (q_move) (k := ?_)
    refine JL_skip (k := ?_)
    refine JL_q (q_pickF) (k := ?_)
    refine JL_q (q_move) (k := ?_)
    refine JL_skips 2 rfl ?_
    refine JL_q (q_pickF) (k := ?_)
    refine JL_q (q_move) (k := ?_)
    refine JL_skips 4 rfl ?_
    refine JL_q (q_pickF) (k := ?_)
    refine JL_q (q_move) (k := ?_)
    refine JL_skips 4 rfl ?_
    refine JL_q (q_pickF) (k := ?_)
    refine JL_q (q_move) (k := ?_)
    refine JL_skips 2 rfl ?_
    refine JL_q (q_pickF) (k := ?_)
    refine JL_q (q_move) (k := ?_)
    refine JL_skips 4 rfl ?_
    refine JL_q (q_pickF) (k := ?_)
    refine JL_q (q_assign) (k := ?_)
    refine JL_nil ?_
    refine JX_seq ?_
    refine J_ret ?_
    refine JX_ret Tryz.results8 (Res.tmp rfl Res.nil) (fun w1 hw1 => ?_)
    exact ⟨(by rw [((hF.neg hq1)).eq] <;> first | rfl | (simp only [List.length_set] <;> rfl)), hw1.ext_out⟩
  refine JL_qg (q_move) (k := ?_)
  refine JL_qg (q_eql) (k := ?_)
  refine JL_q (q_pickT) (k := ?_)
  refine JL_q (q_move) (k := ?_)
  refine JL_dec 57 rfl (fun hq2 => ?_) (fun hq2 => ?_)
  rotate_left
  · refine JL_skips 2 rfl ?_
    refine JL_q (q_pickF) (k := ?_)
    refine JL_q (q_move) (k := ?_)
    refine JL_skips 2 rfl ?_
    refine JL_q (q_pickF) (k := ?_)
    refine JL_q (q_move) (k := ?_)
    refine JL_skips 2 rfl ?_
    refine JL_q (q_pickF) (k := ?_)
    refine JL_q (q_move) (k := ?_)
    refine JL_skip (k := ?_)
    refine JL_q (q_pickF) (k := ?_)
    refine JL_q (q_move) (k := ?_)
    refine JL_skips 2 rfl ?_
    refine JL_q (q_pickF) (k := ?_)
    refine JL_q (q_move) (k := ?_)
    refine JL_skips 4 rfl ?_
    refine JL_q (q_pickF) (k := ?_)
    refine JL_q (q_move) (k := ?_)
    refine JL_skips 4 rfl ?_
    refine JL_q (q_pickF) (k := ?_)
    refine JL_q (q_move) (k := ?_)
    refine JL_skips 2 rfl ?_
    refine JL_q (q_pickF) (k := ?_)
    refine JL_q (q_move) (k := ?_)
    refine JL_skips 4 rfl ?_
    refine JL_q (q_pickF) (k := ?_)
    refine JL_q (q_assign) (k := ?_)
    refine JL_nil ?_
    refine JX_seq ?_
    refine J_ret ?_
    refine JX_ret Tryz.results8 (Res.tmp rfl Res.nil) (fun w1 hw1 => ?_)
    exact ⟨(by rw [(((hF.pos hq1).neg hq2)).eq] <;> first | rfl | (simp only [List.length_set] <;> rfl)), hw1.ext_out⟩
  refine JL_qg (q_move) (k := ?_)
  refine JL_qg (q_eql) (k := ?_)
  refine JL_q (q_pickT) (k := ?_)
  refine JL_q (q_move) (k := ?_)
  refine JL_dec 61 rfl (fun hq3 => ?_) (fun hq3 => ?_)
  rotate_left
  · refine JL_skips 2 rfl ?_
    refine JL_q (q_pickF) (k := ?_)
    refine JL_q (q_move) (k := ?_)
    refine JL_skips 2 rfl ?_
    refine JL_q (q_pickF) (k := ?_)
    refine JL_q (q_move) (k := ?_)
    refine JL_skip (k := ?_)
    refine JL_q (q_pickF) (k := ?_)
    refine JL_q (q_move) (k := ?_)
    refine JL_skips 2 rfl ?_
    refine JL_q (q_pickF) (k := ?_)
    refine JL_q (q_move) (k := ?_)
    refine JL_skips 4 rfl ?_
    refine JL_q (q_pickF) (k := ?_)
    refine JL_q (q_move) (k := ?_)
    refine JL_skips 4 rfl ?_
    refine JL_q (q_pickF) (k := ?_)
    refine JL_q (q_move) (k := ?_)
    refine JL_skips 2 rfl ?_
    refine JL_q (q_pickF) (k := ?_)
    refine JL_q (q_move) (k := ?_)
    refine JL_skips 4 rfl ?_
    refine JL_q (q_pickF) (k := ?_)
    refine JL_q (q_assign) (k := ?_)
    refine JL_nil ?_
    refine JX_seq ?_
    refine J_ret ?_
    refine JX_ret Tryz.results8 (Res.tmp rfl Res.nil) (fun w1 hw1 => ?_)
    exact ⟨(by rw [((((hF.pos hq1).pos hq2).neg hq3)).eq] <;> first | rfl | (simp only [List.length_set] <;> rfl)), hw1.ext_out⟩
  refine JL_qg (q_move) (k := ?_)
  refine JL_qg (q_eql) (k := ?_)
  refine JL_q (q_pickT) (k := ?_)
  refine JL_q (q_move) (k := ?_)
  refine JL_dec 65 rfl (fun hq4 => ?_) (fun hq4 => ?_)
  rotate_left
  · refine JL_skips 2 rfl ?_
    refine JL_q (q_pickF) (k := ?_)
    refine JL_q (q_move) (k := ?_)
    refine JL_skip (k := ?_)
    refine JL_q (q_pickF) (k := ?_)
    refine JL_q (q_move) (k := ?_)
    refine JL_skips 2 rfl ?_
    refine JL_q (q_pickF) (k := ?_)
    refine JL_q (q_move) (k := ?_)
    refine JL_skips 4 rfl ?_
    refine JL_q (q_pickF) (k := ?_)
    refine JL_q (q_move) (k := ?_)
    refine JL_skips 4 rfl ?_
    refine JL_q (q_pickF) (k := ?_)
    refine JL_q (q_move) (k := ?_)
    refine JL_skips 2 rfl ?_
    refine JL_q (q_pickF) (k := ?_)
    refine JL_q (q_move) (k := ?_)
    refine JL_skips 4 rfl ?_
    refine JL_q (q_pickF) (k := ?_)
    refine JL_q (q_assign) (k := ?_)
    refine JL_nil ?_
    refine JX_seq ?_
    refine J_ret ?_
    refine JX_ret Tryz.results8 (Res.tmp rfl Res.nil) (fun w1 hw1 => ?_)
    exact ⟨(by rw [(((((hF.pos hq1).pos hq2).pos hq3).neg hq4)).eq] <;> first | rfl | (simp only [List.length_set] <;> rfl)), hw1.ext_out⟩
  refine JL_qg (q_move) (k := ?_)
  refine JL_qg (q_eql) (k := ?_)
  refine JL_q (q_pickT) (k := ?_)
  refine JL_q (q_move) (k := ?_)
  refine JL_dec 69 rfl (fun hq5 => ?_) (fun hq5 => ?_)
  rotate_left
  · refine JL_skip (k := ?_)
    refine JL_q (q_pickF) (k := ?_)
    refine JL_q (q_move) (k := ?_)
    refine JL_skips 2 rfl ?_
    refine JL_q (q_pickF) (k := ?_)
    refine JL_q (q_move) (k := ?_)
    refine JL_skips 4 rfl ?_
    refine JL_q (q_pickF) (k := ?_)
    refine JL_q (q_move) (k := ?_)
    refine JL_skips 4 rfl ?_
    refine JL_q (q_pickF) (k := ?_)
    refine JL_q (q_move) (k := ?_)
    refine JL_skips 2 rfl ?_
    refine JL_q (q_pickF) (k := ?_)
    refine JL_q (q_move) (k := ?_)
    refine JL_skips 4 rfl ?_
    refine JL_q (q_pickF) (k := ?_)
    refine JL_q (q_assign) (k := ?_)
    refine JL_nil ?_
    refine JX_seq ?_
    refine J_ret ?_
    refine JX_ret Tryz.results8 (Res.tmp rfl Res.nil) (fun w1 hw1 => ?_)
    exact ⟨(by rw [((((((hF.pos hq1).pos hq2).pos hq3).pos hq4).neg hq5)).eq] <;> first | rfl | (simp only [List.length_set] <;> rfl)), hw1.ext_out⟩
  refine JL_qg (q_move) (k := ?_)
  refine JL_q (q_pickT) (k := ?_)
  refine JL_q (q_move) (k := ?_)
  refine JL_bool 72 rfl (fun hq6 => ?_) (fun hq6 => ?_)
  rotate_left
  · refine JL_skips 2 rfl ?_
    refine JL_q (q_pickF) (k := ?_)
    refine JL_q (q_move) (k := ?_)
    refine JL_skips 4 rfl ?_
    refine JL_q (q_pickF) (k := ?_)
    refine JL_q (q_move) (k := ?_)
    refine JL_skips 4 rfl ?_
    refine JL_q (q_pickF) (k := ?_)
    refine JL_q (q_move) (k := ?_)
    refine JL_skips 2 rfl ?_
    refine JL_q (q_pickF) (k := ?_)
    refine JL_q (q_move) (k := ?_)
    refine JL_skips 4 rfl ?_
    refine JL_q (q_pickF) (k := ?_)
    refine JL_q (q_assign) (k := ?_)
    refine JL_nil ?_
    refine JX_seq ?_
    refine J_ret ?_
    refine JX_ret Tryz.results8 (Res.tmp rfl Res.nil) (fun w1 hw1 => ?_)
    exact ⟨(by rw [(((((((hF.pos hq1).pos hq2).pos hq3).pos hq4).pos hq5).f hq6)).eq] <;> first | rfl | (simp only [List.length_set] <;> rfl)), hw1.ext_out⟩
  refine JL_qg (q_move) (k := ?_)
  refine JL_qg (q_not) (k := ?_)
  refine JL_q (q_pickT) (k := ?_)
  refine JL_q (q_move) (k := ?_)
  refine JL_bool 76 rfl (fun hq7 => ?_) (fun hq7 => ?_)
  rotate_left
  · refine JL_skips 4 rfl ?_
    refine JL_q (q_pickF) (k := ?_)
    refine JL_q (q_move) (k := ?_)
    refine JL_skips 4 rfl ?_
    refine JL_q (q_pickF) (k := ?_)
    refine JL_q (q_move) (k := ?_)
    refine JL_skips 2 rfl ?_
    refine JL_q (q_pickF) (k := ?_)
    refine JL_q (q_move) (k := ?_)
    refine JL_skips 4 rfl ?_
    refine JL_q (q_pickF) (k := ?_)
    refine JL_q (q_assign) (k := ?_)
    refine JL_nil ?_
    refine JX_seq ?_
    refine J_ret ?_
    refine JX_ret Tryz.results8 (Res.tmp rfl Res.nil) (fun w1 hw1 => ?_)
    exact ⟨(by rw [((((((((hF.pos hq1).pos hq2).pos hq3).pos hq4).pos hq5).t hq6).f hq7)).eq] <;> first | rfl | (simp only [List.length_set] <;> rfl)), hw1.ext_out⟩
  refine JL_qg (q_move) (k := ?_)
  refine JL_pg (args := [(Value.slice (a1_1) ((cRot ([(Cred.mk 1 ([111, 108, 100] : Str) 0 100)] : List Cred) ([110, 101, 119] : Str) 50 10 100).1.length) (c1_1)), (Value.int .i64 (55))]) (c_callA Tryz.call17) (fun w1 hw1 => cHolding_ok w1 (l := ((cRot ([(Cred.mk 1 ([111, 108, 100] : Str) 0 100)] : List Cred) ([110, 101, 119] : Str) 50 10 100).1)) (now := 55) (h_l := (ho1_1.slj eCred_ok) w1 hw1) (n_l := by first | omega | (simp only [List.length_append, List.length_take, List.length_drop, List.length_set, List.length_replicate, List.length_cons, List.length_nil, List.length_map, toS_length, toI_length]; omega) | (simp only [List.length_append, List.length_take, List.length_drop, List.length_set, List.length_replicate, List.length_cons, List.length_nil, List.length_map, toS_length, toI_length] at *; omega) | decide)) (k := ?_)
  rintro w1_3 e1_3 w2_3 hw1_3 ⟨a1_3, c1_3, B1_3, he_3, hf_3, ho1_3, hl1_3⟩
  refine ⟨_, (B1_3 ++ (B1_2 ++ (B1_1 ++ ((r1, Obj.cells [(Value.int .i64 (1)), (Value.string (bs ([111, 108, 100] : Str))), (Value.int .i64 (0)), (Value.int .i64 (100))].toArray 37) :: [])))), he_3, hw1_3.fresh hf_3, ?_⟩
  refine JL_qg (q_lenS Tryz.runUnderlying22) (k := ?_)
  refine JL_qg (q_eql) (k := ?_)
  refine JL_q (q_pickT) (k := ?_)
  refine JL_q (q_move) (k := ?_)
  refine JL_dec 82 rfl (fun hq8 => ?_) (fun hq8 => ?_)
  rotate_left
  · refine JL_skips 4 rfl ?_
    refine JL_q (q_pickF) (k := ?_)
    refine JL_q (q_move) (k := ?_)
    refine JL_skips 2 rfl ?_
    refine JL_q (q_pickF) (k := ?_)
    refine JL_q (q_move) (k := ?_)
    refine JL_skips 4 rfl ?_
    refine JL_q (q_pickF) (k := ?_)
    refine JL_q (q_assign) (k := ?_)
    refine JL_nil ?_
    refine JX_seq ?_
    refine J_ret ?_
    refine JX_ret Tryz.results8 (Res.tmp rfl Res.nil) (fun w1 hw1 => ?_)
    exact ⟨(by rw [(((((((((hF.pos hq1).pos hq2).pos hq3).pos hq4).pos hq5).t hq6).t hq7).neg hq8)).eq] <;> first | rfl | (simp only [List.length_set] <;> rfl)), hw1.ext_out⟩
  refine JL_qg (q_move) (k := ?_)
  refine JL_pg (args := [(Value.slice (a1_1) ((cRot ([(Cred.mk 1 ([111, 108, 100] : Str) 0 100)] : List Cred) ([110, 101, 119] : Str) 50 10 100).1.length) (c1_1)), (Value.int .i64 (60))]) (c_callA Tryz.call17) (fun w1 hw1 => cHolding_ok w1 (l := ((cRot ([(Cred.mk 1 ([111, 108, 100] : Str) 0 100)] : List Cred) ([110, 101, 119] : Str) 50 10 100).1)) (now := 60) (h_l := (ho1_1.slj eCred_ok) w1 hw1) (n_l := by first | omega | (simp only [List.length_append, List.length_take, List.length_drop, List.length_set, List.length_replicate, List.length_cons, List.length_nil, List.length_map, toS_length, toI_length]; omega) | (simp only [List.length_append, List.length_take, List.length_drop, List.length_set, List.length_replicate, List.length_cons, List.length_nil, List.length_map, toS_length, toI_length] at *; omega) | decide)) (k := ?_)
  rintro w1_4 e1_4 w2_4 hw1_4 ⟨a1_4, c1_4, B1_4, he_4, hf_4, ho1_4, hl1_4⟩
  refine ⟨_, (B1_4 ++ (B1_3 ++ (B1_2 ++ (B1_1 ++ ((r1, Obj.cells [(Value.int .i64 (1)), (Value.string (bs ([111, 108, 100] : Str))), (Value.int .i64 (0)), (Value.int .i64 (100))].toArray 37) :: []))))), he_4, hw1_4.fresh hf_4, ?_⟩
  refine JL_qg (q_lenS Tryz.runUnderlying22) (k := ?_)
  refine JL_qg (q_eql) (k := ?_)
  refine JL_q (q_pickT) (k := ?_)
  refine JL_q (q_move) (k := ?_)
  refine JL_dec 88 rfl (fun hq9 => ?_) (fun hq9 => ?_)
  rotate_left
  · refine JL_skips 2 rfl ?_
    refine JL_q (q_pickF) (k := ?_)
    refine JL_q (q_move) (k := ?_)
    refine JL_skips 4 rfl ?_
    refine JL_q (q_pickF) (k := ?_)
    refine JL_q (q_assign) (k := ?_)
    refine JL_nil ?_
    refine JX_seq ?_
    refine J_ret ?_
    refine JX_ret Tryz.results8 (Res.tmp rfl Res.nil) (fun w1 hw1 => ?_)
    exact ⟨(by rw [((((((((((hF.pos hq1).pos hq2).pos hq3).pos hq4).pos hq5).t hq6).t hq7).pos hq8).neg hq9)).eq] <;> first | rfl | (simp only [List.length_set] <;> rfl)), hw1.ext_out⟩
  refine JL_qg (q_move) (k := ?_)
  refine JL_qg (q_eql) (k := ?_)
  refine JL_q (q_pickT) (k := ?_)
  refine JL_q (q_move) (k := ?_)
  refine JL_dec 92 rfl (fun hq10 => ?_) (fun hq10 => ?_)
  rotate_left
  · refine JL_skips 4 rfl ?_
    refine JL_q (q_pickF) (k := ?_)
    refine JL_q (q_assign) (k := ?_)
    refine JL_nil ?_
    refine JX_seq ?_
    refine J_ret ?_
    refine JX_ret Tryz.results8 (Res.tmp rfl Res.nil) (fun w1 hw1 => ?_)
    exact ⟨(by rw [(((((((((((hF.pos hq1).pos hq2).pos hq3).pos hq4).pos hq5).t hq6).t hq7).pos hq8).pos hq9).neg hq10)).eq] <;> first | rfl | (simp only [List.length_set] <;> rfl)), hw1.ext_out⟩
  refine JL_qg (q_move) (k := ?_)
  refine JL_pg (args := [(Value.slice (a1_2) ((cEnd ((cRot ([(Cred.mk 1 ([111, 108, 100] : Str) 0 100)] : List Cred) ([110, 101, 119] : Str) 50 10 100).1) 2 55).1.length) (c1_2)), (Value.int .i64 (70))]) (c_callA Tryz.call17) (fun w1 hw1 => cHolding_ok w1 (l := ((cEnd ((cRot ([(Cred.mk 1 ([111, 108, 100] : Str) 0 100)] : List Cred) ([110, 101, 119] : Str) 50 10 100).1) 2 55).1)) (now := 70) (h_l := (ho1_2.slj eCred_ok) w1 hw1) (n_l := by first | omega | (simp only [List.length_append, List.length_take, List.length_drop, List.length_set, List.length_replicate, List.length_cons, List.length_nil, List.length_map, toS_length, toI_length]; omega) | (simp only [List.length_append, List.length_take, List.length_drop, List.length_set, List.length_replicate, List.length_cons, List.length_nil, List.length_map, toS_length, toI_length] at *; omega) | decide)) (k := ?_)
  rintro w1_5 e1_5 w2_5 hw1_5 ⟨a1_5, c1_5, B1_5, he_5, hf_5, ho1_5, hl1_5⟩
  refine ⟨_, (B1_5 ++ (B1_4 ++ (B1_3 ++ (B1_2 ++ (B1_1 ++ ((r1, Obj.cells [(Value.int .i64 (1)), (Value.string (bs ([111, 108, 100] : Str))), (Value.int .i64 (0)), (Value.int .i64 (100))].toArray 37) :: [])))))), he_5, hw1_5.fresh hf_5, ?_⟩
  refine JL_qg (q_lenS Tryz.runUnderlying22) (k := ?_)
  refine JL_qg (q_eql) (k := ?_)
  refine JL_q (q_pickT) (k := ?_)
  refine JL_q (q_assign) (k := ?_)
  refine JL_nil ?_
  refine JX_seq ?_
  refine J_ret ?_
  refine JX_ret Tryz.results8 (Res.tmp rfl Res.nil) (fun w1 hw1 => ?_)
  exact ⟨(by rw [(((((((((((hF.pos hq1).pos hq2).pos hq3).pos hq4).pos hq5).t hq6).t hq7).pos hq8).pos hq9).pos hq10)).eq] <;> first | rfl | (simp only [List.length_set] <;> rfl)), hw1.ext_out⟩

theorem cFew_ok (w : World) {l_a : Option Addr} {l_c : Nat} {l : List Cred} (h_l : Sl w eCred 4 l_a l) : Calls Tryz.prog 9 (List.toArray [(Value.slice (l_a) (l.length) (l_c))]) w fun e w2 => ∃ a1 : Option Addr, ∃ c1 : Nat, ∃ B1 : Heap, e = .returned (Value.slice (a1) ((cFew l).length) (c1)) ∧ Fresh w w2 B1 ∧ OwnB eCred 4 37 a1 c1 B1 (cFew l) ∧ (cFew l).length ≤ 6 := by
  have hF := Is.refl (cFew l)
  refine enter Tryz.func9 Tryz.ntmps9 (h := ?_)
  refine J_seq ?_
  refine J_reg ?_
  refine JL_q (q_assign) (k := ?_)
  refine JL_nil ?_
  refine JX_seq ?_
  refine J_seq ?_
  refine J_reg ?_
  refine JL_q (q_assign) (k := ?_)
  refine JL_nil ?_
  refine JX_seq ?_
  refine J_seq ?_
  refine J_seq ?_
  refine J_reg ?_
  refine JL_q (q_assign) (k := ?_)
  refine JL_nil ?_
  refine JX_seq ?_
  refine J_block ?_
  refine J_loop6 (σ1 := Nat) (σ2 := List Cred) (σ3 := Option Addr) (σ4 := Nat) (σ5 := Heap) (σ6 := Nat) (fun n_3 out_1 out_1a out_1c out_1B i_2 => (out_1B ++ [])) (fun n_3 out_1 out_1a out_1c out_1B i_2 => [(0, (Value.slice (l_a) (l.length) (l_c))), (2, (Value.slice (none) (0) (0))), (3, (Value.slice (out_1a) (out_1.length) (out_1c))), (4, (Value.int .i64 (((i_2 : Nat) : Int))))]) (fun n_3 out_1 out_1a out_1c out_1B i_2 => 6 - i_2 < n_3 ∧ Is (cFew_l0 l (6 + 1) [] 0) (cFew_l0 l n_3 out_1 i_2) ∧ OwnB eCred 4 37 out_1a out_1c out_1B out_1 ∧ out_1.length ≤ i_2 ∧ i_2 ≤ 6 ∧ i_2 ≤ l.length) (fun n_3 out_1 out_1a out_1c out_1B i_2 => n_3) (6 + 1) ([]) none 0 ([]) 0 ?_ (by repeat (first | exact SubE.nil | refine SubE.cons rfl ?_)) (List.Perm.refl _) ?_
  · exact ⟨Nat.lt_succ_self _, Is.refl _, OwnB.nil, (by first | omega | rfl | (simp; done)), (by first | omega | rfl | (simp; done)), (by first | omega | rfl | (simp; done))⟩
  · rintro (_ | n_3) out_1 out_1a out_1c out_1B i_2 ⟨hm5, hF4, hout_1, hi6, hi7, hi8⟩
    · omega
    refine J_seq ?_
    refine J_seq ?_
    refine J_reg ?_
    refine JL_q (q_move) (k := ?_)
    refine JL_q (q_move) (k := ?_)
    refine JL_q (q_lenS Tryz.runUnderlying22) (k := ?_)
    refine JL_q (q_lss) (k := ?_)
    refine JL_q (q_move) (k := ?_)
    refine JL_dec 10 rfl (fun hq1 => ?_) (fun hq1 => ?_)
    rotate_left
    · refine JL_skips 2 rfl ?_
      refine JL_q (q_pickF) (k := ?_)
      refine JL_nil ?_
      refine JX_seq ?_
      refine J_false rfl ?_
      refine J_exit ?_
      refine JX_seq_exit ?_
      refine JX_inv_exit ?_
      refine JX_block_hit ?_
      refine JX_seq ?_
      refine J_seq ?_
      refine J_reg ?_
      refine JL_q (q_move) (k := ?_)
      refine JL_q (q_assign) (k := ?_)
      refine JL_nil ?_
      refine JX_seq ?_
      refine J_ret ?_
      refine JX_ret Tryz.results9 (Res.tmp rfl Res.nil) (fun w1 hw1 => ?_)
      exact ⟨out_1a, out_1c, out_1B, (by rw [((hF.rn2 (hF4.neg hq1))).eq] <;> first | rfl | (simp only [List.length_set] <;> rfl)), (fresh_segs (L := out_1B) (R := []) (hw1.perm (List.Perm.refl _)) (by simp)), (by rw [((hF.rn2 (hF4.neg hq1))).eq]; exact hout_1), (by rw [((hF.rn2 (hF4.neg hq1))).eq]; first | omega | (simp only [List.length_append, List.length_take, List.length_drop, List.length_set, List.length_replicate, List.length_cons, List.length_nil, List.length_map, toS_length, toI_length]; omega) | (simp only [List.length_append, List.length_take, List.length_drop, List.length_set, List.length_replicate, List.length_cons, List.length_nil, List.length_map, toS_length, toI_length] at *; omega))⟩
    refine JL_qg (q_move) (k := ?_)
    refine JL_qg (q_lss) (k := ?_)
    refine JL_q (q_pickT) (k := ?_)
    refine JL_nil ?_
    refine JX_seq ?_
    refine J_dec rfl (fun hq2 => ?_) (fun hq2 => ?_)
    rotate_left
    · refine J_exit ?_
      refine JX_seq_exit ?_
      refine JX_inv_exit ?_
      refine JX_block_hit ?_
      refine JX_seq ?_
      refine J_seq ?_
      refine J_reg ?_
      refine JL_q (q_move) (k := ?_)
      refine JL_q (q_assign) (k := ?_)
      refine JL_nil ?_
      refine JX_seq ?_
      refine J_ret ?_
      refine JX_ret Tryz.results9 (Res.tmp rfl Res.nil) (fun w1 hw1 => ?_)
      exact ⟨out_1a, out_1c, out_1B, (by rw [((hF.rn2 ((hF4.pos hq1).neg hq2))).eq] <;> first | rfl | (simp only [List.length_set] <;> rfl)), (fresh_segs (L := out_1B) (R := []) (hw1.perm (List.Perm.refl _)) (by simp)), (by rw [((hF.rn2 ((hF4.pos hq1).neg hq2))).eq]; exact hout_1), (by rw [((hF.rn2 ((hF4.pos hq1).neg hq2))).eq]; first | omega | (simp only [List.length_append, List.length_take, List.length_drop, List.length_set, List.length_replicate, List.length_cons, List.length_nil, List.length_map, toS_length, toI_length]; omega) | (simp only [List.length_append, List.length_take, List.length_drop, List.length_set, List.length_replicate, List.length_cons, List.length_nil, List.length_map, toS_length, toI_length] at *; omega))⟩
    refine J_skip ?_
    refine JX_seq ?_
    refine J_seq ?_
    refine J_block ?_
    refine J_seq ?_
    refine J_reg ?_
    refine JL_q (q_move) (k := ?_)
    refine JL_q (q_move) (k := ?_)
    refine JL_q (q_idx (n := l.length) Tryz.runUnderlying22 Tryz.sizeOf37 i_2 (SlJ.of_base h_l) (gD (by first | omega | (simp only [List.length_set]; omega) | (simp only [List.length_append, List.length_take, List.length_drop, List.length_set, List.length_replicate, List.length_cons, List.length_nil, List.length_map, toS_length, toI_length]; omega))) (by first | rfl | simp)) (k := ?_)
    refine JL_q (q_loadEA Tryz.isAgg37 Tryz.sizeOf37 i_2 (SlJ.of_base h_l) (gD (by first | omega | (simp only [List.length_set]; omega) | (simp only [List.length_append, List.length_take, List.length_drop, List.length_set, List.length_replicate, List.length_cons, List.length_nil, List.length_map, toS_length, toI_length]; omega)))) (k := ?_)
    refine JL_a noMk (a_alloc (l := [_, _, _, _]) Tryz.zeroValue37) (k := fun r1 hr1 => ?_)
    refine JL_s (w_store (l' := [_, _, _, _]) Tryz.sizeOf37) (k := ?_)
    refine JL_nil ?_
    refine JX_seq ?_
    refine J_seq ?_
    refine J_reg ?_
    refine JL_q (q_fld FO_37_1) (k := ?_)
    refine JL_q (q_load Tryz.isAgg9) (k := ?_)
    refine JL_q (q_fld FO_37_1) (k := ?_)
    refine JL_q (q_load Tryz.isAgg9) (k := ?_)
    refine JL_q (q_lenT Tryz.runUnderlying9) (k := ?_)
    refine JL_q (q_min) (k := ?_)
    refine JL_q (q_subThi (s := ((l.getD i_2 default).key)) (min ((l.getD i_2 default).key).length 65) Tryz.runUnderlying9 (by omega) (hj := by split <;> omega)) (k := ?_)
    have hsb2 : (((l.getD i_2 default).key).take (min ((l.getD i_2 default).key).length 65)).length = (min ((l.getD i_2 default).key).length 65) := by first | omega | (simp only [List.length_take, List.length_drop] <;> omega)
    refine JL_q (q_fld FO_37_1) (k := ?_)
    refine JL_s (w_store (l' := [_, _, _, _]) Tryz.sizeOf9) (k := ?_)
    refine JL_nil ?_
    refine JX_seq ?_
    refine J_reg ?_
    refine JL_q (q_move) (k := ?_)
    refine JL_q (q_loadA Tryz.isAgg37 Tryz.sizeOf37) (k := ?_)
    refine JL_a noMk (a_bslice (l := [_, _, _, _]) Tryz.runUnderlying22 Tryz.sizeOf37 Tryz.zeroValue37) (k := fun r2 hr2 => ?_)
    refine JL_append (out_1 ++ ([(Cred.mk ((l.getD i_2 default).id) (((l.getD i_2 default).key).take (min ((l.getD i_2 default).key).length 65)) ((l.getD i_2 default).frm) ((l.getD i_2 default).to))] : List Cred)) rfl TY_37 Tryz.underlying22 eCred_ok hout_1 ((List.Perm.cons _ ((List.Perm.cons _ (List.Perm.refl _)).trans List.perm_middle.symm)).trans List.perm_middle.symm) (SlJ.lit (xs := ([(Cred.mk ((l.getD i_2 default).id) (((l.getD i_2 default).key).take (min ((l.getD i_2 default).key).length 65)) ((l.getD i_2 default).frm) ((l.getD i_2 default).to))] : List Cred)) eCred_ok) ⟨by omega, by omega⟩ (n := out_1.length) (m := 1) (k := fun ax1 cx1 Bx1 hox1 => ?_)
    have hal1 : (out_1 ++ ([(Cred.mk ((l.getD i_2 default).id) (((l.getD i_2 default).key).take (min ((l.getD i_2 default).key).length 65)) ((l.getD i_2 default).frm) ((l.getD i_2 default).to))] : List Cred)).length = out_1.length + 1 := by first | rfl | simp
    refine JL_q (q_assign) (k := ?_)
    refine JL_nil ?_
    refine JX_block ?_
    refine JX_seq ?_
    refine J_reg ?_
    refine JL_q (q_move) (k := ?_)
    refine JL_q (q_add) (k := ?_)
    refine JL_q (q_assign) (k := ?_)
    refine JL_nil ?_
    refine JX_subL (Bx1 ++ []) (List.Sublist.append (List.Sublist.refl _) (List.nil_sublist _)) ?_
    exact JX_inv6 n_3 (out_1 ++ ([(Cred.mk ((l.getD i_2 default).id) (((l.getD i_2 default).key).take (min ((l.getD i_2 default).key).length 65)) ((l.getD i_2 default).frm) ((l.getD i_2 default).to))] : List Cred)) ax1 cx1 Bx1 (i_2 + 1) ⟨by omega, ((hF4.pos hq1).pos hq2), hox1, (by omega), (by omega), (by omega)⟩ (Nat.lt_succ_self _) (by repeat (first | exact SubE.nil | refine SubE.cons rfl ?_)) (List.Perm.refl _)

theorem cCut_ok (w : World) {s : Str} : Val Tryz.prog 10 [(Value.string (bs s))] w (Value.string (bs (cCut s))) := by
  have hF := Is.refl (cCut s)
  refine enter Tryz.func10 Tryz.ntmps10 (h := ?_)
  refine J_seq ?_
  refine J_reg ?_
  refine JL_q (q_assign) (k := ?_)
  refine JL_nil ?_
  refine JX_seq ?_
  refine J_seq ?_
  refine J_reg ?_
  refine JL_q (q_move) (k := ?_)
  refine JL_q (q_move) (k := ?_)
  refine JL_q (q_lenT Tryz.runUnderlying9) (k := ?_)
  refine JL_q (q_min) (k := ?_)
  refine JL_q (q_subThi (s := s) (min s.length 100) Tryz.runUnderlying9 (by omega) (hj := by split <;> omega)) (k := ?_)
  have hsb1 : (s.take (min s.length 100)).length = (min s.length 100) := by first | omega | (simp only [List.length_take, List.length_drop] <;> omega)
  refine JL_q (q_assign) (k := ?_)
  refine JL_nil ?_
  refine JX_seq ?_
  refine J_ret ?_
  refine JX_ret Tryz.results10 (Res.tmp rfl Res.nil) (fun w1 hw1 => ?_)
  exact ⟨(by rw [(hF).eq] <;> first | rfl | (simp only [List.length_set] <;> rfl)), hw1.ext_out⟩

theorem cInL_ok (w : World) {l_a : Option Addr} {l_c : Nat} {l : List Cred} {id : Int} (h_l : Sl w eCred 4 l_a l) (n_l : l.length ≤ 1001) : Val Tryz.prog 18 [(Value.slice (l_a) (l.length) (l_c)), (Value.int .i64 (id))] w (Value.bool ((cInL l id))) := by
  have hF := Is.refl (cInL l id)
  refine enter Tryz.func18 Tryz.ntmps18 (h := ?_)
  refine J_seq ?_
  refine J_reg ?_
  refine JL_q (q_assign) (k := ?_)
  refine JL_nil ?_
  refine JX_seq ?_
  refine J_seq ?_
  refine J_seq ?_
  refine J_reg ?_
  refine JL_q (q_assign) (k := ?_)
  refine JL_nil ?_
  refine JX_seq ?_
  refine J_block ?_
  refine J_loop2 (σ1 := Nat) (σ2 := Nat) (fun n_2 i_1 => []) (fun n_2 i_1 => [(0, (Value.slice (l_a) (l.length) (l_c))), (1, (Value.int .i64 (id))), (4, (Value.bool (false))), (5, (Value.int .i64 (((i_1 : Nat) : Int))))]) (fun n_2 i_1 => l.length - i_1 < n_2 ∧ Is (cInL_l0 l id (l.length + 1) 0) (cInL_l0 l id n_2 i_1) ∧ i_1 ≤ l.length) (fun n_2 i_1 => n_2) (l.length + 1) 0 ?_ (by repeat (first | exact SubE.nil | refine SubE.cons rfl ?_)) (List.Perm.refl _) ?_
  · exact ⟨Nat.lt_succ_self _, Is.refl _, (by first | omega | rfl | (simp; done))⟩
  · rintro (_ | n_2) i_1 ⟨hm4, hF3, hi5⟩
    · omega
    refine J_seq ?_
    refine J_seq ?_
    refine J_reg ?_
    refine JL_q (q_move) (k := ?_)
    refine JL_q (q_move) (k := ?_)
    refine JL_q (q_lenS Tryz.runUnderlying22) (k := ?_)
    refine JL_q (q_lss) (k := ?_)
    refine JL_nil ?_
    refine JX_seq ?_
    refine J_dec rfl (fun hq1 => ?_) (fun hq1 => ?_)
    rotate_left
    · refine J_exit ?_
      refine JX_seq_exit ?_
      refine JX_inv_exit ?_
      refine JX_block_hit ?_
      refine JX_seq ?_
      refine J_seq ?_
      refine J_reg ?_
      refine JL_q (q_assign) (k := ?_)
      refine JL_nil ?_
      refine JX_seq ?_
      refine J_ret ?_
      refine JX_ret Tryz.results18 (Res.tmp rfl Res.nil) (fun w1 hw1 => ?_)
      exact ⟨(by rw [((hF.ok1 (hF3.neg hq1))).eq] <;> first | rfl | (simp only [List.length_set] <;> rfl)), hw1.ext_out⟩
    refine J_skip ?_
    refine JX_seq ?_
    refine J_seq ?_
    refine J_block ?_
    refine J_seq ?_
    refine J_reg ?_
    refine JL_q (q_move) (k := ?_)
    refine JL_q (q_move) (k := ?_)
    refine JL_q (q_idx (n := l.length) Tryz.runUnderlying22 Tryz.sizeOf37 i_1 (SlJ.of_base h_l) (gD (by first | omega | (simp only [List.length_set]; omega) | (simp only [List.length_append, List.length_take, List.length_drop, List.length_set, List.length_replicate, List.length_cons, List.length_nil, List.length_map, toS_length, toI_length]; omega))) (by first | rfl | simp)) (k := ?_)
    refine JL_q (q_fldE FO_37_0) (k := ?_)
    refine JL_q (q_loadE Tryz.isAgg3 i_1 0 (SlJ.of_base h_l) (gD (by first | omega | (simp only [List.length_set]; omega) | (simp only [List.length_append, List.length_take, List.length_drop, List.length_set, List.length_replicate, List.length_cons, List.length_nil, List.length_map, toS_length, toI_length]; omega)))) (k := ?_)
    refine JL_q (q_move) (k := ?_)
    refine JL_q (q_eql) (k := ?_)
    refine JL_nil ?_
    refine JX_seq ?_
    refine J_dec rfl (fun hq2 => ?_) (fun hq2 => ?_)
    rotate_left
    · refine J_skip ?_
      refine JX_block ?_
      refine JX_seq ?_
      refine J_reg ?_
      refine JL_q (q_move) (k := ?_)
      refine JL_q (q_add) (k := ?_)
      refine JL_q (q_assign) (k := ?_)
      refine JL_nil ?_
      exact JX_inv2 n_2 (i_1 + 1) ⟨by omega, ((hF3.pos hq1).neg hq2), (by omega)⟩ (Nat.lt_succ_self _) (by repeat (first | exact SubE.nil | refine SubE.cons rfl ?_)) (List.Perm.refl _)
    refine J_seq ?_
    refine J_reg ?_
    refine JL_q (q_assign) (k := ?_)
    refine JL_nil ?_
    refine JX_seq ?_
    refine J_ret ?_
    refine JX_block_ret ?_
    refine JX_seq_ret ?_
    refine JX_inv_ret ?_
    refine JX_block_ret ?_
    refine JX_seq_ret ?_
    refine JX_ret Tryz.results18 (Res.tmp rfl Res.nil) (fun w1 hw1 => ?_)
    exact ⟨(by rw [((hF.er1 ((hF3.pos hq1).pos hq2))).eq] <;> first | rfl | (simp only [List.length_set] <;> rfl)), hw1.ext_out⟩

theorem lCredTurns_ok (w : World) {l_a : Option Addr} {l_c : Nat} {ea0 : Addr} {ea1 : Addr} {l : List Cred} {key : Str} {now : Int} {overlap : Int} {span : Int} {id : Int} (h_l : Sl w eCred 4 l_a l) (hG : Gl w) (hE : Er w ea0 ea1) : Val Tryz.prog 3 [(Value.slice (l_a) (l.length) (l_c)), (Value.string (bs key)), (Value.int .i64 (now)), (Value.int .i64 (overlap)), (Value.int .i64 (span)), (Value.int .i64 (id))] w (Value.bool ((lCredTurns l key now overlap span id))) := by
  have hF := Is.refl (lCredTurns l key now overlap span id)
  refine enter Tryz.func3 Tryz.ntmps3 (h := ?_)
  refine J_seq ?_
  refine J_reg ?_
  refine JL_q (q_assign) (k := ?_)
  refine JL_nil ?_
  refine JX_seq ?_
  refine J_seq ?_
  refine J_reg ?_
  refine JL_v (args := []) (c_callA Tryz.call8) (fun w1 hw1 => cShown_ok w1 (hG := hG.ext hw1.ext_out) (hE := hE.ext hw1.ext_out)) (k := ?_)
  refine JL_q (q_assign) (k := ?_)
  refine JL_nil ?_
  refine JX_seq ?_
  refine J_seq ?_
  refine J_reg ?_
  refine JL_q (q_move) (k := ?_)
  refine JL_p (args := [(Value.slice (l_a) (l.length) (l_c))]) (c_callA Tryz.call9) (fun w1 hw1 => cFew_ok w1 (l := l) (h_l := (SlJ.of_base h_l) w1 hw1)) (k := ?_)
  rintro w1_1 e1_1 w2_1 hw1_1 ⟨a1_1, c1_1, B1_1, he_1, hf_1, ho1_1, hl1_1⟩
  refine ⟨_, (B1_1 ++ []), he_1, hw1_1.fresh hf_1, ?_⟩
  refine JL_q (q_assign) (k := ?_)
  refine JL_nil ?_
  refine JX_seq ?_
  refine J_seq ?_
  refine J_reg ?_
  refine JL_q (q_move) (k := ?_)
  refine JL_v (args := [(Value.string (bs key))]) (c_callA Tryz.call10) (fun w1 hw1 => cCut_ok w1 (s := key)) (k := ?_)
  have hcu_12664 := cCut_len key
  refine JL_q (q_assign) (k := ?_)
  refine JL_nil ?_
  refine JX_seq ?_
  refine J_seq ?_
  refine J_reg ?_
  refine JL_q (q_move) (k := ?_)
  refine JL_q (q_move) (k := ?_)
  refine JL_q (q_move) (k := ?_)
  refine JL_q (q_move) (k := ?_)
  refine JL_q (q_move) (k := ?_)
  refine JL_p (args := [(Value.slice (a1_1) ((cFew l).length) (c1_1)), (Value.string (bs (cCut key))), (Value.int .i64 (now)), (Value.int .i64 (overlap)), (Value.int .i64 (span))]) (c_callA Tryz.call11) (fun w1 hw1 => cRot_ok w1 (l := (cFew l)) (key := (cCut key)) (now := now) (overlap := overlap) (span := span) (h_l := (ho1_1.slj eCred_ok) w1 hw1) (n_l := by first | omega | (simp only [List.length_append, List.length_take, List.length_drop, List.length_set, List.length_replicate, List.length_cons, List.length_nil, List.length_map, toS_length, toI_length]; omega) | (simp only [List.length_append, List.length_take, List.length_drop, List.length_set, List.length_replicate, List.length_cons, List.length_nil, List.length_map, toS_length, toI_length] at *; omega) | decide) (hG := hG.ext hw1.ext_out) (hE := hE.ext hw1.ext_out)) (k := ?_)
  rintro w1_2 e1_2 w2_2 hw1_2 ⟨a1_2, c1_2, B1_2, he_2, hf_2, ho1_2, hl1_2⟩
  refine ⟨_, (B1_2 ++ (B1_1 ++ [])), he_2, hw1_2.fresh hf_2, ?_⟩
  have hrot_73958 := cRot_bd (cFew l) (cCut key) now overlap span
  refine JL_q (q_move) (k := ?_)
  refine JL_q (q_ext) (k := ?_)
  refine JL_q (q_ext) (k := ?_)
  refine JL_q (q_ext) (k := ?_)
  refine JL_q (q_assign) (k := ?_)
  refine JL_q (q_assign) (k := ?_)
  refine JL_q (q_assign) (k := ?_)
  refine JL_nil ?_
  refine JX_seq ?_
  refine J_seq ?_
  refine J_reg ?_
  refine JL_q (q_move) (k := ?_)
  refine JL_q (q_move) (k := ?_)
  refine JL_q (q_move) (k := ?_)
  refine JL_q (q_move) (k := ?_)
  refine JL_q (q_move) (k := ?_)
  refine JL_p (args := [(Value.slice (a1_1) ((cFew l).length) (c1_1)), (Value.string (bs (cCut key))), (Value.int .i64 (now)), (Value.int .i64 (overlap)), (Value.int .i64 (span))]) (c_callA Tryz.call12) (fun w1 hw1 => rcRot_ok w1 (l := (cFew l)) (key := (cCut key)) (now := now) (overlap := overlap) (span := span) (h_l := (ho1_1.slj eCred_ok) w1 hw1) (n_l := by first | omega | (simp only [List.length_append, List.length_take, List.length_drop, List.length_set, List.length_replicate, List.length_cons, List.length_nil, List.length_map, toS_length, toI_length]; omega) | (simp only [List.length_append, List.length_take, List.length_drop, List.length_set, List.length_replicate, List.length_cons, List.length_nil, List.length_map, toS_length, toI_length] at *; omega) | decide)) (k := ?_)
  rintro w1_3 e1_3 w2_3 hw1_3 ⟨a1_3, c1_3, B1_3, he_3, hf_3, ho1_3, hl1_3⟩
  refine ⟨_, (B1_3 ++ (B1_2 ++ (B1_1 ++ []))), he_3, hw1_3.fresh hf_3, ?_⟩
  refine JL_q (q_move) (k := ?_)
  refine JL_q (q_ext) (k := ?_)
  refine JL_q (q_ext) (k := ?_)
  refine JL_q (q_ext) (k := ?_)
  refine JL_q (q_assign) (k := ?_)
  refine JL_q (q_assign) (k := ?_)
  refine JL_q (q_assign) (k := ?_)
  refine JL_nil ?_
  refine JX_seq ?_
  refine J_seq ?_
  refine J_reg ?_
  refine JL_q (q_move) (k := ?_)
  refine JL_q (q_move) (k := ?_)
  refine JL_q (q_move) (k := ?_)
  refine JL_p (args := [(Value.slice (a1_1) ((cFew l).length) (c1_1)), (Value.int .i64 (id)), (Value.int .i64 (now))]) (c_callA Tryz.call13) (fun w1 hw1 => cEnd_ok w1 (l := (cFew l)) (id := id) (now := now) (h_l := (ho1_1.slj eCred_ok) w1 hw1) (n_l := by first | omega | (simp only [List.length_append, List.length_take, List.length_drop, List.length_set, List.length_replicate, List.length_cons, List.length_nil, List.length_map, toS_length, toI_length]; omega) | (simp only [List.length_append, List.length_take, List.length_drop, List.length_set, List.length_replicate, List.length_cons, List.length_nil, List.length_map, toS_length, toI_length] at *; omega) | decide) (hG := hG.ext hw1.ext_out) (hE := hE.ext hw1.ext_out)) (k := ?_)
  rintro w1_4 e1_4 w2_4 hw1_4 ⟨a1_4, c1_4, B1_4, he_4, hf_4, ho1_4, hl1_4⟩
  refine ⟨_, (B1_4 ++ (B1_3 ++ (B1_2 ++ (B1_1 ++ [])))), he_4, hw1_4.fresh hf_4, ?_⟩
  refine JL_q (q_move) (k := ?_)
  refine JL_q (q_ext) (k := ?_)
  refine JL_q (q_ext) (k := ?_)
  refine JL_q (q_assign) (k := ?_)
  refine JL_q (q_assign) (k := ?_)
  refine JL_nil ?_
  refine JX_seq ?_
  refine J_seq ?_
  refine J_reg ?_
  refine JL_q (q_move) (k := ?_)
  refine JL_q (q_move) (k := ?_)
  refine JL_q (q_move) (k := ?_)
  refine JL_p (args := [(Value.slice (a1_1) ((cFew l).length) (c1_1)), (Value.int .i64 (id)), (Value.int .i64 (now))]) (c_callA Tryz.call14) (fun w1 hw1 => rcEnd_ok w1 (l := (cFew l)) (id := id) (now := now) (h_l := (ho1_1.slj eCred_ok) w1 hw1) (n_l := by first | omega | (simp only [List.length_append, List.length_take, List.length_drop, List.length_set, List.length_replicate, List.length_cons, List.length_nil, List.length_map, toS_length, toI_length]; omega) | (simp only [List.length_append, List.length_take, List.length_drop, List.length_set, List.length_replicate, List.length_cons, List.length_nil, List.length_map, toS_length, toI_length] at *; omega) | decide)) (k := ?_)
  rintro w1_5 e1_5 w2_5 hw1_5 ⟨a1_5, c1_5, B1_5, he_5, hf_5, ho1_5, hl1_5⟩
  refine ⟨_, (B1_5 ++ (B1_4 ++ (B1_3 ++ (B1_2 ++ (B1_1 ++ []))))), he_5, hw1_5.fresh hf_5, ?_⟩
  refine JL_q (q_move) (k := ?_)
  refine JL_q (q_ext) (k := ?_)
  refine JL_q (q_ext) (k := ?_)
  refine JL_q (q_assign) (k := ?_)
  refine JL_q (q_assign) (k := ?_)
  refine JL_nil ?_
  refine JX_seq ?_
  refine J_seq ?_
  refine J_reg ?_
  refine JL_q (q_move) (k := ?_)
  refine JL_q (q_move) (k := ?_)
  refine JL_bool 64 rfl (fun hq1 => ?_) (fun hq1 => ?_)
  rotate_left
  · refine JL_skips 3 rfl ?_
    refine JL_q (q_pickF) (k := ?_)
    refine JL_q (q_move) (k := ?_)
    refine JL_skips 3 rfl ?_
    refine JL_q (q_pickF) (k := ?_)
    refine JL_q (q_move) (k := ?_)
    refine JL_skips 3 rfl ?_
    refine JL_q (q_pickF) (k := ?_)
    refine JL_q (q_move) (k := ?_)
    refine JL_skips 3 rfl ?_
    refine JL_q (q_pickF) (k := ?_)
    refine JL_q (q_move) (k := ?_)
    refine JL_skips 3 rfl ?_
    refine JL_q (q_pickF) (k := ?_)
    refine JL_q (q_assign) (k := ?_)
    refine JL_nil ?_
    refine JX_seq ?_
    refine J_ret ?_
    refine JX_ret Tryz.results3 (Res.tmp rfl Res.nil) (fun w1 hw1 => ?_)
    exact ⟨(by rw [((hF.f hq1)).eq] <;> first | rfl | (simp only [List.length_set] <;> rfl)), hw1.ext_out⟩
  refine JL_qg (q_move) (k := ?_)
  refine JL_qg (q_move) (k := ?_)
  refine JL_vg (args := [(Value.slice (a1_2) ((cRot (cFew l) (cCut key) now overlap span).1.length) (c1_2)), (Value.slice (a1_3) ((rcRot (cFew l) (cCut key) now overlap span).1.length) (c1_3))]) (c_callA Tryz.call15) (fun w1 hw1 => rcSame_ok w1 (a := ((cRot (cFew l) (cCut key) now overlap span).1)) (b := ((rcRot (cFew l) (cCut key) now overlap span).1)) (h_a := (ho1_2.slj eCred_ok) w1 hw1) (n_a := by first | omega | (simp only [List.length_append, List.length_take, List.length_drop, List.length_set, List.length_replicate, List.length_cons, List.length_nil, List.length_map, toS_length, toI_length]; omega) | (simp only [List.length_append, List.length_take, List.length_drop, List.length_set, List.length_replicate, List.length_cons, List.length_nil, List.length_map, toS_length, toI_length] at *; omega) | decide) (h_b := (ho1_3.slj eCred_ok) w1 hw1) (n_b := by first | omega | (simp only [List.length_append, List.length_take, List.length_drop, List.length_set, List.length_replicate, List.length_cons, List.length_nil, List.length_map, toS_length, toI_length]; omega) | (simp only [List.length_append, List.length_take, List.length_drop, List.length_set, List.length_replicate, List.length_cons, List.length_nil, List.length_map, toS_length, toI_length] at *; omega) | decide)) (k := ?_)
  refine JL_q (q_pickT) (k := ?_)
  refine JL_q (q_move) (k := ?_)
  refine JL_bool 69 rfl (fun hq2 => ?_) (fun hq2 => ?_)
  rotate_left
  · refine JL_skips 3 rfl ?_
    refine JL_q (q_pickF) (k := ?_)
    refine JL_q (q_move) (k := ?_)
    refine JL_skips 3 rfl ?_
    refine JL_q (q_pickF) (k := ?_)
    refine JL_q (q_move) (k := ?_)
    refine JL_skips 3 rfl ?_
    refine JL_q (q_pickF) (k := ?_)
    refine JL_q (q_move) (k := ?_)
    refine JL_skips 3 rfl ?_
    refine JL_q (q_pickF) (k := ?_)
    refine JL_q (q_assign) (k := ?_)
    refine JL_nil ?_
    refine JX_seq ?_
    refine J_ret ?_
    refine JX_ret Tryz.results3 (Res.tmp rfl Res.nil) (fun w1 hw1 => ?_)
    exact ⟨(by rw [(((hF.t hq1).f hq2)).eq] <;> first | rfl | (simp only [List.length_set] <;> rfl)), hw1.ext_out⟩
  refine JL_qg (q_move) (k := ?_)
  refine JL_qg (q_move) (k := ?_)
  refine JL_qg (q_eql) (k := ?_)
  refine JL_q (q_pickT) (k := ?_)
  refine JL_q (q_move) (k := ?_)
  refine JL_dec 74 rfl (fun hq3 => ?_) (fun hq3 => ?_)
  rotate_left
  · refine JL_skips 3 rfl ?_
    refine JL_q (q_pickF) (k := ?_)
    refine JL_q (q_move) (k := ?_)
    refine JL_skips 3 rfl ?_
    refine JL_q (q_pickF) (k := ?_)
    refine JL_q (q_move) (k := ?_)
    refine JL_skips 3 rfl ?_
    refine JL_q (q_pickF) (k := ?_)
    refine JL_q (q_assign) (k := ?_)
    refine JL_nil ?_
    refine JX_seq ?_
    refine J_ret ?_
    refine JX_ret Tryz.results3 (Res.tmp rfl Res.nil) (fun w1 hw1 => ?_)
    exact ⟨(by rw [((((hF.t hq1).t hq2).neg hq3)).eq] <;> first | rfl | (simp only [List.length_set] <;> rfl)), hw1.ext_out⟩
  refine JL_qg (q_move) (k := ?_)
  refine JL_qg (q_move) (k := ?_)
  refine JL_qg (q_eql) (k := ?_)
  refine JL_q (q_pickT) (k := ?_)
  refine JL_q (q_move) (k := ?_)
  refine JL_dec 79 rfl (fun hq4 => ?_) (fun hq4 => ?_)
  rotate_left
  · refine JL_skips 3 rfl ?_
    refine JL_q (q_pickF) (k := ?_)
    refine JL_q (q_move) (k := ?_)
    refine JL_skips 3 rfl ?_
    refine JL_q (q_pickF) (k := ?_)
    refine JL_q (q_assign) (k := ?_)
    refine JL_nil ?_
    refine JX_seq ?_
    refine J_ret ?_
    refine JX_ret Tryz.results3 (Res.tmp rfl Res.nil) (fun w1 hw1 => ?_)
    exact ⟨(by rw [(((((hF.t hq1).t hq2).pos hq3).neg hq4)).eq] <;> first | rfl | (simp only [List.length_set] <;> rfl)), hw1.ext_out⟩
  refine JL_qg (q_move) (k := ?_)
  refine JL_qg (q_move) (k := ?_)
  refine JL_vg (args := [(Value.slice (a1_4) ((cEnd (cFew l) id now).1.length) (c1_4)), (Value.slice (a1_5) ((rcEnd (cFew l) id now).1.length) (c1_5))]) (c_callA Tryz.call15) (fun w1 hw1 => rcSame_ok w1 (a := ((cEnd (cFew l) id now).1)) (b := ((rcEnd (cFew l) id now).1)) (h_a := (ho1_4.slj eCred_ok) w1 hw1) (n_a := by first | omega | (simp only [List.length_append, List.length_take, List.length_drop, List.length_set, List.length_replicate, List.length_cons, List.length_nil, List.length_map, toS_length, toI_length]; omega) | (simp only [List.length_append, List.length_take, List.length_drop, List.length_set, List.length_replicate, List.length_cons, List.length_nil, List.length_map, toS_length, toI_length] at *; omega) | decide) (h_b := (ho1_5.slj eCred_ok) w1 hw1) (n_b := by first | omega | (simp only [List.length_append, List.length_take, List.length_drop, List.length_set, List.length_replicate, List.length_cons, List.length_nil, List.length_map, toS_length, toI_length]; omega) | (simp only [List.length_append, List.length_take, List.length_drop, List.length_set, List.length_replicate, List.length_cons, List.length_nil, List.length_map, toS_length, toI_length] at *; omega) | decide)) (k := ?_)
  refine JL_q (q_pickT) (k := ?_)
  refine JL_q (q_move) (k := ?_)
  refine JL_bool 84 rfl (fun hq5 => ?_) (fun hq5 => ?_)
  rotate_left
  · refine JL_skips 3 rfl ?_
    refine JL_q (q_pickF) (k := ?_)
    refine JL_q (q_assign) (k := ?_)
    refine JL_nil ?_
    refine JX_seq ?_
    refine J_ret ?_
    refine JX_ret Tryz.results3 (Res.tmp rfl Res.nil) (fun w1 hw1 => ?_)
    exact ⟨(by rw [((((((hF.t hq1).t hq2).pos hq3).pos hq4).f hq5)).eq] <;> first | rfl | (simp only [List.length_set] <;> rfl)), hw1.ext_out⟩
  refine JL_qg (q_move) (k := ?_)
  refine JL_qg (q_move) (k := ?_)
  refine JL_qg (q_eql) (k := ?_)
  refine JL_q (q_pickT) (k := ?_)
  refine JL_q (q_assign) (k := ?_)
  refine JL_nil ?_
  refine JX_seq ?_
  refine J_ret ?_
  refine JX_ret Tryz.results3 (Res.tmp rfl Res.nil) (fun w1 hw1 => ?_)
  exact ⟨(by rw [((((((hF.t hq1).t hq2).pos hq3).pos hq4).t hq5)).eq] <;> first | rfl | (simp only [List.length_set] <;> rfl)), hw1.ext_out⟩

theorem lCredOverlap_ok (w : World) {l_a : Option Addr} {l_c : Nat} {ea0 : Addr} {ea1 : Addr} {l : List Cred} {key : Str} {now : Int} {overlap : Int} {span : Int} {at_ : Int} (h_l : Sl w eCred 4 l_a l) (hG : Gl w) (hE : Er w ea0 ea1) : Val Tryz.prog 4 [(Value.slice (l_a) (l.length) (l_c)), (Value.string (bs key)), (Value.int .i64 (now)), (Value.int .i64 (overlap)), (Value.int .i64 (span)), (Value.int .i64 (at_))] w (Value.bool ((lCredOverlap l key now overlap span at_))) := by
  have hF := Is.refl (lCredOverlap l key now overlap span at_)
  refine enter Tryz.func4 Tryz.ntmps4 (h := ?_)
  refine J_seq ?_
  refine J_reg ?_
  refine JL_q (q_assign) (k := ?_)
  refine JL_nil ?_
  refine JX_seq ?_
  refine J_seq ?_
  refine J_reg ?_
  refine JL_v (args := []) (c_callA Tryz.call8) (fun w1 hw1 => cShown_ok w1 (hG := hG.ext hw1.ext_out) (hE := hE.ext hw1.ext_out)) (k := ?_)
  refine JL_q (q_assign) (k := ?_)
  refine JL_nil ?_
  refine JX_seq ?_
  refine J_seq ?_
  refine J_reg ?_
  refine JL_q (q_move) (k := ?_)
  refine JL_p (args := [(Value.slice (l_a) (l.length) (l_c))]) (c_callA Tryz.call9) (fun w1 hw1 => cFew_ok w1 (l := l) (h_l := (SlJ.of_base h_l) w1 hw1)) (k := ?_)
  rintro w1_1 e1_1 w2_1 hw1_1 ⟨a1_1, c1_1, B1_1, he_1, hf_1, ho1_1, hl1_1⟩
  refine ⟨_, (B1_1 ++ []), he_1, hw1_1.fresh hf_1, ?_⟩
  refine JL_q (q_assign) (k := ?_)
  refine JL_nil ?_
  refine JX_seq ?_
  refine J_seq ?_
  refine J_reg ?_
  refine JL_q (q_move) (k := ?_)
  refine JL_v (args := [(Value.string (bs key))]) (c_callA Tryz.call10) (fun w1 hw1 => cCut_ok w1 (s := key)) (k := ?_)
  have hcu_12664 := cCut_len key
  refine JL_q (q_assign) (k := ?_)
  refine JL_nil ?_
  refine JX_seq ?_
  refine J_seq ?_
  refine J_reg ?_
  refine JL_q (q_move) (k := ?_)
  refine JL_q (q_move) (k := ?_)
  refine JL_q (q_move) (k := ?_)
  refine JL_q (q_move) (k := ?_)
  refine JL_q (q_move) (k := ?_)
  refine JL_p (args := [(Value.slice (a1_1) ((cFew l).length) (c1_1)), (Value.string (bs (cCut key))), (Value.int .i64 (now)), (Value.int .i64 (overlap)), (Value.int .i64 (span))]) (c_callA Tryz.call11) (fun w1 hw1 => cRot_ok w1 (l := (cFew l)) (key := (cCut key)) (now := now) (overlap := overlap) (span := span) (h_l := (ho1_1.slj eCred_ok) w1 hw1) (n_l := by first | omega | (simp only [List.length_append, List.length_take, List.length_drop, List.length_set, List.length_replicate, List.length_cons, List.length_nil, List.length_map, toS_length, toI_length]; omega) | (simp only [List.length_append, List.length_take, List.length_drop, List.length_set, List.length_replicate, List.length_cons, List.length_nil, List.length_map, toS_length, toI_length] at *; omega) | decide) (hG := hG.ext hw1.ext_out) (hE := hE.ext hw1.ext_out)) (k := ?_)
  rintro w1_2 e1_2 w2_2 hw1_2 ⟨a1_2, c1_2, B1_2, he_2, hf_2, ho1_2, hl1_2⟩
  refine ⟨_, (B1_2 ++ (B1_1 ++ [])), he_2, hw1_2.fresh hf_2, ?_⟩
  have hrot_73958 := cRot_bd (cFew l) (cCut key) now overlap span
  refine JL_q (q_move) (k := ?_)
  refine JL_q (q_ext) (k := ?_)
  refine JL_q (q_ext) (k := ?_)
  refine JL_q (q_ext) (k := ?_)
  refine JL_q (q_assign) (k := ?_)
  refine JL_q (q_assign) (k := ?_)
  refine JL_q (q_assign) (k := ?_)
  refine JL_nil ?_
  refine JX_seq ?_
  refine J_seq ?_
  refine J_seq ?_
  refine J_reg ?_
  refine JL_q (q_move) (k := ?_)
  refine JL_q (q_neq) (k := ?_)
  refine JL_nil ?_
  refine JX_seq ?_
  refine J_dec rfl (fun hq1 => ?_) (fun hq1 => ?_)
  · refine J_seq ?_
    refine J_reg ?_
    refine JL_q (q_move) (k := ?_)
    refine JL_q (q_move) (k := ?_)
    refine JL_bool 38 rfl (fun hq2 => ?_) (fun hq2 => ?_)
    rotate_left
    · refine JL_skips 3 rfl ?_
      refine JL_q (q_pickF) (k := ?_)
      refine JL_q (q_move) (k := ?_)
      refine JL_skips 2 rfl ?_
      refine JL_q (q_pickF) (k := ?_)
      refine JL_q (q_assign) (k := ?_)
      refine JL_nil ?_
      refine JX_seq ?_
      refine J_ret ?_
      refine JX_seq_ret ?_
      refine JX_ret Tryz.results4 (Res.tmp rfl Res.nil) (fun w1 hw1 => ?_)
      exact ⟨(by rw [(((hF.pos hq1).f hq2)).eq] <;> first | rfl | (simp only [List.length_set] <;> rfl)), hw1.ext_out⟩
    refine JL_qg (q_move) (k := ?_)
    refine JL_qg (q_lenS Tryz.runUnderlying22) (k := ?_)
    refine JL_qg (q_eql) (k := ?_)
    refine JL_q (q_pickT) (k := ?_)
    refine JL_q (q_move) (k := ?_)
    refine JL_dec 43 rfl (fun hq3 => ?_) (fun hq3 => ?_)
    rotate_left
    · refine JL_skips 2 rfl ?_
      refine JL_q (q_pickF) (k := ?_)
      refine JL_q (q_assign) (k := ?_)
      refine JL_nil ?_
      refine JX_seq ?_
      refine J_ret ?_
      refine JX_seq_ret ?_
      refine JX_ret Tryz.results4 (Res.tmp rfl Res.nil) (fun w1 hw1 => ?_)
      exact ⟨(by rw [((((hF.pos hq1).t hq2).neg hq3)).eq] <;> first | rfl | (simp only [List.length_set] <;> rfl)), hw1.ext_out⟩
    refine JL_qg (q_move) (k := ?_)
    refine JL_qg (q_eql) (k := ?_)
    refine JL_q (q_pickT) (k := ?_)
    refine JL_q (q_assign) (k := ?_)
    refine JL_nil ?_
    refine JX_seq ?_
    refine J_ret ?_
    refine JX_seq_ret ?_
    refine JX_ret Tryz.results4 (Res.tmp rfl Res.nil) (fun w1 hw1 => ?_)
    exact ⟨(by rw [((((hF.pos hq1).t hq2).pos hq3)).eq] <;> first | rfl | (simp only [List.length_set] <;> rfl)), hw1.ext_out⟩
  refine J_skip ?_
  refine JX_seq ?_
  refine J_seq ?_
  refine J_seq ?_
  refine J_reg ?_
  refine JL_q (q_move) (k := ?_)
  refine JL_q (q_move) (k := ?_)
  refine JL_q (q_lss) (k := ?_)
  refine JL_nil ?_
  refine JX_seq ?_
  refine J_dec rfl (fun hq4 => ?_) (fun hq4 => ?_)
  · refine J_seq ?_
    refine J_reg ?_
    refine JL_q (q_move) (k := ?_)
    refine JL_q (q_move) (k := ?_)
    refine JL_bool 51 rfl (fun hq5 => ?_) (fun hq5 => ?_)
    rotate_left
    · refine JL_skips 2 rfl ?_
      refine JL_q (q_pickF) (k := ?_)
      refine JL_q (q_assign) (k := ?_)
      refine JL_nil ?_
      refine JX_seq ?_
      refine J_ret ?_
      refine JX_seq_ret ?_
      refine JX_ret Tryz.results4 (Res.tmp rfl Res.nil) (fun w1 hw1 => ?_)
      exact ⟨(by rw [((((hF.neg hq1).pos hq4).f hq5)).eq] <;> first | rfl | (simp only [List.length_set] <;> rfl)), hw1.ext_out⟩
    refine JL_qg (q_move) (k := ?_)
    refine JL_vg (args := [(Value.slice (a1_2) ((cRot (cFew l) (cCut key) now overlap span).1.length) (c1_2))]) (c_callA Tryz.call16) (fun w1 hw1 => cRight_ok w1 (l := ((cRot (cFew l) (cCut key) now overlap span).1)) (h_l := (ho1_2.slj eCred_ok) w1 hw1) (n_l := by first | omega | (simp only [List.length_append, List.length_take, List.length_drop, List.length_set, List.length_replicate, List.length_cons, List.length_nil, List.length_map, toS_length, toI_length]; omega) | (simp only [List.length_append, List.length_take, List.length_drop, List.length_set, List.length_replicate, List.length_cons, List.length_nil, List.length_map, toS_length, toI_length] at *; omega) | decide)) (k := ?_)
    refine JL_q (q_pickT) (k := ?_)
    refine JL_q (q_assign) (k := ?_)
    refine JL_nil ?_
    refine JX_seq ?_
    refine J_ret ?_
    refine JX_seq_ret ?_
    refine JX_ret Tryz.results4 (Res.tmp rfl Res.nil) (fun w1 hw1 => ?_)
    exact ⟨(by rw [((((hF.neg hq1).pos hq4).t hq5)).eq] <;> first | rfl | (simp only [List.length_set] <;> rfl)), hw1.ext_out⟩
  refine J_skip ?_
  refine JX_seq ?_
  refine J_seq ?_
  refine J_reg ?_
  refine JL_q (q_move) (k := ?_)
  refine JL_q (q_move) (k := ?_)
  refine JL_p (args := [(Value.slice (a1_2) ((cRot (cFew l) (cCut key) now overlap span).1.length) (c1_2)), (Value.int .i64 (at_))]) (c_callA Tryz.call17) (fun w1 hw1 => cHolding_ok w1 (l := ((cRot (cFew l) (cCut key) now overlap span).1)) (now := at_) (h_l := (ho1_2.slj eCred_ok) w1 hw1) (n_l := by first | omega | (simp only [List.length_append, List.length_take, List.length_drop, List.length_set, List.length_replicate, List.length_cons, List.length_nil, List.length_map, toS_length, toI_length]; omega) | (simp only [List.length_append, List.length_take, List.length_drop, List.length_set, List.length_replicate, List.length_cons, List.length_nil, List.length_map, toS_length, toI_length] at *; omega) | decide)) (k := ?_)
  rintro w1_3 e1_3 w2_3 hw1_3 ⟨a1_3, c1_3, B1_3, he_3, hf_3, ho1_3, hl1_3⟩
  refine ⟨_, (B1_3 ++ (B1_2 ++ (B1_1 ++ []))), he_3, hw1_3.fresh hf_3, ?_⟩
  refine JL_q (q_assign) (k := ?_)
  refine JL_nil ?_
  refine JX_seq ?_
  refine J_seq ?_
  refine J_seq ?_
  refine J_reg ?_
  refine JL_q (q_move) (k := ?_)
  refine JL_v (args := [(Value.slice (a1_2) ((cRot (cFew l) (cCut key) now overlap span).1.length) (c1_2))]) (c_callA Tryz.call16) (fun w1 hw1 => cRight_ok w1 (l := ((cRot (cFew l) (cCut key) now overlap span).1)) (h_l := (ho1_2.slj eCred_ok) w1 hw1) (n_l := by first | omega | (simp only [List.length_append, List.length_take, List.length_drop, List.length_set, List.length_replicate, List.length_cons, List.length_nil, List.length_map, toS_length, toI_length]; omega) | (simp only [List.length_append, List.length_take, List.length_drop, List.length_set, List.length_replicate, List.length_cons, List.length_nil, List.length_map, toS_length, toI_length] at *; omega) | decide)) (k := ?_)
  refine JL_q (q_not) (k := ?_)
  refine JL_q (q_move) (k := ?_)
  refine JL_bool 61 rfl (fun hq6 => ?_) (fun hq6 => ?_)
  · refine JL_skips 3 rfl ?_
    refine JL_q (q_pickT) (k := ?_)
    refine JL_q (q_move) (k := ?_)
    refine JL_skips 9 rfl ?_
    refine JL_q (q_pickT) (k := ?_)
    refine JL_nil ?_
    refine JX_seq ?_
    refine J_true rfl ?_
    refine J_seq ?_
    refine J_reg ?_
    refine JL_q (q_assign) (k := ?_)
    refine JL_nil ?_
    refine JX_seq ?_
    refine J_ret ?_
    refine JX_seq_ret ?_
    refine JX_ret Tryz.results4 (Res.tmp rfl Res.nil) (fun w1 hw1 => ?_)
    exact ⟨(by rw [((((hF.neg hq1).neg hq4).t hq6)).eq] <;> first | rfl | (simp only [List.length_set] <;> rfl)), hw1.ext_out⟩
  have hfhq6 := cRight_t (by simpa using hq6)
  refine JL_qg (q_move) (k := ?_)
  refine JL_qg (q_move) (k := ?_)
  refine JL_vg (args := [(Value.slice (a1_1) ((cFew l).length) (c1_1)), (Value.int .i64 (((cRot (cFew l) (cCut key) now overlap span).2.1)))]) (c_callA Tryz.call18) (fun w1 hw1 => cInL_ok w1 (l := (cFew l)) (id := ((cRot (cFew l) (cCut key) now overlap span).2.1)) (h_l := (ho1_1.slj eCred_ok) w1 hw1) (n_l := by first | omega | (simp only [List.length_append, List.length_take, List.length_drop, List.length_set, List.length_replicate, List.length_cons, List.length_nil, List.length_map, toS_length, toI_length]; omega) | (simp only [List.length_append, List.length_take, List.length_drop, List.length_set, List.length_replicate, List.length_cons, List.length_nil, List.length_map, toS_length, toI_length] at *; omega) | decide)) (k := ?_)
  refine JL_q (q_pickF) (k := ?_)
  refine JL_q (q_move) (k := ?_)
  refine JL_bool 66 rfl (fun hq7 => ?_) (fun hq7 => ?_)
  · refine JL_skips 9 rfl ?_
    refine JL_q (q_pickT) (k := ?_)
    refine JL_nil ?_
    refine JX_seq ?_
    refine J_true rfl ?_
    refine J_seq ?_
    refine J_reg ?_
    refine JL_q (q_assign) (k := ?_)
    refine JL_nil ?_
    refine JX_seq ?_
    refine J_ret ?_
    refine JX_seq_ret ?_
    refine JX_ret Tryz.results4 (Res.tmp rfl Res.nil) (fun w1 hw1 => ?_)
    exact ⟨(by rw [(((((hF.neg hq1).neg hq4).f hq6).t hq7)).eq] <;> first | rfl | (simp only [List.length_set] <;> rfl)), hw1.ext_out⟩
  refine JL_qg (q_move) (k := ?_)
  refine JL_qg (q_move) (k := ?_)
  refine JL_vg (args := [(Value.slice (a1_3) ((cHolding ((cRot (cFew l) (cCut key) now overlap span).1) at_).length) (c1_3)), (Value.int .i64 (((cRot (cFew l) (cCut key) now overlap span).2.1)))]) (c_callA Tryz.call18) (fun w1 hw1 => cInL_ok w1 (l := (cHolding ((cRot (cFew l) (cCut key) now overlap span).1) at_)) (id := ((cRot (cFew l) (cCut key) now overlap span).2.1)) (h_l := (ho1_3.slj eCred_ok) w1 hw1) (n_l := by first | omega | (simp only [List.length_append, List.length_take, List.length_drop, List.length_set, List.length_replicate, List.length_cons, List.length_nil, List.length_map, toS_length, toI_length]; omega) | (simp only [List.length_append, List.length_take, List.length_drop, List.length_set, List.length_replicate, List.length_cons, List.length_nil, List.length_map, toS_length, toI_length] at *; omega) | decide)) (k := ?_)
  refine JL_qg (q_move) (k := ?_)
  refine JL_qg (q_move) (k := ?_)
  refine JL_qg (q_move) (k := ?_)
  refine JL_qg (q_add) (k := ?_)
  refine JL_qg (q_lss) (k := ?_)
  refine JL_qg (q_neqB Tryz.runUnderlying4) (k := ?_)
  refine JL_q (q_pickF) (k := ?_)
  refine JL_nil ?_
  refine JX_seq ?_
  refine J_cond rfl (fun hq8 => ?_) (fun hq8 => ?_)
  · refine J_seq ?_
    refine J_reg ?_
    refine JL_q (q_assign) (k := ?_)
    refine JL_nil ?_
    refine JX_seq ?_
    refine J_ret ?_
    refine JX_seq_ret ?_
    refine JX_ret Tryz.results4 (Res.tmp rfl Res.nil) (fun w1 hw1 => ?_)
    exact ⟨(by rw [((((((hF.neg hq1).neg hq4).f hq6).f hq7).t hq8)).eq] <;> first | rfl | (simp only [List.length_set] <;> rfl)), hw1.ext_out⟩
  refine J_skip ?_
  refine JX_seq ?_
  refine J_seq ?_
  refine J_reg ?_
  refine JL_q (q_move) (k := ?_)
  refine JL_q (q_move) (k := ?_)
  refine JL_p (args := [(Value.slice (a1_1) ((cFew l).length) (c1_1)), (Value.int .i64 (now))]) (c_callA Tryz.call17) (fun w1 hw1 => cHolding_ok w1 (l := (cFew l)) (now := now) (h_l := (ho1_1.slj eCred_ok) w1 hw1) (n_l := by first | omega | (simp only [List.length_append, List.length_take, List.length_drop, List.length_set, List.length_replicate, List.length_cons, List.length_nil, List.length_map, toS_length, toI_length]; omega) | (simp only [List.length_append, List.length_take, List.length_drop, List.length_set, List.length_replicate, List.length_cons, List.length_nil, List.length_map, toS_length, toI_length] at *; omega) | decide)) (k := ?_)
  rintro w1_4 e1_4 w2_4 hw1_4 ⟨a1_4, c1_4, B1_4, he_4, hf_4, ho1_4, hl1_4⟩
  refine ⟨_, (B1_4 ++ (B1_3 ++ (B1_2 ++ (B1_1 ++ [])))), he_4, hw1_4.fresh hf_4, ?_⟩
  refine JL_q (q_assign) (k := ?_)
  refine JL_nil ?_
  refine JX_seq ?_
  refine J_seq ?_
  refine J_seq ?_
  refine J_reg ?_
  refine JL_q (q_assign) (k := ?_)
  refine JL_nil ?_
  refine JX_seq ?_
  refine J_block ?_
  refine J_loop2 (σ1 := Nat) (σ2 := Nat) (fun n_2 i_1 => (B1_4 ++ (B1_3 ++ (B1_2 ++ (B1_1 ++ []))))) (fun n_2 i_1 => [(2, (Value.int .i64 (now))), (3, (Value.int .i64 (overlap))), (5, (Value.int .i64 (at_))), (12, (Value.bool (false))), (13, (Value.bool (cShown))), (17, (Value.slice (a1_3) ((cHolding ((cRot (cFew l) (cCut key) now overlap span).1) at_).length) (c1_3))), (18, (Value.slice (a1_4) ((cHolding (cFew l) now).length) (c1_4))), (19, (Value.int .i64 (((i_1 : Nat) : Int))))]) (fun n_2 i_1 => ((cHolding (cFew l) now).length) - i_1 < n_2 ∧ Is (lCredOverlap_l0 l key now overlap span at_ (((cHolding (cFew l) now).length) + 1) 0) (lCredOverlap_l0 l key now overlap span at_ n_2 i_1)) (fun n_2 i_1 => n_2) (((cHolding (cFew l) now).length) + 1) 0 ?_ (by repeat (first | exact SubE.nil | refine SubE.cons rfl ?_)) (List.Perm.refl _) ?_
  · exact ⟨Nat.lt_succ_self _, Is.refl _⟩
  · rintro (_ | n_2) i_1 ⟨hm4, hF3⟩
    · omega
    refine J_seq ?_
    refine J_seq ?_
    refine J_reg ?_
    refine JL_q (q_move) (k := ?_)
    refine JL_q (q_move) (k := ?_)
    refine JL_q (q_lenS Tryz.runUnderlying22) (k := ?_)
    refine JL_q (q_lss) (k := ?_)
    refine JL_nil ?_
    refine JX_seq ?_
    refine J_dec rfl (fun hq9 => ?_) (fun hq9 => ?_)
    rotate_left
    · refine J_exit ?_
      refine JX_seq_exit ?_
      refine JX_inv_exit ?_
      refine JX_block_hit ?_
      refine JX_seq ?_
      refine J_seq ?_
      refine J_reg ?_
      refine JL_q (q_move) (k := ?_)
      refine JL_q (q_assign) (k := ?_)
      refine JL_nil ?_
      refine JX_seq ?_
      refine J_ret ?_
      refine JX_ret Tryz.results4 (Res.tmp rfl Res.nil) (fun w1 hw1 => ?_)
      exact ⟨(by rw [(((((((hF.neg hq1).neg hq4).f hq6).f hq7).f hq8).ok1 (hF3.neg hq9))).eq] <;> first | rfl | (simp only [List.length_set] <;> rfl)), hw1.ext_out⟩
    refine J_skip ?_
    refine JX_seq ?_
    refine J_seq ?_
    refine J_block ?_
    refine J_seq ?_
    refine J_plan mixed 22 [(true, 0), (true, 1), (true, 2), (true, 3), (true, 4), (true, 5), (true, 7), (true, 8), (true, 9), (true, 10), (true, 11), (true, 12), (true, 13), (false, 6), (true, 14), (true, 15), (true, 16), (true, 17), (true, 18), (true, 19), (true, 20), (true, 21)] (by kernel_rfl) ?_
    refine JD_q (q_move) (k := ?_)
    refine JD_q (q_move) (k := ?_)
    refine JD_q (q_move) (k := ?_)
    refine JD_q (q_idx (n := (cHolding (cFew l) now).length) Tryz.runUnderlying22 Tryz.sizeOf37 i_1 (ho1_4.slj eCred_ok) (gD (by first | omega | (simp only [List.length_set]; omega) | (simp only [List.length_append, List.length_take, List.length_drop, List.length_set, List.length_replicate, List.length_cons, List.length_nil, List.length_map, toS_length, toI_length]; omega))) (by first | rfl | simp)) (k := ?_)
    refine JD_q (q_fldE FO_37_0) (k := ?_)
    refine JD_q (q_loadE Tryz.isAgg3 i_1 0 (ho1_4.slj eCred_ok) (gD (by first | omega | (simp only [List.length_set]; omega) | (simp only [List.length_append, List.length_take, List.length_drop, List.length_set, List.length_replicate, List.length_cons, List.length_nil, List.length_map, toS_length, toI_length]; omega)))) (k := ?_)
    refine JD_q (q_move) (k := ?_)
    refine JD_q (q_move) (k := ?_)
    refine JD_q (q_move) (k := ?_)
    refine JD_q (q_idx (n := (cHolding (cFew l) now).length) Tryz.runUnderlying22 Tryz.sizeOf37 i_1 (ho1_4.slj eCred_ok) (gD (by first | omega | (simp only [List.length_set]; omega) | (simp only [List.length_append, List.length_take, List.length_drop, List.length_set, List.length_replicate, List.length_cons, List.length_nil, List.length_map, toS_length, toI_length]; omega))) (by first | rfl | simp)) (k := ?_)
    refine JD_q (q_fldE FO_37_3) (k := ?_)
    refine JD_q (q_loadE Tryz.isAgg3 i_1 3 (ho1_4.slj eCred_ok) (gD (by first | omega | (simp only [List.length_set]; omega) | (simp only [List.length_append, List.length_take, List.length_drop, List.length_set, List.length_replicate, List.length_cons, List.length_nil, List.length_map, toS_length, toI_length]; omega)))) (k := ?_)
    refine JD_q (q_lss) (k := ?_)
    refine JD_v (args := [(Value.slice (a1_3) ((cHolding ((cRot (cFew l) (cCut key) now overlap span).1) at_).length) (c1_3)), (Value.int .i64 ((((cHolding (cFew l) now).getD i_1 default).id)))]) (c_callA Tryz.call18) (fun w1 hw1 => cInL_ok w1 (l := (cHolding ((cRot (cFew l) (cCut key) now overlap span).1) at_)) (id := (((cHolding (cFew l) now).getD i_1 default).id)) (h_l := (ho1_3.slj eCred_ok) w1 hw1) (n_l := by first | omega | (simp only [List.length_append, List.length_take, List.length_drop, List.length_set, List.length_replicate, List.length_cons, List.length_nil, List.length_map, toS_length, toI_length]; omega) | (simp only [List.length_append, List.length_take, List.length_drop, List.length_set, List.length_replicate, List.length_cons, List.length_nil, List.length_map, toS_length, toI_length] at *; omega) | decide)) (k := ?_)
    refine JD_q (q_move) (k := ?_)
    refine JD_dec 100 rfl (fun hq10 => ?_) (fun hq10 => ?_)
    rotate_left
    · refine JD_skips 5 rfl ?_
      refine JD_q (q_pickF) (k := ?_)
      refine JD_q (q_neqB Tryz.runUnderlying4) (k := ?_)
      refine JD_nil0 ?_
      refine JL_nil ?_
      refine JX_seq ?_
      refine J_cond rfl (fun hq12 => ?_) (fun hq12 => ?_)
      rotate_left
      · refine J_skip ?_
        refine JX_block ?_
        refine JX_seq ?_
        refine J_reg ?_
        refine JL_q (q_move) (k := ?_)
        refine JL_q (q_add) (k := ?_)
        refine JL_q (q_assign) (k := ?_)
        refine JL_nil ?_
        exact JX_inv2 n_2 (i_1 + 1) ⟨by omega, (((hF3.pos hq9).neg hq10).f hq12)⟩ (Nat.lt_succ_self _) (by repeat (first | exact SubE.nil | refine SubE.cons rfl ?_)) (List.Perm.refl _)
      refine J_seq ?_
      refine J_reg ?_
      refine JL_q (q_assign) (k := ?_)
      refine JL_nil ?_
      refine JX_seq ?_
      refine J_ret ?_
      refine JX_block_ret ?_
      refine JX_seq_ret ?_
      refine JX_inv_ret ?_
      refine JX_block_ret ?_
      refine JX_seq_ret ?_
      refine JX_ret Tryz.results4 (Res.tmp rfl Res.nil) (fun w1 hw1 => ?_)
      exact ⟨(by rw [(((((((hF.neg hq1).neg hq4).f hq6).f hq7).f hq8).er1 (((hF3.pos hq9).neg hq10).t hq12))).eq] <;> first | rfl | (simp only [List.length_set] <;> rfl)), hw1.ext_out⟩
    refine JD_qg (q_move) (k := ?_)
    refine JD_qg (q_move) (k := ?_)
    refine JD_qg (q_move) (k := ?_)
    refine JD_qg (q_add) (k := ?_)
    refine JD_qg (q_lss) (k := ?_)
    refine JD_q (q_pickT) (k := ?_)
    refine JD_q (q_neqB Tryz.runUnderlying4) (k := ?_)
    refine JD_nil0 ?_
    refine JL_nil ?_
    refine JX_seq ?_
    refine J_cond rfl (fun hq11 => ?_) (fun hq11 => ?_)
    rotate_left
    · refine J_skip ?_
      refine JX_block ?_
      refine JX_seq ?_
      refine J_reg ?_
      refine JL_q (q_move) (k := ?_)
      refine JL_q (q_add) (k := ?_)
      refine JL_q (q_assign) (k := ?_)
      refine JL_nil ?_
      exact JX_inv2 n_2 (i_1 + 1) ⟨by omega, (((hF3.pos hq9).pos hq10).f hq11)⟩ (Nat.lt_succ_self _) (by repeat (first | exact SubE.nil | refine SubE.cons rfl ?_)) (List.Perm.refl _)
    refine J_seq ?_
    refine J_reg ?_
    refine JL_q (q_assign) (k := ?_)
    refine JL_nil ?_
    refine JX_seq ?_
    refine J_ret ?_
    refine JX_block_ret ?_
    refine JX_seq_ret ?_
    refine JX_inv_ret ?_
    refine JX_block_ret ?_
    refine JX_seq_ret ?_
    refine JX_ret Tryz.results4 (Res.tmp rfl Res.nil) (fun w1 hw1 => ?_)
    exact ⟨(by rw [(((((((hF.neg hq1).neg hq4).f hq6).f hq7).f hq8).er1 (((hF3.pos hq9).pos hq10).t hq11))).eq] <;> first | rfl | (simp only [List.length_set] <;> rfl)), hw1.ext_out⟩

theorem lCredEnds_ok (w : World) {l_a : Option Addr} {l_c : Nat} {ea0 : Addr} {ea1 : Addr} {l : List Cred} {id : Int} {now : Int} {at_ : Int} (h_l : Sl w eCred 4 l_a l) (hG : Gl w) (hE : Er w ea0 ea1) : Val Tryz.prog 5 [(Value.slice (l_a) (l.length) (l_c)), (Value.int .i64 (id)), (Value.int .i64 (now)), (Value.int .i64 (at_))] w (Value.bool ((lCredEnds l id now at_))) := by
  have hF := Is.refl (lCredEnds l id now at_)
  refine enter Tryz.func5 Tryz.ntmps5 (h := ?_)
  refine J_seq ?_
  refine J_reg ?_
  refine JL_q (q_assign) (k := ?_)
  refine JL_nil ?_
  refine JX_seq ?_
  refine J_seq ?_
  refine J_reg ?_
  refine JL_v (args := []) (c_callA Tryz.call8) (fun w1 hw1 => cShown_ok w1 (hG := hG.ext hw1.ext_out) (hE := hE.ext hw1.ext_out)) (k := ?_)
  refine JL_q (q_assign) (k := ?_)
  refine JL_nil ?_
  refine JX_seq ?_
  refine J_seq ?_
  refine J_reg ?_
  refine JL_q (q_move) (k := ?_)
  refine JL_p (args := [(Value.slice (l_a) (l.length) (l_c))]) (c_callA Tryz.call9) (fun w1 hw1 => cFew_ok w1 (l := l) (h_l := (SlJ.of_base h_l) w1 hw1)) (k := ?_)
  rintro w1_1 e1_1 w2_1 hw1_1 ⟨a1_1, c1_1, B1_1, he_1, hf_1, ho1_1, hl1_1⟩
  refine ⟨_, (B1_1 ++ []), he_1, hw1_1.fresh hf_1, ?_⟩
  refine JL_q (q_assign) (k := ?_)
  refine JL_nil ?_
  refine JX_seq ?_
  refine J_seq ?_
  refine J_reg ?_
  refine JL_q (q_move) (k := ?_)
  refine JL_q (q_move) (k := ?_)
  refine JL_q (q_move) (k := ?_)
  refine JL_p (args := [(Value.slice (a1_1) ((cFew l).length) (c1_1)), (Value.int .i64 (id)), (Value.int .i64 (now))]) (c_callA Tryz.call13) (fun w1 hw1 => cEnd_ok w1 (l := (cFew l)) (id := id) (now := now) (h_l := (ho1_1.slj eCred_ok) w1 hw1) (n_l := by first | omega | (simp only [List.length_append, List.length_take, List.length_drop, List.length_set, List.length_replicate, List.length_cons, List.length_nil, List.length_map, toS_length, toI_length]; omega) | (simp only [List.length_append, List.length_take, List.length_drop, List.length_set, List.length_replicate, List.length_cons, List.length_nil, List.length_map, toS_length, toI_length] at *; omega) | decide) (hG := hG.ext hw1.ext_out) (hE := hE.ext hw1.ext_out)) (k := ?_)
  rintro w1_2 e1_2 w2_2 hw1_2 ⟨a1_2, c1_2, B1_2, he_2, hf_2, ho1_2, hl1_2⟩
  refine ⟨_, (B1_2 ++ (B1_1 ++ [])), he_2, hw1_2.fresh hf_2, ?_⟩
  refine JL_q (q_move) (k := ?_)
  refine JL_q (q_ext) (k := ?_)
  refine JL_q (q_ext) (k := ?_)
  refine JL_q (q_assign) (k := ?_)
  refine JL_q (q_assign) (k := ?_)
  refine JL_nil ?_
  refine JX_seq ?_
  refine J_seq ?_
  refine J_seq ?_
  refine J_reg ?_
  refine JL_q (q_move) (k := ?_)
  refine JL_q (q_neq) (k := ?_)
  refine JL_nil ?_
  refine JX_seq ?_
  refine J_dec rfl (fun hq1 => ?_) (fun hq1 => ?_)
  · refine J_seq ?_
    refine J_reg ?_
    refine JL_q (q_move) (k := ?_)
    refine JL_q (q_move) (k := ?_)
    refine JL_bool 29 rfl (fun hq2 => ?_) (fun hq2 => ?_)
    rotate_left
    · refine JL_skips 3 rfl ?_
      refine JL_q (q_pickF) (k := ?_)
      refine JL_q (q_assign) (k := ?_)
      refine JL_nil ?_
      refine JX_seq ?_
      refine J_ret ?_
      refine JX_seq_ret ?_
      refine JX_ret Tryz.results5 (Res.tmp rfl Res.nil) (fun w1 hw1 => ?_)
      exact ⟨(by rw [(((hF.pos hq1).f hq2)).eq] <;> first | rfl | (simp only [List.length_set] <;> rfl)), hw1.ext_out⟩
    refine JL_qg (q_move) (k := ?_)
    refine JL_qg (q_lenS Tryz.runUnderlying22) (k := ?_)
    refine JL_qg (q_eql) (k := ?_)
    refine JL_q (q_pickT) (k := ?_)
    refine JL_q (q_assign) (k := ?_)
    refine JL_nil ?_
    refine JX_seq ?_
    refine J_ret ?_
    refine JX_seq_ret ?_
    refine JX_ret Tryz.results5 (Res.tmp rfl Res.nil) (fun w1 hw1 => ?_)
    exact ⟨(by rw [(((hF.pos hq1).t hq2)).eq] <;> first | rfl | (simp only [List.length_set] <;> rfl)), hw1.ext_out⟩
  refine J_skip ?_
  refine JX_seq ?_
  refine J_seq ?_
  refine J_reg ?_
  refine JL_q (q_move) (k := ?_)
  refine JL_q (q_move) (k := ?_)
  refine JL_p (args := [(Value.slice (a1_1) ((cFew l).length) (c1_1)), (Value.int .i64 (at_))]) (c_callA Tryz.call17) (fun w1 hw1 => cHolding_ok w1 (l := (cFew l)) (now := at_) (h_l := (ho1_1.slj eCred_ok) w1 hw1) (n_l := by first | omega | (simp only [List.length_append, List.length_take, List.length_drop, List.length_set, List.length_replicate, List.length_cons, List.length_nil, List.length_map, toS_length, toI_length]; omega) | (simp only [List.length_append, List.length_take, List.length_drop, List.length_set, List.length_replicate, List.length_cons, List.length_nil, List.length_map, toS_length, toI_length] at *; omega) | decide)) (k := ?_)
  rintro w1_3 e1_3 w2_3 hw1_3 ⟨a1_3, c1_3, B1_3, he_3, hf_3, ho1_3, hl1_3⟩
  refine ⟨_, (B1_3 ++ (B1_2 ++ (B1_1 ++ []))), he_3, hw1_3.fresh hf_3, ?_⟩
  refine JL_q (q_assign) (k := ?_)
  refine JL_nil ?_
  refine JX_seq ?_
  refine J_seq ?_
  refine J_reg ?_
  refine JL_q (q_move) (k := ?_)
  refine JL_q (q_move) (k := ?_)
  refine JL_p (args := [(Value.slice (a1_2) ((cEnd (cFew l) id now).1.length) (c1_2)), (Value.int .i64 (at_))]) (c_callA Tryz.call17) (fun w1 hw1 => cHolding_ok w1 (l := ((cEnd (cFew l) id now).1)) (now := at_) (h_l := (ho1_2.slj eCred_ok) w1 hw1) (n_l := by first | omega | (simp only [List.length_append, List.length_take, List.length_drop, List.length_set, List.length_replicate, List.length_cons, List.length_nil, List.length_map, toS_length, toI_length]; omega) | (simp only [List.length_append, List.length_take, List.length_drop, List.length_set, List.length_replicate, List.length_cons, List.length_nil, List.length_map, toS_length, toI_length] at *; omega) | decide)) (k := ?_)
  rintro w1_4 e1_4 w2_4 hw1_4 ⟨a1_4, c1_4, B1_4, he_4, hf_4, ho1_4, hl1_4⟩
  refine ⟨_, (B1_4 ++ (B1_3 ++ (B1_2 ++ (B1_1 ++ [])))), he_4, hw1_4.fresh hf_4, ?_⟩
  refine JL_q (q_assign) (k := ?_)
  refine JL_nil ?_
  refine JX_seq ?_
  refine J_seq ?_
  refine J_seq ?_
  refine J_reg ?_
  refine JL_q (q_assign) (k := ?_)
  refine JL_nil ?_
  refine JX_seq ?_
  refine J_block ?_
  refine J_loop2 (σ1 := Nat) (σ2 := Nat) (fun n_2 i_1 => (B1_4 ++ (B1_3 ++ (B1_2 ++ (B1_1 ++ []))))) (fun n_2 i_1 => [(1, (Value.int .i64 (id))), (2, (Value.int .i64 (now))), (3, (Value.int .i64 (at_))), (8, (Value.bool (false))), (9, (Value.bool (cShown))), (10, (Value.slice (a1_2) ((cEnd (cFew l) id now).1.length) (c1_2))), (12, (Value.slice (a1_3) ((cHolding (cFew l) at_).length) (c1_3))), (13, (Value.slice (a1_4) ((cHolding ((cEnd (cFew l) id now).1) at_).length) (c1_4))), (14, (Value.int .i64 (((i_1 : Nat) : Int))))]) (fun n_2 i_1 => ((cHolding (cFew l) at_).length) - i_1 < n_2 ∧ Is (lCredEnds_l0 l id now at_ (((cHolding (cFew l) at_).length) + 1) 0) (lCredEnds_l0 l id now at_ n_2 i_1)) (fun n_2 i_1 => n_2) (((cHolding (cFew l) at_).length) + 1) 0 ?_ (by repeat (first | exact SubE.nil | refine SubE.cons rfl ?_)) (List.Perm.refl _) ?_
  · exact ⟨Nat.lt_succ_self _, Is.refl _⟩
  · rintro (_ | n_2) i_1 ⟨hm4, hF3⟩
    · omega
    refine J_seq ?_
    refine J_seq ?_
    refine J_reg ?_
    refine JL_q (q_move) (k := ?_)
    refine JL_q (q_move) (k := ?_)
    refine JL_q (q_lenS Tryz.runUnderlying22) (k := ?_)
    refine JL_q (q_lss) (k := ?_)
    refine JL_nil ?_
    refine JX_seq ?_
    refine J_dec rfl (fun hq3 => ?_) (fun hq3 => ?_)
    · refine J_skip ?_
      refine JX_seq ?_
      refine J_seq ?_
      refine J_block ?_
      refine J_seq ?_
      refine J_reg ?_
      refine JL_q (q_move) (k := ?_)
      refine JL_q (q_move) (k := ?_)
      refine JL_q (q_idx (n := (cHolding (cFew l) at_).length) Tryz.runUnderlying22 Tryz.sizeOf37 i_1 (ho1_3.slj eCred_ok) (gD (by first | omega | (simp only [List.length_set]; omega) | (simp only [List.length_append, List.length_take, List.length_drop, List.length_set, List.length_replicate, List.length_cons, List.length_nil, List.length_map, toS_length, toI_length]; omega))) (by first | rfl | simp)) (k := ?_)
      refine JL_q (q_fldE FO_37_0) (k := ?_)
      refine JL_q (q_loadE Tryz.isAgg3 i_1 0 (ho1_3.slj eCred_ok) (gD (by first | omega | (simp only [List.length_set]; omega) | (simp only [List.length_append, List.length_take, List.length_drop, List.length_set, List.length_replicate, List.length_cons, List.length_nil, List.length_map, toS_length, toI_length]; omega)))) (k := ?_)
      refine JL_q (q_move) (k := ?_)
      refine JL_q (q_neq) (k := ?_)
      refine JL_q (q_move) (k := ?_)
      refine JL_dec 53 rfl (fun hq4 => ?_) (fun hq4 => ?_)
      rotate_left
      · refine JL_skips 8 rfl ?_
        refine JL_q (q_pickF) (k := ?_)
        refine JL_nil ?_
        refine JX_seq ?_
        refine J_false rfl ?_
        refine J_skip ?_
        refine JX_block ?_
        refine JX_seq ?_
        refine J_reg ?_
        refine JL_q (q_move) (k := ?_)
        refine JL_q (q_add) (k := ?_)
        refine JL_q (q_assign) (k := ?_)
        refine JL_nil ?_
        exact JX_inv2 n_2 (i_1 + 1) ⟨by omega, ((hF3.pos hq3).neg hq4)⟩ (Nat.lt_succ_self _) (by repeat (first | exact SubE.nil | refine SubE.cons rfl ?_)) (List.Perm.refl _)
      refine JL_qg (q_move) (k := ?_)
      refine JL_qg (q_move) (k := ?_)
      refine JL_qg (q_move) (k := ?_)
      refine JL_qg (q_idx (n := (cHolding (cFew l) at_).length) Tryz.runUnderlying22 Tryz.sizeOf37 i_1 (ho1_3.slj eCred_ok) (gD (by first | omega | (simp only [List.length_set]; omega) | (simp only [List.length_append, List.length_take, List.length_drop, List.length_set, List.length_replicate, List.length_cons, List.length_nil, List.length_map, toS_length, toI_length]; omega))) (by first | rfl | simp)) (k := ?_)
      refine JL_qg (q_fldE FO_37_0) (k := ?_)
      refine JL_qg (q_loadE Tryz.isAgg3 i_1 0 (ho1_3.slj eCred_ok) (gD (by first | omega | (simp only [List.length_set]; omega) | (simp only [List.length_append, List.length_take, List.length_drop, List.length_set, List.length_replicate, List.length_cons, List.length_nil, List.length_map, toS_length, toI_length]; omega)))) (k := ?_)
      refine JL_vg (args := [(Value.slice (a1_4) ((cHolding ((cEnd (cFew l) id now).1) at_).length) (c1_4)), (Value.int .i64 ((((cHolding (cFew l) at_).getD i_1 default).id)))]) (c_callA Tryz.call18) (fun w1 hw1 => cInL_ok w1 (l := (cHolding ((cEnd (cFew l) id now).1) at_)) (id := (((cHolding (cFew l) at_).getD i_1 default).id)) (h_l := (ho1_4.slj eCred_ok) w1 hw1) (n_l := by first | omega | (simp only [List.length_append, List.length_take, List.length_drop, List.length_set, List.length_replicate, List.length_cons, List.length_nil, List.length_map, toS_length, toI_length]; omega) | (simp only [List.length_append, List.length_take, List.length_drop, List.length_set, List.length_replicate, List.length_cons, List.length_nil, List.length_map, toS_length, toI_length] at *; omega) | decide)) (k := ?_)
      refine JL_qg (q_not) (k := ?_)
      refine JL_q (q_pickT) (k := ?_)
      refine JL_nil ?_
      refine JX_seq ?_
      refine J_cond rfl (fun hq5 => ?_) (fun hq5 => ?_)
      rotate_left
      · refine J_skip ?_
        refine JX_block ?_
        refine JX_seq ?_
        refine J_reg ?_
        refine JL_q (q_move) (k := ?_)
        refine JL_q (q_add) (k := ?_)
        refine JL_q (q_assign) (k := ?_)
        refine JL_nil ?_
        exact JX_inv2 n_2 (i_1 + 1) ⟨by omega, (((hF3.pos hq3).pos hq4).f hq5)⟩ (Nat.lt_succ_self _) (by repeat (first | exact SubE.nil | refine SubE.cons rfl ?_)) (List.Perm.refl _)
      refine J_seq ?_
      refine J_reg ?_
      refine JL_q (q_assign) (k := ?_)
      refine JL_nil ?_
      refine JX_seq ?_
      refine J_ret ?_
      refine JX_block_ret ?_
      refine JX_seq_ret ?_
      refine JX_inv_ret ?_
      refine JX_block_ret ?_
      refine JX_seq_ret ?_
      refine JX_ret Tryz.results5 (Res.tmp rfl Res.nil) (fun w1 hw1 => ?_)
      exact ⟨(by rw [(((hF.neg hq1).er1 (((hF3.pos hq3).pos hq4).t hq5))).eq] <;> first | rfl | (simp only [List.length_set] <;> rfl)), hw1.ext_out⟩
    refine J_exit ?_
    refine JX_seq_exit ?_
    refine JX_inv_exit ?_
    refine JX_block_hit ?_
    refine JX_seq ?_
    refine J_seq ?_
    refine J_seq ?_
    refine J_reg ?_
    refine JL_q (q_assign) (k := ?_)
    refine JL_nil ?_
    refine JX_seq ?_
    refine J_block ?_
    refine J_loop2 (σ1 := Nat) (σ2 := Nat) (fun n_6 i_5 => (B1_4 ++ (B1_3 ++ (B1_2 ++ (B1_1 ++ []))))) (fun n_6 i_5 => [(1, (Value.int .i64 (id))), (2, (Value.int .i64 (now))), (3, (Value.int .i64 (at_))), (8, (Value.bool (false))), (9, (Value.bool (cShown))), (10, (Value.slice (a1_2) ((cEnd (cFew l) id now).1.length) (c1_2))), (12, (Value.slice (a1_3) ((cHolding (cFew l) at_).length) (c1_3))), (13, (Value.slice (a1_4) ((cHolding ((cEnd (cFew l) id now).1) at_).length) (c1_4))), (15, (Value.int .i64 (((i_5 : Nat) : Int))))]) (fun n_6 i_5 => ((cHolding ((cEnd (cFew l) id now).1) at_).length) - i_5 < n_6 ∧ Is (lCredEnds_l1 l id now at_ i_1 (((cHolding ((cEnd (cFew l) id now).1) at_).length) + 1) 0) (lCredEnds_l1 l id now at_ i_1 n_6 i_5)) (fun n_6 i_5 => n_6) (((cHolding ((cEnd (cFew l) id now).1) at_).length) + 1) 0 ?_ (by repeat (first | exact SubE.nil | refine SubE.cons rfl ?_)) (List.Perm.refl _) ?_
    · exact ⟨Nat.lt_succ_self _, Is.refl _⟩
    · rintro (_ | n_6) i_5 ⟨hm8, hF7⟩
      · omega
      refine J_seq ?_
      refine J_seq ?_
      refine J_reg ?_
      refine JL_q (q_move) (k := ?_)
      refine JL_q (q_move) (k := ?_)
      refine JL_q (q_lenS Tryz.runUnderlying22) (k := ?_)
      refine JL_q (q_lss) (k := ?_)
      refine JL_nil ?_
      refine JX_seq ?_
      refine J_dec rfl (fun hq6 => ?_) (fun hq6 => ?_)
      · refine J_skip ?_
        refine JX_seq ?_
        refine J_seq ?_
        refine J_block ?_
        refine J_seq ?_
        refine J_reg ?_
        refine JL_q (q_move) (k := ?_)
        refine JL_q (q_move) (k := ?_)
        refine JL_q (q_move) (k := ?_)
        refine JL_q (q_idx (n := (cHolding ((cEnd (cFew l) id now).1) at_).length) Tryz.runUnderlying22 Tryz.sizeOf37 i_5 (ho1_4.slj eCred_ok) (gD (by first | omega | (simp only [List.length_set]; omega) | (simp only [List.length_append, List.length_take, List.length_drop, List.length_set, List.length_replicate, List.length_cons, List.length_nil, List.length_map, toS_length, toI_length]; omega))) (by first | rfl | simp)) (k := ?_)
        refine JL_q (q_fldE FO_37_0) (k := ?_)
        refine JL_q (q_loadE Tryz.isAgg3 i_5 0 (ho1_4.slj eCred_ok) (gD (by first | omega | (simp only [List.length_set]; omega) | (simp only [List.length_append, List.length_take, List.length_drop, List.length_set, List.length_replicate, List.length_cons, List.length_nil, List.length_map, toS_length, toI_length]; omega)))) (k := ?_)
        refine JL_v (args := [(Value.slice (a1_3) ((cHolding (cFew l) at_).length) (c1_3)), (Value.int .i64 ((((cHolding ((cEnd (cFew l) id now).1) at_).getD i_5 default).id)))]) (c_callA Tryz.call18) (fun w1 hw1 => cInL_ok w1 (l := (cHolding (cFew l) at_)) (id := (((cHolding ((cEnd (cFew l) id now).1) at_).getD i_5 default).id)) (h_l := (ho1_3.slj eCred_ok) w1 hw1) (n_l := by first | omega | (simp only [List.length_append, List.length_take, List.length_drop, List.length_set, List.length_replicate, List.length_cons, List.length_nil, List.length_map, toS_length, toI_length]; omega) | (simp only [List.length_append, List.length_take, List.length_drop, List.length_set, List.length_replicate, List.length_cons, List.length_nil, List.length_map, toS_length, toI_length] at *; omega) | decide)) (k := ?_)
        refine JL_q (q_not) (k := ?_)
        refine JL_nil ?_
        refine JX_seq ?_
        refine J_cond rfl (fun hq7 => ?_) (fun hq7 => ?_)
        rotate_left
        · refine J_skip ?_
          refine JX_block ?_
          refine JX_seq ?_
          refine J_reg ?_
          refine JL_q (q_move) (k := ?_)
          refine JL_q (q_add) (k := ?_)
          refine JL_q (q_assign) (k := ?_)
          refine JL_nil ?_
          exact JX_inv2 n_6 (i_5 + 1) ⟨by omega, ((hF7.pos hq6).f hq7)⟩ (Nat.lt_succ_self _) (by repeat (first | exact SubE.nil | refine SubE.cons rfl ?_)) (List.Perm.refl _)
        refine J_seq ?_
        refine J_reg ?_
        refine JL_q (q_assign) (k := ?_)
        refine JL_nil ?_
        refine JX_seq ?_
        refine J_ret ?_
        refine JX_block_ret ?_
        refine JX_seq_ret ?_
        refine JX_inv_ret ?_
        refine JX_block_ret ?_
        refine JX_seq_ret ?_
        refine JX_ret Tryz.results5 (Res.tmp rfl Res.nil) (fun w1 hw1 => ?_)
        exact ⟨(by rw [((((hF.neg hq1).ok1 (hF3.neg hq3)).er1 ((hF7.pos hq6).t hq7))).eq] <;> first | rfl | (simp only [List.length_set] <;> rfl)), hw1.ext_out⟩
      refine J_exit ?_
      refine JX_seq_exit ?_
      refine JX_inv_exit ?_
      refine JX_block_hit ?_
      refine JX_seq ?_
      refine J_seq ?_
      refine J_reg ?_
      refine JL_q (q_move) (k := ?_)
      refine JL_q (q_move) (k := ?_)
      refine JL_bool 78 rfl (fun hq8 => ?_) (fun hq8 => ?_)
      rotate_left
      · refine JL_skips 2 rfl ?_
        refine JL_q (q_pickF) (k := ?_)
        refine JL_q (q_move) (k := ?_)
        refine JL_skips 9 rfl ?_
        refine JL_q (q_pickF) (k := ?_)
        refine JL_q (q_assign) (k := ?_)
        refine JL_nil ?_
        refine JX_seq ?_
        refine J_ret ?_
        refine JX_ret Tryz.results5 (Res.tmp rfl Res.nil) (fun w1 hw1 => ?_)
        exact ⟨(by rw [(((((hF.neg hq1).ok1 (hF3.neg hq3)).ok1 (hF7.neg hq6)).f hq8)).eq] <;> first | rfl | (simp only [List.length_set] <;> rfl)), hw1.ext_out⟩
      refine JL_qg (q_move) (k := ?_)
      refine JL_vg (args := [(Value.slice (a1_2) ((cEnd (cFew l) id now).1.length) (c1_2))]) (c_callA Tryz.call16) (fun w1 hw1 => cRight_ok w1 (l := ((cEnd (cFew l) id now).1)) (h_l := (ho1_2.slj eCred_ok) w1 hw1) (n_l := by first | omega | (simp only [List.length_append, List.length_take, List.length_drop, List.length_set, List.length_replicate, List.length_cons, List.length_nil, List.length_map, toS_length, toI_length]; omega) | (simp only [List.length_append, List.length_take, List.length_drop, List.length_set, List.length_replicate, List.length_cons, List.length_nil, List.length_map, toS_length, toI_length] at *; omega) | decide)) (k := ?_)
      refine JL_q (q_pickT) (k := ?_)
      refine JL_q (q_move) (k := ?_)
      refine JL_bool 82 rfl (fun hq9 => ?_) (fun hq9 => ?_)
      rotate_left
      · refine JL_skips 9 rfl ?_
        refine JL_q (q_pickF) (k := ?_)
        refine JL_q (q_assign) (k := ?_)
        refine JL_nil ?_
        refine JX_seq ?_
        refine J_ret ?_
        refine JX_ret Tryz.results5 (Res.tmp rfl Res.nil) (fun w1 hw1 => ?_)
        exact ⟨(by rw [((((((hF.neg hq1).ok1 (hF3.neg hq3)).ok1 (hF7.neg hq6)).t hq8).f hq9)).eq] <;> first | rfl | (simp only [List.length_set] <;> rfl)), hw1.ext_out⟩
      have hfhq9 := cRight_t hq9
      refine JL_qg (q_move) (k := ?_)
      refine JL_qg (q_move) (k := ?_)
      refine JL_qg (q_lss) (k := ?_)
      refine JL_qg (q_move) (k := ?_)
      refine JL_dec 86 rfl (fun hq10 => ?_) (fun hq10 => ?_)
      · refine JL_skips 4 rfl ?_
        refine JL_qg (q_pickT) (k := ?_)
        refine JL_q (q_pickT) (k := ?_)
        refine JL_q (q_assign) (k := ?_)
        refine JL_nil ?_
        refine JX_seq ?_
        refine J_ret ?_
        refine JX_ret Tryz.results5 (Res.tmp rfl Res.nil) (fun w1 hw1 => ?_)
        exact ⟨(by rw [(((((((hF.neg hq1).ok1 (hF3.neg hq3)).ok1 (hF7.neg hq6)).t hq8).t hq9).pos hq10)).eq] <;> first | rfl | (simp only [List.length_set] <;> rfl)), hw1.ext_out⟩
      refine JL_qg (q_move) (k := ?_)
      refine JL_qg (q_move) (k := ?_)
      refine JL_vg (args := [(Value.slice (a1_4) ((cHolding ((cEnd (cFew l) id now).1) at_).length) (c1_4)), (Value.int .i64 (id))]) (c_callA Tryz.call18) (fun w1 hw1 => cInL_ok w1 (l := (cHolding ((cEnd (cFew l) id now).1) at_)) (id := id) (h_l := (ho1_4.slj eCred_ok) w1 hw1) (n_l := by first | omega | (simp only [List.length_append, List.length_take, List.length_drop, List.length_set, List.length_replicate, List.length_cons, List.length_nil, List.length_map, toS_length, toI_length]; omega) | (simp only [List.length_append, List.length_take, List.length_drop, List.length_set, List.length_replicate, List.length_cons, List.length_nil, List.length_map, toS_length, toI_length] at *; omega) | decide)) (k := ?_)
      refine JL_qg (q_not) (k := ?_)
      refine JL_qg (q_pickF) (k := ?_)
      refine JL_q (q_pickT) (k := ?_)
      refine JL_q (q_assign) (k := ?_)
      refine JL_nil ?_
      refine JX_seq ?_
      refine J_ret ?_
      refine JX_ret Tryz.results5 (Res.tmp rfl Res.nil) (fun w1 hw1 => ?_)
      exact ⟨(by rw [(((((((hF.neg hq1).ok1 (hF3.neg hq3)).ok1 (hF7.neg hq6)).t hq8).t hq9).neg hq10)).eq] <;> first | rfl | (simp only [List.length_set] <;> rfl)), hw1.ext_out⟩

theorem lCredNew_ok (w : World) {ea0 : Addr} {ea1 : Addr} {key : Str} {now : Int} {span : Int} {at_ : Int} (hG : Gl w) (hE : Er w ea0 ea1) : Val Tryz.prog 6 [(Value.string (bs key)), (Value.int .i64 (now)), (Value.int .i64 (span)), (Value.int .i64 (at_))] w (Value.bool ((lCredNew key now span at_))) := by
  have hF := Is.refl (lCredNew key now span at_)
  refine enter Tryz.func6 Tryz.ntmps6 (h := ?_)
  refine J_seq ?_
  refine J_reg ?_
  refine JL_q (q_assign) (k := ?_)
  refine JL_nil ?_
  refine JX_seq ?_
  refine J_seq ?_
  refine J_reg ?_
  refine JL_v (args := []) (c_callA Tryz.call8) (fun w1 hw1 => cShown_ok w1 (hG := hG.ext hw1.ext_out) (hE := hE.ext hw1.ext_out)) (k := ?_)
  refine JL_q (q_assign) (k := ?_)
  refine JL_nil ?_
  refine JX_seq ?_
  refine J_seq ?_
  refine J_reg ?_
  refine JL_q (q_move) (k := ?_)
  refine JL_v (args := [(Value.string (bs key))]) (c_callA Tryz.call10) (fun w1 hw1 => cCut_ok w1 (s := key)) (k := ?_)
  have hcu_12664 := cCut_len key
  refine JL_q (q_assign) (k := ?_)
  refine JL_nil ?_
  refine JX_seq ?_
  refine J_seq ?_
  refine J_reg ?_
  refine JL_q (q_move) (k := ?_)
  refine JL_q (q_move) (k := ?_)
  refine JL_q (q_move) (k := ?_)
  refine JL_p (args := [(Value.slice (none) (0) (0)), (Value.string (bs (cCut key))), (Value.int .i64 (now)), (Value.int .i64 (0)), (Value.int .i64 (span))]) (c_callA Tryz.call11) (fun w1 hw1 => cRot_ok w1 (l := []) (key := (cCut key)) (now := now) (overlap := 0) (span := span) (h_l := (fun _ _ => Sl.nil) w1 hw1) (n_l := by first | omega | (simp only [List.length_append, List.length_take, List.length_drop, List.length_set, List.length_replicate, List.length_cons, List.length_nil, List.length_map, toS_length, toI_length]; omega) | (simp only [List.length_append, List.length_take, List.length_drop, List.length_set, List.length_replicate, List.length_cons, List.length_nil, List.length_map, toS_length, toI_length] at *; omega) | decide) (hG := hG.ext hw1.ext_out) (hE := hE.ext hw1.ext_out)) (k := ?_)
  rintro w1_1 e1_1 w2_1 hw1_1 ⟨a1_1, c1_1, B1_1, he_1, hf_1, ho1_1, hl1_1⟩
  refine ⟨_, (B1_1 ++ []), he_1, hw1_1.fresh hf_1, ?_⟩
  have hrot_30950 := cRot_bd ([]) (cCut key) now 0 span
  refine JL_q (q_move) (k := ?_)
  refine JL_q (q_ext) (k := ?_)
  refine JL_q (q_ext) (k := ?_)
  refine JL_q (q_ext) (k := ?_)
  refine JL_q (q_assign) (k := ?_)
  refine JL_q (q_assign) (k := ?_)
  refine JL_q (q_assign) (k := ?_)
  refine JL_nil ?_
  refine JX_seq ?_
  refine J_seq ?_
  refine J_seq ?_
  refine J_reg ?_
  refine JL_q (q_move) (k := ?_)
  refine JL_q (q_neq) (k := ?_)
  refine JL_nil ?_
  refine JX_seq ?_
  refine J_dec rfl (fun hq1 => ?_) (fun hq1 => ?_)
  · refine J_seq ?_
    refine J_reg ?_
    refine JL_q (q_move) (k := ?_)
    refine JL_q (q_move) (k := ?_)
    refine JL_bool 28 rfl (fun hq2 => ?_) (fun hq2 => ?_)
    rotate_left
    · refine JL_skips 3 rfl ?_
      refine JL_q (q_pickF) (k := ?_)
      refine JL_q (q_move) (k := ?_)
      refine JL_skips 2 rfl ?_
      refine JL_q (q_pickF) (k := ?_)
      refine JL_q (q_assign) (k := ?_)
      refine JL_nil ?_
      refine JX_seq ?_
      refine J_ret ?_
      refine JX_seq_ret ?_
      refine JX_ret Tryz.results6 (Res.tmp rfl Res.nil) (fun w1 hw1 => ?_)
      exact ⟨(by rw [(((hF.pos hq1).f hq2)).eq] <;> first | rfl | (simp only [List.length_set] <;> rfl)), hw1.ext_out⟩
    refine JL_qg (q_move) (k := ?_)
    refine JL_qg (q_lenS Tryz.runUnderlying22) (k := ?_)
    refine JL_qg (q_eql) (k := ?_)
    refine JL_q (q_pickT) (k := ?_)
    refine JL_q (q_move) (k := ?_)
    refine JL_dec 33 rfl (fun hq3 => ?_) (fun hq3 => ?_)
    rotate_left
    · refine JL_skips 2 rfl ?_
      refine JL_q (q_pickF) (k := ?_)
      refine JL_q (q_assign) (k := ?_)
      refine JL_nil ?_
      refine JX_seq ?_
      refine J_ret ?_
      refine JX_seq_ret ?_
      refine JX_ret Tryz.results6 (Res.tmp rfl Res.nil) (fun w1 hw1 => ?_)
      exact ⟨(by rw [((((hF.pos hq1).t hq2).neg hq3)).eq] <;> first | rfl | (simp only [List.length_set] <;> rfl)), hw1.ext_out⟩
    refine JL_qg (q_move) (k := ?_)
    refine JL_qg (q_eql) (k := ?_)
    refine JL_q (q_pickT) (k := ?_)
    refine JL_q (q_assign) (k := ?_)
    refine JL_nil ?_
    refine JX_seq ?_
    refine J_ret ?_
    refine JX_seq_ret ?_
    refine JX_ret Tryz.results6 (Res.tmp rfl Res.nil) (fun w1 hw1 => ?_)
    exact ⟨(by rw [((((hF.pos hq1).t hq2).pos hq3)).eq] <;> first | rfl | (simp only [List.length_set] <;> rfl)), hw1.ext_out⟩
  refine J_skip ?_
  refine JX_seq ?_
  refine J_seq ?_
  refine J_reg ?_
  refine JL_q (q_move) (k := ?_)
  refine JL_q (q_move) (k := ?_)
  refine JL_p (args := [(Value.slice (a1_1) ((cRot ([]) (cCut key) now 0 span).1.length) (c1_1)), (Value.int .i64 (at_))]) (c_callA Tryz.call17) (fun w1 hw1 => cHolding_ok w1 (l := ((cRot ([]) (cCut key) now 0 span).1)) (now := at_) (h_l := (ho1_1.slj eCred_ok) w1 hw1) (n_l := by first | omega | (simp only [List.length_append, List.length_take, List.length_drop, List.length_set, List.length_replicate, List.length_cons, List.length_nil, List.length_map, toS_length, toI_length]; omega) | (simp only [List.length_append, List.length_take, List.length_drop, List.length_set, List.length_replicate, List.length_cons, List.length_nil, List.length_map, toS_length, toI_length] at *; omega) | decide)) (k := ?_)
  rintro w1_2 e1_2 w2_2 hw1_2 ⟨a1_2, c1_2, B1_2, he_2, hf_2, ho1_2, hl1_2⟩
  refine ⟨_, (B1_2 ++ (B1_1 ++ [])), he_2, hw1_2.fresh hf_2, ?_⟩
  refine JL_q (q_assign) (k := ?_)
  refine JL_nil ?_
  refine JX_seq ?_
  refine J_seq ?_
  refine J_reg ?_
  refine JL_q (q_move) (k := ?_)
  refine JL_q (q_move) (k := ?_)
  refine JL_bool 41 rfl (fun hq4 => ?_) (fun hq4 => ?_)
  rotate_left
  · refine JL_skips 2 rfl ?_
    refine JL_q (q_pickF) (k := ?_)
    refine JL_q (q_move) (k := ?_)
    refine JL_skips 3 rfl ?_
    refine JL_q (q_pickF) (k := ?_)
    refine JL_q (q_move) (k := ?_)
    refine JL_skips 6 rfl ?_
    refine JL_q (q_pickF) (k := ?_)
    refine JL_q (q_move) (k := ?_)
    refine JL_skips 14 rfl ?_
    refine JL_q (q_pickF) (k := ?_)
    refine JL_q (q_assign) (k := ?_)
    refine JL_nil ?_
    refine JX_seq ?_
    refine J_ret ?_
    refine JX_ret Tryz.results6 (Res.tmp rfl Res.nil) (fun w1 hw1 => ?_)
    exact ⟨(by rw [(((hF.neg hq1).f hq4)).eq] <;> first | rfl | (simp only [List.length_set] <;> rfl)), hw1.ext_out⟩
  refine JL_qg (q_move) (k := ?_)
  refine JL_qg (q_eql) (k := ?_)
  refine JL_q (q_pickT) (k := ?_)
  refine JL_q (q_move) (k := ?_)
  refine JL_dec 45 rfl (fun hq5 => ?_) (fun hq5 => ?_)
  rotate_left
  · refine JL_skips 3 rfl ?_
    refine JL_q (q_pickF) (k := ?_)
    refine JL_q (q_move) (k := ?_)
    refine JL_skips 6 rfl ?_
    refine JL_q (q_pickF) (k := ?_)
    refine JL_q (q_move) (k := ?_)
    refine JL_skips 14 rfl ?_
    refine JL_q (q_pickF) (k := ?_)
    refine JL_q (q_assign) (k := ?_)
    refine JL_nil ?_
    refine JX_seq ?_
    refine J_ret ?_
    refine JX_ret Tryz.results6 (Res.tmp rfl Res.nil) (fun w1 hw1 => ?_)
    exact ⟨(by rw [((((hF.neg hq1).t hq4).neg hq5)).eq] <;> first | rfl | (simp only [List.length_set] <;> rfl)), hw1.ext_out⟩
  refine JL_qg (q_move) (k := ?_)
  refine JL_qg (q_lenS Tryz.runUnderlying22) (k := ?_)
  refine JL_qg (q_eql) (k := ?_)
  refine JL_q (q_pickT) (k := ?_)
  refine JL_q (q_move) (k := ?_)
  refine JL_dec 50 rfl (fun hq6 => ?_) (fun hq6 => ?_)
  rotate_left
  · refine JL_skips 6 rfl ?_
    refine JL_q (q_pickF) (k := ?_)
    refine JL_q (q_move) (k := ?_)
    refine JL_skips 14 rfl ?_
    refine JL_q (q_pickF) (k := ?_)
    refine JL_q (q_assign) (k := ?_)
    refine JL_nil ?_
    refine JX_seq ?_
    refine J_ret ?_
    refine JX_ret Tryz.results6 (Res.tmp rfl Res.nil) (fun w1 hw1 => ?_)
    exact ⟨(by rw [(((((hF.neg hq1).t hq4).pos hq5).neg hq6)).eq] <;> first | rfl | (simp only [List.length_set] <;> rfl)), hw1.ext_out⟩
  refine JL_qg (q_move) (k := ?_)
  refine JL_qg (q_idx (n := (cRot ([]) (cCut key) now 0 span).1.length) Tryz.runUnderlying22 Tryz.sizeOf37 0 (ho1_1.slj eCred_ok) (gD (by first | omega | (simp only [List.length_set]; omega) | (simp only [List.length_append, List.length_take, List.length_drop, List.length_set, List.length_replicate, List.length_cons, List.length_nil, List.length_map, toS_length, toI_length]; omega))) (by first | rfl | simp)) (k := ?_)
  refine JL_qg (q_fldE FO_37_1) (k := ?_)
  refine JL_qg (q_loadE Tryz.isAgg9 0 1 (ho1_1.slj eCred_ok) (gD (by first | omega | (simp only [List.length_set]; omega) | (simp only [List.length_append, List.length_take, List.length_drop, List.length_set, List.length_replicate, List.length_cons, List.length_nil, List.length_map, toS_length, toI_length]; omega)))) (k := ?_)
  refine JL_qg (q_move) (k := ?_)
  refine JL_qg (q_eqT) (k := ?_)
  refine JL_q (q_pickT) (k := ?_)
  refine JL_q (q_move) (k := ?_)
  refine JL_dec 58 rfl (fun hq7 => ?_) (fun hq7 => ?_)
  rotate_left
  · refine JL_skips 14 rfl ?_
    refine JL_q (q_pickF) (k := ?_)
    refine JL_q (q_assign) (k := ?_)
    refine JL_nil ?_
    refine JX_seq ?_
    refine J_ret ?_
    refine JX_ret Tryz.results6 (Res.tmp rfl Res.nil) (fun w1 hw1 => ?_)
    exact ⟨(by rw [((((((hF.neg hq1).t hq4).pos hq5).pos hq6).neg hq7)).eq] <;> first | rfl | (simp only [List.length_set] <;> rfl)), hw1.ext_out⟩
  refine JL_qg (q_move) (k := ?_)
  refine JL_qg (q_lenS Tryz.runUnderlying22) (k := ?_)
  refine JL_qg (q_eql) (k := ?_)
  refine JL_qg (q_move) (k := ?_)
  refine JL_qg (q_move) (k := ?_)
  refine JL_qg (q_geq) (k := ?_)
  refine JL_qg (q_move) (k := ?_)
  refine JL_dec 65 rfl (fun hq8 => ?_) (fun hq8 => ?_)
  rotate_left
  · refine JL_skips 5 rfl ?_
    refine JL_qg (q_pickF) (k := ?_)
    refine JL_qg (q_eqlB Tryz.runUnderlying4) (k := ?_)
    refine JL_q (q_pickT) (k := ?_)
    refine JL_q (q_assign) (k := ?_)
    refine JL_nil ?_
    refine JX_seq ?_
    refine J_ret ?_
    refine JX_ret Tryz.results6 (Res.tmp rfl Res.nil) (fun w1 hw1 => ?_)
    exact ⟨(by rw [(((((((hF.neg hq1).t hq4).pos hq5).pos hq6).pos hq7).neg hq8)).eq] <;> first | rfl | (simp only [List.length_set] <;> rfl)), hw1.ext_out⟩
  refine JL_qg (q_move) (k := ?_)
  refine JL_qg (q_move) (k := ?_)
  refine JL_qg (q_move) (k := ?_)
  refine JL_qg (q_add) (k := ?_)
  refine JL_qg (q_lss) (k := ?_)
  refine JL_qg (q_pickT) (k := ?_)
  refine JL_qg (q_eqlB Tryz.runUnderlying4) (k := ?_)
  refine JL_q (q_pickT) (k := ?_)
  refine JL_q (q_assign) (k := ?_)
  refine JL_nil ?_
  refine JX_seq ?_
  refine J_ret ?_
  refine JX_ret Tryz.results6 (Res.tmp rfl Res.nil) (fun w1 hw1 => ?_)
  exact ⟨(by rw [(((((((hF.neg hq1).t hq4).pos hq5).pos hq6).pos hq7).pos hq8)).eq] <;> first | rfl | (simp only [List.length_set] <;> rfl)), hw1.ext_out⟩

theorem lCredTwice_ok (w : World) {l_a : Option Addr} {l_c : Nat} {ea0 : Addr} {ea1 : Addr} {l : List Cred} {a : Str} {b : Str} {now : Int} {overlap : Int} {span : Int} {at_ : Int} (h_l : Sl w eCred 4 l_a l) (hG : Gl w) (hE : Er w ea0 ea1) : Val Tryz.prog 7 [(Value.slice (l_a) (l.length) (l_c)), (Value.string (bs a)), (Value.string (bs b)), (Value.int .i64 (now)), (Value.int .i64 (overlap)), (Value.int .i64 (span)), (Value.int .i64 (at_))] w (Value.bool ((lCredTwice l a b now overlap span at_))) := by
  have hF := Is.refl (lCredTwice l a b now overlap span at_)
  refine enter Tryz.func7 Tryz.ntmps7 (h := ?_)
  refine J_seq ?_
  refine J_reg ?_
  refine JL_q (q_assign) (k := ?_)
  refine JL_nil ?_
  refine JX_seq ?_
  refine J_seq ?_
  refine J_reg ?_
  refine JL_v (args := []) (c_callA Tryz.call8) (fun w1 hw1 => cShown_ok w1 (hG := hG.ext hw1.ext_out) (hE := hE.ext hw1.ext_out)) (k := ?_)
  refine JL_q (q_assign) (k := ?_)
  refine JL_nil ?_
  refine JX_seq ?_
  refine J_seq ?_
  refine J_reg ?_
  refine JL_q (q_move) (k := ?_)
  refine JL_p (args := [(Value.slice (l_a) (l.length) (l_c))]) (c_callA Tryz.call9) (fun w1 hw1 => cFew_ok w1 (l := l) (h_l := (SlJ.of_base h_l) w1 hw1)) (k := ?_)
  rintro w1_1 e1_1 w2_1 hw1_1 ⟨a1_1, c1_1, B1_1, he_1, hf_1, ho1_1, hl1_1⟩
  refine ⟨_, (B1_1 ++ []), he_1, hw1_1.fresh hf_1, ?_⟩
  refine JL_q (q_assign) (k := ?_)
  refine JL_nil ?_
  refine JX_seq ?_
  refine J_seq ?_
  refine J_reg ?_
  refine JL_q (q_move) (k := ?_)
  refine JL_v (args := [(Value.string (bs a))]) (c_callA Tryz.call10) (fun w1 hw1 => cCut_ok w1 (s := a)) (k := ?_)
  have hcu_4910 := cCut_len a
  refine JL_q (q_assign) (k := ?_)
  refine JL_nil ?_
  refine JX_seq ?_
  refine J_seq ?_
  refine J_reg ?_
  refine JL_q (q_move) (k := ?_)
  refine JL_v (args := [(Value.string (bs b))]) (c_callA Tryz.call10) (fun w1 hw1 => cCut_ok w1 (s := b)) (k := ?_)
  have hcu_58861 := cCut_len b
  refine JL_q (q_assign) (k := ?_)
  refine JL_nil ?_
  refine JX_seq ?_
  refine J_seq ?_
  refine J_reg ?_
  refine JL_q (q_move) (k := ?_)
  refine JL_q (q_move) (k := ?_)
  refine JL_q (q_move) (k := ?_)
  refine JL_q (q_move) (k := ?_)
  refine JL_q (q_move) (k := ?_)
  refine JL_p (args := [(Value.slice (a1_1) ((cFew l).length) (c1_1)), (Value.string (bs (cCut a))), (Value.int .i64 (now)), (Value.int .i64 (overlap)), (Value.int .i64 (span))]) (c_callA Tryz.call11) (fun w1 hw1 => cRot_ok w1 (l := (cFew l)) (key := (cCut a)) (now := now) (overlap := overlap) (span := span) (h_l := (ho1_1.slj eCred_ok) w1 hw1) (n_l := by first | omega | (simp only [List.length_append, List.length_take, List.length_drop, List.length_set, List.length_replicate, List.length_cons, List.length_nil, List.length_map, toS_length, toI_length]; omega) | (simp only [List.length_append, List.length_take, List.length_drop, List.length_set, List.length_replicate, List.length_cons, List.length_nil, List.length_map, toS_length, toI_length] at *; omega) | decide) (hG := hG.ext hw1.ext_out) (hE := hE.ext hw1.ext_out)) (k := ?_)
  rintro w1_2 e1_2 w2_2 hw1_2 ⟨a1_2, c1_2, B1_2, he_2, hf_2, ho1_2, hl1_2⟩
  refine ⟨_, (B1_2 ++ (B1_1 ++ [])), he_2, hw1_2.fresh hf_2, ?_⟩
  have hrot_50410 := cRot_bd (cFew l) (cCut a) now overlap span
  refine JL_q (q_move) (k := ?_)
  refine JL_q (q_ext) (k := ?_)
  refine JL_q (q_ext) (k := ?_)
  refine JL_q (q_ext) (k := ?_)
  refine JL_q (q_assign) (k := ?_)
  refine JL_q (q_assign) (k := ?_)
  refine JL_q (q_assign) (k := ?_)
  refine JL_nil ?_
  refine JX_seq ?_
  refine J_seq ?_
  refine J_reg ?_
  refine JL_q (q_move) (k := ?_)
  refine JL_q (q_move) (k := ?_)
  refine JL_q (q_move) (k := ?_)
  refine JL_q (q_move) (k := ?_)
  refine JL_q (q_move) (k := ?_)
  refine JL_p (args := [(Value.slice (a1_2) ((cRot (cFew l) (cCut a) now overlap span).1.length) (c1_2)), (Value.string (bs (cCut b))), (Value.int .i64 (now)), (Value.int .i64 (overlap)), (Value.int .i64 (span))]) (c_callA Tryz.call11) (fun w1 hw1 => cRot_ok w1 (l := ((cRot (cFew l) (cCut a) now overlap span).1)) (key := (cCut b)) (now := now) (overlap := overlap) (span := span) (h_l := (ho1_2.slj eCred_ok) w1 hw1) (n_l := by first | omega | (simp only [List.length_append, List.length_take, List.length_drop, List.length_set, List.length_replicate, List.length_cons, List.length_nil, List.length_map, toS_length, toI_length]; omega) | (simp only [List.length_append, List.length_take, List.length_drop, List.length_set, List.length_replicate, List.length_cons, List.length_nil, List.length_map, toS_length, toI_length] at *; omega) | decide) (hG := hG.ext hw1.ext_out) (hE := hE.ext hw1.ext_out)) (k := ?_)
  rintro w1_3 e1_3 w2_3 hw1_3 ⟨a1_3, c1_3, B1_3, he_3, hf_3, ho1_3, hl1_3⟩
  refine ⟨_, (B1_3 ++ (B1_2 ++ (B1_1 ++ []))), he_3, hw1_3.fresh hf_3, ?_⟩
  have hrot_746 := cRot_bd ((cRot (cFew l) (cCut a) now overlap span).1) (cCut b) now overlap span
  refine JL_q (q_move) (k := ?_)
  refine JL_q (q_ext) (k := ?_)
  refine JL_q (q_ext) (k := ?_)
  refine JL_q (q_ext) (k := ?_)
  refine JL_q (q_assign) (k := ?_)
  refine JL_q (q_assign) (k := ?_)
  refine JL_q (q_assign) (k := ?_)
  refine JL_nil ?_
  refine JX_seq ?_
  refine J_seq ?_
  refine J_seq ?_
  refine J_reg ?_
  refine JL_q (q_move) (k := ?_)
  refine JL_q (q_neq) (k := ?_)
  refine JL_q (q_move) (k := ?_)
  refine JL_dec 53 rfl (fun hq1 => ?_) (fun hq1 => ?_)
  · refine JL_skips 2 rfl ?_
    refine JL_q (q_pickT) (k := ?_)
    refine JL_q (q_move) (k := ?_)
    refine JL_skips 3 rfl ?_
    refine JL_q (q_pickT) (k := ?_)
    refine JL_nil ?_
    refine JX_seq ?_
    refine J_true rfl ?_
    refine J_seq ?_
    refine J_reg ?_
    refine JL_q (q_move) (k := ?_)
    refine JL_q (q_assign) (k := ?_)
    refine JL_nil ?_
    refine JX_seq ?_
    refine J_ret ?_
    refine JX_seq_ret ?_
    refine JX_ret Tryz.results7 (Res.tmp rfl Res.nil) (fun w1 hw1 => ?_)
    exact ⟨(by rw [((hF.pos hq1)).eq] <;> first | rfl | (simp only [List.length_set] <;> rfl)), hw1.ext_out⟩
  refine JL_qg (q_move) (k := ?_)
  refine JL_qg (q_neq) (k := ?_)
  refine JL_q (q_pickF) (k := ?_)
  refine JL_q (q_move) (k := ?_)
  refine JL_dec 57 rfl (fun hq2 => ?_) (fun hq2 => ?_)
  · refine JL_skips 3 rfl ?_
    refine JL_q (q_pickT) (k := ?_)
    refine JL_nil ?_
    refine JX_seq ?_
    refine J_true rfl ?_
    refine J_seq ?_
    refine J_reg ?_
    refine JL_q (q_move) (k := ?_)
    refine JL_q (q_assign) (k := ?_)
    refine JL_nil ?_
    refine JX_seq ?_
    refine J_ret ?_
    refine JX_seq_ret ?_
    refine JX_ret Tryz.results7 (Res.tmp rfl Res.nil) (fun w1 hw1 => ?_)
    exact ⟨(by rw [(((hF.neg hq1).pos hq2)).eq] <;> first | rfl | (simp only [List.length_set] <;> rfl)), hw1.ext_out⟩
  refine JL_qg (q_move) (k := ?_)
  refine JL_qg (q_move) (k := ?_)
  refine JL_qg (q_lss) (k := ?_)
  refine JL_q (q_pickF) (k := ?_)
  refine JL_nil ?_
  refine JX_seq ?_
  refine J_dec rfl (fun hq3 => ?_) (fun hq3 => ?_)
  · refine J_seq ?_
    refine J_reg ?_
    refine JL_q (q_move) (k := ?_)
    refine JL_q (q_assign) (k := ?_)
    refine JL_nil ?_
    refine JX_seq ?_
    refine J_ret ?_
    refine JX_seq_ret ?_
    refine JX_ret Tryz.results7 (Res.tmp rfl Res.nil) (fun w1 hw1 => ?_)
    exact ⟨(by rw [((((hF.neg hq1).neg hq2).pos hq3)).eq] <;> first | rfl | (simp only [List.length_set] <;> rfl)), hw1.ext_out⟩
  refine J_skip ?_
  refine JX_seq ?_
  refine J_seq ?_
  refine J_reg ?_
  refine JL_q (q_move) (k := ?_)
  refine JL_q (q_move) (k := ?_)
  refine JL_p (args := [(Value.slice (a1_3) ((cRot ((cRot (cFew l) (cCut a) now overlap span).1) (cCut b) now overlap span).1.length) (c1_3)), (Value.int .i64 (at_))]) (c_callA Tryz.call17) (fun w1 hw1 => cHolding_ok w1 (l := ((cRot ((cRot (cFew l) (cCut a) now overlap span).1) (cCut b) now overlap span).1)) (now := at_) (h_l := (ho1_3.slj eCred_ok) w1 hw1) (n_l := by first | omega | (simp only [List.length_append, List.length_take, List.length_drop, List.length_set, List.length_replicate, List.length_cons, List.length_nil, List.length_map, toS_length, toI_length]; omega) | (simp only [List.length_append, List.length_take, List.length_drop, List.length_set, List.length_replicate, List.length_cons, List.length_nil, List.length_map, toS_length, toI_length] at *; omega) | decide)) (k := ?_)
  rintro w1_4 e1_4 w2_4 hw1_4 ⟨a1_4, c1_4, B1_4, he_4, hf_4, ho1_4, hl1_4⟩
  refine ⟨_, (B1_4 ++ (B1_3 ++ (B1_2 ++ (B1_1 ++ [])))), he_4, hw1_4.fresh hf_4, ?_⟩
  refine JL_q (q_assign) (k := ?_)
  refine JL_nil ?_
  refine JX_seq ?_
  refine J_seq ?_
  refine J_seq ?_
  refine J_reg ?_
  refine JL_q (q_assign) (k := ?_)
  refine JL_nil ?_
  refine JX_seq ?_
  refine J_block ?_
  refine J_loop2 (σ1 := Nat) (σ2 := Nat) (fun n_2 k_1 => (B1_4 ++ (B1_3 ++ (B1_2 ++ (B1_1 ++ []))))) (fun n_2 k_1 => [(3, (Value.int .i64 (now))), (4, (Value.int .i64 (overlap))), (5, (Value.int .i64 (span))), (6, (Value.int .i64 (at_))), (14, (Value.bool (false))), (15, (Value.bool (cShown))), (17, (Value.int .i64 (((cRot (cFew l) (cCut a) now overlap span).2.1)))), (20, (Value.int .i64 (((cRot ((cRot (cFew l) (cCut a) now overlap span).1) (cCut b) now overlap span).2.1)))), (22, (Value.slice (a1_4) ((cHolding ((cRot ((cRot (cFew l) (cCut a) now overlap span).1) (cCut b) now overlap span).1) at_).length) (c1_4))), (23, (Value.int .i64 (((k_1 : Nat) : Int))))]) (fun n_2 k_1 => ((cHolding ((cRot ((cRot (cFew l) (cCut a) now overlap span).1) (cCut b) now overlap span).1) at_).length) - k_1 < n_2 ∧ Is (lCredTwice_l0 l a b now overlap span at_ (((cHolding ((cRot ((cRot (cFew l) (cCut a) now overlap span).1) (cCut b) now overlap span).1) at_).length) + 1) 0) (lCredTwice_l0 l a b now overlap span at_ n_2 k_1)) (fun n_2 k_1 => n_2) (((cHolding ((cRot ((cRot (cFew l) (cCut a) now overlap span).1) (cCut b) now overlap span).1) at_).length) + 1) 0 ?_ (by repeat (first | exact SubE.nil | refine SubE.cons rfl ?_)) (List.Perm.refl _) ?_
  · exact ⟨Nat.lt_succ_self _, Is.refl _⟩
  · rintro (_ | n_2) k_1 ⟨hm4, hF3⟩
    · omega
    refine J_seq ?_
    refine J_seq ?_
    refine J_reg ?_
    refine JL_q (q_move) (k := ?_)
    refine JL_q (q_move) (k := ?_)
    refine JL_q (q_lenS Tryz.runUnderlying22) (k := ?_)
    refine JL_q (q_lss) (k := ?_)
    refine JL_nil ?_
    refine JX_seq ?_
    refine J_dec rfl (fun hq4 => ?_) (fun hq4 => ?_)
    · refine J_skip ?_
      refine JX_seq ?_
      refine J_seq ?_
      refine J_block ?_
      refine J_seq ?_
      refine J_reg ?_
      refine JL_q (q_move) (k := ?_)
      refine JL_q (q_move) (k := ?_)
      refine JL_q (q_idx (n := (cHolding ((cRot ((cRot (cFew l) (cCut a) now overlap span).1) (cCut b) now overlap span).1) at_).length) Tryz.runUnderlying22 Tryz.sizeOf37 k_1 (ho1_4.slj eCred_ok) (gD (by first | omega | (simp only [List.length_set]; omega) | (simp only [List.length_append, List.length_take, List.length_drop, List.length_set, List.length_replicate, List.length_cons, List.length_nil, List.length_map, toS_length, toI_length]; omega))) (by first | rfl | simp)) (k := ?_)
      refine JL_q (q_fldE FO_37_0) (k := ?_)
      refine JL_q (q_loadE Tryz.isAgg3 k_1 0 (ho1_4.slj eCred_ok) (gD (by first | omega | (simp only [List.length_set]; omega) | (simp only [List.length_append, List.length_take, List.length_drop, List.length_set, List.length_replicate, List.length_cons, List.length_nil, List.length_map, toS_length, toI_length]; omega)))) (k := ?_)
      refine JL_q (q_move) (k := ?_)
      refine JL_q (q_neq) (k := ?_)
      refine JL_q (q_move) (k := ?_)
      refine JL_dec 79 rfl (fun hq5 => ?_) (fun hq5 => ?_)
      rotate_left
      · refine JL_skips 5 rfl ?_
        refine JL_q (q_pickF) (k := ?_)
        refine JL_nil ?_
        refine JX_seq ?_
        refine J_false rfl ?_
        refine J_skip ?_
        refine JX_block ?_
        refine JX_seq ?_
        refine J_reg ?_
        refine JL_q (q_move) (k := ?_)
        refine JL_q (q_add) (k := ?_)
        refine JL_q (q_assign) (k := ?_)
        refine JL_nil ?_
        exact JX_inv2 n_2 (k_1 + 1) ⟨by omega, ((hF3.pos hq4).neg hq5)⟩ (Nat.lt_succ_self _) (by repeat (first | exact SubE.nil | refine SubE.cons rfl ?_)) (List.Perm.refl _)
      refine JL_qg (q_move) (k := ?_)
      refine JL_qg (q_move) (k := ?_)
      refine JL_qg (q_move) (k := ?_)
      refine JL_qg (q_add) (k := ?_)
      refine JL_qg (q_geq) (k := ?_)
      refine JL_q (q_pickT) (k := ?_)
      refine JL_nil ?_
      refine JX_seq ?_
      refine J_dec rfl (fun hq6 => ?_) (fun hq6 => ?_)
      rotate_left
      · refine J_skip ?_
        refine JX_block ?_
        refine JX_seq ?_
        refine J_reg ?_
        refine JL_q (q_move) (k := ?_)
        refine JL_q (q_add) (k := ?_)
        refine JL_q (q_assign) (k := ?_)
        refine JL_nil ?_
        exact JX_inv2 n_2 (k_1 + 1) ⟨by omega, (((hF3.pos hq4).pos hq5).neg hq6)⟩ (Nat.lt_succ_self _) (by repeat (first | exact SubE.nil | refine SubE.cons rfl ?_)) (List.Perm.refl _)
      refine J_seq ?_
      refine J_reg ?_
      refine JL_q (q_assign) (k := ?_)
      refine JL_nil ?_
      refine JX_seq ?_
      refine J_ret ?_
      refine JX_block_ret ?_
      refine JX_seq_ret ?_
      refine JX_inv_ret ?_
      refine JX_block_ret ?_
      refine JX_seq_ret ?_
      refine JX_ret Tryz.results7 (Res.tmp rfl Res.nil) (fun w1 hw1 => ?_)
      exact ⟨(by rw [(((((hF.neg hq1).neg hq2).neg hq3).er1 (((hF3.pos hq4).pos hq5).pos hq6))).eq] <;> first | rfl | (simp only [List.length_set] <;> rfl)), hw1.ext_out⟩
    refine J_exit ?_
    refine JX_seq_exit ?_
    refine JX_inv_exit ?_
    refine JX_block_hit ?_
    refine JX_seq ?_
    refine J_seq ?_
    refine J_reg ?_
    refine JL_q (q_move) (k := ?_)
    refine JL_q (q_move) (k := ?_)
    refine JL_bool 87 rfl (fun hq7 => ?_) (fun hq7 => ?_)
    rotate_left
    · refine JL_skips 4 rfl ?_
      refine JL_q (q_pickF) (k := ?_)
      refine JL_q (q_move) (k := ?_)
      refine JL_skips 9 rfl ?_
      refine JL_q (q_pickF) (k := ?_)
      refine JL_q (q_move) (k := ?_)
      refine JL_skips 16 rfl ?_
      refine JL_q (q_pickF) (k := ?_)
      refine JL_q (q_assign) (k := ?_)
      refine JL_nil ?_
      refine JX_seq ?_
      refine J_ret ?_
      refine JX_ret Tryz.results7 (Res.tmp rfl Res.nil) (fun w1 hw1 => ?_)
      exact ⟨(by rw [((((((hF.neg hq1).neg hq2).neg hq3).ok1 (hF3.neg hq4)).f hq7)).eq] <;> first | rfl | (simp only [List.length_set] <;> rfl)), hw1.ext_out⟩
    refine JL_qg (q_move) (k := ?_)
    refine JL_qg (q_move) (k := ?_)
    refine JL_qg (q_add) (k := ?_)
    refine JL_qg (q_eql) (k := ?_)
    refine JL_q (q_pickT) (k := ?_)
    refine JL_q (q_move) (k := ?_)
    refine JL_dec 93 rfl (fun hq8 => ?_) (fun hq8 => ?_)
    rotate_left
    · refine JL_skips 9 rfl ?_
      refine JL_q (q_pickF) (k := ?_)
      refine JL_q (q_move) (k := ?_)
      refine JL_skips 16 rfl ?_
      refine JL_q (q_pickF) (k := ?_)
      refine JL_q (q_assign) (k := ?_)
      refine JL_nil ?_
      refine JX_seq ?_
      refine J_ret ?_
      refine JX_ret Tryz.results7 (Res.tmp rfl Res.nil) (fun w1 hw1 => ?_)
      exact ⟨(by rw [(((((((hF.neg hq1).neg hq2).neg hq3).ok1 (hF3.neg hq4)).t hq7).neg hq8)).eq] <;> first | rfl | (simp only [List.length_set] <;> rfl)), hw1.ext_out⟩
    refine JL_qg (q_move) (k := ?_)
    refine JL_qg (q_move) (k := ?_)
    refine JL_vg (args := [(Value.slice (a1_4) ((cHolding ((cRot ((cRot (cFew l) (cCut a) now overlap span).1) (cCut b) now overlap span).1) at_).length) (c1_4)), (Value.int .i64 (((cRot ((cRot (cFew l) (cCut a) now overlap span).1) (cCut b) now overlap span).2.1)))]) (c_callA Tryz.call18) (fun w1 hw1 => cInL_ok w1 (l := (cHolding ((cRot ((cRot (cFew l) (cCut a) now overlap span).1) (cCut b) now overlap span).1) at_)) (id := ((cRot ((cRot (cFew l) (cCut a) now overlap span).1) (cCut b) now overlap span).2.1)) (h_l := (ho1_4.slj eCred_ok) w1 hw1) (n_l := by first | omega | (simp only [List.length_append, List.length_take, List.length_drop, List.length_set, List.length_replicate, List.length_cons, List.length_nil, List.length_map, toS_length, toI_length]; omega) | (simp only [List.length_append, List.length_take, List.length_drop, List.length_set, List.length_replicate, List.length_cons, List.length_nil, List.length_map, toS_length, toI_length] at *; omega) | decide)) (k := ?_)
    refine JL_qg (q_move) (k := ?_)
    refine JL_qg (q_move) (k := ?_)
    refine JL_qg (q_move) (k := ?_)
    refine JL_qg (q_add) (k := ?_)
    refine JL_qg (q_lss) (k := ?_)
    refine JL_qg (q_eqlB Tryz.runUnderlying4) (k := ?_)
    refine JL_q (q_pickT) (k := ?_)
    refine JL_q (q_move) (k := ?_)
    refine JL_bool 104 rfl (fun hq9 => ?_) (fun hq9 => ?_)
    rotate_left
    · refine JL_skips 16 rfl ?_
      refine JL_q (q_pickF) (k := ?_)
      refine JL_q (q_assign) (k := ?_)
      refine JL_nil ?_
      refine JX_seq ?_
      refine J_ret ?_
      refine JX_ret Tryz.results7 (Res.tmp rfl Res.nil) (fun w1 hw1 => ?_)
      exact ⟨(by rw [((((((((hF.neg hq1).neg hq2).neg hq3).ok1 (hF3.neg hq4)).t hq7).pos hq8).f hq9)).eq] <;> first | rfl | (simp only [List.length_set] <;> rfl)), hw1.ext_out⟩
    refine JL_qg (q_move) (k := ?_)
    refine JL_qg (q_move) (k := ?_)
    refine JL_vg (args := [(Value.slice (a1_4) ((cHolding ((cRot ((cRot (cFew l) (cCut a) now overlap span).1) (cCut b) now overlap span).1) at_).length) (c1_4)), (Value.int .i64 (((cRot (cFew l) (cCut a) now overlap span).2.1)))]) (c_callA Tryz.call18) (fun w1 hw1 => cInL_ok w1 (l := (cHolding ((cRot ((cRot (cFew l) (cCut a) now overlap span).1) (cCut b) now overlap span).1) at_)) (id := ((cRot (cFew l) (cCut a) now overlap span).2.1)) (h_l := (ho1_4.slj eCred_ok) w1 hw1) (n_l := by first | omega | (simp only [List.length_append, List.length_take, List.length_drop, List.length_set, List.length_replicate, List.length_cons, List.length_nil, List.length_map, toS_length, toI_length]; omega) | (simp only [List.length_append, List.length_take, List.length_drop, List.length_set, List.length_replicate, List.length_cons, List.length_nil, List.length_map, toS_length, toI_length] at *; omega) | decide)) (k := ?_)
    refine JL_qg (q_move) (k := ?_)
    refine JL_qg (q_move) (k := ?_)
    refine JL_qg (q_move) (k := ?_)
    refine JL_qg (q_add) (k := ?_)
    refine JL_qg (q_lss) (k := ?_)
    refine JL_qg (q_move) (k := ?_)
    refine JL_dec 113 rfl (fun hq10 => ?_) (fun hq10 => ?_)
    rotate_left
    · refine JL_skips 5 rfl ?_
      refine JL_qg (q_pickF) (k := ?_)
      refine JL_qg (q_eqlB Tryz.runUnderlying4) (k := ?_)
      refine JL_q (q_pickT) (k := ?_)
      refine JL_q (q_assign) (k := ?_)
      refine JL_nil ?_
      refine JX_seq ?_
      refine J_ret ?_
      refine JX_ret Tryz.results7 (Res.tmp rfl Res.nil) (fun w1 hw1 => ?_)
      exact ⟨(by rw [(((((((((hF.neg hq1).neg hq2).neg hq3).ok1 (hF3.neg hq4)).t hq7).pos hq8).t hq9).neg hq10)).eq] <;> first | rfl | (simp only [List.length_set] <;> rfl)), hw1.ext_out⟩
    refine JL_qg (q_move) (k := ?_)
    refine JL_qg (q_move) (k := ?_)
    refine JL_qg (q_move) (k := ?_)
    refine JL_qg (q_add) (k := ?_)
    refine JL_qg (q_lss) (k := ?_)
    refine JL_qg (q_pickT) (k := ?_)
    refine JL_qg (q_eqlB Tryz.runUnderlying4) (k := ?_)
    refine JL_q (q_pickT) (k := ?_)
    refine JL_q (q_assign) (k := ?_)
    refine JL_nil ?_
    refine JX_seq ?_
    refine J_ret ?_
    refine JX_ret Tryz.results7 (Res.tmp rfl Res.nil) (fun w1 hw1 => ?_)
    exact ⟨(by rw [(((((((((hF.neg hq1).neg hq2).neg hq3).ok1 (hF3.neg hq4)).t hq7).pos hq8).t hq9).pos hq10)).eq] <;> first | rfl | (simp only [List.length_set] <;> rfl)), hw1.ext_out⟩

end Go.Proofs.YtcmondhpiahchaaGreatDoor.Jd
