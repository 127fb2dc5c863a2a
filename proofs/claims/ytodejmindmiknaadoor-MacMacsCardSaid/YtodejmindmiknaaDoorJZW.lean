/- Part of the proofs of this seat: walks and plain facts. No condition. -/
import Derived.Test.YtodejmindmiknaaDoorProg
import Derived.Test.YtodejmindmiknaaDoorJZM
import Derived.Test.YtodejmindmiknaaDoorJZN
import Derived.Test.YtodejmindmiknaaDoorJYW
import Derived.Test.YtodejmindmiknaaDoorJYO
namespace Go.Proofs.YtodejmindmiknaaDoor.Jd
open Go.Proofs
open Go.RowKit (Below)
set_option maxRecDepth 100000
set_option linter.unusedVariables false
set_option linter.unusedSimpArgs false

theorem mShown_t (w : World) {ea0 : Addr} {ea1 : Addr} (hG : Gl w) (hE : Er w ea0 ea1) : Val Tryd.prog 8 [] w (Value.bool (true)) := by
  have h := mShown_ok w hG hE
  rw [mShown_true] at h
  exact h

theorem lmCut_ok (w : World) {s : Str} : Val Tryd.prog 9 [(Value.string (bs s))] w (Value.string (bs (lmCut s))) := by
  have hF := Is.refl (lmCut s)
  refine enter Tryd.func9 Tryd.ntmps9 (h := ?_)
  refine J_seq ?_
  refine J_reg ?_
  refine JL_q (q_assign) (k := ?_)
  refine JL_nil ?_
  refine JX_seq ?_
  refine J_seq ?_
  refine J_reg ?_
  refine JL_q (q_move) (k := ?_)
  refine JL_q (q_move) (k := ?_)
  refine JL_q (q_lenT Tryd.runUnderlying9) (k := ?_)
  refine JL_q (q_min) (k := ?_)
  refine JL_q (q_subThi (s := s) (min s.length 200) Tryd.runUnderlying9 (by omega) (hj := by split <;> omega)) (k := ?_)
  have hsb1 : (s.take (min s.length 200)).length = (min s.length 200) := by first | omega | (simp only [List.length_take, List.length_drop, List.length_cons, List.length_nil] <;> omega)
  refine JL_q (q_assign) (k := ?_)
  refine JL_nil ?_
  refine JX_seq ?_
  refine J_ret ?_
  refine JX_ret Tryd.results9 (Res.tmp rfl Res.nil) (fun w1 hw1 => ?_)
  exact ⟨(by rw [(hF).eq] <;> first | rfl | (simp only [List.length_set] <;> rfl)), hw1.ext_out⟩

theorem lMacMacs_ok (w : World) {ea0 : Addr} {ea1 : Addr} {key : Str} {s : Str} {t : Str} (hG : Gl w) (hE : Er w ea0 ea1) : Val Tryd.prog 3 [(Value.string (bs key)), (Value.string (bs s)), (Value.string (bs t))] w (Value.bool ((lMacMacs key s t))) := by
  have hF := Is.refl (lMacMacs key s t)
  refine enter Tryd.func3 Tryd.ntmps3 (h := ?_)
  refine J_seq ?_
  refine J_reg ?_
  refine JL_q (q_assign) (k := ?_)
  refine JL_nil ?_
  refine JX_seq ?_
  refine J_seq ?_
  refine J_reg ?_
  refine JL_v (args := []) (c_callA Tryd.call8) (fun w1 hw1 => mShown_t w1 (hG := hG.ext hw1.ext_out) (hE := hE.ext hw1.ext_out)) (k := ?_)
  refine JL_q (q_assign) (k := ?_)
  refine JL_nil ?_
  refine JX_seq ?_
  refine J_seq ?_
  refine J_reg ?_
  refine JL_q (q_move) (k := ?_)
  refine JL_v (args := [(Value.string (bs key))]) (c_callA Tryd.call9) (fun w1 hw1 => lmCut_ok w1 (s := key)) (k := ?_)
  have hcu_74872 := lmCut_len key
  refine JL_q (q_assign) (k := ?_)
  refine JL_nil ?_
  refine JX_seq ?_
  refine J_seq ?_
  refine J_reg ?_
  refine JL_q (q_move) (k := ?_)
  refine JL_v (args := [(Value.string (bs s))]) (c_callA Tryd.call9) (fun w1 hw1 => lmCut_ok w1 (s := s)) (k := ?_)
  have hcu_65227 := lmCut_len s
  refine JL_q (q_assign) (k := ?_)
  refine JL_nil ?_
  refine JX_seq ?_
  refine J_seq ?_
  refine J_reg ?_
  refine JL_q (q_move) (k := ?_)
  refine JL_v (args := [(Value.string (bs t))]) (c_callA Tryd.call9) (fun w1 hw1 => lmCut_ok w1 (s := t)) (k := ?_)
  have hcu_35468 := lmCut_len t
  refine JL_q (q_assign) (k := ?_)
  refine JL_nil ?_
  refine JX_seq ?_
  refine J_seq ?_
  refine J_reg ?_
  refine JL_q (q_move) (k := ?_)
  refine JL_q (q_move) (k := ?_)
  refine JL_v (args := [(Value.string (bs (lmCut key))), (Value.string (bs (lmCut s)))]) (c_callA Tryd.call10) (fun w1 hw1 => mMacOf_ok w1 (key := (lmCut key)) (s := (lmCut s)) (n_s := by first | omega | (simp only [List.length_append, List.length_take, List.length_drop, List.length_set, List.length_replicate, List.length_cons, List.length_nil, List.length_map, toS_length, toI_length]; omega) | (simp only [List.length_append, List.length_take, List.length_drop, List.length_set, List.length_replicate, List.length_cons, List.length_nil, List.length_map, toS_length, toI_length] at *; omega) | decide) (hG := hG.ext hw1.ext_out) (hE := hE.ext hw1.ext_out)) (k := ?_)
  refine JL_q (q_move) (k := ?_)
  refine JL_q (q_ext) (k := ?_)
  refine JL_q (q_ext) (k := ?_)
  refine JL_q (q_assign) (k := ?_)
  refine JL_q (q_assign) (k := ?_)
  refine JL_nil ?_
  refine JX_seq ?_
  refine J_seq ?_
  refine J_reg ?_
  refine JL_q (q_move) (k := ?_)
  refine JL_q (q_move) (k := ?_)
  refine JL_v (args := [(Value.string (bs (lmCut key))), (Value.string (bs (lmCut s)))]) (c_callA Tryd.call11) (fun w1 hw1 => rMacOf_ok w1 (key := (lmCut key)) (s := (lmCut s)) (n_key := by first | omega | (simp only [List.length_append, List.length_take, List.length_drop, List.length_set, List.length_replicate, List.length_cons, List.length_nil, List.length_map, toS_length, toI_length]; omega) | (simp only [List.length_append, List.length_take, List.length_drop, List.length_set, List.length_replicate, List.length_cons, List.length_nil, List.length_map, toS_length, toI_length] at *; omega) | decide) (n_s := by first | omega | (simp only [List.length_append, List.length_take, List.length_drop, List.length_set, List.length_replicate, List.length_cons, List.length_nil, List.length_map, toS_length, toI_length]; omega) | (simp only [List.length_append, List.length_take, List.length_drop, List.length_set, List.length_replicate, List.length_cons, List.length_nil, List.length_map, toS_length, toI_length] at *; omega) | decide) (hG := hG.ext hw1.ext_out)) (k := ?_)
  refine JL_q (q_move) (k := ?_)
  refine JL_q (q_ext) (k := ?_)
  refine JL_q (q_ext) (k := ?_)
  refine JL_q (q_assign) (k := ?_)
  refine JL_q (q_assign) (k := ?_)
  refine JL_nil ?_
  refine JX_seq ?_
  refine J_seq ?_
  refine J_reg ?_
  refine JL_q (q_move) (k := ?_)
  refine JL_q (q_move) (k := ?_)
  refine JL_qg (q_move) (k := ?_)
  refine JL_vg (args := [(Value.string (bs (lmCut key)))]) (c_callA Tryd.call12) (fun w1 hw1 => mRight_ok w1 (key := (lmCut key))) (k := ?_)
  refine JL_qg (q_move) (k := ?_)
  refine JL_vg (args := [(Value.string (bs (lmCut key)))]) (c_callA Tryd.call13) (fun w1 hw1 => rmRight_ok w1 (key := (lmCut key))) (k := ?_)
  refine JL_qg (q_eqlB Tryd.runUnderlying4) (k := ?_)
  refine JL_q (q_pickT) (k := ?_)
  refine JL_q (q_move) (k := ?_)
  refine JL_bool 39 rfl (fun hq1 => ?_) (fun hq1 => ?_)
  rotate_left
  · refine JL_skips 3 rfl ?_
    refine JL_q (q_pickF) (k := ?_)
    refine JL_q (q_move) (k := ?_)
    refine JL_skips 3 rfl ?_
    refine JL_q (q_pickF) (k := ?_)
    refine JL_q (q_move) (k := ?_)
    refine JL_skips 7 rfl ?_
    refine JL_q (q_pickF) (k := ?_)
    refine JL_q (q_move) (k := ?_)
    refine JL_skips 3 rfl ?_
    refine JL_q (q_pickF) (k := ?_)
    refine JL_q (q_assign) (k := ?_)
    refine JL_nil ?_
    refine JX_seq ?_
    refine J_ret ?_
    refine JX_ret Tryd.results3 (Res.tmp rfl Res.nil) (fun w1 hw1 => ?_)
    exact ⟨(by rw [((hF.f hq1)).eq] <;> first | rfl | (simp only [List.length_set] <;> rfl)), hw1.ext_out⟩
  refine JL_qg (q_move) (k := ?_)
  refine JL_qg (q_move) (k := ?_)
  refine JL_qg (q_eqT) (k := ?_)
  refine JL_q (q_pickT) (k := ?_)
  refine JL_q (q_move) (k := ?_)
  refine JL_dec 44 rfl (fun hq2 => ?_) (fun hq2 => ?_)
  rotate_left
  · refine JL_skips 3 rfl ?_
    refine JL_q (q_pickF) (k := ?_)
    refine JL_q (q_move) (k := ?_)
    refine JL_skips 7 rfl ?_
    refine JL_q (q_pickF) (k := ?_)
    refine JL_q (q_move) (k := ?_)
    refine JL_skips 3 rfl ?_
    refine JL_q (q_pickF) (k := ?_)
    refine JL_q (q_assign) (k := ?_)
    refine JL_nil ?_
    refine JX_seq ?_
    refine J_ret ?_
    refine JX_ret Tryd.results3 (Res.tmp rfl Res.nil) (fun w1 hw1 => ?_)
    exact ⟨(by rw [(((hF.t hq1).neg hq2)).eq] <;> first | rfl | (simp only [List.length_set] <;> rfl)), hw1.ext_out⟩
  refine JL_qg (q_move) (k := ?_)
  refine JL_qg (q_move) (k := ?_)
  refine JL_qg (q_eql) (k := ?_)
  refine JL_q (q_pickT) (k := ?_)
  refine JL_q (q_move) (k := ?_)
  refine JL_dec 49 rfl (fun hq3 => ?_) (fun hq3 => ?_)
  rotate_left
  · refine JL_skips 7 rfl ?_
    refine JL_q (q_pickF) (k := ?_)
    refine JL_q (q_move) (k := ?_)
    refine JL_skips 3 rfl ?_
    refine JL_q (q_pickF) (k := ?_)
    refine JL_q (q_assign) (k := ?_)
    refine JL_nil ?_
    refine JX_seq ?_
    refine J_ret ?_
    refine JX_ret Tryd.results3 (Res.tmp rfl Res.nil) (fun w1 hw1 => ?_)
    exact ⟨(by rw [((((hF.t hq1).pos hq2).neg hq3)).eq] <;> first | rfl | (simp only [List.length_set] <;> rfl)), hw1.ext_out⟩
  refine JL_qg (q_move) (k := ?_)
  refine JL_qg (q_move) (k := ?_)
  refine JL_vg (args := [(Value.string (bs (lmCut s))), (Value.string (bs (lmCut t)))]) (c_callA Tryd.call14) (fun w1 hw1 => mSame_ok w1 (a := (lmCut s)) (b := (lmCut t)) (n_a := by first | omega | (simp only [List.length_append, List.length_take, List.length_drop, List.length_set, List.length_replicate, List.length_cons, List.length_nil, List.length_map, toS_length, toI_length]; omega) | (simp only [List.length_append, List.length_take, List.length_drop, List.length_set, List.length_replicate, List.length_cons, List.length_nil, List.length_map, toS_length, toI_length] at *; omega) | decide) (n_b := by first | omega | (simp only [List.length_append, List.length_take, List.length_drop, List.length_set, List.length_replicate, List.length_cons, List.length_nil, List.length_map, toS_length, toI_length]; omega) | (simp only [List.length_append, List.length_take, List.length_drop, List.length_set, List.length_replicate, List.length_cons, List.length_nil, List.length_map, toS_length, toI_length] at *; omega) | decide)) (k := ?_)
  refine JL_qg (q_move) (k := ?_)
  refine JL_qg (q_move) (k := ?_)
  refine JL_qg (q_eqT) (k := ?_)
  refine JL_qg (q_eqlB Tryd.runUnderlying4) (k := ?_)
  refine JL_q (q_pickT) (k := ?_)
  refine JL_q (q_move) (k := ?_)
  refine JL_bool 58 rfl (fun hq4 => ?_) (fun hq4 => ?_)
  rotate_left
  · refine JL_skips 3 rfl ?_
    refine JL_q (q_pickF) (k := ?_)
    refine JL_q (q_assign) (k := ?_)
    refine JL_nil ?_
    refine JX_seq ?_
    refine J_ret ?_
    refine JX_ret Tryd.results3 (Res.tmp rfl Res.nil) (fun w1 hw1 => ?_)
    exact ⟨(by rw [(((((hF.t hq1).pos hq2).pos hq3).f hq4)).eq] <;> first | rfl | (simp only [List.length_set] <;> rfl)), hw1.ext_out⟩
  refine JL_qg (q_move) (k := ?_)
  refine JL_qg (q_move) (k := ?_)
  refine JL_vg (args := [(Value.string (bs (lmCut s))), (Value.string (bs (lmCut s)))]) (c_callA Tryd.call14) (fun w1 hw1 => mSame_ok w1 (a := (lmCut s)) (b := (lmCut s)) (n_a := by first | omega | (simp only [List.length_append, List.length_take, List.length_drop, List.length_set, List.length_replicate, List.length_cons, List.length_nil, List.length_map, toS_length, toI_length]; omega) | (simp only [List.length_append, List.length_take, List.length_drop, List.length_set, List.length_replicate, List.length_cons, List.length_nil, List.length_map, toS_length, toI_length] at *; omega) | decide) (n_b := by first | omega | (simp only [List.length_append, List.length_take, List.length_drop, List.length_set, List.length_replicate, List.length_cons, List.length_nil, List.length_map, toS_length, toI_length]; omega) | (simp only [List.length_append, List.length_take, List.length_drop, List.length_set, List.length_replicate, List.length_cons, List.length_nil, List.length_map, toS_length, toI_length] at *; omega) | decide)) (k := ?_)
  refine JL_q (q_pickT) (k := ?_)
  refine JL_q (q_assign) (k := ?_)
  refine JL_nil ?_
  refine JX_seq ?_
  refine J_ret ?_
  refine JX_ret Tryd.results3 (Res.tmp rfl Res.nil) (fun w1 hw1 => ?_)
  exact ⟨(by rw [(((((hF.t hq1).pos hq2).pos hq3).t hq4)).eq] <;> first | rfl | (simp only [List.length_set] <;> rfl)), hw1.ext_out⟩

theorem lMacAsks_ok (w : World) {ea0 : Addr} {ea1 : Addr} {a : Int} {b : Int} {key : Str} {challenge : Str} {name : Str} (i_a : -9223372036854775808 ≤ a ∧ a ≤ 9223372036854775807) (i_b : -9223372036854775808 ≤ b ∧ b ≤ 9223372036854775807) (hG : Gl w) (hE : Er w ea0 ea1) : Val Tryd.prog 4 [(Value.int .i64 (a)), (Value.int .i64 (b)), (Value.string (bs key)), (Value.string (bs challenge)), (Value.string (bs name))] w (Value.bool ((lMacAsks a b key challenge name))) := by
  have hF := Is.refl (lMacAsks a b key challenge name)
  refine enter Tryd.func4 Tryd.ntmps4 (h := ?_)
  refine J_seq ?_
  refine J_reg ?_
  refine JL_q (q_assign) (k := ?_)
  refine JL_nil ?_
  refine JX_seq ?_
  refine J_seq ?_
  refine J_reg ?_
  refine JL_v (args := []) (c_callA Tryd.call8) (fun w1 hw1 => mShown_t w1 (hG := hG.ext hw1.ext_out) (hE := hE.ext hw1.ext_out)) (k := ?_)
  refine JL_q (q_assign) (k := ?_)
  refine JL_nil ?_
  refine JX_seq ?_
  refine J_seq ?_
  refine J_reg ?_
  refine JL_q (q_move) (k := ?_)
  refine JL_v (args := [(Value.string (bs key))]) (c_callA Tryd.call9) (fun w1 hw1 => lmCut_ok w1 (s := key)) (k := ?_)
  have hcu_74872 := lmCut_len key
  refine JL_q (q_assign) (k := ?_)
  refine JL_nil ?_
  refine JX_seq ?_
  refine J_seq ?_
  refine J_reg ?_
  refine JL_q (q_move) (k := ?_)
  refine JL_v (args := [(Value.string (bs challenge))]) (c_callA Tryd.call9) (fun w1 hw1 => lmCut_ok w1 (s := challenge)) (k := ?_)
  have hcu_76964 := lmCut_len challenge
  refine JL_q (q_assign) (k := ?_)
  refine JL_nil ?_
  refine JX_seq ?_
  refine J_seq ?_
  refine J_reg ?_
  refine JL_q (q_move) (k := ?_)
  refine JL_v (args := [(Value.string (bs name))]) (c_callA Tryd.call9) (fun w1 hw1 => lmCut_ok w1 (s := name)) (k := ?_)
  have hcu_51289 := lmCut_len name
  refine JL_q (q_assign) (k := ?_)
  refine JL_nil ?_
  refine JX_seq ?_
  refine J_seq ?_
  refine J_reg ?_
  refine JL_q (q_move) (k := ?_)
  refine JL_q (q_move) (k := ?_)
  refine JL_v (args := [(Value.int .i64 (a)), (Value.int .i64 (b))]) (c_callA Tryd.call15) (fun w1 hw1 => mChal_ok w1 (a := a) (b := b) (i_a := by first | omega | (simp only [List.length_append, List.length_take, List.length_drop, List.length_set, List.length_replicate, List.length_cons, List.length_nil, List.length_map, toS_length, toI_length]; omega) | (simp only [List.length_append, List.length_take, List.length_drop, List.length_set, List.length_replicate, List.length_cons, List.length_nil, List.length_map, toS_length, toI_length] at *; omega) | decide) (i_b := by first | omega | (simp only [List.length_append, List.length_take, List.length_drop, List.length_set, List.length_replicate, List.length_cons, List.length_nil, List.length_map, toS_length, toI_length]; omega) | (simp only [List.length_append, List.length_take, List.length_drop, List.length_set, List.length_replicate, List.length_cons, List.length_nil, List.length_map, toS_length, toI_length] at *; omega) | decide) (hG := hG.ext hw1.ext_out) (hE := hE.ext hw1.ext_out)) (k := ?_)
  have hch_58825 := mChal_len a b
  refine JL_q (q_move) (k := ?_)
  refine JL_q (q_ext) (k := ?_)
  refine JL_q (q_ext) (k := ?_)
  refine JL_q (q_assign) (k := ?_)
  refine JL_q (q_assign) (k := ?_)
  refine JL_nil ?_
  refine JX_seq ?_
  refine J_seq ?_
  refine J_reg ?_
  refine JL_q (q_move) (k := ?_)
  refine JL_q (q_move) (k := ?_)
  refine JL_v (args := [(Value.int .i64 (a)), (Value.int .i64 (b))]) (c_callA Tryd.call16) (fun w1 hw1 => rChal_ok w1 (a := a) (b := b) (hG := hG.ext hw1.ext_out)) (k := ?_)
  refine JL_q (q_move) (k := ?_)
  refine JL_q (q_ext) (k := ?_)
  refine JL_q (q_ext) (k := ?_)
  refine JL_q (q_assign) (k := ?_)
  refine JL_q (q_assign) (k := ?_)
  refine JL_nil ?_
  refine JX_seq ?_
  refine J_seq ?_
  refine J_reg ?_
  refine JL_q (q_move) (k := ?_)
  refine JL_q (q_move) (k := ?_)
  refine JL_q (q_move) (k := ?_)
  refine JL_v (args := [(Value.string (bs (lmCut key))), (Value.string (bs (lmCut challenge))), (Value.string (bs (lmCut name)))]) (c_callA Tryd.call17) (fun w1 hw1 => mAns_ok w1 (key := (lmCut key)) (challenge := (lmCut challenge)) (name := (lmCut name)) (n_name := by first | omega | (simp only [List.length_append, List.length_take, List.length_drop, List.length_set, List.length_replicate, List.length_cons, List.length_nil, List.length_map, toS_length, toI_length]; omega) | (simp only [List.length_append, List.length_take, List.length_drop, List.length_set, List.length_replicate, List.length_cons, List.length_nil, List.length_map, toS_length, toI_length] at *; omega) | decide) (hG := hG.ext hw1.ext_out) (hE := hE.ext hw1.ext_out)) (k := ?_)
  have han_76373 := mAns_len (lmCut key) (lmCut challenge) (lmCut name)
  refine JL_q (q_move) (k := ?_)
  refine JL_q (q_ext) (k := ?_)
  refine JL_q (q_ext) (k := ?_)
  refine JL_q (q_assign) (k := ?_)
  refine JL_q (q_assign) (k := ?_)
  refine JL_nil ?_
  refine JX_seq ?_
  refine J_seq ?_
  refine J_reg ?_
  refine JL_q (q_move) (k := ?_)
  refine JL_q (q_move) (k := ?_)
  refine JL_q (q_move) (k := ?_)
  refine JL_v (args := [(Value.string (bs (lmCut key))), (Value.string (bs (lmCut challenge))), (Value.string (bs (lmCut name)))]) (c_callA Tryd.call18) (fun w1 hw1 => rAns_ok w1 (key := (lmCut key)) (challenge := (lmCut challenge)) (name := (lmCut name)) (n_key := by first | omega | (simp only [List.length_append, List.length_take, List.length_drop, List.length_set, List.length_replicate, List.length_cons, List.length_nil, List.length_map, toS_length, toI_length]; omega) | (simp only [List.length_append, List.length_take, List.length_drop, List.length_set, List.length_replicate, List.length_cons, List.length_nil, List.length_map, toS_length, toI_length] at *; omega) | decide) (n_name := by first | omega | (simp only [List.length_append, List.length_take, List.length_drop, List.length_set, List.length_replicate, List.length_cons, List.length_nil, List.length_map, toS_length, toI_length]; omega) | (simp only [List.length_append, List.length_take, List.length_drop, List.length_set, List.length_replicate, List.length_cons, List.length_nil, List.length_map, toS_length, toI_length] at *; omega) | decide) (hG := hG.ext hw1.ext_out)) (k := ?_)
  refine JL_q (q_move) (k := ?_)
  refine JL_q (q_ext) (k := ?_)
  refine JL_q (q_ext) (k := ?_)
  refine JL_q (q_assign) (k := ?_)
  refine JL_q (q_assign) (k := ?_)
  refine JL_nil ?_
  refine JX_seq ?_
  refine J_seq ?_
  refine J_reg ?_
  refine JL_q (q_move) (k := ?_)
  refine JL_q (q_move) (k := ?_)
  refine JL_qg (q_move) (k := ?_)
  refine JL_qg (q_move) (k := ?_)
  refine JL_qg (q_eqT) (k := ?_)
  refine JL_q (q_pickT) (k := ?_)
  refine JL_q (q_move) (k := ?_)
  refine JL_dec 59 rfl (fun hq1 => ?_) (fun hq1 => ?_)
  rotate_left
  · refine JL_skips 3 rfl ?_
    refine JL_q (q_pickF) (k := ?_)
    refine JL_q (q_move) (k := ?_)
    refine JL_skips 3 rfl ?_
    refine JL_q (q_pickF) (k := ?_)
    refine JL_q (q_move) (k := ?_)
    refine JL_skips 3 rfl ?_
    refine JL_q (q_pickF) (k := ?_)
    refine JL_q (q_assign) (k := ?_)
    refine JL_nil ?_
    refine JX_seq ?_
    refine J_ret ?_
    refine JX_ret Tryd.results4 (Res.tmp rfl Res.nil) (fun w1 hw1 => ?_)
    exact ⟨(by rw [((hF.neg hq1)).eq] <;> first | rfl | (simp only [List.length_set] <;> rfl)), hw1.ext_out⟩
  refine JL_qg (q_move) (k := ?_)
  refine JL_qg (q_move) (k := ?_)
  refine JL_qg (q_eql) (k := ?_)
  refine JL_q (q_pickT) (k := ?_)
  refine JL_q (q_move) (k := ?_)
  refine JL_dec 64 rfl (fun hq2 => ?_) (fun hq2 => ?_)
  rotate_left
  · refine JL_skips 3 rfl ?_
    refine JL_q (q_pickF) (k := ?_)
    refine JL_q (q_move) (k := ?_)
    refine JL_skips 3 rfl ?_
    refine JL_q (q_pickF) (k := ?_)
    refine JL_q (q_assign) (k := ?_)
    refine JL_nil ?_
    refine JX_seq ?_
    refine J_ret ?_
    refine JX_ret Tryd.results4 (Res.tmp rfl Res.nil) (fun w1 hw1 => ?_)
    exact ⟨(by rw [(((hF.pos hq1).neg hq2)).eq] <;> first | rfl | (simp only [List.length_set] <;> rfl)), hw1.ext_out⟩
  refine JL_qg (q_move) (k := ?_)
  refine JL_qg (q_move) (k := ?_)
  refine JL_qg (q_eqT) (k := ?_)
  refine JL_q (q_pickT) (k := ?_)
  refine JL_q (q_move) (k := ?_)
  refine JL_dec 69 rfl (fun hq3 => ?_) (fun hq3 => ?_)
  rotate_left
  · refine JL_skips 3 rfl ?_
    refine JL_q (q_pickF) (k := ?_)
    refine JL_q (q_assign) (k := ?_)
    refine JL_nil ?_
    refine JX_seq ?_
    refine J_ret ?_
    refine JX_ret Tryd.results4 (Res.tmp rfl Res.nil) (fun w1 hw1 => ?_)
    exact ⟨(by rw [((((hF.pos hq1).pos hq2).neg hq3)).eq] <;> first | rfl | (simp only [List.length_set] <;> rfl)), hw1.ext_out⟩
  refine JL_qg (q_move) (k := ?_)
  refine JL_qg (q_move) (k := ?_)
  refine JL_qg (q_eql) (k := ?_)
  refine JL_q (q_pickT) (k := ?_)
  refine JL_q (q_assign) (k := ?_)
  refine JL_nil ?_
  refine JX_seq ?_
  refine J_ret ?_
  refine JX_ret Tryd.results4 (Res.tmp rfl Res.nil) (fun w1 hw1 => ?_)
  exact ⟨(by rw [((((hF.pos hq1).pos hq2).pos hq3)).eq] <;> first | rfl | (simp only [List.length_set] <;> rfl)), hw1.ext_out⟩

theorem lMacPads_ok (w : World) {ea0 : Addr} {ea1 : Addr} {key : Str} {s : Str} {n_ : Int} (hG : Gl w) (hE : Er w ea0 ea1) : Val Tryd.prog 5 [(Value.string (bs key)), (Value.string (bs s)), (Value.int .i64 (n_))] w (Value.bool ((lMacPads key s n_))) := by
  have hF := Is.refl (lMacPads key s n_)
  refine enter Tryd.func5 Tryd.ntmps5 (h := ?_)
  refine J_seq ?_
  refine J_reg ?_
  refine JL_q (q_assign) (k := ?_)
  refine JL_nil ?_
  refine JX_seq ?_
  refine J_seq ?_
  refine J_reg ?_
  refine JL_v (args := []) (c_callA Tryd.call8) (fun w1 hw1 => mShown_t w1 (hG := hG.ext hw1.ext_out) (hE := hE.ext hw1.ext_out)) (k := ?_)
  refine JL_q (q_assign) (k := ?_)
  refine JL_nil ?_
  refine JX_seq ?_
  refine J_seq ?_
  refine J_reg ?_
  refine JL_q (q_move) (k := ?_)
  refine JL_v (args := [(Value.string (bs key))]) (c_callA Tryd.call9) (fun w1 hw1 => lmCut_ok w1 (s := key)) (k := ?_)
  have hcu_74872 := lmCut_len key
  refine JL_q (q_assign) (k := ?_)
  refine JL_nil ?_
  refine JX_seq ?_
  refine J_seq ?_
  refine J_reg ?_
  refine JL_q (q_move) (k := ?_)
  refine JL_v (args := [(Value.string (bs s))]) (c_callA Tryd.call9) (fun w1 hw1 => lmCut_ok w1 (s := s)) (k := ?_)
  have hcu_65227 := lmCut_len s
  refine JL_q (q_assign) (k := ?_)
  refine JL_nil ?_
  refine JX_seq ?_
  refine J_seq ?_
  refine J_reg ?_
  refine JL_q (q_move) (k := ?_)
  refine JL_q (q_max) (k := ?_)
  refine JL_q (q_min) (k := ?_)
  refine JL_q (q_assign) (k := ?_)
  refine JL_nil ?_
  refine JX_seq ?_
  refine J_seq ?_
  refine J_reg ?_
  refine JL_q (q_move) (k := ?_)
  refine JL_q (q_move) (k := ?_)
  refine JL_v (args := [(Value.string (bs (lmCut key))), (Value.string (bs (lmCut s)))]) (c_callA Tryd.call10) (fun w1 hw1 => mMacOf_ok w1 (key := (lmCut key)) (s := (lmCut s)) (n_s := by first | omega | (simp only [List.length_append, List.length_take, List.length_drop, List.length_set, List.length_replicate, List.length_cons, List.length_nil, List.length_map, toS_length, toI_length]; omega) | (simp only [List.length_append, List.length_take, List.length_drop, List.length_set, List.length_replicate, List.length_cons, List.length_nil, List.length_map, toS_length, toI_length] at *; omega) | decide) (hG := hG.ext hw1.ext_out) (hE := hE.ext hw1.ext_out)) (k := ?_)
  refine JL_q (q_move) (k := ?_)
  refine JL_q (q_ext) (k := ?_)
  refine JL_q (q_ext) (k := ?_)
  refine JL_q (q_assign) (k := ?_)
  refine JL_q (q_assign) (k := ?_)
  refine JL_nil ?_
  refine JX_seq ?_
  refine J_seq ?_
  refine J_reg ?_
  refine JL_q (q_move) (k := ?_)
  refine JL_q (q_move) (k := ?_)
  have hbn : 0 ≤ (if 64 < (if n_ < 0 then 0 else n_) then 64 else (if n_ < 0 then 0 else n_)) ∧ (if 64 < (if n_ < 0 then 0 else n_) then 64 else (if n_ < 0 then 0 else n_)) ≤ 64 := by split <;> split <;> omega
  refine JL_make (n := ((if 64 < (if n_ < 0 then 0 else n_) then 64 else (if n_ < 0 then 0 else n_))).toNat) (x0 := default) TY_5 Tryd.underlying33 eI_u8_ok rfl ⟨by omega, by omega⟩ (k := fun ax1 Bx1 hox1 => ?_)
  refine JL_q (q_str Tryd.underlying9 Tryd.underlying33 Tryd.underlying5 (hox1.slj eI_u8_ok)) (k := ?_)
  refine JL_q (q_addT (s := (lmCut key)) (s' := (toS (List.replicate (((if 64 < (if n_ < 0 then 0 else n_) then 64 else (if n_ < 0 then 0 else n_))).toNat) (default : Int)))) (h := by first | omega | (simp only [List.length_append, List.length_take, List.length_drop, List.length_set, List.length_replicate, List.length_cons, List.length_nil, List.length_map, toS_length, toI_length]; omega) | (simp only [List.length_append, List.length_take, List.length_drop, List.length_set, List.length_replicate, List.length_cons, List.length_nil, List.length_map, toS_length, toI_length] at *; omega))) (k := ?_)
  have hsa1 : ((lmCut key) ++ (toS (List.replicate (((if 64 < (if n_ < 0 then 0 else n_) then 64 else (if n_ < 0 then 0 else n_))).toNat) (default : Int)))).length = (lmCut key).length + (toS (List.replicate (((if 64 < (if n_ < 0 then 0 else n_) then 64 else (if n_ < 0 then 0 else n_))).toNat) (default : Int))).length := by simp only [List.length_append, List.length_cons, List.length_nil, Nat.zero_add]
  refine JL_q (q_move) (k := ?_)
  refine JL_v (args := [(Value.string (bs ((lmCut key) ++ (toS (List.replicate (((if 64 < (if n_ < 0 then 0 else n_) then 64 else (if n_ < 0 then 0 else n_))).toNat) (default : Int)))))), (Value.string (bs (lmCut s)))]) (c_callA Tryd.call10) (fun w1 hw1 => mMacOf_ok w1 (key := ((lmCut key) ++ (toS (List.replicate (((if 64 < (if n_ < 0 then 0 else n_) then 64 else (if n_ < 0 then 0 else n_))).toNat) (default : Int))))) (s := (lmCut s)) (n_s := by first | omega | (simp only [List.length_append, List.length_take, List.length_drop, List.length_set, List.length_replicate, List.length_cons, List.length_nil, List.length_map, toS_length, toI_length]; omega) | (simp only [List.length_append, List.length_take, List.length_drop, List.length_set, List.length_replicate, List.length_cons, List.length_nil, List.length_map, toS_length, toI_length] at *; omega) | decide) (hG := hG.ext hw1.ext_out) (hE := hE.ext hw1.ext_out)) (k := ?_)
  refine JL_q (q_move) (k := ?_)
  refine JL_q (q_ext) (k := ?_)
  refine JL_q (q_ext) (k := ?_)
  refine JL_q (q_assign) (k := ?_)
  refine JL_q (q_assign) (k := ?_)
  refine JL_nil ?_
  refine JX_seq ?_
  refine J_seq ?_
  refine J_seq ?_
  refine J_reg ?_
  refine JL_q (q_move) (k := ?_)
  refine JL_q (q_neq) (k := ?_)
  refine JL_q (q_move) (k := ?_)
  refine JL_dec 38 rfl (fun hq1 => ?_) (fun hq1 => ?_)
  · refine JL_skips 2 rfl ?_
    refine JL_q (q_pickT) (k := ?_)
    refine JL_nil ?_
    refine JX_seq ?_
    refine J_true rfl ?_
    refine J_seq ?_
    refine J_reg ?_
    refine JL_q (q_move) (k := ?_)
    refine JL_q (q_move) (k := ?_)
    refine JL_qg (q_move) (k := ?_)
    refine JL_qg (q_eql) (k := ?_)
    refine JL_qg (q_move) (k := ?_)
    refine JL_dec 46 rfl (fun hq2 => ?_) (fun hq2 => ?_)
    · refine JL_skips 2 rfl ?_
      refine JL_qg (q_pickT) (k := ?_)
      refine JL_q (q_pickT) (k := ?_)
      refine JL_q (q_move) (k := ?_)
      refine JL_qg (q_move) (k := ?_)
      refine JL_qg (q_eql) (k := ?_)
      refine JL_qg (q_move) (k := ?_)
      refine JL_dec 54 rfl (fun hq3 => ?_) (fun hq3 => ?_)
      · refine JL_skips 2 rfl ?_
        refine JL_qg (q_pickT) (k := ?_)
        refine JL_q (q_pickT) (k := ?_)
        refine JL_q (q_assign) (k := ?_)
        refine JL_nil ?_
        refine JX_seq ?_
        refine J_ret ?_
        refine JX_seq_ret ?_
        refine JX_ret Tryd.results5 (Res.tmp rfl Res.nil) (fun w1 hw1 => ?_)
        exact ⟨(by rw [((((hF.pos hq1).pos hq2).pos hq3)).eq] <;> first | rfl | (simp only [List.length_set] <;> rfl)), hw1.ext_out⟩
      refine JL_qg (q_move) (k := ?_)
      refine JL_qg (q_eqT) (k := ?_)
      refine JL_qg (q_pickF) (k := ?_)
      refine JL_q (q_pickT) (k := ?_)
      refine JL_q (q_assign) (k := ?_)
      refine JL_nil ?_
      refine JX_seq ?_
      refine J_ret ?_
      refine JX_seq_ret ?_
      refine JX_ret Tryd.results5 (Res.tmp rfl Res.nil) (fun w1 hw1 => ?_)
      exact ⟨(by rw [((((hF.pos hq1).pos hq2).neg hq3)).eq] <;> first | rfl | (simp only [List.length_set] <;> rfl)), hw1.ext_out⟩
    refine JL_qg (q_move) (k := ?_)
    refine JL_qg (q_eqT) (k := ?_)
    refine JL_qg (q_pickF) (k := ?_)
    refine JL_q (q_pickT) (k := ?_)
    refine JL_q (q_move) (k := ?_)
    refine JL_dec 51 rfl (fun hq4 => ?_) (fun hq4 => ?_)
    rotate_left
    · refine JL_skips 6 rfl ?_
      refine JL_q (q_pickF) (k := ?_)
      refine JL_q (q_assign) (k := ?_)
      refine JL_nil ?_
      refine JX_seq ?_
      refine J_ret ?_
      refine JX_seq_ret ?_
      refine JX_ret Tryd.results5 (Res.tmp rfl Res.nil) (fun w1 hw1 => ?_)
      exact ⟨(by rw [((((hF.pos hq1).neg hq2).neg hq4)).eq] <;> first | rfl | (simp only [List.length_set] <;> rfl)), hw1.ext_out⟩
    refine JL_qg (q_move) (k := ?_)
    refine JL_qg (q_eql) (k := ?_)
    refine JL_qg (q_move) (k := ?_)
    refine JL_dec 54 rfl (fun hq5 => ?_) (fun hq5 => ?_)
    · refine JL_skips 2 rfl ?_
      refine JL_qg (q_pickT) (k := ?_)
      refine JL_q (q_pickT) (k := ?_)
      refine JL_q (q_assign) (k := ?_)
      refine JL_nil ?_
      refine JX_seq ?_
      refine J_ret ?_
      refine JX_seq_ret ?_
      refine JX_ret Tryd.results5 (Res.tmp rfl Res.nil) (fun w1 hw1 => ?_)
      exact ⟨(by rw [(((((hF.pos hq1).neg hq2).pos hq4).pos hq5)).eq] <;> first | rfl | (simp only [List.length_set] <;> rfl)), hw1.ext_out⟩
    refine JL_qg (q_move) (k := ?_)
    refine JL_qg (q_eqT) (k := ?_)
    refine JL_qg (q_pickF) (k := ?_)
    refine JL_q (q_pickT) (k := ?_)
    refine JL_q (q_assign) (k := ?_)
    refine JL_nil ?_
    refine JX_seq ?_
    refine J_ret ?_
    refine JX_seq_ret ?_
    refine JX_ret Tryd.results5 (Res.tmp rfl Res.nil) (fun w1 hw1 => ?_)
    exact ⟨(by rw [(((((hF.pos hq1).neg hq2).pos hq4).neg hq5)).eq] <;> first | rfl | (simp only [List.length_set] <;> rfl)), hw1.ext_out⟩
  refine JL_qg (q_move) (k := ?_)
  refine JL_qg (q_neq) (k := ?_)
  refine JL_q (q_pickF) (k := ?_)
  refine JL_nil ?_
  refine JX_seq ?_
  refine J_dec rfl (fun hq6 => ?_) (fun hq6 => ?_)
  rotate_left
  · refine J_skip ?_
    refine JX_seq ?_
    refine J_seq ?_
    refine J_reg ?_
    refine JL_q (q_move) (k := ?_)
    refine JL_q (q_move) (k := ?_)
    refine JL_qg (q_move) (k := ?_)
    refine JL_qg (q_move) (k := ?_)
    refine JL_qg (q_eqT) (k := ?_)
    refine JL_q (q_pickT) (k := ?_)
    refine JL_q (q_move) (k := ?_)
    refine JL_dec 65 rfl (fun hq11 => ?_) (fun hq11 => ?_)
    rotate_left
    · refine JL_skips 3 rfl ?_
      refine JL_q (q_pickF) (k := ?_)
      refine JL_q (q_assign) (k := ?_)
      refine JL_nil ?_
      refine JX_seq ?_
      refine J_ret ?_
      refine JX_ret Tryd.results5 (Res.tmp rfl Res.nil) (fun w1 hw1 => ?_)
      exact ⟨(by rw [((((hF.neg hq1).neg hq6).neg hq11)).eq] <;> first | rfl | (simp only [List.length_set] <;> rfl)), hw1.ext_out⟩
    refine JL_qg (q_move) (k := ?_)
    refine JL_qg (q_lenT Tryd.runUnderlying9) (k := ?_)
    refine JL_qg (q_eql) (k := ?_)
    refine JL_q (q_pickT) (k := ?_)
    refine JL_q (q_assign) (k := ?_)
    refine JL_nil ?_
    refine JX_seq ?_
    refine J_ret ?_
    refine JX_ret Tryd.results5 (Res.tmp rfl Res.nil) (fun w1 hw1 => ?_)
    exact ⟨(by rw [((((hF.neg hq1).neg hq6).pos hq11)).eq] <;> first | rfl | (simp only [List.length_set] <;> rfl)), hw1.ext_out⟩
  refine J_seq ?_
  refine J_reg ?_
  refine JL_q (q_move) (k := ?_)
  refine JL_q (q_move) (k := ?_)
  refine JL_qg (q_move) (k := ?_)
  refine JL_qg (q_eql) (k := ?_)
  refine JL_qg (q_move) (k := ?_)
  refine JL_dec 46 rfl (fun hq7 => ?_) (fun hq7 => ?_)
  · refine JL_skips 2 rfl ?_
    refine JL_qg (q_pickT) (k := ?_)
    refine JL_q (q_pickT) (k := ?_)
    refine JL_q (q_move) (k := ?_)
    refine JL_qg (q_move) (k := ?_)
    refine JL_qg (q_eql) (k := ?_)
    refine JL_qg (q_move) (k := ?_)
    refine JL_dec 54 rfl (fun hq8 => ?_) (fun hq8 => ?_)
    · refine JL_skips 2 rfl ?_
      refine JL_qg (q_pickT) (k := ?_)
      refine JL_q (q_pickT) (k := ?_)
      refine JL_q (q_assign) (k := ?_)
      refine JL_nil ?_
      refine JX_seq ?_
      refine J_ret ?_
      refine JX_seq_ret ?_
      refine JX_ret Tryd.results5 (Res.tmp rfl Res.nil) (fun w1 hw1 => ?_)
      exact ⟨(by rw [(((((hF.neg hq1).pos hq6).pos hq7).pos hq8)).eq] <;> first | rfl | (simp only [List.length_set] <;> rfl)), hw1.ext_out⟩
    refine JL_qg (q_move) (k := ?_)
    refine JL_qg (q_eqT) (k := ?_)
    refine JL_qg (q_pickF) (k := ?_)
    refine JL_q (q_pickT) (k := ?_)
    refine JL_q (q_assign) (k := ?_)
    refine JL_nil ?_
    refine JX_seq ?_
    refine J_ret ?_
    refine JX_seq_ret ?_
    refine JX_ret Tryd.results5 (Res.tmp rfl Res.nil) (fun w1 hw1 => ?_)
    exact ⟨(by rw [(((((hF.neg hq1).pos hq6).pos hq7).neg hq8)).eq] <;> first | rfl | (simp only [List.length_set] <;> rfl)), hw1.ext_out⟩
  refine JL_qg (q_move) (k := ?_)
  refine JL_qg (q_eqT) (k := ?_)
  refine JL_qg (q_pickF) (k := ?_)
  refine JL_q (q_pickT) (k := ?_)
  refine JL_q (q_move) (k := ?_)
  refine JL_dec 51 rfl (fun hq9 => ?_) (fun hq9 => ?_)
  rotate_left
  · refine JL_skips 6 rfl ?_
    refine JL_q (q_pickF) (k := ?_)
    refine JL_q (q_assign) (k := ?_)
    refine JL_nil ?_
    refine JX_seq ?_
    refine J_ret ?_
    refine JX_seq_ret ?_
    refine JX_ret Tryd.results5 (Res.tmp rfl Res.nil) (fun w1 hw1 => ?_)
    exact ⟨(by rw [(((((hF.neg hq1).pos hq6).neg hq7).neg hq9)).eq] <;> first | rfl | (simp only [List.length_set] <;> rfl)), hw1.ext_out⟩
  refine JL_qg (q_move) (k := ?_)
  refine JL_qg (q_eql) (k := ?_)
  refine JL_qg (q_move) (k := ?_)
  refine JL_dec 54 rfl (fun hq10 => ?_) (fun hq10 => ?_)
  · refine JL_skips 2 rfl ?_
    refine JL_qg (q_pickT) (k := ?_)
    refine JL_q (q_pickT) (k := ?_)
    refine JL_q (q_assign) (k := ?_)
    refine JL_nil ?_
    refine JX_seq ?_
    refine J_ret ?_
    refine JX_seq_ret ?_
    refine JX_ret Tryd.results5 (Res.tmp rfl Res.nil) (fun w1 hw1 => ?_)
    exact ⟨(by rw [((((((hF.neg hq1).pos hq6).neg hq7).pos hq9).pos hq10)).eq] <;> first | rfl | (simp only [List.length_set] <;> rfl)), hw1.ext_out⟩
  refine JL_qg (q_move) (k := ?_)
  refine JL_qg (q_eqT) (k := ?_)
  refine JL_qg (q_pickF) (k := ?_)
  refine JL_q (q_pickT) (k := ?_)
  refine JL_q (q_assign) (k := ?_)
  refine JL_nil ?_
  refine JX_seq ?_
  refine J_ret ?_
  refine JX_seq_ret ?_
  refine JX_ret Tryd.results5 (Res.tmp rfl Res.nil) (fun w1 hw1 => ?_)
  exact ⟨(by rw [((((((hF.neg hq1).pos hq6).neg hq7).pos hq9).neg hq10)).eq] <;> first | rfl | (simp only [List.length_set] <;> rfl)), hw1.ext_out⟩

theorem lMacAnswers_ok (w : World) {ea0 : Addr} {ea1 : Addr} {key : Str} {a : Int} {b : Int} {name : Str} (i_a : -9223372036854775808 ≤ a ∧ a ≤ 9223372036854775807) (i_b : -9223372036854775808 ≤ b ∧ b ≤ 9223372036854775807) (hG : Gl w) (hE : Er w ea0 ea1) : Val Tryd.prog 6 [(Value.string (bs key)), (Value.int .i64 (a)), (Value.int .i64 (b)), (Value.string (bs name))] w (Value.bool ((lMacAnswers key a b name))) := by
  have hF := Is.refl (lMacAnswers key a b name)
  refine enter Tryd.func6 Tryd.ntmps6 (h := ?_)
  refine J_seq ?_
  refine J_reg ?_
  refine JL_q (q_assign) (k := ?_)
  refine JL_nil ?_
  refine JX_seq ?_
  refine J_seq ?_
  refine J_reg ?_
  refine JL_v (args := []) (c_callA Tryd.call8) (fun w1 hw1 => mShown_t w1 (hG := hG.ext hw1.ext_out) (hE := hE.ext hw1.ext_out)) (k := ?_)
  refine JL_q (q_assign) (k := ?_)
  refine JL_nil ?_
  refine JX_seq ?_
  refine J_seq ?_
  refine J_reg ?_
  refine JL_q (q_move) (k := ?_)
  refine JL_v (args := [(Value.string (bs key))]) (c_callA Tryd.call9) (fun w1 hw1 => lmCut_ok w1 (s := key)) (k := ?_)
  have hcu_74872 := lmCut_len key
  refine JL_q (q_assign) (k := ?_)
  refine JL_nil ?_
  refine JX_seq ?_
  refine J_seq ?_
  refine J_reg ?_
  refine JL_q (q_move) (k := ?_)
  refine JL_v (args := [(Value.string (bs name))]) (c_callA Tryd.call9) (fun w1 hw1 => lmCut_ok w1 (s := name)) (k := ?_)
  have hcu_51289 := lmCut_len name
  refine JL_q (q_assign) (k := ?_)
  refine JL_nil ?_
  refine JX_seq ?_
  refine J_seq ?_
  refine J_reg ?_
  refine JL_q (q_move) (k := ?_)
  refine JL_q (q_move) (k := ?_)
  refine JL_v (args := [(Value.int .i64 (a)), (Value.int .i64 (b))]) (c_callA Tryd.call15) (fun w1 hw1 => mChal_ok w1 (a := a) (b := b) (i_a := by first | omega | (simp only [List.length_append, List.length_take, List.length_drop, List.length_set, List.length_replicate, List.length_cons, List.length_nil, List.length_map, toS_length, toI_length]; omega) | (simp only [List.length_append, List.length_take, List.length_drop, List.length_set, List.length_replicate, List.length_cons, List.length_nil, List.length_map, toS_length, toI_length] at *; omega) | decide) (i_b := by first | omega | (simp only [List.length_append, List.length_take, List.length_drop, List.length_set, List.length_replicate, List.length_cons, List.length_nil, List.length_map, toS_length, toI_length]; omega) | (simp only [List.length_append, List.length_take, List.length_drop, List.length_set, List.length_replicate, List.length_cons, List.length_nil, List.length_map, toS_length, toI_length] at *; omega) | decide) (hG := hG.ext hw1.ext_out) (hE := hE.ext hw1.ext_out)) (k := ?_)
  have hch_58825 := mChal_len a b
  refine JL_q (q_move) (k := ?_)
  refine JL_q (q_ext) (k := ?_)
  refine JL_q (q_ext) (k := ?_)
  refine JL_q (q_assign) (k := ?_)
  refine JL_q (q_assign) (k := ?_)
  refine JL_nil ?_
  refine JX_seq ?_
  refine J_seq ?_
  refine J_reg ?_
  refine JL_q (q_move) (k := ?_)
  refine JL_q (q_move) (k := ?_)
  refine JL_q (q_move) (k := ?_)
  refine JL_v (args := [(Value.string (bs (lmCut key))), (Value.string (bs ((mChal a b).1))), (Value.string (bs (lmCut name)))]) (c_callA Tryd.call17) (fun w1 hw1 => mAns_ok w1 (key := (lmCut key)) (challenge := ((mChal a b).1)) (name := (lmCut name)) (n_name := by first | omega | (simp only [List.length_append, List.length_take, List.length_drop, List.length_set, List.length_replicate, List.length_cons, List.length_nil, List.length_map, toS_length, toI_length]; omega) | (simp only [List.length_append, List.length_take, List.length_drop, List.length_set, List.length_replicate, List.length_cons, List.length_nil, List.length_map, toS_length, toI_length] at *; omega) | decide) (hG := hG.ext hw1.ext_out) (hE := hE.ext hw1.ext_out)) (k := ?_)
  have han_75770 := mAns_len (lmCut key) ((mChal a b).1) (lmCut name)
  refine JL_q (q_move) (k := ?_)
  refine JL_q (q_ext) (k := ?_)
  refine JL_q (q_ext) (k := ?_)
  refine JL_q (q_assign) (k := ?_)
  refine JL_q (q_assign) (k := ?_)
  refine JL_nil ?_
  refine JX_seq ?_
  refine J_seq ?_
  refine J_reg ?_
  refine JL_q (q_move) (k := ?_)
  refine JL_q (q_move) (k := ?_)
  refine JL_q (q_move) (k := ?_)
  refine JL_q (q_addT (s := ((mChal a b).1)) (s' := (lmCut name)) (h := by first | omega | (simp only [List.length_append, List.length_take, List.length_drop, List.length_set, List.length_replicate, List.length_cons, List.length_nil, List.length_map, toS_length, toI_length]; omega) | (simp only [List.length_append, List.length_take, List.length_drop, List.length_set, List.length_replicate, List.length_cons, List.length_nil, List.length_map, toS_length, toI_length] at *; omega))) (k := ?_)
  have hsa1 : (((mChal a b).1) ++ (lmCut name)).length = ((mChal a b).1).length + (lmCut name).length := by simp only [List.length_append, List.length_cons, List.length_nil, Nat.zero_add]
  refine JL_v (args := [(Value.string (bs (lmCut key))), (Value.string (bs (((mChal a b).1) ++ (lmCut name))))]) (c_callA Tryd.call10) (fun w1 hw1 => mMacOf_ok w1 (key := (lmCut key)) (s := (((mChal a b).1) ++ (lmCut name))) (n_s := by first | omega | (simp only [List.length_append, List.length_take, List.length_drop, List.length_set, List.length_replicate, List.length_cons, List.length_nil, List.length_map, toS_length, toI_length]; omega) | (simp only [List.length_append, List.length_take, List.length_drop, List.length_set, List.length_replicate, List.length_cons, List.length_nil, List.length_map, toS_length, toI_length] at *; omega) | decide) (hG := hG.ext hw1.ext_out) (hE := hE.ext hw1.ext_out)) (k := ?_)
  refine JL_q (q_move) (k := ?_)
  refine JL_q (q_ext) (k := ?_)
  refine JL_q (q_ext) (k := ?_)
  refine JL_q (q_assign) (k := ?_)
  refine JL_q (q_assign) (k := ?_)
  refine JL_nil ?_
  refine JX_seq ?_
  refine J_seq ?_
  refine J_seq ?_
  refine J_reg ?_
  refine JL_q (q_move) (k := ?_)
  refine JL_q (q_neq) (k := ?_)
  refine JL_nil ?_
  refine JX_seq ?_
  refine J_dec rfl (fun hq1 => ?_) (fun hq1 => ?_)
  · refine J_seq ?_
    refine J_reg ?_
    refine JL_q (q_move) (k := ?_)
    refine JL_q (q_move) (k := ?_)
    refine JL_qg (q_move) (k := ?_)
    refine JL_qg (q_eqT) (k := ?_)
    refine JL_q (q_pickT) (k := ?_)
    refine JL_q (q_move) (k := ?_)
    refine JL_dec 49 rfl (fun hq2 => ?_) (fun hq2 => ?_)
    rotate_left
    · refine JL_skips 2 rfl ?_
      refine JL_q (q_pickF) (k := ?_)
      refine JL_q (q_assign) (k := ?_)
      refine JL_nil ?_
      refine JX_seq ?_
      refine J_ret ?_
      refine JX_seq_ret ?_
      refine JX_ret Tryd.results6 (Res.tmp rfl Res.nil) (fun w1 hw1 => ?_)
      exact ⟨(by rw [(((hF.pos hq1).neg hq2)).eq] <;> first | rfl | (simp only [List.length_set] <;> rfl)), hw1.ext_out⟩
    refine JL_qg (q_move) (k := ?_)
    refine JL_qg (q_neq) (k := ?_)
    refine JL_q (q_pickT) (k := ?_)
    refine JL_q (q_assign) (k := ?_)
    refine JL_nil ?_
    refine JX_seq ?_
    refine J_ret ?_
    refine JX_seq_ret ?_
    refine JX_ret Tryd.results6 (Res.tmp rfl Res.nil) (fun w1 hw1 => ?_)
    exact ⟨(by rw [(((hF.pos hq1).pos hq2)).eq] <;> first | rfl | (simp only [List.length_set] <;> rfl)), hw1.ext_out⟩
  refine J_skip ?_
  refine JX_seq ?_
  refine J_seq ?_
  refine J_reg ?_
  refine JL_q (q_move) (k := ?_)
  refine JL_q (q_move) (k := ?_)
  refine JL_qg (q_move) (k := ?_)
  refine JL_qg (q_lenT Tryd.runUnderlying9) (k := ?_)
  refine JL_qg (q_eql) (k := ?_)
  refine JL_q (q_pickT) (k := ?_)
  refine JL_q (q_move) (k := ?_)
  refine JL_dec 59 rfl (fun hq3 => ?_) (fun hq3 => ?_)
  rotate_left
  · refine JL_skips 3 rfl ?_
    refine JL_q (q_pickF) (k := ?_)
    refine JL_q (q_move) (k := ?_)
    refine JL_skips 3 rfl ?_
    refine JL_q (q_pickF) (k := ?_)
    refine JL_q (q_move) (k := ?_)
    refine JL_skips 5 rfl ?_
    refine JL_q (q_pickF) (k := ?_)
    refine JL_q (q_assign) (k := ?_)
    refine JL_nil ?_
    refine JX_seq ?_
    refine J_ret ?_
    refine JX_ret Tryd.results6 (Res.tmp rfl Res.nil) (fun w1 hw1 => ?_)
    exact ⟨(by rw [(((hF.neg hq1).neg hq3)).eq] <;> first | rfl | (simp only [List.length_set] <;> rfl)), hw1.ext_out⟩
  refine JL_qg (q_move) (k := ?_)
  refine JL_qg (q_move) (k := ?_)
  refine JL_qg (q_eqT) (k := ?_)
  refine JL_q (q_pickT) (k := ?_)
  refine JL_q (q_move) (k := ?_)
  refine JL_dec 64 rfl (fun hq4 => ?_) (fun hq4 => ?_)
  rotate_left
  · refine JL_skips 3 rfl ?_
    refine JL_q (q_pickF) (k := ?_)
    refine JL_q (q_move) (k := ?_)
    refine JL_skips 5 rfl ?_
    refine JL_q (q_pickF) (k := ?_)
    refine JL_q (q_assign) (k := ?_)
    refine JL_nil ?_
    refine JX_seq ?_
    refine J_ret ?_
    refine JX_ret Tryd.results6 (Res.tmp rfl Res.nil) (fun w1 hw1 => ?_)
    exact ⟨(by rw [((((hF.neg hq1).pos hq3).neg hq4)).eq] <;> first | rfl | (simp only [List.length_set] <;> rfl)), hw1.ext_out⟩
  refine JL_qg (q_move) (k := ?_)
  refine JL_qg (q_move) (k := ?_)
  refine JL_qg (q_eql) (k := ?_)
  refine JL_q (q_pickT) (k := ?_)
  refine JL_q (q_move) (k := ?_)
  refine JL_dec 69 rfl (fun hq5 => ?_) (fun hq5 => ?_)
  rotate_left
  · refine JL_skips 5 rfl ?_
    refine JL_q (q_pickF) (k := ?_)
    refine JL_q (q_assign) (k := ?_)
    refine JL_nil ?_
    refine JX_seq ?_
    refine J_ret ?_
    refine JX_ret Tryd.results6 (Res.tmp rfl Res.nil) (fun w1 hw1 => ?_)
    exact ⟨(by rw [(((((hF.neg hq1).pos hq3).pos hq4).neg hq5)).eq] <;> first | rfl | (simp only [List.length_set] <;> rfl)), hw1.ext_out⟩
  refine JL_qg (q_move) (k := ?_)
  refine JL_qg (q_eql) (k := ?_)
  refine JL_qg (q_move) (k := ?_)
  refine JL_vg (args := [(Value.string (bs (lmCut key)))]) (c_callA Tryd.call12) (fun w1 hw1 => mRight_ok w1 (key := (lmCut key))) (k := ?_)
  refine JL_qg (q_eqlB Tryd.runUnderlying4) (k := ?_)
  refine JL_q (q_pickT) (k := ?_)
  refine JL_q (q_assign) (k := ?_)
  refine JL_nil ?_
  refine JX_seq ?_
  refine J_ret ?_
  refine JX_ret Tryd.results6 (Res.tmp rfl Res.nil) (fun w1 hw1 => ?_)
  exact ⟨(by rw [(((((hF.neg hq1).pos hq3).pos hq4).pos hq5)).eq] <;> first | rfl | (simp only [List.length_set] <;> rfl)), hw1.ext_out⟩

theorem lMacSums_ok (w : World) {ea0 : Addr} {ea1 : Addr} {key : Str} {s : Str} (hG : Gl w) (hE : Er w ea0 ea1) : Val Tryd.prog 7 [(Value.string (bs key)), (Value.string (bs s))] w (Value.bool ((lMacSums key s))) := by
  have hF := Is.refl (lMacSums key s)
  refine enter Tryd.func7 Tryd.ntmps7 (h := ?_)
  refine J_seq ?_
  refine J_reg ?_
  refine JL_q (q_assign) (k := ?_)
  refine JL_nil ?_
  refine JX_seq ?_
  refine J_seq ?_
  refine J_reg ?_
  refine JL_v (args := []) (c_callA Tryd.call8) (fun w1 hw1 => mShown_t w1 (hG := hG.ext hw1.ext_out) (hE := hE.ext hw1.ext_out)) (k := ?_)
  refine JL_q (q_assign) (k := ?_)
  refine JL_nil ?_
  refine JX_seq ?_
  refine J_seq ?_
  refine J_reg ?_
  refine JL_q (q_move) (k := ?_)
  refine JL_q (q_move) (k := ?_)
  refine JL_q (q_lenT Tryd.runUnderlying9) (k := ?_)
  refine JL_q (q_min) (k := ?_)
  refine JL_q (q_subThi (s := key) (min key.length 64) Tryd.runUnderlying9 (by omega) (hj := by split <;> omega)) (k := ?_)
  have hsb1 : (key.take (min key.length 64)).length = (min key.length 64) := by first | omega | (simp only [List.length_take, List.length_drop, List.length_cons, List.length_nil] <;> omega)
  refine JL_q (q_assign) (k := ?_)
  refine JL_nil ?_
  refine JX_seq ?_
  refine J_seq ?_
  refine J_reg ?_
  refine JL_q (q_move) (k := ?_)
  refine JL_v (args := [(Value.string (bs s))]) (c_callA Tryd.call9) (fun w1 hw1 => lmCut_ok w1 (s := s)) (k := ?_)
  have hcu_65227 := lmCut_len s
  refine JL_q (q_assign) (k := ?_)
  refine JL_nil ?_
  refine JX_seq ?_
  refine J_seq ?_
  refine J_reg ?_
  refine JL_q (q_move) (k := ?_)
  refine JL_q (q_move) (k := ?_)
  refine JL_v (args := [(Value.string (bs (key.take (min key.length 64)))), (Value.string (bs (lmCut s)))]) (c_callA Tryd.call10) (fun w1 hw1 => mMacOf_ok w1 (key := (key.take (min key.length 64))) (s := (lmCut s)) (n_s := by first | omega | (simp only [List.length_append, List.length_take, List.length_drop, List.length_set, List.length_replicate, List.length_cons, List.length_nil, List.length_map, toS_length, toI_length]; omega) | (simp only [List.length_append, List.length_take, List.length_drop, List.length_set, List.length_replicate, List.length_cons, List.length_nil, List.length_map, toS_length, toI_length] at *; omega) | decide) (hG := hG.ext hw1.ext_out) (hE := hE.ext hw1.ext_out)) (k := ?_)
  refine JL_q (q_move) (k := ?_)
  refine JL_q (q_ext) (k := ?_)
  refine JL_q (q_ext) (k := ?_)
  refine JL_q (q_assign) (k := ?_)
  refine JL_q (q_assign) (k := ?_)
  refine JL_nil ?_
  refine JX_seq ?_
  refine J_seq ?_
  refine J_seq ?_
  refine J_reg ?_
  refine JL_q (q_move) (k := ?_)
  refine JL_q (q_neq) (k := ?_)
  refine JL_nil ?_
  refine JX_seq ?_
  refine J_dec rfl (fun hq1 => ?_) (fun hq1 => ?_)
  · refine J_seq ?_
    refine J_reg ?_
    refine JL_q (q_move) (k := ?_)
    refine JL_q (q_move) (k := ?_)
    refine JL_qg (q_move) (k := ?_)
    refine JL_qg (q_eqT) (k := ?_)
    refine JL_q (q_pickT) (k := ?_)
    refine JL_q (q_move) (k := ?_)
    refine JL_dec 33 rfl (fun hq2 => ?_) (fun hq2 => ?_)
    rotate_left
    · refine JL_skips 2 rfl ?_
      refine JL_q (q_pickF) (k := ?_)
      refine JL_q (q_assign) (k := ?_)
      refine JL_nil ?_
      refine JX_seq ?_
      refine J_ret ?_
      refine JX_seq_ret ?_
      refine JX_ret Tryd.results7 (Res.tmp rfl Res.nil) (fun w1 hw1 => ?_)
      exact ⟨(by rw [(((hF.pos hq1).neg hq2)).eq] <;> first | rfl | (simp only [List.length_set] <;> rfl)), hw1.ext_out⟩
    refine JL_qg (q_move) (k := ?_)
    refine JL_qg (q_eqT) (k := ?_)
    refine JL_q (q_pickT) (k := ?_)
    refine JL_q (q_assign) (k := ?_)
    refine JL_nil ?_
    refine JX_seq ?_
    refine J_ret ?_
    refine JX_seq_ret ?_
    refine JX_ret Tryd.results7 (Res.tmp rfl Res.nil) (fun w1 hw1 => ?_)
    exact ⟨(by rw [(((hF.pos hq1).pos hq2)).eq] <;> first | rfl | (simp only [List.length_set] <;> rfl)), hw1.ext_out⟩
  refine J_skip ?_
  refine JX_seq ?_
  refine J_seq ?_
  refine J_reg ?_
  refine JL_q (q_assign) (k := ?_)
  refine JL_nil ?_
  refine JX_seq ?_
  refine J_seq ?_
  refine J_reg ?_
  refine JL_q (q_assign) (k := ?_)
  refine JL_nil ?_
  refine JX_seq ?_
  refine J_seq ?_
  refine J_seq ?_
  refine J_reg ?_
  refine JL_q (q_assign) (k := ?_)
  refine JL_nil ?_
  refine JX_seq ?_
  refine J_block ?_
  refine J_loop10 (σ1 := Nat) (σ2 := Nat) (σ3 := List Int) (σ4 := Option Addr) (σ5 := Nat) (σ6 := Heap) (σ7 := List Int) (σ8 := Option Addr) (σ9 := Nat) (σ10 := Heap) (fun n_4 i_1 in_2 in_2a in_2c in_2B out_3 out_3a out_3c out_3B => (out_3B ++ (in_2B ++ []))) (fun n_4 i_1 in_2 in_2a in_2c in_2B out_3 out_3a out_3c out_3B => [(0, (Value.string (bs (key.take (min key.length 64))))), (1, (Value.string (bs (lmCut s)))), (4, (Value.bool (false))), (5, (Value.bool (true))), (6, (Value.string (bs ((mMacOf (key.take (min key.length 64)) (lmCut s)).1)))), (8, (Value.slice (in_2a) (in_2.length) (in_2c))), (9, (Value.slice (out_3a) (out_3.length) (out_3c))), (10, (Value.int .i64 (((i_1 : Nat) : Int))))]) (fun n_4 i_1 in_2 in_2a in_2c in_2B out_3 out_3a out_3c out_3B => 64 - i_1 < n_4 ∧ Is (lMacSums_l0 key s (64 + 1) 0 [] []) (lMacSums_l0 key s n_4 i_1 in_2 out_3) ∧ OwnB eI_u8 1 5 in_2a in_2c in_2B in_2 ∧ OwnB eI_u8 1 5 out_3a out_3c out_3B out_3 ∧ in_2.length = i_1 ∧ out_3.length = i_1 ∧ i_1 ≤ 64) (fun n_4 i_1 in_2 in_2a in_2c in_2B out_3 out_3a out_3c out_3B => n_4) (64 + 1) 0 ([]) none 0 ([]) ([]) none 0 ([]) ?_ (by repeat (first | exact SubE.nil | refine SubE.cons rfl ?_)) (List.Perm.refl _) ?_
  · exact ⟨Nat.lt_succ_self _, Is.refl _, OwnB.nil, OwnB.nil, (by first | omega | rfl | (simp; done)), (by first | omega | rfl | (simp; done)), (by first | omega | rfl | (simp; done))⟩
  · rintro (_ | n_4) i_1 in_2 in_2a in_2c in_2B out_3 out_3a out_3c out_3B ⟨hm6, hF5, hin_2, hout_3, hi7, hi8, hi9⟩
    · omega
    refine J_seq ?_
    refine J_seq ?_
    refine J_reg ?_
    refine JL_q (q_move) (k := ?_)
    refine JL_q (q_lss) (k := ?_)
    refine JL_nil ?_
    refine JX_seq ?_
    refine J_dec rfl (fun hq3 => ?_) (fun hq3 => ?_)
    rotate_left
    · refine J_exit ?_
      refine JX_seq_exit ?_
      refine JX_inv_exit ?_
      refine JX_block_hit ?_
      refine JX_seq ?_
      refine J_seq ?_
      refine J_join0  ( (out_3B ++ (in_2B ++ []))) ( [(4, (Value.bool (decide (((mMacOf (key.take (min key.length 64)) (lmCut s)).1) = (sSum ((toS out_3) ++ (sSum ((toS in_2) ++ (lmCut s)))))))))]) ( Is () ()) ?_ ?_
      · skip
        refine J_any (V := []) mixed 15 (by kernel_rfl) ?_
        refine JG_q 0 rfl (by kernel_rfl) (q_move) (k := ?_)
        refine JG_q 1 rfl (by kernel_rfl) (q_move) (k := ?_)
        refine JG_qg 2 rfl (by kernel_rfl) (q_move) (k := ?_)
        refine JG_qg 3 rfl (by kernel_rfl) (q_move) (k := ?_)
        refine JG_qg 5 rfl (by kernel_rfl) (q_move) (k := ?_)
        refine JG_qg 7 rfl (by kernel_rfl) (q_move) (k := ?_)
        refine JG_br [4, 6] (by kernel_rfl) rfl (List.forall_mem_cons.2 ⟨?_, (List.forall_mem_cons.2 ⟨?_, nofun⟩)⟩)
        · skip
          refine JO_qg rfl (q_str Tryd.underlying9 Tryd.underlying33 Tryd.underlying5 (hout_3.slj eI_u8_ok)) (k := ?_)
          refine JG_br [6] (by kernel_rfl) rfl (List.forall_mem_cons.2 ⟨?_, nofun⟩)
          · skip
            refine JO_qg rfl (q_str Tryd.underlying9 Tryd.underlying33 Tryd.underlying5 (hin_2.slj eI_u8_ok)) (k := ?_)
            refine JG_qg 8 rfl (by kernel_rfl) (q_addT (s := (toS in_2)) (s' := (lmCut s)) (h := by first | omega | (simp only [List.length_append, List.length_take, List.length_drop, List.length_set, List.length_replicate, List.length_cons, List.length_nil, List.length_map, toS_length, toI_length]; omega) | (simp only [List.length_append, List.length_take, List.length_drop, List.length_set, List.length_replicate, List.length_cons, List.length_nil, List.length_map, toS_length, toI_length] at *; omega))) (k := ?_)
            have hsa7 : ((toS in_2) ++ (lmCut s)).length = (toS in_2).length + (lmCut s).length := by simp only [List.length_append, List.length_cons, List.length_nil, Nat.zero_add]
            refine JG_br [9] (by kernel_rfl) rfl (List.forall_mem_cons.2 ⟨?_, nofun⟩)
            · skip
              refine JO_vg rfl (args := [(Value.string (bs ((toS in_2) ++ (lmCut s))))]) (c_callA Tryd.call19) (fun w1 hw1 => sSum_ok w1 (s := ((toS in_2) ++ (lmCut s))) (n_s := by first | omega | (simp only [List.length_append, List.length_take, List.length_drop, List.length_set, List.length_replicate, List.length_cons, List.length_nil, List.length_map, toS_length, toI_length]; omega) | (simp only [List.length_append, List.length_take, List.length_drop, List.length_set, List.length_replicate, List.length_cons, List.length_nil, List.length_map, toS_length, toI_length] at *; omega) | decide) (hG := hG.ext hw1.ext_out)) (k := ?_)
              have hsum_64427 := sSum_len ((toS in_2) ++ (lmCut s))
              refine JG_qg 10 rfl (by kernel_rfl) (q_addT (s := (toS out_3)) (s' := (sSum ((toS in_2) ++ (lmCut s)))) (h := by first | omega | (simp only [List.length_append, List.length_take, List.length_drop, List.length_set, List.length_replicate, List.length_cons, List.length_nil, List.length_map, toS_length, toI_length]; omega) | (simp only [List.length_append, List.length_take, List.length_drop, List.length_set, List.length_replicate, List.length_cons, List.length_nil, List.length_map, toS_length, toI_length] at *; omega))) (k := ?_)
              have hsa8 : ((toS out_3) ++ (sSum ((toS in_2) ++ (lmCut s)))).length = (toS out_3).length + (sSum ((toS in_2) ++ (lmCut s))).length := by simp only [List.length_append, List.length_cons, List.length_nil, Nat.zero_add]
              refine JG_br [11] (by kernel_rfl) rfl (List.forall_mem_cons.2 ⟨?_, nofun⟩)
              · skip
                refine JO_vg rfl (args := [(Value.string (bs ((toS out_3) ++ (sSum ((toS in_2) ++ (lmCut s))))))]) (c_callA Tryd.call19) (fun w1 hw1 => sSum_ok w1 (s := ((toS out_3) ++ (sSum ((toS in_2) ++ (lmCut s))))) (n_s := by first | omega | (simp only [List.length_append, List.length_take, List.length_drop, List.length_set, List.length_replicate, List.length_cons, List.length_nil, List.length_map, toS_length, toI_length]; omega) | (simp only [List.length_append, List.length_take, List.length_drop, List.length_set, List.length_replicate, List.length_cons, List.length_nil, List.length_map, toS_length, toI_length] at *; omega) | decide) (hG := hG.ext hw1.ext_out)) (k := ?_)
                have hsum_7464 := sSum_len ((toS out_3) ++ (sSum ((toS in_2) ++ (lmCut s))))
                refine JG_qg 12 rfl (by kernel_rfl) (q_eqT) (k := ?_)
                refine JG_q 13 rfl (by kernel_rfl) (q_pickT) (k := ?_)
                refine JG_q 14 rfl (by kernel_rfl) (q_assign) (k := ?_)
                refine JG_nil (by kernel_rfl) _ ?_
                refine JL_nil ?_
                exact JX_join0  (Is.refl ()) (by repeat (first | exact SubE.nil | refine SubE.cons rfl ?_)) (List.Perm.refl _)
        · skip
          refine JO_qg rfl (q_str Tryd.underlying9 Tryd.underlying33 Tryd.underlying5 (hin_2.slj eI_u8_ok)) (k := ?_)
          refine JG_qg 8 rfl (by kernel_rfl) (q_addT (s := (toS in_2)) (s' := (lmCut s)) (h := by first | omega | (simp only [List.length_append, List.length_take, List.length_drop, List.length_set, List.length_replicate, List.length_cons, List.length_nil, List.length_map, toS_length, toI_length]; omega) | (simp only [List.length_append, List.length_take, List.length_drop, List.length_set, List.length_replicate, List.length_cons, List.length_nil, List.length_map, toS_length, toI_length] at *; omega))) (k := ?_)
          have hsa9 : ((toS in_2) ++ (lmCut s)).length = (toS in_2).length + (lmCut s).length := by simp only [List.length_append, List.length_cons, List.length_nil, Nat.zero_add]
          refine JG_br [4, 9] (by kernel_rfl) rfl (List.forall_mem_cons.2 ⟨?_, (List.forall_mem_cons.2 ⟨?_, nofun⟩)⟩)
          · skip
            refine JO_qg rfl (q_str Tryd.underlying9 Tryd.underlying33 Tryd.underlying5 (hout_3.slj eI_u8_ok)) (k := ?_)
            refine JG_br [9] (by kernel_rfl) rfl (List.forall_mem_cons.2 ⟨?_, nofun⟩)
            · skip
              refine JO_vg rfl (args := [(Value.string (bs ((toS in_2) ++ (lmCut s))))]) (c_callA Tryd.call19) (fun w1 hw1 => sSum_ok w1 (s := ((toS in_2) ++ (lmCut s))) (n_s := by first | omega | (simp only [List.length_append, List.length_take, List.length_drop, List.length_set, List.length_replicate, List.length_cons, List.length_nil, List.length_map, toS_length, toI_length]; omega) | (simp only [List.length_append, List.length_take, List.length_drop, List.length_set, List.length_replicate, List.length_cons, List.length_nil, List.length_map, toS_length, toI_length] at *; omega) | decide) (hG := hG.ext hw1.ext_out)) (k := ?_)
              have hsum_64427 := sSum_len ((toS in_2) ++ (lmCut s))
              refine JG_qg 10 rfl (by kernel_rfl) (q_addT (s := (toS out_3)) (s' := (sSum ((toS in_2) ++ (lmCut s)))) (h := by first | omega | (simp only [List.length_append, List.length_take, List.length_drop, List.length_set, List.length_replicate, List.length_cons, List.length_nil, List.length_map, toS_length, toI_length]; omega) | (simp only [List.length_append, List.length_take, List.length_drop, List.length_set, List.length_replicate, List.length_cons, List.length_nil, List.length_map, toS_length, toI_length] at *; omega))) (k := ?_)
              have hsa10 : ((toS out_3) ++ (sSum ((toS in_2) ++ (lmCut s)))).length = (toS out_3).length + (sSum ((toS in_2) ++ (lmCut s))).length := by simp only [List.length_append, List.length_cons, List.length_nil, Nat.zero_add]
              refine JG_br [11] (by kernel_rfl) rfl (List.forall_mem_cons.2 ⟨?_, nofun⟩)
              · skip
                refine JO_vg rfl (args := [(Value.string (bs ((toS out_3) ++ (sSum ((toS in_2) ++ (lmCut s))))))]) (c_callA Tryd.call19) (fun w1 hw1 => sSum_ok w1 (s := ((toS out_3) ++ (sSum ((toS in_2) ++ (lmCut s))))) (n_s := by first | omega | (simp only [List.length_append, List.length_take, List.length_drop, List.length_set, List.length_replicate, List.length_cons, List.length_nil, List.length_map, toS_length, toI_length]; omega) | (simp only [List.length_append, List.length_take, List.length_drop, List.length_set, List.length_replicate, List.length_cons, List.length_nil, List.length_map, toS_length, toI_length] at *; omega) | decide) (hG := hG.ext hw1.ext_out)) (k := ?_)
                have hsum_7464 := sSum_len ((toS out_3) ++ (sSum ((toS in_2) ++ (lmCut s))))
                refine JG_qg 12 rfl (by kernel_rfl) (q_eqT) (k := ?_)
                refine JG_q 13 rfl (by kernel_rfl) (q_pickT) (k := ?_)
                refine JG_q 14 rfl (by kernel_rfl) (q_assign) (k := ?_)
                refine JG_nil (by kernel_rfl) _ ?_
                refine JL_nil ?_
                exact JX_join0  (Is.refl ()) (by repeat (first | exact SubE.nil | refine SubE.cons rfl ?_)) (List.Perm.refl _)
          · skip
            refine JO_vg rfl (args := [(Value.string (bs ((toS in_2) ++ (lmCut s))))]) (c_callA Tryd.call19) (fun w1 hw1 => sSum_ok w1 (s := ((toS in_2) ++ (lmCut s))) (n_s := by first | omega | (simp only [List.length_append, List.length_take, List.length_drop, List.length_set, List.length_replicate, List.length_cons, List.length_nil, List.length_map, toS_length, toI_length]; omega) | (simp only [List.length_append, List.length_take, List.length_drop, List.length_set, List.length_replicate, List.length_cons, List.length_nil, List.length_map, toS_length, toI_length] at *; omega) | decide) (hG := hG.ext hw1.ext_out)) (k := ?_)
            have hsum_64427 := sSum_len ((toS in_2) ++ (lmCut s))
            refine JG_br [4] (by kernel_rfl) rfl (List.forall_mem_cons.2 ⟨?_, nofun⟩)
            · skip
              refine JO_qg rfl (q_str Tryd.underlying9 Tryd.underlying33 Tryd.underlying5 (hout_3.slj eI_u8_ok)) (k := ?_)
              refine JG_qg 10 rfl (by kernel_rfl) (q_addT (s := (toS out_3)) (s' := (sSum ((toS in_2) ++ (lmCut s)))) (h := by first | omega | (simp only [List.length_append, List.length_take, List.length_drop, List.length_set, List.length_replicate, List.length_cons, List.length_nil, List.length_map, toS_length, toI_length]; omega) | (simp only [List.length_append, List.length_take, List.length_drop, List.length_set, List.length_replicate, List.length_cons, List.length_nil, List.length_map, toS_length, toI_length] at *; omega))) (k := ?_)
              have hsa11 : ((toS out_3) ++ (sSum ((toS in_2) ++ (lmCut s)))).length = (toS out_3).length + (sSum ((toS in_2) ++ (lmCut s))).length := by simp only [List.length_append, List.length_cons, List.length_nil, Nat.zero_add]
              refine JG_br [11] (by kernel_rfl) rfl (List.forall_mem_cons.2 ⟨?_, nofun⟩)
              · skip
                refine JO_vg rfl (args := [(Value.string (bs ((toS out_3) ++ (sSum ((toS in_2) ++ (lmCut s))))))]) (c_callA Tryd.call19) (fun w1 hw1 => sSum_ok w1 (s := ((toS out_3) ++ (sSum ((toS in_2) ++ (lmCut s))))) (n_s := by first | omega | (simp only [List.length_append, List.length_take, List.length_drop, List.length_set, List.length_replicate, List.length_cons, List.length_nil, List.length_map, toS_length, toI_length]; omega) | (simp only [List.length_append, List.length_take, List.length_drop, List.length_set, List.length_replicate, List.length_cons, List.length_nil, List.length_map, toS_length, toI_length] at *; omega) | decide) (hG := hG.ext hw1.ext_out)) (k := ?_)
                have hsum_7464 := sSum_len ((toS out_3) ++ (sSum ((toS in_2) ++ (lmCut s))))
                refine JG_qg 12 rfl (by kernel_rfl) (q_eqT) (k := ?_)
                refine JG_q 13 rfl (by kernel_rfl) (q_pickT) (k := ?_)
                refine JG_q 14 rfl (by kernel_rfl) (q_assign) (k := ?_)
                refine JG_nil (by kernel_rfl) _ ?_
                refine JL_nil ?_
                exact JX_join0  (Is.refl ()) (by repeat (first | exact SubE.nil | refine SubE.cons rfl ?_)) (List.Perm.refl _)
      intro  hJ10
      refine JX_seq ?_
      refine J_ret ?_
      refine JX_ret Tryd.results7 (Res.tmp rfl Res.nil) (fun w1 hw1 => ?_)
      exact ⟨(by rw [((((hF.neg hq1).rn3 (hF5.neg hq3)).rn0 hJ10)).eq] <;> first | rfl | (simp only [List.length_set] <;> rfl)), hw1.ext_out⟩
    refine J_skip ?_
    refine JX_seq ?_
    refine J_seq ?_
    refine J_block ?_
    refine J_seq ?_
    refine J_reg ?_
    refine JL_q (q_assign) (k := ?_)
    refine JL_nil ?_
    refine JX_seq ?_
    refine J_seq ?_
    refine J_seq ?_
    refine J_reg ?_
    refine JL_q (q_move) (k := ?_)
    refine JL_q (q_move) (k := ?_)
    refine JL_q (q_lenT Tryd.runUnderlying9) (k := ?_)
    refine JL_q (q_lss) (k := ?_)
    refine JL_nil ?_
    refine JX_seq ?_
    refine J_dec rfl (fun hq4 => ?_) (fun hq4 => ?_)
    rotate_left
    · refine J_skip ?_
      refine JX_seq ?_
      refine J_seq ?_
      refine J_reg ?_
      refine JL_q (q_move) (k := ?_)
      refine JL_q (q_move) (k := ?_)
      refine JL_q (q_xorW) (k := ?_)
      refine JL_a noMk (a_bslice (l := [_]) Tryd.runUnderlying33 Tryd.sizeOf5 Tryd.zeroValue5) (k := fun r3 hr3 => ?_)
      refine JL_append (in_2 ++ ([(xorI .u8 0 54)] : List Int)) rfl TY_5 Tryd.underlying33 eI_u8_ok hin_2 ((List.Perm.cons _ ((List.Perm.append_left _ (List.Perm.refl _)).trans (perm_seg _ _ _))).trans List.perm_middle.symm) (SlJ.lit (xs := ([(xorI .u8 0 54)] : List Int)) eI_u8_ok) ⟨by omega, by omega⟩ (n := in_2.length) (m := 1) (k := fun ax3 cx3 Bx3 hox3 => ?_)
      have hal3 : (in_2 ++ ([(xorI .u8 0 54)] : List Int)).length = in_2.length + 1 := by first | rfl | simp
      refine JL_q (q_assign) (k := ?_)
      refine JL_nil ?_
      refine JX_seq ?_
      refine J_reg ?_
      refine JL_q (q_move) (k := ?_)
      refine JL_q (q_move) (k := ?_)
      refine JL_q (q_xorW) (k := ?_)
      refine JL_a noMk (a_bslice (l := [_]) Tryd.runUnderlying33 Tryd.sizeOf5 Tryd.zeroValue5) (k := fun r4 hr4 => ?_)
      refine JL_append (out_3 ++ ([(xorI .u8 0 92)] : List Int)) rfl TY_5 Tryd.underlying33 eI_u8_ok hout_3 ((List.Perm.cons _ ((List.Perm.append_left _ ((List.Perm.cons _ (List.Perm.refl _)).trans List.perm_middle.symm)).trans (perm_seg _ _ _))).trans List.perm_middle.symm) (SlJ.lit (xs := ([(xorI .u8 0 92)] : List Int)) eI_u8_ok) ⟨by omega, by omega⟩ (n := out_3.length) (m := 1) (k := fun ax4 cx4 Bx4 hox4 => ?_)
      have hal4 : (out_3 ++ ([(xorI .u8 0 92)] : List Int)).length = out_3.length + 1 := by first | rfl | simp
      refine JL_q (q_assign) (k := ?_)
      refine JL_nil ?_
      refine JX_block ?_
      refine JX_seq ?_
      refine J_reg ?_
      refine JL_q (q_move) (k := ?_)
      refine JL_q (q_add) (k := ?_)
      refine JL_q (q_assign) (k := ?_)
      refine JL_nil ?_
      refine JX_permL (Bx4 ++ (Bx3 ++ ((r4, Obj.cells [(Value.int .u8 ((xorI .u8 0 92)))].toArray 5) :: ((r3, Obj.cells [(Value.int .u8 ((xorI .u8 0 54)))].toArray 5) :: [])))) (((List.Perm.append_left _ ((List.Perm.cons _ (List.Perm.refl _)).trans List.perm_middle.symm)).trans (perm_seg _ _ _)).trans ((List.Perm.append_left _ (List.Perm.refl _)).trans (perm_seg _ _ _))) ?_
      refine JX_subL (Bx4 ++ (Bx3 ++ [])) (List.Sublist.append (List.Sublist.refl _) (List.Sublist.append (List.Sublist.refl _) (List.nil_sublist _))) ?_
      exact JX_inv10 n_4 (i_1 + 1) (in_2 ++ ([(xorI .u8 0 54)] : List Int)) ax3 cx3 Bx3 (out_3 ++ ([(xorI .u8 0 92)] : List Int)) ax4 cx4 Bx4 ⟨by omega, ((hF5.pos hq3).neg hq4), hox3, hox4, (by omega), (by omega), (by omega)⟩ (Nat.lt_succ_self _) (by repeat (first | exact SubE.nil | refine SubE.cons rfl ?_)) (List.Perm.refl _)
    refine J_reg ?_
    refine JL_q (q_move) (k := ?_)
    refine JL_q (q_move) (k := ?_)
    have hu47 := u8_lt ((key.take (min key.length 64)).getD i_1 default)
    refine JL_q (q_idxT (s := (key.take (min key.length 64))) i_1 Tryd.runUnderlying9 (by first | omega | (simp only [List.length_set]; omega) | (simp only [List.length_append, List.length_take, List.length_drop, List.length_set, List.length_replicate, List.length_cons, List.length_nil, List.length_map, toS_length, toI_length]; omega))) (k := ?_)
    refine JL_q (q_assign) (k := ?_)
    refine JL_nil ?_
    refine JX_seq ?_
    refine J_seq ?_
    refine J_reg ?_
    refine JL_q (q_move) (k := ?_)
    refine JL_q (q_move) (k := ?_)
    refine JL_q (q_xorW) (k := ?_)
    refine JL_a noMk (a_bslice (l := [_]) Tryd.runUnderlying33 Tryd.sizeOf5 Tryd.zeroValue5) (k := fun r1 hr1 => ?_)
    refine JL_append (in_2 ++ ([(xorI .u8 ((((key.take (min key.length 64)).getD i_1 default).toNat : Nat) : Int) 54)] : List Int)) rfl TY_5 Tryd.underlying33 eI_u8_ok hin_2 ((List.Perm.cons _ ((List.Perm.append_left _ (List.Perm.refl _)).trans (perm_seg _ _ _))).trans List.perm_middle.symm) (SlJ.lit (xs := ([(xorI .u8 ((((key.take (min key.length 64)).getD i_1 default).toNat : Nat) : Int) 54)] : List Int)) eI_u8_ok) ⟨by omega, by omega⟩ (n := in_2.length) (m := 1) (k := fun ax1 cx1 Bx1 hox1 => ?_)
    have hal1 : (in_2 ++ ([(xorI .u8 ((((key.take (min key.length 64)).getD i_1 default).toNat : Nat) : Int) 54)] : List Int)).length = in_2.length + 1 := by first | rfl | simp
    refine JL_q (q_assign) (k := ?_)
    refine JL_nil ?_
    refine JX_seq ?_
    refine J_reg ?_
    refine JL_q (q_move) (k := ?_)
    refine JL_q (q_move) (k := ?_)
    refine JL_q (q_xorW) (k := ?_)
    refine JL_a noMk (a_bslice (l := [_]) Tryd.runUnderlying33 Tryd.sizeOf5 Tryd.zeroValue5) (k := fun r2 hr2 => ?_)
    refine JL_append (out_3 ++ ([(xorI .u8 ((((key.take (min key.length 64)).getD i_1 default).toNat : Nat) : Int) 92)] : List Int)) rfl TY_5 Tryd.underlying33 eI_u8_ok hout_3 ((List.Perm.cons _ ((List.Perm.append_left _ ((List.Perm.cons _ (List.Perm.refl _)).trans List.perm_middle.symm)).trans (perm_seg _ _ _))).trans List.perm_middle.symm) (SlJ.lit (xs := ([(xorI .u8 ((((key.take (min key.length 64)).getD i_1 default).toNat : Nat) : Int) 92)] : List Int)) eI_u8_ok) ⟨by omega, by omega⟩ (n := out_3.length) (m := 1) (k := fun ax2 cx2 Bx2 hox2 => ?_)
    have hal2 : (out_3 ++ ([(xorI .u8 ((((key.take (min key.length 64)).getD i_1 default).toNat : Nat) : Int) 92)] : List Int)).length = out_3.length + 1 := by first | rfl | simp
    refine JL_q (q_assign) (k := ?_)
    refine JL_nil ?_
    refine JX_block ?_
    refine JX_seq ?_
    refine J_reg ?_
    refine JL_q (q_move) (k := ?_)
    refine JL_q (q_add) (k := ?_)
    refine JL_q (q_assign) (k := ?_)
    refine JL_nil ?_
    refine JX_permL (Bx2 ++ (Bx1 ++ ((r2, Obj.cells [(Value.int .u8 ((xorI .u8 ((((key.take (min key.length 64)).getD i_1 default).toNat : Nat) : Int) 92)))].toArray 5) :: ((r1, Obj.cells [(Value.int .u8 ((xorI .u8 ((((key.take (min key.length 64)).getD i_1 default).toNat : Nat) : Int) 54)))].toArray 5) :: [])))) (((List.Perm.append_left _ ((List.Perm.cons _ (List.Perm.refl _)).trans List.perm_middle.symm)).trans (perm_seg _ _ _)).trans ((List.Perm.append_left _ (List.Perm.refl _)).trans (perm_seg _ _ _))) ?_
    refine JX_subL (Bx2 ++ (Bx1 ++ [])) (List.Sublist.append (List.Sublist.refl _) (List.Sublist.append (List.Sublist.refl _) (List.nil_sublist _))) ?_
    exact JX_inv10 n_4 (i_1 + 1) (in_2 ++ ([(xorI .u8 ((((key.take (min key.length 64)).getD i_1 default).toNat : Nat) : Int) 54)] : List Int)) ax1 cx1 Bx1 (out_3 ++ ([(xorI .u8 ((((key.take (min key.length 64)).getD i_1 default).toNat : Nat) : Int) 92)] : List Int)) ax2 cx2 Bx2 ⟨by omega, ((hF5.pos hq3).pos hq4), hox1, hox2, (by omega), (by omega), (by omega)⟩ (Nat.lt_succ_self _) (by repeat (first | exact SubE.nil | refine SubE.cons rfl ?_)) (List.Perm.refl _)

end Go.Proofs.YtodejmindmiknaaDoor.Jd
