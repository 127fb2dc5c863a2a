/- Part of the proofs of this seat: walks and plain facts. No condition. -/
import Derived.Test.YtodejmindmiknaaDoorProg
import Derived.Test.YtodejmindmiknaaDoorJVM
import Derived.Test.YtodejmindmiknaaDoorJVN
import Derived.Test.YtodejmindmiknaaDoorJUW
import Derived.Test.YtodejmindmiknaaDoorJNI
namespace Go.Proofs.YtodejmindmiknaaDoor.Jd
open Go.Proofs
open Go.RowKit (Below)
set_option maxRecDepth 100000
set_option linter.unusedVariables false
set_option linter.unusedSimpArgs false

theorem rmRight_ok (w : World) {key : Str} : Val Tryd.prog 13 [(Value.string (bs key))] w (Value.bool ((rmRight key))) := by
  have hF := Is.refl (rmRight key)
  refine enter Tryd.func13 Tryd.ntmps13 (h := ?_)
  refine J_seq ?_
  refine J_reg ?_
  refine JL_q (q_assign) (k := ?_)
  refine JL_nil ?_
  refine JX_seq ?_
  refine J_seq ?_
  refine J_reg ?_
  refine JL_q (q_move) (k := ?_)
  refine JL_q (q_lenT Tryd.runUnderlying9) (k := ?_)
  refine JL_q (q_geq) (k := ?_)
  refine JL_q (q_move) (k := ?_)
  refine JL_dec 6 rfl (fun hq1 => ?_) (fun hq1 => ?_)
  rotate_left
  · refine JL_skips 3 rfl ?_
    refine JL_q (q_pickF) (k := ?_)
    refine JL_q (q_assign) (k := ?_)
    refine JL_nil ?_
    refine JX_seq ?_
    refine J_ret ?_
    refine JX_ret Tryd.results13 (Res.tmp rfl Res.nil) (fun w1 hw1 => ?_)
    exact ⟨(by rw [((hF.neg hq1)).eq] <;> first | rfl | (simp only [List.length_set] <;> rfl)), hw1.ext_out⟩
  refine JL_qg (q_move) (k := ?_)
  refine JL_qg (q_lenT Tryd.runUnderlying9) (k := ?_)
  refine JL_qg (q_leq) (k := ?_)
  refine JL_q (q_pickT) (k := ?_)
  refine JL_q (q_assign) (k := ?_)
  refine JL_nil ?_
  refine JX_seq ?_
  refine J_ret ?_
  refine JX_ret Tryd.results13 (Res.tmp rfl Res.nil) (fun w1 hw1 => ?_)
  exact ⟨(by rw [((hF.pos hq1)).eq] <;> first | rfl | (simp only [List.length_set] <;> rfl)), hw1.ext_out⟩

theorem rPad_ok (w : World) {key : Str} {b : Int} (n_key : key.length ≤ 1000) : Val Tryd.prog 25 [(Value.string (bs key)), (Value.int .u8 (b))] w (Value.string (bs (rPad key b))) := by
  have hF := Is.refl (rPad key b)
  refine enter Tryd.func25 Tryd.ntmps25 (h := ?_)
  refine J_seq ?_
  refine J_reg ?_
  refine JL_q (q_assign) (k := ?_)
  refine JL_nil ?_
  refine JX_seq ?_
  refine J_seq ?_
  refine J_reg ?_
  refine JL_q (q_assign) (k := ?_)
  refine JL_nil ?_
  refine JX_seq ?_
  refine J_seq ?_
  refine J_seq ?_
  refine J_reg ?_
  refine JL_q (q_assign) (k := ?_)
  refine JL_nil ?_
  refine JX_seq ?_
  refine J_block ?_
  refine J_loop6 (σ1 := Nat) (σ2 := List Int) (σ3 := Option Addr) (σ4 := Nat) (σ5 := Heap) (σ6 := Nat) (fun n_3 out_1 out_1a out_1c out_1B i_2 => (out_1B ++ [])) (fun n_3 out_1 out_1a out_1c out_1B i_2 => [(0, (Value.string (bs key))), (1, (Value.int .u8 (b))), (4, (Value.string (bs ([] : Str)))), (5, (Value.slice (out_1a) (out_1.length) (out_1c))), (6, (Value.int .i64 (((i_2 : Nat) : Int))))]) (fun n_3 out_1 out_1a out_1c out_1B i_2 => 64 - i_2 < n_3 ∧ Is (rPad_l0 key b (64 + 1) [] 0) (rPad_l0 key b n_3 out_1 i_2) ∧ OwnB eI_u8 1 5 out_1a out_1c out_1B out_1 ∧ out_1.length = i_2 ∧ i_2 ≤ 64) (fun n_3 out_1 out_1a out_1c out_1B i_2 => n_3) (64 + 1) ([]) none 0 ([]) 0 ?_ (by repeat (first | exact SubE.nil | refine SubE.cons rfl ?_)) (List.Perm.refl _) ?_
  · exact ⟨Nat.lt_succ_self _, Is.refl _, OwnB.nil, (by first | omega | rfl | (simp; done)), (by first | omega | rfl | (simp; done))⟩
  · rintro (_ | n_3) out_1 out_1a out_1c out_1B i_2 ⟨hm5, hF4, hout_1, hi6, hi7⟩
    · omega
    refine J_seq ?_
    refine J_seq ?_
    refine J_reg ?_
    refine JL_q (q_move) (k := ?_)
    refine JL_q (q_lss) (k := ?_)
    refine JL_nil ?_
    refine JX_seq ?_
    refine J_dec rfl (fun hq1 => ?_) (fun hq1 => ?_)
    rotate_left
    · refine J_exit ?_
      refine JX_seq_exit ?_
      refine JX_inv_exit ?_
      refine JX_block_hit ?_
      refine JX_seq ?_
      refine J_seq ?_
      refine J_reg ?_
      refine JL_q (q_move) (k := ?_)
      refine JL_q (q_str Tryd.underlying9 Tryd.underlying33 Tryd.underlying5 (hout_1.slj eI_u8_ok)) (k := ?_)
      refine JL_q (q_assign) (k := ?_)
      refine JL_nil ?_
      refine JX_seq ?_
      refine J_ret ?_
      refine JX_ret Tryd.results25 (Res.tmp rfl Res.nil) (fun w1 hw1 => ?_)
      exact ⟨(by rw [((hF.rn2 (hF4.neg hq1))).eq] <;> first | rfl | (simp only [List.length_set] <;> rfl)), hw1.ext_out⟩
    refine J_skip ?_
    refine JX_seq ?_
    refine J_seq ?_
    refine J_block ?_
    refine J_seq ?_
    refine J_reg ?_
    refine JL_q (q_assign) (k := ?_)
    refine JL_nil ?_
    refine JX_seq ?_
    refine J_seq ?_
    refine J_seq ?_
    refine J_reg ?_
    refine JL_q (q_move) (k := ?_)
    refine JL_q (q_move) (k := ?_)
    refine JL_q (q_lenT Tryd.runUnderlying9) (k := ?_)
    refine JL_q (q_lss) (k := ?_)
    refine JL_nil ?_
    refine JX_seq ?_
    refine J_dec rfl (fun hq2 => ?_) (fun hq2 => ?_)
    rotate_left
    · refine J_skip ?_
      refine JX_seq ?_
      refine J_reg ?_
      refine JL_q (q_move) (k := ?_)
      refine JL_q (q_move) (k := ?_)
      refine JL_q (q_move) (k := ?_)
      refine JL_q (q_xorW) (k := ?_)
      refine JL_a noMk (a_bslice (l := [_]) Tryd.runUnderlying33 Tryd.sizeOf5 Tryd.zeroValue5) (k := fun r2 hr2 => ?_)
      refine JL_append (out_1 ++ ([(xorI .u8 0 b)] : List Int)) rfl TY_5 Tryd.underlying33 eI_u8_ok hout_1 ((List.Perm.cons _ (List.Perm.refl _)).trans List.perm_middle.symm) (SlJ.lit (xs := ([(xorI .u8 0 b)] : List Int)) eI_u8_ok) ⟨by omega, by omega⟩ (n := out_1.length) (m := 1) (k := fun ax2 cx2 Bx2 hox2 => ?_)
      have hal2 : (out_1 ++ ([(xorI .u8 0 b)] : List Int)).length = out_1.length + 1 := by first | rfl | simp
      refine JL_q (q_assign) (k := ?_)
      refine JL_nil ?_
      refine JX_block ?_
      refine JX_seq ?_
      refine J_reg ?_
      refine JL_q (q_move) (k := ?_)
      refine JL_q (q_add) (k := ?_)
      refine JL_q (q_assign) (k := ?_)
      refine JL_nil ?_
      refine JX_subL (Bx2 ++ []) (List.Sublist.append (List.Sublist.refl _) (List.nil_sublist _)) ?_
      exact JX_inv6 n_3 (out_1 ++ ([(xorI .u8 0 b)] : List Int)) ax2 cx2 Bx2 (i_2 + 1) ⟨by omega, ((hF4.pos hq1).neg hq2), hox2, (by omega), (by omega)⟩ (Nat.lt_succ_self _) (by repeat (first | exact SubE.nil | refine SubE.cons rfl ?_)) (List.Perm.refl _)
    refine J_reg ?_
    refine JL_q (q_move) (k := ?_)
    refine JL_q (q_move) (k := ?_)
    have hu18 := u8_lt (key.getD i_2 default)
    refine JL_q (q_idxT (s := key) i_2 Tryd.runUnderlying9 (by first | omega | (simp only [List.length_set]; omega) | (simp only [List.length_append, List.length_take, List.length_drop, List.length_set, List.length_replicate, List.length_cons, List.length_nil, List.length_map, toS_length, toI_length]; omega))) (k := ?_)
    refine JL_q (q_assign) (k := ?_)
    refine JL_nil ?_
    refine JX_seq ?_
    refine J_reg ?_
    refine JL_q (q_move) (k := ?_)
    refine JL_q (q_move) (k := ?_)
    refine JL_q (q_move) (k := ?_)
    refine JL_q (q_xorW) (k := ?_)
    refine JL_a noMk (a_bslice (l := [_]) Tryd.runUnderlying33 Tryd.sizeOf5 Tryd.zeroValue5) (k := fun r1 hr1 => ?_)
    refine JL_append (out_1 ++ ([(xorI .u8 (((key.getD i_2 default).toNat : Nat) : Int) b)] : List Int)) rfl TY_5 Tryd.underlying33 eI_u8_ok hout_1 ((List.Perm.cons _ (List.Perm.refl _)).trans List.perm_middle.symm) (SlJ.lit (xs := ([(xorI .u8 (((key.getD i_2 default).toNat : Nat) : Int) b)] : List Int)) eI_u8_ok) ⟨by omega, by omega⟩ (n := out_1.length) (m := 1) (k := fun ax1 cx1 Bx1 hox1 => ?_)
    have hal1 : (out_1 ++ ([(xorI .u8 (((key.getD i_2 default).toNat : Nat) : Int) b)] : List Int)).length = out_1.length + 1 := by first | rfl | simp
    refine JL_q (q_assign) (k := ?_)
    refine JL_nil ?_
    refine JX_block ?_
    refine JX_seq ?_
    refine J_reg ?_
    refine JL_q (q_move) (k := ?_)
    refine JL_q (q_add) (k := ?_)
    refine JL_q (q_assign) (k := ?_)
    refine JL_nil ?_
    refine JX_subL (Bx1 ++ []) (List.Sublist.append (List.Sublist.refl _) (List.nil_sublist _)) ?_
    exact JX_inv6 n_3 (out_1 ++ ([(xorI .u8 (((key.getD i_2 default).toNat : Nat) : Int) b)] : List Int)) ax1 cx1 Bx1 (i_2 + 1) ⟨by omega, ((hF4.pos hq1).pos hq2), hox1, (by omega), (by omega)⟩ (Nat.lt_succ_self _) (by repeat (first | exact SubE.nil | refine SubE.cons rfl ?_)) (List.Perm.refl _)

theorem rMacOf_ok (w : World) {key : Str} {s : Str} (n_key : key.length ≤ 1000) (n_s : s.length ≤ 10000) (hG : Gl w) : Val Tryd.prog 11 [(Value.string (bs key)), (Value.string (bs s))] w (Value.tuple [(Value.string (bs ((rMacOf key s).1))), (Value.int .i64 (((rMacOf key s).2)))].toArray) := by
  have hF := Is.refl (rMacOf key s)
  refine enter Tryd.func11 Tryd.ntmps11 (h := ?_)
  refine J_seq ?_
  refine J_reg ?_
  refine JL_q (q_assign) (k := ?_)
  refine JL_q (q_assign) (k := ?_)
  refine JL_nil ?_
  refine JX_seq ?_
  refine J_seq ?_
  refine J_seq ?_
  refine J_reg ?_
  refine JL_q (q_move) (k := ?_)
  refine JL_v (args := [(Value.string (bs key))]) (c_callA Tryd.call13) (fun w1 hw1 => rmRight_ok w1 (key := key)) (k := ?_)
  refine JL_q (q_not) (k := ?_)
  refine JL_nil ?_
  refine JX_seq ?_
  refine J_cond rfl (fun hq1 => ?_) (fun hq1 => ?_)
  · refine J_seq ?_
    refine J_reg ?_
    refine JL_q (q_assign) (k := ?_)
    refine JL_q (q_assign) (k := ?_)
    refine JL_nil ?_
    refine JX_seq ?_
    refine J_ret ?_
    refine JX_seq_ret ?_
    refine JX_ret Tryd.results11 (Res.tmp rfl (Res.tmp rfl Res.nil)) (fun w1 hw1 => ?_)
    exact ⟨(by rw [((hF.t hq1)).eq] <;> first | rfl | (simp only [List.length_set] <;> rfl)), hw1.ext_out⟩
  refine J_skip ?_
  refine JX_seq ?_
  refine J_seq ?_
  refine J_reg ?_
  refine JL_q (q_move) (k := ?_)
  refine JL_v (args := [(Value.string (bs key)), (Value.int .u8 (54))]) (c_callA Tryd.call25) (fun w1 hw1 => rPad_ok w1 (key := key) (b := 54) (n_key := by first | omega | (simp only [List.length_append, List.length_take, List.length_drop, List.length_set, List.length_replicate, List.length_cons, List.length_nil, List.length_map, toS_length, toI_length]; omega) | (simp only [List.length_append, List.length_take, List.length_drop, List.length_set, List.length_replicate, List.length_cons, List.length_nil, List.length_map, toS_length, toI_length] at *; omega) | decide)) (k := ?_)
  have hrp_14579 := rPad_len key 54
  refine JL_q (q_move) (k := ?_)
  refine JL_q (q_addT (s := (rPad key 54)) (s' := s) (h := by first | omega | (simp only [List.length_append, List.length_take, List.length_drop, List.length_set, List.length_replicate, List.length_cons, List.length_nil, List.length_map, toS_length, toI_length]; omega) | (simp only [List.length_append, List.length_take, List.length_drop, List.length_set, List.length_replicate, List.length_cons, List.length_nil, List.length_map, toS_length, toI_length] at *; omega))) (k := ?_)
  have hsa1 : ((rPad key 54) ++ s).length = (rPad key 54).length + s.length := by simp only [List.length_append, List.length_cons, List.length_nil, Nat.zero_add]
  refine JL_v (args := [(Value.string (bs ((rPad key 54) ++ s)))]) (c_callA Tryd.call24) (fun w1 hw1 => rsSum_ok w1 (s := ((rPad key 54) ++ s)) (n_s := by first | omega | (simp only [List.length_append, List.length_take, List.length_drop, List.length_set, List.length_replicate, List.length_cons, List.length_nil, List.length_map, toS_length, toI_length]; omega) | (simp only [List.length_append, List.length_take, List.length_drop, List.length_set, List.length_replicate, List.length_cons, List.length_nil, List.length_map, toS_length, toI_length] at *; omega) | decide) (hG := hG.ext hw1.ext_out)) (k := ?_)
  have hrs_74732 := rsSum_len ((rPad key 54) ++ s)
  refine JL_q (q_assign) (k := ?_)
  refine JL_nil ?_
  refine JX_seq ?_
  refine J_seq ?_
  refine J_reg ?_
  refine JL_q (q_move) (k := ?_)
  refine JL_v (args := [(Value.string (bs key)), (Value.int .u8 (92))]) (c_callA Tryd.call25) (fun w1 hw1 => rPad_ok w1 (key := key) (b := 92) (n_key := by first | omega | (simp only [List.length_append, List.length_take, List.length_drop, List.length_set, List.length_replicate, List.length_cons, List.length_nil, List.length_map, toS_length, toI_length]; omega) | (simp only [List.length_append, List.length_take, List.length_drop, List.length_set, List.length_replicate, List.length_cons, List.length_nil, List.length_map, toS_length, toI_length] at *; omega) | decide)) (k := ?_)
  have hrp_31121 := rPad_len key 92
  refine JL_q (q_move) (k := ?_)
  refine JL_q (q_addT (s := (rPad key 92)) (s' := (rsSum ((rPad key 54) ++ s))) (h := by first | omega | (simp only [List.length_append, List.length_take, List.length_drop, List.length_set, List.length_replicate, List.length_cons, List.length_nil, List.length_map, toS_length, toI_length]; omega) | (simp only [List.length_append, List.length_take, List.length_drop, List.length_set, List.length_replicate, List.length_cons, List.length_nil, List.length_map, toS_length, toI_length] at *; omega))) (k := ?_)
  have hsa2 : ((rPad key 92) ++ (rsSum ((rPad key 54) ++ s))).length = (rPad key 92).length + (rsSum ((rPad key 54) ++ s)).length := by simp only [List.length_append, List.length_cons, List.length_nil, Nat.zero_add]
  refine JL_v (args := [(Value.string (bs ((rPad key 92) ++ (rsSum ((rPad key 54) ++ s)))))]) (c_callA Tryd.call24) (fun w1 hw1 => rsSum_ok w1 (s := ((rPad key 92) ++ (rsSum ((rPad key 54) ++ s)))) (n_s := by first | omega | (simp only [List.length_append, List.length_take, List.length_drop, List.length_set, List.length_replicate, List.length_cons, List.length_nil, List.length_map, toS_length, toI_length]; omega) | (simp only [List.length_append, List.length_take, List.length_drop, List.length_set, List.length_replicate, List.length_cons, List.length_nil, List.length_map, toS_length, toI_length] at *; omega) | decide) (hG := hG.ext hw1.ext_out)) (k := ?_)
  have hrs_50538 := rsSum_len ((rPad key 92) ++ (rsSum ((rPad key 54) ++ s)))
  refine JL_q (q_assign) (k := ?_)
  refine JL_q (q_assign) (k := ?_)
  refine JL_nil ?_
  refine JX_seq ?_
  refine J_ret ?_
  refine JX_ret Tryd.results11 (Res.tmp rfl (Res.tmp rfl Res.nil)) (fun w1 hw1 => ?_)
  exact ⟨(by rw [((hF.f hq1)).eq] <;> first | rfl | (simp only [List.length_set] <;> rfl)), hw1.ext_out⟩

theorem rNum_ok (w : World) {n_ : Int} (hn : 0 ≤ n_ ∧ n_ ≤ 1000000000000) : Val Tryd.prog 30 [(Value.int .i64 (n_))] w (Value.string (bs (Lib.itoa n_))) := by
  have hF := Is.refl (Lib.itoa n_)
  refine enter Tryd.func30 Tryd.ntmps30 (h := ?_)
  refine J_seq ?_
  refine J_reg ?_
  refine JL_q (q_assign) (k := ?_)
  refine JL_nil ?_
  refine JX_seq ?_
  refine J_seq ?_
  refine J_seq ?_
  refine J_reg ?_
  refine JL_q (q_move) (k := ?_)
  refine JL_q (q_lss) (k := ?_)
  refine JL_nil ?_
  refine JX_seq ?_
  refine J_dec rfl (fun hq1 => ?_) (fun hq1 => ?_)
  · refine J_seq ?_
    refine J_reg ?_
    refine JL_q (q_move) (k := ?_)
    refine JL_q (q_move) (k := ?_)
    refine JL_q (q_add) (k := ?_)
    refine JL_q (q_subT (s := ([48, 49, 50, 51, 52, 53, 54, 55, 56, 57] : Str)) ((n_).toNat) (((n_ + 1)).toNat) Tryd.runUnderlying9 (by first | omega | (simp; omega)) (by first | omega | (simp; omega))) (k := ?_)
    have hsb1 : ((([48, 49, 50, 51, 52, 53, 54, 55, 56, 57] : Str).take (((n_ + 1)).toNat)).drop ((n_).toNat)).length = (((n_ + 1)).toNat) - ((n_).toNat) := by first | omega | (simp only [List.length_take, List.length_drop, List.length_cons, List.length_nil] <;> omega)
    refine JL_q (q_assign) (k := ?_)
    refine JL_nil ?_
    refine JX_seq ?_
    refine J_ret ?_
    refine JX_seq_ret ?_
    refine JX_ret Tryd.results30 (Res.tmp rfl Res.nil) (fun w1 hw1 => ?_)
    exact ⟨(by first | exact congrArg (fun q => Ending.returned (Value.string (bs q))) (num_small (n := n_) (by omega)) | exact congrArg (fun q => Ending.returned (Value.string (bs q))) (num_big (n := n_) (by omega))), hw1.ext_out⟩
  refine J_skip ?_
  refine JX_seq ?_
  refine J_seq ?_
  refine J_plan mixed 11 [(true, 0), (true, 1), (true, 3), (true, 4), (true, 5), (true, 6), (true, 7), (true, 8), (false, 2), (true, 9), (true, 10)] (by kernel_rfl) ?_
  refine JD_q (q_move) (k := ?_)
  refine JD_q (q_quo) (k := ?_)
  refine JD_q (q_move) (k := ?_)
  refine JD_q (q_rem) (k := ?_)
  refine JD_q (q_move) (k := ?_)
  refine JD_q (q_rem) (k := ?_)
  refine JD_q (q_add) (k := ?_)
  refine JD_q (q_subT (s := ([48, 49, 50, 51, 52, 53, 54, 55, 56, 57] : Str)) (((n_ % 10)).toNat) ((((n_ % 10) + 1)).toNat) Tryd.runUnderlying9 (by first | omega | (simp; omega)) (by first | omega | (simp; omega))) (k := ?_)
  have hsb2 : ((([48, 49, 50, 51, 52, 53, 54, 55, 56, 57] : Str).take ((((n_ % 10) + 1)).toNat)).drop (((n_ % 10)).toNat)).length = ((((n_ % 10) + 1)).toNat) - (((n_ % 10)).toNat) := by first | omega | (simp only [List.length_take, List.length_drop, List.length_cons, List.length_nil] <;> omega)
  refine JD_v (args := [(Value.int .i64 ((n_ / 10)))]) (c_callA Tryd.call30) (fun w1 hw1 => rNum_ok w1 (n_ := (n_ / 10)) (hn := by first | omega | (simp only [List.length_append, List.length_take, List.length_drop, List.length_set, List.length_replicate, List.length_cons, List.length_nil, List.length_map, toS_length, toI_length]; omega) | (simp only [List.length_append, List.length_take, List.length_drop, List.length_set, List.length_replicate, List.length_cons, List.length_nil, List.length_map, toS_length, toI_length] at *; omega) | decide)) (k := ?_)
  have hil_68167 := itoa_len (n := (n_ / 10)) (by omega)
  refine JD_q (q_addT (s := (Lib.itoa (n_ / 10))) (s' := ((([48, 49, 50, 51, 52, 53, 54, 55, 56, 57] : Str).take ((((n_ % 10) + 1)).toNat)).drop (((n_ % 10)).toNat))) (h := by first | omega | (simp only [List.length_take, List.length_drop, List.length_cons, List.length_nil]; omega) | (simp; omega))) (k := ?_)
  have hsa3 : ((Lib.itoa (n_ / 10)) ++ ((([48, 49, 50, 51, 52, 53, 54, 55, 56, 57] : Str).take ((((n_ % 10) + 1)).toNat)).drop (((n_ % 10)).toNat))).length = (Lib.itoa (n_ / 10)).length + ((([48, 49, 50, 51, 52, 53, 54, 55, 56, 57] : Str).take ((((n_ % 10) + 1)).toNat)).drop (((n_ % 10)).toNat)).length := by simp only [List.length_append, List.length_cons, List.length_nil, Nat.zero_add]
  refine JD_q (q_assign) (k := ?_)
  refine JD_nil0 ?_
  refine JL_nil ?_
  refine JX_seq ?_
  refine J_ret ?_
  refine JX_ret Tryd.results30 (Res.tmp rfl Res.nil) (fun w1 hw1 => ?_)
  exact ⟨(by first | exact congrArg (fun q => Ending.returned (Value.string (bs q))) (num_small (n := n_) (by omega)) | exact congrArg (fun q => Ending.returned (Value.string (bs q))) (num_big (n := n_) (by omega))), hw1.ext_out⟩
  termination_by n_.toNat
  decreasing_by omega

theorem rChal_ok (w : World) {a : Int} {b : Int} (hG : Gl w) : Val Tryd.prog 16 [(Value.int .i64 (a)), (Value.int .i64 (b))] w (Value.tuple [(Value.string (bs ((rChal a b).1))), (Value.int .i64 (((rChal a b).2)))].toArray) := by
  have hF := Is.refl (rChal a b)
  refine enter Tryd.func16 Tryd.ntmps16 (h := ?_)
  refine J_seq ?_
  refine J_reg ?_
  refine JL_q (q_assign) (k := ?_)
  refine JL_q (q_assign) (k := ?_)
  refine JL_nil ?_
  refine JX_seq ?_
  refine J_seq ?_
  refine J_seq ?_
  refine J_reg ?_
  refine JL_q (q_move) (k := ?_)
  refine JL_q (q_lss) (k := ?_)
  refine JL_q (q_move) (k := ?_)
  refine JL_dec 8 rfl (fun hq1 => ?_) (fun hq1 => ?_)
  · refine JL_skips 2 rfl ?_
    refine JL_q (q_pickT) (k := ?_)
    refine JL_q (q_move) (k := ?_)
    refine JL_skips 2 rfl ?_
    refine JL_q (q_pickT) (k := ?_)
    refine JL_q (q_move) (k := ?_)
    refine JL_skips 2 rfl ?_
    refine JL_q (q_pickT) (k := ?_)
    refine JL_nil ?_
    refine JX_seq ?_
    refine J_true rfl ?_
    refine J_seq ?_
    refine J_reg ?_
    refine JL_q (q_assign) (k := ?_)
    refine JL_q (q_assign) (k := ?_)
    refine JL_nil ?_
    refine JX_seq ?_
    refine J_ret ?_
    refine JX_seq_ret ?_
    refine JX_ret Tryd.results16 (Res.tmp rfl (Res.tmp rfl Res.nil)) (fun w1 hw1 => ?_)
    exact ⟨(by rw [((hF.pos hq1)).eq] <;> first | rfl | (simp only [List.length_set] <;> rfl)), hw1.ext_out⟩
  refine JL_qg (q_move) (k := ?_)
  refine JL_qg (q_gtr) (k := ?_)
  refine JL_q (q_pickF) (k := ?_)
  refine JL_q (q_move) (k := ?_)
  refine JL_dec 12 rfl (fun hq2 => ?_) (fun hq2 => ?_)
  · refine JL_skips 2 rfl ?_
    refine JL_q (q_pickT) (k := ?_)
    refine JL_q (q_move) (k := ?_)
    refine JL_skips 2 rfl ?_
    refine JL_q (q_pickT) (k := ?_)
    refine JL_nil ?_
    refine JX_seq ?_
    refine J_true rfl ?_
    refine J_seq ?_
    refine J_reg ?_
    refine JL_q (q_assign) (k := ?_)
    refine JL_q (q_assign) (k := ?_)
    refine JL_nil ?_
    refine JX_seq ?_
    refine J_ret ?_
    refine JX_seq_ret ?_
    refine JX_ret Tryd.results16 (Res.tmp rfl (Res.tmp rfl Res.nil)) (fun w1 hw1 => ?_)
    exact ⟨(by rw [(((hF.neg hq1).pos hq2)).eq] <;> first | rfl | (simp only [List.length_set] <;> rfl)), hw1.ext_out⟩
  refine JL_qg (q_move) (k := ?_)
  refine JL_qg (q_lss) (k := ?_)
  refine JL_q (q_pickF) (k := ?_)
  refine JL_q (q_move) (k := ?_)
  refine JL_dec 16 rfl (fun hq3 => ?_) (fun hq3 => ?_)
  · refine JL_skips 2 rfl ?_
    refine JL_q (q_pickT) (k := ?_)
    refine JL_nil ?_
    refine JX_seq ?_
    refine J_true rfl ?_
    refine J_seq ?_
    refine J_reg ?_
    refine JL_q (q_assign) (k := ?_)
    refine JL_q (q_assign) (k := ?_)
    refine JL_nil ?_
    refine JX_seq ?_
    refine J_ret ?_
    refine JX_seq_ret ?_
    refine JX_ret Tryd.results16 (Res.tmp rfl (Res.tmp rfl Res.nil)) (fun w1 hw1 => ?_)
    exact ⟨(by rw [((((hF.neg hq1).neg hq2).pos hq3)).eq] <;> first | rfl | (simp only [List.length_set] <;> rfl)), hw1.ext_out⟩
  refine JL_qg (q_move) (k := ?_)
  refine JL_qg (q_gtr) (k := ?_)
  refine JL_q (q_pickF) (k := ?_)
  refine JL_nil ?_
  refine JX_seq ?_
  refine J_dec rfl (fun hq4 => ?_) (fun hq4 => ?_)
  · refine J_seq ?_
    refine J_reg ?_
    refine JL_q (q_assign) (k := ?_)
    refine JL_q (q_assign) (k := ?_)
    refine JL_nil ?_
    refine JX_seq ?_
    refine J_ret ?_
    refine JX_seq_ret ?_
    refine JX_ret Tryd.results16 (Res.tmp rfl (Res.tmp rfl Res.nil)) (fun w1 hw1 => ?_)
    exact ⟨(by rw [(((((hF.neg hq1).neg hq2).neg hq3).pos hq4)).eq] <;> first | rfl | (simp only [List.length_set] <;> rfl)), hw1.ext_out⟩
  refine J_skip ?_
  refine JX_seq ?_
  refine J_seq ?_
  refine J_reg ?_
  refine JL_q (q_move) (k := ?_)
  refine JL_v (args := [(Value.int .i64 (a))]) (c_callA Tryd.call30) (fun w1 hw1 => rNum_ok w1 (n_ := a) (hn := by first | omega | (simp only [List.length_append, List.length_take, List.length_drop, List.length_set, List.length_replicate, List.length_cons, List.length_nil, List.length_map, toS_length, toI_length]; omega) | (simp only [List.length_append, List.length_take, List.length_drop, List.length_set, List.length_replicate, List.length_cons, List.length_nil, List.length_map, toS_length, toI_length] at *; omega) | decide)) (k := ?_)
  have hil_55907 := itoa_len (n := a) (by omega)
  refine JL_q (q_addT (s := ([99, 104, 97, 108, 108, 101, 110, 103, 101, 32] : Str)) (s' := (Lib.itoa a)) (h := by first | omega | (simp only [List.length_append, List.length_take, List.length_drop, List.length_set, List.length_replicate, List.length_cons, List.length_nil, List.length_map, toS_length, toI_length]; omega) | (simp only [List.length_append, List.length_take, List.length_drop, List.length_set, List.length_replicate, List.length_cons, List.length_nil, List.length_map, toS_length, toI_length] at *; omega))) (k := ?_)
  have hsa1 : (([99, 104, 97, 108, 108, 101, 110, 103, 101, 32] : Str) ++ (Lib.itoa a)).length = 10 + (Lib.itoa a).length := by simp only [List.length_append, List.length_cons, List.length_nil, Nat.zero_add]
  refine JL_q (q_addT (s := (([99, 104, 97, 108, 108, 101, 110, 103, 101, 32] : Str) ++ (Lib.itoa a))) (s' := ([32] : Str)) (h := by first | omega | (simp only [List.length_append, List.length_take, List.length_drop, List.length_set, List.length_replicate, List.length_cons, List.length_nil, List.length_map, toS_length, toI_length]; omega) | (simp only [List.length_append, List.length_take, List.length_drop, List.length_set, List.length_replicate, List.length_cons, List.length_nil, List.length_map, toS_length, toI_length] at *; omega))) (k := ?_)
  have hsa2 : ((([99, 104, 97, 108, 108, 101, 110, 103, 101, 32] : Str) ++ (Lib.itoa a)) ++ ([32] : Str)).length = (([99, 104, 97, 108, 108, 101, 110, 103, 101, 32] : Str) ++ (Lib.itoa a)).length + 1 := by simp only [List.length_append, List.length_cons, List.length_nil, Nat.zero_add]
  refine JL_q (q_move) (k := ?_)
  refine JL_v (args := [(Value.int .i64 (b))]) (c_callA Tryd.call30) (fun w1 hw1 => rNum_ok w1 (n_ := b) (hn := by first | omega | (simp only [List.length_append, List.length_take, List.length_drop, List.length_set, List.length_replicate, List.length_cons, List.length_nil, List.length_map, toS_length, toI_length]; omega) | (simp only [List.length_append, List.length_take, List.length_drop, List.length_set, List.length_replicate, List.length_cons, List.length_nil, List.length_map, toS_length, toI_length] at *; omega) | decide)) (k := ?_)
  have hil_38681 := itoa_len (n := b) (by omega)
  refine JL_q (q_addT (s := ((([99, 104, 97, 108, 108, 101, 110, 103, 101, 32] : Str) ++ (Lib.itoa a)) ++ ([32] : Str))) (s' := (Lib.itoa b)) (h := by first | omega | (simp only [List.length_append, List.length_take, List.length_drop, List.length_set, List.length_replicate, List.length_cons, List.length_nil, List.length_map, toS_length, toI_length]; omega) | (simp only [List.length_append, List.length_take, List.length_drop, List.length_set, List.length_replicate, List.length_cons, List.length_nil, List.length_map, toS_length, toI_length] at *; omega))) (k := ?_)
  have hsa3 : (((([99, 104, 97, 108, 108, 101, 110, 103, 101, 32] : Str) ++ (Lib.itoa a)) ++ ([32] : Str)) ++ (Lib.itoa b)).length = ((([99, 104, 97, 108, 108, 101, 110, 103, 101, 32] : Str) ++ (Lib.itoa a)) ++ ([32] : Str)).length + (Lib.itoa b).length := by simp only [List.length_append, List.length_cons, List.length_nil, Nat.zero_add]
  refine JL_v (args := [(Value.string (bs (((([99, 104, 97, 108, 108, 101, 110, 103, 101, 32] : Str) ++ (Lib.itoa a)) ++ ([32] : Str)) ++ (Lib.itoa b))))]) (c_callA Tryd.call24) (fun w1 hw1 => rsSum_ok w1 (s := (((([99, 104, 97, 108, 108, 101, 110, 103, 101, 32] : Str) ++ (Lib.itoa a)) ++ ([32] : Str)) ++ (Lib.itoa b))) (n_s := by first | omega | (simp only [List.length_append, List.length_take, List.length_drop, List.length_set, List.length_replicate, List.length_cons, List.length_nil, List.length_map, toS_length, toI_length]; omega) | (simp only [List.length_append, List.length_take, List.length_drop, List.length_set, List.length_replicate, List.length_cons, List.length_nil, List.length_map, toS_length, toI_length] at *; omega) | decide) (hG := hG.ext hw1.ext_out)) (k := ?_)
  have hrs_28138 := rsSum_len (((([99, 104, 97, 108, 108, 101, 110, 103, 101, 32] : Str) ++ (Lib.itoa a)) ++ ([32] : Str)) ++ (Lib.itoa b))
  refine JL_q (q_assign) (k := ?_)
  refine JL_q (q_assign) (k := ?_)
  refine JL_nil ?_
  refine JX_seq ?_
  refine J_ret ?_
  refine JX_ret Tryd.results16 (Res.tmp rfl (Res.tmp rfl Res.nil)) (fun w1 hw1 => ?_)
  exact ⟨(by rw [(((((hF.neg hq1).neg hq2).neg hq3).neg hq4)).eq] <;> first | rfl | (simp only [List.length_set] <;> rfl)), hw1.ext_out⟩

theorem rAns_ok (w : World) {key : Str} {challenge : Str} {name : Str} (n_key : key.length ≤ 1000) (n_name : name.length ≤ 5000) (hG : Gl w) : Val Tryd.prog 18 [(Value.string (bs key)), (Value.string (bs challenge)), (Value.string (bs name))] w (Value.tuple [(Value.string (bs ((rAns key challenge name).1))), (Value.int .i64 (((rAns key challenge name).2)))].toArray) := by
  have hF := Is.refl (rAns key challenge name)
  refine enter Tryd.func18 Tryd.ntmps18 (h := ?_)
  refine J_seq ?_
  refine J_reg ?_
  refine JL_q (q_assign) (k := ?_)
  refine JL_q (q_assign) (k := ?_)
  refine JL_nil ?_
  refine JX_seq ?_
  refine J_seq ?_
  refine J_seq ?_
  refine J_reg ?_
  refine JL_q (q_move) (k := ?_)
  refine JL_v (args := [(Value.string (bs key))]) (c_callA Tryd.call13) (fun w1 hw1 => rmRight_ok w1 (key := key)) (k := ?_)
  refine JL_q (q_not) (k := ?_)
  refine JL_nil ?_
  refine JX_seq ?_
  refine J_cond rfl (fun hq1 => ?_) (fun hq1 => ?_)
  · refine J_seq ?_
    refine J_reg ?_
    refine JL_q (q_assign) (k := ?_)
    refine JL_q (q_assign) (k := ?_)
    refine JL_nil ?_
    refine JX_seq ?_
    refine J_ret ?_
    refine JX_seq_ret ?_
    refine JX_ret Tryd.results18 (Res.tmp rfl (Res.tmp rfl Res.nil)) (fun w1 hw1 => ?_)
    exact ⟨(by rw [((hF.t hq1)).eq] <;> first | rfl | (simp only [List.length_set] <;> rfl)), hw1.ext_out⟩
  refine J_skip ?_
  refine JX_seq ?_
  refine J_seq ?_
  refine J_seq ?_
  refine J_reg ?_
  refine JL_q (q_move) (k := ?_)
  refine JL_q (q_lenT Tryd.runUnderlying9) (k := ?_)
  refine JL_q (q_neq) (k := ?_)
  refine JL_nil ?_
  refine JX_seq ?_
  refine J_dec rfl (fun hq2 => ?_) (fun hq2 => ?_)
  · refine J_seq ?_
    refine J_reg ?_
    refine JL_q (q_assign) (k := ?_)
    refine JL_q (q_assign) (k := ?_)
    refine JL_nil ?_
    refine JX_seq ?_
    refine J_ret ?_
    refine JX_seq_ret ?_
    refine JX_ret Tryd.results18 (Res.tmp rfl (Res.tmp rfl Res.nil)) (fun w1 hw1 => ?_)
    exact ⟨(by rw [(((hF.f hq1).pos hq2)).eq] <;> first | rfl | (simp only [List.length_set] <;> rfl)), hw1.ext_out⟩
  refine J_skip ?_
  refine JX_seq ?_
  refine J_seq ?_
  refine J_reg ?_
  refine JL_q (q_move) (k := ?_)
  refine JL_q (q_move) (k := ?_)
  refine JL_q (q_move) (k := ?_)
  refine JL_q (q_addT (s := challenge) (s' := name) (h := by first | omega | (simp only [List.length_append, List.length_take, List.length_drop, List.length_set, List.length_replicate, List.length_cons, List.length_nil, List.length_map, toS_length, toI_length]; omega) | (simp only [List.length_append, List.length_take, List.length_drop, List.length_set, List.length_replicate, List.length_cons, List.length_nil, List.length_map, toS_length, toI_length] at *; omega))) (k := ?_)
  have hsa1 : (challenge ++ name).length = challenge.length + name.length := by simp only [List.length_append, List.length_cons, List.length_nil, Nat.zero_add]
  refine JL_v (args := [(Value.string (bs key)), (Value.string (bs (challenge ++ name)))]) (c_callA Tryd.call11) (fun w1 hw1 => rMacOf_ok w1 (key := key) (s := (challenge ++ name)) (n_key := by first | omega | (simp only [List.length_append, List.length_take, List.length_drop, List.length_set, List.length_replicate, List.length_cons, List.length_nil, List.length_map, toS_length, toI_length]; omega) | (simp only [List.length_append, List.length_take, List.length_drop, List.length_set, List.length_replicate, List.length_cons, List.length_nil, List.length_map, toS_length, toI_length] at *; omega) | decide) (n_s := by first | omega | (simp only [List.length_append, List.length_take, List.length_drop, List.length_set, List.length_replicate, List.length_cons, List.length_nil, List.length_map, toS_length, toI_length]; omega) | (simp only [List.length_append, List.length_take, List.length_drop, List.length_set, List.length_replicate, List.length_cons, List.length_nil, List.length_map, toS_length, toI_length] at *; omega) | decide) (hG := hG.ext hw1.ext_out)) (k := ?_)
  refine JL_q (q_ext) (k := ?_)
  refine JL_q (q_ext) (k := ?_)
  refine JL_q (q_assign) (k := ?_)
  refine JL_q (q_assign) (k := ?_)
  refine JL_nil ?_
  refine JX_seq ?_
  refine J_ret ?_
  refine JX_ret Tryd.results18 (Res.tmp rfl (Res.tmp rfl Res.nil)) (fun w1 hw1 => ?_)
  exact ⟨(by rw [(((hF.f hq1).neg hq2)).eq] <;> first | rfl | (simp only [List.length_set] <;> rfl)), hw1.ext_out⟩

end Go.Proofs.YtodejmindmiknaaDoor.Jd
