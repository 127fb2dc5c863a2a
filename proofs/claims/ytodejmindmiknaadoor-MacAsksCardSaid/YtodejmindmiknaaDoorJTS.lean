/- Part of the proofs of this seat: walks and plain facts. No condition. -/
import Derived.Test.YtodejmindmiknaaDoorProg
import Derived.Test.YtodejmindmiknaaDoorJSM
import Derived.Test.YtodejmindmiknaaDoorJSN
import Derived.Test.YtodejmindmiknaaDoorJTH
namespace Go.Proofs.YtodejmindmiknaaDoor.Jd
open Go.Proofs
open Go.RowKit (Below)
set_option maxRecDepth 100000
set_option linter.unusedVariables false
set_option linter.unusedSimpArgs false
theorem mixed : Tryd.prog.follows .mixedOrders = true := by kernel_rfl
theorem FO_54_0 : FieldOff Tryd.prog 54 0 0 := fun r k w => by simp [Instr.fieldAt, Instr.sureAddr, fieldPlace, addr_add]
theorem PL_51 : PlacesA Tryd.prog 51 [(0, 1), (1, 1), (2, 1), (3, 1), (4, 1), (5, 1), (6, 1), (7, 1)] := ⟨_, _, _, fun w => Tryd.runUnderlying51 w, fun w => Tryd.sizeOf49 w, fun i q h => by
  have hi : i < 8 := by simpa using (List.getElem?_eq_some_iff.1 h).1
  (iterate 8 (rcases i with _ | i; · simpa using h.symm))
  omega⟩
theorem PL_54 : Places Tryd.prog 54 [(0, 8)] := ⟨_, fun w => Tryd.runUnderlying54 w, fun w => by simp⟩
theorem PL_97 : PlacesA Tryd.prog 97 [(0, 1), (1, 1)] := ⟨_, _, _, fun w => Tryd.runUnderlying97 w, fun w => Tryd.sizeOf95 w, fun i q h => by
  have hi : i < 2 := by simpa using (List.getElem?_eq_some_iff.1 h).1
  (iterate 2 (rcases i with _ | i; · simpa using h.symm))
  omega⟩
theorem TY_5 : Ty Tryd.prog 5 1 1 (Value.int .u8 (0)) := ⟨⟨Tryd.t5, by kernel_rfl, rfl, rfl, rfl⟩, rfl⟩
theorem rotl_ok (w : World) {x : Int} {k : Int} : Val Tryd.prog 75 [(Value.int .u32 (x)), (Value.int .i64 (k))] w (Value.int .u32 ((rotl x k))) := by
  have hF := Is.refl (rotl x k)
  refine enter Tryd.func75 Tryd.ntmps75 (h := ?_)
  refine J_seq ?_
  refine J_reg ?_
  refine JL_q (q_assign) (k := ?_)
  refine JL_nil ?_
  refine JX_seq ?_
  refine J_seq ?_
  refine J_reg ?_
  refine JL_q (q_move) (k := ?_)
  refine JL_q (q_conv rfl Tryd.runUnderlying3 Tryd.runUnderlying59) (k := ?_)
  refine JL_q (q_andW) (k := ?_)
  refine JL_q (q_assign) (k := ?_)
  refine JL_nil ?_
  refine JX_seq ?_
  refine J_seq ?_
  refine J_reg ?_
  refine JL_q (q_move) (k := ?_)
  refine JL_q (q_move) (k := ?_)
  refine JL_q (q_shlW (h := by exact andI_nn _ _)) (k := ?_)
  refine JL_q (q_move) (k := ?_)
  refine JL_q (q_move) (k := ?_)
  refine JL_q (q_subW) (k := ?_)
  refine JL_q (q_shrW (h := by exact wrapu_nn _)) (k := ?_)
  refine JL_q (q_orW) (k := ?_)
  refine JL_q (q_assign) (k := ?_)
  refine JL_nil ?_
  refine JX_seq ?_
  refine J_ret ?_
  refine JX_ret Tryd.results75 (Res.tmp rfl Res.nil) (fun w1 hw1 => ?_)
  exact ⟨(by rw [(hF).eq] <;> first | rfl | (simp only [List.length_set] <;> rfl)), hw1.ext_out⟩

theorem wRight_ok (w : World) {w_ : Int} {n_ : Int} : Val Tryd.prog 69 [(Value.int .u32 (w_)), (Value.int .i64 (n_))] w (Value.int .u32 ((wRight w_ n_))) := by
  have hF := Is.refl (wRight w_ n_)
  refine enter Tryd.func69 Tryd.ntmps69 (h := ?_)
  refine J_seq ?_
  refine J_reg ?_
  refine JL_q (q_assign) (k := ?_)
  refine JL_nil ?_
  refine JX_seq ?_
  refine J_seq ?_
  refine J_reg ?_
  refine JL_q (q_move) (k := ?_)
  refine JL_q (q_move) (k := ?_)
  refine JL_q (q_negI) (k := ?_)
  refine JL_v (args := [(Value.int .u32 (w_)), (Value.int .i64 ((IntKind.wrap .i64 (0 - n_))))]) (c_callA Tryd.call75) (fun w1 hw1 => rotl_ok w1 (x := w_) (k := (IntKind.wrap .i64 (0 - n_)))) (k := ?_)
  refine JL_q (q_assign) (k := ?_)
  refine JL_nil ?_
  refine JX_seq ?_
  refine J_ret ?_
  refine JX_ret Tryd.results69 (Res.tmp rfl Res.nil) (fun w1 hw1 => ?_)
  exact ⟨(by rw [(hF).eq] <;> first | rfl | (simp only [List.length_set] <;> rfl)), hw1.ext_out⟩

theorem wMix_ok (w : World) {w_ : Int} {a : Int} {b : Int} {c : Int} : Val Tryd.prog 68 [(Value.int .u32 (w_)), (Value.int .i64 (a)), (Value.int .i64 (b)), (Value.int .i64 (c))] w (Value.int .u32 ((wMix w_ a b c))) := by
  have hF := Is.refl (wMix w_ a b c)
  refine enter Tryd.func68 Tryd.ntmps68 (h := ?_)
  refine J_seq ?_
  refine J_reg ?_
  refine JL_q (q_assign) (k := ?_)
  refine JL_nil ?_
  refine JX_seq ?_
  refine J_seq ?_
  refine J_reg ?_
  refine JL_q (q_move) (k := ?_)
  refine JL_q (q_move) (k := ?_)
  refine JL_v (args := [(Value.int .u32 (w_)), (Value.int .i64 (a))]) (c_callA Tryd.call69) (fun w1 hw1 => wRight_ok w1 (w_ := w_) (n_ := a)) (k := ?_)
  refine JL_q (q_move) (k := ?_)
  refine JL_q (q_move) (k := ?_)
  refine JL_v (args := [(Value.int .u32 (w_)), (Value.int .i64 (b))]) (c_callA Tryd.call69) (fun w1 hw1 => wRight_ok w1 (w_ := w_) (n_ := b)) (k := ?_)
  refine JL_q (q_xorW) (k := ?_)
  refine JL_q (q_move) (k := ?_)
  refine JL_q (q_move) (k := ?_)
  refine JL_v (args := [(Value.int .u32 (w_)), (Value.int .i64 (c))]) (c_callA Tryd.call69) (fun w1 hw1 => wRight_ok w1 (w_ := w_) (n_ := c)) (k := ?_)
  refine JL_q (q_xorW) (k := ?_)
  refine JL_q (q_assign) (k := ?_)
  refine JL_nil ?_
  refine JX_seq ?_
  refine J_ret ?_
  refine JX_ret Tryd.results68 (Res.tmp rfl Res.nil) (fun w1 hw1 => ?_)
  exact ⟨(by rw [(hF).eq] <;> first | rfl | (simp only [List.length_set] <;> rfl)), hw1.ext_out⟩

theorem wSch0_ok (w : World) {w_ : Int} : Val Tryd.prog 59 [(Value.int .u32 (w_))] w (Value.int .u32 ((wSch0 w_))) := by
  have hF := Is.refl (wSch0 w_)
  refine enter Tryd.func59 Tryd.ntmps59 (h := ?_)
  refine J_seq ?_
  refine J_reg ?_
  refine JL_q (q_assign) (k := ?_)
  refine JL_nil ?_
  refine JX_seq ?_
  refine J_seq ?_
  refine J_reg ?_
  refine JL_q (q_move) (k := ?_)
  refine JL_v (args := [(Value.int .u32 (w_)), (Value.int .i64 (7))]) (c_callA Tryd.call69) (fun w1 hw1 => wRight_ok w1 (w_ := w_) (n_ := 7)) (k := ?_)
  refine JL_q (q_move) (k := ?_)
  refine JL_v (args := [(Value.int .u32 (w_)), (Value.int .i64 (18))]) (c_callA Tryd.call69) (fun w1 hw1 => wRight_ok w1 (w_ := w_) (n_ := 18)) (k := ?_)
  refine JL_q (q_xorW) (k := ?_)
  refine JL_q (q_move) (k := ?_)
  refine JL_q (q_shrW) (k := ?_)
  refine JL_q (q_xorW) (k := ?_)
  refine JL_q (q_assign) (k := ?_)
  refine JL_nil ?_
  refine JX_seq ?_
  refine J_ret ?_
  refine JX_ret Tryd.results59 (Res.tmp rfl Res.nil) (fun w1 hw1 => ?_)
  exact ⟨(by rw [(hF).eq] <;> first | rfl | (simp only [List.length_set] <;> rfl)), hw1.ext_out⟩

theorem wSch1_ok (w : World) {w_ : Int} : Val Tryd.prog 60 [(Value.int .u32 (w_))] w (Value.int .u32 ((wSch1 w_))) := by
  have hF := Is.refl (wSch1 w_)
  refine enter Tryd.func60 Tryd.ntmps60 (h := ?_)
  refine J_seq ?_
  refine J_reg ?_
  refine JL_q (q_assign) (k := ?_)
  refine JL_nil ?_
  refine JX_seq ?_
  refine J_seq ?_
  refine J_reg ?_
  refine JL_q (q_move) (k := ?_)
  refine JL_v (args := [(Value.int .u32 (w_)), (Value.int .i64 (17))]) (c_callA Tryd.call69) (fun w1 hw1 => wRight_ok w1 (w_ := w_) (n_ := 17)) (k := ?_)
  refine JL_q (q_move) (k := ?_)
  refine JL_v (args := [(Value.int .u32 (w_)), (Value.int .i64 (19))]) (c_callA Tryd.call69) (fun w1 hw1 => wRight_ok w1 (w_ := w_) (n_ := 19)) (k := ?_)
  refine JL_q (q_xorW) (k := ?_)
  refine JL_q (q_move) (k := ?_)
  refine JL_q (q_shrW) (k := ?_)
  refine JL_q (q_xorW) (k := ?_)
  refine JL_q (q_assign) (k := ?_)
  refine JL_nil ?_
  refine JX_seq ?_
  refine J_ret ?_
  refine JX_ret Tryd.results60 (Res.tmp rfl Res.nil) (fun w1 hw1 => ?_)
  exact ⟨(by rw [(hF).eq] <;> first | rfl | (simp only [List.length_set] <;> rfl)), hw1.ext_out⟩

theorem wUpper_ok (w : World) {w_ : Int} : Val Tryd.prog 58 [(Value.int .u32 (w_))] w (Value.int .u32 ((wUpper w_))) := by
  have hF := Is.refl (wUpper w_)
  refine enter Tryd.func58 Tryd.ntmps58 (h := ?_)
  refine J_seq ?_
  refine J_reg ?_
  refine JL_q (q_assign) (k := ?_)
  refine JL_nil ?_
  refine JX_seq ?_
  refine J_seq ?_
  refine J_reg ?_
  refine JL_q (q_move) (k := ?_)
  refine JL_v (args := [(Value.int .u32 (w_)), (Value.int .i64 (2)), (Value.int .i64 (13)), (Value.int .i64 (22))]) (c_callA Tryd.call68) (fun w1 hw1 => wMix_ok w1 (w_ := w_) (a := 2) (b := 13) (c := 22)) (k := ?_)
  refine JL_q (q_assign) (k := ?_)
  refine JL_nil ?_
  refine JX_seq ?_
  refine J_ret ?_
  refine JX_ret Tryd.results58 (Res.tmp rfl Res.nil) (fun w1 hw1 => ?_)
  exact ⟨(by rw [(hF).eq] <;> first | rfl | (simp only [List.length_set] <;> rfl)), hw1.ext_out⟩

theorem wLower_ok (w : World) {w_ : Int} : Val Tryd.prog 57 [(Value.int .u32 (w_))] w (Value.int .u32 ((wLower w_))) := by
  have hF := Is.refl (wLower w_)
  refine enter Tryd.func57 Tryd.ntmps57 (h := ?_)
  refine J_seq ?_
  refine J_reg ?_
  refine JL_q (q_assign) (k := ?_)
  refine JL_nil ?_
  refine JX_seq ?_
  refine J_seq ?_
  refine J_reg ?_
  refine JL_q (q_move) (k := ?_)
  refine JL_v (args := [(Value.int .u32 (w_)), (Value.int .i64 (6)), (Value.int .i64 (11)), (Value.int .i64 (25))]) (c_callA Tryd.call68) (fun w1 hw1 => wMix_ok w1 (w_ := w_) (a := 6) (b := 11) (c := 25)) (k := ?_)
  refine JL_q (q_assign) (k := ?_)
  refine JL_nil ?_
  refine JX_seq ?_
  refine J_ret ?_
  refine JX_ret Tryd.results57 (Res.tmp rfl Res.nil) (fun w1 hw1 => ?_)
  exact ⟨(by rw [(hF).eq] <;> first | rfl | (simp only [List.length_set] <;> rfl)), hw1.ext_out⟩

theorem sWords_ok (w : World) {b : Str} (hb : b.length = 64) : Val Tryd.prog 49 [(Value.string (bs b))] w (Value.agg (aI .u32 (sWords b)).toArray) := by
  have hF := Is.refl (sWords b)
  refine enter Tryd.func49 Tryd.ntmps49 (h := ?_)
  refine J_seq ?_
  refine J_reg ?_
  refine JL_a noMk (a_alloc (l := aI .u32 (List.replicate 64 (0 : Int))) Tryd.zeroValue81 (by kernel_rfl)) (k := fun r1 hr1 => ?_)
  have hrlr1 := List.length_replicate (n := 64) (a := (0 : Int))
  refine JL_nil ?_
  refine JX_seq ?_
  refine J_seq ?_
  refine J_reg ?_
  refine JL_a noMk (a_alloc (l := aI .u32 (List.replicate 64 (0 : Int))) Tryd.zeroValue81 (by kernel_rfl)) (k := fun r2 hr2 => ?_)
  have hrlr2 := List.length_replicate (n := 64) (a := (0 : Int))
  refine JL_nil ?_
  refine JX_seq ?_
  refine J_seq ?_
  refine J_seq ?_
  refine J_reg ?_
  refine JL_q (q_move) (k := ?_)
  refine JL_nil ?_
  refine JX_seq ?_
  refine J_block ?_
  refine J_loop3 (σ1 := Nat) (σ2 := Nat) (σ3 := List Int) (fun n_3 x_1 x_2 => ((r2, Obj.cells (aI .u32 x_2).toArray 81) :: ((r1, Obj.cells (aI .u32 (List.replicate 64 (0 : Int))).toArray 81) :: []))) (fun n_3 x_1 x_2 => [(0, (Value.string (bs b))), (2, (Value.pointer (some ⟨r1, 0, none⟩))), (3, (Value.pointer (some ⟨r2, 0, none⟩))), (7, (Value.int .i64 (((x_1 : Nat) : Int))))]) (fun n_3 x_1 x_2 => 64 - x_1 < n_3 ∧ Is (sWords_l0 b (64 + 1) 0 (List.replicate 64 (0 : Int))) (sWords_l0 b n_3 x_1 x_2) ∧ x_2.length = 64 ∧ x_1 ≤ 64) (fun n_3 x_1 x_2 => n_3) (64 + 1) 0 (List.replicate 64 (0 : Int)) ?_ (by repeat (first | exact SubE.nil | refine SubE.cons rfl ?_)) (List.Perm.refl _) ?_
  · exact ⟨Nat.lt_succ_self _, Is.refl _, (by first | omega | (simp only [List.length_set]; omega) | (simp only [List.length_append, List.length_take, List.length_drop, List.length_set, List.length_replicate, List.length_cons, List.length_nil, List.length_map, toS_length, toI_length]; omega)), (by first | omega | rfl | (simp; done))⟩
  · rintro (_ | n_3) x_1 x_2 ⟨hm5, hF4, hx_2, hi6⟩
    · omega
    refine J_seq ?_
    refine J_reg ?_
    refine JL_q (q_lss) (k := ?_)
    refine JL_nil ?_
    refine JX_seq ?_
    refine J_seq ?_
    refine J_dec rfl (fun hq1 => ?_) (fun hq1 => ?_)
    rotate_left
    · refine J_exit ?_
      refine JX_seq_exit ?_
      refine JX_inv_exit ?_
      refine JX_block_hit ?_
      refine JX_seq ?_
      refine J_seq ?_
      refine J_reg ?_
      refine JL_q (q_loadAr (xs := x_2) Tryd.isAgg81 Tryd.sizeOf81 (by first | omega | (simp only [List.length_set]; omega) | (simp only [List.length_append, List.length_take, List.length_drop, List.length_set, List.length_replicate, List.length_cons, List.length_nil, List.length_map, toS_length, toI_length]; omega))) (k := ?_)
      refine JL_s (w_storeAr (xs := (List.replicate 64 (0 : Int))) (ys := x_2) Tryd.sizeOf81 (by first | omega | (simp only [List.length_set]; omega) | (simp only [List.length_append, List.length_take, List.length_drop, List.length_set, List.length_replicate, List.length_cons, List.length_nil, List.length_map, toS_length, toI_length]; omega)) (by first | omega | (simp only [List.length_set]; omega) | (simp only [List.length_append, List.length_take, List.length_drop, List.length_set, List.length_replicate, List.length_cons, List.length_nil, List.length_map, toS_length, toI_length]; omega))) (k := ?_)
      refine JL_nil ?_
      refine JX_seq ?_
      refine J_ret ?_
      refine JX_ret Tryd.results49 (Res.agg Tryd.isAgg81 Tryd.sizeOf81 rfl (by repeat (first | exact List.mem_cons_self | apply List.mem_cons_of_mem | apply List.mem_append_right)) (seg_all (l := aI .u32 x_2) (by rw [aI_length]; first | omega | (simp only [List.length_set]; omega) | (simp only [List.length_append, List.length_take, List.length_drop, List.length_set, List.length_replicate, List.length_cons, List.length_nil, List.length_map, toS_length, toI_length]; omega))) Res.nil) (fun w1 hw1 => ?_)
      exact ⟨(by rw [((hF.rn2 (hF4.neg hq1))).eq] <;> first | rfl | (simp only [List.length_set] <;> rfl)), hw1.ext_out⟩
    refine J_skip ?_
    refine JX_seq ?_
    refine J_seq ?_
    refine J_block ?_
    refine J_seq ?_
    refine J_reg ?_
    refine JL_q (q_move) (k := ?_)
    refine JL_q (q_assign) (k := ?_)
    refine JL_nil ?_
    refine JX_seq ?_
    refine J_seq ?_
    refine J_seq ?_
    refine J_reg ?_
    refine JL_q (q_move) (k := ?_)
    refine JL_q (q_lss) (k := ?_)
    refine JL_nil ?_
    refine JX_seq ?_
    refine J_dec rfl (fun hq2 => ?_) (fun hq2 => ?_)
    rotate_left
    · refine J_skip ?_
      refine JX_seq ?_
      refine J_plan mixed 23 [(true, 0), (true, 1), (true, 2), (true, 3), (true, 4), (true, 5), (true, 6), (true, 7), (true, 8), (true, 11), (true, 12), (true, 13), (true, 14), (true, 16), (true, 17), (true, 18), (true, 19), (false, 9), (true, 10), (true, 15), (false, 20), (true, 21), (true, 22)] (by kernel_rfl) ?_
      refine JD_q (q_move) (k := ?_)
      refine JD_q (q_move) (k := ?_)
      refine JD_q (q_sub) (k := ?_)
      refine JD_q (q_idxI (((((x_1 : Nat) : Int) - 16)).toNat) (((((x_1 : Nat) : Int) - 16)).toNat) Tryd.runUnderlying81 Tryd.sizeOf49 (hm := by first | omega | (simp only [List.length_set]; omega) | (simp only [List.length_append, List.length_take, List.length_drop, List.length_set, List.length_replicate, List.length_cons, List.length_nil, List.length_map, toS_length, toI_length]; omega))) (k := ?_)
      refine JD_q (q_loadI (m := (((((x_1 : Nat) : Int) - 16)).toNat)) (xs := x_2) Tryd.isAgg49 (by first | omega | (simp only [List.length_set]; omega) | (simp only [List.length_append, List.length_take, List.length_drop, List.length_set, List.length_replicate, List.length_cons, List.length_nil, List.length_map, toS_length, toI_length]; omega))) (k := ?_)
      refine JD_q (q_move) (k := ?_)
      refine JD_q (q_sub) (k := ?_)
      refine JD_q (q_idxI (((((x_1 : Nat) : Int) - 15)).toNat) (((((x_1 : Nat) : Int) - 15)).toNat) Tryd.runUnderlying81 Tryd.sizeOf49 (hm := by first | omega | (simp only [List.length_set]; omega) | (simp only [List.length_append, List.length_take, List.length_drop, List.length_set, List.length_replicate, List.length_cons, List.length_nil, List.length_map, toS_length, toI_length]; omega))) (k := ?_)
      refine JD_q (q_loadI (m := (((((x_1 : Nat) : Int) - 15)).toNat)) (xs := x_2) Tryd.isAgg49 (by first | omega | (simp only [List.length_set]; omega) | (simp only [List.length_append, List.length_take, List.length_drop, List.length_set, List.length_replicate, List.length_cons, List.length_nil, List.length_map, toS_length, toI_length]; omega))) (k := ?_)
      refine JD_q (q_move) (k := ?_)
      refine JD_q (q_sub) (k := ?_)
      refine JD_q (q_idxI (((((x_1 : Nat) : Int) - 7)).toNat) (((((x_1 : Nat) : Int) - 7)).toNat) Tryd.runUnderlying81 Tryd.sizeOf49 (hm := by first | omega | (simp only [List.length_set]; omega) | (simp only [List.length_append, List.length_take, List.length_drop, List.length_set, List.length_replicate, List.length_cons, List.length_nil, List.length_map, toS_length, toI_length]; omega))) (k := ?_)
      refine JD_q (q_loadI (m := (((((x_1 : Nat) : Int) - 7)).toNat)) (xs := x_2) Tryd.isAgg49 (by first | omega | (simp only [List.length_set]; omega) | (simp only [List.length_append, List.length_take, List.length_drop, List.length_set, List.length_replicate, List.length_cons, List.length_nil, List.length_map, toS_length, toI_length]; omega))) (k := ?_)
      refine JD_q (q_move) (k := ?_)
      refine JD_q (q_sub) (k := ?_)
      refine JD_q (q_idxI (((((x_1 : Nat) : Int) - 2)).toNat) (((((x_1 : Nat) : Int) - 2)).toNat) Tryd.runUnderlying81 Tryd.sizeOf49 (hm := by first | omega | (simp only [List.length_set]; omega) | (simp only [List.length_append, List.length_take, List.length_drop, List.length_set, List.length_replicate, List.length_cons, List.length_nil, List.length_map, toS_length, toI_length]; omega))) (k := ?_)
      refine JD_q (q_loadI (m := (((((x_1 : Nat) : Int) - 2)).toNat)) (xs := x_2) Tryd.isAgg49 (by first | omega | (simp only [List.length_set]; omega) | (simp only [List.length_append, List.length_take, List.length_drop, List.length_set, List.length_replicate, List.length_cons, List.length_nil, List.length_map, toS_length, toI_length]; omega))) (k := ?_)
      refine JD_v (args := [(Value.int .u32 ((x_2.getD (((((x_1 : Nat) : Int) - 15)).toNat) default)))]) (c_callA Tryd.call59) (fun w1 hw1 => wSch0_ok w1 (w_ := (x_2.getD (((((x_1 : Nat) : Int) - 15)).toNat) default))) (k := ?_)
      refine JD_q (q_addW) (k := ?_)
      refine JD_q (q_addW) (k := ?_)
      refine JD_v (args := [(Value.int .u32 ((x_2.getD (((((x_1 : Nat) : Int) - 2)).toNat) default)))]) (c_callA Tryd.call60) (fun w1 hw1 => wSch1_ok w1 (w_ := (x_2.getD (((((x_1 : Nat) : Int) - 2)).toNat) default))) (k := ?_)
      refine JD_q (q_addW) (k := ?_)
      refine JD_q (q_idxI x_1 x_1 Tryd.runUnderlying81 Tryd.sizeOf49 (hm := by first | omega | (simp only [List.length_set]; omega) | (simp only [List.length_append, List.length_take, List.length_drop, List.length_set, List.length_replicate, List.length_cons, List.length_nil, List.length_map, toS_length, toI_length]; omega))) (k := ?_)
      refine JD_nil0 ?_
      refine JL_s (w_storeI (m := x_1) (xs := x_2) Tryd.sizeOf49 (by first | omega | (simp only [List.length_set]; omega) | (simp only [List.length_append, List.length_take, List.length_drop, List.length_set, List.length_replicate, List.length_cons, List.length_nil, List.length_map, toS_length, toI_length]; omega))) (k := ?_)
      refine JL_nil ?_
      refine JX_block ?_
      refine JX_seq ?_
      refine J_reg ?_
      refine JL_q (q_add) (k := ?_)
      refine JL_q (q_move) (k := ?_)
      refine JL_nil ?_
      exact JX_inv3 n_3 (x_1 + 1) (x_2.set x_1 (IntKind.u32.wrap ((IntKind.u32.wrap ((IntKind.u32.wrap ((x_2.getD (((((x_1 : Nat) : Int) - 16)).toNat) default) + (wSch0 (x_2.getD (((((x_1 : Nat) : Int) - 15)).toNat) default)))) + (x_2.getD (((((x_1 : Nat) : Int) - 7)).toNat) default))) + (wSch1 (x_2.getD (((((x_1 : Nat) : Int) - 2)).toNat) default))))) ⟨by omega, ((hF4.pos hq1).neg hq2), (by first | omega | (simp only [List.length_set]; omega) | (simp only [List.length_append, List.length_take, List.length_drop, List.length_set, List.length_replicate, List.length_cons, List.length_nil, List.length_map, toS_length, toI_length]; omega)), (by omega)⟩ (Nat.lt_succ_self _) (by repeat (first | exact SubE.nil | refine SubE.cons rfl ?_)) (List.Perm.refl _)
    refine J_seq ?_
    refine J_seq ?_
    refine J_reg ?_
    refine JL_q (q_move) (k := ?_)
    refine JL_q (q_move) (k := ?_)
    refine JL_q (q_mul) (k := ?_)
    refine JL_q (q_move) (k := ?_)
    refine JL_q (q_mul) (k := ?_)
    refine JL_q (q_add) (k := ?_)
    refine JL_q (q_subT (s := b) (4 * x_1) ((4 * x_1) + 4) Tryd.runUnderlying9 (by omega) (by omega)) (k := ?_)
    have hsb3 : ((b.take ((4 * x_1) + 4)).drop (4 * x_1)).length = ((4 * x_1) + 4) - (4 * x_1) := by first | omega | (simp only [List.length_take, List.length_drop, List.length_cons, List.length_nil] <;> omega)
    refine JL_bytes (s := ((b.take ((4 * x_1) + 4)).drop (4 * x_1))) Tryd.underlying9 Tryd.underlying33 Tryd.underlying5 (k := fun ax1 cx1 Bx1 hox1 => ?_)
    have hbl1 := toI_length (s := ((b.take ((4 * x_1) + 4)).drop (4 * x_1)))
    refine JL_q (q_lenS Tryd.runUnderlying33) (k := ?_)
    refine JL_q (q_move) (k := ?_)
    refine JL_nil ?_
    refine JX_seq ?_
    refine J_block ?_
    refine J_loop3 (σ1 := Nat) (σ2 := Nat) (σ3 := List Int) (fun n_9 x_7 x_8 => (Bx1 ++ ((r2, Obj.cells (aI .u32 x_8).toArray 81) :: ((r1, Obj.cells (aI .u32 (List.replicate 64 (0 : Int))).toArray 81) :: [])))) (fun n_9 x_7 x_8 => [(0, (Value.string (bs b))), (2, (Value.pointer (some ⟨r1, 0, none⟩))), (3, (Value.pointer (some ⟨r2, 0, none⟩))), (4, (Value.int .i64 (((x_1 : Nat) : Int)))), (7, (Value.int .i64 (((x_1 : Nat) : Int)))), (19, (Value.slice (ax1) ((toI ((b.take ((4 * x_1) + 4)).drop (4 * x_1))).length) (cx1))), (20, (Value.int .i64 (((((toI ((b.take ((4 * x_1) + 4)).drop (4 * x_1))).length) : Nat) : Int)))), (21, (Value.int .i64 (((x_7 : Nat) : Int))))]) (fun n_9 x_7 x_8 => ((toI ((b.take ((4 * x_1) + 4)).drop (4 * x_1))).length) - x_7 < n_9 ∧ Is (sWords_l1 b x_1 x_2 (((toI ((b.take ((4 * x_1) + 4)).drop (4 * x_1))).length) + 1) 0 x_2) (sWords_l1 b x_1 x_2 n_9 x_7 x_8) ∧ x_8.length = 64) (fun n_9 x_7 x_8 => n_9) (((toI ((b.take ((4 * x_1) + 4)).drop (4 * x_1))).length) + 1) 0 x_2 ?_ (by repeat (first | exact SubE.nil | refine SubE.cons rfl ?_)) (List.Perm.refl _) ?_
    · exact ⟨Nat.lt_succ_self _, Is.refl _, (by first | omega | (simp only [List.length_set]; omega) | (simp only [List.length_append, List.length_take, List.length_drop, List.length_set, List.length_replicate, List.length_cons, List.length_nil, List.length_map, toS_length, toI_length]; omega))⟩
    · rintro (_ | n_9) x_7 x_8 ⟨hm11, hF10, hx_8⟩
      · omega
      refine J_seq ?_
      refine J_reg ?_
      refine JL_q (q_lss) (k := ?_)
      refine JL_nil ?_
      refine JX_seq ?_
      refine J_seq ?_
      refine J_dec rfl (fun hq3 => ?_) (fun hq3 => ?_)
      rotate_left
      · refine J_exit ?_
        refine JX_seq_exit ?_
        refine JX_inv_exit ?_
        refine JX_block_hit ?_
        refine JX_seq ?_
        refine J_exit ?_
        refine JX_seq_exit ?_
        refine JX_block_hit ?_
        refine JX_seq ?_
        refine J_reg ?_
        refine JL_q (q_add) (k := ?_)
        refine JL_q (q_move) (k := ?_)
        refine JL_nil ?_
        refine JX_permL ((r2, Obj.cells (aI .u32 x_8).toArray 81) :: ((r1, Obj.cells (aI .u32 (List.replicate 64 (0 : Int))).toArray 81) :: (Bx1 ++ []))) (((List.Perm.append_left _ ((List.Perm.cons _ (List.Perm.refl _)).trans (List.Perm.swap _ _ _))).trans List.perm_middle).trans ((List.Perm.cons _ ((List.Perm.append_left _ (List.Perm.refl _)).trans List.perm_middle)).trans (List.Perm.swap _ _ _))) ?_
        refine JX_subL ((r2, Obj.cells (aI .u32 x_8).toArray 81) :: ((r1, Obj.cells (aI .u32 (List.replicate 64 (0 : Int))).toArray 81) :: [])) (List.Sublist.cons_cons _ (List.Sublist.cons_cons _ (List.nil_sublist _))) ?_
        exact JX_inv3 n_3 (x_1 + 1) x_8 ⟨by omega, (((hF4.pos hq1).pos hq2).rn2 (hF10.neg hq3)), (by first | omega | (simp only [List.length_set]; omega) | (simp only [List.length_append, List.length_take, List.length_drop, List.length_set, List.length_replicate, List.length_cons, List.length_nil, List.length_map, toS_length, toI_length]; omega)), (by omega)⟩ (Nat.lt_succ_self _) (by repeat (first | exact SubE.nil | refine SubE.cons rfl ?_)) (List.Perm.refl _)
      refine J_skip ?_
      refine JX_seq ?_
      refine J_seq ?_
      refine J_block ?_
      refine J_seq ?_
      refine J_reg ?_
      refine JL_q (q_idx (n := (toI ((b.take ((4 * x_1) + 4)).drop (4 * x_1))).length) Tryd.runUnderlying33 Tryd.sizeOf5 x_7 (hox1.slj eI_u8_ok) (gD (by first | omega | (simp only [List.length_set]; omega) | (simp only [List.length_append, List.length_take, List.length_drop, List.length_set, List.length_replicate, List.length_cons, List.length_nil, List.length_map, toS_length, toI_length]; omega))) (by first | rfl | simp)) (k := ?_)
      refine JL_q (q_loadE Tryd.isAgg5 x_7 0 (hox1.slj eI_u8_ok) (gD (by first | omega | (simp only [List.length_set]; omega) | (simp only [List.length_append, List.length_take, List.length_drop, List.length_set, List.length_replicate, List.length_cons, List.length_nil, List.length_map, toS_length, toI_length]; omega)))) (k := ?_)
      refine JL_q (q_assign) (k := ?_)
      refine JL_nil ?_
      refine JX_seq ?_
      refine J_reg ?_
      refine JL_q (q_move) (k := ?_)
      refine JL_q (q_move) (k := ?_)
      refine JL_q (q_idxI x_1 x_1 Tryd.runUnderlying81 Tryd.sizeOf49 (hm := by first | omega | (simp only [List.length_set]; omega) | (simp only [List.length_append, List.length_take, List.length_drop, List.length_set, List.length_replicate, List.length_cons, List.length_nil, List.length_map, toS_length, toI_length]; omega))) (k := ?_)
      refine JL_q (q_loadI (m := x_1) (xs := x_8) Tryd.isAgg49 (by first | omega | (simp only [List.length_set]; omega) | (simp only [List.length_append, List.length_take, List.length_drop, List.length_set, List.length_replicate, List.length_cons, List.length_nil, List.length_map, toS_length, toI_length]; omega))) (k := ?_)
      refine JL_q (q_shlW) (k := ?_)
      refine JL_q (q_move) (k := ?_)
      refine JL_q (q_conv rfl Tryd.runUnderlying5 Tryd.runUnderlying49) (k := ?_)
      refine JL_q (q_orW) (k := ?_)
      refine JL_q (q_idxI x_1 x_1 Tryd.runUnderlying81 Tryd.sizeOf49 (hm := by first | omega | (simp only [List.length_set]; omega) | (simp only [List.length_append, List.length_take, List.length_drop, List.length_set, List.length_replicate, List.length_cons, List.length_nil, List.length_map, toS_length, toI_length]; omega))) (k := ?_)
      refine JL_s (w_storeI (m := x_1) (xs := x_8) Tryd.sizeOf49 (by first | omega | (simp only [List.length_set]; omega) | (simp only [List.length_append, List.length_take, List.length_drop, List.length_set, List.length_replicate, List.length_cons, List.length_nil, List.length_map, toS_length, toI_length]; omega))) (k := ?_)
      refine JL_nil ?_
      refine JX_block ?_
      refine JX_seq ?_
      refine J_reg ?_
      refine JL_q (q_add) (k := ?_)
      refine JL_q (q_move) (k := ?_)
      refine JL_nil ?_
      exact JX_inv3 n_9 (x_7 + 1) (x_8.set x_1 (orI .u32 (shlI .u32 (x_8.getD x_1 default) 8) (IntKind.u32.wrap ((toI ((b.take ((4 * x_1) + 4)).drop (4 * x_1))).getD x_7 default)))) ⟨by omega, (hF10.pos hq3), (by first | omega | (simp only [List.length_set]; omega) | (simp only [List.length_append, List.length_take, List.length_drop, List.length_set, List.length_replicate, List.length_cons, List.length_nil, List.length_map, toS_length, toI_length]; omega))⟩ (Nat.lt_succ_self _) (by repeat (first | exact SubE.nil | refine SubE.cons rfl ?_)) (List.Perm.refl _)

theorem sPad_ok (w : World) {s : Str} (n_s : s.length ≤ 10000000) : Val Tryd.prog 34 [(Value.string (bs s))] w (Value.string (bs (sPad s))) := by
  have hF := Is.refl (sPad s)
  refine enter Tryd.func34 Tryd.ntmps34 (h := ?_)
  refine J_seq ?_
  refine J_reg ?_
  refine JL_q (q_assign) (k := ?_)
  refine JL_nil ?_
  refine JX_seq ?_
  refine J_seq ?_
  refine J_reg ?_
  refine JL_q (q_move) (k := ?_)
  refine JL_q (q_lenT Tryd.runUnderlying9) (k := ?_)
  refine JL_q (q_mul) (k := ?_)
  refine JL_q (q_assign) (k := ?_)
  refine JL_nil ?_
  refine JX_seq ?_
  refine J_seq ?_
  refine J_reg ?_
  refine JL_q (q_move) (k := ?_)
  refine JL_bytes (s := s) Tryd.underlying9 Tryd.underlying33 Tryd.underlying5 (k := fun ax1 cx1 Bx1 hox1 => ?_)
  have hbl1 := toI_length (s := s)
  refine JL_a noMk (a_bslice (l := [_]) Tryd.runUnderlying33 Tryd.sizeOf5 Tryd.zeroValue5) (k := fun r1 hr1 => ?_)
  refine JL_append ((toI s) ++ ([128] : List Int)) rfl TY_5 Tryd.underlying33 eI_u8_ok hox1 ((List.Perm.cons _ (List.Perm.refl _)).trans List.perm_middle.symm) (SlJ.lit (xs := ([128] : List Int)) eI_u8_ok) ⟨by omega, by omega⟩ (n := (toI s).length) (m := 1) (k := fun ax2 cx2 Bx2 hox2 => ?_)
  have hal2 : ((toI s) ++ ([128] : List Int)).length = (toI s).length + 1 := by first | rfl | simp
  refine JL_q (q_assign) (k := ?_)
  refine JL_nil ?_
  refine JX_seq ?_
  refine J_seq ?_
  refine J_block ?_
  refine J_loop5 (σ1 := Nat) (σ2 := List Int) (σ3 := Option Addr) (σ4 := Nat) (σ5 := Heap) (fun n_2 out_1 out_1a out_1c out_1B => (out_1B ++ ((r1, Obj.cells [(Value.int .u8 (128))].toArray 5) :: []))) (fun n_2 out_1 out_1a out_1c out_1B => [(2, (Value.string (bs ([] : Str)))), (3, (Value.int .i64 ((((s.length : Nat) : Int) * 8)))), (4, (Value.slice (out_1a) (out_1.length) (out_1c)))]) (fun n_2 out_1 out_1a out_1c out_1B => (120 - out_1.length % 64) % 64 < n_2 ∧ Is (sPad_l0 s ((120 - ((toI s) ++ ([128] : List Int)).length % 64) % 64 + 1) ((toI s) ++ ([128] : List Int))) (sPad_l0 s n_2 out_1) ∧ OwnB eI_u8 1 5 out_1a out_1c out_1B out_1 ∧ out_1.length + (120 - out_1.length % 64) % 64 ≤ s.length + 64) (fun n_2 out_1 out_1a out_1c out_1B => n_2) ((120 - ((toI s) ++ ([128] : List Int)).length % 64) % 64 + 1) ((toI s) ++ ([128] : List Int)) ax2 cx2 Bx2 ?_ (by repeat (first | exact SubE.nil | refine SubE.cons rfl ?_)) (List.Perm.refl _) ?_
  · exact ⟨Nat.lt_succ_self _, Is.refl _, hox2, (by first | omega | rfl | (simp; done))⟩
  · rintro (_ | n_2) out_1 out_1a out_1c out_1B ⟨hm4, hF3, hout_1, hi5⟩
    · omega
    refine J_seq ?_
    refine J_seq ?_
    refine J_reg ?_
    refine JL_q (q_move) (k := ?_)
    refine JL_q (q_lenS Tryd.runUnderlying33) (k := ?_)
    refine JL_q (q_rem) (k := ?_)
    refine JL_q (q_neq) (k := ?_)
    refine JL_nil ?_
    refine JX_seq ?_
    refine J_dec rfl (fun hq1 => ?_) (fun hq1 => ?_)
    · refine J_skip ?_
      refine JX_seq ?_
      refine J_block ?_
      refine J_reg ?_
      refine JL_q (q_move) (k := ?_)
      refine JL_a noMk (a_bslice (l := [_]) Tryd.runUnderlying33 Tryd.sizeOf5 Tryd.zeroValue5) (k := fun r2 hr2 => ?_)
      refine JL_append (out_1 ++ ([0] : List Int)) rfl TY_5 Tryd.underlying33 eI_u8_ok hout_1 ((List.Perm.cons _ (List.Perm.refl _)).trans List.perm_middle.symm) (SlJ.lit (xs := ([0] : List Int)) eI_u8_ok) ⟨by omega, by omega⟩ (n := out_1.length) (m := 1) (k := fun ax3 cx3 Bx3 hox3 => ?_)
      have hal3 : (out_1 ++ ([0] : List Int)).length = out_1.length + 1 := by first | rfl | simp
      refine JL_q (q_assign) (k := ?_)
      refine JL_nil ?_
      refine JX_block ?_
      refine JX_permL (Bx3 ++ ((r1, Obj.cells [(Value.int .u8 (128))].toArray 5) :: ((r2, Obj.cells [(Value.int .u8 (0))].toArray 5) :: []))) (((List.Perm.append_left _ ((List.Perm.cons _ (List.Perm.refl _)).trans (List.Perm.swap _ _ _))).trans List.perm_middle).trans ((List.Perm.cons _ (List.Perm.refl _)).trans List.perm_middle.symm)) ?_
      refine JX_subL (Bx3 ++ ((r1, Obj.cells [(Value.int .u8 (128))].toArray 5) :: [])) (List.Sublist.append (List.Sublist.refl _) (List.Sublist.cons_cons _ (List.nil_sublist _))) ?_
      exact JX_inv5 n_2 (out_1 ++ ([0] : List Int)) ax3 cx3 Bx3 ⟨by omega, (hF3.pos hq1), hox3, (by omega)⟩ (Nat.lt_succ_self _) (by repeat (first | exact SubE.nil | refine SubE.cons rfl ?_)) (List.Perm.refl _)
    refine J_exit ?_
    refine JX_seq_exit ?_
    refine JX_inv_exit ?_
    refine JX_block_hit ?_
    refine JX_seq ?_
    refine J_seq ?_
    refine J_seq ?_
    refine J_reg ?_
    refine JL_q (q_assign) (k := ?_)
    refine JL_nil ?_
    refine JX_seq ?_
    refine J_block ?_
    refine J_unroll ?_
    refine J_seq ?_
    refine J_seq ?_
    refine J_reg ?_
    refine JL_q (q_move) (k := ?_)
    refine JL_q (q_geq) (k := ?_)
    refine JL_nil ?_
    refine JX_seq ?_
    refine J_true rfl ?_
    refine J_skip ?_
    refine JX_seq ?_
    refine J_seq ?_
    refine J_block ?_
    refine J_reg ?_
    refine JL_q (q_move) (k := ?_)
    refine JL_q (q_move) (k := ?_)
    refine JL_q (q_move) (k := ?_)
    refine JL_q (q_shrW) (k := ?_)
    refine JL_q (q_conv rfl Tryd.runUnderlying3 Tryd.runUnderlying5) (k := ?_)
    refine JL_a noMk (a_bslice (l := [_]) Tryd.runUnderlying33 Tryd.sizeOf5 Tryd.zeroValue5) (k := fun r3 hr3 => ?_)
    refine JL_append (out_1 ++ ([(IntKind.u8.wrap (shrI .i64 (((s.length : Nat) : Int) * 8) 56))] : List Int)) rfl TY_5 Tryd.underlying33 eI_u8_ok hout_1 ((List.Perm.cons _ (List.Perm.refl _)).trans List.perm_middle.symm) (SlJ.lit (xs := ([(IntKind.u8.wrap (shrI .i64 (((s.length : Nat) : Int) * 8) 56))] : List Int)) eI_u8_ok) ⟨by omega, by omega⟩ (n := out_1.length) (m := 1) (k := fun ax4 cx4 Bx4 hox4 => ?_)
    have hal4 : (out_1 ++ ([(IntKind.u8.wrap (shrI .i64 (((s.length : Nat) : Int) * 8) 56))] : List Int)).length = out_1.length + 1 := by first | rfl | simp
    refine JL_q (q_assign) (k := ?_)
    refine JL_nil ?_
    refine JX_block ?_
    refine JX_seq ?_
    refine J_reg ?_
    refine JL_q (q_move) (k := ?_)
    refine JL_q (q_sub) (k := ?_)
    refine JL_q (q_assign) (k := ?_)
    refine JL_nil ?_
    refine JX_again ?_
    refine J_seq ?_
    refine J_seq ?_
    refine J_reg ?_
    refine JL_q (q_move) (k := ?_)
    refine JL_q (q_geq) (k := ?_)
    refine JL_nil ?_
    refine JX_seq ?_
    refine J_true rfl ?_
    refine J_skip ?_
    refine JX_seq ?_
    refine J_seq ?_
    refine J_block ?_
    refine J_reg ?_
    refine JL_q (q_move) (k := ?_)
    refine JL_q (q_move) (k := ?_)
    refine JL_q (q_move) (k := ?_)
    refine JL_q (q_shrW) (k := ?_)
    refine JL_q (q_conv rfl Tryd.runUnderlying3 Tryd.runUnderlying5) (k := ?_)
    refine JL_a noMk (a_bslice (l := [_]) Tryd.runUnderlying33 Tryd.sizeOf5 Tryd.zeroValue5) (k := fun r4 hr4 => ?_)
    refine JL_append ((out_1 ++ ([(IntKind.u8.wrap (shrI .i64 (((s.length : Nat) : Int) * 8) 56))] : List Int)) ++ ([(IntKind.u8.wrap (shrI .i64 (((s.length : Nat) : Int) * 8) 48))] : List Int)) rfl TY_5 Tryd.underlying33 eI_u8_ok hox4 ((List.Perm.cons _ (List.Perm.refl _)).trans List.perm_middle.symm) (SlJ.lit (xs := ([(IntKind.u8.wrap (shrI .i64 (((s.length : Nat) : Int) * 8) 48))] : List Int)) eI_u8_ok) ⟨by omega, by omega⟩ (n := (out_1 ++ ([(IntKind.u8.wrap (shrI .i64 (((s.length : Nat) : Int) * 8) 56))] : List Int)).length) (m := 1) (k := fun ax5 cx5 Bx5 hox5 => ?_)
    have hal5 : ((out_1 ++ ([(IntKind.u8.wrap (shrI .i64 (((s.length : Nat) : Int) * 8) 56))] : List Int)) ++ ([(IntKind.u8.wrap (shrI .i64 (((s.length : Nat) : Int) * 8) 48))] : List Int)).length = (out_1 ++ ([(IntKind.u8.wrap (shrI .i64 (((s.length : Nat) : Int) * 8) 56))] : List Int)).length + 1 := by first | rfl | simp
    refine JL_q (q_assign) (k := ?_)
    refine JL_nil ?_
    refine JX_block ?_
    refine JX_seq ?_
    refine J_reg ?_
    refine JL_q (q_move) (k := ?_)
    refine JL_q (q_sub) (k := ?_)
    refine JL_q (q_assign) (k := ?_)
    refine JL_nil ?_
    refine JX_again ?_
    refine J_seq ?_
    refine J_seq ?_
    refine J_reg ?_
    refine JL_q (q_move) (k := ?_)
    refine JL_q (q_geq) (k := ?_)
    refine JL_nil ?_
    refine JX_seq ?_
    refine J_true rfl ?_
    refine J_skip ?_
    refine JX_seq ?_
    refine J_seq ?_
    refine J_block ?_
    refine J_reg ?_
    refine JL_q (q_move) (k := ?_)
    refine JL_q (q_move) (k := ?_)
    refine JL_q (q_move) (k := ?_)
    refine JL_q (q_shrW) (k := ?_)
    refine JL_q (q_conv rfl Tryd.runUnderlying3 Tryd.runUnderlying5) (k := ?_)
    refine JL_a noMk (a_bslice (l := [_]) Tryd.runUnderlying33 Tryd.sizeOf5 Tryd.zeroValue5) (k := fun r5 hr5 => ?_)
    refine JL_append (((out_1 ++ ([(IntKind.u8.wrap (shrI .i64 (((s.length : Nat) : Int) * 8) 56))] : List Int)) ++ ([(IntKind.u8.wrap (shrI .i64 (((s.length : Nat) : Int) * 8) 48))] : List Int)) ++ ([(IntKind.u8.wrap (shrI .i64 (((s.length : Nat) : Int) * 8) 40))] : List Int)) rfl TY_5 Tryd.underlying33 eI_u8_ok hox5 ((List.Perm.cons _ (List.Perm.refl _)).trans List.perm_middle.symm) (SlJ.lit (xs := ([(IntKind.u8.wrap (shrI .i64 (((s.length : Nat) : Int) * 8) 40))] : List Int)) eI_u8_ok) ⟨by omega, by omega⟩ (n := ((out_1 ++ ([(IntKind.u8.wrap (shrI .i64 (((s.length : Nat) : Int) * 8) 56))] : List Int)) ++ ([(IntKind.u8.wrap (shrI .i64 (((s.length : Nat) : Int) * 8) 48))] : List Int)).length) (m := 1) (k := fun ax6 cx6 Bx6 hox6 => ?_)
    have hal6 : (((out_1 ++ ([(IntKind.u8.wrap (shrI .i64 (((s.length : Nat) : Int) * 8) 56))] : List Int)) ++ ([(IntKind.u8.wrap (shrI .i64 (((s.length : Nat) : Int) * 8) 48))] : List Int)) ++ ([(IntKind.u8.wrap (shrI .i64 (((s.length : Nat) : Int) * 8) 40))] : List Int)).length = ((out_1 ++ ([(IntKind.u8.wrap (shrI .i64 (((s.length : Nat) : Int) * 8) 56))] : List Int)) ++ ([(IntKind.u8.wrap (shrI .i64 (((s.length : Nat) : Int) * 8) 48))] : List Int)).length + 1 := by first | rfl | simp
    refine JL_q (q_assign) (k := ?_)
    refine JL_nil ?_
    refine JX_block ?_
    refine JX_seq ?_
    refine J_reg ?_
    refine JL_q (q_move) (k := ?_)
    refine JL_q (q_sub) (k := ?_)
    refine JL_q (q_assign) (k := ?_)
    refine JL_nil ?_
    refine JX_again ?_
    refine J_seq ?_
    refine J_seq ?_
    refine J_reg ?_
    refine JL_q (q_move) (k := ?_)
    refine JL_q (q_geq) (k := ?_)
    refine JL_nil ?_
    refine JX_seq ?_
    refine J_true rfl ?_
    refine J_skip ?_
    refine JX_seq ?_
    refine J_seq ?_
    refine J_block ?_
    refine J_reg ?_
    refine JL_q (q_move) (k := ?_)
    refine JL_q (q_move) (k := ?_)
    refine JL_q (q_move) (k := ?_)
    refine JL_q (q_shrW) (k := ?_)
    refine JL_q (q_conv rfl Tryd.runUnderlying3 Tryd.runUnderlying5) (k := ?_)
    refine JL_a noMk (a_bslice (l := [_]) Tryd.runUnderlying33 Tryd.sizeOf5 Tryd.zeroValue5) (k := fun r6 hr6 => ?_)
    refine JL_append ((((out_1 ++ ([(IntKind.u8.wrap (shrI .i64 (((s.length : Nat) : Int) * 8) 56))] : List Int)) ++ ([(IntKind.u8.wrap (shrI .i64 (((s.length : Nat) : Int) * 8) 48))] : List Int)) ++ ([(IntKind.u8.wrap (shrI .i64 (((s.length : Nat) : Int) * 8) 40))] : List Int)) ++ ([(IntKind.u8.wrap (shrI .i64 (((s.length : Nat) : Int) * 8) 32))] : List Int)) rfl TY_5 Tryd.underlying33 eI_u8_ok hox6 ((List.Perm.cons _ (List.Perm.refl _)).trans List.perm_middle.symm) (SlJ.lit (xs := ([(IntKind.u8.wrap (shrI .i64 (((s.length : Nat) : Int) * 8) 32))] : List Int)) eI_u8_ok) ⟨by omega, by omega⟩ (n := (((out_1 ++ ([(IntKind.u8.wrap (shrI .i64 (((s.length : Nat) : Int) * 8) 56))] : List Int)) ++ ([(IntKind.u8.wrap (shrI .i64 (((s.length : Nat) : Int) * 8) 48))] : List Int)) ++ ([(IntKind.u8.wrap (shrI .i64 (((s.length : Nat) : Int) * 8) 40))] : List Int)).length) (m := 1) (k := fun ax7 cx7 Bx7 hox7 => ?_)
    have hal7 : ((((out_1 ++ ([(IntKind.u8.wrap (shrI .i64 (((s.length : Nat) : Int) * 8) 56))] : List Int)) ++ ([(IntKind.u8.wrap (shrI .i64 (((s.length : Nat) : Int) * 8) 48))] : List Int)) ++ ([(IntKind.u8.wrap (shrI .i64 (((s.length : Nat) : Int) * 8) 40))] : List Int)) ++ ([(IntKind.u8.wrap (shrI .i64 (((s.length : Nat) : Int) * 8) 32))] : List Int)).length = (((out_1 ++ ([(IntKind.u8.wrap (shrI .i64 (((s.length : Nat) : Int) * 8) 56))] : List Int)) ++ ([(IntKind.u8.wrap (shrI .i64 (((s.length : Nat) : Int) * 8) 48))] : List Int)) ++ ([(IntKind.u8.wrap (shrI .i64 (((s.length : Nat) : Int) * 8) 40))] : List Int)).length + 1 := by first | rfl | simp
    refine JL_q (q_assign) (k := ?_)
    refine JL_nil ?_
    refine JX_block ?_
    refine JX_seq ?_
    refine J_reg ?_
    refine JL_q (q_move) (k := ?_)
    refine JL_q (q_sub) (k := ?_)
    refine JL_q (q_assign) (k := ?_)
    refine JL_nil ?_
    refine JX_again ?_
    refine J_seq ?_
    refine J_seq ?_
    refine J_reg ?_
    refine JL_q (q_move) (k := ?_)
    refine JL_q (q_geq) (k := ?_)
    refine JL_nil ?_
    refine JX_seq ?_
    refine J_true rfl ?_
    refine J_skip ?_
    refine JX_seq ?_
    refine J_seq ?_
    refine J_block ?_
    refine J_reg ?_
    refine JL_q (q_move) (k := ?_)
    refine JL_q (q_move) (k := ?_)
    refine JL_q (q_move) (k := ?_)
    refine JL_q (q_shrW) (k := ?_)
    refine JL_q (q_conv rfl Tryd.runUnderlying3 Tryd.runUnderlying5) (k := ?_)
    refine JL_a noMk (a_bslice (l := [_]) Tryd.runUnderlying33 Tryd.sizeOf5 Tryd.zeroValue5) (k := fun r7 hr7 => ?_)
    refine JL_append (((((out_1 ++ ([(IntKind.u8.wrap (shrI .i64 (((s.length : Nat) : Int) * 8) 56))] : List Int)) ++ ([(IntKind.u8.wrap (shrI .i64 (((s.length : Nat) : Int) * 8) 48))] : List Int)) ++ ([(IntKind.u8.wrap (shrI .i64 (((s.length : Nat) : Int) * 8) 40))] : List Int)) ++ ([(IntKind.u8.wrap (shrI .i64 (((s.length : Nat) : Int) * 8) 32))] : List Int)) ++ ([(IntKind.u8.wrap (shrI .i64 (((s.length : Nat) : Int) * 8) 24))] : List Int)) rfl TY_5 Tryd.underlying33 eI_u8_ok hox7 ((List.Perm.cons _ (List.Perm.refl _)).trans List.perm_middle.symm) (SlJ.lit (xs := ([(IntKind.u8.wrap (shrI .i64 (((s.length : Nat) : Int) * 8) 24))] : List Int)) eI_u8_ok) ⟨by omega, by omega⟩ (n := ((((out_1 ++ ([(IntKind.u8.wrap (shrI .i64 (((s.length : Nat) : Int) * 8) 56))] : List Int)) ++ ([(IntKind.u8.wrap (shrI .i64 (((s.length : Nat) : Int) * 8) 48))] : List Int)) ++ ([(IntKind.u8.wrap (shrI .i64 (((s.length : Nat) : Int) * 8) 40))] : List Int)) ++ ([(IntKind.u8.wrap (shrI .i64 (((s.length : Nat) : Int) * 8) 32))] : List Int)).length) (m := 1) (k := fun ax8 cx8 Bx8 hox8 => ?_)
    have hal8 : (((((out_1 ++ ([(IntKind.u8.wrap (shrI .i64 (((s.length : Nat) : Int) * 8) 56))] : List Int)) ++ ([(IntKind.u8.wrap (shrI .i64 (((s.length : Nat) : Int) * 8) 48))] : List Int)) ++ ([(IntKind.u8.wrap (shrI .i64 (((s.length : Nat) : Int) * 8) 40))] : List Int)) ++ ([(IntKind.u8.wrap (shrI .i64 (((s.length : Nat) : Int) * 8) 32))] : List Int)) ++ ([(IntKind.u8.wrap (shrI .i64 (((s.length : Nat) : Int) * 8) 24))] : List Int)).length = ((((out_1 ++ ([(IntKind.u8.wrap (shrI .i64 (((s.length : Nat) : Int) * 8) 56))] : List Int)) ++ ([(IntKind.u8.wrap (shrI .i64 (((s.length : Nat) : Int) * 8) 48))] : List Int)) ++ ([(IntKind.u8.wrap (shrI .i64 (((s.length : Nat) : Int) * 8) 40))] : List Int)) ++ ([(IntKind.u8.wrap (shrI .i64 (((s.length : Nat) : Int) * 8) 32))] : List Int)).length + 1 := by first | rfl | simp
    refine JL_q (q_assign) (k := ?_)
    refine JL_nil ?_
    refine JX_block ?_
    refine JX_seq ?_
    refine J_reg ?_
    refine JL_q (q_move) (k := ?_)
    refine JL_q (q_sub) (k := ?_)
    refine JL_q (q_assign) (k := ?_)
    refine JL_nil ?_
    refine JX_again ?_
    refine J_seq ?_
    refine J_seq ?_
    refine J_reg ?_
    refine JL_q (q_move) (k := ?_)
    refine JL_q (q_geq) (k := ?_)
    refine JL_nil ?_
    refine JX_seq ?_
    refine J_true rfl ?_
    refine J_skip ?_
    refine JX_seq ?_
    refine J_seq ?_
    refine J_block ?_
    refine J_reg ?_
    refine JL_q (q_move) (k := ?_)
    refine JL_q (q_move) (k := ?_)
    refine JL_q (q_move) (k := ?_)
    refine JL_q (q_shrW) (k := ?_)
    refine JL_q (q_conv rfl Tryd.runUnderlying3 Tryd.runUnderlying5) (k := ?_)
    refine JL_a noMk (a_bslice (l := [_]) Tryd.runUnderlying33 Tryd.sizeOf5 Tryd.zeroValue5) (k := fun r8 hr8 => ?_)
    refine JL_append ((((((out_1 ++ ([(IntKind.u8.wrap (shrI .i64 (((s.length : Nat) : Int) * 8) 56))] : List Int)) ++ ([(IntKind.u8.wrap (shrI .i64 (((s.length : Nat) : Int) * 8) 48))] : List Int)) ++ ([(IntKind.u8.wrap (shrI .i64 (((s.length : Nat) : Int) * 8) 40))] : List Int)) ++ ([(IntKind.u8.wrap (shrI .i64 (((s.length : Nat) : Int) * 8) 32))] : List Int)) ++ ([(IntKind.u8.wrap (shrI .i64 (((s.length : Nat) : Int) * 8) 24))] : List Int)) ++ ([(IntKind.u8.wrap (shrI .i64 (((s.length : Nat) : Int) * 8) 16))] : List Int)) rfl TY_5 Tryd.underlying33 eI_u8_ok hox8 ((List.Perm.cons _ (List.Perm.refl _)).trans List.perm_middle.symm) (SlJ.lit (xs := ([(IntKind.u8.wrap (shrI .i64 (((s.length : Nat) : Int) * 8) 16))] : List Int)) eI_u8_ok) ⟨by omega, by omega⟩ (n := (((((out_1 ++ ([(IntKind.u8.wrap (shrI .i64 (((s.length : Nat) : Int) * 8) 56))] : List Int)) ++ ([(IntKind.u8.wrap (shrI .i64 (((s.length : Nat) : Int) * 8) 48))] : List Int)) ++ ([(IntKind.u8.wrap (shrI .i64 (((s.length : Nat) : Int) * 8) 40))] : List Int)) ++ ([(IntKind.u8.wrap (shrI .i64 (((s.length : Nat) : Int) * 8) 32))] : List Int)) ++ ([(IntKind.u8.wrap (shrI .i64 (((s.length : Nat) : Int) * 8) 24))] : List Int)).length) (m := 1) (k := fun ax9 cx9 Bx9 hox9 => ?_)
    have hal9 : ((((((out_1 ++ ([(IntKind.u8.wrap (shrI .i64 (((s.length : Nat) : Int) * 8) 56))] : List Int)) ++ ([(IntKind.u8.wrap (shrI .i64 (((s.length : Nat) : Int) * 8) 48))] : List Int)) ++ ([(IntKind.u8.wrap (shrI .i64 (((s.length : Nat) : Int) * 8) 40))] : List Int)) ++ ([(IntKind.u8.wrap (shrI .i64 (((s.length : Nat) : Int) * 8) 32))] : List Int)) ++ ([(IntKind.u8.wrap (shrI .i64 (((s.length : Nat) : Int) * 8) 24))] : List Int)) ++ ([(IntKind.u8.wrap (shrI .i64 (((s.length : Nat) : Int) * 8) 16))] : List Int)).length = (((((out_1 ++ ([(IntKind.u8.wrap (shrI .i64 (((s.length : Nat) : Int) * 8) 56))] : List Int)) ++ ([(IntKind.u8.wrap (shrI .i64 (((s.length : Nat) : Int) * 8) 48))] : List Int)) ++ ([(IntKind.u8.wrap (shrI .i64 (((s.length : Nat) : Int) * 8) 40))] : List Int)) ++ ([(IntKind.u8.wrap (shrI .i64 (((s.length : Nat) : Int) * 8) 32))] : List Int)) ++ ([(IntKind.u8.wrap (shrI .i64 (((s.length : Nat) : Int) * 8) 24))] : List Int)).length + 1 := by first | rfl | simp
    refine JL_q (q_assign) (k := ?_)
    refine JL_nil ?_
    refine JX_block ?_
    refine JX_seq ?_
    refine J_reg ?_
    refine JL_q (q_move) (k := ?_)
    refine JL_q (q_sub) (k := ?_)
    refine JL_q (q_assign) (k := ?_)
    refine JL_nil ?_
    refine JX_again ?_
    refine J_seq ?_
    refine J_seq ?_
    refine J_reg ?_
    refine JL_q (q_move) (k := ?_)
    refine JL_q (q_geq) (k := ?_)
    refine JL_nil ?_
    refine JX_seq ?_
    refine J_true rfl ?_
    refine J_skip ?_
    refine JX_seq ?_
    refine J_seq ?_
    refine J_block ?_
    refine J_reg ?_
    refine JL_q (q_move) (k := ?_)
    refine JL_q (q_move) (k := ?_)
    refine JL_q (q_move) (k := ?_)
    refine JL_q (q_shrW) (k := ?_)
    refine JL_q (q_conv rfl Tryd.runUnderlying3 Tryd.runUnderlying5) (k := ?_)
    refine JL_a noMk (a_bslice (l := [_]) Tryd.runUnderlying33 Tryd.sizeOf5 Tryd.zeroValue5) (k := fun r9 hr9 => ?_)
    refine JL_append (((((((out_1 ++ ([(IntKind.u8.wrap (shrI .i64 (((s.length : Nat) : Int) * 8) 56))] : List Int)) ++ ([(IntKind.u8.wrap (shrI .i64 (((s.length : Nat) : Int) * 8) 48))] : List Int)) ++ ([(IntKind.u8.wrap (shrI .i64 (((s.length : Nat) : Int) * 8) 40))] : List Int)) ++ ([(IntKind.u8.wrap (shrI .i64 (((s.length : Nat) : Int) * 8) 32))] : List Int)) ++ ([(IntKind.u8.wrap (shrI .i64 (((s.length : Nat) : Int) * 8) 24))] : List Int)) ++ ([(IntKind.u8.wrap (shrI .i64 (((s.length : Nat) : Int) * 8) 16))] : List Int)) ++ ([(IntKind.u8.wrap (shrI .i64 (((s.length : Nat) : Int) * 8) 8))] : List Int)) rfl TY_5 Tryd.underlying33 eI_u8_ok hox9 ((List.Perm.cons _ (List.Perm.refl _)).trans List.perm_middle.symm) (SlJ.lit (xs := ([(IntKind.u8.wrap (shrI .i64 (((s.length : Nat) : Int) * 8) 8))] : List Int)) eI_u8_ok) ⟨by omega, by omega⟩ (n := ((((((out_1 ++ ([(IntKind.u8.wrap (shrI .i64 (((s.length : Nat) : Int) * 8) 56))] : List Int)) ++ ([(IntKind.u8.wrap (shrI .i64 (((s.length : Nat) : Int) * 8) 48))] : List Int)) ++ ([(IntKind.u8.wrap (shrI .i64 (((s.length : Nat) : Int) * 8) 40))] : List Int)) ++ ([(IntKind.u8.wrap (shrI .i64 (((s.length : Nat) : Int) * 8) 32))] : List Int)) ++ ([(IntKind.u8.wrap (shrI .i64 (((s.length : Nat) : Int) * 8) 24))] : List Int)) ++ ([(IntKind.u8.wrap (shrI .i64 (((s.length : Nat) : Int) * 8) 16))] : List Int)).length) (m := 1) (k := fun ax10 cx10 Bx10 hox10 => ?_)
    have hal10 : (((((((out_1 ++ ([(IntKind.u8.wrap (shrI .i64 (((s.length : Nat) : Int) * 8) 56))] : List Int)) ++ ([(IntKind.u8.wrap (shrI .i64 (((s.length : Nat) : Int) * 8) 48))] : List Int)) ++ ([(IntKind.u8.wrap (shrI .i64 (((s.length : Nat) : Int) * 8) 40))] : List Int)) ++ ([(IntKind.u8.wrap (shrI .i64 (((s.length : Nat) : Int) * 8) 32))] : List Int)) ++ ([(IntKind.u8.wrap (shrI .i64 (((s.length : Nat) : Int) * 8) 24))] : List Int)) ++ ([(IntKind.u8.wrap (shrI .i64 (((s.length : Nat) : Int) * 8) 16))] : List Int)) ++ ([(IntKind.u8.wrap (shrI .i64 (((s.length : Nat) : Int) * 8) 8))] : List Int)).length = ((((((out_1 ++ ([(IntKind.u8.wrap (shrI .i64 (((s.length : Nat) : Int) * 8) 56))] : List Int)) ++ ([(IntKind.u8.wrap (shrI .i64 (((s.length : Nat) : Int) * 8) 48))] : List Int)) ++ ([(IntKind.u8.wrap (shrI .i64 (((s.length : Nat) : Int) * 8) 40))] : List Int)) ++ ([(IntKind.u8.wrap (shrI .i64 (((s.length : Nat) : Int) * 8) 32))] : List Int)) ++ ([(IntKind.u8.wrap (shrI .i64 (((s.length : Nat) : Int) * 8) 24))] : List Int)) ++ ([(IntKind.u8.wrap (shrI .i64 (((s.length : Nat) : Int) * 8) 16))] : List Int)).length + 1 := by first | rfl | simp
    refine JL_q (q_assign) (k := ?_)
    refine JL_nil ?_
    refine JX_block ?_
    refine JX_seq ?_
    refine J_reg ?_
    refine JL_q (q_move) (k := ?_)
    refine JL_q (q_sub) (k := ?_)
    refine JL_q (q_assign) (k := ?_)
    refine JL_nil ?_
    refine JX_again ?_
    refine J_seq ?_
    refine J_seq ?_
    refine J_reg ?_
    refine JL_q (q_move) (k := ?_)
    refine JL_q (q_geq) (k := ?_)
    refine JL_nil ?_
    refine JX_seq ?_
    refine J_true rfl ?_
    refine J_skip ?_
    refine JX_seq ?_
    refine J_seq ?_
    refine J_block ?_
    refine J_reg ?_
    refine JL_q (q_move) (k := ?_)
    refine JL_q (q_move) (k := ?_)
    refine JL_q (q_move) (k := ?_)
    refine JL_q (q_shrW) (k := ?_)
    refine JL_q (q_conv rfl Tryd.runUnderlying3 Tryd.runUnderlying5) (k := ?_)
    refine JL_a noMk (a_bslice (l := [_]) Tryd.runUnderlying33 Tryd.sizeOf5 Tryd.zeroValue5) (k := fun r10 hr10 => ?_)
    refine JL_append ((((((((out_1 ++ ([(IntKind.u8.wrap (shrI .i64 (((s.length : Nat) : Int) * 8) 56))] : List Int)) ++ ([(IntKind.u8.wrap (shrI .i64 (((s.length : Nat) : Int) * 8) 48))] : List Int)) ++ ([(IntKind.u8.wrap (shrI .i64 (((s.length : Nat) : Int) * 8) 40))] : List Int)) ++ ([(IntKind.u8.wrap (shrI .i64 (((s.length : Nat) : Int) * 8) 32))] : List Int)) ++ ([(IntKind.u8.wrap (shrI .i64 (((s.length : Nat) : Int) * 8) 24))] : List Int)) ++ ([(IntKind.u8.wrap (shrI .i64 (((s.length : Nat) : Int) * 8) 16))] : List Int)) ++ ([(IntKind.u8.wrap (shrI .i64 (((s.length : Nat) : Int) * 8) 8))] : List Int)) ++ ([(IntKind.u8.wrap (shrI .i64 (((s.length : Nat) : Int) * 8) 0))] : List Int)) rfl TY_5 Tryd.underlying33 eI_u8_ok hox10 ((List.Perm.cons _ (List.Perm.refl _)).trans List.perm_middle.symm) (SlJ.lit (xs := ([(IntKind.u8.wrap (shrI .i64 (((s.length : Nat) : Int) * 8) 0))] : List Int)) eI_u8_ok) ⟨by omega, by omega⟩ (n := (((((((out_1 ++ ([(IntKind.u8.wrap (shrI .i64 (((s.length : Nat) : Int) * 8) 56))] : List Int)) ++ ([(IntKind.u8.wrap (shrI .i64 (((s.length : Nat) : Int) * 8) 48))] : List Int)) ++ ([(IntKind.u8.wrap (shrI .i64 (((s.length : Nat) : Int) * 8) 40))] : List Int)) ++ ([(IntKind.u8.wrap (shrI .i64 (((s.length : Nat) : Int) * 8) 32))] : List Int)) ++ ([(IntKind.u8.wrap (shrI .i64 (((s.length : Nat) : Int) * 8) 24))] : List Int)) ++ ([(IntKind.u8.wrap (shrI .i64 (((s.length : Nat) : Int) * 8) 16))] : List Int)) ++ ([(IntKind.u8.wrap (shrI .i64 (((s.length : Nat) : Int) * 8) 8))] : List Int)).length) (m := 1) (k := fun ax11 cx11 Bx11 hox11 => ?_)
    have hal11 : ((((((((out_1 ++ ([(IntKind.u8.wrap (shrI .i64 (((s.length : Nat) : Int) * 8) 56))] : List Int)) ++ ([(IntKind.u8.wrap (shrI .i64 (((s.length : Nat) : Int) * 8) 48))] : List Int)) ++ ([(IntKind.u8.wrap (shrI .i64 (((s.length : Nat) : Int) * 8) 40))] : List Int)) ++ ([(IntKind.u8.wrap (shrI .i64 (((s.length : Nat) : Int) * 8) 32))] : List Int)) ++ ([(IntKind.u8.wrap (shrI .i64 (((s.length : Nat) : Int) * 8) 24))] : List Int)) ++ ([(IntKind.u8.wrap (shrI .i64 (((s.length : Nat) : Int) * 8) 16))] : List Int)) ++ ([(IntKind.u8.wrap (shrI .i64 (((s.length : Nat) : Int) * 8) 8))] : List Int)) ++ ([(IntKind.u8.wrap (shrI .i64 (((s.length : Nat) : Int) * 8) 0))] : List Int)).length = (((((((out_1 ++ ([(IntKind.u8.wrap (shrI .i64 (((s.length : Nat) : Int) * 8) 56))] : List Int)) ++ ([(IntKind.u8.wrap (shrI .i64 (((s.length : Nat) : Int) * 8) 48))] : List Int)) ++ ([(IntKind.u8.wrap (shrI .i64 (((s.length : Nat) : Int) * 8) 40))] : List Int)) ++ ([(IntKind.u8.wrap (shrI .i64 (((s.length : Nat) : Int) * 8) 32))] : List Int)) ++ ([(IntKind.u8.wrap (shrI .i64 (((s.length : Nat) : Int) * 8) 24))] : List Int)) ++ ([(IntKind.u8.wrap (shrI .i64 (((s.length : Nat) : Int) * 8) 16))] : List Int)) ++ ([(IntKind.u8.wrap (shrI .i64 (((s.length : Nat) : Int) * 8) 8))] : List Int)).length + 1 := by first | rfl | simp
    refine JL_q (q_assign) (k := ?_)
    refine JL_nil ?_
    refine JX_block ?_
    refine JX_seq ?_
    refine J_reg ?_
    refine JL_q (q_move) (k := ?_)
    refine JL_q (q_sub) (k := ?_)
    refine JL_q (q_assign) (k := ?_)
    refine JL_nil ?_
    refine JX_again ?_
    refine J_seq ?_
    refine J_seq ?_
    refine J_reg ?_
    refine JL_q (q_move) (k := ?_)
    refine JL_q (q_geq) (k := ?_)
    refine JL_nil ?_
    refine JX_seq ?_
    refine J_false rfl ?_
    refine J_exit ?_
    refine JX_seq_exit ?_
    refine JX_inv_exit ?_
    refine JX_block_hit ?_
    refine JX_seq ?_
    refine J_seq ?_
    refine J_reg ?_
    refine JL_q (q_move) (k := ?_)
    refine JL_q (q_str Tryd.underlying9 Tryd.underlying33 Tryd.underlying5 (hox11.slj eI_u8_ok)) (k := ?_)
    refine JL_q (q_assign) (k := ?_)
    refine JL_nil ?_
    refine JX_seq ?_
    refine J_ret ?_
    refine JX_ret Tryd.results34 (Res.tmp rfl Res.nil) (fun w1 hw1 => ?_)
    exact ⟨(by rw [((hF.rn1 (hF3.neg hq1))).eq] <;> first | rfl | (simp only [List.length_set] <;> rfl)), hw1.ext_out⟩

theorem sSum_ok (w : World) {s : Str} (n_s : s.length ≤ 1000000) (hG : Gl w) : Val Tryd.prog 19 [(Value.string (bs s))] w (Value.string (bs (sSum s))) := by
  have hF := Is.refl (sSum s)
  refine enterD Tryd.func19 Tryd.ntmps19 (h := ?_)
  refine J_seq ?_
  refine J_reg ?_
  refine JL_q (q_assign) (k := ?_)
  refine JL_nil ?_
  refine JX_seq ?_
  refine J_seq ?_
  refine J_reg ?_
  refine JL_inl (args := []) (c_callA Tryd.call32) Tryd.func32 Tryd.ntmps32 ?_
  refine J_seq ?_
  refine J_reg ?_
  refine JL_a noMk (a_alloc (l := [_, _, _, _, _, _, _, _]) Tryd.zeroValue51) (k := fun r1 hr1 => ?_)
  refine JL_nil ?_
  refine JX_seq ?_
  refine J_seq ?_
  refine J_reg ?_
  refine JL_q (q_buildA (cs := [_, _, _, _, _, _, _, _]) Tryd.zeroValue51 PL_51) (k := ?_)
  refine JL_s (w_store (l' := [_, _, _, _, _, _, _, _]) Tryd.sizeOf51) (k := ?_)
  refine JL_nil ?_
  refine JX_seq ?_
  refine J_ret ?_
  refine JX_retI Tryd.results32 (Res.agg Tryd.isAgg51 Tryd.sizeOf51 rfl (by repeat (first | exact List.mem_cons_self | apply List.mem_cons_of_mem | apply List.mem_append_right)) rfl Res.nil) ?_
  refine JL_q (q_build (cs := [_, _, _, _, _, _, _, _]) Tryd.zeroValue54 PL_54) (k := ?_)
  refine JL_a noMk (a_box (l := [_, _, _, _, _, _, _, _])) (k := fun r2 hr2 => ?_)
  refine JL_a noMk (a_alloc (l := [_]) Tryd.zeroValue47) (k := fun r3 hr3 => ?_)
  refine JL_s (w_store (l' := [_]) Tryd.sizeOf47) (k := ?_)
  refine JL_nil ?_
  refine JX_seq ?_
  refine J_seq ?_
  refine J_seq ?_
  refine J_reg ?_
  refine JL_inl (args := []) (c_callA Tryd.call32) Tryd.func32 Tryd.ntmps32 ?_
  refine J_seq ?_
  refine J_reg ?_
  refine JL_a noMk (a_alloc (l := [_, _, _, _, _, _, _, _]) Tryd.zeroValue51) (k := fun r4 hr4 => ?_)
  refine JL_nil ?_
  refine JX_seq ?_
  refine J_seq ?_
  refine J_reg ?_
  refine JL_q (q_buildA (cs := [_, _, _, _, _, _, _, _]) Tryd.zeroValue51 PL_51) (k := ?_)
  refine JL_s (w_store (l' := [_, _, _, _, _, _, _, _]) Tryd.sizeOf51) (k := ?_)
  refine JL_nil ?_
  refine JX_seq ?_
  refine J_ret ?_
  refine JX_retI Tryd.results32 (Res.agg Tryd.isAgg51 Tryd.sizeOf51 rfl (by repeat (first | exact List.mem_cons_self | apply List.mem_cons_of_mem | apply List.mem_append_right)) rfl Res.nil) ?_
  refine JL_a noMk (a_alloc (l := [_, _, _, _, _, _, _, _]) Tryd.zeroValue51) (k := fun r5 hr5 => ?_)
  refine JL_s (w_store (l' := [_, _, _, _, _, _, _, _]) Tryd.sizeOf51) (k := ?_)
  refine JL_nil ?_
  refine JX_seq ?_
  refine J_seq ?_
  refine J_plan mixed 6 [(true, 0), (true, 1), (true, 2), (true, 3), (true, 4), (true, 5)] (by kernel_rfl) ?_
  refine JD_q (q_load Tryd.isAgg47) (k := ?_)
  refine JD_q (q_nil) (k := ?_)
  refine JD_q (q_fld FO_54_0) (k := ?_)
  refine JD_q (q_loadA Tryd.isAgg51 Tryd.sizeOf51) (k := ?_)
  refine JD_q (q_loadA Tryd.isAgg51 Tryd.sizeOf51) (k := ?_)
  refine JD_q (q_eqS (u := (Value.agg [(Value.int .u32 (1779033703)), (Value.int .u32 (3144134277)), (Value.int .u32 (1013904242)), (Value.int .u32 (2773480762)), (Value.int .u32 (1359893119)), (Value.int .u32 (2600822924)), (Value.int .u32 (528734635)), (Value.int .u32 (1541459225))].toArray)) (v := (Value.agg [(Value.int .u32 (1779033703)), (Value.int .u32 (3144134277)), (Value.int .u32 (1013904242)), (Value.int .u32 (2773480762)), (Value.int .u32 (1359893119)), (Value.int .u32 (2600822924)), (Value.int .u32 (528734635)), (Value.int .u32 (1541459225))].toArray)) (b := true) (fun w => by kernel_rfl)) (k := ?_)
  refine JD_nil0 ?_
  refine JL_nil ?_
  refine JX_seq ?_
  refine J_true rfl ?_
  refine J_seq ?_
  refine J_reg ?_
  refine JL_q (q_move) (k := ?_)
  refine JL_v (args := [(Value.string (bs s))]) (c_callA Tryd.call34) (fun w1 hw1 => sPad_ok w1 (s := s) (n_s := by first | omega | (simp only [List.length_append, List.length_take, List.length_drop, List.length_set, List.length_replicate, List.length_cons, List.length_nil, List.length_map, toS_length, toI_length]; omega) | (simp only [List.length_append, List.length_take, List.length_drop, List.length_set, List.length_replicate, List.length_cons, List.length_nil, List.length_map, toS_length, toI_length] at *; omega) | decide)) (k := ?_)
  refine JL_inl (args := [(Value.string (bs (sPad s)))]) (c_callA Tryd.call33) Tryd.func33 Tryd.ntmps33 ?_
  refine J_seq ?_
  refine J_reg ?_
  refine JL_a noMk (a_box (l := [_])) (k := fun r6 hr6 => ?_)
  refine JL_q (q_assign) (k := ?_)
  refine JL_nil ?_
  refine JX_seq ?_
  refine J_seq ?_
  refine J_reg ?_
  refine JL_q (q_func) (k := ?_)
  refine JL_q (q_assign) (k := ?_)
  refine JL_nil ?_
  refine JX_seq ?_
  refine J_ret ?_
  refine JX_retI Tryd.results33 (Res.tmp rfl Res.nil) ?_
  refine JL_nil ?_
  refine JX_seq ?_
  refine J_block ?_
  refine J_rangeI noMk rfl Tryd.call47 Tryd.func47 Tryd.ntmps47 (fun l7 rD7 rr7 hl7 => ?_)
  refine J_scope ?_
  refine J_seq ?_
  refine J_label ?_
  refine JX_seq ?_
  refine J_block ?_
  refine J_loop10 (σ1 := Nat) (σ2 := Int) (σ3 := Int) (σ4 := Int) (σ5 := Int) (σ6 := Int) (σ7 := Int) (σ8 := Int) (σ9 := Int) (σ10 := Str) (fun n_10 x_1 x_2 x_3 x_4 x_5 x_6 x_7 x_8 x_9 => ((l7, loopAt rr7 .ready none) :: ((rD7, Obj.deferred (some [])) :: ((r6, Obj.cells [(Value.string (bs x_9))].toArray 9) :: ((r5, Obj.cells [(Value.int .u32 (1779033703)), (Value.int .u32 (3144134277)), (Value.int .u32 (1013904242)), (Value.int .u32 (2773480762)), (Value.int .u32 (1359893119)), (Value.int .u32 (2600822924)), (Value.int .u32 (528734635)), (Value.int .u32 (1541459225))].toArray 51) :: ((r4, Obj.cells [(Value.int .u32 (1779033703)), (Value.int .u32 (3144134277)), (Value.int .u32 (1013904242)), (Value.int .u32 (2773480762)), (Value.int .u32 (1359893119)), (Value.int .u32 (2600822924)), (Value.int .u32 (528734635)), (Value.int .u32 (1541459225))].toArray 51) :: ((r3, Obj.cells [(Value.pointer (some ⟨r2, 0, none⟩))].toArray 47) :: ((r2, Obj.cells [(Value.int .u32 (x_1)), (Value.int .u32 (x_2)), (Value.int .u32 (x_3)), (Value.int .u32 (x_4)), (Value.int .u32 (x_5)), (Value.int .u32 (x_6)), (Value.int .u32 (x_7)), (Value.int .u32 (x_8))].toArray 54) :: ((r1, Obj.cells [(Value.int .u32 (1779033703)), (Value.int .u32 (3144134277)), (Value.int .u32 (1013904242)), (Value.int .u32 (2773480762)), (Value.int .u32 (1359893119)), (Value.int .u32 (2600822924)), (Value.int .u32 (528734635)), (Value.int .u32 (1541459225))].toArray 51) :: []))))))))) (fun n_10 x_1 x_2 x_3 x_4 x_5 x_6 x_7 x_8 x_9 => [(0, (Value.func (.yield l7) [].toArray [].toArray)), (1, (Value.pointer (some ⟨r6, 0, none⟩)))]) (fun n_10 x_1 x_2 x_3 x_4 x_5 x_6 x_7 x_8 x_9 => x_9.length < n_10 ∧ Is (sSum_l0 s ((sPad s).length + 1) 1779033703 3144134277 1013904242 2773480762 1359893119 2600822924 528734635 1541459225 (sPad s)) (sSum_l0 s n_10 x_1 x_2 x_3 x_4 x_5 x_6 x_7 x_8 x_9)) (fun n_10 x_1 x_2 x_3 x_4 x_5 x_6 x_7 x_8 x_9 => n_10) ((sPad s).length + 1) 1779033703 3144134277 1013904242 2773480762 1359893119 2600822924 528734635 1541459225 (sPad s) ?_ (by repeat (first | exact SubE.nil | refine SubE.cons rfl ?_)) (List.Perm.refl _) ?_
  · exact ⟨Nat.lt_succ_self _, Is.refl _⟩
  · rintro (_ | n_10) x_1 x_2 x_3 x_4 x_5 x_6 x_7 x_8 x_9 ⟨hm12, hF11⟩
    · omega
    refine J_seq ?_
    refine J_seq ?_
    refine J_reg ?_
    refine JL_q (q_load Tryd.isAgg9) (k := ?_)
    refine JL_q (q_lenT Tryd.runUnderlying9) (k := ?_)
    refine JL_q (q_geq) (k := ?_)
    refine JL_nil ?_
    refine JX_seq ?_
    refine J_dec rfl (fun hq1 => ?_) (fun hq1 => ?_)
    rotate_left
    · refine J_exit ?_
      refine JX_seq_exit ?_
      refine JX_inv_exit ?_
      refine JX_block_hit ?_
      refine JX_scope ?_
      refine JX_it0 (.inr rfl) Tryd.results47 (List.Perm.refl _) ?_
      refine JX_block ?_
      refine JX_seq ?_
      refine J_seq ?_
      refine J_reg ?_
      refine JL_q (q_assign) (k := ?_)
      refine JL_nil ?_
      refine JX_seq ?_
      refine J_seq ?_
      refine J_seq ?_
      refine J_reg ?_
      refine JL_q (q_load Tryd.isAgg47) (k := ?_)
      refine JL_q (q_nil) (k := ?_)
      refine JL_q (q_fld FO_54_0) (k := ?_)
      refine JL_q (q_loadA Tryd.isAgg51 Tryd.sizeOf51) (k := ?_)
      refine JL_q (q_move) (k := ?_)
      refine JL_nil ?_
      refine JX_seq ?_
      refine J_block ?_
      refine J_unroll ?_
      refine J_seq ?_
      refine J_reg ?_
      refine JL_q (q_lss) (k := ?_)
      refine JL_nil ?_
      refine JX_seq ?_
      refine J_seq ?_
      refine J_true rfl ?_
      refine J_skip ?_
      refine JX_seq ?_
      refine J_seq ?_
      refine J_block ?_
      refine J_seq ?_
      refine J_reg ?_
      refine JL_q (q_idxA (m := 0) Tryd.runUnderlying51 Tryd.sizeOf49 Tryd.isAgg49) (k := ?_)
      refine JL_q (q_assign) (k := ?_)
      refine JL_nil ?_
      refine JX_seq ?_
      refine J_reg ?_
      refine JL_q (q_move) (k := ?_)
      refine JL_q (q_move) (k := ?_)
      refine JL_q (q_shrW) (k := ?_)
      refine JL_q (q_conv rfl Tryd.runUnderlying49 Tryd.runUnderlying5) (k := ?_)
      refine JL_q (q_move) (k := ?_)
      refine JL_q (q_shrW) (k := ?_)
      refine JL_q (q_conv rfl Tryd.runUnderlying49 Tryd.runUnderlying5) (k := ?_)
      refine JL_q (q_move) (k := ?_)
      refine JL_q (q_shrW) (k := ?_)
      refine JL_q (q_conv rfl Tryd.runUnderlying49 Tryd.runUnderlying5) (k := ?_)
      refine JL_q (q_move) (k := ?_)
      refine JL_q (q_conv rfl Tryd.runUnderlying49 Tryd.runUnderlying5) (k := ?_)
      refine JL_a noMk (a_bslice (l := [_, _, _, _]) Tryd.runUnderlying33 Tryd.sizeOf5 Tryd.zeroValue5) (k := fun r10 hr10 => ?_)
      refine JL_append ([(IntKind.u8.wrap (shrI .u32 x_1 24)), (IntKind.u8.wrap (shrI .u32 x_1 16)), (IntKind.u8.wrap (shrI .u32 x_1 8)), (IntKind.u8.wrap x_1)] : List Int) (List.nil_append _) TY_5 Tryd.underlying33 eI_u8_ok OwnB.nil (List.Perm.refl _) (SlJ.lit (xs := ([(IntKind.u8.wrap (shrI .u32 x_1 24)), (IntKind.u8.wrap (shrI .u32 x_1 16)), (IntKind.u8.wrap (shrI .u32 x_1 8)), (IntKind.u8.wrap x_1)] : List Int)) eI_u8_ok) ⟨by first | omega | (simp; done) | (simp; omega), by first | omega | (simp; done) | (simp; omega)⟩ (n := 0) (m := 4) (k := fun ax1 cx1 Bx1 hox1 => ?_)
      refine JL_q (q_assign) (k := ?_)
      refine JL_nil ?_
      refine JX_block ?_
      refine JX_seq ?_
      refine J_reg ?_
      refine JL_q (q_add) (k := ?_)
      refine JL_q (q_move) (k := ?_)
      refine JL_nil ?_
      refine JX_again ?_
      refine J_seq ?_
      refine J_reg ?_
      refine JL_q (q_lss) (k := ?_)
      refine JL_nil ?_
      refine JX_seq ?_
      refine J_seq ?_
      refine J_true rfl ?_
      refine J_skip ?_
      refine JX_seq ?_
      refine J_seq ?_
      refine J_block ?_
      refine J_seq ?_
      refine J_reg ?_
      refine JL_q (q_idxA (m := 1) Tryd.runUnderlying51 Tryd.sizeOf49 Tryd.isAgg49) (k := ?_)
      refine JL_q (q_assign) (k := ?_)
      refine JL_nil ?_
      refine JX_seq ?_
      refine J_reg ?_
      refine JL_q (q_move) (k := ?_)
      refine JL_q (q_move) (k := ?_)
      refine JL_q (q_shrW) (k := ?_)
      refine JL_q (q_conv rfl Tryd.runUnderlying49 Tryd.runUnderlying5) (k := ?_)
      refine JL_q (q_move) (k := ?_)
      refine JL_q (q_shrW) (k := ?_)
      refine JL_q (q_conv rfl Tryd.runUnderlying49 Tryd.runUnderlying5) (k := ?_)
      refine JL_q (q_move) (k := ?_)
      refine JL_q (q_shrW) (k := ?_)
      refine JL_q (q_conv rfl Tryd.runUnderlying49 Tryd.runUnderlying5) (k := ?_)
      refine JL_q (q_move) (k := ?_)
      refine JL_q (q_conv rfl Tryd.runUnderlying49 Tryd.runUnderlying5) (k := ?_)
      refine JL_a noMk (a_bslice (l := [_, _, _, _]) Tryd.runUnderlying33 Tryd.sizeOf5 Tryd.zeroValue5) (k := fun r11 hr11 => ?_)
      refine JL_append (([(IntKind.u8.wrap (shrI .u32 x_1 24)), (IntKind.u8.wrap (shrI .u32 x_1 16)), (IntKind.u8.wrap (shrI .u32 x_1 8)), (IntKind.u8.wrap x_1)] : List Int) ++ ([(IntKind.u8.wrap (shrI .u32 x_2 24)), (IntKind.u8.wrap (shrI .u32 x_2 16)), (IntKind.u8.wrap (shrI .u32 x_2 8)), (IntKind.u8.wrap x_2)] : List Int)) rfl TY_5 Tryd.underlying33 eI_u8_ok hox1 ((List.Perm.cons _ (List.Perm.refl _)).trans List.perm_middle.symm) (SlJ.lit (xs := ([(IntKind.u8.wrap (shrI .u32 x_2 24)), (IntKind.u8.wrap (shrI .u32 x_2 16)), (IntKind.u8.wrap (shrI .u32 x_2 8)), (IntKind.u8.wrap x_2)] : List Int)) eI_u8_ok) ⟨by first | omega | (simp; done) | (simp; omega), by first | omega | (simp; done) | (simp; omega)⟩ (n := ([(IntKind.u8.wrap (shrI .u32 x_1 24)), (IntKind.u8.wrap (shrI .u32 x_1 16)), (IntKind.u8.wrap (shrI .u32 x_1 8)), (IntKind.u8.wrap x_1)] : List Int).length) (m := 4) (k := fun ax2 cx2 Bx2 hox2 => ?_)
      have hal2 : (([(IntKind.u8.wrap (shrI .u32 x_1 24)), (IntKind.u8.wrap (shrI .u32 x_1 16)), (IntKind.u8.wrap (shrI .u32 x_1 8)), (IntKind.u8.wrap x_1)] : List Int) ++ ([(IntKind.u8.wrap (shrI .u32 x_2 24)), (IntKind.u8.wrap (shrI .u32 x_2 16)), (IntKind.u8.wrap (shrI .u32 x_2 8)), (IntKind.u8.wrap x_2)] : List Int)).length = ([(IntKind.u8.wrap (shrI .u32 x_1 24)), (IntKind.u8.wrap (shrI .u32 x_1 16)), (IntKind.u8.wrap (shrI .u32 x_1 8)), (IntKind.u8.wrap x_1)] : List Int).length + 4 := by first | rfl | simp
      refine JL_q (q_assign) (k := ?_)
      refine JL_nil ?_
      refine JX_block ?_
      refine JX_seq ?_
      refine J_reg ?_
      refine JL_q (q_add) (k := ?_)
      refine JL_q (q_move) (k := ?_)
      refine JL_nil ?_
      refine JX_again ?_
      refine J_seq ?_
      refine J_reg ?_
      refine JL_q (q_lss) (k := ?_)
      refine JL_nil ?_
      refine JX_seq ?_
      refine J_seq ?_
      refine J_true rfl ?_
      refine J_skip ?_
      refine JX_seq ?_
      refine J_seq ?_
      refine J_block ?_
      refine J_seq ?_
      refine J_reg ?_
      refine JL_q (q_idxA (m := 2) Tryd.runUnderlying51 Tryd.sizeOf49 Tryd.isAgg49) (k := ?_)
      refine JL_q (q_assign) (k := ?_)
      refine JL_nil ?_
      refine JX_seq ?_
      refine J_reg ?_
      refine JL_q (q_move) (k := ?_)
      refine JL_q (q_move) (k := ?_)
      refine JL_q (q_shrW) (k := ?_)
      refine JL_q (q_conv rfl Tryd.runUnderlying49 Tryd.runUnderlying5) (k := ?_)
      refine JL_q (q_move) (k := ?_)
      refine JL_q (q_shrW) (k := ?_)
      refine JL_q (q_conv rfl Tryd.runUnderlying49 Tryd.runUnderlying5) (k := ?_)
      refine JL_q (q_move) (k := ?_)
      refine JL_q (q_shrW) (k := ?_)
      refine JL_q (q_conv rfl Tryd.runUnderlying49 Tryd.runUnderlying5) (k := ?_)
      refine JL_q (q_move) (k := ?_)
      refine JL_q (q_conv rfl Tryd.runUnderlying49 Tryd.runUnderlying5) (k := ?_)
      refine JL_a noMk (a_bslice (l := [_, _, _, _]) Tryd.runUnderlying33 Tryd.sizeOf5 Tryd.zeroValue5) (k := fun r12 hr12 => ?_)
      refine JL_append ((([(IntKind.u8.wrap (shrI .u32 x_1 24)), (IntKind.u8.wrap (shrI .u32 x_1 16)), (IntKind.u8.wrap (shrI .u32 x_1 8)), (IntKind.u8.wrap x_1)] : List Int) ++ ([(IntKind.u8.wrap (shrI .u32 x_2 24)), (IntKind.u8.wrap (shrI .u32 x_2 16)), (IntKind.u8.wrap (shrI .u32 x_2 8)), (IntKind.u8.wrap x_2)] : List Int)) ++ ([(IntKind.u8.wrap (shrI .u32 x_3 24)), (IntKind.u8.wrap (shrI .u32 x_3 16)), (IntKind.u8.wrap (shrI .u32 x_3 8)), (IntKind.u8.wrap x_3)] : List Int)) rfl TY_5 Tryd.underlying33 eI_u8_ok hox2 ((List.Perm.cons _ (List.Perm.refl _)).trans List.perm_middle.symm) (SlJ.lit (xs := ([(IntKind.u8.wrap (shrI .u32 x_3 24)), (IntKind.u8.wrap (shrI .u32 x_3 16)), (IntKind.u8.wrap (shrI .u32 x_3 8)), (IntKind.u8.wrap x_3)] : List Int)) eI_u8_ok) ⟨by first | omega | (simp; done) | (simp; omega), by first | omega | (simp; done) | (simp; omega)⟩ (n := (([(IntKind.u8.wrap (shrI .u32 x_1 24)), (IntKind.u8.wrap (shrI .u32 x_1 16)), (IntKind.u8.wrap (shrI .u32 x_1 8)), (IntKind.u8.wrap x_1)] : List Int) ++ ([(IntKind.u8.wrap (shrI .u32 x_2 24)), (IntKind.u8.wrap (shrI .u32 x_2 16)), (IntKind.u8.wrap (shrI .u32 x_2 8)), (IntKind.u8.wrap x_2)] : List Int)).length) (m := 4) (k := fun ax3 cx3 Bx3 hox3 => ?_)
      have hal3 : ((([(IntKind.u8.wrap (shrI .u32 x_1 24)), (IntKind.u8.wrap (shrI .u32 x_1 16)), (IntKind.u8.wrap (shrI .u32 x_1 8)), (IntKind.u8.wrap x_1)] : List Int) ++ ([(IntKind.u8.wrap (shrI .u32 x_2 24)), (IntKind.u8.wrap (shrI .u32 x_2 16)), (IntKind.u8.wrap (shrI .u32 x_2 8)), (IntKind.u8.wrap x_2)] : List Int)) ++ ([(IntKind.u8.wrap (shrI .u32 x_3 24)), (IntKind.u8.wrap (shrI .u32 x_3 16)), (IntKind.u8.wrap (shrI .u32 x_3 8)), (IntKind.u8.wrap x_3)] : List Int)).length = (([(IntKind.u8.wrap (shrI .u32 x_1 24)), (IntKind.u8.wrap (shrI .u32 x_1 16)), (IntKind.u8.wrap (shrI .u32 x_1 8)), (IntKind.u8.wrap x_1)] : List Int) ++ ([(IntKind.u8.wrap (shrI .u32 x_2 24)), (IntKind.u8.wrap (shrI .u32 x_2 16)), (IntKind.u8.wrap (shrI .u32 x_2 8)), (IntKind.u8.wrap x_2)] : List Int)).length + 4 := by first | rfl | simp
      refine JL_q (q_assign) (k := ?_)
      refine JL_nil ?_
      refine JX_block ?_
      refine JX_seq ?_
      refine J_reg ?_
      refine JL_q (q_add) (k := ?_)
      refine JL_q (q_move) (k := ?_)
      refine JL_nil ?_
      refine JX_again ?_
      refine J_seq ?_
      refine J_reg ?_
      refine JL_q (q_lss) (k := ?_)
      refine JL_nil ?_
      refine JX_seq ?_
      refine J_seq ?_
      refine J_true rfl ?_
      refine J_skip ?_
      refine JX_seq ?_
      refine J_seq ?_
      refine J_block ?_
      refine J_seq ?_
      refine J_reg ?_
      refine JL_q (q_idxA (m := 3) Tryd.runUnderlying51 Tryd.sizeOf49 Tryd.isAgg49) (k := ?_)
      refine JL_q (q_assign) (k := ?_)
      refine JL_nil ?_
      refine JX_seq ?_
      refine J_reg ?_
      refine JL_q (q_move) (k := ?_)
      refine JL_q (q_move) (k := ?_)
      refine JL_q (q_shrW) (k := ?_)
      refine JL_q (q_conv rfl Tryd.runUnderlying49 Tryd.runUnderlying5) (k := ?_)
      refine JL_q (q_move) (k := ?_)
      refine JL_q (q_shrW) (k := ?_)
      refine JL_q (q_conv rfl Tryd.runUnderlying49 Tryd.runUnderlying5) (k := ?_)
      refine JL_q (q_move) (k := ?_)
      refine JL_q (q_shrW) (k := ?_)
      refine JL_q (q_conv rfl Tryd.runUnderlying49 Tryd.runUnderlying5) (k := ?_)
      refine JL_q (q_move) (k := ?_)
      refine JL_q (q_conv rfl Tryd.runUnderlying49 Tryd.runUnderlying5) (k := ?_)
      refine JL_a noMk (a_bslice (l := [_, _, _, _]) Tryd.runUnderlying33 Tryd.sizeOf5 Tryd.zeroValue5) (k := fun r13 hr13 => ?_)
      refine JL_append (((([(IntKind.u8.wrap (shrI .u32 x_1 24)), (IntKind.u8.wrap (shrI .u32 x_1 16)), (IntKind.u8.wrap (shrI .u32 x_1 8)), (IntKind.u8.wrap x_1)] : List Int) ++ ([(IntKind.u8.wrap (shrI .u32 x_2 24)), (IntKind.u8.wrap (shrI .u32 x_2 16)), (IntKind.u8.wrap (shrI .u32 x_2 8)), (IntKind.u8.wrap x_2)] : List Int)) ++ ([(IntKind.u8.wrap (shrI .u32 x_3 24)), (IntKind.u8.wrap (shrI .u32 x_3 16)), (IntKind.u8.wrap (shrI .u32 x_3 8)), (IntKind.u8.wrap x_3)] : List Int)) ++ ([(IntKind.u8.wrap (shrI .u32 x_4 24)), (IntKind.u8.wrap (shrI .u32 x_4 16)), (IntKind.u8.wrap (shrI .u32 x_4 8)), (IntKind.u8.wrap x_4)] : List Int)) rfl TY_5 Tryd.underlying33 eI_u8_ok hox3 ((List.Perm.cons _ (List.Perm.refl _)).trans List.perm_middle.symm) (SlJ.lit (xs := ([(IntKind.u8.wrap (shrI .u32 x_4 24)), (IntKind.u8.wrap (shrI .u32 x_4 16)), (IntKind.u8.wrap (shrI .u32 x_4 8)), (IntKind.u8.wrap x_4)] : List Int)) eI_u8_ok) ⟨by first | omega | (simp; done) | (simp; omega), by first | omega | (simp; done) | (simp; omega)⟩ (n := ((([(IntKind.u8.wrap (shrI .u32 x_1 24)), (IntKind.u8.wrap (shrI .u32 x_1 16)), (IntKind.u8.wrap (shrI .u32 x_1 8)), (IntKind.u8.wrap x_1)] : List Int) ++ ([(IntKind.u8.wrap (shrI .u32 x_2 24)), (IntKind.u8.wrap (shrI .u32 x_2 16)), (IntKind.u8.wrap (shrI .u32 x_2 8)), (IntKind.u8.wrap x_2)] : List Int)) ++ ([(IntKind.u8.wrap (shrI .u32 x_3 24)), (IntKind.u8.wrap (shrI .u32 x_3 16)), (IntKind.u8.wrap (shrI .u32 x_3 8)), (IntKind.u8.wrap x_3)] : List Int)).length) (m := 4) (k := fun ax4 cx4 Bx4 hox4 => ?_)
      have hal4 : (((([(IntKind.u8.wrap (shrI .u32 x_1 24)), (IntKind.u8.wrap (shrI .u32 x_1 16)), (IntKind.u8.wrap (shrI .u32 x_1 8)), (IntKind.u8.wrap x_1)] : List Int) ++ ([(IntKind.u8.wrap (shrI .u32 x_2 24)), (IntKind.u8.wrap (shrI .u32 x_2 16)), (IntKind.u8.wrap (shrI .u32 x_2 8)), (IntKind.u8.wrap x_2)] : List Int)) ++ ([(IntKind.u8.wrap (shrI .u32 x_3 24)), (IntKind.u8.wrap (shrI .u32 x_3 16)), (IntKind.u8.wrap (shrI .u32 x_3 8)), (IntKind.u8.wrap x_3)] : List Int)) ++ ([(IntKind.u8.wrap (shrI .u32 x_4 24)), (IntKind.u8.wrap (shrI .u32 x_4 16)), (IntKind.u8.wrap (shrI .u32 x_4 8)), (IntKind.u8.wrap x_4)] : List Int)).length = ((([(IntKind.u8.wrap (shrI .u32 x_1 24)), (IntKind.u8.wrap (shrI .u32 x_1 16)), (IntKind.u8.wrap (shrI .u32 x_1 8)), (IntKind.u8.wrap x_1)] : List Int) ++ ([(IntKind.u8.wrap (shrI .u32 x_2 24)), (IntKind.u8.wrap (shrI .u32 x_2 16)), (IntKind.u8.wrap (shrI .u32 x_2 8)), (IntKind.u8.wrap x_2)] : List Int)) ++ ([(IntKind.u8.wrap (shrI .u32 x_3 24)), (IntKind.u8.wrap (shrI .u32 x_3 16)), (IntKind.u8.wrap (shrI .u32 x_3 8)), (IntKind.u8.wrap x_3)] : List Int)).length + 4 := by first | rfl | simp
      refine JL_q (q_assign) (k := ?_)
      refine JL_nil ?_
      refine JX_block ?_
      refine JX_seq ?_
      refine J_reg ?_
      refine JL_q (q_add) (k := ?_)
      refine JL_q (q_move) (k := ?_)
      refine JL_nil ?_
      refine JX_again ?_
      refine J_seq ?_
      refine J_reg ?_
      refine JL_q (q_lss) (k := ?_)
      refine JL_nil ?_
      refine JX_seq ?_
      refine J_seq ?_
      refine J_true rfl ?_
      refine J_skip ?_
      refine JX_seq ?_
      refine J_seq ?_
      refine J_block ?_
      refine J_seq ?_
      refine J_reg ?_
      refine JL_q (q_idxA (m := 4) Tryd.runUnderlying51 Tryd.sizeOf49 Tryd.isAgg49) (k := ?_)
      refine JL_q (q_assign) (k := ?_)
      refine JL_nil ?_
      refine JX_seq ?_
      refine J_reg ?_
      refine JL_q (q_move) (k := ?_)
      refine JL_q (q_move) (k := ?_)
      refine JL_q (q_shrW) (k := ?_)
      refine JL_q (q_conv rfl Tryd.runUnderlying49 Tryd.runUnderlying5) (k := ?_)
      refine JL_q (q_move) (k := ?_)
      refine JL_q (q_shrW) (k := ?_)
      refine JL_q (q_conv rfl Tryd.runUnderlying49 Tryd.runUnderlying5) (k := ?_)
      refine JL_q (q_move) (k := ?_)
      refine JL_q (q_shrW) (k := ?_)
      refine JL_q (q_conv rfl Tryd.runUnderlying49 Tryd.runUnderlying5) (k := ?_)
      refine JL_q (q_move) (k := ?_)
      refine JL_q (q_conv rfl Tryd.runUnderlying49 Tryd.runUnderlying5) (k := ?_)
      refine JL_a noMk (a_bslice (l := [_, _, _, _]) Tryd.runUnderlying33 Tryd.sizeOf5 Tryd.zeroValue5) (k := fun r14 hr14 => ?_)
      refine JL_append ((((([(IntKind.u8.wrap (shrI .u32 x_1 24)), (IntKind.u8.wrap (shrI .u32 x_1 16)), (IntKind.u8.wrap (shrI .u32 x_1 8)), (IntKind.u8.wrap x_1)] : List Int) ++ ([(IntKind.u8.wrap (shrI .u32 x_2 24)), (IntKind.u8.wrap (shrI .u32 x_2 16)), (IntKind.u8.wrap (shrI .u32 x_2 8)), (IntKind.u8.wrap x_2)] : List Int)) ++ ([(IntKind.u8.wrap (shrI .u32 x_3 24)), (IntKind.u8.wrap (shrI .u32 x_3 16)), (IntKind.u8.wrap (shrI .u32 x_3 8)), (IntKind.u8.wrap x_3)] : List Int)) ++ ([(IntKind.u8.wrap (shrI .u32 x_4 24)), (IntKind.u8.wrap (shrI .u32 x_4 16)), (IntKind.u8.wrap (shrI .u32 x_4 8)), (IntKind.u8.wrap x_4)] : List Int)) ++ ([(IntKind.u8.wrap (shrI .u32 x_5 24)), (IntKind.u8.wrap (shrI .u32 x_5 16)), (IntKind.u8.wrap (shrI .u32 x_5 8)), (IntKind.u8.wrap x_5)] : List Int)) rfl TY_5 Tryd.underlying33 eI_u8_ok hox4 ((List.Perm.cons _ (List.Perm.refl _)).trans List.perm_middle.symm) (SlJ.lit (xs := ([(IntKind.u8.wrap (shrI .u32 x_5 24)), (IntKind.u8.wrap (shrI .u32 x_5 16)), (IntKind.u8.wrap (shrI .u32 x_5 8)), (IntKind.u8.wrap x_5)] : List Int)) eI_u8_ok) ⟨by first | omega | (simp; done) | (simp; omega), by first | omega | (simp; done) | (simp; omega)⟩ (n := (((([(IntKind.u8.wrap (shrI .u32 x_1 24)), (IntKind.u8.wrap (shrI .u32 x_1 16)), (IntKind.u8.wrap (shrI .u32 x_1 8)), (IntKind.u8.wrap x_1)] : List Int) ++ ([(IntKind.u8.wrap (shrI .u32 x_2 24)), (IntKind.u8.wrap (shrI .u32 x_2 16)), (IntKind.u8.wrap (shrI .u32 x_2 8)), (IntKind.u8.wrap x_2)] : List Int)) ++ ([(IntKind.u8.wrap (shrI .u32 x_3 24)), (IntKind.u8.wrap (shrI .u32 x_3 16)), (IntKind.u8.wrap (shrI .u32 x_3 8)), (IntKind.u8.wrap x_3)] : List Int)) ++ ([(IntKind.u8.wrap (shrI .u32 x_4 24)), (IntKind.u8.wrap (shrI .u32 x_4 16)), (IntKind.u8.wrap (shrI .u32 x_4 8)), (IntKind.u8.wrap x_4)] : List Int)).length) (m := 4) (k := fun ax5 cx5 Bx5 hox5 => ?_)
      have hal5 : ((((([(IntKind.u8.wrap (shrI .u32 x_1 24)), (IntKind.u8.wrap (shrI .u32 x_1 16)), (IntKind.u8.wrap (shrI .u32 x_1 8)), (IntKind.u8.wrap x_1)] : List Int) ++ ([(IntKind.u8.wrap (shrI .u32 x_2 24)), (IntKind.u8.wrap (shrI .u32 x_2 16)), (IntKind.u8.wrap (shrI .u32 x_2 8)), (IntKind.u8.wrap x_2)] : List Int)) ++ ([(IntKind.u8.wrap (shrI .u32 x_3 24)), (IntKind.u8.wrap (shrI .u32 x_3 16)), (IntKind.u8.wrap (shrI .u32 x_3 8)), (IntKind.u8.wrap x_3)] : List Int)) ++ ([(IntKind.u8.wrap (shrI .u32 x_4 24)), (IntKind.u8.wrap (shrI .u32 x_4 16)), (IntKind.u8.wrap (shrI .u32 x_4 8)), (IntKind.u8.wrap x_4)] : List Int)) ++ ([(IntKind.u8.wrap (shrI .u32 x_5 24)), (IntKind.u8.wrap (shrI .u32 x_5 16)), (IntKind.u8.wrap (shrI .u32 x_5 8)), (IntKind.u8.wrap x_5)] : List Int)).length = (((([(IntKind.u8.wrap (shrI .u32 x_1 24)), (IntKind.u8.wrap (shrI .u32 x_1 16)), (IntKind.u8.wrap (shrI .u32 x_1 8)), (IntKind.u8.wrap x_1)] : List Int) ++ ([(IntKind.u8.wrap (shrI .u32 x_2 24)), (IntKind.u8.wrap (shrI .u32 x_2 16)), (IntKind.u8.wrap (shrI .u32 x_2 8)), (IntKind.u8.wrap x_2)] : List Int)) ++ ([(IntKind.u8.wrap (shrI .u32 x_3 24)), (IntKind.u8.wrap (shrI .u32 x_3 16)), (IntKind.u8.wrap (shrI .u32 x_3 8)), (IntKind.u8.wrap x_3)] : List Int)) ++ ([(IntKind.u8.wrap (shrI .u32 x_4 24)), (IntKind.u8.wrap (shrI .u32 x_4 16)), (IntKind.u8.wrap (shrI .u32 x_4 8)), (IntKind.u8.wrap x_4)] : List Int)).length + 4 := by first | rfl | simp
      refine JL_q (q_assign) (k := ?_)
      refine JL_nil ?_
      refine JX_block ?_
      refine JX_seq ?_
      refine J_reg ?_
      refine JL_q (q_add) (k := ?_)
      refine JL_q (q_move) (k := ?_)
      refine JL_nil ?_
      refine JX_again ?_
      refine J_seq ?_
      refine J_reg ?_
      refine JL_q (q_lss) (k := ?_)
      refine JL_nil ?_
      refine JX_seq ?_
      refine J_seq ?_
      refine J_true rfl ?_
      refine J_skip ?_
      refine JX_seq ?_
      refine J_seq ?_
      refine J_block ?_
      refine J_seq ?_
      refine J_reg ?_
      refine JL_q (q_idxA (m := 5) Tryd.runUnderlying51 Tryd.sizeOf49 Tryd.isAgg49) (k := ?_)
      refine JL_q (q_assign) (k := ?_)
      refine JL_nil ?_
      refine JX_seq ?_
      refine J_reg ?_
      refine JL_q (q_move) (k := ?_)
      refine JL_q (q_move) (k := ?_)
      refine JL_q (q_shrW) (k := ?_)
      refine JL_q (q_conv rfl Tryd.runUnderlying49 Tryd.runUnderlying5) (k := ?_)
      refine JL_q (q_move) (k := ?_)
      refine JL_q (q_shrW) (k := ?_)
      refine JL_q (q_conv rfl Tryd.runUnderlying49 Tryd.runUnderlying5) (k := ?_)
      refine JL_q (q_move) (k := ?_)
      refine JL_q (q_shrW) (k := ?_)
      refine JL_q (q_conv rfl Tryd.runUnderlying49 Tryd.runUnderlying5) (k := ?_)
      refine JL_q (q_move) (k := ?_)
      refine JL_q (q_conv rfl Tryd.runUnderlying49 Tryd.runUnderlying5) (k := ?_)
      refine JL_a noMk (a_bslice (l := [_, _, _, _]) Tryd.runUnderlying33 Tryd.sizeOf5 Tryd.zeroValue5) (k := fun r15 hr15 => ?_)
      refine JL_append (((((([(IntKind.u8.wrap (shrI .u32 x_1 24)), (IntKind.u8.wrap (shrI .u32 x_1 16)), (IntKind.u8.wrap (shrI .u32 x_1 8)), (IntKind.u8.wrap x_1)] : List Int) ++ ([(IntKind.u8.wrap (shrI .u32 x_2 24)), (IntKind.u8.wrap (shrI .u32 x_2 16)), (IntKind.u8.wrap (shrI .u32 x_2 8)), (IntKind.u8.wrap x_2)] : List Int)) ++ ([(IntKind.u8.wrap (shrI .u32 x_3 24)), (IntKind.u8.wrap (shrI .u32 x_3 16)), (IntKind.u8.wrap (shrI .u32 x_3 8)), (IntKind.u8.wrap x_3)] : List Int)) ++ ([(IntKind.u8.wrap (shrI .u32 x_4 24)), (IntKind.u8.wrap (shrI .u32 x_4 16)), (IntKind.u8.wrap (shrI .u32 x_4 8)), (IntKind.u8.wrap x_4)] : List Int)) ++ ([(IntKind.u8.wrap (shrI .u32 x_5 24)), (IntKind.u8.wrap (shrI .u32 x_5 16)), (IntKind.u8.wrap (shrI .u32 x_5 8)), (IntKind.u8.wrap x_5)] : List Int)) ++ ([(IntKind.u8.wrap (shrI .u32 x_6 24)), (IntKind.u8.wrap (shrI .u32 x_6 16)), (IntKind.u8.wrap (shrI .u32 x_6 8)), (IntKind.u8.wrap x_6)] : List Int)) rfl TY_5 Tryd.underlying33 eI_u8_ok hox5 ((List.Perm.cons _ (List.Perm.refl _)).trans List.perm_middle.symm) (SlJ.lit (xs := ([(IntKind.u8.wrap (shrI .u32 x_6 24)), (IntKind.u8.wrap (shrI .u32 x_6 16)), (IntKind.u8.wrap (shrI .u32 x_6 8)), (IntKind.u8.wrap x_6)] : List Int)) eI_u8_ok) ⟨by first | omega | (simp; done) | (simp; omega), by first | omega | (simp; done) | (simp; omega)⟩ (n := ((((([(IntKind.u8.wrap (shrI .u32 x_1 24)), (IntKind.u8.wrap (shrI .u32 x_1 16)), (IntKind.u8.wrap (shrI .u32 x_1 8)), (IntKind.u8.wrap x_1)] : List Int) ++ ([(IntKind.u8.wrap (shrI .u32 x_2 24)), (IntKind.u8.wrap (shrI .u32 x_2 16)), (IntKind.u8.wrap (shrI .u32 x_2 8)), (IntKind.u8.wrap x_2)] : List Int)) ++ ([(IntKind.u8.wrap (shrI .u32 x_3 24)), (IntKind.u8.wrap (shrI .u32 x_3 16)), (IntKind.u8.wrap (shrI .u32 x_3 8)), (IntKind.u8.wrap x_3)] : List Int)) ++ ([(IntKind.u8.wrap (shrI .u32 x_4 24)), (IntKind.u8.wrap (shrI .u32 x_4 16)), (IntKind.u8.wrap (shrI .u32 x_4 8)), (IntKind.u8.wrap x_4)] : List Int)) ++ ([(IntKind.u8.wrap (shrI .u32 x_5 24)), (IntKind.u8.wrap (shrI .u32 x_5 16)), (IntKind.u8.wrap (shrI .u32 x_5 8)), (IntKind.u8.wrap x_5)] : List Int)).length) (m := 4) (k := fun ax6 cx6 Bx6 hox6 => ?_)
      have hal6 : (((((([(IntKind.u8.wrap (shrI .u32 x_1 24)), (IntKind.u8.wrap (shrI .u32 x_1 16)), (IntKind.u8.wrap (shrI .u32 x_1 8)), (IntKind.u8.wrap x_1)] : List Int) ++ ([(IntKind.u8.wrap (shrI .u32 x_2 24)), (IntKind.u8.wrap (shrI .u32 x_2 16)), (IntKind.u8.wrap (shrI .u32 x_2 8)), (IntKind.u8.wrap x_2)] : List Int)) ++ ([(IntKind.u8.wrap (shrI .u32 x_3 24)), (IntKind.u8.wrap (shrI .u32 x_3 16)), (IntKind.u8.wrap (shrI .u32 x_3 8)), (IntKind.u8.wrap x_3)] : List Int)) ++ ([(IntKind.u8.wrap (shrI .u32 x_4 24)), (IntKind.u8.wrap (shrI .u32 x_4 16)), (IntKind.u8.wrap (shrI .u32 x_4 8)), (IntKind.u8.wrap x_4)] : List Int)) ++ ([(IntKind.u8.wrap (shrI .u32 x_5 24)), (IntKind.u8.wrap (shrI .u32 x_5 16)), (IntKind.u8.wrap (shrI .u32 x_5 8)), (IntKind.u8.wrap x_5)] : List Int)) ++ ([(IntKind.u8.wrap (shrI .u32 x_6 24)), (IntKind.u8.wrap (shrI .u32 x_6 16)), (IntKind.u8.wrap (shrI .u32 x_6 8)), (IntKind.u8.wrap x_6)] : List Int)).length = ((((([(IntKind.u8.wrap (shrI .u32 x_1 24)), (IntKind.u8.wrap (shrI .u32 x_1 16)), (IntKind.u8.wrap (shrI .u32 x_1 8)), (IntKind.u8.wrap x_1)] : List Int) ++ ([(IntKind.u8.wrap (shrI .u32 x_2 24)), (IntKind.u8.wrap (shrI .u32 x_2 16)), (IntKind.u8.wrap (shrI .u32 x_2 8)), (IntKind.u8.wrap x_2)] : List Int)) ++ ([(IntKind.u8.wrap (shrI .u32 x_3 24)), (IntKind.u8.wrap (shrI .u32 x_3 16)), (IntKind.u8.wrap (shrI .u32 x_3 8)), (IntKind.u8.wrap x_3)] : List Int)) ++ ([(IntKind.u8.wrap (shrI .u32 x_4 24)), (IntKind.u8.wrap (shrI .u32 x_4 16)), (IntKind.u8.wrap (shrI .u32 x_4 8)), (IntKind.u8.wrap x_4)] : List Int)) ++ ([(IntKind.u8.wrap (shrI .u32 x_5 24)), (IntKind.u8.wrap (shrI .u32 x_5 16)), (IntKind.u8.wrap (shrI .u32 x_5 8)), (IntKind.u8.wrap x_5)] : List Int)).length + 4 := by first | rfl | simp
      refine JL_q (q_assign) (k := ?_)
      refine JL_nil ?_
      refine JX_block ?_
      refine JX_seq ?_
      refine J_reg ?_
      refine JL_q (q_add) (k := ?_)
      refine JL_q (q_move) (k := ?_)
      refine JL_nil ?_
      refine JX_again ?_
      refine J_seq ?_
      refine J_reg ?_
      refine JL_q (q_lss) (k := ?_)
      refine JL_nil ?_
      refine JX_seq ?_
      refine J_seq ?_
      refine J_true rfl ?_
      refine J_skip ?_
      refine JX_seq ?_
      refine J_seq ?_
      refine J_block ?_
      refine J_seq ?_
      refine J_reg ?_
      refine JL_q (q_idxA (m := 6) Tryd.runUnderlying51 Tryd.sizeOf49 Tryd.isAgg49) (k := ?_)
      refine JL_q (q_assign) (k := ?_)
      refine JL_nil ?_
      refine JX_seq ?_
      refine J_reg ?_
      refine JL_q (q_move) (k := ?_)
      refine JL_q (q_move) (k := ?_)
      refine JL_q (q_shrW) (k := ?_)
      refine JL_q (q_conv rfl Tryd.runUnderlying49 Tryd.runUnderlying5) (k := ?_)
      refine JL_q (q_move) (k := ?_)
      refine JL_q (q_shrW) (k := ?_)
      refine JL_q (q_conv rfl Tryd.runUnderlying49 Tryd.runUnderlying5) (k := ?_)
      refine JL_q (q_move) (k := ?_)
      refine JL_q (q_shrW) (k := ?_)
      refine JL_q (q_conv rfl Tryd.runUnderlying49 Tryd.runUnderlying5) (k := ?_)
      refine JL_q (q_move) (k := ?_)
      refine JL_q (q_conv rfl Tryd.runUnderlying49 Tryd.runUnderlying5) (k := ?_)
      refine JL_a noMk (a_bslice (l := [_, _, _, _]) Tryd.runUnderlying33 Tryd.sizeOf5 Tryd.zeroValue5) (k := fun r16 hr16 => ?_)
      refine JL_append ((((((([(IntKind.u8.wrap (shrI .u32 x_1 24)), (IntKind.u8.wrap (shrI .u32 x_1 16)), (IntKind.u8.wrap (shrI .u32 x_1 8)), (IntKind.u8.wrap x_1)] : List Int) ++ ([(IntKind.u8.wrap (shrI .u32 x_2 24)), (IntKind.u8.wrap (shrI .u32 x_2 16)), (IntKind.u8.wrap (shrI .u32 x_2 8)), (IntKind.u8.wrap x_2)] : List Int)) ++ ([(IntKind.u8.wrap (shrI .u32 x_3 24)), (IntKind.u8.wrap (shrI .u32 x_3 16)), (IntKind.u8.wrap (shrI .u32 x_3 8)), (IntKind.u8.wrap x_3)] : List Int)) ++ ([(IntKind.u8.wrap (shrI .u32 x_4 24)), (IntKind.u8.wrap (shrI .u32 x_4 16)), (IntKind.u8.wrap (shrI .u32 x_4 8)), (IntKind.u8.wrap x_4)] : List Int)) ++ ([(IntKind.u8.wrap (shrI .u32 x_5 24)), (IntKind.u8.wrap (shrI .u32 x_5 16)), (IntKind.u8.wrap (shrI .u32 x_5 8)), (IntKind.u8.wrap x_5)] : List Int)) ++ ([(IntKind.u8.wrap (shrI .u32 x_6 24)), (IntKind.u8.wrap (shrI .u32 x_6 16)), (IntKind.u8.wrap (shrI .u32 x_6 8)), (IntKind.u8.wrap x_6)] : List Int)) ++ ([(IntKind.u8.wrap (shrI .u32 x_7 24)), (IntKind.u8.wrap (shrI .u32 x_7 16)), (IntKind.u8.wrap (shrI .u32 x_7 8)), (IntKind.u8.wrap x_7)] : List Int)) rfl TY_5 Tryd.underlying33 eI_u8_ok hox6 ((List.Perm.cons _ (List.Perm.refl _)).trans List.perm_middle.symm) (SlJ.lit (xs := ([(IntKind.u8.wrap (shrI .u32 x_7 24)), (IntKind.u8.wrap (shrI .u32 x_7 16)), (IntKind.u8.wrap (shrI .u32 x_7 8)), (IntKind.u8.wrap x_7)] : List Int)) eI_u8_ok) ⟨by first | omega | (simp; done) | (simp; omega), by first | omega | (simp; done) | (simp; omega)⟩ (n := (((((([(IntKind.u8.wrap (shrI .u32 x_1 24)), (IntKind.u8.wrap (shrI .u32 x_1 16)), (IntKind.u8.wrap (shrI .u32 x_1 8)), (IntKind.u8.wrap x_1)] : List Int) ++ ([(IntKind.u8.wrap (shrI .u32 x_2 24)), (IntKind.u8.wrap (shrI .u32 x_2 16)), (IntKind.u8.wrap (shrI .u32 x_2 8)), (IntKind.u8.wrap x_2)] : List Int)) ++ ([(IntKind.u8.wrap (shrI .u32 x_3 24)), (IntKind.u8.wrap (shrI .u32 x_3 16)), (IntKind.u8.wrap (shrI .u32 x_3 8)), (IntKind.u8.wrap x_3)] : List Int)) ++ ([(IntKind.u8.wrap (shrI .u32 x_4 24)), (IntKind.u8.wrap (shrI .u32 x_4 16)), (IntKind.u8.wrap (shrI .u32 x_4 8)), (IntKind.u8.wrap x_4)] : List Int)) ++ ([(IntKind.u8.wrap (shrI .u32 x_5 24)), (IntKind.u8.wrap (shrI .u32 x_5 16)), (IntKind.u8.wrap (shrI .u32 x_5 8)), (IntKind.u8.wrap x_5)] : List Int)) ++ ([(IntKind.u8.wrap (shrI .u32 x_6 24)), (IntKind.u8.wrap (shrI .u32 x_6 16)), (IntKind.u8.wrap (shrI .u32 x_6 8)), (IntKind.u8.wrap x_6)] : List Int)).length) (m := 4) (k := fun ax7 cx7 Bx7 hox7 => ?_)
      have hal7 : ((((((([(IntKind.u8.wrap (shrI .u32 x_1 24)), (IntKind.u8.wrap (shrI .u32 x_1 16)), (IntKind.u8.wrap (shrI .u32 x_1 8)), (IntKind.u8.wrap x_1)] : List Int) ++ ([(IntKind.u8.wrap (shrI .u32 x_2 24)), (IntKind.u8.wrap (shrI .u32 x_2 16)), (IntKind.u8.wrap (shrI .u32 x_2 8)), (IntKind.u8.wrap x_2)] : List Int)) ++ ([(IntKind.u8.wrap (shrI .u32 x_3 24)), (IntKind.u8.wrap (shrI .u32 x_3 16)), (IntKind.u8.wrap (shrI .u32 x_3 8)), (IntKind.u8.wrap x_3)] : List Int)) ++ ([(IntKind.u8.wrap (shrI .u32 x_4 24)), (IntKind.u8.wrap (shrI .u32 x_4 16)), (IntKind.u8.wrap (shrI .u32 x_4 8)), (IntKind.u8.wrap x_4)] : List Int)) ++ ([(IntKind.u8.wrap (shrI .u32 x_5 24)), (IntKind.u8.wrap (shrI .u32 x_5 16)), (IntKind.u8.wrap (shrI .u32 x_5 8)), (IntKind.u8.wrap x_5)] : List Int)) ++ ([(IntKind.u8.wrap (shrI .u32 x_6 24)), (IntKind.u8.wrap (shrI .u32 x_6 16)), (IntKind.u8.wrap (shrI .u32 x_6 8)), (IntKind.u8.wrap x_6)] : List Int)) ++ ([(IntKind.u8.wrap (shrI .u32 x_7 24)), (IntKind.u8.wrap (shrI .u32 x_7 16)), (IntKind.u8.wrap (shrI .u32 x_7 8)), (IntKind.u8.wrap x_7)] : List Int)).length = (((((([(IntKind.u8.wrap (shrI .u32 x_1 24)), (IntKind.u8.wrap (shrI .u32 x_1 16)), (IntKind.u8.wrap (shrI .u32 x_1 8)), (IntKind.u8.wrap x_1)] : List Int) ++ ([(IntKind.u8.wrap (shrI .u32 x_2 24)), (IntKind.u8.wrap (shrI .u32 x_2 16)), (IntKind.u8.wrap (shrI .u32 x_2 8)), (IntKind.u8.wrap x_2)] : List Int)) ++ ([(IntKind.u8.wrap (shrI .u32 x_3 24)), (IntKind.u8.wrap (shrI .u32 x_3 16)), (IntKind.u8.wrap (shrI .u32 x_3 8)), (IntKind.u8.wrap x_3)] : List Int)) ++ ([(IntKind.u8.wrap (shrI .u32 x_4 24)), (IntKind.u8.wrap (shrI .u32 x_4 16)), (IntKind.u8.wrap (shrI .u32 x_4 8)), (IntKind.u8.wrap x_4)] : List Int)) ++ ([(IntKind.u8.wrap (shrI .u32 x_5 24)), (IntKind.u8.wrap (shrI .u32 x_5 16)), (IntKind.u8.wrap (shrI .u32 x_5 8)), (IntKind.u8.wrap x_5)] : List Int)) ++ ([(IntKind.u8.wrap (shrI .u32 x_6 24)), (IntKind.u8.wrap (shrI .u32 x_6 16)), (IntKind.u8.wrap (shrI .u32 x_6 8)), (IntKind.u8.wrap x_6)] : List Int)).length + 4 := by first | rfl | simp
      refine JL_q (q_assign) (k := ?_)
      refine JL_nil ?_
      refine JX_block ?_
      refine JX_seq ?_
      refine J_reg ?_
      refine JL_q (q_add) (k := ?_)
      refine JL_q (q_move) (k := ?_)
      refine JL_nil ?_
      refine JX_again ?_
      refine J_seq ?_
      refine J_reg ?_
      refine JL_q (q_lss) (k := ?_)
      refine JL_nil ?_
      refine JX_seq ?_
      refine J_seq ?_
      refine J_true rfl ?_
      refine J_skip ?_
      refine JX_seq ?_
      refine J_seq ?_
      refine J_block ?_
      refine J_seq ?_
      refine J_reg ?_
      refine JL_q (q_idxA (m := 7) Tryd.runUnderlying51 Tryd.sizeOf49 Tryd.isAgg49) (k := ?_)
      refine JL_q (q_assign) (k := ?_)
      refine JL_nil ?_
      refine JX_seq ?_
      refine J_reg ?_
      refine JL_q (q_move) (k := ?_)
      refine JL_q (q_move) (k := ?_)
      refine JL_q (q_shrW) (k := ?_)
      refine JL_q (q_conv rfl Tryd.runUnderlying49 Tryd.runUnderlying5) (k := ?_)
      refine JL_q (q_move) (k := ?_)
      refine JL_q (q_shrW) (k := ?_)
      refine JL_q (q_conv rfl Tryd.runUnderlying49 Tryd.runUnderlying5) (k := ?_)
      refine JL_q (q_move) (k := ?_)
      refine JL_q (q_shrW) (k := ?_)
      refine JL_q (q_conv rfl Tryd.runUnderlying49 Tryd.runUnderlying5) (k := ?_)
      refine JL_q (q_move) (k := ?_)
      refine JL_q (q_conv rfl Tryd.runUnderlying49 Tryd.runUnderlying5) (k := ?_)
      refine JL_a noMk (a_bslice (l := [_, _, _, _]) Tryd.runUnderlying33 Tryd.sizeOf5 Tryd.zeroValue5) (k := fun r17 hr17 => ?_)
      refine JL_append (((((((([(IntKind.u8.wrap (shrI .u32 x_1 24)), (IntKind.u8.wrap (shrI .u32 x_1 16)), (IntKind.u8.wrap (shrI .u32 x_1 8)), (IntKind.u8.wrap x_1)] : List Int) ++ ([(IntKind.u8.wrap (shrI .u32 x_2 24)), (IntKind.u8.wrap (shrI .u32 x_2 16)), (IntKind.u8.wrap (shrI .u32 x_2 8)), (IntKind.u8.wrap x_2)] : List Int)) ++ ([(IntKind.u8.wrap (shrI .u32 x_3 24)), (IntKind.u8.wrap (shrI .u32 x_3 16)), (IntKind.u8.wrap (shrI .u32 x_3 8)), (IntKind.u8.wrap x_3)] : List Int)) ++ ([(IntKind.u8.wrap (shrI .u32 x_4 24)), (IntKind.u8.wrap (shrI .u32 x_4 16)), (IntKind.u8.wrap (shrI .u32 x_4 8)), (IntKind.u8.wrap x_4)] : List Int)) ++ ([(IntKind.u8.wrap (shrI .u32 x_5 24)), (IntKind.u8.wrap (shrI .u32 x_5 16)), (IntKind.u8.wrap (shrI .u32 x_5 8)), (IntKind.u8.wrap x_5)] : List Int)) ++ ([(IntKind.u8.wrap (shrI .u32 x_6 24)), (IntKind.u8.wrap (shrI .u32 x_6 16)), (IntKind.u8.wrap (shrI .u32 x_6 8)), (IntKind.u8.wrap x_6)] : List Int)) ++ ([(IntKind.u8.wrap (shrI .u32 x_7 24)), (IntKind.u8.wrap (shrI .u32 x_7 16)), (IntKind.u8.wrap (shrI .u32 x_7 8)), (IntKind.u8.wrap x_7)] : List Int)) ++ ([(IntKind.u8.wrap (shrI .u32 x_8 24)), (IntKind.u8.wrap (shrI .u32 x_8 16)), (IntKind.u8.wrap (shrI .u32 x_8 8)), (IntKind.u8.wrap x_8)] : List Int)) rfl TY_5 Tryd.underlying33 eI_u8_ok hox7 ((List.Perm.cons _ (List.Perm.refl _)).trans List.perm_middle.symm) (SlJ.lit (xs := ([(IntKind.u8.wrap (shrI .u32 x_8 24)), (IntKind.u8.wrap (shrI .u32 x_8 16)), (IntKind.u8.wrap (shrI .u32 x_8 8)), (IntKind.u8.wrap x_8)] : List Int)) eI_u8_ok) ⟨by first | omega | (simp; done) | (simp; omega), by first | omega | (simp; done) | (simp; omega)⟩ (n := ((((((([(IntKind.u8.wrap (shrI .u32 x_1 24)), (IntKind.u8.wrap (shrI .u32 x_1 16)), (IntKind.u8.wrap (shrI .u32 x_1 8)), (IntKind.u8.wrap x_1)] : List Int) ++ ([(IntKind.u8.wrap (shrI .u32 x_2 24)), (IntKind.u8.wrap (shrI .u32 x_2 16)), (IntKind.u8.wrap (shrI .u32 x_2 8)), (IntKind.u8.wrap x_2)] : List Int)) ++ ([(IntKind.u8.wrap (shrI .u32 x_3 24)), (IntKind.u8.wrap (shrI .u32 x_3 16)), (IntKind.u8.wrap (shrI .u32 x_3 8)), (IntKind.u8.wrap x_3)] : List Int)) ++ ([(IntKind.u8.wrap (shrI .u32 x_4 24)), (IntKind.u8.wrap (shrI .u32 x_4 16)), (IntKind.u8.wrap (shrI .u32 x_4 8)), (IntKind.u8.wrap x_4)] : List Int)) ++ ([(IntKind.u8.wrap (shrI .u32 x_5 24)), (IntKind.u8.wrap (shrI .u32 x_5 16)), (IntKind.u8.wrap (shrI .u32 x_5 8)), (IntKind.u8.wrap x_5)] : List Int)) ++ ([(IntKind.u8.wrap (shrI .u32 x_6 24)), (IntKind.u8.wrap (shrI .u32 x_6 16)), (IntKind.u8.wrap (shrI .u32 x_6 8)), (IntKind.u8.wrap x_6)] : List Int)) ++ ([(IntKind.u8.wrap (shrI .u32 x_7 24)), (IntKind.u8.wrap (shrI .u32 x_7 16)), (IntKind.u8.wrap (shrI .u32 x_7 8)), (IntKind.u8.wrap x_7)] : List Int)).length) (m := 4) (k := fun ax8 cx8 Bx8 hox8 => ?_)
      have hal8 : (((((((([(IntKind.u8.wrap (shrI .u32 x_1 24)), (IntKind.u8.wrap (shrI .u32 x_1 16)), (IntKind.u8.wrap (shrI .u32 x_1 8)), (IntKind.u8.wrap x_1)] : List Int) ++ ([(IntKind.u8.wrap (shrI .u32 x_2 24)), (IntKind.u8.wrap (shrI .u32 x_2 16)), (IntKind.u8.wrap (shrI .u32 x_2 8)), (IntKind.u8.wrap x_2)] : List Int)) ++ ([(IntKind.u8.wrap (shrI .u32 x_3 24)), (IntKind.u8.wrap (shrI .u32 x_3 16)), (IntKind.u8.wrap (shrI .u32 x_3 8)), (IntKind.u8.wrap x_3)] : List Int)) ++ ([(IntKind.u8.wrap (shrI .u32 x_4 24)), (IntKind.u8.wrap (shrI .u32 x_4 16)), (IntKind.u8.wrap (shrI .u32 x_4 8)), (IntKind.u8.wrap x_4)] : List Int)) ++ ([(IntKind.u8.wrap (shrI .u32 x_5 24)), (IntKind.u8.wrap (shrI .u32 x_5 16)), (IntKind.u8.wrap (shrI .u32 x_5 8)), (IntKind.u8.wrap x_5)] : List Int)) ++ ([(IntKind.u8.wrap (shrI .u32 x_6 24)), (IntKind.u8.wrap (shrI .u32 x_6 16)), (IntKind.u8.wrap (shrI .u32 x_6 8)), (IntKind.u8.wrap x_6)] : List Int)) ++ ([(IntKind.u8.wrap (shrI .u32 x_7 24)), (IntKind.u8.wrap (shrI .u32 x_7 16)), (IntKind.u8.wrap (shrI .u32 x_7 8)), (IntKind.u8.wrap x_7)] : List Int)) ++ ([(IntKind.u8.wrap (shrI .u32 x_8 24)), (IntKind.u8.wrap (shrI .u32 x_8 16)), (IntKind.u8.wrap (shrI .u32 x_8 8)), (IntKind.u8.wrap x_8)] : List Int)).length = ((((((([(IntKind.u8.wrap (shrI .u32 x_1 24)), (IntKind.u8.wrap (shrI .u32 x_1 16)), (IntKind.u8.wrap (shrI .u32 x_1 8)), (IntKind.u8.wrap x_1)] : List Int) ++ ([(IntKind.u8.wrap (shrI .u32 x_2 24)), (IntKind.u8.wrap (shrI .u32 x_2 16)), (IntKind.u8.wrap (shrI .u32 x_2 8)), (IntKind.u8.wrap x_2)] : List Int)) ++ ([(IntKind.u8.wrap (shrI .u32 x_3 24)), (IntKind.u8.wrap (shrI .u32 x_3 16)), (IntKind.u8.wrap (shrI .u32 x_3 8)), (IntKind.u8.wrap x_3)] : List Int)) ++ ([(IntKind.u8.wrap (shrI .u32 x_4 24)), (IntKind.u8.wrap (shrI .u32 x_4 16)), (IntKind.u8.wrap (shrI .u32 x_4 8)), (IntKind.u8.wrap x_4)] : List Int)) ++ ([(IntKind.u8.wrap (shrI .u32 x_5 24)), (IntKind.u8.wrap (shrI .u32 x_5 16)), (IntKind.u8.wrap (shrI .u32 x_5 8)), (IntKind.u8.wrap x_5)] : List Int)) ++ ([(IntKind.u8.wrap (shrI .u32 x_6 24)), (IntKind.u8.wrap (shrI .u32 x_6 16)), (IntKind.u8.wrap (shrI .u32 x_6 8)), (IntKind.u8.wrap x_6)] : List Int)) ++ ([(IntKind.u8.wrap (shrI .u32 x_7 24)), (IntKind.u8.wrap (shrI .u32 x_7 16)), (IntKind.u8.wrap (shrI .u32 x_7 8)), (IntKind.u8.wrap x_7)] : List Int)).length + 4 := by first | rfl | simp
      refine JL_q (q_assign) (k := ?_)
      refine JL_nil ?_
      refine JX_block ?_
      refine JX_seq ?_
      refine J_reg ?_
      refine JL_q (q_add) (k := ?_)
      refine JL_q (q_move) (k := ?_)
      refine JL_nil ?_
      refine JX_again ?_
      refine J_seq ?_
      refine J_reg ?_
      refine JL_q (q_lss) (k := ?_)
      refine JL_nil ?_
      refine JX_seq ?_
      refine J_seq ?_
      refine J_false rfl ?_
      refine J_exit ?_
      refine JX_seq_exit ?_
      refine JX_inv_exit ?_
      refine JX_block_hit ?_
      refine JX_seq ?_
      refine J_seq ?_
      refine J_reg ?_
      refine JL_q (q_move) (k := ?_)
      refine JL_q (q_str Tryd.underlying9 Tryd.underlying33 Tryd.underlying5 (hox8.slj eI_u8_ok)) (k := ?_)
      refine JL_q (q_assign) (k := ?_)
      refine JL_nil ?_
      refine JX_seq ?_
      refine J_ret ?_
      refine JX_retD [rD7] ((List.Perm.append_left _ ((List.Perm.cons _ ((List.Perm.cons _ ((List.Perm.cons _ ((List.Perm.cons _ ((List.Perm.cons _ ((List.Perm.cons _ ((List.Perm.cons _ ((List.Perm.cons _ ((List.Perm.cons _ (List.Perm.refl _)).trans (List.Perm.swap _ _ _))).trans (List.Perm.swap _ _ _))).trans (List.Perm.swap _ _ _))).trans (List.Perm.swap _ _ _))).trans (List.Perm.swap _ _ _))).trans (List.Perm.swap _ _ _))).trans (List.Perm.swap _ _ _))).trans (List.Perm.swap _ _ _))).trans (List.Perm.swap _ _ _))).trans List.perm_middle) Tryd.results19 (Res.tmp rfl Res.nil) (fun w1 hw1 => ?_)
      exact ⟨(by rw [((hF.rn9 (hF11.neg hq1))).eq] <;> first | rfl | (simp only [List.length_set] <;> rfl)), hw1.ext_out⟩
    refine J_skip ?_
    refine JX_seq ?_
    refine J_seq ?_
    refine J_block ?_
    refine J_seq ?_
    refine J_reg ?_
    refine JL_q (q_move) (k := ?_)
    refine JL_q (q_load Tryd.isAgg9) (k := ?_)
    refine JL_q (q_subThi (s := x_9) 64 Tryd.runUnderlying9 (by omega)) (k := ?_)
    have hsb5 : (x_9.take 64).length = 64 := by first | omega | (simp only [List.length_take, List.length_drop, List.length_cons, List.length_nil] <;> omega)
    refine JL_yIn (vs := [(Value.string (bs (x_9.take 64)))]) hl7 (List.Perm.refl _) y_call ?_
    refine J_reg ?_
    refine JL_q (q_assign) (k := ?_)
    refine JL_nil ?_
    refine JX_begin (List.Perm.refl _) ?_
    refine J_block ?_
    refine J_reg ?_
    refine JL_q (q_load Tryd.isAgg47) (k := ?_)
    refine JL_q (q_move) (k := ?_)
    refine JL_inl (args := [(Value.pointer (some ⟨r2, 0, none⟩)), (Value.string (bs (x_9.take 64)))]) (c_callA Tryd.call35) Tryd.func35 Tryd.ntmps35 ?_
    refine J_seq ?_
    refine J_reg ?_
    refine JL_q (q_move) (k := ?_)
    refine JL_q (q_nil) (k := ?_)
    refine JL_q (q_fld FO_54_0) (k := ?_)
    refine JL_q (q_loadA Tryd.isAgg51 Tryd.sizeOf51) (k := ?_)
    refine JL_a noMk (a_alloc (l := [_, _, _, _, _, _, _, _]) Tryd.zeroValue51) (k := fun r8 hr8 => ?_)
    refine JL_s (w_store (l' := [_, _, _, _, _, _, _, _]) Tryd.sizeOf51) (k := ?_)
    refine JL_nil ?_
    refine JX_seq ?_
    refine J_seq ?_
    refine J_reg ?_
    refine JL_q (q_func) (k := ?_)
    refine JL_q (q_assign) (k := ?_)
    refine JL_nil ?_
    refine JX_seq ?_
    refine J_seq ?_
    refine J_seq ?_
    refine J_reg ?_
    refine JL_q (q_move) (k := ?_)
    refine JL_v (args := [(Value.string (bs (x_9.take 64)))]) (c_callA Tryd.call49) (fun w1 hw1 => sWords_ok w1 (b := (x_9.take 64)) (hb := by first | omega | (simp only [List.length_append, List.length_take, List.length_drop, List.length_set, List.length_replicate, List.length_cons, List.length_nil, List.length_map, toS_length, toI_length]; omega) | (simp only [List.length_append, List.length_take, List.length_drop, List.length_set, List.length_replicate, List.length_cons, List.length_nil, List.length_map, toS_length, toI_length] at *; omega) | decide)) (k := ?_)
    have hw64_79152 := sWords_len (b := (x_9.take 64))
    refine JL_q (q_move) (k := ?_)
    refine JL_nil ?_
    refine JX_seq ?_
    refine J_block ?_
    refine J_loop10 (σ1 := Nat) (σ2 := Nat) (σ3 := Int) (σ4 := Int) (σ5 := Int) (σ6 := Int) (σ7 := Int) (σ8 := Int) (σ9 := Int) (σ10 := Int) (fun n_22 x_13 x_14 x_15 x_16 x_17 x_18 x_19 x_20 x_21 => ((r8, Obj.cells [(Value.int .u32 (x_14)), (Value.int .u32 (x_15)), (Value.int .u32 (x_16)), (Value.int .u32 (x_17)), (Value.int .u32 (x_18)), (Value.int .u32 (x_19)), (Value.int .u32 (x_20)), (Value.int .u32 (x_21))].toArray 51) :: ((l7, loopAt rr7 .busy none) :: ((rD7, Obj.deferred (some [])) :: ((r6, Obj.cells [(Value.string (bs x_9))].toArray 9) :: ((r5, Obj.cells [(Value.int .u32 (1779033703)), (Value.int .u32 (3144134277)), (Value.int .u32 (1013904242)), (Value.int .u32 (2773480762)), (Value.int .u32 (1359893119)), (Value.int .u32 (2600822924)), (Value.int .u32 (528734635)), (Value.int .u32 (1541459225))].toArray 51) :: ((r4, Obj.cells [(Value.int .u32 (1779033703)), (Value.int .u32 (3144134277)), (Value.int .u32 (1013904242)), (Value.int .u32 (2773480762)), (Value.int .u32 (1359893119)), (Value.int .u32 (2600822924)), (Value.int .u32 (528734635)), (Value.int .u32 (1541459225))].toArray 51) :: ((r3, Obj.cells [(Value.pointer (some ⟨r2, 0, none⟩))].toArray 47) :: ((r2, Obj.cells [(Value.int .u32 (x_1)), (Value.int .u32 (x_2)), (Value.int .u32 (x_3)), (Value.int .u32 (x_4)), (Value.int .u32 (x_5)), (Value.int .u32 (x_6)), (Value.int .u32 (x_7)), (Value.int .u32 (x_8))].toArray 54) :: ((r1, Obj.cells [(Value.int .u32 (1779033703)), (Value.int .u32 (3144134277)), (Value.int .u32 (1013904242)), (Value.int .u32 (2773480762)), (Value.int .u32 (1359893119)), (Value.int .u32 (2600822924)), (Value.int .u32 (528734635)), (Value.int .u32 (1541459225))].toArray 51) :: [])))))))))) (fun n_22 x_13 x_14 x_15 x_16 x_17 x_18 x_19 x_20 x_21 => [(0, (Value.pointer (some ⟨r2, 0, none⟩))), (4, (Value.pointer (some ⟨r8, 0, none⟩))), (5, (Value.func (.func 48) [(Value.pointer (some ⟨r8, 0, none⟩))].toArray [].toArray)), (14, (Value.agg (aI .u32 (sWords (x_9.take 64))).toArray)), (15, (Value.int .i64 (((x_13 : Nat) : Int))))]) (fun n_22 x_13 x_14 x_15 x_16 x_17 x_18 x_19 x_20 x_21 => 64 - x_13 < n_22 ∧ Is (sSum_l1 s x_1 x_2 x_3 x_4 x_5 x_6 x_7 x_8 x_9 (64 + 1) 0 x_1 x_2 x_3 x_4 x_5 x_6 x_7 x_8) (sSum_l1 s x_1 x_2 x_3 x_4 x_5 x_6 x_7 x_8 x_9 n_22 x_13 x_14 x_15 x_16 x_17 x_18 x_19 x_20 x_21) ∧ x_13 ≤ 64) (fun n_22 x_13 x_14 x_15 x_16 x_17 x_18 x_19 x_20 x_21 => n_22) (64 + 1) 0 x_1 x_2 x_3 x_4 x_5 x_6 x_7 x_8 ?_ (by repeat (first | exact SubE.nil | refine SubE.cons rfl ?_)) (List.Perm.refl _) ?_
    · exact ⟨Nat.lt_succ_self _, Is.refl _, (by first | omega | rfl | (simp; done))⟩
    · rintro (_ | n_22) x_13 x_14 x_15 x_16 x_17 x_18 x_19 x_20 x_21 ⟨hm24, hF23, hi25⟩
      · omega
      refine J_seq ?_
      refine J_reg ?_
      refine JL_q (q_lss) (k := ?_)
      refine JL_nil ?_
      refine JX_seq ?_
      refine J_seq ?_
      refine J_dec rfl (fun hq2 => ?_) (fun hq2 => ?_)
      · refine J_skip ?_
        refine JX_seq ?_
        refine J_seq ?_
        refine J_block ?_
        refine J_seq ?_
        refine J_reg ?_
        refine JL_q (q_move) (k := ?_)
        refine JL_q (q_idxAI (m := x_13) Tryd.runUnderlying81 Tryd.sizeOf49 Tryd.isAgg49 (hm := by first | omega | (simp only [List.length_set]; omega) | (simp only [List.length_append, List.length_take, List.length_drop, List.length_set, List.length_replicate, List.length_cons, List.length_nil, List.length_map, toS_length, toI_length]; omega)) (hl := by first | omega | (simp only [List.length_set]; omega) | (simp only [List.length_append, List.length_take, List.length_drop, List.length_set, List.length_replicate, List.length_cons, List.length_nil, List.length_map, toS_length, toI_length]; omega))) (k := ?_)
        refine JL_q (q_assign) (k := ?_)
        refine JL_q (q_assign) (k := ?_)
        refine JL_nil ?_
        refine JX_seq ?_
        refine J_reg ?_
        refine JL_q (q_move) (k := ?_)
        refine JL_q (q_move) (k := ?_)
        refine JL_q (q_move) (k := ?_)
        refine JL_q (q_idxI x_13 x_13 Tryd.runUnderlying74 Tryd.sizeOf48 (hm := by first | omega | (simp only [List.length_set]; omega) | (simp only [List.length_append, List.length_take, List.length_drop, List.length_set, List.length_replicate, List.length_cons, List.length_nil, List.length_map, toS_length, toI_length]; omega))) (k := ?_)
        obtain ⟨Thgl3, fhgl3, hgl3⟩ := hG.sha
        refine JL_q (q_loadIB (xs := shaTab) (m := x_13) Tryd.isAgg48 (by (have := shaTab_len; omega)) hgl3) (k := ?_)
        refine JL_inl (args := [(Value.pointer (some ⟨r8, 0, none⟩)), (Value.int .u32 (((sWords (x_9.take 64)).getD x_13 default))), (Value.int .u32 ((shaTab.getD x_13 default)))]) (c_callA Tryd.call48) Tryd.func48 Tryd.ntmps48 ?_
        refine J_seq ?_
        refine J_reg ?_
        refine JL_q (q_buildA (cs := [_, _]) Tryd.zeroValue97 PL_97) (k := ?_)
        refine JL_a noMk (a_alloc (l := [_, _]) Tryd.zeroValue97) (k := fun r9 hr9 => ?_)
        refine JL_s (w_store (l' := [_, _]) Tryd.sizeOf97) (k := ?_)
        refine JL_nil ?_
        refine JX_seq ?_
        refine J_seq ?_
        refine J_plan mixed 30 [(true, 0), (true, 1), (true, 2), (true, 3), (true, 4), (true, 5), (true, 6), (true, 7), (true, 8), (true, 9), (true, 10), (true, 11), (true, 12), (true, 13), (true, 14), (true, 15), (true, 16), (true, 17), (true, 18), (true, 19), (true, 20), (true, 21), (true, 22), (true, 23), (true, 24), (true, 25), (true, 26), (true, 27), (true, 28), (true, 29)] (by kernel_rfl) ?_
        refine JD_q (q_move) (k := ?_)
        refine JD_q (q_nil) (k := ?_)
        refine JD_q (q_idxP (m := 0) Tryd.runUnderlying51 Tryd.sizeOf49) (k := ?_)
        refine JD_q (q_load Tryd.isAgg49) (k := ?_)
        refine JD_q (q_move) (k := ?_)
        refine JD_q (q_nil) (k := ?_)
        refine JD_q (q_idxP (m := 1) Tryd.runUnderlying51 Tryd.sizeOf49) (k := ?_)
        refine JD_q (q_load Tryd.isAgg49) (k := ?_)
        refine JD_q (q_move) (k := ?_)
        refine JD_q (q_nil) (k := ?_)
        refine JD_q (q_idxP (m := 2) Tryd.runUnderlying51 Tryd.sizeOf49) (k := ?_)
        refine JD_q (q_load Tryd.isAgg49) (k := ?_)
        refine JD_q (q_move) (k := ?_)
        refine JD_q (q_nil) (k := ?_)
        refine JD_q (q_idxP (m := 4) Tryd.runUnderlying51 Tryd.sizeOf49) (k := ?_)
        refine JD_q (q_load Tryd.isAgg49) (k := ?_)
        refine JD_q (q_move) (k := ?_)
        refine JD_q (q_nil) (k := ?_)
        refine JD_q (q_idxP (m := 5) Tryd.runUnderlying51 Tryd.sizeOf49) (k := ?_)
        refine JD_q (q_load Tryd.isAgg49) (k := ?_)
        refine JD_q (q_move) (k := ?_)
        refine JD_q (q_nil) (k := ?_)
        refine JD_q (q_idxP (m := 6) Tryd.runUnderlying51 Tryd.sizeOf49) (k := ?_)
        refine JD_q (q_load Tryd.isAgg49) (k := ?_)
        refine JD_q (q_assign) (k := ?_)
        refine JD_q (q_assign) (k := ?_)
        refine JD_q (q_assign) (k := ?_)
        refine JD_q (q_assign) (k := ?_)
        refine JD_q (q_assign) (k := ?_)
        refine JD_q (q_assign) (k := ?_)
        refine JD_nil0 ?_
        refine JL_nil ?_
        refine JX_seq ?_
        refine J_seq ?_
        refine J_plan mixed 23 [(true, 0), (true, 1), (true, 2), (true, 3), (true, 4), (true, 5), (true, 6), (true, 9), (true, 10), (true, 11), (true, 12), (true, 13), (true, 14), (true, 15), (true, 16), (true, 18), (true, 20), (false, 7), (true, 8), (true, 17), (true, 19), (true, 21), (true, 22)] (by kernel_rfl) ?_
        refine JD_q (q_move) (k := ?_)
        refine JD_q (q_nil) (k := ?_)
        refine JD_q (q_idxP (m := 7) Tryd.runUnderlying51 Tryd.sizeOf49) (k := ?_)
        refine JD_q (q_load Tryd.isAgg49) (k := ?_)
        refine JD_q (q_idxP (m := 0) Tryd.runUnderlying97 Tryd.sizeOf95) (k := ?_)
        refine JD_q (q_load Tryd.isAgg95) (k := ?_)
        refine JD_q (q_move) (k := ?_)
        refine JD_q (q_move) (k := ?_)
        refine JD_q (q_move) (k := ?_)
        refine JD_q (q_andW) (k := ?_)
        refine JD_q (q_move) (k := ?_)
        refine JD_q (q_notI) (k := ?_)
        refine JD_q (q_move) (k := ?_)
        refine JD_q (q_andW) (k := ?_)
        refine JD_q (q_xorW) (k := ?_)
        refine JD_q (q_move) (k := ?_)
        refine JD_q (q_move) (k := ?_)
        refine JD_v (args := [(Value.int .u32 (x_18))]) (c_callA Tryd.call57) (fun w1 hw1 => wLower_ok w1 (w_ := x_18)) (k := ?_)
        refine JD_q (q_addW) (k := ?_)
        refine JD_q (q_addW) (k := ?_)
        refine JD_q (q_addW) (k := ?_)
        refine JD_q (q_addW) (k := ?_)
        refine JD_q (q_assign) (k := ?_)
        refine JD_nil0 ?_
        refine JL_nil ?_
        refine JX_seq ?_
        refine J_seq ?_
        refine J_reg ?_
        refine JL_q (q_idxP (m := 1) Tryd.runUnderlying97 Tryd.sizeOf95) (k := ?_)
        refine JL_q (q_load Tryd.isAgg95) (k := ?_)
        refine JL_q (q_move) (k := ?_)
        refine JL_v (args := [(Value.int .u32 (x_14))]) (c_callA Tryd.call58) (fun w1 hw1 => wUpper_ok w1 (w_ := x_14)) (k := ?_)
        refine JL_q (q_move) (k := ?_)
        refine JL_q (q_move) (k := ?_)
        refine JL_q (q_andW) (k := ?_)
        refine JL_q (q_move) (k := ?_)
        refine JL_q (q_move) (k := ?_)
        refine JL_q (q_andW) (k := ?_)
        refine JL_q (q_xorW) (k := ?_)
        refine JL_q (q_move) (k := ?_)
        refine JL_q (q_move) (k := ?_)
        refine JL_q (q_andW) (k := ?_)
        refine JL_q (q_xorW) (k := ?_)
        refine JL_q (q_addW) (k := ?_)
        refine JL_q (q_assign) (k := ?_)
        refine JL_nil ?_
        refine JX_seq ?_
        refine J_seq ?_
        refine J_planV ((r9, Obj.cells [(Value.func (.func 57) [].toArray [].toArray), (Value.func (.func 58) [].toArray [].toArray)].toArray 97) :: ((l7, loopAt rr7 .busy none) :: ((rD7, Obj.deferred (some [])) :: ((r6, Obj.cells [(Value.string (bs x_9))].toArray 9) :: ((r5, Obj.cells [(Value.int .u32 (1779033703)), (Value.int .u32 (3144134277)), (Value.int .u32 (1013904242)), (Value.int .u32 (2773480762)), (Value.int .u32 (1359893119)), (Value.int .u32 (2600822924)), (Value.int .u32 (528734635)), (Value.int .u32 (1541459225))].toArray 51) :: ((r4, Obj.cells [(Value.int .u32 (1779033703)), (Value.int .u32 (3144134277)), (Value.int .u32 (1013904242)), (Value.int .u32 (2773480762)), (Value.int .u32 (1359893119)), (Value.int .u32 (2600822924)), (Value.int .u32 (528734635)), (Value.int .u32 (1541459225))].toArray 51) :: ((r3, Obj.cells [(Value.pointer (some ⟨r2, 0, none⟩))].toArray 47) :: ((r2, Obj.cells [(Value.int .u32 (x_1)), (Value.int .u32 (x_2)), (Value.int .u32 (x_3)), (Value.int .u32 (x_4)), (Value.int .u32 (x_5)), (Value.int .u32 (x_6)), (Value.int .u32 (x_7)), (Value.int .u32 (x_8))].toArray 54) :: ((r1, Obj.cells [(Value.int .u32 (1779033703)), (Value.int .u32 (3144134277)), (Value.int .u32 (1013904242)), (Value.int .u32 (2773480762)), (Value.int .u32 (1359893119)), (Value.int .u32 (2600822924)), (Value.int .u32 (528734635)), (Value.int .u32 (1541459225))].toArray 51) :: []))))))))) ((r8, Obj.cells [(Value.int .u32 (x_14)), (Value.int .u32 (x_15)), (Value.int .u32 (x_16)), (Value.int .u32 (x_17)), (Value.int .u32 (x_18)), (Value.int .u32 (x_19)), (Value.int .u32 (x_20)), (Value.int .u32 (x_21))].toArray 51) :: []) (List.Perm.trans ((List.Perm.cons _ (List.Perm.refl _)).trans (List.Perm.swap _ _ _)) (List.Perm.of_eq (by first | rfl | (simp only [List.cons_append, List.nil_append, List.append_assoc, List.append_nil]; done) | (simp only [List.cons_append, List.nil_append, List.append_assoc, List.append_nil]; rfl)))) mixed 7 [(true, 0), (true, 1), (true, 2), (true, 3), (true, 4), (true, 5), (false, 6)] (by kernel_rfl) ?_
        refine JD_q (q_move) (k := ?_)
        refine JD_q (q_nil) (k := ?_)
        refine JD_q (q_slicePlo 1 1 7 Tryd.runUnderlying51 Tryd.sizeOf49 (by decide) rfl rfl rfl) (k := ?_)
        refine JD_q (q_move) (k := ?_)
        refine JD_q (q_nil) (k := ?_)
        refine JD_q (q_slicePhi 7 Tryd.runUnderlying51 Tryd.sizeOf49 (by decide) (by decide) rfl) (k := ?_)
        refine JD_copyC (l' := [_, _, _, _, _, _, _, _]) (us := [_, _, _, _, _, _, _]) Tryd.runUnderlying84 Tryd.sizeOf49 (List.Perm.refl _) (by repeat (first | exact List.mem_cons_self | apply List.mem_cons_of_mem | apply List.mem_append_right)) (k := ?_)
        refine JD_nil ?_
        refine JL_eqL (L' := ((r8, Obj.cells [(Value.int .u32 (x_14)), (Value.int .u32 (x_14)), (Value.int .u32 (x_15)), (Value.int .u32 (x_16)), (Value.int .u32 (x_17)), (Value.int .u32 (x_18)), (Value.int .u32 (x_19)), (Value.int .u32 (x_20))].toArray 51) :: ((r9, Obj.cells [(Value.func (.func 57) [].toArray [].toArray), (Value.func (.func 58) [].toArray [].toArray)].toArray 97) :: ((l7, loopAt rr7 .busy none) :: ((rD7, Obj.deferred (some [])) :: ((r6, Obj.cells [(Value.string (bs x_9))].toArray 9) :: ((r5, Obj.cells [(Value.int .u32 (1779033703)), (Value.int .u32 (3144134277)), (Value.int .u32 (1013904242)), (Value.int .u32 (2773480762)), (Value.int .u32 (1359893119)), (Value.int .u32 (2600822924)), (Value.int .u32 (528734635)), (Value.int .u32 (1541459225))].toArray 51) :: ((r4, Obj.cells [(Value.int .u32 (1779033703)), (Value.int .u32 (3144134277)), (Value.int .u32 (1013904242)), (Value.int .u32 (2773480762)), (Value.int .u32 (1359893119)), (Value.int .u32 (2600822924)), (Value.int .u32 (528734635)), (Value.int .u32 (1541459225))].toArray 51) :: ((r3, Obj.cells [(Value.pointer (some ⟨r2, 0, none⟩))].toArray 47) :: ((r2, Obj.cells [(Value.int .u32 (x_1)), (Value.int .u32 (x_2)), (Value.int .u32 (x_3)), (Value.int .u32 (x_4)), (Value.int .u32 (x_5)), (Value.int .u32 (x_6)), (Value.int .u32 (x_7)), (Value.int .u32 (x_8))].toArray 54) :: ((r1, Obj.cells [(Value.int .u32 (1779033703)), (Value.int .u32 (3144134277)), (Value.int .u32 (1013904242)), (Value.int .u32 (2773480762)), (Value.int .u32 (1359893119)), (Value.int .u32 (2600822924)), (Value.int .u32 (528734635)), (Value.int .u32 (1541459225))].toArray 51) :: []))))))))))) (by simp only [List.append_nil, List.append_assoc, List.cons_append, List.nil_append]) ?_
        refine JL_nil ?_
        refine JX_seq ?_
        refine J_seq ?_
        refine J_plan mixed 8 [(true, 0), (true, 1), (true, 2), (true, 3), (true, 4), (true, 5), (true, 6), (true, 7)] (by kernel_rfl) ?_
        refine JD_q (q_move) (k := ?_)
        refine JD_q (q_nil) (k := ?_)
        refine JD_q (q_idxP (m := 4) Tryd.runUnderlying51 Tryd.sizeOf49) (k := ?_)
        refine JD_q (q_load Tryd.isAgg49) (k := ?_)
        refine JD_q (q_move) (k := ?_)
        refine JD_q (q_addW) (k := ?_)
        refine JD_q (q_nil) (k := ?_)
        refine JD_q (q_idxP (m := 4) Tryd.runUnderlying51 Tryd.sizeOf49) (k := ?_)
        refine JD_nil0 ?_
        refine JL_s (w_store (l' := [_, _, _, _, _, _, _, _]) Tryd.sizeOf49) (k := ?_)
        refine JL_nil ?_
        refine JX_seq ?_
        refine J_reg ?_
        refine JL_q (q_move) (k := ?_)
        refine JL_q (q_move) (k := ?_)
        refine JL_q (q_move) (k := ?_)
        refine JL_q (q_addW) (k := ?_)
        refine JL_q (q_nil) (k := ?_)
        refine JL_q (q_idxP (m := 0) Tryd.runUnderlying51 Tryd.sizeOf49) (k := ?_)
        refine JL_s (w_store (l' := [_, _, _, _, _, _, _, _]) Tryd.sizeOf49) (k := ?_)
        refine JL_nil ?_
        refine JX_endI Tryd.results48 Res.nil ?_
        refine JL_nil ?_
        refine JX_block ?_
        refine JX_seq ?_
        refine J_reg ?_
        refine JL_q (q_add) (k := ?_)
        refine JL_q (q_move) (k := ?_)
        refine JL_nil ?_
        refine JX_permL ((r8, Obj.cells [(Value.int .u32 ((IntKind.u32.wrap ((IntKind.u32.wrap ((IntKind.u32.wrap ((IntKind.u32.wrap ((IntKind.u32.wrap (x_21 + (wLower x_18))) + (xorI .u32 (andI .u32 x_18 x_19) (andI .u32 (xorI .u32 (IntKind.max .u32) x_18) x_20)))) + (shaTab.getD x_13 default))) + ((sWords (x_9.take 64)).getD x_13 default))) + (IntKind.u32.wrap ((wUpper x_14) + (xorI .u32 (xorI .u32 (andI .u32 x_14 x_15) (andI .u32 x_14 x_16)) (andI .u32 x_15 x_16)))))))), (Value.int .u32 (x_14)), (Value.int .u32 (x_15)), (Value.int .u32 (x_16)), (Value.int .u32 ((IntKind.u32.wrap (x_17 + (IntKind.u32.wrap ((IntKind.u32.wrap ((IntKind.u32.wrap ((IntKind.u32.wrap (x_21 + (wLower x_18))) + (xorI .u32 (andI .u32 x_18 x_19) (andI .u32 (xorI .u32 (IntKind.max .u32) x_18) x_20)))) + (shaTab.getD x_13 default))) + ((sWords (x_9.take 64)).getD x_13 default))))))), (Value.int .u32 (x_18)), (Value.int .u32 (x_19)), (Value.int .u32 (x_20))].toArray 51) :: ((l7, loopAt rr7 .busy none) :: ((rD7, Obj.deferred (some [])) :: ((r6, Obj.cells [(Value.string (bs x_9))].toArray 9) :: ((r5, Obj.cells [(Value.int .u32 (1779033703)), (Value.int .u32 (3144134277)), (Value.int .u32 (1013904242)), (Value.int .u32 (2773480762)), (Value.int .u32 (1359893119)), (Value.int .u32 (2600822924)), (Value.int .u32 (528734635)), (Value.int .u32 (1541459225))].toArray 51) :: ((r4, Obj.cells [(Value.int .u32 (1779033703)), (Value.int .u32 (3144134277)), (Value.int .u32 (1013904242)), (Value.int .u32 (2773480762)), (Value.int .u32 (1359893119)), (Value.int .u32 (2600822924)), (Value.int .u32 (528734635)), (Value.int .u32 (1541459225))].toArray 51) :: ((r3, Obj.cells [(Value.pointer (some ⟨r2, 0, none⟩))].toArray 47) :: ((r2, Obj.cells [(Value.int .u32 (x_1)), (Value.int .u32 (x_2)), (Value.int .u32 (x_3)), (Value.int .u32 (x_4)), (Value.int .u32 (x_5)), (Value.int .u32 (x_6)), (Value.int .u32 (x_7)), (Value.int .u32 (x_8))].toArray 54) :: ((r1, Obj.cells [(Value.int .u32 (1779033703)), (Value.int .u32 (3144134277)), (Value.int .u32 (1013904242)), (Value.int .u32 (2773480762)), (Value.int .u32 (1359893119)), (Value.int .u32 (2600822924)), (Value.int .u32 (528734635)), (Value.int .u32 (1541459225))].toArray 51) :: ((r9, Obj.cells [(Value.func (.func 57) [].toArray [].toArray), (Value.func (.func 58) [].toArray [].toArray)].toArray 97) :: [])))))))))) ((((((((((List.Perm.cons _ ((List.Perm.cons _ ((List.Perm.cons _ ((List.Perm.cons _ ((List.Perm.cons _ ((List.Perm.cons _ ((List.Perm.cons _ ((List.Perm.cons _ ((List.Perm.cons _ (List.Perm.refl _)).trans (List.Perm.swap _ _ _))).trans (List.Perm.swap _ _ _))).trans (List.Perm.swap _ _ _))).trans (List.Perm.swap _ _ _))).trans (List.Perm.swap _ _ _))).trans (List.Perm.swap _ _ _))).trans (List.Perm.swap _ _ _))).trans (List.Perm.swap _ _ _))).trans (List.Perm.swap _ _ _)).trans ((List.Perm.cons _ ((List.Perm.cons _ ((List.Perm.cons _ ((List.Perm.cons _ ((List.Perm.cons _ ((List.Perm.cons _ ((List.Perm.cons _ ((List.Perm.cons _ ((List.Perm.cons _ (List.Perm.refl _)).trans (List.Perm.swap _ _ _))).trans (List.Perm.swap _ _ _))).trans (List.Perm.swap _ _ _))).trans (List.Perm.swap _ _ _))).trans (List.Perm.swap _ _ _))).trans (List.Perm.swap _ _ _))).trans (List.Perm.swap _ _ _))).trans (List.Perm.swap _ _ _))).trans (List.Perm.swap _ _ _))).trans ((List.Perm.cons _ ((List.Perm.cons _ ((List.Perm.cons _ ((List.Perm.cons _ ((List.Perm.cons _ ((List.Perm.cons _ ((List.Perm.cons _ ((List.Perm.cons _ ((List.Perm.cons _ (List.Perm.refl _)).trans (List.Perm.swap _ _ _))).trans (List.Perm.swap _ _ _))).trans (List.Perm.swap _ _ _))).trans (List.Perm.swap _ _ _))).trans (List.Perm.swap _ _ _))).trans (List.Perm.swap _ _ _))).trans (List.Perm.swap _ _ _))).trans (List.Perm.swap _ _ _))).trans (List.Perm.swap _ _ _))).trans ((List.Perm.cons _ ((List.Perm.cons _ ((List.Perm.cons _ ((List.Perm.cons _ ((List.Perm.cons _ ((List.Perm.cons _ ((List.Perm.cons _ ((List.Perm.cons _ ((List.Perm.cons _ (List.Perm.refl _)).trans (List.Perm.swap _ _ _))).trans (List.Perm.swap _ _ _))).trans (List.Perm.swap _ _ _))).trans (List.Perm.swap _ _ _))).trans (List.Perm.swap _ _ _))).trans (List.Perm.swap _ _ _))).trans (List.Perm.swap _ _ _))).trans (List.Perm.swap _ _ _))).trans (List.Perm.swap _ _ _))).trans ((List.Perm.cons _ ((List.Perm.cons _ ((List.Perm.cons _ ((List.Perm.cons _ ((List.Perm.cons _ ((List.Perm.cons _ ((List.Perm.cons _ ((List.Perm.cons _ ((List.Perm.cons _ (List.Perm.refl _)).trans (List.Perm.swap _ _ _))).trans (List.Perm.swap _ _ _))).trans (List.Perm.swap _ _ _))).trans (List.Perm.swap _ _ _))).trans (List.Perm.swap _ _ _))).trans (List.Perm.swap _ _ _))).trans (List.Perm.swap _ _ _))).trans (List.Perm.swap _ _ _))).trans (List.Perm.swap _ _ _))).trans ((List.Perm.cons _ ((List.Perm.cons _ ((List.Perm.cons _ ((List.Perm.cons _ ((List.Perm.cons _ ((List.Perm.cons _ ((List.Perm.cons _ ((List.Perm.cons _ ((List.Perm.cons _ (List.Perm.refl _)).trans (List.Perm.swap _ _ _))).trans (List.Perm.swap _ _ _))).trans (List.Perm.swap _ _ _))).trans (List.Perm.swap _ _ _))).trans (List.Perm.swap _ _ _))).trans (List.Perm.swap _ _ _))).trans (List.Perm.swap _ _ _))).trans (List.Perm.swap _ _ _))).trans (List.Perm.swap _ _ _))).trans ((List.Perm.cons _ ((List.Perm.cons _ ((List.Perm.cons _ ((List.Perm.cons _ ((List.Perm.cons _ ((List.Perm.cons _ ((List.Perm.cons _ ((List.Perm.cons _ ((List.Perm.cons _ (List.Perm.refl _)).trans (List.Perm.swap _ _ _))).trans (List.Perm.swap _ _ _))).trans (List.Perm.swap _ _ _))).trans (List.Perm.swap _ _ _))).trans (List.Perm.swap _ _ _))).trans (List.Perm.swap _ _ _))).trans (List.Perm.swap _ _ _))).trans (List.Perm.swap _ _ _))).trans (List.Perm.swap _ _ _))).trans ((List.Perm.cons _ ((List.Perm.cons _ ((List.Perm.cons _ ((List.Perm.cons _ ((List.Perm.cons _ ((List.Perm.cons _ ((List.Perm.cons _ ((List.Perm.cons _ ((List.Perm.cons _ (List.Perm.refl _)).trans (List.Perm.swap _ _ _))).trans (List.Perm.swap _ _ _))).trans (List.Perm.swap _ _ _))).trans (List.Perm.swap _ _ _))).trans (List.Perm.swap _ _ _))).trans (List.Perm.swap _ _ _))).trans (List.Perm.swap _ _ _))).trans (List.Perm.swap _ _ _))).trans (List.Perm.swap _ _ _))).trans ((List.Perm.cons _ ((List.Perm.cons _ ((List.Perm.cons _ ((List.Perm.cons _ ((List.Perm.cons _ ((List.Perm.cons _ ((List.Perm.cons _ ((List.Perm.cons _ (List.Perm.refl _)).trans (List.Perm.swap _ _ _))).trans (List.Perm.swap _ _ _))).trans (List.Perm.swap _ _ _))).trans (List.Perm.swap _ _ _))).trans (List.Perm.swap _ _ _))).trans (List.Perm.swap _ _ _))).trans (List.Perm.swap _ _ _))).trans (List.Perm.swap _ _ _))) ?_
        refine JX_subL ((r8, Obj.cells [(Value.int .u32 ((IntKind.u32.wrap ((IntKind.u32.wrap ((IntKind.u32.wrap ((IntKind.u32.wrap ((IntKind.u32.wrap (x_21 + (wLower x_18))) + (xorI .u32 (andI .u32 x_18 x_19) (andI .u32 (xorI .u32 (IntKind.max .u32) x_18) x_20)))) + (shaTab.getD x_13 default))) + ((sWords (x_9.take 64)).getD x_13 default))) + (IntKind.u32.wrap ((wUpper x_14) + (xorI .u32 (xorI .u32 (andI .u32 x_14 x_15) (andI .u32 x_14 x_16)) (andI .u32 x_15 x_16)))))))), (Value.int .u32 (x_14)), (Value.int .u32 (x_15)), (Value.int .u32 (x_16)), (Value.int .u32 ((IntKind.u32.wrap (x_17 + (IntKind.u32.wrap ((IntKind.u32.wrap ((IntKind.u32.wrap ((IntKind.u32.wrap (x_21 + (wLower x_18))) + (xorI .u32 (andI .u32 x_18 x_19) (andI .u32 (xorI .u32 (IntKind.max .u32) x_18) x_20)))) + (shaTab.getD x_13 default))) + ((sWords (x_9.take 64)).getD x_13 default))))))), (Value.int .u32 (x_18)), (Value.int .u32 (x_19)), (Value.int .u32 (x_20))].toArray 51) :: ((l7, loopAt rr7 .busy none) :: ((rD7, Obj.deferred (some [])) :: ((r6, Obj.cells [(Value.string (bs x_9))].toArray 9) :: ((r5, Obj.cells [(Value.int .u32 (1779033703)), (Value.int .u32 (3144134277)), (Value.int .u32 (1013904242)), (Value.int .u32 (2773480762)), (Value.int .u32 (1359893119)), (Value.int .u32 (2600822924)), (Value.int .u32 (528734635)), (Value.int .u32 (1541459225))].toArray 51) :: ((r4, Obj.cells [(Value.int .u32 (1779033703)), (Value.int .u32 (3144134277)), (Value.int .u32 (1013904242)), (Value.int .u32 (2773480762)), (Value.int .u32 (1359893119)), (Value.int .u32 (2600822924)), (Value.int .u32 (528734635)), (Value.int .u32 (1541459225))].toArray 51) :: ((r3, Obj.cells [(Value.pointer (some ⟨r2, 0, none⟩))].toArray 47) :: ((r2, Obj.cells [(Value.int .u32 (x_1)), (Value.int .u32 (x_2)), (Value.int .u32 (x_3)), (Value.int .u32 (x_4)), (Value.int .u32 (x_5)), (Value.int .u32 (x_6)), (Value.int .u32 (x_7)), (Value.int .u32 (x_8))].toArray 54) :: ((r1, Obj.cells [(Value.int .u32 (1779033703)), (Value.int .u32 (3144134277)), (Value.int .u32 (1013904242)), (Value.int .u32 (2773480762)), (Value.int .u32 (1359893119)), (Value.int .u32 (2600822924)), (Value.int .u32 (528734635)), (Value.int .u32 (1541459225))].toArray 51) :: []))))))))) (List.Sublist.cons_cons _ (List.Sublist.cons_cons _ (List.Sublist.cons_cons _ (List.Sublist.cons_cons _ (List.Sublist.cons_cons _ (List.Sublist.cons_cons _ (List.Sublist.cons_cons _ (List.Sublist.cons_cons _ (List.Sublist.cons_cons _ (List.nil_sublist _)))))))))) ?_
        exact JX_inv10 n_22 (x_13 + 1) (IntKind.u32.wrap ((IntKind.u32.wrap ((IntKind.u32.wrap ((IntKind.u32.wrap ((IntKind.u32.wrap (x_21 + (wLower x_18))) + (xorI .u32 (andI .u32 x_18 x_19) (andI .u32 (xorI .u32 (IntKind.max .u32) x_18) x_20)))) + (shaTab.getD x_13 default))) + ((sWords (x_9.take 64)).getD x_13 default))) + (IntKind.u32.wrap ((wUpper x_14) + (xorI .u32 (xorI .u32 (andI .u32 x_14 x_15) (andI .u32 x_14 x_16)) (andI .u32 x_15 x_16)))))) x_14 x_15 x_16 (IntKind.u32.wrap (x_17 + (IntKind.u32.wrap ((IntKind.u32.wrap ((IntKind.u32.wrap ((IntKind.u32.wrap (x_21 + (wLower x_18))) + (xorI .u32 (andI .u32 x_18 x_19) (andI .u32 (xorI .u32 (IntKind.max .u32) x_18) x_20)))) + (shaTab.getD x_13 default))) + ((sWords (x_9.take 64)).getD x_13 default))))) x_18 x_19 x_20 ⟨by omega, (hF23.pos hq2), (by omega)⟩ (Nat.lt_succ_self _) (by repeat (first | exact SubE.nil | refine SubE.cons rfl ?_)) (List.Perm.refl _)
      refine J_exit ?_
      refine JX_seq_exit ?_
      refine JX_inv_exit ?_
      refine JX_block_hit ?_
      refine JX_seq ?_
      refine J_planV ((r8, Obj.cells [(Value.int .u32 (x_14)), (Value.int .u32 (x_15)), (Value.int .u32 (x_16)), (Value.int .u32 (x_17)), (Value.int .u32 (x_18)), (Value.int .u32 (x_19)), (Value.int .u32 (x_20)), (Value.int .u32 (x_21))].toArray 51) :: ((l7, loopAt rr7 .busy none) :: ((rD7, Obj.deferred (some [])) :: ((r6, Obj.cells [(Value.string (bs x_9))].toArray 9) :: ((r5, Obj.cells [(Value.int .u32 (1779033703)), (Value.int .u32 (3144134277)), (Value.int .u32 (1013904242)), (Value.int .u32 (2773480762)), (Value.int .u32 (1359893119)), (Value.int .u32 (2600822924)), (Value.int .u32 (528734635)), (Value.int .u32 (1541459225))].toArray 51) :: ((r4, Obj.cells [(Value.int .u32 (1779033703)), (Value.int .u32 (3144134277)), (Value.int .u32 (1013904242)), (Value.int .u32 (2773480762)), (Value.int .u32 (1359893119)), (Value.int .u32 (2600822924)), (Value.int .u32 (528734635)), (Value.int .u32 (1541459225))].toArray 51) :: ((r3, Obj.cells [(Value.pointer (some ⟨r2, 0, none⟩))].toArray 47) :: ((r1, Obj.cells [(Value.int .u32 (1779033703)), (Value.int .u32 (3144134277)), (Value.int .u32 (1013904242)), (Value.int .u32 (2773480762)), (Value.int .u32 (1359893119)), (Value.int .u32 (2600822924)), (Value.int .u32 (528734635)), (Value.int .u32 (1541459225))].toArray 51) :: [])))))))) ((r2, Obj.cells [(Value.int .u32 (x_1)), (Value.int .u32 (x_2)), (Value.int .u32 (x_3)), (Value.int .u32 (x_4)), (Value.int .u32 (x_5)), (Value.int .u32 (x_6)), (Value.int .u32 (x_7)), (Value.int .u32 (x_8))].toArray 54) :: []) (List.Perm.trans ((List.Perm.cons _ ((List.Perm.cons _ ((List.Perm.cons _ ((List.Perm.cons _ ((List.Perm.cons _ ((List.Perm.cons _ ((List.Perm.cons _ (List.Perm.refl _)).trans (List.Perm.swap _ _ _))).trans (List.Perm.swap _ _ _))).trans (List.Perm.swap _ _ _))).trans (List.Perm.swap _ _ _))).trans (List.Perm.swap _ _ _))).trans (List.Perm.swap _ _ _))).trans (List.Perm.swap _ _ _)) (List.Perm.of_eq (by first | rfl | (simp only [List.cons_append, List.nil_append, List.append_assoc, List.append_nil]; done) | (simp only [List.cons_append, List.nil_append, List.append_assoc, List.append_nil]; rfl)))) mixed 5 [(true, 0), (true, 1), (true, 2), (true, 3), (false, 4)] (by kernel_rfl) ?_
      refine JD_q (q_move) (k := ?_)
      refine JD_q (q_nil) (k := ?_)
      refine JD_q (q_fld FO_54_0) (k := ?_)
      refine JD_q (q_slicePall Tryd.runUnderlying51 Tryd.sizeOf49 (by decide)) (k := ?_)
      refine JD_inl (args := [(Value.pointer (some ⟨r2, 0, none⟩)), (Value.slice (some ⟨r8, 0, none⟩) (8) (8))]) (c_callA Tryd.call50) Tryd.func50 Tryd.ntmps50 ?_
      refine J_seq ?_
      refine J_reg ?_
      refine JL_q (q_move) (k := ?_)
      refine JL_q (q_lenS Tryd.runUnderlying84) (k := ?_)
      refine JL_q (q_move) (k := ?_)
      refine JL_nil ?_
      refine JX_seq ?_
      refine J_block ?_
      refine J_unroll ?_
      refine J_seq ?_
      refine J_reg ?_
      refine JL_q (q_lss) (k := ?_)
      refine JL_nil ?_
      refine JX_seq ?_
      refine J_seq ?_
      refine J_true rfl ?_
      refine J_skip ?_
      refine JX_seq ?_
      refine J_seq ?_
      refine J_block ?_
      refine J_seq ?_
      refine J_reg ?_
      refine JL_q (q_move) (k := ?_)
      refine JL_q (q_idxO Tryd.runUnderlying84 Tryd.sizeOf49 0) (k := ?_)
      refine JL_q (q_load Tryd.isAgg49) (k := ?_)
      refine JL_q (q_assign) (k := ?_)
      refine JL_q (q_assign) (k := ?_)
      refine JL_nil ?_
      refine JX_seq ?_
      refine J_plan mixed 9 [(true, 0), (true, 1), (true, 2), (true, 3), (true, 4), (true, 5), (true, 6), (true, 7), (true, 8)] (by kernel_rfl) ?_
      refine JD_q (q_move) (k := ?_)
      refine JD_q (q_move) (k := ?_)
      refine JD_q (q_nil) (k := ?_)
      refine JD_q (q_idxP (m := 0) Tryd.runUnderlying51 Tryd.sizeOf49) (k := ?_)
      refine JD_q (q_load Tryd.isAgg49) (k := ?_)
      refine JD_q (q_move) (k := ?_)
      refine JD_q (q_addW) (k := ?_)
      refine JD_q (q_nil) (k := ?_)
      refine JD_q (q_idxP (m := 0) Tryd.runUnderlying51 Tryd.sizeOf49) (k := ?_)
      refine JD_nil0 ?_
      refine JL_s (w_store (l' := [_, _, _, _, _, _, _, _]) Tryd.sizeOf49) (k := ?_)
      refine JL_nil ?_
      refine JX_block ?_
      refine JX_seq ?_
      refine J_reg ?_
      refine JL_q (q_add) (k := ?_)
      refine JL_q (q_move) (k := ?_)
      refine JL_nil ?_
      refine JX_again ?_
      refine J_seq ?_
      refine J_reg ?_
      refine JL_q (q_lss) (k := ?_)
      refine JL_nil ?_
      refine JX_seq ?_
      refine J_seq ?_
      refine J_true rfl ?_
      refine J_skip ?_
      refine JX_seq ?_
      refine J_seq ?_
      refine J_block ?_
      refine J_seq ?_
      refine J_reg ?_
      refine JL_q (q_move) (k := ?_)
      refine JL_q (q_idxO Tryd.runUnderlying84 Tryd.sizeOf49 1) (k := ?_)
      refine JL_q (q_load Tryd.isAgg49) (k := ?_)
      refine JL_q (q_assign) (k := ?_)
      refine JL_q (q_assign) (k := ?_)
      refine JL_nil ?_
      refine JX_seq ?_
      refine J_plan mixed 9 [(true, 0), (true, 1), (true, 2), (true, 3), (true, 4), (true, 5), (true, 6), (true, 7), (true, 8)] (by kernel_rfl) ?_
      refine JD_q (q_move) (k := ?_)
      refine JD_q (q_move) (k := ?_)
      refine JD_q (q_nil) (k := ?_)
      refine JD_q (q_idxP (m := 1) Tryd.runUnderlying51 Tryd.sizeOf49) (k := ?_)
      refine JD_q (q_load Tryd.isAgg49) (k := ?_)
      refine JD_q (q_move) (k := ?_)
      refine JD_q (q_addW) (k := ?_)
      refine JD_q (q_nil) (k := ?_)
      refine JD_q (q_idxP (m := 1) Tryd.runUnderlying51 Tryd.sizeOf49) (k := ?_)
      refine JD_nil0 ?_
      refine JL_s (w_store (l' := [_, _, _, _, _, _, _, _]) Tryd.sizeOf49) (k := ?_)
      refine JL_nil ?_
      refine JX_block ?_
      refine JX_seq ?_
      refine J_reg ?_
      refine JL_q (q_add) (k := ?_)
      refine JL_q (q_move) (k := ?_)
      refine JL_nil ?_
      refine JX_again ?_
      refine J_seq ?_
      refine J_reg ?_
      refine JL_q (q_lss) (k := ?_)
      refine JL_nil ?_
      refine JX_seq ?_
      refine J_seq ?_
      refine J_true rfl ?_
      refine J_skip ?_
      refine JX_seq ?_
      refine J_seq ?_
      refine J_block ?_
      refine J_seq ?_
      refine J_reg ?_
      refine JL_q (q_move) (k := ?_)
      refine JL_q (q_idxO Tryd.runUnderlying84 Tryd.sizeOf49 2) (k := ?_)
      refine JL_q (q_load Tryd.isAgg49) (k := ?_)
      refine JL_q (q_assign) (k := ?_)
      refine JL_q (q_assign) (k := ?_)
      refine JL_nil ?_
      refine JX_seq ?_
      refine J_plan mixed 9 [(true, 0), (true, 1), (true, 2), (true, 3), (true, 4), (true, 5), (true, 6), (true, 7), (true, 8)] (by kernel_rfl) ?_
      refine JD_q (q_move) (k := ?_)
      refine JD_q (q_move) (k := ?_)
      refine JD_q (q_nil) (k := ?_)
      refine JD_q (q_idxP (m := 2) Tryd.runUnderlying51 Tryd.sizeOf49) (k := ?_)
      refine JD_q (q_load Tryd.isAgg49) (k := ?_)
      refine JD_q (q_move) (k := ?_)
      refine JD_q (q_addW) (k := ?_)
      refine JD_q (q_nil) (k := ?_)
      refine JD_q (q_idxP (m := 2) Tryd.runUnderlying51 Tryd.sizeOf49) (k := ?_)
      refine JD_nil0 ?_
      refine JL_s (w_store (l' := [_, _, _, _, _, _, _, _]) Tryd.sizeOf49) (k := ?_)
      refine JL_nil ?_
      refine JX_block ?_
      refine JX_seq ?_
      refine J_reg ?_
      refine JL_q (q_add) (k := ?_)
      refine JL_q (q_move) (k := ?_)
      refine JL_nil ?_
      refine JX_again ?_
      refine J_seq ?_
      refine J_reg ?_
      refine JL_q (q_lss) (k := ?_)
      refine JL_nil ?_
      refine JX_seq ?_
      refine J_seq ?_
      refine J_true rfl ?_
      refine J_skip ?_
      refine JX_seq ?_
      refine J_seq ?_
      refine J_block ?_
      refine J_seq ?_
      refine J_reg ?_
      refine JL_q (q_move) (k := ?_)
      refine JL_q (q_idxO Tryd.runUnderlying84 Tryd.sizeOf49 3) (k := ?_)
      refine JL_q (q_load Tryd.isAgg49) (k := ?_)
      refine JL_q (q_assign) (k := ?_)
      refine JL_q (q_assign) (k := ?_)
      refine JL_nil ?_
      refine JX_seq ?_
      refine J_plan mixed 9 [(true, 0), (true, 1), (true, 2), (true, 3), (true, 4), (true, 5), (true, 6), (true, 7), (true, 8)] (by kernel_rfl) ?_
      refine JD_q (q_move) (k := ?_)
      refine JD_q (q_move) (k := ?_)
      refine JD_q (q_nil) (k := ?_)
      refine JD_q (q_idxP (m := 3) Tryd.runUnderlying51 Tryd.sizeOf49) (k := ?_)
      refine JD_q (q_load Tryd.isAgg49) (k := ?_)
      refine JD_q (q_move) (k := ?_)
      refine JD_q (q_addW) (k := ?_)
      refine JD_q (q_nil) (k := ?_)
      refine JD_q (q_idxP (m := 3) Tryd.runUnderlying51 Tryd.sizeOf49) (k := ?_)
      refine JD_nil0 ?_
      refine JL_s (w_store (l' := [_, _, _, _, _, _, _, _]) Tryd.sizeOf49) (k := ?_)
      refine JL_nil ?_
      refine JX_block ?_
      refine JX_seq ?_
      refine J_reg ?_
      refine JL_q (q_add) (k := ?_)
      refine JL_q (q_move) (k := ?_)
      refine JL_nil ?_
      refine JX_again ?_
      refine J_seq ?_
      refine J_reg ?_
      refine JL_q (q_lss) (k := ?_)
      refine JL_nil ?_
      refine JX_seq ?_
      refine J_seq ?_
      refine J_true rfl ?_
      refine J_skip ?_
      refine JX_seq ?_
      refine J_seq ?_
      refine J_block ?_
      refine J_seq ?_
      refine J_reg ?_
      refine JL_q (q_move) (k := ?_)
      refine JL_q (q_idxO Tryd.runUnderlying84 Tryd.sizeOf49 4) (k := ?_)
      refine JL_q (q_load Tryd.isAgg49) (k := ?_)
      refine JL_q (q_assign) (k := ?_)
      refine JL_q (q_assign) (k := ?_)
      refine JL_nil ?_
      refine JX_seq ?_
      refine J_plan mixed 9 [(true, 0), (true, 1), (true, 2), (true, 3), (true, 4), (true, 5), (true, 6), (true, 7), (true, 8)] (by kernel_rfl) ?_
      refine JD_q (q_move) (k := ?_)
      refine JD_q (q_move) (k := ?_)
      refine JD_q (q_nil) (k := ?_)
      refine JD_q (q_idxP (m := 4) Tryd.runUnderlying51 Tryd.sizeOf49) (k := ?_)
      refine JD_q (q_load Tryd.isAgg49) (k := ?_)
      refine JD_q (q_move) (k := ?_)
      refine JD_q (q_addW) (k := ?_)
      refine JD_q (q_nil) (k := ?_)
      refine JD_q (q_idxP (m := 4) Tryd.runUnderlying51 Tryd.sizeOf49) (k := ?_)
      refine JD_nil0 ?_
      refine JL_s (w_store (l' := [_, _, _, _, _, _, _, _]) Tryd.sizeOf49) (k := ?_)
      refine JL_nil ?_
      refine JX_block ?_
      refine JX_seq ?_
      refine J_reg ?_
      refine JL_q (q_add) (k := ?_)
      refine JL_q (q_move) (k := ?_)
      refine JL_nil ?_
      refine JX_again ?_
      refine J_seq ?_
      refine J_reg ?_
      refine JL_q (q_lss) (k := ?_)
      refine JL_nil ?_
      refine JX_seq ?_
      refine J_seq ?_
      refine J_true rfl ?_
      refine J_skip ?_
      refine JX_seq ?_
      refine J_seq ?_
      refine J_block ?_
      refine J_seq ?_
      refine J_reg ?_
      refine JL_q (q_move) (k := ?_)
      refine JL_q (q_idxO Tryd.runUnderlying84 Tryd.sizeOf49 5) (k := ?_)
      refine JL_q (q_load Tryd.isAgg49) (k := ?_)
      refine JL_q (q_assign) (k := ?_)
      refine JL_q (q_assign) (k := ?_)
      refine JL_nil ?_
      refine JX_seq ?_
      refine J_plan mixed 9 [(true, 0), (true, 1), (true, 2), (true, 3), (true, 4), (true, 5), (true, 6), (true, 7), (true, 8)] (by kernel_rfl) ?_
      refine JD_q (q_move) (k := ?_)
      refine JD_q (q_move) (k := ?_)
      refine JD_q (q_nil) (k := ?_)
      refine JD_q (q_idxP (m := 5) Tryd.runUnderlying51 Tryd.sizeOf49) (k := ?_)
      refine JD_q (q_load Tryd.isAgg49) (k := ?_)
      refine JD_q (q_move) (k := ?_)
      refine JD_q (q_addW) (k := ?_)
      refine JD_q (q_nil) (k := ?_)
      refine JD_q (q_idxP (m := 5) Tryd.runUnderlying51 Tryd.sizeOf49) (k := ?_)
      refine JD_nil0 ?_
      refine JL_s (w_store (l' := [_, _, _, _, _, _, _, _]) Tryd.sizeOf49) (k := ?_)
      refine JL_nil ?_
      refine JX_block ?_
      refine JX_seq ?_
      refine J_reg ?_
      refine JL_q (q_add) (k := ?_)
      refine JL_q (q_move) (k := ?_)
      refine JL_nil ?_
      refine JX_again ?_
      refine J_seq ?_
      refine J_reg ?_
      refine JL_q (q_lss) (k := ?_)
      refine JL_nil ?_
      refine JX_seq ?_
      refine J_seq ?_
      refine J_true rfl ?_
      refine J_skip ?_
      refine JX_seq ?_
      refine J_seq ?_
      refine J_block ?_
      refine J_seq ?_
      refine J_reg ?_
      refine JL_q (q_move) (k := ?_)
      refine JL_q (q_idxO Tryd.runUnderlying84 Tryd.sizeOf49 6) (k := ?_)
      refine JL_q (q_load Tryd.isAgg49) (k := ?_)
      refine JL_q (q_assign) (k := ?_)
      refine JL_q (q_assign) (k := ?_)
      refine JL_nil ?_
      refine JX_seq ?_
      refine J_plan mixed 9 [(true, 0), (true, 1), (true, 2), (true, 3), (true, 4), (true, 5), (true, 6), (true, 7), (true, 8)] (by kernel_rfl) ?_
      refine JD_q (q_move) (k := ?_)
      refine JD_q (q_move) (k := ?_)
      refine JD_q (q_nil) (k := ?_)
      refine JD_q (q_idxP (m := 6) Tryd.runUnderlying51 Tryd.sizeOf49) (k := ?_)
      refine JD_q (q_load Tryd.isAgg49) (k := ?_)
      refine JD_q (q_move) (k := ?_)
      refine JD_q (q_addW) (k := ?_)
      refine JD_q (q_nil) (k := ?_)
      refine JD_q (q_idxP (m := 6) Tryd.runUnderlying51 Tryd.sizeOf49) (k := ?_)
      refine JD_nil0 ?_
      refine JL_s (w_store (l' := [_, _, _, _, _, _, _, _]) Tryd.sizeOf49) (k := ?_)
      refine JL_nil ?_
      refine JX_block ?_
      refine JX_seq ?_
      refine J_reg ?_
      refine JL_q (q_add) (k := ?_)
      refine JL_q (q_move) (k := ?_)
      refine JL_nil ?_
      refine JX_again ?_
      refine J_seq ?_
      refine J_reg ?_
      refine JL_q (q_lss) (k := ?_)
      refine JL_nil ?_
      refine JX_seq ?_
      refine J_seq ?_
      refine J_true rfl ?_
      refine J_skip ?_
      refine JX_seq ?_
      refine J_seq ?_
      refine J_block ?_
      refine J_seq ?_
      refine J_reg ?_
      refine JL_q (q_move) (k := ?_)
      refine JL_q (q_idxO Tryd.runUnderlying84 Tryd.sizeOf49 7) (k := ?_)
      refine JL_q (q_load Tryd.isAgg49) (k := ?_)
      refine JL_q (q_assign) (k := ?_)
      refine JL_q (q_assign) (k := ?_)
      refine JL_nil ?_
      refine JX_seq ?_
      refine J_plan mixed 9 [(true, 0), (true, 1), (true, 2), (true, 3), (true, 4), (true, 5), (true, 6), (true, 7), (true, 8)] (by kernel_rfl) ?_
      refine JD_q (q_move) (k := ?_)
      refine JD_q (q_move) (k := ?_)
      refine JD_q (q_nil) (k := ?_)
      refine JD_q (q_idxP (m := 7) Tryd.runUnderlying51 Tryd.sizeOf49) (k := ?_)
      refine JD_q (q_load Tryd.isAgg49) (k := ?_)
      refine JD_q (q_move) (k := ?_)
      refine JD_q (q_addW) (k := ?_)
      refine JD_q (q_nil) (k := ?_)
      refine JD_q (q_idxP (m := 7) Tryd.runUnderlying51 Tryd.sizeOf49) (k := ?_)
      refine JD_nil0 ?_
      refine JL_s (w_store (l' := [_, _, _, _, _, _, _, _]) Tryd.sizeOf49) (k := ?_)
      refine JL_nil ?_
      refine JX_block ?_
      refine JX_seq ?_
      refine J_reg ?_
      refine JL_q (q_add) (k := ?_)
      refine JL_q (q_move) (k := ?_)
      refine JL_nil ?_
      refine JX_again ?_
      refine J_seq ?_
      refine J_reg ?_
      refine JL_q (q_lss) (k := ?_)
      refine JL_nil ?_
      refine JX_seq ?_
      refine J_seq ?_
      refine J_false rfl ?_
      refine J_exit ?_
      refine JX_seq_exit ?_
      refine JX_inv_exit ?_
      refine JX_block_hit ?_
      refine JX_endID ((r8, Obj.cells [(Value.int .u32 (x_14)), (Value.int .u32 (x_15)), (Value.int .u32 (x_16)), (Value.int .u32 (x_17)), (Value.int .u32 (x_18)), (Value.int .u32 (x_19)), (Value.int .u32 (x_20)), (Value.int .u32 (x_21))].toArray 51) :: ((l7, loopAt rr7 .busy none) :: ((rD7, Obj.deferred (some [])) :: ((r6, Obj.cells [(Value.string (bs x_9))].toArray 9) :: ((r5, Obj.cells [(Value.int .u32 (1779033703)), (Value.int .u32 (3144134277)), (Value.int .u32 (1013904242)), (Value.int .u32 (2773480762)), (Value.int .u32 (1359893119)), (Value.int .u32 (2600822924)), (Value.int .u32 (528734635)), (Value.int .u32 (1541459225))].toArray 51) :: ((r4, Obj.cells [(Value.int .u32 (1779033703)), (Value.int .u32 (3144134277)), (Value.int .u32 (1013904242)), (Value.int .u32 (2773480762)), (Value.int .u32 (1359893119)), (Value.int .u32 (2600822924)), (Value.int .u32 (528734635)), (Value.int .u32 (1541459225))].toArray 51) :: ((r3, Obj.cells [(Value.pointer (some ⟨r2, 0, none⟩))].toArray 47) :: ((r1, Obj.cells [(Value.int .u32 (1779033703)), (Value.int .u32 (3144134277)), (Value.int .u32 (1013904242)), (Value.int .u32 (2773480762)), (Value.int .u32 (1359893119)), (Value.int .u32 (2600822924)), (Value.int .u32 (528734635)), (Value.int .u32 (1541459225))].toArray 51) :: [])))))))) ((r2, Obj.cells [(Value.int .u32 ((IntKind.u32.wrap (x_1 + x_14)))), (Value.int .u32 ((IntKind.u32.wrap (x_2 + x_15)))), (Value.int .u32 ((IntKind.u32.wrap (x_3 + x_16)))), (Value.int .u32 ((IntKind.u32.wrap (x_4 + x_17)))), (Value.int .u32 ((IntKind.u32.wrap (x_5 + x_18)))), (Value.int .u32 ((IntKind.u32.wrap (x_6 + x_19)))), (Value.int .u32 ((IntKind.u32.wrap (x_7 + x_20)))), (Value.int .u32 ((IntKind.u32.wrap (x_8 + x_21))))].toArray 54) :: []) Tryd.results50 Res.nil (List.Perm.trans (List.Perm.refl _) (List.Perm.of_eq (by first | rfl | (simp only [List.cons_append, List.nil_append, List.append_assoc, List.append_nil]; done) | (simp only [List.cons_append, List.nil_append, List.append_assoc, List.append_nil]; rfl)))) (List.Sublist.refl _) ?_
      refine JD_nil ?_
      refine JL_eqL (L' := ((r2, Obj.cells [(Value.int .u32 ((IntKind.u32.wrap (x_1 + x_14)))), (Value.int .u32 ((IntKind.u32.wrap (x_2 + x_15)))), (Value.int .u32 ((IntKind.u32.wrap (x_3 + x_16)))), (Value.int .u32 ((IntKind.u32.wrap (x_4 + x_17)))), (Value.int .u32 ((IntKind.u32.wrap (x_5 + x_18)))), (Value.int .u32 ((IntKind.u32.wrap (x_6 + x_19)))), (Value.int .u32 ((IntKind.u32.wrap (x_7 + x_20)))), (Value.int .u32 ((IntKind.u32.wrap (x_8 + x_21))))].toArray 54) :: ((r8, Obj.cells [(Value.int .u32 (x_14)), (Value.int .u32 (x_15)), (Value.int .u32 (x_16)), (Value.int .u32 (x_17)), (Value.int .u32 (x_18)), (Value.int .u32 (x_19)), (Value.int .u32 (x_20)), (Value.int .u32 (x_21))].toArray 51) :: ((l7, loopAt rr7 .busy none) :: ((rD7, Obj.deferred (some [])) :: ((r6, Obj.cells [(Value.string (bs x_9))].toArray 9) :: ((r5, Obj.cells [(Value.int .u32 (1779033703)), (Value.int .u32 (3144134277)), (Value.int .u32 (1013904242)), (Value.int .u32 (2773480762)), (Value.int .u32 (1359893119)), (Value.int .u32 (2600822924)), (Value.int .u32 (528734635)), (Value.int .u32 (1541459225))].toArray 51) :: ((r4, Obj.cells [(Value.int .u32 (1779033703)), (Value.int .u32 (3144134277)), (Value.int .u32 (1013904242)), (Value.int .u32 (2773480762)), (Value.int .u32 (1359893119)), (Value.int .u32 (2600822924)), (Value.int .u32 (528734635)), (Value.int .u32 (1541459225))].toArray 51) :: ((r3, Obj.cells [(Value.pointer (some ⟨r2, 0, none⟩))].toArray 47) :: ((r1, Obj.cells [(Value.int .u32 (1779033703)), (Value.int .u32 (3144134277)), (Value.int .u32 (1013904242)), (Value.int .u32 (2773480762)), (Value.int .u32 (1359893119)), (Value.int .u32 (2600822924)), (Value.int .u32 (528734635)), (Value.int .u32 (1541459225))].toArray 51) :: [])))))))))) (by simp only [List.append_nil, List.append_assoc, List.cons_append, List.nil_append]) ?_
      refine JL_nil ?_
      refine JX_endI Tryd.results35 Res.nil ?_
      refine JL_nil ?_
      refine JX_block ?_
      refine JX_roundI ((List.Perm.cons _ ((List.Perm.cons _ (List.Perm.refl _)).trans (List.Perm.swap _ _ _))).trans (List.Perm.swap _ _ _)) ?_
      refine JL_q (q_not) (k := ?_)
      refine JL_nil ?_
      refine JX_seq ?_
      refine J_false rfl ?_
      refine J_skip ?_
      refine JX_block ?_
      refine JX_seq ?_
      refine J_reg ?_
      refine JL_q (q_load Tryd.isAgg9) (k := ?_)
      refine JL_q (q_subTlo (s := x_9) 64 Tryd.runUnderlying9 (by omega)) (k := ?_)
      have hsb6 : (x_9.drop 64).length = x_9.length - 64 := by first | omega | (simp only [List.length_take, List.length_drop, List.length_cons, List.length_nil] <;> omega)
      refine JL_s (w_store (l' := [_]) Tryd.sizeOf9) (k := ?_)
      refine JL_nil ?_
      refine JX_permL ((l7, loopAt rr7 .ready none) :: ((rD7, Obj.deferred (some [])) :: ((r6, Obj.cells [(Value.string (bs (x_9.drop 64)))].toArray 9) :: ((r5, Obj.cells [(Value.int .u32 (1779033703)), (Value.int .u32 (3144134277)), (Value.int .u32 (1013904242)), (Value.int .u32 (2773480762)), (Value.int .u32 (1359893119)), (Value.int .u32 (2600822924)), (Value.int .u32 (528734635)), (Value.int .u32 (1541459225))].toArray 51) :: ((r4, Obj.cells [(Value.int .u32 (1779033703)), (Value.int .u32 (3144134277)), (Value.int .u32 (1013904242)), (Value.int .u32 (2773480762)), (Value.int .u32 (1359893119)), (Value.int .u32 (2600822924)), (Value.int .u32 (528734635)), (Value.int .u32 (1541459225))].toArray 51) :: ((r3, Obj.cells [(Value.pointer (some ⟨r2, 0, none⟩))].toArray 47) :: ((r2, Obj.cells [(Value.int .u32 ((IntKind.u32.wrap (x_1 + x_14)))), (Value.int .u32 ((IntKind.u32.wrap (x_2 + x_15)))), (Value.int .u32 ((IntKind.u32.wrap (x_3 + x_16)))), (Value.int .u32 ((IntKind.u32.wrap (x_4 + x_17)))), (Value.int .u32 ((IntKind.u32.wrap (x_5 + x_18)))), (Value.int .u32 ((IntKind.u32.wrap (x_6 + x_19)))), (Value.int .u32 ((IntKind.u32.wrap (x_7 + x_20)))), (Value.int .u32 ((IntKind.u32.wrap (x_8 + x_21))))].toArray 54) :: ((r1, Obj.cells [(Value.int .u32 (1779033703)), (Value.int .u32 (3144134277)), (Value.int .u32 (1013904242)), (Value.int .u32 (2773480762)), (Value.int .u32 (1359893119)), (Value.int .u32 (2600822924)), (Value.int .u32 (528734635)), (Value.int .u32 (1541459225))].toArray 51) :: ((r8, Obj.cells [(Value.int .u32 (x_14)), (Value.int .u32 (x_15)), (Value.int .u32 (x_16)), (Value.int .u32 (x_17)), (Value.int .u32 (x_18)), (Value.int .u32 (x_19)), (Value.int .u32 (x_20)), (Value.int .u32 (x_21))].toArray 51) :: []))))))))) (((((((((List.Perm.cons _ ((List.Perm.cons _ ((List.Perm.cons _ ((List.Perm.cons _ ((List.Perm.cons _ ((List.Perm.cons _ ((List.Perm.cons _ ((List.Perm.cons _ (List.Perm.refl _)).trans (List.Perm.swap _ _ _))).trans (List.Perm.swap _ _ _))).trans (List.Perm.swap _ _ _))).trans (List.Perm.swap _ _ _))).trans (List.Perm.swap _ _ _))).trans (List.Perm.swap _ _ _))).trans (List.Perm.swap _ _ _))).trans (List.Perm.swap _ _ _)).trans ((List.Perm.cons _ ((List.Perm.cons _ (List.Perm.refl _)).trans (List.Perm.swap _ _ _))).trans (List.Perm.swap _ _ _))).trans ((List.Perm.cons _ ((List.Perm.cons _ ((List.Perm.cons _ ((List.Perm.cons _ ((List.Perm.cons _ ((List.Perm.cons _ ((List.Perm.cons _ ((List.Perm.cons _ (List.Perm.refl _)).trans (List.Perm.swap _ _ _))).trans (List.Perm.swap _ _ _))).trans (List.Perm.swap _ _ _))).trans (List.Perm.swap _ _ _))).trans (List.Perm.swap _ _ _))).trans (List.Perm.swap _ _ _))).trans (List.Perm.swap _ _ _))).trans (List.Perm.swap _ _ _))).trans ((List.Perm.cons _ ((List.Perm.cons _ ((List.Perm.cons _ ((List.Perm.cons _ ((List.Perm.cons _ ((List.Perm.cons _ ((List.Perm.cons _ ((List.Perm.cons _ (List.Perm.refl _)).trans (List.Perm.swap _ _ _))).trans (List.Perm.swap _ _ _))).trans (List.Perm.swap _ _ _))).trans (List.Perm.swap _ _ _))).trans (List.Perm.swap _ _ _))).trans (List.Perm.swap _ _ _))).trans (List.Perm.swap _ _ _))).trans (List.Perm.swap _ _ _))).trans ((List.Perm.cons _ ((List.Perm.cons _ ((List.Perm.cons _ ((List.Perm.cons _ ((List.Perm.cons _ ((List.Perm.cons _ ((List.Perm.cons _ ((List.Perm.cons _ (List.Perm.refl _)).trans (List.Perm.swap _ _ _))).trans (List.Perm.swap _ _ _))).trans (List.Perm.swap _ _ _))).trans (List.Perm.swap _ _ _))).trans (List.Perm.swap _ _ _))).trans (List.Perm.swap _ _ _))).trans (List.Perm.swap _ _ _))).trans (List.Perm.swap _ _ _))).trans ((List.Perm.cons _ ((List.Perm.cons _ ((List.Perm.cons _ ((List.Perm.cons _ ((List.Perm.cons _ ((List.Perm.cons _ ((List.Perm.cons _ ((List.Perm.cons _ (List.Perm.refl _)).trans (List.Perm.swap _ _ _))).trans (List.Perm.swap _ _ _))).trans (List.Perm.swap _ _ _))).trans (List.Perm.swap _ _ _))).trans (List.Perm.swap _ _ _))).trans (List.Perm.swap _ _ _))).trans (List.Perm.swap _ _ _))).trans (List.Perm.swap _ _ _))).trans ((List.Perm.cons _ ((List.Perm.cons _ ((List.Perm.cons _ ((List.Perm.cons _ ((List.Perm.cons _ ((List.Perm.cons _ ((List.Perm.cons _ ((List.Perm.cons _ (List.Perm.refl _)).trans (List.Perm.swap _ _ _))).trans (List.Perm.swap _ _ _))).trans (List.Perm.swap _ _ _))).trans (List.Perm.swap _ _ _))).trans (List.Perm.swap _ _ _))).trans (List.Perm.swap _ _ _))).trans (List.Perm.swap _ _ _))).trans (List.Perm.swap _ _ _))).trans ((List.Perm.cons _ ((List.Perm.cons _ ((List.Perm.cons _ ((List.Perm.cons _ ((List.Perm.cons _ ((List.Perm.cons _ ((List.Perm.cons _ (List.Perm.refl _)).trans (List.Perm.swap _ _ _))).trans (List.Perm.swap _ _ _))).trans (List.Perm.swap _ _ _))).trans (List.Perm.swap _ _ _))).trans (List.Perm.swap _ _ _))).trans (List.Perm.swap _ _ _))).trans (List.Perm.swap _ _ _))) ?_
      refine JX_subL ((l7, loopAt rr7 .ready none) :: ((rD7, Obj.deferred (some [])) :: ((r6, Obj.cells [(Value.string (bs (x_9.drop 64)))].toArray 9) :: ((r5, Obj.cells [(Value.int .u32 (1779033703)), (Value.int .u32 (3144134277)), (Value.int .u32 (1013904242)), (Value.int .u32 (2773480762)), (Value.int .u32 (1359893119)), (Value.int .u32 (2600822924)), (Value.int .u32 (528734635)), (Value.int .u32 (1541459225))].toArray 51) :: ((r4, Obj.cells [(Value.int .u32 (1779033703)), (Value.int .u32 (3144134277)), (Value.int .u32 (1013904242)), (Value.int .u32 (2773480762)), (Value.int .u32 (1359893119)), (Value.int .u32 (2600822924)), (Value.int .u32 (528734635)), (Value.int .u32 (1541459225))].toArray 51) :: ((r3, Obj.cells [(Value.pointer (some ⟨r2, 0, none⟩))].toArray 47) :: ((r2, Obj.cells [(Value.int .u32 ((IntKind.u32.wrap (x_1 + x_14)))), (Value.int .u32 ((IntKind.u32.wrap (x_2 + x_15)))), (Value.int .u32 ((IntKind.u32.wrap (x_3 + x_16)))), (Value.int .u32 ((IntKind.u32.wrap (x_4 + x_17)))), (Value.int .u32 ((IntKind.u32.wrap (x_5 + x_18)))), (Value.int .u32 ((IntKind.u32.wrap (x_6 + x_19)))), (Value.int .u32 ((IntKind.u32.wrap (x_7 + x_20)))), (Value.int .u32 ((IntKind.u32.wrap (x_8 + x_21))))].toArray 54) :: ((r1, Obj.cells [(Value.int .u32 (1779033703)), (Value.int .u32 (3144134277)), (Value.int .u32 (1013904242)), (Value.int .u32 (2773480762)), (Value.int .u32 (1359893119)), (Value.int .u32 (2600822924)), (Value.int .u32 (528734635)), (Value.int .u32 (1541459225))].toArray 51) :: [])))))))) (List.Sublist.cons_cons _ (List.Sublist.cons_cons _ (List.Sublist.cons_cons _ (List.Sublist.cons_cons _ (List.Sublist.cons_cons _ (List.Sublist.cons_cons _ (List.Sublist.cons_cons _ (List.Sublist.cons_cons _ (List.nil_sublist _))))))))) ?_
      exact JX_inv10 n_10 (IntKind.u32.wrap (x_1 + x_14)) (IntKind.u32.wrap (x_2 + x_15)) (IntKind.u32.wrap (x_3 + x_16)) (IntKind.u32.wrap (x_4 + x_17)) (IntKind.u32.wrap (x_5 + x_18)) (IntKind.u32.wrap (x_6 + x_19)) (IntKind.u32.wrap (x_7 + x_20)) (IntKind.u32.wrap (x_8 + x_21)) (x_9.drop 64) ⟨by omega, ((hF11.pos hq1).rn9 (hF23.neg hq2))⟩ (Nat.lt_succ_self _) (by repeat (first | exact SubE.nil | refine SubE.cons rfl ?_)) (List.Perm.refl _)

end Go.Proofs.YtodejmindmiknaaDoor.Jd
