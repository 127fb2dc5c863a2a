/- Part of the proofs of this seat: walks and plain facts. No condition. -/
import Derived.Test.YtodejmindmiknaaDoorProg
import Derived.Test.YtodejmindmiknaaDoorJMM
import Derived.Test.YtodejmindmiknaaDoorJMN
import Derived.Test.YtodejmindmiknaaDoorJTS
import Derived.Test.YtodejmindmiknaaDoorJTE
namespace Go.Proofs.YtodejmindmiknaaDoor.Jd
open Go.Proofs
open Go.RowKit (Below)
set_option maxRecDepth 100000
set_option linter.unusedVariables false
set_option linter.unusedSimpArgs false
theorem FO_70_0 : FieldOff Tryd.prog 70 0 0 := fun r k w => by simp [Instr.fieldAt, Instr.sureAddr, fieldPlace, addr_add]
theorem PL_70 : Places Tryd.prog 70 [(0, 1)] := ⟨_, fun w => Tryd.runUnderlying70 w, fun w => by simp⟩
theorem TY_9 : Ty Tryd.prog 9 1 16 (Value.string (bs ([] : Str))) := ⟨⟨Tryd.t9, by kernel_rfl, rfl, rfl, rfl⟩, rfl⟩
theorem mRight_ok (w : World) {key : Str} : Val Tryd.prog 12 [(Value.string (bs key))] w (Value.bool ((mRight key))) := by
  have hF := Is.refl (mRight key)
  refine enter Tryd.func12 Tryd.ntmps12 (h := ?_)
  refine J_seq ?_
  refine J_reg ?_
  refine JL_q (q_assign) (k := ?_)
  refine JL_nil ?_
  refine JX_seq ?_
  refine J_seq ?_
  refine J_reg ?_
  refine JL_q (q_move) (k := ?_)
  refine JL_q (q_lenT Tryd.runUnderlying9) (k := ?_)
  refine JL_q (q_geq) (k := ?_)
  refine JL_q (q_move) (k := ?_)
  refine JL_dec 6 rfl (fun hq1 => ?_) (fun hq1 => ?_)
  rotate_left
  · refine JL_skips 3 rfl ?_
    refine JL_q (q_pickF) (k := ?_)
    refine JL_q (q_assign) (k := ?_)
    refine JL_nil ?_
    refine JX_seq ?_
    refine J_ret ?_
    refine JX_ret Tryd.results12 (Res.tmp rfl Res.nil) (fun w1 hw1 => ?_)
    exact ⟨(by rw [((hF.neg hq1)).eq] <;> first | rfl | (simp only [List.length_set] <;> rfl)), hw1.ext_out⟩
  refine JL_qg (q_move) (k := ?_)
  refine JL_qg (q_lenT Tryd.runUnderlying9) (k := ?_)
  refine JL_qg (q_leq) (k := ?_)
  refine JL_q (q_pickT) (k := ?_)
  refine JL_q (q_assign) (k := ?_)
  refine JL_nil ?_
  refine JX_seq ?_
  refine J_ret ?_
  refine JX_ret Tryd.results12 (Res.tmp rfl Res.nil) (fun w1 hw1 => ?_)
  exact ⟨(by rw [((hF.pos hq1)).eq] <;> first | rfl | (simp only [List.length_set] <;> rfl)), hw1.ext_out⟩

theorem mMac_ok (w : World) {l_a : Option Addr} {l_c : Nat} {ea0 : Addr} {ea1 : Addr} {key : Str} {l : List Str} (h_l : Sl w eS 1 l_a l) (n_l : l.length ≤ 1000) (k_l : l.length ≤ l_c) (hG : Gl w) (hE : Er w ea0 ea1) (hj : (Lib.join l []).length ≤ 100000) : Val Tryd.prog 23 [(Value.string (bs key)), (Value.slice (l_a) (l.length) (l_c))] w (Value.string (bs (mMac key l))) := by
  have hF := Is.refl (mMac key l)
  refine enter Tryd.func23 Tryd.ntmps23 (h := ?_)
  refine J_seq ?_
  refine J_reg ?_
  refine JL_q (q_assign) (k := ?_)
  refine JL_nil ?_
  refine JX_seq ?_
  refine J_seq ?_
  refine J_reg ?_
  refine JL_a noMk (a_alloc (l := aI .u8 (List.replicate 64 (0 : Int))) Tryd.zeroValue67 (by kernel_rfl)) (k := fun r1 hr1 => ?_)
  have hrlr1 := List.length_replicate (n := 64) (a := (0 : Int))
  refine JL_nil ?_
  refine JX_seq ?_
  refine J_seq ?_
  refine J_reg ?_
  refine JL_q (q_slicePall Tryd.runUnderlying67 Tryd.sizeOf5 (by decide)) (k := ?_)
  refine JL_q (q_move) (k := ?_)
  refine JL_copyT (n := 64) Tryd.runUnderlying33 Tryd.sizeOf5 (List.Perm.refl _) (by first | omega | (simp only [List.length_set]; omega) | (simp only [List.length_append, List.length_take, List.length_drop, List.length_set, List.length_replicate, List.length_cons, List.length_nil, List.length_map, toS_length, toI_length]; omega)) (k := ?_)
  have hcp1 : (toI (key.take 64) ++ (List.replicate 64 (0 : Int)).drop key.length).length = 64 := by simp only [List.length_append, List.length_drop, List.length_take, toI_length]; omega
  refine JL_nil ?_
  refine JX_seq ?_
  refine J_seq ?_
  refine J_reg ?_
  refine JL_q (q_build (cs := [_]) Tryd.zeroValue70 PL_70) (k := ?_)
  refine JL_a noMk (a_alloc (l := [_]) Tryd.zeroValue70) (k := fun r2 hr2 => ?_)
  refine JL_s (w_store (l' := [_]) Tryd.sizeOf70) (k := ?_)
  refine JL_nil ?_
  refine JX_seq ?_
  refine J_seq ?_
  refine J_reg ?_
  refine JL_q (q_loadA Tryd.isAgg70 Tryd.sizeOf70) (k := ?_)
  refine JL_q (q_func) (k := ?_)
  refine JL_q (q_assign) (k := ?_)
  refine JL_nil ?_
  refine JX_seq ?_
  refine J_seq ?_
  refine J_reg ?_
  refine JL_q (q_move) (k := ?_)
  refine JL_q (q_loadA Tryd.isAgg70 Tryd.sizeOf70) (k := ?_)
  refine JL_q (q_move) (k := ?_)
  refine JL_inlM (args := [(Value.agg [(Value.pointer (some ⟨r1, 0, none⟩))].toArray), (Value.int .u8 (54)), (Value.slice (l_a) (l.length) (l_c))]) (c_callA Tryd.call40) Tryd.func40 Tryd.ntmps40 ?_
  refine J_seq ?_
  refine J_reg ?_
  refine JL_a noMk (a_box (l := [_])) (k := fun r3 hr3 => ?_)
  refine JL_q (q_assign) (k := ?_)
  refine JL_nil ?_
  refine JX_seq ?_
  refine J_seq ?_
  refine J_reg ?_
  refine JL_a noMk (a_alloc (l := [_]) Tryd.zeroValue33) (k := fun r4 hr4 => ?_)
  refine JL_nil ?_
  refine JX_seq ?_
  refine J_seq ?_
  refine J_seq ?_
  refine J_reg ?_
  refine JL_q (q_fld FO_70_0) (k := ?_)
  refine JL_q (q_load Tryd.isAgg68) (k := ?_)
  refine JL_q (q_move) (k := ?_)
  refine JL_inl (args := [(Value.pointer (some ⟨r1, 0, none⟩)), (Value.int .u8 (54))]) (c_callA Tryd.call54) Tryd.func54 Tryd.ntmps54 ?_
  refine J_seq ?_
  refine J_reg ?_
  refine JL_a noMk (a_box (l := [_])) (k := fun r5 hr5 => ?_)
  refine JL_a noMk (a_box (l := [_])) (k := fun r6 hr6 => ?_)
  refine JL_q (q_assign) (k := ?_)
  refine JL_nil ?_
  refine JX_seq ?_
  refine J_seq ?_
  refine J_reg ?_
  refine JL_q (q_func) (k := ?_)
  refine JL_q (q_assign) (k := ?_)
  refine JL_nil ?_
  refine JX_seq ?_
  refine J_ret ?_
  refine JX_retI Tryd.results54 (Res.tmp rfl Res.nil) ?_
  refine JL_nil ?_
  refine JX_seq ?_
  refine J_block ?_
  refine J_rangeI noMk rfl Tryd.call62 Tryd.func62 Tryd.ntmps62 (fun l7 rD7 rr7 hl7 => ?_)
  refine J_scope ?_
  refine J_seq ?_
  refine J_label ?_
  refine JX_seq ?_
  refine J_seq ?_
  refine J_reg ?_
  refine JL_q (q_load Tryd.isAgg68) (k := ?_)
  refine JL_q (q_move) (k := ?_)
  refine JL_nil ?_
  refine JX_seq ?_
  refine J_block ?_
  refine J_loop6 (σ1 := Nat) (σ2 := Nat) (σ3 := List Int) (σ4 := Option Addr) (σ5 := Nat) (σ6 := Heap) (fun n_3 x_1 x_2 x_2a x_2c x_2B => (x_2B ++ ((l7, loopAt rr7 .ready none) :: ((rD7, Obj.deferred (some [])) :: ((r6, Obj.cells [(Value.int .u8 (54))].toArray 5) :: ((r5, Obj.cells [(Value.pointer (some ⟨r1, 0, none⟩))].toArray 68) :: ((r4, Obj.cells [(Value.slice (x_2a) (x_2.length) (x_2c))].toArray 33) :: ((r3, Obj.cells [(Value.pointer (some ⟨r1, 0, none⟩))].toArray 70) :: ((r2, Obj.cells [(Value.pointer (some ⟨r1, 0, none⟩))].toArray 70) :: ((r1, Obj.cells (aI .u8 (toI (key.take 64) ++ (List.replicate 64 (0 : Int)).drop key.length)).toArray 67) :: [])))))))))) (fun n_3 x_1 x_2 x_2a x_2c x_2B => [(0, (Value.func (.yield l7) [].toArray [].toArray)), (2, (Value.pointer (some ⟨r6, 0, none⟩))), (6, (Value.pointer (some ⟨r1, 0, none⟩))), (7, (Value.int .i64 (((x_1 : Nat) : Int))))]) (fun n_3 x_1 x_2 x_2a x_2c x_2B => 64 - x_1 < n_3 ∧ Is (mMac_l0 key l (64 + 1) 0 []) (mMac_l0 key l n_3 x_1 x_2) ∧ OwnB eI_u8 1 5 x_2a x_2c x_2B x_2 ∧ x_2.length = x_1 ∧ x_1 ≤ 64) (fun n_3 x_1 x_2 x_2a x_2c x_2B => n_3) (64 + 1) 0 ([]) none 0 ([]) ?_ (by repeat (first | exact SubE.nil | refine SubE.cons rfl ?_)) (List.Perm.refl _) ?_
  · exact ⟨Nat.lt_succ_self _, Is.refl _, OwnB.nil, (by first | omega | rfl | (simp; done)), (by first | omega | rfl | (simp; done))⟩
  · rintro (_ | n_3) x_1 x_2 x_2a x_2c x_2B ⟨hm5, hF4, hx_2, hi6, hi7⟩
    · omega
    refine J_seq ?_
    refine J_reg ?_
    refine JL_q (q_lss) (k := ?_)
    refine JL_nil ?_
    refine JX_seq ?_
    refine J_seq ?_
    refine J_dec rfl (fun hq1 => ?_) (fun hq1 => ?_)
    · refine J_skip ?_
      refine JX_seq ?_
      refine J_seq ?_
      refine J_block ?_
      refine J_seq ?_
      refine J_reg ?_
      refine JL_q (q_nil) (k := ?_)
      refine JL_q (q_idxI x_1 x_1 Tryd.runUnderlying67 Tryd.sizeOf5 (hm := by first | omega | (simp only [List.length_set]; omega) | (simp only [List.length_append, List.length_take, List.length_drop, List.length_set, List.length_replicate, List.length_cons, List.length_nil, List.length_map, toS_length, toI_length]; omega))) (k := ?_)
      refine JL_q (q_loadI (m := x_1) (xs := (toI (key.take 64) ++ (List.replicate 64 (0 : Int)).drop key.length)) Tryd.isAgg5 (by first | omega | (simp only [List.length_set]; omega) | (simp only [List.length_append, List.length_take, List.length_drop, List.length_set, List.length_replicate, List.length_cons, List.length_nil, List.length_map, toS_length, toI_length]; omega))) (k := ?_)
      refine JL_q (q_assign) (k := ?_)
      refine JL_nil ?_
      refine JX_seq ?_
      refine J_seq ?_
      refine J_reg ?_
      refine JL_q (q_move) (k := ?_)
      refine JL_q (q_move) (k := ?_)
      refine JL_q (q_load Tryd.isAgg5) (k := ?_)
      refine JL_q (q_xorW) (k := ?_)
      refine JL_yIn (vs := [(Value.int .u8 ((xorI .u8 ((toI (key.take 64) ++ (List.replicate 64 (0 : Int)).drop key.length).getD x_1 default) 54)))]) hl7 ((List.Perm.append_left _ (List.Perm.refl _)).trans List.perm_middle) y_call ?_
      refine J_reg ?_
      refine JL_q (q_assign) (k := ?_)
      refine JL_nil ?_
      refine JX_begin (List.Perm.refl _) ?_
      refine J_block ?_
      refine J_reg ?_
      refine JL_q (q_load Tryd.isAgg33) (k := ?_)
      refine JL_q (q_move) (k := ?_)
      refine JL_a noMk (a_bslice (l := [_]) Tryd.runUnderlying33 Tryd.sizeOf5 Tryd.zeroValue5) (k := fun r8 hr8 => ?_)
      refine JL_append (x_2 ++ ([(xorI .u8 ((toI (key.take 64) ++ (List.replicate 64 (0 : Int)).drop key.length).getD x_1 default) 54)] : List Int)) rfl TY_5 Tryd.underlying33 eI_u8_ok hx_2 ((List.Perm.cons _ ((List.Perm.cons _ (List.Perm.refl _)).trans List.perm_middle.symm)).trans List.perm_middle.symm) (SlJ.lit (xs := ([(xorI .u8 ((toI (key.take 64) ++ (List.replicate 64 (0 : Int)).drop key.length).getD x_1 default) 54)] : List Int)) eI_u8_ok) ⟨by omega, by omega⟩ (n := x_2.length) (m := 1) (k := fun ax1 cx1 Bx1 hox1 => ?_)
      have hal1 : (x_2 ++ ([(xorI .u8 ((toI (key.take 64) ++ (List.replicate 64 (0 : Int)).drop key.length).getD x_1 default) 54)] : List Int)).length = x_2.length + 1 := by first | rfl | simp
      refine JL_s (w_store (l' := [_]) Tryd.sizeOf33) (k := ?_)
      refine JL_nil ?_
      refine JX_block ?_
      refine JX_roundI ((List.Perm.append_left _ ((List.Perm.cons _ (List.Perm.refl _)).trans (List.Perm.swap _ _ _))).trans List.perm_middle) ?_
      refine JL_q (q_not) (k := ?_)
      refine JL_nil ?_
      refine JX_seq ?_
      refine J_false rfl ?_
      refine J_skip ?_
      refine JX_block ?_
      refine JX_seq ?_
      refine J_reg ?_
      refine JL_q (q_add) (k := ?_)
      refine JL_q (q_move) (k := ?_)
      refine JL_nil ?_
      refine JX_permL (Bx1 ++ ((l7, loopAt rr7 .ready none) :: ((rD7, Obj.deferred (some [])) :: ((r6, Obj.cells [(Value.int .u8 (54))].toArray 5) :: ((r5, Obj.cells [(Value.pointer (some ⟨r1, 0, none⟩))].toArray 68) :: ((r4, Obj.cells [(Value.slice (ax1) ((x_2 ++ ([(xorI .u8 ((toI (key.take 64) ++ (List.replicate 64 (0 : Int)).drop key.length).getD x_1 default) 54)] : List Int)).length) (cx1))].toArray 33) :: ((r3, Obj.cells [(Value.pointer (some ⟨r1, 0, none⟩))].toArray 70) :: ((r2, Obj.cells [(Value.pointer (some ⟨r1, 0, none⟩))].toArray 70) :: ((r1, Obj.cells (aI .u8 (toI (key.take 64) ++ (List.replicate 64 (0 : Int)).drop key.length)).toArray 67) :: ((r8, Obj.cells [(Value.int .u8 ((xorI .u8 ((toI (key.take 64) ++ (List.replicate 64 (0 : Int)).drop key.length).getD x_1 default) 54)))].toArray 5) :: [])))))))))) ((((((((((List.Perm.cons _ ((List.Perm.append_left _ ((List.Perm.cons _ ((List.Perm.cons _ ((List.Perm.cons _ ((List.Perm.cons _ ((List.Perm.cons _ ((List.Perm.cons _ ((List.Perm.cons _ (List.Perm.refl _)).trans (List.Perm.swap _ _ _))).trans (List.Perm.swap _ _ _))).trans (List.Perm.swap _ _ _))).trans (List.Perm.swap _ _ _))).trans (List.Perm.swap _ _ _))).trans (List.Perm.swap _ _ _))).trans (List.Perm.swap _ _ _))).trans List.perm_middle)).trans (List.Perm.swap _ _ _)).trans ((List.Perm.cons _ ((List.Perm.cons _ ((List.Perm.append_left _ ((List.Perm.cons _ ((List.Perm.cons _ ((List.Perm.cons _ ((List.Perm.cons _ ((List.Perm.cons _ ((List.Perm.cons _ (List.Perm.refl _)).trans (List.Perm.swap _ _ _))).trans (List.Perm.swap _ _ _))).trans (List.Perm.swap _ _ _))).trans (List.Perm.swap _ _ _))).trans (List.Perm.swap _ _ _))).trans (List.Perm.swap _ _ _))).trans List.perm_middle)).trans (List.Perm.swap _ _ _))).trans (List.Perm.swap _ _ _))).trans ((List.Perm.cons _ ((List.Perm.cons _ ((List.Perm.cons _ ((List.Perm.append_left _ ((List.Perm.cons _ ((List.Perm.cons _ ((List.Perm.cons _ ((List.Perm.cons _ ((List.Perm.cons _ (List.Perm.refl _)).trans (List.Perm.swap _ _ _))).trans (List.Perm.swap _ _ _))).trans (List.Perm.swap _ _ _))).trans (List.Perm.swap _ _ _))).trans (List.Perm.swap _ _ _))).trans List.perm_middle)).trans (List.Perm.swap _ _ _))).trans (List.Perm.swap _ _ _))).trans (List.Perm.swap _ _ _))).trans ((List.Perm.cons _ ((List.Perm.cons _ ((List.Perm.cons _ ((List.Perm.cons _ ((List.Perm.append_left _ ((List.Perm.cons _ ((List.Perm.cons _ ((List.Perm.cons _ ((List.Perm.cons _ (List.Perm.refl _)).trans (List.Perm.swap _ _ _))).trans (List.Perm.swap _ _ _))).trans (List.Perm.swap _ _ _))).trans (List.Perm.swap _ _ _))).trans List.perm_middle)).trans (List.Perm.swap _ _ _))).trans (List.Perm.swap _ _ _))).trans (List.Perm.swap _ _ _))).trans (List.Perm.swap _ _ _))).trans ((List.Perm.cons _ ((List.Perm.cons _ ((List.Perm.cons _ ((List.Perm.cons _ ((List.Perm.cons _ ((List.Perm.append_left _ ((List.Perm.cons _ ((List.Perm.cons _ ((List.Perm.cons _ (List.Perm.refl _)).trans (List.Perm.swap _ _ _))).trans (List.Perm.swap _ _ _))).trans (List.Perm.swap _ _ _))).trans List.perm_middle)).trans (List.Perm.swap _ _ _))).trans (List.Perm.swap _ _ _))).trans (List.Perm.swap _ _ _))).trans (List.Perm.swap _ _ _))).trans (List.Perm.swap _ _ _))).trans ((List.Perm.cons _ ((List.Perm.cons _ ((List.Perm.cons _ ((List.Perm.cons _ ((List.Perm.cons _ ((List.Perm.cons _ ((List.Perm.append_left _ ((List.Perm.cons _ ((List.Perm.cons _ (List.Perm.refl _)).trans (List.Perm.swap _ _ _))).trans (List.Perm.swap _ _ _))).trans List.perm_middle)).trans (List.Perm.swap _ _ _))).trans (List.Perm.swap _ _ _))).trans (List.Perm.swap _ _ _))).trans (List.Perm.swap _ _ _))).trans (List.Perm.swap _ _ _))).trans (List.Perm.swap _ _ _))).trans ((List.Perm.cons _ ((List.Perm.cons _ ((List.Perm.cons _ ((List.Perm.cons _ ((List.Perm.cons _ ((List.Perm.cons _ ((List.Perm.cons _ ((List.Perm.append_left _ ((List.Perm.cons _ (List.Perm.refl _)).trans (List.Perm.swap _ _ _))).trans List.perm_middle)).trans (List.Perm.swap _ _ _))).trans (List.Perm.swap _ _ _))).trans (List.Perm.swap _ _ _))).trans (List.Perm.swap _ _ _))).trans (List.Perm.swap _ _ _))).trans (List.Perm.swap _ _ _))).trans (List.Perm.swap _ _ _))).trans ((List.Perm.cons _ ((List.Perm.cons _ ((List.Perm.cons _ ((List.Perm.cons _ ((List.Perm.cons _ ((List.Perm.cons _ ((List.Perm.cons _ (List.Perm.refl _)).trans (List.Perm.swap _ _ _))).trans (List.Perm.swap _ _ _))).trans (List.Perm.swap _ _ _))).trans (List.Perm.swap _ _ _))).trans (List.Perm.swap _ _ _))).trans (List.Perm.swap _ _ _))).trans (List.Perm.swap _ _ _))).trans ((List.Perm.cons _ ((List.Perm.cons _ ((List.Perm.cons _ ((List.Perm.cons _ ((List.Perm.cons _ ((List.Perm.cons _ ((List.Perm.cons _ ((List.Perm.cons _ (List.Perm.refl _)).trans List.perm_middle.symm)).trans List.perm_middle.symm)).trans List.perm_middle.symm)).trans List.perm_middle.symm)).trans List.perm_middle.symm)).trans List.perm_middle.symm)).trans List.perm_middle.symm)).trans List.perm_middle.symm)) ?_
      refine JX_subL (Bx1 ++ ((l7, loopAt rr7 .ready none) :: ((rD7, Obj.deferred (some [])) :: ((r6, Obj.cells [(Value.int .u8 (54))].toArray 5) :: ((r5, Obj.cells [(Value.pointer (some ⟨r1, 0, none⟩))].toArray 68) :: ((r4, Obj.cells [(Value.slice (ax1) ((x_2 ++ ([(xorI .u8 ((toI (key.take 64) ++ (List.replicate 64 (0 : Int)).drop key.length).getD x_1 default) 54)] : List Int)).length) (cx1))].toArray 33) :: ((r3, Obj.cells [(Value.pointer (some ⟨r1, 0, none⟩))].toArray 70) :: ((r2, Obj.cells [(Value.pointer (some ⟨r1, 0, none⟩))].toArray 70) :: ((r1, Obj.cells (aI .u8 (toI (key.take 64) ++ (List.replicate 64 (0 : Int)).drop key.length)).toArray 67) :: []))))))))) (List.Sublist.append (List.Sublist.refl _) (List.Sublist.cons_cons _ (List.Sublist.cons_cons _ (List.Sublist.cons_cons _ (List.Sublist.cons_cons _ (List.Sublist.cons_cons _ (List.Sublist.cons_cons _ (List.Sublist.cons_cons _ (List.Sublist.cons_cons _ (List.nil_sublist _)))))))))) ?_
      exact JX_inv6 n_3 (x_1 + 1) (x_2 ++ ([(xorI .u8 ((toI (key.take 64) ++ (List.replicate 64 (0 : Int)).drop key.length).getD x_1 default) 54)] : List Int)) ax1 cx1 Bx1 ⟨by omega, (hF4.pos hq1), hox1, (by omega), (by omega)⟩ (Nat.lt_succ_self _) (by repeat (first | exact SubE.nil | refine SubE.cons rfl ?_)) (List.Perm.refl _)
    refine J_exit ?_
    refine JX_seq_exit ?_
    refine JX_inv_exit ?_
    refine JX_block_hit ?_
    refine JX_scope ?_
    refine JX_it0 (.inr rfl) Tryd.results62 ((List.Perm.append_left _ (List.Perm.refl _)).trans List.perm_middle) ?_
    refine JX_block ?_
    refine JX_seq ?_
    refine J_seq ?_
    refine J_join0  ( ((l7, loopAt rr7 .exhausted none) :: (x_2B ++ ((rD7, Obj.deferred (some [])) :: ((r6, Obj.cells [(Value.int .u8 (54))].toArray 5) :: ((r5, Obj.cells [(Value.pointer (some ⟨r1, 0, none⟩))].toArray 68) :: ((r4, Obj.cells [(Value.slice (x_2a) (x_2.length) (x_2c))].toArray 33) :: ((r3, Obj.cells [(Value.pointer (some ⟨r1, 0, none⟩))].toArray 70) :: ((r2, Obj.cells [(Value.pointer (some ⟨r1, 0, none⟩))].toArray 70) :: ((r1, Obj.cells (aI .u8 (toI (key.take 64) ++ (List.replicate 64 (0 : Int)).drop key.length)).toArray 67) :: [])))))))))) ( [(6, (Value.string (bs (sSum ((toS x_2) ++ (Lib.join l ([] : Str)))))))]) ( Is () ()) ?_ ?_
    · skip
      refine J_any (V := []) mixed 7 (by kernel_rfl) ?_
      refine JG_q 0 rfl (by kernel_rfl) (q_load Tryd.isAgg33) (k := ?_)
      refine JG_q 2 rfl (by kernel_rfl) (q_move) (k := ?_)
      refine JG_br [1, 3] (by kernel_rfl) rfl (List.forall_mem_cons.2 ⟨?_, (List.forall_mem_cons.2 ⟨?_, nofun⟩)⟩)
      · skip
        refine JO_q rfl (q_str Tryd.underlying9 Tryd.underlying33 Tryd.underlying5 (hx_2.slj eI_u8_ok)) (k := ?_)
        refine JG_br [3] (by kernel_rfl) rfl (List.forall_mem_cons.2 ⟨?_, nofun⟩)
        · skip
          refine JO_v rfl (args := [(Value.slice (l_a) (l.length) (l_c)), (Value.string (bs ([] : Str)))]) (c_callA Tryd.call29) (fun w1 hw1 => Join_ok w1 (h_xs := (SlJ.of_base h_l) w1 hw1) (xs := l) (sep := ([] : Str)) (hc := by first | omega | simp) (hn := by first | omega | (simp only [List.length_append, List.length_take, List.length_drop, List.length_set, List.length_replicate, List.length_cons, List.length_nil, List.length_map, toS_length, toI_length]; omega) | (simp only [List.length_append, List.length_take, List.length_drop, List.length_set, List.length_replicate, List.length_cons, List.length_nil, List.length_map, toS_length, toI_length] at *; omega)) (hl := Nat.le_trans (show (Lib.join l ([] : Str)).length ≤ 100000 by first | omega | (rw [join_one, sSum_len]; omega)) (by decide))) (k := ?_)
          have hjl_36544 : (Lib.join l ([] : Str)).length ≤ 100000 := by first | omega | (rw [join_one, sSum_len]; omega)
          refine JG_q 4 rfl (by kernel_rfl) (q_addT (s := (toS x_2)) (s' := (Lib.join l ([] : Str))) (h := by (simp only [toS_length]; omega))) (k := ?_)
          have hsa3 : ((toS x_2) ++ (Lib.join l ([] : Str))).length = (toS x_2).length + (Lib.join l ([] : Str)).length := by simp only [List.length_append, List.length_cons, List.length_nil, Nat.zero_add]
          refine JG_br [5] (by kernel_rfl) rfl (List.forall_mem_cons.2 ⟨?_, nofun⟩)
          · skip
            refine JO_v rfl (args := [(Value.string (bs ((toS x_2) ++ (Lib.join l ([] : Str)))))]) (c_callA Tryd.call19) (fun w1 hw1 => sSum_ok w1 (s := ((toS x_2) ++ (Lib.join l ([] : Str)))) (n_s := by (simp only [List.length_append, toS_length]; omega)) (hG := hG.ext hw1.ext_out)) (k := ?_)
            have hsum_53659 := sSum_len ((toS x_2) ++ (Lib.join l ([] : Str)))
            refine JG_q 6 rfl (by kernel_rfl) (q_assign) (k := ?_)
            refine JG_nil (by kernel_rfl) _ ?_
            refine JL_nil ?_
            exact JX_join0  (Is.refl ()) (by repeat (first | exact SubE.nil | refine SubE.cons rfl ?_)) (List.Perm.refl _)
      · skip
        refine JO_v rfl (args := [(Value.slice (l_a) (l.length) (l_c)), (Value.string (bs ([] : Str)))]) (c_callA Tryd.call29) (fun w1 hw1 => Join_ok w1 (h_xs := (SlJ.of_base h_l) w1 hw1) (xs := l) (sep := ([] : Str)) (hc := by first | omega | simp) (hn := by first | omega | (simp only [List.length_append, List.length_take, List.length_drop, List.length_set, List.length_replicate, List.length_cons, List.length_nil, List.length_map, toS_length, toI_length]; omega) | (simp only [List.length_append, List.length_take, List.length_drop, List.length_set, List.length_replicate, List.length_cons, List.length_nil, List.length_map, toS_length, toI_length] at *; omega)) (hl := Nat.le_trans (show (Lib.join l ([] : Str)).length ≤ 100000 by first | omega | (rw [join_one, sSum_len]; omega)) (by decide))) (k := ?_)
        have hjl_36544 : (Lib.join l ([] : Str)).length ≤ 100000 := by first | omega | (rw [join_one, sSum_len]; omega)
        refine JG_br [1] (by kernel_rfl) rfl (List.forall_mem_cons.2 ⟨?_, nofun⟩)
        · skip
          refine JO_q rfl (q_str Tryd.underlying9 Tryd.underlying33 Tryd.underlying5 (hx_2.slj eI_u8_ok)) (k := ?_)
          refine JG_q 4 rfl (by kernel_rfl) (q_addT (s := (toS x_2)) (s' := (Lib.join l ([] : Str))) (h := by (simp only [toS_length]; omega))) (k := ?_)
          have hsa4 : ((toS x_2) ++ (Lib.join l ([] : Str))).length = (toS x_2).length + (Lib.join l ([] : Str)).length := by simp only [List.length_append, List.length_cons, List.length_nil, Nat.zero_add]
          refine JG_br [5] (by kernel_rfl) rfl (List.forall_mem_cons.2 ⟨?_, nofun⟩)
          · skip
            refine JO_v rfl (args := [(Value.string (bs ((toS x_2) ++ (Lib.join l ([] : Str)))))]) (c_callA Tryd.call19) (fun w1 hw1 => sSum_ok w1 (s := ((toS x_2) ++ (Lib.join l ([] : Str)))) (n_s := by (simp only [List.length_append, toS_length]; omega)) (hG := hG.ext hw1.ext_out)) (k := ?_)
            have hsum_53659 := sSum_len ((toS x_2) ++ (Lib.join l ([] : Str)))
            refine JG_q 6 rfl (by kernel_rfl) (q_assign) (k := ?_)
            refine JG_nil (by kernel_rfl) _ ?_
            refine JL_nil ?_
            exact JX_join0  (Is.refl ()) (by repeat (first | exact SubE.nil | refine SubE.cons rfl ?_)) (List.Perm.refl _)
    intro  hJ8
    refine JX_seq ?_
    refine J_ret ?_
    refine JX_retIM [rD7] ((List.Perm.cons _ ((List.Perm.append_left _ (List.Perm.refl _)).trans List.perm_middle)).trans (List.Perm.swap _ _ _)) Tryd.results40 (Res.tmp rfl Res.nil) ?_
    refine JL_a noMk (a_bslice (l := [_]) Tryd.runUnderlying42 Tryd.sizeOf9 Tryd.zeroValue9) (k := fun r169 hr169 => ?_)
    refine JL_inlM (args := [(Value.agg [(Value.pointer (some ⟨r1, 0, none⟩))].toArray), (Value.int .u8 (92)), (Value.slice (some ⟨r169, 0, none⟩) (1) (1))]) (c_callA Tryd.call40) Tryd.func40 Tryd.ntmps40 ?_
    refine J_seq ?_
    refine J_reg ?_
    refine JL_a noMk (a_box (l := [_])) (k := fun r170 hr170 => ?_)
    refine JL_q (q_assign) (k := ?_)
    refine JL_nil ?_
    refine JX_seq ?_
    refine J_seq ?_
    refine J_reg ?_
    refine JL_a noMk (a_alloc (l := [_]) Tryd.zeroValue33) (k := fun r171 hr171 => ?_)
    refine JL_nil ?_
    refine JX_seq ?_
    refine J_seq ?_
    refine J_seq ?_
    refine J_reg ?_
    refine JL_q (q_fld FO_70_0) (k := ?_)
    refine JL_q (q_load Tryd.isAgg68) (k := ?_)
    refine JL_q (q_move) (k := ?_)
    refine JL_inl (args := [(Value.pointer (some ⟨r1, 0, none⟩)), (Value.int .u8 (92))]) (c_callA Tryd.call54) Tryd.func54 Tryd.ntmps54 ?_
    refine J_seq ?_
    refine J_reg ?_
    refine JL_a noMk (a_box (l := [_])) (k := fun r172 hr172 => ?_)
    refine JL_a noMk (a_box (l := [_])) (k := fun r173 hr173 => ?_)
    refine JL_q (q_assign) (k := ?_)
    refine JL_nil ?_
    refine JX_seq ?_
    refine J_seq ?_
    refine J_reg ?_
    refine JL_q (q_func) (k := ?_)
    refine JL_q (q_assign) (k := ?_)
    refine JL_nil ?_
    refine JX_seq ?_
    refine J_ret ?_
    refine JX_retI Tryd.results54 (Res.tmp rfl Res.nil) ?_
    refine JL_nil ?_
    refine JX_seq ?_
    refine J_block ?_
    refine J_rangeI noMk rfl Tryd.call62 Tryd.func62 Tryd.ntmps62 (fun l174 rD174 rr174 hl174 => ?_)
    refine J_scope ?_
    refine J_seq ?_
    refine J_label ?_
    refine JX_seq ?_
    refine J_seq ?_
    refine J_reg ?_
    refine JL_q (q_load Tryd.isAgg68) (k := ?_)
    refine JL_q (q_move) (k := ?_)
    refine JL_nil ?_
    refine JX_seq ?_
    refine J_block ?_
    refine J_loop6 (σ1 := Nat) (σ2 := Nat) (σ3 := List Int) (σ4 := Option Addr) (σ5 := Nat) (σ6 := Heap) (fun n_11 x_9 x_10 x_10a x_10c x_10B => (x_10B ++ ((l174, loopAt rr174 .ready none) :: ((rD174, Obj.deferred (some [])) :: ((r173, Obj.cells [(Value.int .u8 (92))].toArray 5) :: ((r172, Obj.cells [(Value.pointer (some ⟨r1, 0, none⟩))].toArray 68) :: ((r171, Obj.cells [(Value.slice (x_10a) (x_10.length) (x_10c))].toArray 33) :: ((r170, Obj.cells [(Value.pointer (some ⟨r1, 0, none⟩))].toArray 70) :: ((r169, Obj.cells [(Value.string (bs (sSum ((toS x_2) ++ (Lib.join l ([] : Str))))))].toArray 9) :: ((l7, loopAt rr7 .exhausted none) :: (x_2B ++ ((r6, Obj.cells [(Value.int .u8 (54))].toArray 5) :: ((r5, Obj.cells [(Value.pointer (some ⟨r1, 0, none⟩))].toArray 68) :: ((r4, Obj.cells [(Value.slice (x_2a) (x_2.length) (x_2c))].toArray 33) :: ((r3, Obj.cells [(Value.pointer (some ⟨r1, 0, none⟩))].toArray 70) :: ((r2, Obj.cells [(Value.pointer (some ⟨r1, 0, none⟩))].toArray 70) :: ((r1, Obj.cells (aI .u8 (toI (key.take 64) ++ (List.replicate 64 (0 : Int)).drop key.length)).toArray 67) :: []))))))))))))))))) (fun n_11 x_9 x_10 x_10a x_10c x_10B => [(0, (Value.func (.yield l174) [].toArray [].toArray)), (2, (Value.pointer (some ⟨r173, 0, none⟩))), (6, (Value.pointer (some ⟨r1, 0, none⟩))), (7, (Value.int .i64 (((x_9 : Nat) : Int))))]) (fun n_11 x_9 x_10 x_10a x_10c x_10B => 64 - x_9 < n_11 ∧ Is (mMac_l1 key l x_1 x_2 (64 + 1) 0 []) (mMac_l1 key l x_1 x_2 n_11 x_9 x_10) ∧ OwnB eI_u8 1 5 x_10a x_10c x_10B x_10 ∧ x_10.length = x_9 ∧ x_9 ≤ 64) (fun n_11 x_9 x_10 x_10a x_10c x_10B => n_11) (64 + 1) 0 ([]) none 0 ([]) ?_ (by repeat (first | exact SubE.nil | refine SubE.cons rfl ?_)) (List.Perm.refl _) ?_
    · exact ⟨Nat.lt_succ_self _, Is.refl _, OwnB.nil, (by first | omega | rfl | (simp; done)), (by first | omega | rfl | (simp; done))⟩
    · rintro (_ | n_11) x_9 x_10 x_10a x_10c x_10B ⟨hm13, hF12, hx_10, hi14, hi15⟩
      · omega
      refine J_seq ?_
      refine J_reg ?_
      refine JL_q (q_lss) (k := ?_)
      refine JL_nil ?_
      refine JX_seq ?_
      refine J_seq ?_
      refine J_dec rfl (fun hq2 => ?_) (fun hq2 => ?_)
      · refine J_skip ?_
        refine JX_seq ?_
        refine J_seq ?_
        refine J_block ?_
        refine J_seq ?_
        refine J_reg ?_
        refine JL_q (q_nil) (k := ?_)
        refine JL_q (q_idxI x_9 x_9 Tryd.runUnderlying67 Tryd.sizeOf5 (hm := by first | omega | (simp only [List.length_set]; omega) | (simp only [List.length_append, List.length_take, List.length_drop, List.length_set, List.length_replicate, List.length_cons, List.length_nil, List.length_map, toS_length, toI_length]; omega))) (k := ?_)
        refine JL_q (q_loadI (m := x_9) (xs := (toI (key.take 64) ++ (List.replicate 64 (0 : Int)).drop key.length)) Tryd.isAgg5 (by first | omega | (simp only [List.length_set]; omega) | (simp only [List.length_append, List.length_take, List.length_drop, List.length_set, List.length_replicate, List.length_cons, List.length_nil, List.length_map, toS_length, toI_length]; omega))) (k := ?_)
        refine JL_q (q_assign) (k := ?_)
        refine JL_nil ?_
        refine JX_seq ?_
        refine J_seq ?_
        refine J_reg ?_
        refine JL_q (q_move) (k := ?_)
        refine JL_q (q_move) (k := ?_)
        refine JL_q (q_load Tryd.isAgg5) (k := ?_)
        refine JL_q (q_xorW) (k := ?_)
        refine JL_yIn (vs := [(Value.int .u8 ((xorI .u8 ((toI (key.take 64) ++ (List.replicate 64 (0 : Int)).drop key.length).getD x_9 default) 92)))]) hl174 ((List.Perm.append_left _ (List.Perm.refl _)).trans List.perm_middle) y_call ?_
        refine J_reg ?_
        refine JL_q (q_assign) (k := ?_)
        refine JL_nil ?_
        refine JX_begin (List.Perm.refl _) ?_
        refine J_block ?_
        refine J_reg ?_
        refine JL_q (q_load Tryd.isAgg33) (k := ?_)
        refine JL_q (q_move) (k := ?_)
        refine JL_a noMk (a_bslice (l := [_]) Tryd.runUnderlying33 Tryd.sizeOf5 Tryd.zeroValue5) (k := fun r175 hr175 => ?_)
        refine JL_append (x_10 ++ ([(xorI .u8 ((toI (key.take 64) ++ (List.replicate 64 (0 : Int)).drop key.length).getD x_9 default) 92)] : List Int)) rfl TY_5 Tryd.underlying33 eI_u8_ok hx_10 ((List.Perm.cons _ ((List.Perm.cons _ (List.Perm.refl _)).trans List.perm_middle.symm)).trans List.perm_middle.symm) (SlJ.lit (xs := ([(xorI .u8 ((toI (key.take 64) ++ (List.replicate 64 (0 : Int)).drop key.length).getD x_9 default) 92)] : List Int)) eI_u8_ok) ⟨by omega, by omega⟩ (n := x_10.length) (m := 1) (k := fun ax162 cx162 Bx162 hox162 => ?_)
        have hal162 : (x_10 ++ ([(xorI .u8 ((toI (key.take 64) ++ (List.replicate 64 (0 : Int)).drop key.length).getD x_9 default) 92)] : List Int)).length = x_10.length + 1 := by first | rfl | simp
        refine JL_s (w_store (l' := [_]) Tryd.sizeOf33) (k := ?_)
        refine JL_nil ?_
        refine JX_block ?_
        refine JX_roundI ((List.Perm.append_left _ ((List.Perm.cons _ (List.Perm.refl _)).trans (List.Perm.swap _ _ _))).trans List.perm_middle) ?_
        refine JL_q (q_not) (k := ?_)
        refine JL_nil ?_
        refine JX_seq ?_
        refine J_false rfl ?_
        refine J_skip ?_
        refine JX_block ?_
        refine JX_seq ?_
        refine J_reg ?_
        refine JL_q (q_add) (k := ?_)
        refine JL_q (q_move) (k := ?_)
        refine JL_nil ?_
        refine JX_permL (Bx162 ++ ((l174, loopAt rr174 .ready none) :: ((rD174, Obj.deferred (some [])) :: ((r173, Obj.cells [(Value.int .u8 (92))].toArray 5) :: ((r172, Obj.cells [(Value.pointer (some ⟨r1, 0, none⟩))].toArray 68) :: ((r171, Obj.cells [(Value.slice (ax162) ((x_10 ++ ([(xorI .u8 ((toI (key.take 64) ++ (List.replicate 64 (0 : Int)).drop key.length).getD x_9 default) 92)] : List Int)).length) (cx162))].toArray 33) :: ((r170, Obj.cells [(Value.pointer (some ⟨r1, 0, none⟩))].toArray 70) :: ((r169, Obj.cells [(Value.string (bs (sSum ((toS x_2) ++ (Lib.join l ([] : Str))))))].toArray 9) :: ((l7, loopAt rr7 .exhausted none) :: (x_2B ++ ((r6, Obj.cells [(Value.int .u8 (54))].toArray 5) :: ((r5, Obj.cells [(Value.pointer (some ⟨r1, 0, none⟩))].toArray 68) :: ((r4, Obj.cells [(Value.slice (x_2a) (x_2.length) (x_2c))].toArray 33) :: ((r3, Obj.cells [(Value.pointer (some ⟨r1, 0, none⟩))].toArray 70) :: ((r2, Obj.cells [(Value.pointer (some ⟨r1, 0, none⟩))].toArray 70) :: ((r1, Obj.cells (aI .u8 (toI (key.take 64) ++ (List.replicate 64 (0 : Int)).drop key.length)).toArray 67) :: ((r175, Obj.cells [(Value.int .u8 ((xorI .u8 ((toI (key.take 64) ++ (List.replicate 64 (0 : Int)).drop key.length).getD x_9 default) 92)))].toArray 5) :: []))))))))))))))))) (((((((((((((((((List.Perm.cons _ ((List.Perm.append_left _ ((List.Perm.cons _ ((List.Perm.cons _ ((List.Perm.cons _ ((List.Perm.cons _ ((List.Perm.cons _ ((List.Perm.cons _ ((List.Perm.cons _ ((List.Perm.cons _ ((List.Perm.append_left _ ((List.Perm.cons _ ((List.Perm.cons _ ((List.Perm.cons _ ((List.Perm.cons _ ((List.Perm.cons _ (List.Perm.refl _)).trans (List.Perm.swap _ _ _))).trans (List.Perm.swap _ _ _))).trans (List.Perm.swap _ _ _))).trans (List.Perm.swap _ _ _))).trans (List.Perm.swap _ _ _))).trans List.perm_middle)).trans (List.Perm.swap _ _ _))).trans (List.Perm.swap _ _ _))).trans (List.Perm.swap _ _ _))).trans (List.Perm.swap _ _ _))).trans (List.Perm.swap _ _ _))).trans (List.Perm.swap _ _ _))).trans (List.Perm.swap _ _ _))).trans (List.Perm.swap _ _ _))).trans List.perm_middle)).trans (List.Perm.swap _ _ _)).trans ((List.Perm.cons _ ((List.Perm.cons _ ((List.Perm.append_left _ ((List.Perm.cons _ ((List.Perm.cons _ ((List.Perm.cons _ ((List.Perm.cons _ ((List.Perm.cons _ ((List.Perm.cons _ ((List.Perm.cons _ ((List.Perm.cons _ ((List.Perm.append_left _ ((List.Perm.cons _ ((List.Perm.cons _ ((List.Perm.cons _ ((List.Perm.cons _ (List.Perm.refl _)).trans (List.Perm.swap _ _ _))).trans (List.Perm.swap _ _ _))).trans (List.Perm.swap _ _ _))).trans (List.Perm.swap _ _ _))).trans List.perm_middle)).trans (List.Perm.swap _ _ _))).trans (List.Perm.swap _ _ _))).trans (List.Perm.swap _ _ _))).trans (List.Perm.swap _ _ _))).trans (List.Perm.swap _ _ _))).trans (List.Perm.swap _ _ _))).trans (List.Perm.swap _ _ _))).trans (List.Perm.swap _ _ _))).trans List.perm_middle)).trans (List.Perm.swap _ _ _))).trans (List.Perm.swap _ _ _))).trans ((List.Perm.cons _ ((List.Perm.cons _ ((List.Perm.cons _ ((List.Perm.append_left _ ((List.Perm.cons _ ((List.Perm.cons _ ((List.Perm.cons _ ((List.Perm.cons _ ((List.Perm.cons _ ((List.Perm.cons _ ((List.Perm.cons _ ((List.Perm.cons _ ((List.Perm.append_left _ ((List.Perm.cons _ ((List.Perm.cons _ ((List.Perm.cons _ (List.Perm.refl _)).trans (List.Perm.swap _ _ _))).trans (List.Perm.swap _ _ _))).trans (List.Perm.swap _ _ _))).trans List.perm_middle)).trans (List.Perm.swap _ _ _))).trans (List.Perm.swap _ _ _))).trans (List.Perm.swap _ _ _))).trans (List.Perm.swap _ _ _))).trans (List.Perm.swap _ _ _))).trans (List.Perm.swap _ _ _))).trans (List.Perm.swap _ _ _))).trans (List.Perm.swap _ _ _))).trans List.perm_middle)).trans (List.Perm.swap _ _ _))).trans (List.Perm.swap _ _ _))).trans (List.Perm.swap _ _ _))).trans ((List.Perm.cons _ ((List.Perm.cons _ ((List.Perm.cons _ ((List.Perm.cons _ ((List.Perm.append_left _ ((List.Perm.cons _ ((List.Perm.cons _ ((List.Perm.cons _ ((List.Perm.cons _ ((List.Perm.cons _ ((List.Perm.cons _ ((List.Perm.cons _ ((List.Perm.cons _ ((List.Perm.append_left _ ((List.Perm.cons _ ((List.Perm.cons _ (List.Perm.refl _)).trans (List.Perm.swap _ _ _))).trans (List.Perm.swap _ _ _))).trans List.perm_middle)).trans (List.Perm.swap _ _ _))).trans (List.Perm.swap _ _ _))).trans (List.Perm.swap _ _ _))).trans (List.Perm.swap _ _ _))).trans (List.Perm.swap _ _ _))).trans (List.Perm.swap _ _ _))).trans (List.Perm.swap _ _ _))).trans (List.Perm.swap _ _ _))).trans List.perm_middle)).trans (List.Perm.swap _ _ _))).trans (List.Perm.swap _ _ _))).trans (List.Perm.swap _ _ _))).trans (List.Perm.swap _ _ _))).trans ((List.Perm.cons _ ((List.Perm.cons _ ((List.Perm.cons _ ((List.Perm.cons _ ((List.Perm.cons _ ((List.Perm.append_left _ ((List.Perm.cons _ ((List.Perm.cons _ ((List.Perm.cons _ ((List.Perm.cons _ ((List.Perm.cons _ ((List.Perm.cons _ ((List.Perm.cons _ ((List.Perm.cons _ ((List.Perm.append_left _ ((List.Perm.cons _ (List.Perm.refl _)).trans (List.Perm.swap _ _ _))).trans List.perm_middle)).trans (List.Perm.swap _ _ _))).trans (List.Perm.swap _ _ _))).trans (List.Perm.swap _ _ _))).trans (List.Perm.swap _ _ _))).trans (List.Perm.swap _ _ _))).trans (List.Perm.swap _ _ _))).trans (List.Perm.swap _ _ _))).trans (List.Perm.swap _ _ _))).trans List.perm_middle)).trans (List.Perm.swap _ _ _))).trans (List.Perm.swap _ _ _))).trans (List.Perm.swap _ _ _))).trans (List.Perm.swap _ _ _))).trans (List.Perm.swap _ _ _))).trans ((List.Perm.cons _ ((List.Perm.cons _ ((List.Perm.cons _ ((List.Perm.cons _ ((List.Perm.cons _ ((List.Perm.cons _ ((List.Perm.append_left _ ((List.Perm.cons _ ((List.Perm.cons _ ((List.Perm.cons _ ((List.Perm.cons _ ((List.Perm.cons _ ((List.Perm.cons _ ((List.Perm.cons _ ((List.Perm.cons _ ((List.Perm.append_left _ (List.Perm.refl _)).trans List.perm_middle)).trans (List.Perm.swap _ _ _))).trans (List.Perm.swap _ _ _))).trans (List.Perm.swap _ _ _))).trans (List.Perm.swap _ _ _))).trans (List.Perm.swap _ _ _))).trans (List.Perm.swap _ _ _))).trans (List.Perm.swap _ _ _))).trans (List.Perm.swap _ _ _))).trans List.perm_middle)).trans (List.Perm.swap _ _ _))).trans (List.Perm.swap _ _ _))).trans (List.Perm.swap _ _ _))).trans (List.Perm.swap _ _ _))).trans (List.Perm.swap _ _ _))).trans (List.Perm.swap _ _ _))).trans ((List.Perm.cons _ ((List.Perm.cons _ ((List.Perm.cons _ ((List.Perm.cons _ ((List.Perm.cons _ ((List.Perm.cons _ ((List.Perm.cons _ ((List.Perm.append_left _ ((List.Perm.cons _ ((List.Perm.cons _ ((List.Perm.cons _ ((List.Perm.cons _ ((List.Perm.cons _ ((List.Perm.cons _ ((List.Perm.cons _ ((List.Perm.cons _ (List.Perm.refl _)).trans List.perm_middle.symm)).trans List.perm_middle.symm)).trans List.perm_middle.symm)).trans List.perm_middle.symm)).trans List.perm_middle.symm)).trans List.perm_middle.symm)).trans List.perm_middle.symm)).trans List.perm_middle.symm)).trans (perm_seg _ _ _))).trans List.perm_middle.symm)).trans List.perm_middle.symm)).trans List.perm_middle.symm)).trans List.perm_middle.symm)).trans List.perm_middle.symm)).trans List.perm_middle.symm)).trans List.perm_middle.symm)).trans ((List.Perm.append_left _ ((List.Perm.cons _ ((List.Perm.cons _ ((List.Perm.cons _ ((List.Perm.cons _ ((List.Perm.cons _ ((List.Perm.cons _ ((List.Perm.cons _ ((List.Perm.append_left _ ((List.Perm.cons _ ((List.Perm.cons _ ((List.Perm.cons _ ((List.Perm.cons _ ((List.Perm.cons _ ((List.Perm.cons _ ((List.Perm.cons _ (List.Perm.refl _)).trans (List.Perm.swap _ _ _))).trans (List.Perm.swap _ _ _))).trans (List.Perm.swap _ _ _))).trans (List.Perm.swap _ _ _))).trans (List.Perm.swap _ _ _))).trans (List.Perm.swap _ _ _))).trans (List.Perm.swap _ _ _))).trans List.perm_middle)).trans (List.Perm.swap _ _ _))).trans (List.Perm.swap _ _ _))).trans (List.Perm.swap _ _ _))).trans (List.Perm.swap _ _ _))).trans (List.Perm.swap _ _ _))).trans (List.Perm.swap _ _ _))).trans (List.Perm.swap _ _ _))).trans List.perm_middle)).trans ((List.Perm.cons _ ((List.Perm.append_left _ ((List.Perm.cons _ ((List.Perm.cons _ ((List.Perm.cons _ ((List.Perm.cons _ ((List.Perm.cons _ ((List.Perm.cons _ ((List.Perm.cons _ ((List.Perm.append_left _ ((List.Perm.cons _ ((List.Perm.cons _ ((List.Perm.cons _ ((List.Perm.cons _ ((List.Perm.cons _ ((List.Perm.cons _ (List.Perm.refl _)).trans (List.Perm.swap _ _ _))).trans (List.Perm.swap _ _ _))).trans (List.Perm.swap _ _ _))).trans (List.Perm.swap _ _ _))).trans (List.Perm.swap _ _ _))).trans (List.Perm.swap _ _ _))).trans List.perm_middle)).trans (List.Perm.swap _ _ _))).trans (List.Perm.swap _ _ _))).trans (List.Perm.swap _ _ _))).trans (List.Perm.swap _ _ _))).trans (List.Perm.swap _ _ _))).trans (List.Perm.swap _ _ _))).trans (List.Perm.swap _ _ _))).trans List.perm_middle)).trans (List.Perm.swap _ _ _))).trans ((List.Perm.cons _ ((List.Perm.cons _ ((List.Perm.append_left _ ((List.Perm.cons _ ((List.Perm.cons _ ((List.Perm.cons _ ((List.Perm.cons _ ((List.Perm.cons _ ((List.Perm.cons _ ((List.Perm.cons _ ((List.Perm.append_left _ ((List.Perm.cons _ ((List.Perm.cons _ ((List.Perm.cons _ ((List.Perm.cons _ ((List.Perm.cons _ (List.Perm.refl _)).trans (List.Perm.swap _ _ _))).trans (List.Perm.swap _ _ _))).trans (List.Perm.swap _ _ _))).trans (List.Perm.swap _ _ _))).trans (List.Perm.swap _ _ _))).trans List.perm_middle)).trans (List.Perm.swap _ _ _))).trans (List.Perm.swap _ _ _))).trans (List.Perm.swap _ _ _))).trans (List.Perm.swap _ _ _))).trans (List.Perm.swap _ _ _))).trans (List.Perm.swap _ _ _))).trans (List.Perm.swap _ _ _))).trans List.perm_middle)).trans (List.Perm.swap _ _ _))).trans (List.Perm.swap _ _ _))).trans ((List.Perm.cons _ ((List.Perm.cons _ ((List.Perm.cons _ ((List.Perm.append_left _ ((List.Perm.cons _ ((List.Perm.cons _ ((List.Perm.cons _ ((List.Perm.cons _ ((List.Perm.cons _ ((List.Perm.cons _ ((List.Perm.cons _ ((List.Perm.append_left _ ((List.Perm.cons _ ((List.Perm.cons _ ((List.Perm.cons _ ((List.Perm.cons _ (List.Perm.refl _)).trans (List.Perm.swap _ _ _))).trans (List.Perm.swap _ _ _))).trans (List.Perm.swap _ _ _))).trans (List.Perm.swap _ _ _))).trans List.perm_middle)).trans (List.Perm.swap _ _ _))).trans (List.Perm.swap _ _ _))).trans (List.Perm.swap _ _ _))).trans (List.Perm.swap _ _ _))).trans (List.Perm.swap _ _ _))).trans (List.Perm.swap _ _ _))).trans (List.Perm.swap _ _ _))).trans List.perm_middle)).trans (List.Perm.swap _ _ _))).trans (List.Perm.swap _ _ _))).trans (List.Perm.swap _ _ _))).trans ((List.Perm.cons _ ((List.Perm.cons _ ((List.Perm.cons _ ((List.Perm.cons _ ((List.Perm.append_left _ ((List.Perm.cons _ ((List.Perm.cons _ ((List.Perm.cons _ ((List.Perm.cons _ ((List.Perm.cons _ ((List.Perm.cons _ ((List.Perm.cons _ ((List.Perm.append_left _ ((List.Perm.cons _ ((List.Perm.cons _ ((List.Perm.cons _ (List.Perm.refl _)).trans (List.Perm.swap _ _ _))).trans (List.Perm.swap _ _ _))).trans (List.Perm.swap _ _ _))).trans List.perm_middle)).trans (List.Perm.swap _ _ _))).trans (List.Perm.swap _ _ _))).trans (List.Perm.swap _ _ _))).trans (List.Perm.swap _ _ _))).trans (List.Perm.swap _ _ _))).trans (List.Perm.swap _ _ _))).trans (List.Perm.swap _ _ _))).trans List.perm_middle)).trans (List.Perm.swap _ _ _))).trans (List.Perm.swap _ _ _))).trans (List.Perm.swap _ _ _))).trans (List.Perm.swap _ _ _))).trans ((List.Perm.cons _ ((List.Perm.cons _ ((List.Perm.cons _ ((List.Perm.cons _ ((List.Perm.cons _ ((List.Perm.append_left _ ((List.Perm.cons _ ((List.Perm.cons _ ((List.Perm.cons _ ((List.Perm.cons _ ((List.Perm.cons _ ((List.Perm.cons _ ((List.Perm.cons _ ((List.Perm.append_left _ ((List.Perm.cons _ ((List.Perm.cons _ (List.Perm.refl _)).trans (List.Perm.swap _ _ _))).trans (List.Perm.swap _ _ _))).trans List.perm_middle)).trans (List.Perm.swap _ _ _))).trans (List.Perm.swap _ _ _))).trans (List.Perm.swap _ _ _))).trans (List.Perm.swap _ _ _))).trans (List.Perm.swap _ _ _))).trans (List.Perm.swap _ _ _))).trans (List.Perm.swap _ _ _))).trans List.perm_middle)).trans (List.Perm.swap _ _ _))).trans (List.Perm.swap _ _ _))).trans (List.Perm.swap _ _ _))).trans (List.Perm.swap _ _ _))).trans (List.Perm.swap _ _ _))).trans ((List.Perm.cons _ ((List.Perm.cons _ ((List.Perm.cons _ ((List.Perm.cons _ ((List.Perm.cons _ ((List.Perm.cons _ ((List.Perm.append_left _ ((List.Perm.cons _ ((List.Perm.cons _ ((List.Perm.cons _ ((List.Perm.cons _ ((List.Perm.cons _ ((List.Perm.cons _ ((List.Perm.cons _ ((List.Perm.append_left _ ((List.Perm.cons _ (List.Perm.refl _)).trans (List.Perm.swap _ _ _))).trans List.perm_middle)).trans (List.Perm.swap _ _ _))).trans (List.Perm.swap _ _ _))).trans (List.Perm.swap _ _ _))).trans (List.Perm.swap _ _ _))).trans (List.Perm.swap _ _ _))).trans (List.Perm.swap _ _ _))).trans (List.Perm.swap _ _ _))).trans List.perm_middle)).trans (List.Perm.swap _ _ _))).trans (List.Perm.swap _ _ _))).trans (List.Perm.swap _ _ _))).trans (List.Perm.swap _ _ _))).trans (List.Perm.swap _ _ _))).trans (List.Perm.swap _ _ _))).trans ((List.Perm.cons _ ((List.Perm.cons _ ((List.Perm.cons _ ((List.Perm.cons _ ((List.Perm.cons _ ((List.Perm.cons _ ((List.Perm.cons _ ((List.Perm.append_left _ ((List.Perm.cons _ ((List.Perm.cons _ ((List.Perm.cons _ ((List.Perm.cons _ ((List.Perm.cons _ ((List.Perm.cons _ (List.Perm.refl _)).trans (List.Perm.swap _ _ _))).trans (List.Perm.swap _ _ _))).trans (List.Perm.swap _ _ _))).trans (List.Perm.swap _ _ _))).trans (List.Perm.swap _ _ _))).trans (List.Perm.swap _ _ _))).trans List.perm_middle)).trans (List.Perm.swap _ _ _))).trans (List.Perm.swap _ _ _))).trans (List.Perm.swap _ _ _))).trans (List.Perm.swap _ _ _))).trans (List.Perm.swap _ _ _))).trans (List.Perm.swap _ _ _))).trans (List.Perm.swap _ _ _))).trans ((List.Perm.cons _ ((List.Perm.cons _ ((List.Perm.cons _ ((List.Perm.cons _ ((List.Perm.cons _ ((List.Perm.cons _ ((List.Perm.cons _ ((List.Perm.cons _ ((List.Perm.append_left _ ((List.Perm.cons _ ((List.Perm.cons _ ((List.Perm.cons _ ((List.Perm.cons _ ((List.Perm.cons _ ((List.Perm.cons _ (List.Perm.refl _)).trans List.perm_middle.symm)).trans List.perm_middle.symm)).trans List.perm_middle.symm)).trans List.perm_middle.symm)).trans List.perm_middle.symm)).trans List.perm_middle.symm)).trans (perm_seg _ _ _))).trans List.perm_middle.symm)).trans List.perm_middle.symm)).trans List.perm_middle.symm)).trans List.perm_middle.symm)).trans List.perm_middle.symm)).trans List.perm_middle.symm)).trans List.perm_middle.symm)).trans List.perm_middle.symm)) ?_
        refine JX_subL (Bx162 ++ ((l174, loopAt rr174 .ready none) :: ((rD174, Obj.deferred (some [])) :: ((r173, Obj.cells [(Value.int .u8 (92))].toArray 5) :: ((r172, Obj.cells [(Value.pointer (some ⟨r1, 0, none⟩))].toArray 68) :: ((r171, Obj.cells [(Value.slice (ax162) ((x_10 ++ ([(xorI .u8 ((toI (key.take 64) ++ (List.replicate 64 (0 : Int)).drop key.length).getD x_9 default) 92)] : List Int)).length) (cx162))].toArray 33) :: ((r170, Obj.cells [(Value.pointer (some ⟨r1, 0, none⟩))].toArray 70) :: ((r169, Obj.cells [(Value.string (bs (sSum ((toS x_2) ++ (Lib.join l ([] : Str))))))].toArray 9) :: ((l7, loopAt rr7 .exhausted none) :: (x_2B ++ ((r6, Obj.cells [(Value.int .u8 (54))].toArray 5) :: ((r5, Obj.cells [(Value.pointer (some ⟨r1, 0, none⟩))].toArray 68) :: ((r4, Obj.cells [(Value.slice (x_2a) (x_2.length) (x_2c))].toArray 33) :: ((r3, Obj.cells [(Value.pointer (some ⟨r1, 0, none⟩))].toArray 70) :: ((r2, Obj.cells [(Value.pointer (some ⟨r1, 0, none⟩))].toArray 70) :: ((r1, Obj.cells (aI .u8 (toI (key.take 64) ++ (List.replicate 64 (0 : Int)).drop key.length)).toArray 67) :: [])))))))))))))))) (List.Sublist.append (List.Sublist.refl _) (List.Sublist.cons_cons _ (List.Sublist.cons_cons _ (List.Sublist.cons_cons _ (List.Sublist.cons_cons _ (List.Sublist.cons_cons _ (List.Sublist.cons_cons _ (List.Sublist.cons_cons _ (List.Sublist.cons_cons _ (List.Sublist.append (List.Sublist.refl _) (List.Sublist.cons_cons _ (List.Sublist.cons_cons _ (List.Sublist.cons_cons _ (List.Sublist.cons_cons _ (List.Sublist.cons_cons _ (List.Sublist.cons_cons _ (List.nil_sublist _))))))))))))))))) ?_
        exact JX_inv6 n_11 (x_9 + 1) (x_10 ++ ([(xorI .u8 ((toI (key.take 64) ++ (List.replicate 64 (0 : Int)).drop key.length).getD x_9 default) 92)] : List Int)) ax162 cx162 Bx162 ⟨by omega, (hF12.pos hq2), hox162, (by omega), (by omega)⟩ (Nat.lt_succ_self _) (by repeat (first | exact SubE.nil | refine SubE.cons rfl ?_)) (List.Perm.refl _)
      refine J_exit ?_
      refine JX_seq_exit ?_
      refine JX_inv_exit ?_
      refine JX_block_hit ?_
      refine JX_scope ?_
      refine JX_it0 (.inr rfl) Tryd.results62 ((List.Perm.append_left _ (List.Perm.refl _)).trans List.perm_middle) ?_
      refine JX_block ?_
      refine JX_seq ?_
      refine J_seq ?_
      refine J_join0  ( ((l174, loopAt rr174 .exhausted none) :: (x_10B ++ ((rD174, Obj.deferred (some [])) :: ((r173, Obj.cells [(Value.int .u8 (92))].toArray 5) :: ((r172, Obj.cells [(Value.pointer (some ⟨r1, 0, none⟩))].toArray 68) :: ((r171, Obj.cells [(Value.slice (x_10a) (x_10.length) (x_10c))].toArray 33) :: ((r170, Obj.cells [(Value.pointer (some ⟨r1, 0, none⟩))].toArray 70) :: ((r169, Obj.cells [(Value.string (bs (sSum ((toS x_2) ++ (Lib.join l ([] : Str))))))].toArray 9) :: ((l7, loopAt rr7 .exhausted none) :: (x_2B ++ ((r6, Obj.cells [(Value.int .u8 (54))].toArray 5) :: ((r5, Obj.cells [(Value.pointer (some ⟨r1, 0, none⟩))].toArray 68) :: ((r4, Obj.cells [(Value.slice (x_2a) (x_2.length) (x_2c))].toArray 33) :: ((r3, Obj.cells [(Value.pointer (some ⟨r1, 0, none⟩))].toArray 70) :: ((r2, Obj.cells [(Value.pointer (some ⟨r1, 0, none⟩))].toArray 70) :: ((r1, Obj.cells (aI .u8 (toI (key.take 64) ++ (List.replicate 64 (0 : Int)).drop key.length)).toArray 67) :: []))))))))))))))))) ( [(6, (Value.string (bs (sSum ((toS x_10) ++ (Lib.join ([(sSum ((toS x_2) ++ (Lib.join l ([] : Str))))] : List Str) ([] : Str)))))))]) ( Is () ()) ?_ ?_
      · skip
        refine J_any (V := []) mixed 7 (by kernel_rfl) ?_
        refine JG_q 0 rfl (by kernel_rfl) (q_load Tryd.isAgg33) (k := ?_)
        refine JG_q 2 rfl (by kernel_rfl) (q_move) (k := ?_)
        refine JG_br [1, 3] (by kernel_rfl) rfl (List.forall_mem_cons.2 ⟨?_, (List.forall_mem_cons.2 ⟨?_, nofun⟩)⟩)
        · skip
          refine JO_q rfl (q_str Tryd.underlying9 Tryd.underlying33 Tryd.underlying5 (hx_10.slj eI_u8_ok)) (k := ?_)
          refine JG_br [3] (by kernel_rfl) rfl (List.forall_mem_cons.2 ⟨?_, nofun⟩)
          · skip
            refine JO_v rfl (args := [(Value.slice (some ⟨r169, 0, none⟩) (1) (1)), (Value.string (bs ([] : Str)))]) (c_callA Tryd.call29) (fun w1 hw1 => Join_ok w1 (h_xs := (SlJ.lit (xs := ([(sSum ((toS x_2) ++ (Lib.join l ([] : Str))))] : List Str)) eS_ok) w1 hw1) (xs := ([(sSum ((toS x_2) ++ (Lib.join l ([] : Str))))] : List Str)) (sep := ([] : Str)) (hc := by first | omega | simp) (hn := by first | omega | (simp only [List.length_append, List.length_take, List.length_drop, List.length_set, List.length_replicate, List.length_cons, List.length_nil, List.length_map, toS_length, toI_length]; omega) | (simp only [List.length_append, List.length_take, List.length_drop, List.length_set, List.length_replicate, List.length_cons, List.length_nil, List.length_map, toS_length, toI_length] at *; omega)) (hl := Nat.le_trans (show (Lib.join ([(sSum ((toS x_2) ++ (Lib.join l ([] : Str))))] : List Str) ([] : Str)).length ≤ 100000 by first | omega | (rw [join_one, sSum_len]; omega)) (by decide))) (k := ?_)
            have hjl_28132 : (Lib.join ([(sSum ((toS x_2) ++ (Lib.join l ([] : Str))))] : List Str) ([] : Str)).length ≤ 100000 := by first | omega | (rw [join_one, sSum_len]; omega)
            refine JG_q 4 rfl (by kernel_rfl) (q_addT (s := (toS x_10)) (s' := (Lib.join ([(sSum ((toS x_2) ++ (Lib.join l ([] : Str))))] : List Str) ([] : Str))) (h := by (simp only [toS_length]; omega))) (k := ?_)
            have hsa7 : ((toS x_10) ++ (Lib.join ([(sSum ((toS x_2) ++ (Lib.join l ([] : Str))))] : List Str) ([] : Str))).length = (toS x_10).length + (Lib.join ([(sSum ((toS x_2) ++ (Lib.join l ([] : Str))))] : List Str) ([] : Str)).length := by simp only [List.length_append, List.length_cons, List.length_nil, Nat.zero_add]
            refine JG_br [5] (by kernel_rfl) rfl (List.forall_mem_cons.2 ⟨?_, nofun⟩)
            · skip
              refine JO_v rfl (args := [(Value.string (bs ((toS x_10) ++ (Lib.join ([(sSum ((toS x_2) ++ (Lib.join l ([] : Str))))] : List Str) ([] : Str)))))]) (c_callA Tryd.call19) (fun w1 hw1 => sSum_ok w1 (s := ((toS x_10) ++ (Lib.join ([(sSum ((toS x_2) ++ (Lib.join l ([] : Str))))] : List Str) ([] : Str)))) (n_s := by (simp only [List.length_append, toS_length]; omega)) (hG := hG.ext hw1.ext_out)) (k := ?_)
              have hsum_10167 := sSum_len ((toS x_10) ++ (Lib.join ([(sSum ((toS x_2) ++ (Lib.join l ([] : Str))))] : List Str) ([] : Str)))
              refine JG_q 6 rfl (by kernel_rfl) (q_assign) (k := ?_)
              refine JG_nil (by kernel_rfl) _ ?_
              refine JL_nil ?_
              exact JX_join0  (Is.refl ()) (by repeat (first | exact SubE.nil | refine SubE.cons rfl ?_)) (List.Perm.refl _)
        · skip
          refine JO_v rfl (args := [(Value.slice (some ⟨r169, 0, none⟩) (1) (1)), (Value.string (bs ([] : Str)))]) (c_callA Tryd.call29) (fun w1 hw1 => Join_ok w1 (h_xs := (SlJ.lit (xs := ([(sSum ((toS x_2) ++ (Lib.join l ([] : Str))))] : List Str)) eS_ok) w1 hw1) (xs := ([(sSum ((toS x_2) ++ (Lib.join l ([] : Str))))] : List Str)) (sep := ([] : Str)) (hc := by first | omega | simp) (hn := by first | omega | (simp only [List.length_append, List.length_take, List.length_drop, List.length_set, List.length_replicate, List.length_cons, List.length_nil, List.length_map, toS_length, toI_length]; omega) | (simp only [List.length_append, List.length_take, List.length_drop, List.length_set, List.length_replicate, List.length_cons, List.length_nil, List.length_map, toS_length, toI_length] at *; omega)) (hl := Nat.le_trans (show (Lib.join ([(sSum ((toS x_2) ++ (Lib.join l ([] : Str))))] : List Str) ([] : Str)).length ≤ 100000 by first | omega | (rw [join_one, sSum_len]; omega)) (by decide))) (k := ?_)
          have hjl_28132 : (Lib.join ([(sSum ((toS x_2) ++ (Lib.join l ([] : Str))))] : List Str) ([] : Str)).length ≤ 100000 := by first | omega | (rw [join_one, sSum_len]; omega)
          refine JG_br [1] (by kernel_rfl) rfl (List.forall_mem_cons.2 ⟨?_, nofun⟩)
          · skip
            refine JO_q rfl (q_str Tryd.underlying9 Tryd.underlying33 Tryd.underlying5 (hx_10.slj eI_u8_ok)) (k := ?_)
            refine JG_q 4 rfl (by kernel_rfl) (q_addT (s := (toS x_10)) (s' := (Lib.join ([(sSum ((toS x_2) ++ (Lib.join l ([] : Str))))] : List Str) ([] : Str))) (h := by (simp only [toS_length]; omega))) (k := ?_)
            have hsa8 : ((toS x_10) ++ (Lib.join ([(sSum ((toS x_2) ++ (Lib.join l ([] : Str))))] : List Str) ([] : Str))).length = (toS x_10).length + (Lib.join ([(sSum ((toS x_2) ++ (Lib.join l ([] : Str))))] : List Str) ([] : Str)).length := by simp only [List.length_append, List.length_cons, List.length_nil, Nat.zero_add]
            refine JG_br [5] (by kernel_rfl) rfl (List.forall_mem_cons.2 ⟨?_, nofun⟩)
            · skip
              refine JO_v rfl (args := [(Value.string (bs ((toS x_10) ++ (Lib.join ([(sSum ((toS x_2) ++ (Lib.join l ([] : Str))))] : List Str) ([] : Str)))))]) (c_callA Tryd.call19) (fun w1 hw1 => sSum_ok w1 (s := ((toS x_10) ++ (Lib.join ([(sSum ((toS x_2) ++ (Lib.join l ([] : Str))))] : List Str) ([] : Str)))) (n_s := by (simp only [List.length_append, toS_length]; omega)) (hG := hG.ext hw1.ext_out)) (k := ?_)
              have hsum_10167 := sSum_len ((toS x_10) ++ (Lib.join ([(sSum ((toS x_2) ++ (Lib.join l ([] : Str))))] : List Str) ([] : Str)))
              refine JG_q 6 rfl (by kernel_rfl) (q_assign) (k := ?_)
              refine JG_nil (by kernel_rfl) _ ?_
              refine JL_nil ?_
              exact JX_join0  (Is.refl ()) (by repeat (first | exact SubE.nil | refine SubE.cons rfl ?_)) (List.Perm.refl _)
      intro  hJ16
      refine JX_seq ?_
      refine J_ret ?_
      refine JX_retIM [rD174] ((List.Perm.cons _ ((List.Perm.append_left _ (List.Perm.refl _)).trans List.perm_middle)).trans (List.Perm.swap _ _ _)) Tryd.results40 (Res.tmp rfl Res.nil) ?_
      refine JL_q (q_assign) (k := ?_)
      refine JL_nil ?_
      refine JX_seq ?_
      refine J_ret ?_
      refine JX_ret Tryd.results23 (Res.tmp rfl Res.nil) (fun w1 hw1 => ?_)
      exact ⟨(by rw [(((((hF.rn2 (hF4.neg hq1)).rn0 hJ8).rn2 (hF12.neg hq2)).rn0 hJ16)).eq] <;> first | rfl | (simp only [List.length_set] <;> rfl)), hw1.ext_out⟩

theorem mSame_ok (w : World) {a : Str} {b : Str} (n_a : a.length ≤ 1000000) (n_b : b.length ≤ 1000000) : Val Tryd.prog 14 [(Value.string (bs a)), (Value.string (bs b))] w (Value.bool ((mSame a b))) := by
  have hF := Is.refl (mSame a b)
  refine enter Tryd.func14 Tryd.ntmps14 (h := ?_)
  refine J_seq ?_
  refine J_reg ?_
  refine JL_q (q_assign) (k := ?_)
  refine JL_nil ?_
  refine JX_seq ?_
  refine J_seq ?_
  refine J_reg ?_
  refine JL_q (q_move) (k := ?_)
  refine JL_q (q_lenT Tryd.runUnderlying9) (k := ?_)
  refine JL_q (q_move) (k := ?_)
  refine JL_q (q_lenT Tryd.runUnderlying9) (k := ?_)
  refine JL_q (q_xorW) (k := ?_)
  refine JL_q (q_assign) (k := ?_)
  refine JL_nil ?_
  refine JX_seq ?_
  refine J_seq ?_
  refine J_seq ?_
  refine J_reg ?_
  refine JL_q (q_move) (k := ?_)
  refine JL_q (q_lenT Tryd.runUnderlying9) (k := ?_)
  refine JL_q (q_move) (k := ?_)
  refine JL_q (q_lenT Tryd.runUnderlying9) (k := ?_)
  refine JL_q (q_min) (k := ?_)
  refine JL_q (q_move) (k := ?_)
  refine JL_nil ?_
  refine JX_seq ?_
  refine J_block ?_
  refine J_loop3 (σ1 := Nat) (σ2 := Nat) (σ3 := Int) (fun n_3 x_1 differ_2 => []) (fun n_3 x_1 differ_2 => [(0, (Value.string (bs a))), (1, (Value.string (bs b))), (4, (Value.bool (false))), (5, (Value.int .i64 (differ_2))), (16, (Value.int .i64 ((if ((b.length : Nat) : Int) < ((a.length : Nat) : Int) then ((b.length : Nat) : Int) else ((a.length : Nat) : Int))))), (17, (Value.int .i64 (((x_1 : Nat) : Int))))]) (fun n_3 x_1 differ_2 => ((if ((b.length : Nat) : Int) < ((a.length : Nat) : Int) then ((b.length : Nat) : Int) else ((a.length : Nat) : Int)) - ((x_1 : Nat) : Int)).toNat < n_3 ∧ Is (mSame_l0 a b (((if ((b.length : Nat) : Int) < ((a.length : Nat) : Int) then ((b.length : Nat) : Int) else ((a.length : Nat) : Int)) - ((0 : Nat) : Int)).toNat + 1) 0 (xorI .i64 ((a.length : Nat) : Int) ((b.length : Nat) : Int))) (mSame_l0 a b n_3 x_1 differ_2)) (fun n_3 x_1 differ_2 => n_3) (((if ((b.length : Nat) : Int) < ((a.length : Nat) : Int) then ((b.length : Nat) : Int) else ((a.length : Nat) : Int)) - ((0 : Nat) : Int)).toNat + 1) 0 (xorI .i64 ((a.length : Nat) : Int) ((b.length : Nat) : Int)) ?_ (by repeat (first | exact SubE.nil | refine SubE.cons rfl ?_)) (List.Perm.refl _) ?_
  · exact ⟨Nat.lt_succ_self _, Is.refl _⟩
  · rintro (_ | n_3) x_1 differ_2 ⟨hm5, hF4⟩
    · omega
    refine J_seq ?_
    refine J_reg ?_
    refine JL_q (q_lss) (k := ?_)
    refine JL_nil ?_
    refine JX_seq ?_
    refine J_seq ?_
    refine J_dec rfl (fun hq1 => ?_) (fun hq1 => ?_)
    rotate_left
    · refine J_exit ?_
      refine JX_seq_exit ?_
      refine JX_inv_exit ?_
      refine JX_block_hit ?_
      refine JX_seq ?_
      refine J_seq ?_
      refine J_reg ?_
      refine JL_q (q_move) (k := ?_)
      refine JL_q (q_eql) (k := ?_)
      refine JL_q (q_assign) (k := ?_)
      refine JL_nil ?_
      refine JX_seq ?_
      refine J_ret ?_
      refine JX_ret Tryd.results14 (Res.tmp rfl Res.nil) (fun w1 hw1 => ?_)
      exact ⟨(by rw [((hF.rn2 (hF4.neg hq1))).eq] <;> first | rfl | (simp only [List.length_set] <;> rfl)), hw1.ext_out⟩
    refine J_skip ?_
    refine JX_seq ?_
    refine J_seq ?_
    refine J_block ?_
    refine J_seq ?_
    refine J_reg ?_
    refine JL_q (q_move) (k := ?_)
    refine JL_q (q_assign) (k := ?_)
    refine JL_nil ?_
    refine JX_seq ?_
    refine J_plan mixed 11 [(true, 0), (true, 1), (true, 2), (true, 3), (true, 4), (true, 5), (true, 6), (true, 7), (false, 8), (true, 9), (true, 10)] (by kernel_rfl) ?_
    refine JD_q (q_move) (k := ?_)
    refine JD_q (q_move) (k := ?_)
    refine JD_q (q_move) (k := ?_)
    have hu23 := u8_lt (a.getD x_1 default)
    refine JD_q (q_idxT (s := a) x_1 Tryd.runUnderlying9 (by first | omega | (simp only [List.length_set]; omega) | (simp only [List.length_append, List.length_take, List.length_drop, List.length_set, List.length_replicate, List.length_cons, List.length_nil, List.length_map, toS_length, toI_length]; omega))) (k := ?_)
    refine JD_q (q_move) (k := ?_)
    refine JD_q (q_move) (k := ?_)
    have hu26 := u8_lt (b.getD x_1 default)
    refine JD_q (q_idxT (s := b) x_1 Tryd.runUnderlying9 (by first | omega | (simp only [List.length_set]; omega) | (simp only [List.length_append, List.length_take, List.length_drop, List.length_set, List.length_replicate, List.length_cons, List.length_nil, List.length_map, toS_length, toI_length]; omega))) (k := ?_)
    refine JD_q (q_xorW) (k := ?_)
    refine JD_q (q_conv (r := (xorI .u8 (((a.getD x_1 default).toNat : Nat) : Int) (((b.getD x_1 default).toNat : Nat) : Int))) (wrap_i64 (by first | omega | exact xorI_u8_i64 _ _)) Tryd.runUnderlying5 Tryd.runUnderlying3) (k := ?_)
    refine JD_q (q_orW) (k := ?_)
    refine JD_q (q_assign) (k := ?_)
    refine JD_nil0 ?_
    refine JL_nil ?_
    refine JX_block ?_
    refine JX_seq ?_
    refine J_reg ?_
    refine JL_q (q_add) (k := ?_)
    refine JL_q (q_move) (k := ?_)
    refine JL_nil ?_
    exact JX_inv3 n_3 (x_1 + 1) (orI .i64 differ_2 (xorI .u8 (((a.getD x_1 default).toNat : Nat) : Int) (((b.getD x_1 default).toNat : Nat) : Int))) ⟨by omega, (hF4.pos hq1)⟩ (Nat.lt_succ_self _) (by repeat (first | exact SubE.nil | refine SubE.cons rfl ?_)) (List.Perm.refl _)

theorem mMacOf_ok (w : World) {ea0 : Addr} {ea1 : Addr} {key : Str} {s : Str} (n_s : s.length ≤ 10000) (hG : Gl w) (hE : Er w ea0 ea1) : Val Tryd.prog 10 [(Value.string (bs key)), (Value.string (bs s))] w (Value.tuple [(Value.string (bs ((mMacOf key s).1))), (Value.int .i64 (((mMacOf key s).2)))].toArray) := by
  have hF := Is.refl (mMacOf key s)
  refine enter Tryd.func10 Tryd.ntmps10 (h := ?_)
  refine J_seq ?_
  refine J_reg ?_
  refine JL_q (q_assign) (k := ?_)
  refine JL_q (q_assign) (k := ?_)
  refine JL_nil ?_
  refine JX_seq ?_
  refine J_seq ?_
  refine J_seq ?_
  refine J_reg ?_
  refine JL_q (q_move) (k := ?_)
  refine JL_inl (args := [(Value.string (bs key))]) (c_callA Tryd.call21) Tryd.func21 Tryd.ntmps21 ?_
  refine J_seq ?_
  refine J_reg ?_
  refine JL_a noMk (a_box (l := [_])) (k := fun r1 hr1 => ?_)
  refine JL_q (q_assign) (k := ?_)
  refine JL_nil ?_
  refine JX_seq ?_
  refine J_seq ?_
  refine J_reg ?_
  refine JL_q (q_func) (k := ?_)
  obtain ⟨Thgl1, fhgl1, hgl1⟩ := hE.v1
  refine JL_q (q_loadB Tryd.isAgg37 hgl1) (k := ?_)
  refine JL_inl (args := [(Value.func (.func 38) [].toArray [(Value.pointer (some ⟨r1, 0, none⟩))].toArray), (Value.iface 130 (.pointer (some ea1)))]) (c_callA Tryd.call26) Tryd.func26 Tryd.ntmps26 ?_
  refine J_seq ?_
  refine J_reg ?_
  refine JL_q (q_assign) (k := ?_)
  refine JL_nil ?_
  refine JX_seq ?_
  refine J_seq ?_
  refine J_seq ?_
  refine J_reg ?_
  refine JL_q (q_move) (k := ?_)
  refine JL_inl (args := [(Value.pointer (some ⟨r1, 0, none⟩))]) (c_callA Tryd.call38) Tryd.func38 Tryd.ntmps38 ?_
  refine J_seq ?_
  refine J_reg ?_
  refine JL_q (q_assign) (k := ?_)
  refine JL_nil ?_
  refine JX_seq ?_
  refine J_seq ?_
  refine J_reg ?_
  refine JL_q (q_load Tryd.isAgg9) (k := ?_)
  refine JL_v (args := [(Value.string (bs key))]) (c_callA Tryd.call12) (fun w1 hw1 => mRight_ok w1 (key := key)) (k := ?_)
  refine JL_q (q_assign) (k := ?_)
  refine JL_nil ?_
  refine JX_seq ?_
  refine J_ret ?_
  refine JX_retI Tryd.results38 (Res.tmp rfl Res.nil) ?_
  refine JL_nil ?_
  refine JX_seq ?_
  refine J_cond rfl (fun hq2 => ?_) (fun hq2 => ?_)
  · refine J_seq ?_
    refine J_reg ?_
    refine JL_q (q_assign) (k := ?_)
    refine JL_nil ?_
    refine JX_seq ?_
    refine J_ret ?_
    refine JX_seq_ret ?_
    refine JX_retI Tryd.results26 (Res.tmp rfl Res.nil) ?_
    refine JL_q (q_assign) (k := ?_)
    refine JL_nil ?_
    refine JX_seq ?_
    refine J_ret ?_
    refine JX_retI Tryd.results21 (Res.tmp rfl Res.nil) ?_
    refine JL_q (q_assign) (k := ?_)
    refine JL_nil ?_
    refine JX_seq ?_
    refine J_seq ?_
    refine J_reg ?_
    refine JL_q (q_move) (k := ?_)
    refine JL_q (q_neS (u := Value.nilIface) (v := Value.nilIface) (b := false) (fun w => by kernel_rfl)) (k := ?_)
    refine JL_nil ?_
    refine JX_seq ?_
    refine J_false rfl ?_
    refine J_skip ?_
    refine JX_seq ?_
    refine J_seq ?_
    refine J_reg ?_
    refine JL_q (q_move) (k := ?_)
    refine JL_q (q_move) (k := ?_)
    refine JL_a noMk (a_bslice (l := [_]) Tryd.runUnderlying42 Tryd.sizeOf9 Tryd.zeroValue9) (k := fun r2 hr2 => ?_)
    refine JL_v (args := [(Value.string (bs key)), (Value.slice (some ⟨r2, 0, none⟩) (1) (1))]) (c_callA Tryd.call23) (fun w1 hw1 => mMac_ok w1 (key := key) (l := ([s] : List Str)) (h_l := (SlJ.lit (xs := ([s] : List Str)) eS_ok) w1 hw1) (n_l := by simp) (k_l := by simp) (hG := hG.ext hw1.ext_out) (hE := hE.ext hw1.ext_out) (hj := by first | (rw [join_two]; simp only [List.length_nil]; omega) | (rw [join_one]; omega))) (k := ?_)
    have hmm_7896 := mMac_len key ([s] : List Str)
    refine JL_q (q_assign) (k := ?_)
    refine JL_q (q_assign) (k := ?_)
    refine JL_nil ?_
    refine JX_seq ?_
    refine J_ret ?_
    refine JX_ret Tryd.results10 (Res.tmp rfl (Res.tmp rfl Res.nil)) (fun w1 hw1 => ?_)
    exact ⟨(by rw [((hF.t hq2)).eq] <;> first | rfl | (simp only [List.length_set] <;> rfl)), hw1.ext_out⟩
  refine J_skip ?_
  refine JX_seq ?_
  refine J_seq ?_
  refine J_reg ?_
  refine JL_q (q_move) (k := ?_)
  refine JL_q (q_assign) (k := ?_)
  refine JL_nil ?_
  refine JX_seq ?_
  refine J_ret ?_
  refine JX_retI Tryd.results26 (Res.tmp rfl Res.nil) ?_
  refine JL_q (q_assign) (k := ?_)
  refine JL_nil ?_
  refine JX_seq ?_
  refine J_ret ?_
  refine JX_retI Tryd.results21 (Res.tmp rfl Res.nil) ?_
  refine JL_q (q_assign) (k := ?_)
  refine JL_nil ?_
  refine JX_seq ?_
  refine J_seq ?_
  refine J_reg ?_
  refine JL_q (q_move) (k := ?_)
  refine JL_q (q_neS (u := (Value.iface 130 (.pointer (some ea1)))) (v := Value.nilIface) (b := true) (fun w => by kernel_rfl)) (k := ?_)
  refine JL_nil ?_
  refine JX_seq ?_
  refine J_true rfl ?_
  refine J_seq ?_
  refine J_reg ?_
  refine JL_q (q_move) (k := ?_)
  refine JL_inl (args := [(Value.iface 130 (.pointer (some ea1)))]) (c_callA Tryd.call22) Tryd.func22 Tryd.ntmps22 ?_
  refine J_seq ?_
  refine J_reg ?_
  refine JL_q (q_assign) (k := ?_)
  refine JL_nil ?_
  refine JX_seq ?_
  refine J_seq ?_
  refine J_block ?_
  refine J_seq ?_
  refine J_reg ?_
  refine JL_q (q_move) (k := ?_)
  obtain ⟨Thgl3, fhgl3, hgl3⟩ := hE.v1
  refine JL_q (q_loadB Tryd.isAgg37 hgl3) (k := ?_)
  refine JL_v (args := [(Value.iface 130 (.pointer (some ea1))), (Value.iface 130 (.pointer (some ea1)))]) (c_callA Tryd.call39) (fun w1 hw1 => is_same_v w1) (k := ?_)
  refine JL_q (q_assign) (k := ?_)
  refine JL_nil ?_
  refine JX_seq ?_
  refine J_true rfl ?_
  refine J_seq ?_
  refine J_reg ?_
  refine JL_q (q_assign) (k := ?_)
  refine JL_nil ?_
  refine JX_seq ?_
  refine J_ret ?_
  refine JX_block_ret ?_
  refine JX_seq_ret ?_
  refine JX_retI Tryd.results22 (Res.tmp rfl Res.nil) ?_
  refine JL_q (q_assign) (k := ?_)
  refine JL_q (q_assign) (k := ?_)
  refine JL_nil ?_
  refine JX_seq ?_
  refine J_ret ?_
  refine JX_seq_ret ?_
  refine JX_ret Tryd.results10 (Res.tmp rfl (Res.tmp rfl Res.nil)) (fun w1 hw1 => ?_)
  exact ⟨(by rw [((hF.f hq2)).eq] <;> first | rfl | (simp only [List.length_set] <;> rfl)), hw1.ext_out⟩

theorem mChal_ok (w : World) {ea0 : Addr} {ea1 : Addr} {a : Int} {b : Int} (i_a : -9223372036854775808 ≤ a ∧ a ≤ 9223372036854775807) (i_b : -9223372036854775808 ≤ b ∧ b ≤ 9223372036854775807) (hG : Gl w) (hE : Er w ea0 ea1) : Val Tryd.prog 15 [(Value.int .i64 (a)), (Value.int .i64 (b))] w (Value.tuple [(Value.string (bs ((mChal a b).1))), (Value.int .i64 (((mChal a b).2)))].toArray) := by
  have hF := Is.refl (mChal a b)
  refine enter Tryd.func15 Tryd.ntmps15 (h := ?_)
  refine J_seq ?_
  refine J_reg ?_
  refine JL_q (q_assign) (k := ?_)
  refine JL_q (q_assign) (k := ?_)
  refine JL_nil ?_
  refine JX_seq ?_
  refine J_seq ?_
  refine J_reg ?_
  refine JL_a noMk (a_bslice (l := [_]) Tryd.runUnderlying42 Tryd.sizeOf9 Tryd.zeroValue9) (k := fun r1 hr1 => ?_)
  refine JL_q (q_assign) (k := ?_)
  refine JL_nil ?_
  refine JX_seq ?_
  refine J_seq ?_
  refine J_seq ?_
  refine J_reg ?_
  refine JL_q (q_move) (k := ?_)
  refine JL_q (q_move) (k := ?_)
  refine JL_a noMk (a_bslice (l := [_, _]) Tryd.runUnderlying43 Tryd.sizeOf3 Tryd.zeroValue3) (k := fun r2 hr2 => ?_)
  refine JL_q (q_lenS Tryd.runUnderlying43) (k := ?_)
  refine JL_q (q_move) (k := ?_)
  refine JL_nil ?_
  refine JX_seq ?_
  refine J_block ?_
  refine J_unroll ?_
  refine J_seq ?_
  refine J_reg ?_
  refine JL_q (q_lss) (k := ?_)
  refine JL_nil ?_
  refine JX_seq ?_
  refine J_seq ?_
  refine J_true rfl ?_
  refine J_skip ?_
  refine JX_seq ?_
  refine J_seq ?_
  refine J_block ?_
  refine J_seq ?_
  refine J_reg ?_
  refine JL_q (q_idx (n := 2) Tryd.runUnderlying43 Tryd.sizeOf3 0 (SlJ.lit (xs := ([a, b] : List Int)) eI_ok) (gD (by first | omega | (simp only [List.length_set]; omega) | (simp only [List.length_append, List.length_take, List.length_drop, List.length_set, List.length_replicate, List.length_cons, List.length_nil, List.length_map, toS_length, toI_length]; omega))) (by first | rfl | simp)) (k := ?_)
  refine JL_q (q_loadE Tryd.isAgg3 0 0 (SlJ.lit (xs := ([a, b] : List Int)) eI_ok) (gD (by first | omega | (simp only [List.length_set]; omega) | (simp only [List.length_append, List.length_take, List.length_drop, List.length_set, List.length_replicate, List.length_cons, List.length_nil, List.length_map, toS_length, toI_length]; omega)))) (k := ?_)
  refine JL_a noMk (a_alloc (l := [_]) Tryd.zeroValue3) (k := fun r3 hr3 => ?_)
  refine JL_s (w_store (l' := [_]) Tryd.sizeOf3) (k := ?_)
  refine JL_nil ?_
  refine JX_seq ?_
  refine J_seq ?_
  refine J_seq ?_
  refine J_reg ?_
  refine JL_q (q_func) (k := ?_)
  obtain ⟨Thgl1, fhgl1, hgl1⟩ := hE.v0
  refine JL_q (q_loadB Tryd.isAgg37 hgl1) (k := ?_)
  refine JL_inl (args := [(Value.func (.func 27) [].toArray [(Value.pointer (some ⟨r3, 0, none⟩))].toArray), (Value.iface 130 (.pointer (some ea0)))]) (c_callA Tryd.call26) Tryd.func26 Tryd.ntmps26 ?_
  refine J_seq ?_
  refine J_reg ?_
  refine JL_q (q_assign) (k := ?_)
  refine JL_nil ?_
  refine JX_seq ?_
  refine J_seq ?_
  refine J_seq ?_
  refine J_reg ?_
  refine JL_q (q_move) (k := ?_)
  refine JL_inl (args := [(Value.pointer (some ⟨r3, 0, none⟩))]) (c_callA Tryd.call27) Tryd.func27 Tryd.ntmps27 ?_
  refine J_seq ?_
  refine J_reg ?_
  refine JL_q (q_assign) (k := ?_)
  refine JL_nil ?_
  refine JX_seq ?_
  refine J_seq ?_
  refine J_reg ?_
  refine JL_q (q_load Tryd.isAgg3) (k := ?_)
  refine JL_q (q_geq) (k := ?_)
  refine JL_q (q_move) (k := ?_)
  refine JL_dec 4 rfl (fun hq2 => ?_) (fun hq2 => ?_)
  rotate_left
  · refine JL_skips 2 rfl ?_
    refine JL_q (q_pickF) (k := ?_)
    refine JL_q (q_assign) (k := ?_)
    refine JL_nil ?_
    refine JX_seq ?_
    refine J_ret ?_
    refine JX_retI Tryd.results27 (Res.tmp rfl Res.nil) ?_
    refine JL_nil ?_
    refine JX_seq ?_
    refine J_false rfl ?_
    refine J_skip ?_
    refine JX_seq ?_
    refine J_seq ?_
    refine J_reg ?_
    refine JL_q (q_move) (k := ?_)
    refine JL_q (q_assign) (k := ?_)
    refine JL_nil ?_
    refine JX_seq ?_
    refine J_ret ?_
    refine JX_retI Tryd.results26 (Res.tmp rfl Res.nil) ?_
    refine JL_q (q_assign) (k := ?_)
    refine JL_nil ?_
    refine JX_seq ?_
    refine J_seq ?_
    refine J_reg ?_
    refine JL_q (q_move) (k := ?_)
    refine JL_q (q_neS (u := (Value.iface 130 (.pointer (some ea0)))) (v := Value.nilIface) (b := true) (fun w => by kernel_rfl)) (k := ?_)
    refine JL_nil ?_
    refine JX_seq ?_
    refine J_true rfl ?_
    refine J_seq ?_
    refine J_reg ?_
    refine JL_q (q_move) (k := ?_)
    refine JL_inl (args := [(Value.iface 130 (.pointer (some ea0)))]) (c_callA Tryd.call22) Tryd.func22 Tryd.ntmps22 ?_
    refine J_seq ?_
    refine J_reg ?_
    refine JL_q (q_assign) (k := ?_)
    refine JL_nil ?_
    refine JX_seq ?_
    refine J_seq ?_
    refine J_block ?_
    refine J_seq ?_
    refine J_reg ?_
    refine JL_q (q_move) (k := ?_)
    obtain ⟨Thgl13, fhgl13, hgl13⟩ := hE.v1
    refine JL_q (q_loadB Tryd.isAgg37 hgl13) (k := ?_)
    refine JL_v (args := [(Value.iface 130 (.pointer (some ea0))), (Value.iface 130 (.pointer (some ea1)))]) (c_callA Tryd.call39) (fun w1 hw1 => is_other_v w1 hE.n0_1 (hE.ext hw1.ext_out).b0 (hE.ext hw1.ext_out).b1) (k := ?_)
    refine JL_q (q_assign) (k := ?_)
    refine JL_nil ?_
    refine JX_seq ?_
    refine J_false rfl ?_
    refine J_seq ?_
    refine J_reg ?_
    refine JL_q (q_move) (k := ?_)
    obtain ⟨Thgl14, fhgl14, hgl14⟩ := hE.v0
    refine JL_q (q_loadB Tryd.isAgg37 hgl14) (k := ?_)
    refine JL_v (args := [(Value.iface 130 (.pointer (some ea0))), (Value.iface 130 (.pointer (some ea0)))]) (c_callA Tryd.call39) (fun w1 hw1 => is_same_v w1) (k := ?_)
    refine JL_q (q_assign) (k := ?_)
    refine JL_nil ?_
    refine JX_seq ?_
    refine J_true rfl ?_
    refine J_seq ?_
    refine J_reg ?_
    refine JL_q (q_assign) (k := ?_)
    refine JL_nil ?_
    refine JX_seq ?_
    refine J_ret ?_
    refine JX_block_ret ?_
    refine JX_seq_ret ?_
    refine JX_retI Tryd.results22 (Res.tmp rfl Res.nil) ?_
    refine JL_q (q_assign) (k := ?_)
    refine JL_q (q_assign) (k := ?_)
    refine JL_nil ?_
    refine JX_seq ?_
    refine J_ret ?_
    refine JX_seq_ret ?_
    refine JX_block_ret ?_
    refine JX_seq_ret ?_
    refine JX_inv_ret ?_
    refine JX_block_ret ?_
    refine JX_seq_ret ?_
    refine JX_ret Tryd.results15 (Res.tmp rfl (Res.tmp rfl Res.nil)) (fun w1 hw1 => ?_)
    exact ⟨(by rw [((hF.neg hq2)).eq] <;> first | rfl | (simp only [List.length_set] <;> rfl)), hw1.ext_out⟩
  refine JL_qg (q_load Tryd.isAgg3) (k := ?_)
  refine JL_qg (q_leq) (k := ?_)
  refine JL_q (q_pickT) (k := ?_)
  refine JL_q (q_assign) (k := ?_)
  refine JL_nil ?_
  refine JX_seq ?_
  refine J_ret ?_
  refine JX_retI Tryd.results27 (Res.tmp rfl Res.nil) ?_
  refine JL_nil ?_
  refine JX_seq ?_
  refine J_dec rfl (fun hq3 => ?_) (fun hq3 => ?_)
  rotate_left
  · refine J_skip ?_
    refine JX_seq ?_
    refine J_seq ?_
    refine J_reg ?_
    refine JL_q (q_move) (k := ?_)
    refine JL_q (q_assign) (k := ?_)
    refine JL_nil ?_
    refine JX_seq ?_
    refine J_ret ?_
    refine JX_retI Tryd.results26 (Res.tmp rfl Res.nil) ?_
    refine JL_q (q_assign) (k := ?_)
    refine JL_nil ?_
    refine JX_seq ?_
    refine J_seq ?_
    refine J_reg ?_
    refine JL_q (q_move) (k := ?_)
    refine JL_q (q_neS (u := (Value.iface 130 (.pointer (some ea0)))) (v := Value.nilIface) (b := true) (fun w => by kernel_rfl)) (k := ?_)
    refine JL_nil ?_
    refine JX_seq ?_
    refine J_true rfl ?_
    refine J_seq ?_
    refine J_reg ?_
    refine JL_q (q_move) (k := ?_)
    refine JL_inl (args := [(Value.iface 130 (.pointer (some ea0)))]) (c_callA Tryd.call22) Tryd.func22 Tryd.ntmps22 ?_
    refine J_seq ?_
    refine J_reg ?_
    refine JL_q (q_assign) (k := ?_)
    refine JL_nil ?_
    refine JX_seq ?_
    refine J_seq ?_
    refine J_block ?_
    refine J_seq ?_
    refine J_reg ?_
    refine JL_q (q_move) (k := ?_)
    obtain ⟨Thgl11, fhgl11, hgl11⟩ := hE.v1
    refine JL_q (q_loadB Tryd.isAgg37 hgl11) (k := ?_)
    refine JL_v (args := [(Value.iface 130 (.pointer (some ea0))), (Value.iface 130 (.pointer (some ea1)))]) (c_callA Tryd.call39) (fun w1 hw1 => is_other_v w1 hE.n0_1 (hE.ext hw1.ext_out).b0 (hE.ext hw1.ext_out).b1) (k := ?_)
    refine JL_q (q_assign) (k := ?_)
    refine JL_nil ?_
    refine JX_seq ?_
    refine J_false rfl ?_
    refine J_seq ?_
    refine J_reg ?_
    refine JL_q (q_move) (k := ?_)
    obtain ⟨Thgl12, fhgl12, hgl12⟩ := hE.v0
    refine JL_q (q_loadB Tryd.isAgg37 hgl12) (k := ?_)
    refine JL_v (args := [(Value.iface 130 (.pointer (some ea0))), (Value.iface 130 (.pointer (some ea0)))]) (c_callA Tryd.call39) (fun w1 hw1 => is_same_v w1) (k := ?_)
    refine JL_q (q_assign) (k := ?_)
    refine JL_nil ?_
    refine JX_seq ?_
    refine J_true rfl ?_
    refine J_seq ?_
    refine J_reg ?_
    refine JL_q (q_assign) (k := ?_)
    refine JL_nil ?_
    refine JX_seq ?_
    refine J_ret ?_
    refine JX_block_ret ?_
    refine JX_seq_ret ?_
    refine JX_retI Tryd.results22 (Res.tmp rfl Res.nil) ?_
    refine JL_q (q_assign) (k := ?_)
    refine JL_q (q_assign) (k := ?_)
    refine JL_nil ?_
    refine JX_seq ?_
    refine J_ret ?_
    refine JX_seq_ret ?_
    refine JX_block_ret ?_
    refine JX_seq_ret ?_
    refine JX_inv_ret ?_
    refine JX_block_ret ?_
    refine JX_seq_ret ?_
    refine JX_ret Tryd.results15 (Res.tmp rfl (Res.tmp rfl Res.nil)) (fun w1 hw1 => ?_)
    exact ⟨(by rw [(((hF.pos hq2).neg hq3)).eq] <;> first | rfl | (simp only [List.length_set] <;> rfl)), hw1.ext_out⟩
  refine J_seq ?_
  refine J_reg ?_
  refine JL_q (q_assign) (k := ?_)
  refine JL_nil ?_
  refine JX_seq ?_
  refine J_ret ?_
  refine JX_seq_ret ?_
  refine JX_retI Tryd.results26 (Res.tmp rfl Res.nil) ?_
  refine JL_q (q_assign) (k := ?_)
  refine JL_nil ?_
  refine JX_seq ?_
  refine J_seq ?_
  refine J_reg ?_
  refine JL_q (q_move) (k := ?_)
  refine JL_q (q_neS (u := Value.nilIface) (v := Value.nilIface) (b := false) (fun w => by kernel_rfl)) (k := ?_)
  refine JL_nil ?_
  refine JX_seq ?_
  refine J_false rfl ?_
  refine J_skip ?_
  refine JX_seq ?_
  refine J_reg ?_
  refine JL_q (q_move) (k := ?_)
  refine JL_q (q_load Tryd.isAgg3) (k := ?_)
  refine JL_v (args := [(Value.int .i64 ((([a, b] : List Int).getD 0 default)))]) (c_callA Tryd.call28) (fun w1 hw1 => Itoa_ok w1 (n := (([a, b] : List Int).getD 0 default)) (hG := hG.ext hw1.ext_out) (hn := by first | omega | (simp only [List.length_append, List.length_take, List.length_drop, List.length_set, List.length_replicate, List.length_cons, List.length_nil, List.length_map, toS_length, toI_length]; omega) | (simp only [List.length_append, List.length_take, List.length_drop, List.length_set, List.length_replicate, List.length_cons, List.length_nil, List.length_map, toS_length, toI_length] at *; omega))) (k := ?_)
  have hil_64779 := itoa_len (n := (([a, b] : List Int).getD 0 default)) (by omega)
  refine JL_a noMk (a_bslice (l := [_]) Tryd.runUnderlying42 Tryd.sizeOf9 Tryd.zeroValue9) (k := fun r4 hr4 => ?_)
  refine JL_append (([([99, 104, 97, 108, 108, 101, 110, 103, 101] : Str)] : List Str) ++ ([(Lib.itoa (([a, b] : List Int).getD 0 default))] : List Str)) rfl TY_9 Tryd.underlying42 eS_ok (OwnB.mk (xs := ([([99, 104, 97, 108, 108, 101, 110, 103, 101] : Str)] : List Str)) rfl rfl eS_ok) ((List.Perm.cons _ ((List.Perm.cons _ ((List.Perm.cons _ (List.Perm.refl _)).trans (List.Perm.swap _ _ _))).trans (List.Perm.swap _ _ _))).trans (List.Perm.swap _ _ _)) (SlJ.lit (xs := ([(Lib.itoa (([a, b] : List Int).getD 0 default))] : List Str)) eS_ok) ⟨by omega, by omega⟩ (n := 1) (m := 1) (k := fun ax1 cx1 Bx1 hox1 => ?_)
  have hal1 : (([([99, 104, 97, 108, 108, 101, 110, 103, 101] : Str)] : List Str) ++ ([(Lib.itoa (([a, b] : List Int).getD 0 default))] : List Str)).length = 1 + 1 := by first | rfl | simp
  refine JL_q (q_assign) (k := ?_)
  refine JL_nil ?_
  refine JX_block ?_
  refine JX_seq ?_
  refine J_reg ?_
  refine JL_q (q_add) (k := ?_)
  refine JL_q (q_move) (k := ?_)
  refine JL_nil ?_
  refine JX_again ?_
  refine J_seq ?_
  refine J_reg ?_
  refine JL_q (q_lss) (k := ?_)
  refine JL_nil ?_
  refine JX_seq ?_
  refine J_seq ?_
  refine J_true rfl ?_
  refine J_skip ?_
  refine JX_seq ?_
  refine J_seq ?_
  refine J_block ?_
  refine J_seq ?_
  refine J_reg ?_
  refine JL_q (q_idx (n := 2) Tryd.runUnderlying43 Tryd.sizeOf3 1 (SlJ.lit (xs := ([a, b] : List Int)) eI_ok) (gD (by first | omega | (simp only [List.length_set]; omega) | (simp only [List.length_append, List.length_take, List.length_drop, List.length_set, List.length_replicate, List.length_cons, List.length_nil, List.length_map, toS_length, toI_length]; omega))) (by first | rfl | simp)) (k := ?_)
  refine JL_q (q_loadE Tryd.isAgg3 1 0 (SlJ.lit (xs := ([a, b] : List Int)) eI_ok) (gD (by first | omega | (simp only [List.length_set]; omega) | (simp only [List.length_append, List.length_take, List.length_drop, List.length_set, List.length_replicate, List.length_cons, List.length_nil, List.length_map, toS_length, toI_length]; omega)))) (k := ?_)
  refine JL_a noMk (a_alloc (l := [_]) Tryd.zeroValue3) (k := fun r5 hr5 => ?_)
  refine JL_s (w_store (l' := [_]) Tryd.sizeOf3) (k := ?_)
  refine JL_nil ?_
  refine JX_seq ?_
  refine J_seq ?_
  refine J_seq ?_
  refine J_reg ?_
  refine JL_q (q_func) (k := ?_)
  obtain ⟨Thgl4, fhgl4, hgl4⟩ := hE.v0
  refine JL_q (q_loadB Tryd.isAgg37 hgl4) (k := ?_)
  refine JL_inl (args := [(Value.func (.func 27) [].toArray [(Value.pointer (some ⟨r5, 0, none⟩))].toArray), (Value.iface 130 (.pointer (some ea0)))]) (c_callA Tryd.call26) Tryd.func26 Tryd.ntmps26 ?_
  refine J_seq ?_
  refine J_reg ?_
  refine JL_q (q_assign) (k := ?_)
  refine JL_nil ?_
  refine JX_seq ?_
  refine J_seq ?_
  refine J_seq ?_
  refine J_reg ?_
  refine JL_q (q_move) (k := ?_)
  refine JL_inl (args := [(Value.pointer (some ⟨r5, 0, none⟩))]) (c_callA Tryd.call27) Tryd.func27 Tryd.ntmps27 ?_
  refine J_seq ?_
  refine J_reg ?_
  refine JL_q (q_assign) (k := ?_)
  refine JL_nil ?_
  refine JX_seq ?_
  refine J_seq ?_
  refine J_reg ?_
  refine JL_q (q_load Tryd.isAgg3) (k := ?_)
  refine JL_q (q_geq) (k := ?_)
  refine JL_q (q_move) (k := ?_)
  refine JL_dec 4 rfl (fun hq5 => ?_) (fun hq5 => ?_)
  rotate_left
  · refine JL_skips 2 rfl ?_
    refine JL_q (q_pickF) (k := ?_)
    refine JL_q (q_assign) (k := ?_)
    refine JL_nil ?_
    refine JX_seq ?_
    refine J_ret ?_
    refine JX_retI Tryd.results27 (Res.tmp rfl Res.nil) ?_
    refine JL_nil ?_
    refine JX_seq ?_
    refine J_false rfl ?_
    refine J_skip ?_
    refine JX_seq ?_
    refine J_seq ?_
    refine J_reg ?_
    refine JL_q (q_move) (k := ?_)
    refine JL_q (q_assign) (k := ?_)
    refine JL_nil ?_
    refine JX_seq ?_
    refine J_ret ?_
    refine JX_retI Tryd.results26 (Res.tmp rfl Res.nil) ?_
    refine JL_q (q_assign) (k := ?_)
    refine JL_nil ?_
    refine JX_seq ?_
    refine J_seq ?_
    refine J_reg ?_
    refine JL_q (q_move) (k := ?_)
    refine JL_q (q_neS (u := (Value.iface 130 (.pointer (some ea0)))) (v := Value.nilIface) (b := true) (fun w => by kernel_rfl)) (k := ?_)
    refine JL_nil ?_
    refine JX_seq ?_
    refine J_true rfl ?_
    refine J_seq ?_
    refine J_reg ?_
    refine JL_q (q_move) (k := ?_)
    refine JL_inl (args := [(Value.iface 130 (.pointer (some ea0)))]) (c_callA Tryd.call22) Tryd.func22 Tryd.ntmps22 ?_
    refine J_seq ?_
    refine J_reg ?_
    refine JL_q (q_assign) (k := ?_)
    refine JL_nil ?_
    refine JX_seq ?_
    refine J_seq ?_
    refine J_block ?_
    refine J_seq ?_
    refine J_reg ?_
    refine JL_q (q_move) (k := ?_)
    obtain ⟨Thgl9, fhgl9, hgl9⟩ := hE.v1
    refine JL_q (q_loadB Tryd.isAgg37 hgl9) (k := ?_)
    refine JL_v (args := [(Value.iface 130 (.pointer (some ea0))), (Value.iface 130 (.pointer (some ea1)))]) (c_callA Tryd.call39) (fun w1 hw1 => is_other_v w1 hE.n0_1 (hE.ext hw1.ext_out).b0 (hE.ext hw1.ext_out).b1) (k := ?_)
    refine JL_q (q_assign) (k := ?_)
    refine JL_nil ?_
    refine JX_seq ?_
    refine J_false rfl ?_
    refine J_seq ?_
    refine J_reg ?_
    refine JL_q (q_move) (k := ?_)
    obtain ⟨Thgl10, fhgl10, hgl10⟩ := hE.v0
    refine JL_q (q_loadB Tryd.isAgg37 hgl10) (k := ?_)
    refine JL_v (args := [(Value.iface 130 (.pointer (some ea0))), (Value.iface 130 (.pointer (some ea0)))]) (c_callA Tryd.call39) (fun w1 hw1 => is_same_v w1) (k := ?_)
    refine JL_q (q_assign) (k := ?_)
    refine JL_nil ?_
    refine JX_seq ?_
    refine J_true rfl ?_
    refine J_seq ?_
    refine J_reg ?_
    refine JL_q (q_assign) (k := ?_)
    refine JL_nil ?_
    refine JX_seq ?_
    refine J_ret ?_
    refine JX_block_ret ?_
    refine JX_seq_ret ?_
    refine JX_retI Tryd.results22 (Res.tmp rfl Res.nil) ?_
    refine JL_q (q_assign) (k := ?_)
    refine JL_q (q_assign) (k := ?_)
    refine JL_nil ?_
    refine JX_seq ?_
    refine J_ret ?_
    refine JX_seq_ret ?_
    refine JX_block_ret ?_
    refine JX_seq_ret ?_
    refine JX_inv_ret ?_
    refine JX_block_ret ?_
    refine JX_seq_ret ?_
    refine JX_ret Tryd.results15 (Res.tmp rfl (Res.tmp rfl Res.nil)) (fun w1 hw1 => ?_)
    exact ⟨(by rw [((((hF.pos hq2).pos hq3).neg hq5)).eq] <;> first | rfl | (simp only [List.length_set] <;> rfl)), hw1.ext_out⟩
  refine JL_qg (q_load Tryd.isAgg3) (k := ?_)
  refine JL_qg (q_leq) (k := ?_)
  refine JL_q (q_pickT) (k := ?_)
  refine JL_q (q_assign) (k := ?_)
  refine JL_nil ?_
  refine JX_seq ?_
  refine J_ret ?_
  refine JX_retI Tryd.results27 (Res.tmp rfl Res.nil) ?_
  refine JL_nil ?_
  refine JX_seq ?_
  refine J_dec rfl (fun hq6 => ?_) (fun hq6 => ?_)
  · refine J_seq ?_
    refine J_reg ?_
    refine JL_q (q_assign) (k := ?_)
    refine JL_nil ?_
    refine JX_seq ?_
    refine J_ret ?_
    refine JX_seq_ret ?_
    refine JX_retI Tryd.results26 (Res.tmp rfl Res.nil) ?_
    refine JL_q (q_assign) (k := ?_)
    refine JL_nil ?_
    refine JX_seq ?_
    refine J_seq ?_
    refine J_reg ?_
    refine JL_q (q_move) (k := ?_)
    refine JL_q (q_neS (u := Value.nilIface) (v := Value.nilIface) (b := false) (fun w => by kernel_rfl)) (k := ?_)
    refine JL_nil ?_
    refine JX_seq ?_
    refine J_false rfl ?_
    refine J_skip ?_
    refine JX_seq ?_
    refine J_reg ?_
    refine JL_q (q_move) (k := ?_)
    refine JL_q (q_load Tryd.isAgg3) (k := ?_)
    refine JL_v (args := [(Value.int .i64 ((([a, b] : List Int).getD 1 default)))]) (c_callA Tryd.call28) (fun w1 hw1 => Itoa_ok w1 (n := (([a, b] : List Int).getD 1 default)) (hG := hG.ext hw1.ext_out) (hn := by first | omega | (simp only [List.length_append, List.length_take, List.length_drop, List.length_set, List.length_replicate, List.length_cons, List.length_nil, List.length_map, toS_length, toI_length]; omega) | (simp only [List.length_append, List.length_take, List.length_drop, List.length_set, List.length_replicate, List.length_cons, List.length_nil, List.length_map, toS_length, toI_length] at *; omega))) (k := ?_)
    have hil_94773 := itoa_len (n := (([a, b] : List Int).getD 1 default)) (by omega)
    refine JL_a noMk (a_bslice (l := [_]) Tryd.runUnderlying42 Tryd.sizeOf9 Tryd.zeroValue9) (k := fun r6 hr6 => ?_)
    refine JL_append ((([([99, 104, 97, 108, 108, 101, 110, 103, 101] : Str)] : List Str) ++ ([(Lib.itoa (([a, b] : List Int).getD 0 default))] : List Str)) ++ ([(Lib.itoa (([a, b] : List Int).getD 1 default))] : List Str)) rfl TY_9 Tryd.underlying42 eS_ok hox1 ((List.Perm.cons _ ((List.Perm.cons _ (List.Perm.refl _)).trans List.perm_middle.symm)).trans List.perm_middle.symm) (SlJ.lit (xs := ([(Lib.itoa (([a, b] : List Int).getD 1 default))] : List Str)) eS_ok) ⟨by omega, by omega⟩ (n := (([([99, 104, 97, 108, 108, 101, 110, 103, 101] : Str)] : List Str) ++ ([(Lib.itoa (([a, b] : List Int).getD 0 default))] : List Str)).length) (m := 1) (k := fun ax2 cx2 Bx2 hox2 => ?_)
    have hal2 : ((([([99, 104, 97, 108, 108, 101, 110, 103, 101] : Str)] : List Str) ++ ([(Lib.itoa (([a, b] : List Int).getD 0 default))] : List Str)) ++ ([(Lib.itoa (([a, b] : List Int).getD 1 default))] : List Str)).length = (([([99, 104, 97, 108, 108, 101, 110, 103, 101] : Str)] : List Str) ++ ([(Lib.itoa (([a, b] : List Int).getD 0 default))] : List Str)).length + 1 := by first | rfl | simp
    refine JL_q (q_assign) (k := ?_)
    refine JL_nil ?_
    refine JX_block ?_
    refine JX_seq ?_
    refine J_reg ?_
    refine JL_q (q_add) (k := ?_)
    refine JL_q (q_move) (k := ?_)
    refine JL_nil ?_
    refine JX_again ?_
    refine J_seq ?_
    refine J_reg ?_
    refine JL_q (q_lss) (k := ?_)
    refine JL_nil ?_
    refine JX_seq ?_
    refine J_seq ?_
    refine J_false rfl ?_
    refine J_exit ?_
    refine JX_seq_exit ?_
    refine JX_inv_exit ?_
    refine JX_block_hit ?_
    refine JX_seq ?_
    refine J_seq ?_
    refine J_reg ?_
    refine JL_q (q_move) (k := ?_)
    refine JL_v (args := [(Value.slice (ax2) (((([([99, 104, 97, 108, 108, 101, 110, 103, 101] : Str)] : List Str) ++ ([(Lib.itoa (([a, b] : List Int).getD 0 default))] : List Str)) ++ ([(Lib.itoa (([a, b] : List Int).getD 1 default))] : List Str)).length) (cx2)), (Value.string (bs ([32] : Str)))]) (c_callA Tryd.call29) (fun w1 hw1 => Join_ok w1 (h_xs := (hox2.slj eS_ok) w1 hw1) (xs := ((([([99, 104, 97, 108, 108, 101, 110, 103, 101] : Str)] : List Str) ++ ([(Lib.itoa (([a, b] : List Int).getD 0 default))] : List Str)) ++ ([(Lib.itoa (([a, b] : List Int).getD 1 default))] : List Str))) (sep := ([32] : Str)) (hc := hox2.le) (hn := by first | omega | (simp only [List.length_append, List.length_take, List.length_drop, List.length_set, List.length_replicate, List.length_cons, List.length_nil, List.length_map, toS_length, toI_length]; omega) | (simp only [List.length_append, List.length_take, List.length_drop, List.length_set, List.length_replicate, List.length_cons, List.length_nil, List.length_map, toS_length, toI_length] at *; omega)) (hl := Nat.le_trans (show (Lib.join ((([([99, 104, 97, 108, 108, 101, 110, 103, 101] : Str)] : List Str) ++ ([(Lib.itoa (([a, b] : List Int).getD 0 default))] : List Str)) ++ ([(Lib.itoa (([a, b] : List Int).getD 1 default))] : List Str)) ([32] : Str)).length ≤ 100000 by (simp only [List.cons_append, List.nil_append]; rw [join_three]; simp only [List.length_cons, List.length_nil]; omega)) (by decide))) (k := ?_)
    have hjl_59522 : (Lib.join ((([([99, 104, 97, 108, 108, 101, 110, 103, 101] : Str)] : List Str) ++ ([(Lib.itoa (([a, b] : List Int).getD 0 default))] : List Str)) ++ ([(Lib.itoa (([a, b] : List Int).getD 1 default))] : List Str)) ([32] : Str)).length ≤ 100000 := by (simp only [List.cons_append, List.nil_append]; rw [join_three]; simp only [List.length_cons, List.length_nil]; omega)
    refine JL_v (args := [(Value.string (bs (Lib.join ((([([99, 104, 97, 108, 108, 101, 110, 103, 101] : Str)] : List Str) ++ ([(Lib.itoa (([a, b] : List Int).getD 0 default))] : List Str)) ++ ([(Lib.itoa (([a, b] : List Int).getD 1 default))] : List Str)) ([32] : Str))))]) (c_callA Tryd.call19) (fun w1 hw1 => sSum_ok w1 (s := (Lib.join ((([([99, 104, 97, 108, 108, 101, 110, 103, 101] : Str)] : List Str) ++ ([(Lib.itoa (([a, b] : List Int).getD 0 default))] : List Str)) ++ ([(Lib.itoa (([a, b] : List Int).getD 1 default))] : List Str)) ([32] : Str))) (n_s := by first | omega | (simp only [List.length_append, List.length_take, List.length_drop, List.length_set, List.length_replicate, List.length_cons, List.length_nil, List.length_map, toS_length, toI_length]; omega) | (simp only [List.length_append, List.length_take, List.length_drop, List.length_set, List.length_replicate, List.length_cons, List.length_nil, List.length_map, toS_length, toI_length] at *; omega) | decide) (hG := hG.ext hw1.ext_out)) (k := ?_)
    have hsum_34842 := sSum_len (Lib.join ((([([99, 104, 97, 108, 108, 101, 110, 103, 101] : Str)] : List Str) ++ ([(Lib.itoa (([a, b] : List Int).getD 0 default))] : List Str)) ++ ([(Lib.itoa (([a, b] : List Int).getD 1 default))] : List Str)) ([32] : Str))
    refine JL_q (q_assign) (k := ?_)
    refine JL_q (q_assign) (k := ?_)
    refine JL_nil ?_
    refine JX_seq ?_
    refine J_ret ?_
    refine JX_ret Tryd.results15 (Res.tmp rfl (Res.tmp rfl Res.nil)) (fun w1 hw1 => ?_)
    exact ⟨(by rw [(((((hF.pos hq2).pos hq3).pos hq5).pos hq6)).eq] <;> first | rfl | (simp only [List.length_set] <;> rfl)), hw1.ext_out⟩
  refine J_skip ?_
  refine JX_seq ?_
  refine J_seq ?_
  refine J_reg ?_
  refine JL_q (q_move) (k := ?_)
  refine JL_q (q_assign) (k := ?_)
  refine JL_nil ?_
  refine JX_seq ?_
  refine J_ret ?_
  refine JX_retI Tryd.results26 (Res.tmp rfl Res.nil) ?_
  refine JL_q (q_assign) (k := ?_)
  refine JL_nil ?_
  refine JX_seq ?_
  refine J_seq ?_
  refine J_reg ?_
  refine JL_q (q_move) (k := ?_)
  refine JL_q (q_neS (u := (Value.iface 130 (.pointer (some ea0)))) (v := Value.nilIface) (b := true) (fun w => by kernel_rfl)) (k := ?_)
  refine JL_nil ?_
  refine JX_seq ?_
  refine J_true rfl ?_
  refine J_seq ?_
  refine J_reg ?_
  refine JL_q (q_move) (k := ?_)
  refine JL_inl (args := [(Value.iface 130 (.pointer (some ea0)))]) (c_callA Tryd.call22) Tryd.func22 Tryd.ntmps22 ?_
  refine J_seq ?_
  refine J_reg ?_
  refine JL_q (q_assign) (k := ?_)
  refine JL_nil ?_
  refine JX_seq ?_
  refine J_seq ?_
  refine J_block ?_
  refine J_seq ?_
  refine J_reg ?_
  refine JL_q (q_move) (k := ?_)
  obtain ⟨Thgl7, fhgl7, hgl7⟩ := hE.v1
  refine JL_q (q_loadB Tryd.isAgg37 hgl7) (k := ?_)
  refine JL_v (args := [(Value.iface 130 (.pointer (some ea0))), (Value.iface 130 (.pointer (some ea1)))]) (c_callA Tryd.call39) (fun w1 hw1 => is_other_v w1 hE.n0_1 (hE.ext hw1.ext_out).b0 (hE.ext hw1.ext_out).b1) (k := ?_)
  refine JL_q (q_assign) (k := ?_)
  refine JL_nil ?_
  refine JX_seq ?_
  refine J_false rfl ?_
  refine J_seq ?_
  refine J_reg ?_
  refine JL_q (q_move) (k := ?_)
  obtain ⟨Thgl8, fhgl8, hgl8⟩ := hE.v0
  refine JL_q (q_loadB Tryd.isAgg37 hgl8) (k := ?_)
  refine JL_v (args := [(Value.iface 130 (.pointer (some ea0))), (Value.iface 130 (.pointer (some ea0)))]) (c_callA Tryd.call39) (fun w1 hw1 => is_same_v w1) (k := ?_)
  refine JL_q (q_assign) (k := ?_)
  refine JL_nil ?_
  refine JX_seq ?_
  refine J_true rfl ?_
  refine J_seq ?_
  refine J_reg ?_
  refine JL_q (q_assign) (k := ?_)
  refine JL_nil ?_
  refine JX_seq ?_
  refine J_ret ?_
  refine JX_block_ret ?_
  refine JX_seq_ret ?_
  refine JX_retI Tryd.results22 (Res.tmp rfl Res.nil) ?_
  refine JL_q (q_assign) (k := ?_)
  refine JL_q (q_assign) (k := ?_)
  refine JL_nil ?_
  refine JX_seq ?_
  refine J_ret ?_
  refine JX_seq_ret ?_
  refine JX_block_ret ?_
  refine JX_seq_ret ?_
  refine JX_inv_ret ?_
  refine JX_block_ret ?_
  refine JX_seq_ret ?_
  refine JX_ret Tryd.results15 (Res.tmp rfl (Res.tmp rfl Res.nil)) (fun w1 hw1 => ?_)
  exact ⟨(by rw [(((((hF.pos hq2).pos hq3).pos hq5).neg hq6)).eq] <;> first | rfl | (simp only [List.length_set] <;> rfl)), hw1.ext_out⟩

theorem mAns_ok (w : World) {ea0 : Addr} {ea1 : Addr} {key : Str} {challenge : Str} {name : Str} (n_name : name.length ≤ 10000) (hG : Gl w) (hE : Er w ea0 ea1) : Val Tryd.prog 17 [(Value.string (bs key)), (Value.string (bs challenge)), (Value.string (bs name))] w (Value.tuple [(Value.string (bs ((mAns key challenge name).1))), (Value.int .i64 (((mAns key challenge name).2)))].toArray) := by
  have hF := Is.refl (mAns key challenge name)
  refine enter Tryd.func17 Tryd.ntmps17 (h := ?_)
  refine J_seq ?_
  refine J_reg ?_
  refine JL_a noMk (a_box (l := [_])) (k := fun r1 hr1 => ?_)
  refine JL_q (q_assign) (k := ?_)
  refine JL_q (q_assign) (k := ?_)
  refine JL_nil ?_
  refine JX_seq ?_
  refine J_seq ?_
  refine J_reg ?_
  refine JL_q (q_move) (k := ?_)
  refine JL_inl (args := [(Value.string (bs key))]) (c_callA Tryd.call21) Tryd.func21 Tryd.ntmps21 ?_
  refine J_seq ?_
  refine J_reg ?_
  refine JL_a noMk (a_box (l := [_])) (k := fun r2 hr2 => ?_)
  refine JL_q (q_assign) (k := ?_)
  refine JL_nil ?_
  refine JX_seq ?_
  refine J_seq ?_
  refine J_reg ?_
  refine JL_q (q_func) (k := ?_)
  obtain ⟨Thgl1, fhgl1, hgl1⟩ := hE.v1
  refine JL_q (q_loadB Tryd.isAgg37 hgl1) (k := ?_)
  refine JL_inl (args := [(Value.func (.func 38) [].toArray [(Value.pointer (some ⟨r2, 0, none⟩))].toArray), (Value.iface 130 (.pointer (some ea1)))]) (c_callA Tryd.call26) Tryd.func26 Tryd.ntmps26 ?_
  refine J_seq ?_
  refine J_reg ?_
  refine JL_q (q_assign) (k := ?_)
  refine JL_nil ?_
  refine JX_seq ?_
  refine J_seq ?_
  refine J_seq ?_
  refine J_reg ?_
  refine JL_q (q_move) (k := ?_)
  refine JL_inl (args := [(Value.pointer (some ⟨r2, 0, none⟩))]) (c_callA Tryd.call38) Tryd.func38 Tryd.ntmps38 ?_
  refine J_seq ?_
  refine J_reg ?_
  refine JL_q (q_assign) (k := ?_)
  refine JL_nil ?_
  refine JX_seq ?_
  refine J_seq ?_
  refine J_reg ?_
  refine JL_q (q_load Tryd.isAgg9) (k := ?_)
  refine JL_v (args := [(Value.string (bs key))]) (c_callA Tryd.call12) (fun w1 hw1 => mRight_ok w1 (key := key)) (k := ?_)
  refine JL_q (q_assign) (k := ?_)
  refine JL_nil ?_
  refine JX_seq ?_
  refine J_ret ?_
  refine JX_retI Tryd.results38 (Res.tmp rfl Res.nil) ?_
  refine JL_nil ?_
  refine JX_seq ?_
  refine J_cond rfl (fun hq2 => ?_) (fun hq2 => ?_)
  rotate_left
  · refine J_skip ?_
    refine JX_seq ?_
    refine J_seq ?_
    refine J_reg ?_
    refine JL_q (q_move) (k := ?_)
    refine JL_q (q_assign) (k := ?_)
    refine JL_nil ?_
    refine JX_seq ?_
    refine J_ret ?_
    refine JX_retI Tryd.results26 (Res.tmp rfl Res.nil) ?_
    refine JL_q (q_assign) (k := ?_)
    refine JL_nil ?_
    refine JX_seq ?_
    refine J_ret ?_
    refine JX_retI Tryd.results21 (Res.tmp rfl Res.nil) ?_
    refine JL_q (q_assign) (k := ?_)
    refine JL_nil ?_
    refine JX_seq ?_
    refine J_seq ?_
    refine J_seq ?_
    refine J_reg ?_
    refine JL_q (q_move) (k := ?_)
    refine JL_q (q_eqS (u := (Value.iface 130 (.pointer (some ea1)))) (v := Value.nilIface) (b := false) (fun w => by kernel_rfl)) (k := ?_)
    refine JL_nil ?_
    refine JX_seq ?_
    refine J_false rfl ?_
    refine J_skip ?_
    refine JX_seq ?_
    refine J_seq ?_
    refine J_seq ?_
    refine J_reg ?_
    refine JL_q (q_move) (k := ?_)
    refine JL_q (q_neS (u := (Value.iface 130 (.pointer (some ea1)))) (v := Value.nilIface) (b := true) (fun w => by kernel_rfl)) (k := ?_)
    refine JL_nil ?_
    refine JX_seq ?_
    refine J_true rfl ?_
    refine J_seq ?_
    refine J_reg ?_
    refine JL_q (q_move) (k := ?_)
    refine JL_inl (args := [(Value.iface 130 (.pointer (some ea1)))]) (c_callA Tryd.call22) Tryd.func22 Tryd.ntmps22 ?_
    refine J_seq ?_
    refine J_reg ?_
    refine JL_q (q_assign) (k := ?_)
    refine JL_nil ?_
    refine JX_seq ?_
    refine J_seq ?_
    refine J_block ?_
    refine J_seq ?_
    refine J_reg ?_
    refine JL_q (q_move) (k := ?_)
    obtain ⟨Thgl7, fhgl7, hgl7⟩ := hE.v1
    refine JL_q (q_loadB Tryd.isAgg37 hgl7) (k := ?_)
    refine JL_v (args := [(Value.iface 130 (.pointer (some ea1))), (Value.iface 130 (.pointer (some ea1)))]) (c_callA Tryd.call39) (fun w1 hw1 => is_same_v w1) (k := ?_)
    refine JL_q (q_assign) (k := ?_)
    refine JL_nil ?_
    refine JX_seq ?_
    refine J_true rfl ?_
    refine J_seq ?_
    refine J_reg ?_
    refine JL_q (q_assign) (k := ?_)
    refine JL_nil ?_
    refine JX_seq ?_
    refine J_ret ?_
    refine JX_block_ret ?_
    refine JX_seq_ret ?_
    refine JX_retI Tryd.results22 (Res.tmp rfl Res.nil) ?_
    refine JL_q (q_assign) (k := ?_)
    refine JL_q (q_assign) (k := ?_)
    refine JL_nil ?_
    refine JX_seq ?_
    refine J_ret ?_
    refine JX_seq_ret ?_
    refine JX_ret Tryd.results17 (Res.tmp rfl (Res.tmp rfl Res.nil)) (fun w1 hw1 => ?_)
    exact ⟨(by rw [((hF.f hq2)).eq] <;> first | rfl | (simp only [List.length_set] <;> rfl)), hw1.ext_out⟩
  refine J_seq ?_
  refine J_reg ?_
  refine JL_q (q_assign) (k := ?_)
  refine JL_nil ?_
  refine JX_seq ?_
  refine J_ret ?_
  refine JX_seq_ret ?_
  refine JX_retI Tryd.results26 (Res.tmp rfl Res.nil) ?_
  refine JL_q (q_assign) (k := ?_)
  refine JL_nil ?_
  refine JX_seq ?_
  refine J_ret ?_
  refine JX_retI Tryd.results21 (Res.tmp rfl Res.nil) ?_
  refine JL_q (q_assign) (k := ?_)
  refine JL_nil ?_
  refine JX_seq ?_
  refine J_seq ?_
  refine J_seq ?_
  refine J_reg ?_
  refine JL_q (q_move) (k := ?_)
  refine JL_q (q_eqS (u := Value.nilIface) (v := Value.nilIface) (b := true) (fun w => by kernel_rfl)) (k := ?_)
  refine JL_nil ?_
  refine JX_seq ?_
  refine J_true rfl ?_
  refine J_reg ?_
  refine JL_q (q_func) (k := ?_)
  obtain ⟨Thgl3, fhgl3, hgl3⟩ := hE.v0
  refine JL_q (q_loadB Tryd.isAgg37 hgl3) (k := ?_)
  refine JL_inl (args := [(Value.func (.func 31) [].toArray [(Value.pointer (some ⟨r1, 0, none⟩))].toArray), (Value.iface 130 (.pointer (some ea0)))]) (c_callA Tryd.call26) Tryd.func26 Tryd.ntmps26 ?_
  refine J_seq ?_
  refine J_reg ?_
  refine JL_q (q_assign) (k := ?_)
  refine JL_nil ?_
  refine JX_seq ?_
  refine J_seq ?_
  refine J_seq ?_
  refine J_reg ?_
  refine JL_q (q_move) (k := ?_)
  refine JL_inl (args := [(Value.pointer (some ⟨r1, 0, none⟩))]) (c_callA Tryd.call31) Tryd.func31 Tryd.ntmps31 ?_
  refine J_seq ?_
  refine J_reg ?_
  refine JL_q (q_assign) (k := ?_)
  refine JL_nil ?_
  refine JX_seq ?_
  refine J_seq ?_
  refine J_reg ?_
  refine JL_q (q_load Tryd.isAgg9) (k := ?_)
  refine JL_q (q_lenT Tryd.runUnderlying9) (k := ?_)
  refine JL_q (q_eql) (k := ?_)
  refine JL_q (q_assign) (k := ?_)
  refine JL_nil ?_
  refine JX_seq ?_
  refine J_ret ?_
  refine JX_retI Tryd.results31 (Res.tmp rfl Res.nil) ?_
  refine JL_nil ?_
  refine JX_seq ?_
  refine J_dec rfl (fun hq4 => ?_) (fun hq4 => ?_)
  · refine J_seq ?_
    refine J_reg ?_
    refine JL_q (q_assign) (k := ?_)
    refine JL_nil ?_
    refine JX_seq ?_
    refine J_ret ?_
    refine JX_seq_ret ?_
    refine JX_retI Tryd.results26 (Res.tmp rfl Res.nil) ?_
    refine JL_q (q_assign) (k := ?_)
    refine JL_nil ?_
    refine JX_seq ?_
    refine J_seq ?_
    refine J_seq ?_
    refine J_reg ?_
    refine JL_q (q_move) (k := ?_)
    refine JL_q (q_neS (u := Value.nilIface) (v := Value.nilIface) (b := false) (fun w => by kernel_rfl)) (k := ?_)
    refine JL_nil ?_
    refine JX_seq ?_
    refine J_false rfl ?_
    refine J_skip ?_
    refine JX_seq ?_
    refine J_seq ?_
    refine J_reg ?_
    refine JL_q (q_move) (k := ?_)
    refine JL_q (q_load Tryd.isAgg9) (k := ?_)
    refine JL_q (q_move) (k := ?_)
    refine JL_a noMk (a_bslice (l := [_, _]) Tryd.runUnderlying42 Tryd.sizeOf9 Tryd.zeroValue9) (k := fun r3 hr3 => ?_)
    refine JL_v (args := [(Value.string (bs key)), (Value.slice (some ⟨r3, 0, none⟩) (2) (2))]) (c_callA Tryd.call23) (fun w1 hw1 => mMac_ok w1 (key := key) (l := ([challenge, name] : List Str)) (h_l := (SlJ.lit (xs := ([challenge, name] : List Str)) eS_ok) w1 hw1) (n_l := by simp) (k_l := by simp) (hG := hG.ext hw1.ext_out) (hE := hE.ext hw1.ext_out) (hj := by first | (rw [join_two]; simp only [List.length_nil]; omega) | (rw [join_one]; omega))) (k := ?_)
    have hmm_714 := mMac_len key ([challenge, name] : List Str)
    refine JL_q (q_assign) (k := ?_)
    refine JL_q (q_assign) (k := ?_)
    refine JL_nil ?_
    refine JX_seq ?_
    refine J_ret ?_
    refine JX_ret Tryd.results17 (Res.tmp rfl (Res.tmp rfl Res.nil)) (fun w1 hw1 => ?_)
    exact ⟨(by rw [(((hF.t hq2).pos hq4)).eq] <;> first | rfl | (simp only [List.length_set] <;> rfl)), hw1.ext_out⟩
  refine J_skip ?_
  refine JX_seq ?_
  refine J_seq ?_
  refine J_reg ?_
  refine JL_q (q_move) (k := ?_)
  refine JL_q (q_assign) (k := ?_)
  refine JL_nil ?_
  refine JX_seq ?_
  refine J_ret ?_
  refine JX_retI Tryd.results26 (Res.tmp rfl Res.nil) ?_
  refine JL_q (q_assign) (k := ?_)
  refine JL_nil ?_
  refine JX_seq ?_
  refine J_seq ?_
  refine J_seq ?_
  refine J_reg ?_
  refine JL_q (q_move) (k := ?_)
  refine JL_q (q_neS (u := (Value.iface 130 (.pointer (some ea0)))) (v := Value.nilIface) (b := true) (fun w => by kernel_rfl)) (k := ?_)
  refine JL_nil ?_
  refine JX_seq ?_
  refine J_true rfl ?_
  refine J_seq ?_
  refine J_reg ?_
  refine JL_q (q_move) (k := ?_)
  refine JL_inl (args := [(Value.iface 130 (.pointer (some ea0)))]) (c_callA Tryd.call22) Tryd.func22 Tryd.ntmps22 ?_
  refine J_seq ?_
  refine J_reg ?_
  refine JL_q (q_assign) (k := ?_)
  refine JL_nil ?_
  refine JX_seq ?_
  refine J_seq ?_
  refine J_block ?_
  refine J_seq ?_
  refine J_reg ?_
  refine JL_q (q_move) (k := ?_)
  obtain ⟨Thgl5, fhgl5, hgl5⟩ := hE.v1
  refine JL_q (q_loadB Tryd.isAgg37 hgl5) (k := ?_)
  refine JL_v (args := [(Value.iface 130 (.pointer (some ea0))), (Value.iface 130 (.pointer (some ea1)))]) (c_callA Tryd.call39) (fun w1 hw1 => is_other_v w1 hE.n0_1 (hE.ext hw1.ext_out).b0 (hE.ext hw1.ext_out).b1) (k := ?_)
  refine JL_q (q_assign) (k := ?_)
  refine JL_nil ?_
  refine JX_seq ?_
  refine J_false rfl ?_
  refine J_seq ?_
  refine J_reg ?_
  refine JL_q (q_move) (k := ?_)
  obtain ⟨Thgl6, fhgl6, hgl6⟩ := hE.v0
  refine JL_q (q_loadB Tryd.isAgg37 hgl6) (k := ?_)
  refine JL_v (args := [(Value.iface 130 (.pointer (some ea0))), (Value.iface 130 (.pointer (some ea0)))]) (c_callA Tryd.call39) (fun w1 hw1 => is_same_v w1) (k := ?_)
  refine JL_q (q_assign) (k := ?_)
  refine JL_nil ?_
  refine JX_seq ?_
  refine J_true rfl ?_
  refine J_seq ?_
  refine J_reg ?_
  refine JL_q (q_assign) (k := ?_)
  refine JL_nil ?_
  refine JX_seq ?_
  refine J_ret ?_
  refine JX_block_ret ?_
  refine JX_seq_ret ?_
  refine JX_retI Tryd.results22 (Res.tmp rfl Res.nil) ?_
  refine JL_q (q_assign) (k := ?_)
  refine JL_q (q_assign) (k := ?_)
  refine JL_nil ?_
  refine JX_seq ?_
  refine J_ret ?_
  refine JX_seq_ret ?_
  refine JX_ret Tryd.results17 (Res.tmp rfl (Res.tmp rfl Res.nil)) (fun w1 hw1 => ?_)
  exact ⟨(by rw [(((hF.t hq2).neg hq4)).eq] <;> first | rfl | (simp only [List.length_set] <;> rfl)), hw1.ext_out⟩

end Go.Proofs.YtodejmindmiknaaDoor.Jd
