/- Part of the proofs of this seat: walks and plain facts. No condition. -/
import Derived.Test.YtodejmindmiknaaDoorProg
import Derived.Test.YtodejmindmiknaaDoorJXM
import Derived.Test.YtodejmindmiknaaDoorJXN
import Derived.Test.YtodejmindmiknaaDoorJTW
import Derived.Test.YtodejmindmiknaaDoorJXE
namespace Go.Proofs.YtodejmindmiknaaDoor.Jd
open Go.Proofs
open Go.RowKit (Below)
set_option maxRecDepth 100000
set_option linter.unusedVariables false
set_option linter.unusedSimpArgs false
theorem FO_62_0 : FieldOff Tryd.prog 62 0 0 := fun r k w => by simp [Instr.fieldAt, Instr.sureAddr, fieldPlace, addr_add]
theorem FO_62_1 : FieldOff Tryd.prog 62 1 1 := fun r k w => by simp [Instr.fieldAt, Instr.sureAddr, fieldPlace, addr_add]
theorem sHex_ok (w : World) {s : Str} (n_s : s.length ≤ 1000000) (hs1 : 1 ≤ s.length) : Val Tryd.prog 20 [(Value.string (bs s))] w (Value.string (bs (sHex s))) := by
  have hF := Is.refl (sHex s)
  refine enter Tryd.func20 Tryd.ntmps20 (h := ?_)
  refine J_seq ?_
  refine J_reg ?_
  refine JL_q (q_assign) (k := ?_)
  refine JL_nil ?_
  refine JX_seq ?_
  refine J_seq ?_
  refine J_reg ?_
  refine JL_a noMk (a_alloc (l := [_, _]) Tryd.zeroValue62) (k := fun r1 hr1 => ?_)
  refine JL_nil ?_
  refine JX_seq ?_
  refine J_seq ?_
  refine J_seq ?_
  refine J_reg ?_
  refine JL_q (q_move) (k := ?_)
  refine JL_bytes (s := s) Tryd.underlying9 Tryd.underlying33 Tryd.underlying5 (k := fun ax1 cx1 Bx1 hox1 => ?_)
  have hbl1 := toI_length (s := s)
  refine JL_q (q_lenS Tryd.runUnderlying33) (k := ?_)
  refine JL_q (q_move) (k := ?_)
  refine JL_nil ?_
  refine JX_seq ?_
  refine J_block ?_
  refine J_loop7 (σ1 := Nat) (σ2 := Nat) (σ3 := Bool) (σ4 := List Int) (σ5 := Option Addr) (σ6 := Nat) (σ7 := Heap) (fun n_4 x_1 x_2 x_3 x_3a x_3c x_3B => (x_3B ++ (Bx1 ++ ((r1, Obj.cells [(Value.pointer (selfp x_2 r1)), (Value.slice (x_3a) (x_3.length) (x_3c))].toArray 62) :: [])))) (fun n_4 x_1 x_2 x_3 x_3a x_3c x_3B => [(2, (Value.string (bs ([] : Str)))), (3, (Value.pointer (some ⟨r1, 0, none⟩))), (7, (Value.slice (ax1) ((toI s).length) (cx1))), (8, (Value.int .i64 (((((toI s).length) : Nat) : Int)))), (9, (Value.int .i64 (((x_1 : Nat) : Int))))]) (fun n_4 x_1 x_2 x_3 x_3a x_3c x_3B => ((toI s).length) - x_1 < n_4 ∧ Is (sHex_l0 s (((toI s).length) + 1) 0 false []) (sHex_l0 s n_4 x_1 x_2 x_3) ∧ OwnB eI_u8 1 5 x_3a x_3c x_3B x_3 ∧ x_3.length = 2 * x_1 ∧ (∀ z ∈ x_3, 0 ≤ z ∧ z ≤ 255) ∧ x_1 ≤ (toI s).length) (fun n_4 x_1 x_2 x_3 x_3a x_3c x_3B => n_4) (((toI s).length) + 1) 0 false ([]) none 0 ([]) ?_ (by repeat (first | exact SubE.nil | refine SubE.cons rfl ?_)) (List.Perm.refl _) ?_
  · exact ⟨Nat.lt_succ_self _, Is.refl _, OwnB.nil, (by first | omega | rfl | (simp; done)), (by first | omega | rfl | (simp; done)), (by first | omega | rfl | (simp; done))⟩
  · rintro (_ | n_4) x_1 x_2 x_3 x_3a x_3c x_3B ⟨hm6, hF5, hx_3, hi7, hi8, hi9⟩
    · omega
    refine J_seq ?_
    refine J_reg ?_
    refine JL_q (q_lss) (k := ?_)
    refine JL_nil ?_
    refine JX_seq ?_
    refine J_seq ?_
    refine J_dec rfl (fun hq1 => ?_) (fun hq1 => ?_)
    rotate_left
    · refine J_exit ?_
      refine JX_seq_exit ?_
      refine JX_inv_exit ?_
      refine JX_block_hit ?_
      refine JX_seq ?_
      refine J_seq ?_
      refine J_reg ?_
      refine JL_inl (args := [(Value.pointer (some ⟨r1, 0, none⟩))]) (c_callA Tryd.call37) Tryd.func37 Tryd.ntmps37 ?_
      refine J_seq ?_
      refine J_reg ?_
      refine JL_q (q_assign) (k := ?_)
      refine JL_nil ?_
      refine JX_seq ?_
      refine J_seq ?_
      refine J_planV (Bx1 ++ ((r1, Obj.cells [(Value.pointer (selfp x_2 r1)), (Value.slice (x_3a) (x_3.length) (x_3c))].toArray 62) :: [])) (x_3B ++ []) (List.Perm.trans (List.Perm.refl _) (List.Perm.of_eq (by first | rfl | (simp only [List.cons_append, List.nil_append, List.append_assoc, List.append_nil]; done) | (simp only [List.cons_append, List.nil_append, List.append_assoc, List.append_nil]; rfl)))) mixed 12 [(true, 0), (true, 1), (true, 2), (true, 3), (true, 5), (true, 6), (true, 7), (true, 8), (true, 9), (false, 4), (false, 10), (true, 11)] (by kernel_rfl) ?_
      refine JD_q (q_move) (k := ?_)
      refine JD_q (q_nil) (k := ?_)
      refine JD_q (q_fld FO_62_1) (k := ?_)
      refine JD_q (q_load Tryd.isAgg33) (k := ?_)
      refine JD_q (q_move) (k := ?_)
      refine JD_q (q_nil) (k := ?_)
      refine JD_q (q_fld FO_62_1) (k := ?_)
      refine JD_q (q_load Tryd.isAgg33) (k := ?_)
      refine JD_q (q_lenS Tryd.runUnderlying33) (k := ?_)
      refine JD_q (q_usd hx_3 (by omega)) (k := ?_)
      refine JD_ustr Tryd.underlying85 (by kernel_rfl) hx_3 (List.Perm.refl _) (by omega) (by omega) (by first | assumption | exact (by assumption)) (k := ?_)
      refine JD_q (q_assign) (k := ?_)
      refine JD_nil ?_
      refine JL_eqL (L' := (Bx1 ++ ((r1, Obj.cells [(Value.pointer (selfp x_2 r1)), (Value.slice (x_3a) (x_3.length) (x_3c))].toArray 62) :: []))) (by simp only [List.append_nil, List.append_assoc, List.cons_append, List.nil_append]) ?_
      refine JL_nil ?_
      refine JX_seq ?_
      refine J_ret ?_
      refine JX_retI Tryd.results37 (Res.tmp rfl Res.nil) ?_
      refine JL_q (q_assign) (k := ?_)
      refine JL_nil ?_
      refine JX_seq ?_
      refine J_ret ?_
      refine JX_ret Tryd.results20 (Res.tmp rfl Res.nil) (fun w1 hw1 => ?_)
      exact ⟨(by rw [((hF.rn3 (hF5.neg hq1))).eq] <;> first | rfl | (simp only [List.length_set] <;> rfl)), hw1.ext_out⟩
    refine J_skip ?_
    refine JX_seq ?_
    refine J_seq ?_
    refine J_block ?_
    refine J_seq ?_
    refine J_reg ?_
    refine JL_q (q_idx (n := (toI s).length) Tryd.runUnderlying33 Tryd.sizeOf5 x_1 (hox1.slj eI_u8_ok) (gD (by first | omega | (simp only [List.length_set]; omega) | (simp only [List.length_append, List.length_take, List.length_drop, List.length_set, List.length_replicate, List.length_cons, List.length_nil, List.length_map, toS_length, toI_length]; omega))) (by first | rfl | simp)) (k := ?_)
    refine JL_q (q_loadE Tryd.isAgg5 x_1 0 (hox1.slj eI_u8_ok) (gD (by first | omega | (simp only [List.length_set]; omega) | (simp only [List.length_append, List.length_take, List.length_drop, List.length_set, List.length_replicate, List.length_cons, List.length_nil, List.length_map, toS_length, toI_length]; omega)))) (k := ?_)
    refine JL_q (q_assign) (k := ?_)
    refine JL_nil ?_
    refine JX_seq ?_
    refine J_seq ?_
    refine J_reg ?_
    refine JL_q (q_move) (k := ?_)
    refine JL_q (q_shrW) (k := ?_)
    have hdg15 := shr4_bd (toI_bd s x_1)
    have hu15 := u8_lt (([48, 49, 50, 51, 52, 53, 54, 55, 56, 57, 97, 98, 99, 100, 101, 102] : Str).getD (((shrI .u8 ((toI s).getD x_1 default) 4)).toNat) default)
    refine JL_q (q_idxT (s := ([48, 49, 50, 51, 52, 53, 54, 55, 56, 57, 97, 98, 99, 100, 101, 102] : Str)) (((shrI .u8 ((toI s).getD x_1 default) 4)).toNat) Tryd.runUnderlying9 (by first | omega | (simp only [List.length_set]; omega) | (simp only [List.length_append, List.length_take, List.length_drop, List.length_set, List.length_replicate, List.length_cons, List.length_nil, List.length_map, toS_length, toI_length]; omega))) (k := ?_)
    refine JL_inl (args := [(Value.pointer (some ⟨r1, 0, none⟩)), (Value.int .u8 ((((([48, 49, 50, 51, 52, 53, 54, 55, 56, 57, 97, 98, 99, 100, 101, 102] : Str).getD (((shrI .u8 ((toI s).getD x_1 default) 4)).toNat) default).toNat : Nat) : Int)))]) (c_callA Tryd.call36) Tryd.func36 Tryd.ntmps36 ?_
    refine J_seq ?_
    refine J_reg ?_
    refine JL_q (q_assign) (k := ?_)
    refine JL_nil ?_
    refine JX_seq ?_
    refine J_seq ?_
    refine J_reg ?_
    refine JL_q (q_move) (k := ?_)
    refine JL_inl (args := [(Value.pointer (some ⟨r1, 0, none⟩))]) (c_callA Tryd.call51) Tryd.func51 Tryd.ntmps51 ?_
    refine J_seq ?_
    refine J_reg ?_
    refine JL_q (q_move) (k := ?_)
    refine JL_q (q_nil) (k := ?_)
    refine JL_q (q_fld FO_62_0) (k := ?_)
    refine JL_q (q_load Tryd.isAgg60) (k := ?_)
    refine JL_q (q_ptrNil (b := x_2) (fun w => by kernel_rfl) (fun w => by kernel_rfl)) (k := ?_)
    refine JL_nil ?_
    refine JX_seq ?_
    refine J_cond rfl (fun hq2 => ?_) (fun hq2 => ?_)
    · refine J_reg ?_
      refine JL_q (q_move) (k := ?_)
      refine JL_q (q_move) (k := ?_)
      refine JL_q (q_toUP (j := Tryd.t62) Tryd.underlying60 Tryd.underlying98 (by kernel_rfl) (by decide)) (k := ?_)
      refine JL_q (q_entry (noesc _)) (k := ?_)
      refine JL_q (q_fromUP (n := 2) (j := Tryd.t62) Tryd.underlying98 Tryd.underlying60 (by kernel_rfl) (by kernel_rfl)) (k := ?_)
      refine JL_q (q_nil) (k := ?_)
      refine JL_q (q_fld FO_62_0) (k := ?_)
      refine JL_s (w_store (l' := [_, _]) Tryd.sizeOf60) (k := ?_)
      refine JL_nil ?_
      refine JX_endI Tryd.results51 Res.nil ?_
      refine JL_nil ?_
      refine JX_seq ?_
      refine J_seq ?_
      refine J_reg ?_
      refine JL_q (q_move) (k := ?_)
      refine JL_q (q_move) (k := ?_)
      refine JL_q (q_nil) (k := ?_)
      refine JL_q (q_fld FO_62_1) (k := ?_)
      refine JL_q (q_load Tryd.isAgg33) (k := ?_)
      refine JL_q (q_move) (k := ?_)
      refine JL_a noMk (a_bslice (l := [_]) Tryd.runUnderlying33 Tryd.sizeOf5 Tryd.zeroValue5) (k := fun r2 hr2 => ?_)
      refine JL_append (x_3 ++ ([(((([48, 49, 50, 51, 52, 53, 54, 55, 56, 57, 97, 98, 99, 100, 101, 102] : Str).getD (((shrI .u8 ((toI s).getD x_1 default) 4)).toNat) default).toNat : Nat) : Int)] : List Int)) rfl TY_5 Tryd.underlying33 eI_u8_ok hx_3 ((List.Perm.cons _ (List.Perm.refl _)).trans List.perm_middle.symm) (SlJ.lit (xs := ([(((([48, 49, 50, 51, 52, 53, 54, 55, 56, 57, 97, 98, 99, 100, 101, 102] : Str).getD (((shrI .u8 ((toI s).getD x_1 default) 4)).toNat) default).toNat : Nat) : Int)] : List Int)) eI_u8_ok) ⟨by omega, by omega⟩ (n := x_3.length) (m := 1) (k := fun ax2 cx2 Bx2 hox2 => ?_)
      have hal2 : (x_3 ++ ([(((([48, 49, 50, 51, 52, 53, 54, 55, 56, 57, 97, 98, 99, 100, 101, 102] : Str).getD (((shrI .u8 ((toI s).getD x_1 default) 4)).toNat) default).toNat : Nat) : Int)] : List Int)).length = x_3.length + 1 := by first | rfl | simp
      refine JL_q (q_nil) (k := ?_)
      refine JL_q (q_fld FO_62_1) (k := ?_)
      refine JL_s (w_store (l' := [_, _]) Tryd.sizeOf33) (k := ?_)
      refine JL_nil ?_
      refine JX_seq ?_
      refine J_seq ?_
      refine J_reg ?_
      refine JL_q (q_assign) (k := ?_)
      refine JL_nil ?_
      refine JX_seq ?_
      refine J_ret ?_
      refine JX_retI Tryd.results36 (Res.tmp rfl Res.nil) ?_
      refine JL_nil ?_
      refine JX_seq ?_
      refine J_reg ?_
      refine JL_q (q_move) (k := ?_)
      refine JL_q (q_andW) (k := ?_)
      have hdg19 := and15_bd (toI_bd s x_1)
      have hu19 := u8_lt (([48, 49, 50, 51, 52, 53, 54, 55, 56, 57, 97, 98, 99, 100, 101, 102] : Str).getD (((andI .u8 ((toI s).getD x_1 default) 15)).toNat) default)
      refine JL_q (q_idxT (s := ([48, 49, 50, 51, 52, 53, 54, 55, 56, 57, 97, 98, 99, 100, 101, 102] : Str)) (((andI .u8 ((toI s).getD x_1 default) 15)).toNat) Tryd.runUnderlying9 (by first | omega | (simp only [List.length_set]; omega) | (simp only [List.length_append, List.length_take, List.length_drop, List.length_set, List.length_replicate, List.length_cons, List.length_nil, List.length_map, toS_length, toI_length]; omega))) (k := ?_)
      refine JL_inl (args := [(Value.pointer (some ⟨r1, 0, none⟩)), (Value.int .u8 ((((([48, 49, 50, 51, 52, 53, 54, 55, 56, 57, 97, 98, 99, 100, 101, 102] : Str).getD (((andI .u8 ((toI s).getD x_1 default) 15)).toNat) default).toNat : Nat) : Int)))]) (c_callA Tryd.call36) Tryd.func36 Tryd.ntmps36 ?_
      refine J_seq ?_
      refine J_reg ?_
      refine JL_q (q_assign) (k := ?_)
      refine JL_nil ?_
      refine JX_seq ?_
      refine J_seq ?_
      refine J_reg ?_
      refine JL_q (q_move) (k := ?_)
      refine JL_inl (args := [(Value.pointer (some ⟨r1, 0, none⟩))]) (c_callA Tryd.call51) Tryd.func51 Tryd.ntmps51 ?_
      refine J_seq ?_
      refine J_reg ?_
      refine JL_q (q_move) (k := ?_)
      refine JL_q (q_nil) (k := ?_)
      refine JL_q (q_fld FO_62_0) (k := ?_)
      refine JL_q (q_load Tryd.isAgg60) (k := ?_)
      refine JL_q (q_eqS (u := (Value.pointer (some ⟨r1, 0, none⟩))) (v := (Value.pointer none)) (b := false) (fun w => by kernel_rfl)) (k := ?_)
      refine JL_nil ?_
      refine JX_seq ?_
      refine J_false rfl ?_
      refine J_seq ?_
      refine J_reg ?_
      refine JL_q (q_move) (k := ?_)
      refine JL_q (q_nil) (k := ?_)
      refine JL_q (q_fld FO_62_0) (k := ?_)
      refine JL_q (q_load Tryd.isAgg60) (k := ?_)
      refine JL_q (q_move) (k := ?_)
      refine JL_q (q_ptrSelf (b := true) (r := r1) (j := Tryd.t62) Tryd.underlying60 (by kernel_rfl) (by simp_all)) (k := ?_)
      refine JL_nil ?_
      refine JX_seq ?_
      refine J_false rfl ?_
      refine J_skip ?_
      refine JX_endI Tryd.results51 Res.nil ?_
      refine JL_nil ?_
      refine JX_seq ?_
      refine J_seq ?_
      refine J_reg ?_
      refine JL_q (q_move) (k := ?_)
      refine JL_q (q_move) (k := ?_)
      refine JL_q (q_nil) (k := ?_)
      refine JL_q (q_fld FO_62_1) (k := ?_)
      refine JL_q (q_load Tryd.isAgg33) (k := ?_)
      refine JL_q (q_move) (k := ?_)
      refine JL_a noMk (a_bslice (l := [_]) Tryd.runUnderlying33 Tryd.sizeOf5 Tryd.zeroValue5) (k := fun r3 hr3 => ?_)
      refine JL_append ((x_3 ++ ([(((([48, 49, 50, 51, 52, 53, 54, 55, 56, 57, 97, 98, 99, 100, 101, 102] : Str).getD (((shrI .u8 ((toI s).getD x_1 default) 4)).toNat) default).toNat : Nat) : Int)] : List Int)) ++ ([(((([48, 49, 50, 51, 52, 53, 54, 55, 56, 57, 97, 98, 99, 100, 101, 102] : Str).getD (((andI .u8 ((toI s).getD x_1 default) 15)).toNat) default).toNat : Nat) : Int)] : List Int)) rfl TY_5 Tryd.underlying33 eI_u8_ok hox2 ((List.Perm.cons _ (List.Perm.refl _)).trans List.perm_middle.symm) (SlJ.lit (xs := ([(((([48, 49, 50, 51, 52, 53, 54, 55, 56, 57, 97, 98, 99, 100, 101, 102] : Str).getD (((andI .u8 ((toI s).getD x_1 default) 15)).toNat) default).toNat : Nat) : Int)] : List Int)) eI_u8_ok) ⟨by omega, by omega⟩ (n := (x_3 ++ ([(((([48, 49, 50, 51, 52, 53, 54, 55, 56, 57, 97, 98, 99, 100, 101, 102] : Str).getD (((shrI .u8 ((toI s).getD x_1 default) 4)).toNat) default).toNat : Nat) : Int)] : List Int)).length) (m := 1) (k := fun ax3 cx3 Bx3 hox3 => ?_)
      have hal3 : ((x_3 ++ ([(((([48, 49, 50, 51, 52, 53, 54, 55, 56, 57, 97, 98, 99, 100, 101, 102] : Str).getD (((shrI .u8 ((toI s).getD x_1 default) 4)).toNat) default).toNat : Nat) : Int)] : List Int)) ++ ([(((([48, 49, 50, 51, 52, 53, 54, 55, 56, 57, 97, 98, 99, 100, 101, 102] : Str).getD (((andI .u8 ((toI s).getD x_1 default) 15)).toNat) default).toNat : Nat) : Int)] : List Int)).length = (x_3 ++ ([(((([48, 49, 50, 51, 52, 53, 54, 55, 56, 57, 97, 98, 99, 100, 101, 102] : Str).getD (((shrI .u8 ((toI s).getD x_1 default) 4)).toNat) default).toNat : Nat) : Int)] : List Int)).length + 1 := by first | rfl | simp
      refine JL_q (q_nil) (k := ?_)
      refine JL_q (q_fld FO_62_1) (k := ?_)
      refine JL_s (w_store (l' := [_, _]) Tryd.sizeOf33) (k := ?_)
      refine JL_nil ?_
      refine JX_seq ?_
      refine J_seq ?_
      refine J_reg ?_
      refine JL_q (q_assign) (k := ?_)
      refine JL_nil ?_
      refine JX_seq ?_
      refine J_ret ?_
      refine JX_retI Tryd.results36 (Res.tmp rfl Res.nil) ?_
      refine JL_nil ?_
      refine JX_block ?_
      refine JX_seq ?_
      refine J_reg ?_
      refine JL_q (q_add) (k := ?_)
      refine JL_q (q_move) (k := ?_)
      refine JL_nil ?_
      refine JX_permL (Bx3 ++ (Bx1 ++ ((r1, Obj.cells [(Value.pointer (some ⟨r1, 0, none⟩)), (Value.slice (ax3) (((x_3 ++ ([(((([48, 49, 50, 51, 52, 53, 54, 55, 56, 57, 97, 98, 99, 100, 101, 102] : Str).getD (((shrI .u8 ((toI s).getD x_1 default) 4)).toNat) default).toNat : Nat) : Int)] : List Int)) ++ ([(((([48, 49, 50, 51, 52, 53, 54, 55, 56, 57, 97, 98, 99, 100, 101, 102] : Str).getD (((andI .u8 ((toI s).getD x_1 default) 15)).toNat) default).toNat : Nat) : Int)] : List Int)).length) (cx3))].toArray 62) :: ((r3, Obj.cells [(Value.int .u8 ((((([48, 49, 50, 51, 52, 53, 54, 55, 56, 57, 97, 98, 99, 100, 101, 102] : Str).getD (((andI .u8 ((toI s).getD x_1 default) 15)).toNat) default).toNat : Nat) : Int)))].toArray 5) :: ((r2, Obj.cells [(Value.int .u8 ((((([48, 49, 50, 51, 52, 53, 54, 55, 56, 57, 97, 98, 99, 100, 101, 102] : Str).getD (((shrI .u8 ((toI s).getD x_1 default) 4)).toNat) default).toNat : Nat) : Int)))].toArray 5) :: []))))) ((((List.Perm.append_left _ ((List.Perm.cons _ ((List.Perm.cons _ ((List.Perm.append_left _ (List.Perm.refl _)).trans List.perm_middle)).trans (List.Perm.swap _ _ _))).trans (List.Perm.swap _ _ _))).trans List.perm_middle).trans ((List.Perm.cons _ ((List.Perm.append_left _ ((List.Perm.cons _ ((List.Perm.cons _ (List.Perm.refl _)).trans List.perm_middle.symm)).trans List.perm_middle.symm)).trans (perm_seg _ _ _))).trans List.perm_middle.symm)).trans ((List.Perm.append_left _ ((List.Perm.cons _ (List.Perm.refl _)).trans List.perm_middle.symm)).trans (perm_seg _ _ _))) ?_
      refine JX_subL (Bx3 ++ (Bx1 ++ ((r1, Obj.cells [(Value.pointer (some ⟨r1, 0, none⟩)), (Value.slice (ax3) (((x_3 ++ ([(((([48, 49, 50, 51, 52, 53, 54, 55, 56, 57, 97, 98, 99, 100, 101, 102] : Str).getD (((shrI .u8 ((toI s).getD x_1 default) 4)).toNat) default).toNat : Nat) : Int)] : List Int)) ++ ([(((([48, 49, 50, 51, 52, 53, 54, 55, 56, 57, 97, 98, 99, 100, 101, 102] : Str).getD (((andI .u8 ((toI s).getD x_1 default) 15)).toNat) default).toNat : Nat) : Int)] : List Int)).length) (cx3))].toArray 62) :: []))) (List.Sublist.append (List.Sublist.refl _) (List.Sublist.append (List.Sublist.refl _) (List.Sublist.cons_cons _ (List.nil_sublist _)))) ?_
      exact JX_inv7 n_4 (x_1 + 1) true ((x_3 ++ ([(((([48, 49, 50, 51, 52, 53, 54, 55, 56, 57, 97, 98, 99, 100, 101, 102] : Str).getD (((shrI .u8 ((toI s).getD x_1 default) 4)).toNat) default).toNat : Nat) : Int)] : List Int)) ++ ([(((([48, 49, 50, 51, 52, 53, 54, 55, 56, 57, 97, 98, 99, 100, 101, 102] : Str).getD (((andI .u8 ((toI s).getD x_1 default) 15)).toNat) default).toNat : Nat) : Int)] : List Int)) ax3 cx3 Bx3 ⟨by omega, ((hF5.pos hq1).t hq2), hox3, (by omega), (by intro z hz; simp only [List.mem_append, List.mem_singleton] at hz; rcases hz with (hz | rfl) | rfl <;> first | exact (by assumption : ∀ z : Int, z ∈ _ → 0 ≤ z ∧ z ≤ 255) z hz | omega), (by omega)⟩ (Nat.lt_succ_self _) (by repeat (first | exact SubE.nil | refine SubE.cons rfl ?_)) (List.Perm.refl _)
    refine J_seq ?_
    refine J_reg ?_
    refine JL_q (q_move) (k := ?_)
    refine JL_q (q_nil) (k := ?_)
    refine JL_q (q_fld FO_62_0) (k := ?_)
    refine JL_q (q_load Tryd.isAgg60) (k := ?_)
    refine JL_q (q_move) (k := ?_)
    refine JL_q (q_ptrSelf (b := x_2) (r := r1) (j := Tryd.t62) Tryd.underlying60 (by kernel_rfl) (by simp_all)) (k := ?_)
    refine JL_nil ?_
    refine JX_seq ?_
    refine J_false rfl ?_
    refine J_skip ?_
    refine JX_endI Tryd.results51 Res.nil ?_
    refine JL_nil ?_
    refine JX_seq ?_
    refine J_seq ?_
    refine J_reg ?_
    refine JL_q (q_move) (k := ?_)
    refine JL_q (q_move) (k := ?_)
    refine JL_q (q_nil) (k := ?_)
    refine JL_q (q_fld FO_62_1) (k := ?_)
    refine JL_q (q_load Tryd.isAgg33) (k := ?_)
    refine JL_q (q_move) (k := ?_)
    refine JL_a noMk (a_bslice (l := [_]) Tryd.runUnderlying33 Tryd.sizeOf5 Tryd.zeroValue5) (k := fun r4 hr4 => ?_)
    refine JL_append (x_3 ++ ([(((([48, 49, 50, 51, 52, 53, 54, 55, 56, 57, 97, 98, 99, 100, 101, 102] : Str).getD (((shrI .u8 ((toI s).getD x_1 default) 4)).toNat) default).toNat : Nat) : Int)] : List Int)) rfl TY_5 Tryd.underlying33 eI_u8_ok hx_3 ((List.Perm.cons _ (List.Perm.refl _)).trans List.perm_middle.symm) (SlJ.lit (xs := ([(((([48, 49, 50, 51, 52, 53, 54, 55, 56, 57, 97, 98, 99, 100, 101, 102] : Str).getD (((shrI .u8 ((toI s).getD x_1 default) 4)).toNat) default).toNat : Nat) : Int)] : List Int)) eI_u8_ok) ⟨by omega, by omega⟩ (n := x_3.length) (m := 1) (k := fun ax4 cx4 Bx4 hox4 => ?_)
    have hal4 : (x_3 ++ ([(((([48, 49, 50, 51, 52, 53, 54, 55, 56, 57, 97, 98, 99, 100, 101, 102] : Str).getD (((shrI .u8 ((toI s).getD x_1 default) 4)).toNat) default).toNat : Nat) : Int)] : List Int)).length = x_3.length + 1 := by first | rfl | simp
    refine JL_q (q_nil) (k := ?_)
    refine JL_q (q_fld FO_62_1) (k := ?_)
    refine JL_s (w_store (l' := [_, _]) Tryd.sizeOf33) (k := ?_)
    refine JL_nil ?_
    refine JX_seq ?_
    refine J_seq ?_
    refine J_reg ?_
    refine JL_q (q_assign) (k := ?_)
    refine JL_nil ?_
    refine JX_seq ?_
    refine J_ret ?_
    refine JX_retI Tryd.results36 (Res.tmp rfl Res.nil) ?_
    refine JL_nil ?_
    refine JX_seq ?_
    refine J_reg ?_
    refine JL_q (q_move) (k := ?_)
    refine JL_q (q_andW) (k := ?_)
    have hdg19 := and15_bd (toI_bd s x_1)
    have hu19 := u8_lt (([48, 49, 50, 51, 52, 53, 54, 55, 56, 57, 97, 98, 99, 100, 101, 102] : Str).getD (((andI .u8 ((toI s).getD x_1 default) 15)).toNat) default)
    refine JL_q (q_idxT (s := ([48, 49, 50, 51, 52, 53, 54, 55, 56, 57, 97, 98, 99, 100, 101, 102] : Str)) (((andI .u8 ((toI s).getD x_1 default) 15)).toNat) Tryd.runUnderlying9 (by first | omega | (simp only [List.length_set]; omega) | (simp only [List.length_append, List.length_take, List.length_drop, List.length_set, List.length_replicate, List.length_cons, List.length_nil, List.length_map, toS_length, toI_length]; omega))) (k := ?_)
    refine JL_inl (args := [(Value.pointer (some ⟨r1, 0, none⟩)), (Value.int .u8 ((((([48, 49, 50, 51, 52, 53, 54, 55, 56, 57, 97, 98, 99, 100, 101, 102] : Str).getD (((andI .u8 ((toI s).getD x_1 default) 15)).toNat) default).toNat : Nat) : Int)))]) (c_callA Tryd.call36) Tryd.func36 Tryd.ntmps36 ?_
    refine J_seq ?_
    refine J_reg ?_
    refine JL_q (q_assign) (k := ?_)
    refine JL_nil ?_
    refine JX_seq ?_
    refine J_seq ?_
    refine J_reg ?_
    refine JL_q (q_move) (k := ?_)
    refine JL_inl (args := [(Value.pointer (some ⟨r1, 0, none⟩))]) (c_callA Tryd.call51) Tryd.func51 Tryd.ntmps51 ?_
    refine J_seq ?_
    refine J_reg ?_
    refine JL_q (q_move) (k := ?_)
    refine JL_q (q_nil) (k := ?_)
    refine JL_q (q_fld FO_62_0) (k := ?_)
    refine JL_q (q_load Tryd.isAgg60) (k := ?_)
    refine JL_q (q_ptrNil (b := x_2) (fun w => by kernel_rfl) (fun w => by kernel_rfl)) (k := ?_)
    refine JL_nil ?_
    refine JX_seq ?_
    refine J_cond rfl (fun hq3 => ?_) (fun hq3 => ?_)
    · refine J_reg ?_
      refine JL_q (q_move) (k := ?_)
      refine JL_q (q_move) (k := ?_)
      refine JL_q (q_toUP (j := Tryd.t62) Tryd.underlying60 Tryd.underlying98 (by kernel_rfl) (by decide)) (k := ?_)
      refine JL_q (q_entry (noesc _)) (k := ?_)
      refine JL_q (q_fromUP (n := 2) (j := Tryd.t62) Tryd.underlying98 Tryd.underlying60 (by kernel_rfl) (by kernel_rfl)) (k := ?_)
      refine JL_q (q_nil) (k := ?_)
      refine JL_q (q_fld FO_62_0) (k := ?_)
      refine JL_s (w_store (l' := [_, _]) Tryd.sizeOf60) (k := ?_)
      refine JL_nil ?_
      refine JX_endI Tryd.results51 Res.nil ?_
      refine JL_nil ?_
      refine JX_seq ?_
      refine J_seq ?_
      refine J_reg ?_
      refine JL_q (q_move) (k := ?_)
      refine JL_q (q_move) (k := ?_)
      refine JL_q (q_nil) (k := ?_)
      refine JL_q (q_fld FO_62_1) (k := ?_)
      refine JL_q (q_load Tryd.isAgg33) (k := ?_)
      refine JL_q (q_move) (k := ?_)
      refine JL_a noMk (a_bslice (l := [_]) Tryd.runUnderlying33 Tryd.sizeOf5 Tryd.zeroValue5) (k := fun r5 hr5 => ?_)
      refine JL_append ((x_3 ++ ([(((([48, 49, 50, 51, 52, 53, 54, 55, 56, 57, 97, 98, 99, 100, 101, 102] : Str).getD (((shrI .u8 ((toI s).getD x_1 default) 4)).toNat) default).toNat : Nat) : Int)] : List Int)) ++ ([(((([48, 49, 50, 51, 52, 53, 54, 55, 56, 57, 97, 98, 99, 100, 101, 102] : Str).getD (((andI .u8 ((toI s).getD x_1 default) 15)).toNat) default).toNat : Nat) : Int)] : List Int)) rfl TY_5 Tryd.underlying33 eI_u8_ok hox4 ((List.Perm.cons _ (List.Perm.refl _)).trans List.perm_middle.symm) (SlJ.lit (xs := ([(((([48, 49, 50, 51, 52, 53, 54, 55, 56, 57, 97, 98, 99, 100, 101, 102] : Str).getD (((andI .u8 ((toI s).getD x_1 default) 15)).toNat) default).toNat : Nat) : Int)] : List Int)) eI_u8_ok) ⟨by omega, by omega⟩ (n := (x_3 ++ ([(((([48, 49, 50, 51, 52, 53, 54, 55, 56, 57, 97, 98, 99, 100, 101, 102] : Str).getD (((shrI .u8 ((toI s).getD x_1 default) 4)).toNat) default).toNat : Nat) : Int)] : List Int)).length) (m := 1) (k := fun ax5 cx5 Bx5 hox5 => ?_)
      have hal5 : ((x_3 ++ ([(((([48, 49, 50, 51, 52, 53, 54, 55, 56, 57, 97, 98, 99, 100, 101, 102] : Str).getD (((shrI .u8 ((toI s).getD x_1 default) 4)).toNat) default).toNat : Nat) : Int)] : List Int)) ++ ([(((([48, 49, 50, 51, 52, 53, 54, 55, 56, 57, 97, 98, 99, 100, 101, 102] : Str).getD (((andI .u8 ((toI s).getD x_1 default) 15)).toNat) default).toNat : Nat) : Int)] : List Int)).length = (x_3 ++ ([(((([48, 49, 50, 51, 52, 53, 54, 55, 56, 57, 97, 98, 99, 100, 101, 102] : Str).getD (((shrI .u8 ((toI s).getD x_1 default) 4)).toNat) default).toNat : Nat) : Int)] : List Int)).length + 1 := by first | rfl | simp
      refine JL_q (q_nil) (k := ?_)
      refine JL_q (q_fld FO_62_1) (k := ?_)
      refine JL_s (w_store (l' := [_, _]) Tryd.sizeOf33) (k := ?_)
      refine JL_nil ?_
      refine JX_seq ?_
      refine J_seq ?_
      refine J_reg ?_
      refine JL_q (q_assign) (k := ?_)
      refine JL_nil ?_
      refine JX_seq ?_
      refine J_ret ?_
      refine JX_retI Tryd.results36 (Res.tmp rfl Res.nil) ?_
      refine JL_nil ?_
      refine JX_block ?_
      refine JX_seq ?_
      refine J_reg ?_
      refine JL_q (q_add) (k := ?_)
      refine JL_q (q_move) (k := ?_)
      refine JL_nil ?_
      refine JX_permL (Bx5 ++ (Bx1 ++ ((r1, Obj.cells [(Value.pointer (some ⟨r1, 0, none⟩)), (Value.slice (ax5) (((x_3 ++ ([(((([48, 49, 50, 51, 52, 53, 54, 55, 56, 57, 97, 98, 99, 100, 101, 102] : Str).getD (((shrI .u8 ((toI s).getD x_1 default) 4)).toNat) default).toNat : Nat) : Int)] : List Int)) ++ ([(((([48, 49, 50, 51, 52, 53, 54, 55, 56, 57, 97, 98, 99, 100, 101, 102] : Str).getD (((andI .u8 ((toI s).getD x_1 default) 15)).toNat) default).toNat : Nat) : Int)] : List Int)).length) (cx5))].toArray 62) :: ((r5, Obj.cells [(Value.int .u8 ((((([48, 49, 50, 51, 52, 53, 54, 55, 56, 57, 97, 98, 99, 100, 101, 102] : Str).getD (((andI .u8 ((toI s).getD x_1 default) 15)).toNat) default).toNat : Nat) : Int)))].toArray 5) :: ((r4, Obj.cells [(Value.int .u8 ((((([48, 49, 50, 51, 52, 53, 54, 55, 56, 57, 97, 98, 99, 100, 101, 102] : Str).getD (((shrI .u8 ((toI s).getD x_1 default) 4)).toNat) default).toNat : Nat) : Int)))].toArray 5) :: []))))) ((((List.Perm.append_left _ ((List.Perm.cons _ ((List.Perm.cons _ ((List.Perm.append_left _ (List.Perm.refl _)).trans List.perm_middle)).trans (List.Perm.swap _ _ _))).trans (List.Perm.swap _ _ _))).trans List.perm_middle).trans ((List.Perm.cons _ ((List.Perm.append_left _ ((List.Perm.cons _ ((List.Perm.cons _ (List.Perm.refl _)).trans List.perm_middle.symm)).trans List.perm_middle.symm)).trans (perm_seg _ _ _))).trans List.perm_middle.symm)).trans ((List.Perm.append_left _ ((List.Perm.cons _ (List.Perm.refl _)).trans List.perm_middle.symm)).trans (perm_seg _ _ _))) ?_
      refine JX_subL (Bx5 ++ (Bx1 ++ ((r1, Obj.cells [(Value.pointer (some ⟨r1, 0, none⟩)), (Value.slice (ax5) (((x_3 ++ ([(((([48, 49, 50, 51, 52, 53, 54, 55, 56, 57, 97, 98, 99, 100, 101, 102] : Str).getD (((shrI .u8 ((toI s).getD x_1 default) 4)).toNat) default).toNat : Nat) : Int)] : List Int)) ++ ([(((([48, 49, 50, 51, 52, 53, 54, 55, 56, 57, 97, 98, 99, 100, 101, 102] : Str).getD (((andI .u8 ((toI s).getD x_1 default) 15)).toNat) default).toNat : Nat) : Int)] : List Int)).length) (cx5))].toArray 62) :: []))) (List.Sublist.append (List.Sublist.refl _) (List.Sublist.append (List.Sublist.refl _) (List.Sublist.cons_cons _ (List.nil_sublist _)))) ?_
      exact JX_inv7 n_4 (x_1 + 1) true ((x_3 ++ ([(((([48, 49, 50, 51, 52, 53, 54, 55, 56, 57, 97, 98, 99, 100, 101, 102] : Str).getD (((shrI .u8 ((toI s).getD x_1 default) 4)).toNat) default).toNat : Nat) : Int)] : List Int)) ++ ([(((([48, 49, 50, 51, 52, 53, 54, 55, 56, 57, 97, 98, 99, 100, 101, 102] : Str).getD (((andI .u8 ((toI s).getD x_1 default) 15)).toNat) default).toNat : Nat) : Int)] : List Int)) ax5 cx5 Bx5 ⟨by omega, (((hF5.pos hq1).f hq2).t hq3), hox5, (by omega), (by intro z hz; simp only [List.mem_append, List.mem_singleton] at hz; rcases hz with (hz | rfl) | rfl <;> first | exact (by assumption : ∀ z : Int, z ∈ _ → 0 ≤ z ∧ z ≤ 255) z hz | omega), (by omega)⟩ (Nat.lt_succ_self _) (by repeat (first | exact SubE.nil | refine SubE.cons rfl ?_)) (List.Perm.refl _)
    refine J_seq ?_
    refine J_reg ?_
    refine JL_q (q_move) (k := ?_)
    refine JL_q (q_nil) (k := ?_)
    refine JL_q (q_fld FO_62_0) (k := ?_)
    refine JL_q (q_load Tryd.isAgg60) (k := ?_)
    refine JL_q (q_move) (k := ?_)
    refine JL_q (q_ptrSelf (b := x_2) (r := r1) (j := Tryd.t62) Tryd.underlying60 (by kernel_rfl) (by simp_all)) (k := ?_)
    refine JL_nil ?_
    refine JX_seq ?_
    refine J_false rfl ?_
    refine J_skip ?_
    refine JX_endI Tryd.results51 Res.nil ?_
    refine JL_nil ?_
    refine JX_seq ?_
    refine J_seq ?_
    refine J_reg ?_
    refine JL_q (q_move) (k := ?_)
    refine JL_q (q_move) (k := ?_)
    refine JL_q (q_nil) (k := ?_)
    refine JL_q (q_fld FO_62_1) (k := ?_)
    refine JL_q (q_load Tryd.isAgg33) (k := ?_)
    refine JL_q (q_move) (k := ?_)
    refine JL_a noMk (a_bslice (l := [_]) Tryd.runUnderlying33 Tryd.sizeOf5 Tryd.zeroValue5) (k := fun r6 hr6 => ?_)
    refine JL_append ((x_3 ++ ([(((([48, 49, 50, 51, 52, 53, 54, 55, 56, 57, 97, 98, 99, 100, 101, 102] : Str).getD (((shrI .u8 ((toI s).getD x_1 default) 4)).toNat) default).toNat : Nat) : Int)] : List Int)) ++ ([(((([48, 49, 50, 51, 52, 53, 54, 55, 56, 57, 97, 98, 99, 100, 101, 102] : Str).getD (((andI .u8 ((toI s).getD x_1 default) 15)).toNat) default).toNat : Nat) : Int)] : List Int)) rfl TY_5 Tryd.underlying33 eI_u8_ok hox4 ((List.Perm.cons _ (List.Perm.refl _)).trans List.perm_middle.symm) (SlJ.lit (xs := ([(((([48, 49, 50, 51, 52, 53, 54, 55, 56, 57, 97, 98, 99, 100, 101, 102] : Str).getD (((andI .u8 ((toI s).getD x_1 default) 15)).toNat) default).toNat : Nat) : Int)] : List Int)) eI_u8_ok) ⟨by omega, by omega⟩ (n := (x_3 ++ ([(((([48, 49, 50, 51, 52, 53, 54, 55, 56, 57, 97, 98, 99, 100, 101, 102] : Str).getD (((shrI .u8 ((toI s).getD x_1 default) 4)).toNat) default).toNat : Nat) : Int)] : List Int)).length) (m := 1) (k := fun ax6 cx6 Bx6 hox6 => ?_)
    have hal6 : ((x_3 ++ ([(((([48, 49, 50, 51, 52, 53, 54, 55, 56, 57, 97, 98, 99, 100, 101, 102] : Str).getD (((shrI .u8 ((toI s).getD x_1 default) 4)).toNat) default).toNat : Nat) : Int)] : List Int)) ++ ([(((([48, 49, 50, 51, 52, 53, 54, 55, 56, 57, 97, 98, 99, 100, 101, 102] : Str).getD (((andI .u8 ((toI s).getD x_1 default) 15)).toNat) default).toNat : Nat) : Int)] : List Int)).length = (x_3 ++ ([(((([48, 49, 50, 51, 52, 53, 54, 55, 56, 57, 97, 98, 99, 100, 101, 102] : Str).getD (((shrI .u8 ((toI s).getD x_1 default) 4)).toNat) default).toNat : Nat) : Int)] : List Int)).length + 1 := by first | rfl | simp
    refine JL_q (q_nil) (k := ?_)
    refine JL_q (q_fld FO_62_1) (k := ?_)
    refine JL_s (w_store (l' := [_, _]) Tryd.sizeOf33) (k := ?_)
    refine JL_nil ?_
    refine JX_seq ?_
    refine J_seq ?_
    refine J_reg ?_
    refine JL_q (q_assign) (k := ?_)
    refine JL_nil ?_
    refine JX_seq ?_
    refine J_ret ?_
    refine JX_retI Tryd.results36 (Res.tmp rfl Res.nil) ?_
    refine JL_nil ?_
    refine JX_block ?_
    refine JX_seq ?_
    refine J_reg ?_
    refine JL_q (q_add) (k := ?_)
    refine JL_q (q_move) (k := ?_)
    refine JL_nil ?_
    refine JX_permL (Bx6 ++ (Bx1 ++ ((r1, Obj.cells [(Value.pointer (selfp x_2 r1)), (Value.slice (ax6) (((x_3 ++ ([(((([48, 49, 50, 51, 52, 53, 54, 55, 56, 57, 97, 98, 99, 100, 101, 102] : Str).getD (((shrI .u8 ((toI s).getD x_1 default) 4)).toNat) default).toNat : Nat) : Int)] : List Int)) ++ ([(((([48, 49, 50, 51, 52, 53, 54, 55, 56, 57, 97, 98, 99, 100, 101, 102] : Str).getD (((andI .u8 ((toI s).getD x_1 default) 15)).toNat) default).toNat : Nat) : Int)] : List Int)).length) (cx6))].toArray 62) :: ((r6, Obj.cells [(Value.int .u8 ((((([48, 49, 50, 51, 52, 53, 54, 55, 56, 57, 97, 98, 99, 100, 101, 102] : Str).getD (((andI .u8 ((toI s).getD x_1 default) 15)).toNat) default).toNat : Nat) : Int)))].toArray 5) :: ((r4, Obj.cells [(Value.int .u8 ((((([48, 49, 50, 51, 52, 53, 54, 55, 56, 57, 97, 98, 99, 100, 101, 102] : Str).getD (((shrI .u8 ((toI s).getD x_1 default) 4)).toNat) default).toNat : Nat) : Int)))].toArray 5) :: []))))) ((((List.Perm.append_left _ ((List.Perm.cons _ ((List.Perm.cons _ ((List.Perm.append_left _ (List.Perm.refl _)).trans List.perm_middle)).trans (List.Perm.swap _ _ _))).trans (List.Perm.swap _ _ _))).trans List.perm_middle).trans ((List.Perm.cons _ ((List.Perm.append_left _ ((List.Perm.cons _ ((List.Perm.cons _ (List.Perm.refl _)).trans List.perm_middle.symm)).trans List.perm_middle.symm)).trans (perm_seg _ _ _))).trans List.perm_middle.symm)).trans ((List.Perm.append_left _ ((List.Perm.cons _ (List.Perm.refl _)).trans List.perm_middle.symm)).trans (perm_seg _ _ _))) ?_
    refine JX_subL (Bx6 ++ (Bx1 ++ ((r1, Obj.cells [(Value.pointer (selfp x_2 r1)), (Value.slice (ax6) (((x_3 ++ ([(((([48, 49, 50, 51, 52, 53, 54, 55, 56, 57, 97, 98, 99, 100, 101, 102] : Str).getD (((shrI .u8 ((toI s).getD x_1 default) 4)).toNat) default).toNat : Nat) : Int)] : List Int)) ++ ([(((([48, 49, 50, 51, 52, 53, 54, 55, 56, 57, 97, 98, 99, 100, 101, 102] : Str).getD (((andI .u8 ((toI s).getD x_1 default) 15)).toNat) default).toNat : Nat) : Int)] : List Int)).length) (cx6))].toArray 62) :: []))) (List.Sublist.append (List.Sublist.refl _) (List.Sublist.append (List.Sublist.refl _) (List.Sublist.cons_cons _ (List.nil_sublist _)))) ?_
    exact JX_inv7 n_4 (x_1 + 1) x_2 ((x_3 ++ ([(((([48, 49, 50, 51, 52, 53, 54, 55, 56, 57, 97, 98, 99, 100, 101, 102] : Str).getD (((shrI .u8 ((toI s).getD x_1 default) 4)).toNat) default).toNat : Nat) : Int)] : List Int)) ++ ([(((([48, 49, 50, 51, 52, 53, 54, 55, 56, 57, 97, 98, 99, 100, 101, 102] : Str).getD (((andI .u8 ((toI s).getD x_1 default) 15)).toNat) default).toNat : Nat) : Int)] : List Int)) ax6 cx6 Bx6 ⟨by omega, (((hF5.pos hq1).f hq2).f hq3), hox6, (by omega), (by intro z hz; simp only [List.mem_append, List.mem_singleton] at hz; rcases hz with (hz | rfl) | rfl <;> first | exact (by assumption : ∀ z : Int, z ∈ _ → 0 ≤ z ∧ z ≤ 255) z hz | omega), (by omega)⟩ (Nat.lt_succ_self _) (by repeat (first | exact SubE.nil | refine SubE.cons rfl ?_)) (List.Perm.refl _)

end Go.Proofs.YtodejmindmiknaaDoor.Jd
