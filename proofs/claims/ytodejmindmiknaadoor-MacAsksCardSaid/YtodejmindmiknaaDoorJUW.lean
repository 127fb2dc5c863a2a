/- Part of the proofs of this seat: walks and plain facts. No condition. -/
import Derived.Test.YtodejmindmiknaaDoorProg
import Derived.Test.YtodejmindmiknaaDoorJUM
import Derived.Test.YtodejmindmiknaaDoorJUN
import Derived.Test.YtodejmindmiknaaDoorJTW
namespace Go.Proofs.YtodejmindmiknaaDoor.Jd
open Go.Proofs
open Go.RowKit (Below)
set_option maxRecDepth 100000
set_option linter.unusedVariables false
set_option linter.unusedSimpArgs false
theorem PL_73 : PlacesA Tryd.prog 73 [(0, 1), (1, 1), (2, 1), (3, 1), (4, 1), (5, 1), (6, 1), (7, 1)] := ⟨_, _, _, fun w => Tryd.runUnderlying73 w, fun w => Tryd.sizeOf48 w, fun i q h => by
  have hi : i < 8 := by simpa using (List.getElem?_eq_some_iff.1 h).1
  (iterate 8 (rcases i with _ | i; · simpa using h.symm))
  omega⟩
theorem rTurn_ok (w : World) {x : Int} {n_ : Int} (hn : 0 ≤ n_ ∧ n_ ≤ 32) : Val Tryd.prog 43 [(Value.int .u32 (x)), (Value.int .u32 (n_))] w (Value.int .u32 ((rTurn x n_))) := by
  have hF := Is.refl (rTurn x n_)
  refine enter Tryd.func43 Tryd.ntmps43 (h := ?_)
  refine J_seq ?_
  refine J_reg ?_
  refine JL_q (q_assign) (k := ?_)
  refine JL_nil ?_
  refine JX_seq ?_
  refine J_seq ?_
  refine J_reg ?_
  refine JL_q (q_move) (k := ?_)
  refine JL_q (q_move) (k := ?_)
  refine JL_q (q_shrW (h := by omega)) (k := ?_)
  refine JL_q (q_move) (k := ?_)
  refine JL_q (q_move) (k := ?_)
  refine JL_q (q_subW) (k := ?_)
  refine JL_q (q_shlW (h := by exact wrapu32_nn _)) (k := ?_)
  refine JL_q (q_orW) (k := ?_)
  refine JL_q (q_assign) (k := ?_)
  refine JL_nil ?_
  refine JX_seq ?_
  refine J_ret ?_
  refine JX_ret Tryd.results43 (Res.tmp rfl Res.nil) (fun w1 hw1 => ?_)
  exact ⟨(by rw [(hF).eq] <;> first | rfl | (simp only [List.length_set] <;> rfl)), hw1.ext_out⟩

theorem rWord_ok (w : World) {s : Str} (hs : s.length = 4) : Val Tryd.prog 42 [(Value.string (bs s))] w (Value.int .u32 ((rWord s))) := by
  have hF := Is.refl (rWord s)
  refine enter Tryd.func42 Tryd.ntmps42 (h := ?_)
  refine J_seq ?_
  refine J_reg ?_
  refine JL_q (q_assign) (k := ?_)
  refine JL_nil ?_
  refine JX_seq ?_
  refine J_seq ?_
  refine J_join0  ( []) ( [(2, (Value.int .u32 ((orI .u32 (orI .u32 (orI .u32 (shlI .u32 (IntKind.u32.wrap (((s.getD 0 default).toNat : Nat) : Int)) 24) (shlI .u32 (IntKind.u32.wrap (((s.getD 1 default).toNat : Nat) : Int)) 16)) (shlI .u32 (IntKind.u32.wrap (((s.getD 2 default).toNat : Nat) : Int)) 8)) (IntKind.u32.wrap (((s.getD 3 default).toNat : Nat) : Int))))))]) ( Is () ()) ?_ ?_
  · skip
    refine J_any (V := []) mixed 19 (by kernel_rfl) ?_
    refine JG_q 0 rfl (by kernel_rfl) (q_move) (k := ?_)
    have hu4 := u8_lt (s.getD 0 default)
    refine JG_q 1 rfl (by kernel_rfl) (q_idxT (s := s) 0 Tryd.runUnderlying9 (by first | omega | (simp only [List.length_set]; omega) | (simp only [List.length_append, List.length_take, List.length_drop, List.length_set, List.length_replicate, List.length_cons, List.length_nil, List.length_map, toS_length, toI_length]; omega))) (k := ?_)
    refine JG_q 4 rfl (by kernel_rfl) (q_move) (k := ?_)
    have hu8 := u8_lt (s.getD 1 default)
    refine JG_q 5 rfl (by kernel_rfl) (q_idxT (s := s) 1 Tryd.runUnderlying9 (by first | omega | (simp only [List.length_set]; omega) | (simp only [List.length_append, List.length_take, List.length_drop, List.length_set, List.length_replicate, List.length_cons, List.length_nil, List.length_map, toS_length, toI_length]; omega))) (k := ?_)
    refine JG_q 9 rfl (by kernel_rfl) (q_move) (k := ?_)
    have hu13 := u8_lt (s.getD 2 default)
    refine JG_q 10 rfl (by kernel_rfl) (q_idxT (s := s) 2 Tryd.runUnderlying9 (by first | omega | (simp only [List.length_set]; omega) | (simp only [List.length_append, List.length_take, List.length_drop, List.length_set, List.length_replicate, List.length_cons, List.length_nil, List.length_map, toS_length, toI_length]; omega))) (k := ?_)
    refine JG_q 14 rfl (by kernel_rfl) (q_move) (k := ?_)
    have hu18 := u8_lt (s.getD 3 default)
    refine JG_q 15 rfl (by kernel_rfl) (q_idxT (s := s) 3 Tryd.runUnderlying9 (by first | omega | (simp only [List.length_set]; omega) | (simp only [List.length_append, List.length_take, List.length_drop, List.length_set, List.length_replicate, List.length_cons, List.length_nil, List.length_map, toS_length, toI_length]; omega))) (k := ?_)
    refine JG_br [2, 6, 11, 16] (by kernel_rfl) rfl (List.forall_mem_cons.2 ⟨?_, (List.forall_mem_cons.2 ⟨?_, (List.forall_mem_cons.2 ⟨?_, (List.forall_mem_cons.2 ⟨?_, nofun⟩)⟩)⟩)⟩)
    · skip
      refine JO_q rfl (q_conv rfl Tryd.runUnderlying5 Tryd.runUnderlying48) (k := ?_)
      refine JG_q 3 rfl (by kernel_rfl) (q_shlW) (k := ?_)
      refine JG_br [6, 11, 16] (by kernel_rfl) rfl (List.forall_mem_cons.2 ⟨?_, (List.forall_mem_cons.2 ⟨?_, (List.forall_mem_cons.2 ⟨?_, nofun⟩)⟩)⟩)
      · skip
        refine JO_q rfl (q_conv rfl Tryd.runUnderlying5 Tryd.runUnderlying48) (k := ?_)
        refine JG_q 7 rfl (by kernel_rfl) (q_shlW) (k := ?_)
        refine JG_q 8 rfl (by kernel_rfl) (q_orW) (k := ?_)
        refine JG_br [11, 16] (by kernel_rfl) rfl (List.forall_mem_cons.2 ⟨?_, (List.forall_mem_cons.2 ⟨?_, nofun⟩)⟩)
        · skip
          refine JO_q rfl (q_conv rfl Tryd.runUnderlying5 Tryd.runUnderlying48) (k := ?_)
          refine JG_q 12 rfl (by kernel_rfl) (q_shlW) (k := ?_)
          refine JG_q 13 rfl (by kernel_rfl) (q_orW) (k := ?_)
          refine JG_br [16] (by kernel_rfl) rfl (List.forall_mem_cons.2 ⟨?_, nofun⟩)
          · skip
            refine JO_q rfl (q_conv rfl Tryd.runUnderlying5 Tryd.runUnderlying48) (k := ?_)
            refine JG_q 17 rfl (by kernel_rfl) (q_orW) (k := ?_)
            refine JG_q 18 rfl (by kernel_rfl) (q_assign) (k := ?_)
            refine JG_nil (by kernel_rfl) _ ?_
            refine JL_nil ?_
            exact JX_join0  (Is.refl ()) (by repeat (first | exact SubE.nil | refine SubE.cons rfl ?_)) (List.Perm.refl _)
        · skip
          refine JO_q rfl (q_conv rfl Tryd.runUnderlying5 Tryd.runUnderlying48) (k := ?_)
          refine JG_br [11] (by kernel_rfl) rfl (List.forall_mem_cons.2 ⟨?_, nofun⟩)
          · skip
            refine JO_q rfl (q_conv rfl Tryd.runUnderlying5 Tryd.runUnderlying48) (k := ?_)
            refine JG_q 12 rfl (by kernel_rfl) (q_shlW) (k := ?_)
            refine JG_q 13 rfl (by kernel_rfl) (q_orW) (k := ?_)
            refine JG_q 17 rfl (by kernel_rfl) (q_orW) (k := ?_)
            refine JG_q 18 rfl (by kernel_rfl) (q_assign) (k := ?_)
            refine JG_nil (by kernel_rfl) _ ?_
            refine JL_nil ?_
            exact JX_join0  (Is.refl ()) (by repeat (first | exact SubE.nil | refine SubE.cons rfl ?_)) (List.Perm.refl _)
      · skip
        refine JO_q rfl (q_conv rfl Tryd.runUnderlying5 Tryd.runUnderlying48) (k := ?_)
        refine JG_q 12 rfl (by kernel_rfl) (q_shlW) (k := ?_)
        refine JG_br [6, 16] (by kernel_rfl) rfl (List.forall_mem_cons.2 ⟨?_, (List.forall_mem_cons.2 ⟨?_, nofun⟩)⟩)
        · skip
          refine JO_q rfl (q_conv rfl Tryd.runUnderlying5 Tryd.runUnderlying48) (k := ?_)
          refine JG_q 7 rfl (by kernel_rfl) (q_shlW) (k := ?_)
          refine JG_q 8 rfl (by kernel_rfl) (q_orW) (k := ?_)
          refine JG_q 13 rfl (by kernel_rfl) (q_orW) (k := ?_)
          refine JG_br [16] (by kernel_rfl) rfl (List.forall_mem_cons.2 ⟨?_, nofun⟩)
          · skip
            refine JO_q rfl (q_conv rfl Tryd.runUnderlying5 Tryd.runUnderlying48) (k := ?_)
            refine JG_q 17 rfl (by kernel_rfl) (q_orW) (k := ?_)
            refine JG_q 18 rfl (by kernel_rfl) (q_assign) (k := ?_)
            refine JG_nil (by kernel_rfl) _ ?_
            refine JL_nil ?_
            exact JX_join0  (Is.refl ()) (by repeat (first | exact SubE.nil | refine SubE.cons rfl ?_)) (List.Perm.refl _)
        · skip
          refine JO_q rfl (q_conv rfl Tryd.runUnderlying5 Tryd.runUnderlying48) (k := ?_)
          refine JG_br [6] (by kernel_rfl) rfl (List.forall_mem_cons.2 ⟨?_, nofun⟩)
          · skip
            refine JO_q rfl (q_conv rfl Tryd.runUnderlying5 Tryd.runUnderlying48) (k := ?_)
            refine JG_q 7 rfl (by kernel_rfl) (q_shlW) (k := ?_)
            refine JG_q 8 rfl (by kernel_rfl) (q_orW) (k := ?_)
            refine JG_q 13 rfl (by kernel_rfl) (q_orW) (k := ?_)
            refine JG_q 17 rfl (by kernel_rfl) (q_orW) (k := ?_)
            refine JG_q 18 rfl (by kernel_rfl) (q_assign) (k := ?_)
            refine JG_nil (by kernel_rfl) _ ?_
            refine JL_nil ?_
            exact JX_join0  (Is.refl ()) (by repeat (first | exact SubE.nil | refine SubE.cons rfl ?_)) (List.Perm.refl _)
      · skip
        refine JO_q rfl (q_conv rfl Tryd.runUnderlying5 Tryd.runUnderlying48) (k := ?_)
        refine JG_br [6, 11] (by kernel_rfl) rfl (List.forall_mem_cons.2 ⟨?_, (List.forall_mem_cons.2 ⟨?_, nofun⟩)⟩)
        · skip
          refine JO_q rfl (q_conv rfl Tryd.runUnderlying5 Tryd.runUnderlying48) (k := ?_)
          refine JG_q 7 rfl (by kernel_rfl) (q_shlW) (k := ?_)
          refine JG_q 8 rfl (by kernel_rfl) (q_orW) (k := ?_)
          refine JG_br [11] (by kernel_rfl) rfl (List.forall_mem_cons.2 ⟨?_, nofun⟩)
          · skip
            refine JO_q rfl (q_conv rfl Tryd.runUnderlying5 Tryd.runUnderlying48) (k := ?_)
            refine JG_q 12 rfl (by kernel_rfl) (q_shlW) (k := ?_)
            refine JG_q 13 rfl (by kernel_rfl) (q_orW) (k := ?_)
            refine JG_q 17 rfl (by kernel_rfl) (q_orW) (k := ?_)
            refine JG_q 18 rfl (by kernel_rfl) (q_assign) (k := ?_)
            refine JG_nil (by kernel_rfl) _ ?_
            refine JL_nil ?_
            exact JX_join0  (Is.refl ()) (by repeat (first | exact SubE.nil | refine SubE.cons rfl ?_)) (List.Perm.refl _)
        · skip
          refine JO_q rfl (q_conv rfl Tryd.runUnderlying5 Tryd.runUnderlying48) (k := ?_)
          refine JG_q 12 rfl (by kernel_rfl) (q_shlW) (k := ?_)
          refine JG_br [6] (by kernel_rfl) rfl (List.forall_mem_cons.2 ⟨?_, nofun⟩)
          · skip
            refine JO_q rfl (q_conv rfl Tryd.runUnderlying5 Tryd.runUnderlying48) (k := ?_)
            refine JG_q 7 rfl (by kernel_rfl) (q_shlW) (k := ?_)
            refine JG_q 8 rfl (by kernel_rfl) (q_orW) (k := ?_)
            refine JG_q 13 rfl (by kernel_rfl) (q_orW) (k := ?_)
            refine JG_q 17 rfl (by kernel_rfl) (q_orW) (k := ?_)
            refine JG_q 18 rfl (by kernel_rfl) (q_assign) (k := ?_)
            refine JG_nil (by kernel_rfl) _ ?_
            refine JL_nil ?_
            exact JX_join0  (Is.refl ()) (by repeat (first | exact SubE.nil | refine SubE.cons rfl ?_)) (List.Perm.refl _)
    · skip
      refine JO_q rfl (q_conv rfl Tryd.runUnderlying5 Tryd.runUnderlying48) (k := ?_)
      refine JG_q 7 rfl (by kernel_rfl) (q_shlW) (k := ?_)
      refine JG_br [2, 11, 16] (by kernel_rfl) rfl (List.forall_mem_cons.2 ⟨?_, (List.forall_mem_cons.2 ⟨?_, (List.forall_mem_cons.2 ⟨?_, nofun⟩)⟩)⟩)
      · skip
        refine JO_q rfl (q_conv rfl Tryd.runUnderlying5 Tryd.runUnderlying48) (k := ?_)
        refine JG_q 3 rfl (by kernel_rfl) (q_shlW) (k := ?_)
        refine JG_q 8 rfl (by kernel_rfl) (q_orW) (k := ?_)
        refine JG_br [11, 16] (by kernel_rfl) rfl (List.forall_mem_cons.2 ⟨?_, (List.forall_mem_cons.2 ⟨?_, nofun⟩)⟩)
        · skip
          refine JO_q rfl (q_conv rfl Tryd.runUnderlying5 Tryd.runUnderlying48) (k := ?_)
          refine JG_q 12 rfl (by kernel_rfl) (q_shlW) (k := ?_)
          refine JG_q 13 rfl (by kernel_rfl) (q_orW) (k := ?_)
          refine JG_br [16] (by kernel_rfl) rfl (List.forall_mem_cons.2 ⟨?_, nofun⟩)
          · skip
            refine JO_q rfl (q_conv rfl Tryd.runUnderlying5 Tryd.runUnderlying48) (k := ?_)
            refine JG_q 17 rfl (by kernel_rfl) (q_orW) (k := ?_)
            refine JG_q 18 rfl (by kernel_rfl) (q_assign) (k := ?_)
            refine JG_nil (by kernel_rfl) _ ?_
            refine JL_nil ?_
            exact JX_join0  (Is.refl ()) (by repeat (first | exact SubE.nil | refine SubE.cons rfl ?_)) (List.Perm.refl _)
        · skip
          refine JO_q rfl (q_conv rfl Tryd.runUnderlying5 Tryd.runUnderlying48) (k := ?_)
          refine JG_br [11] (by kernel_rfl) rfl (List.forall_mem_cons.2 ⟨?_, nofun⟩)
          · skip
            refine JO_q rfl (q_conv rfl Tryd.runUnderlying5 Tryd.runUnderlying48) (k := ?_)
            refine JG_q 12 rfl (by kernel_rfl) (q_shlW) (k := ?_)
            refine JG_q 13 rfl (by kernel_rfl) (q_orW) (k := ?_)
            refine JG_q 17 rfl (by kernel_rfl) (q_orW) (k := ?_)
            refine JG_q 18 rfl (by kernel_rfl) (q_assign) (k := ?_)
            refine JG_nil (by kernel_rfl) _ ?_
            refine JL_nil ?_
            exact JX_join0  (Is.refl ()) (by repeat (first | exact SubE.nil | refine SubE.cons rfl ?_)) (List.Perm.refl _)
      · skip
        refine JO_q rfl (q_conv rfl Tryd.runUnderlying5 Tryd.runUnderlying48) (k := ?_)
        refine JG_q 12 rfl (by kernel_rfl) (q_shlW) (k := ?_)
        refine JG_br [2, 16] (by kernel_rfl) rfl (List.forall_mem_cons.2 ⟨?_, (List.forall_mem_cons.2 ⟨?_, nofun⟩)⟩)
        · skip
          refine JO_q rfl (q_conv rfl Tryd.runUnderlying5 Tryd.runUnderlying48) (k := ?_)
          refine JG_q 3 rfl (by kernel_rfl) (q_shlW) (k := ?_)
          refine JG_q 8 rfl (by kernel_rfl) (q_orW) (k := ?_)
          refine JG_q 13 rfl (by kernel_rfl) (q_orW) (k := ?_)
          refine JG_br [16] (by kernel_rfl) rfl (List.forall_mem_cons.2 ⟨?_, nofun⟩)
          · skip
            refine JO_q rfl (q_conv rfl Tryd.runUnderlying5 Tryd.runUnderlying48) (k := ?_)
            refine JG_q 17 rfl (by kernel_rfl) (q_orW) (k := ?_)
            refine JG_q 18 rfl (by kernel_rfl) (q_assign) (k := ?_)
            refine JG_nil (by kernel_rfl) _ ?_
            refine JL_nil ?_
            exact JX_join0  (Is.refl ()) (by repeat (first | exact SubE.nil | refine SubE.cons rfl ?_)) (List.Perm.refl _)
        · skip
          refine JO_q rfl (q_conv rfl Tryd.runUnderlying5 Tryd.runUnderlying48) (k := ?_)
          refine JG_br [2] (by kernel_rfl) rfl (List.forall_mem_cons.2 ⟨?_, nofun⟩)
          · skip
            refine JO_q rfl (q_conv rfl Tryd.runUnderlying5 Tryd.runUnderlying48) (k := ?_)
            refine JG_q 3 rfl (by kernel_rfl) (q_shlW) (k := ?_)
            refine JG_q 8 rfl (by kernel_rfl) (q_orW) (k := ?_)
            refine JG_q 13 rfl (by kernel_rfl) (q_orW) (k := ?_)
            refine JG_q 17 rfl (by kernel_rfl) (q_orW) (k := ?_)
            refine JG_q 18 rfl (by kernel_rfl) (q_assign) (k := ?_)
            refine JG_nil (by kernel_rfl) _ ?_
            refine JL_nil ?_
            exact JX_join0  (Is.refl ()) (by repeat (first | exact SubE.nil | refine SubE.cons rfl ?_)) (List.Perm.refl _)
      · skip
        refine JO_q rfl (q_conv rfl Tryd.runUnderlying5 Tryd.runUnderlying48) (k := ?_)
        refine JG_br [2, 11] (by kernel_rfl) rfl (List.forall_mem_cons.2 ⟨?_, (List.forall_mem_cons.2 ⟨?_, nofun⟩)⟩)
        · skip
          refine JO_q rfl (q_conv rfl Tryd.runUnderlying5 Tryd.runUnderlying48) (k := ?_)
          refine JG_q 3 rfl (by kernel_rfl) (q_shlW) (k := ?_)
          refine JG_q 8 rfl (by kernel_rfl) (q_orW) (k := ?_)
          refine JG_br [11] (by kernel_rfl) rfl (List.forall_mem_cons.2 ⟨?_, nofun⟩)
          · skip
            refine JO_q rfl (q_conv rfl Tryd.runUnderlying5 Tryd.runUnderlying48) (k := ?_)
            refine JG_q 12 rfl (by kernel_rfl) (q_shlW) (k := ?_)
            refine JG_q 13 rfl (by kernel_rfl) (q_orW) (k := ?_)
            refine JG_q 17 rfl (by kernel_rfl) (q_orW) (k := ?_)
            refine JG_q 18 rfl (by kernel_rfl) (q_assign) (k := ?_)
            refine JG_nil (by kernel_rfl) _ ?_
            refine JL_nil ?_
            exact JX_join0  (Is.refl ()) (by repeat (first | exact SubE.nil | refine SubE.cons rfl ?_)) (List.Perm.refl _)
        · skip
          refine JO_q rfl (q_conv rfl Tryd.runUnderlying5 Tryd.runUnderlying48) (k := ?_)
          refine JG_q 12 rfl (by kernel_rfl) (q_shlW) (k := ?_)
          refine JG_br [2] (by kernel_rfl) rfl (List.forall_mem_cons.2 ⟨?_, nofun⟩)
          · skip
            refine JO_q rfl (q_conv rfl Tryd.runUnderlying5 Tryd.runUnderlying48) (k := ?_)
            refine JG_q 3 rfl (by kernel_rfl) (q_shlW) (k := ?_)
            refine JG_q 8 rfl (by kernel_rfl) (q_orW) (k := ?_)
            refine JG_q 13 rfl (by kernel_rfl) (q_orW) (k := ?_)
            refine JG_q 17 rfl (by kernel_rfl) (q_orW) (k := ?_)
            refine JG_q 18 rfl (by kernel_rfl) (q_assign) (k := ?_)
            refine JG_nil (by kernel_rfl) _ ?_
            refine JL_nil ?_
            exact JX_join0  (Is.refl ()) (by repeat (first | exact SubE.nil | refine SubE.cons rfl ?_)) (List.Perm.refl _)
    · skip
      refine JO_q rfl (q_conv rfl Tryd.runUnderlying5 Tryd.runUnderlying48) (k := ?_)
      refine JG_q 12 rfl (by kernel_rfl) (q_shlW) (k := ?_)
      refine JG_br [2, 6, 16] (by kernel_rfl) rfl (List.forall_mem_cons.2 ⟨?_, (List.forall_mem_cons.2 ⟨?_, (List.forall_mem_cons.2 ⟨?_, nofun⟩)⟩)⟩)
      · skip
        refine JO_q rfl (q_conv rfl Tryd.runUnderlying5 Tryd.runUnderlying48) (k := ?_)
        refine JG_q 3 rfl (by kernel_rfl) (q_shlW) (k := ?_)
        refine JG_br [6, 16] (by kernel_rfl) rfl (List.forall_mem_cons.2 ⟨?_, (List.forall_mem_cons.2 ⟨?_, nofun⟩)⟩)
        · skip
          refine JO_q rfl (q_conv rfl Tryd.runUnderlying5 Tryd.runUnderlying48) (k := ?_)
          refine JG_q 7 rfl (by kernel_rfl) (q_shlW) (k := ?_)
          refine JG_q 8 rfl (by kernel_rfl) (q_orW) (k := ?_)
          refine JG_q 13 rfl (by kernel_rfl) (q_orW) (k := ?_)
          refine JG_br [16] (by kernel_rfl) rfl (List.forall_mem_cons.2 ⟨?_, nofun⟩)
          · skip
            refine JO_q rfl (q_conv rfl Tryd.runUnderlying5 Tryd.runUnderlying48) (k := ?_)
            refine JG_q 17 rfl (by kernel_rfl) (q_orW) (k := ?_)
            refine JG_q 18 rfl (by kernel_rfl) (q_assign) (k := ?_)
            refine JG_nil (by kernel_rfl) _ ?_
            refine JL_nil ?_
            exact JX_join0  (Is.refl ()) (by repeat (first | exact SubE.nil | refine SubE.cons rfl ?_)) (List.Perm.refl _)
        · skip
          refine JO_q rfl (q_conv rfl Tryd.runUnderlying5 Tryd.runUnderlying48) (k := ?_)
          refine JG_br [6] (by kernel_rfl) rfl (List.forall_mem_cons.2 ⟨?_, nofun⟩)
          · skip
            refine JO_q rfl (q_conv rfl Tryd.runUnderlying5 Tryd.runUnderlying48) (k := ?_)
            refine JG_q 7 rfl (by kernel_rfl) (q_shlW) (k := ?_)
            refine JG_q 8 rfl (by kernel_rfl) (q_orW) (k := ?_)
            refine JG_q 13 rfl (by kernel_rfl) (q_orW) (k := ?_)
            refine JG_q 17 rfl (by kernel_rfl) (q_orW) (k := ?_)
            refine JG_q 18 rfl (by kernel_rfl) (q_assign) (k := ?_)
            refine JG_nil (by kernel_rfl) _ ?_
            refine JL_nil ?_
            exact JX_join0  (Is.refl ()) (by repeat (first | exact SubE.nil | refine SubE.cons rfl ?_)) (List.Perm.refl _)
      · skip
        refine JO_q rfl (q_conv rfl Tryd.runUnderlying5 Tryd.runUnderlying48) (k := ?_)
        refine JG_q 7 rfl (by kernel_rfl) (q_shlW) (k := ?_)
        refine JG_br [2, 16] (by kernel_rfl) rfl (List.forall_mem_cons.2 ⟨?_, (List.forall_mem_cons.2 ⟨?_, nofun⟩)⟩)
        · skip
          refine JO_q rfl (q_conv rfl Tryd.runUnderlying5 Tryd.runUnderlying48) (k := ?_)
          refine JG_q 3 rfl (by kernel_rfl) (q_shlW) (k := ?_)
          refine JG_q 8 rfl (by kernel_rfl) (q_orW) (k := ?_)
          refine JG_q 13 rfl (by kernel_rfl) (q_orW) (k := ?_)
          refine JG_br [16] (by kernel_rfl) rfl (List.forall_mem_cons.2 ⟨?_, nofun⟩)
          · skip
            refine JO_q rfl (q_conv rfl Tryd.runUnderlying5 Tryd.runUnderlying48) (k := ?_)
            refine JG_q 17 rfl (by kernel_rfl) (q_orW) (k := ?_)
            refine JG_q 18 rfl (by kernel_rfl) (q_assign) (k := ?_)
            refine JG_nil (by kernel_rfl) _ ?_
            refine JL_nil ?_
            exact JX_join0  (Is.refl ()) (by repeat (first | exact SubE.nil | refine SubE.cons rfl ?_)) (List.Perm.refl _)
        · skip
          refine JO_q rfl (q_conv rfl Tryd.runUnderlying5 Tryd.runUnderlying48) (k := ?_)
          refine JG_br [2] (by kernel_rfl) rfl (List.forall_mem_cons.2 ⟨?_, nofun⟩)
          · skip
            refine JO_q rfl (q_conv rfl Tryd.runUnderlying5 Tryd.runUnderlying48) (k := ?_)
            refine JG_q 3 rfl (by kernel_rfl) (q_shlW) (k := ?_)
            refine JG_q 8 rfl (by kernel_rfl) (q_orW) (k := ?_)
            refine JG_q 13 rfl (by kernel_rfl) (q_orW) (k := ?_)
            refine JG_q 17 rfl (by kernel_rfl) (q_orW) (k := ?_)
            refine JG_q 18 rfl (by kernel_rfl) (q_assign) (k := ?_)
            refine JG_nil (by kernel_rfl) _ ?_
            refine JL_nil ?_
            exact JX_join0  (Is.refl ()) (by repeat (first | exact SubE.nil | refine SubE.cons rfl ?_)) (List.Perm.refl _)
      · skip
        refine JO_q rfl (q_conv rfl Tryd.runUnderlying5 Tryd.runUnderlying48) (k := ?_)
        refine JG_br [2, 6] (by kernel_rfl) rfl (List.forall_mem_cons.2 ⟨?_, (List.forall_mem_cons.2 ⟨?_, nofun⟩)⟩)
        · skip
          refine JO_q rfl (q_conv rfl Tryd.runUnderlying5 Tryd.runUnderlying48) (k := ?_)
          refine JG_q 3 rfl (by kernel_rfl) (q_shlW) (k := ?_)
          refine JG_br [6] (by kernel_rfl) rfl (List.forall_mem_cons.2 ⟨?_, nofun⟩)
          · skip
            refine JO_q rfl (q_conv rfl Tryd.runUnderlying5 Tryd.runUnderlying48) (k := ?_)
            refine JG_q 7 rfl (by kernel_rfl) (q_shlW) (k := ?_)
            refine JG_q 8 rfl (by kernel_rfl) (q_orW) (k := ?_)
            refine JG_q 13 rfl (by kernel_rfl) (q_orW) (k := ?_)
            refine JG_q 17 rfl (by kernel_rfl) (q_orW) (k := ?_)
            refine JG_q 18 rfl (by kernel_rfl) (q_assign) (k := ?_)
            refine JG_nil (by kernel_rfl) _ ?_
            refine JL_nil ?_
            exact JX_join0  (Is.refl ()) (by repeat (first | exact SubE.nil | refine SubE.cons rfl ?_)) (List.Perm.refl _)
        · skip
          refine JO_q rfl (q_conv rfl Tryd.runUnderlying5 Tryd.runUnderlying48) (k := ?_)
          refine JG_q 7 rfl (by kernel_rfl) (q_shlW) (k := ?_)
          refine JG_br [2] (by kernel_rfl) rfl (List.forall_mem_cons.2 ⟨?_, nofun⟩)
          · skip
            refine JO_q rfl (q_conv rfl Tryd.runUnderlying5 Tryd.runUnderlying48) (k := ?_)
            refine JG_q 3 rfl (by kernel_rfl) (q_shlW) (k := ?_)
            refine JG_q 8 rfl (by kernel_rfl) (q_orW) (k := ?_)
            refine JG_q 13 rfl (by kernel_rfl) (q_orW) (k := ?_)
            refine JG_q 17 rfl (by kernel_rfl) (q_orW) (k := ?_)
            refine JG_q 18 rfl (by kernel_rfl) (q_assign) (k := ?_)
            refine JG_nil (by kernel_rfl) _ ?_
            refine JL_nil ?_
            exact JX_join0  (Is.refl ()) (by repeat (first | exact SubE.nil | refine SubE.cons rfl ?_)) (List.Perm.refl _)
    · skip
      refine JO_q rfl (q_conv rfl Tryd.runUnderlying5 Tryd.runUnderlying48) (k := ?_)
      refine JG_br [2, 6, 11] (by kernel_rfl) rfl (List.forall_mem_cons.2 ⟨?_, (List.forall_mem_cons.2 ⟨?_, (List.forall_mem_cons.2 ⟨?_, nofun⟩)⟩)⟩)
      · skip
        refine JO_q rfl (q_conv rfl Tryd.runUnderlying5 Tryd.runUnderlying48) (k := ?_)
        refine JG_q 3 rfl (by kernel_rfl) (q_shlW) (k := ?_)
        refine JG_br [6, 11] (by kernel_rfl) rfl (List.forall_mem_cons.2 ⟨?_, (List.forall_mem_cons.2 ⟨?_, nofun⟩)⟩)
        · skip
          refine JO_q rfl (q_conv rfl Tryd.runUnderlying5 Tryd.runUnderlying48) (k := ?_)
          refine JG_q 7 rfl (by kernel_rfl) (q_shlW) (k := ?_)
          refine JG_q 8 rfl (by kernel_rfl) (q_orW) (k := ?_)
          refine JG_br [11] (by kernel_rfl) rfl (List.forall_mem_cons.2 ⟨?_, nofun⟩)
          · skip
            refine JO_q rfl (q_conv rfl Tryd.runUnderlying5 Tryd.runUnderlying48) (k := ?_)
            refine JG_q 12 rfl (by kernel_rfl) (q_shlW) (k := ?_)
            refine JG_q 13 rfl (by kernel_rfl) (q_orW) (k := ?_)
            refine JG_q 17 rfl (by kernel_rfl) (q_orW) (k := ?_)
            refine JG_q 18 rfl (by kernel_rfl) (q_assign) (k := ?_)
            refine JG_nil (by kernel_rfl) _ ?_
            refine JL_nil ?_
            exact JX_join0  (Is.refl ()) (by repeat (first | exact SubE.nil | refine SubE.cons rfl ?_)) (List.Perm.refl _)
        · skip
          refine JO_q rfl (q_conv rfl Tryd.runUnderlying5 Tryd.runUnderlying48) (k := ?_)
          refine JG_q 12 rfl (by kernel_rfl) (q_shlW) (k := ?_)
          refine JG_br [6] (by kernel_rfl) rfl (List.forall_mem_cons.2 ⟨?_, nofun⟩)
          · skip
            refine JO_q rfl (q_conv rfl Tryd.runUnderlying5 Tryd.runUnderlying48) (k := ?_)
            refine JG_q 7 rfl (by kernel_rfl) (q_shlW) (k := ?_)
            refine JG_q 8 rfl (by kernel_rfl) (q_orW) (k := ?_)
            refine JG_q 13 rfl (by kernel_rfl) (q_orW) (k := ?_)
            refine JG_q 17 rfl (by kernel_rfl) (q_orW) (k := ?_)
            refine JG_q 18 rfl (by kernel_rfl) (q_assign) (k := ?_)
            refine JG_nil (by kernel_rfl) _ ?_
            refine JL_nil ?_
            exact JX_join0  (Is.refl ()) (by repeat (first | exact SubE.nil | refine SubE.cons rfl ?_)) (List.Perm.refl _)
      · skip
        refine JO_q rfl (q_conv rfl Tryd.runUnderlying5 Tryd.runUnderlying48) (k := ?_)
        refine JG_q 7 rfl (by kernel_rfl) (q_shlW) (k := ?_)
        refine JG_br [2, 11] (by kernel_rfl) rfl (List.forall_mem_cons.2 ⟨?_, (List.forall_mem_cons.2 ⟨?_, nofun⟩)⟩)
        · skip
          refine JO_q rfl (q_conv rfl Tryd.runUnderlying5 Tryd.runUnderlying48) (k := ?_)
          refine JG_q 3 rfl (by kernel_rfl) (q_shlW) (k := ?_)
          refine JG_q 8 rfl (by kernel_rfl) (q_orW) (k := ?_)
          refine JG_br [11] (by kernel_rfl) rfl (List.forall_mem_cons.2 ⟨?_, nofun⟩)
          · skip
            refine JO_q rfl (q_conv rfl Tryd.runUnderlying5 Tryd.runUnderlying48) (k := ?_)
            refine JG_q 12 rfl (by kernel_rfl) (q_shlW) (k := ?_)
            refine JG_q 13 rfl (by kernel_rfl) (q_orW) (k := ?_)
            refine JG_q 17 rfl (by kernel_rfl) (q_orW) (k := ?_)
            refine JG_q 18 rfl (by kernel_rfl) (q_assign) (k := ?_)
            refine JG_nil (by kernel_rfl) _ ?_
            refine JL_nil ?_
            exact JX_join0  (Is.refl ()) (by repeat (first | exact SubE.nil | refine SubE.cons rfl ?_)) (List.Perm.refl _)
        · skip
          refine JO_q rfl (q_conv rfl Tryd.runUnderlying5 Tryd.runUnderlying48) (k := ?_)
          refine JG_q 12 rfl (by kernel_rfl) (q_shlW) (k := ?_)
          refine JG_br [2] (by kernel_rfl) rfl (List.forall_mem_cons.2 ⟨?_, nofun⟩)
          · skip
            refine JO_q rfl (q_conv rfl Tryd.runUnderlying5 Tryd.runUnderlying48) (k := ?_)
            refine JG_q 3 rfl (by kernel_rfl) (q_shlW) (k := ?_)
            refine JG_q 8 rfl (by kernel_rfl) (q_orW) (k := ?_)
            refine JG_q 13 rfl (by kernel_rfl) (q_orW) (k := ?_)
            refine JG_q 17 rfl (by kernel_rfl) (q_orW) (k := ?_)
            refine JG_q 18 rfl (by kernel_rfl) (q_assign) (k := ?_)
            refine JG_nil (by kernel_rfl) _ ?_
            refine JL_nil ?_
            exact JX_join0  (Is.refl ()) (by repeat (first | exact SubE.nil | refine SubE.cons rfl ?_)) (List.Perm.refl _)
      · skip
        refine JO_q rfl (q_conv rfl Tryd.runUnderlying5 Tryd.runUnderlying48) (k := ?_)
        refine JG_q 12 rfl (by kernel_rfl) (q_shlW) (k := ?_)
        refine JG_br [2, 6] (by kernel_rfl) rfl (List.forall_mem_cons.2 ⟨?_, (List.forall_mem_cons.2 ⟨?_, nofun⟩)⟩)
        · skip
          refine JO_q rfl (q_conv rfl Tryd.runUnderlying5 Tryd.runUnderlying48) (k := ?_)
          refine JG_q 3 rfl (by kernel_rfl) (q_shlW) (k := ?_)
          refine JG_br [6] (by kernel_rfl) rfl (List.forall_mem_cons.2 ⟨?_, nofun⟩)
          · skip
            refine JO_q rfl (q_conv rfl Tryd.runUnderlying5 Tryd.runUnderlying48) (k := ?_)
            refine JG_q 7 rfl (by kernel_rfl) (q_shlW) (k := ?_)
            refine JG_q 8 rfl (by kernel_rfl) (q_orW) (k := ?_)
            refine JG_q 13 rfl (by kernel_rfl) (q_orW) (k := ?_)
            refine JG_q 17 rfl (by kernel_rfl) (q_orW) (k := ?_)
            refine JG_q 18 rfl (by kernel_rfl) (q_assign) (k := ?_)
            refine JG_nil (by kernel_rfl) _ ?_
            refine JL_nil ?_
            exact JX_join0  (Is.refl ()) (by repeat (first | exact SubE.nil | refine SubE.cons rfl ?_)) (List.Perm.refl _)
        · skip
          refine JO_q rfl (q_conv rfl Tryd.runUnderlying5 Tryd.runUnderlying48) (k := ?_)
          refine JG_q 7 rfl (by kernel_rfl) (q_shlW) (k := ?_)
          refine JG_br [2] (by kernel_rfl) rfl (List.forall_mem_cons.2 ⟨?_, nofun⟩)
          · skip
            refine JO_q rfl (q_conv rfl Tryd.runUnderlying5 Tryd.runUnderlying48) (k := ?_)
            refine JG_q 3 rfl (by kernel_rfl) (q_shlW) (k := ?_)
            refine JG_q 8 rfl (by kernel_rfl) (q_orW) (k := ?_)
            refine JG_q 13 rfl (by kernel_rfl) (q_orW) (k := ?_)
            refine JG_q 17 rfl (by kernel_rfl) (q_orW) (k := ?_)
            refine JG_q 18 rfl (by kernel_rfl) (q_assign) (k := ?_)
            refine JG_nil (by kernel_rfl) _ ?_
            refine JL_nil ?_
            exact JX_join0  (Is.refl ()) (by repeat (first | exact SubE.nil | refine SubE.cons rfl ?_)) (List.Perm.refl _)
  intro  hJ1
  refine JX_seq ?_
  refine J_ret ?_
  refine JX_ret Tryd.results42 (Res.tmp rfl Res.nil) (fun w1 hw1 => ?_)
  exact ⟨(by rw [((hF.rn0 hJ1)).eq] <;> first | rfl | (simp only [List.length_set] <;> rfl)), hw1.ext_out⟩

theorem rsPad_ok (w : World) {s : Str} (n_s : s.length ≤ 10000000) : Val Tryd.prog 41 [(Value.string (bs s))] w (Value.string (bs (rsPad s))) := by
  have hF := Is.refl (rsPad s)
  refine enter Tryd.func41 Tryd.ntmps41 (h := ?_)
  refine J_seq ?_
  refine J_reg ?_
  refine JL_q (q_assign) (k := ?_)
  refine JL_nil ?_
  refine JX_seq ?_
  refine J_seq ?_
  refine J_reg ?_
  refine JL_q (q_move) (k := ?_)
  refine JL_q (q_lenT Tryd.runUnderlying9) (k := ?_)
  refine JL_q (q_mul) (k := ?_)
  refine JL_q (q_assign) (k := ?_)
  refine JL_nil ?_
  refine JX_seq ?_
  refine J_seq ?_
  refine J_reg ?_
  refine JL_q (q_move) (k := ?_)
  refine JL_q (q_addT (s := s) (s' := ([128] : Str)) (h := by first | omega | (simp only [List.length_append, List.length_take, List.length_drop, List.length_set, List.length_replicate, List.length_cons, List.length_nil, List.length_map, toS_length, toI_length]; omega) | (simp only [List.length_append, List.length_take, List.length_drop, List.length_set, List.length_replicate, List.length_cons, List.length_nil, List.length_map, toS_length, toI_length] at *; omega))) (k := ?_)
  have hsa1 : (s ++ ([128] : Str)).length = s.length + 1 := by simp only [List.length_append, List.length_cons, List.length_nil, Nat.zero_add]
  refine JL_q (q_assign) (k := ?_)
  refine JL_nil ?_
  refine JX_seq ?_
  refine J_seq ?_
  refine J_block ?_
  refine J_loop2 (σ1 := Nat) (σ2 := Str) (fun n_2 s_1 => []) (fun n_2 s_1 => [(0, (Value.string (bs s_1))), (2, (Value.string (bs ([] : Str)))), (3, (Value.int .i64 ((8 * ((s.length : Nat) : Int)))))]) (fun n_2 s_1 => (120 - s_1.length % 64) % 64 < n_2 ∧ Is (rsPad_l0 s ((120 - (s ++ ([128] : Str)).length % 64) % 64 + 1) (s ++ ([128] : Str))) (rsPad_l0 s n_2 s_1) ∧ s_1.length + (120 - s_1.length % 64) % 64 ≤ s.length + 64) (fun n_2 s_1 => n_2) ((120 - (s ++ ([128] : Str)).length % 64) % 64 + 1) (s ++ ([128] : Str)) ?_ (by repeat (first | exact SubE.nil | refine SubE.cons rfl ?_)) (List.Perm.refl _) ?_
  · exact ⟨Nat.lt_succ_self _, Is.refl _, (by first | omega | rfl | (simp; done))⟩
  · rintro (_ | n_2) s_1 ⟨hm4, hF3, hi5⟩
    · omega
    refine J_seq ?_
    refine J_seq ?_
    refine J_reg ?_
    refine JL_q (q_move) (k := ?_)
    refine JL_q (q_lenT Tryd.runUnderlying9) (k := ?_)
    refine JL_q (q_rem) (k := ?_)
    refine JL_q (q_neq) (k := ?_)
    refine JL_nil ?_
    refine JX_seq ?_
    refine J_dec rfl (fun hq1 => ?_) (fun hq1 => ?_)
    · refine J_skip ?_
      refine JX_seq ?_
      refine J_block ?_
      refine J_reg ?_
      refine JL_q (q_move) (k := ?_)
      refine JL_q (q_addT (s := s_1) (s' := ([0] : Str)) (h := by first | omega | (simp only [List.length_append, List.length_take, List.length_drop, List.length_set, List.length_replicate, List.length_cons, List.length_nil, List.length_map, toS_length, toI_length]; omega) | (simp only [List.length_append, List.length_take, List.length_drop, List.length_set, List.length_replicate, List.length_cons, List.length_nil, List.length_map, toS_length, toI_length] at *; omega))) (k := ?_)
      have hsa3 : (s_1 ++ ([0] : Str)).length = s_1.length + 1 := by simp only [List.length_append, List.length_cons, List.length_nil, Nat.zero_add]
      refine JL_q (q_assign) (k := ?_)
      refine JL_nil ?_
      refine JX_block ?_
      exact JX_inv2 n_2 (s_1 ++ ([0] : Str)) ⟨by omega, (hF3.pos hq1), (by omega)⟩ (Nat.lt_succ_self _) (by repeat (first | exact SubE.nil | refine SubE.cons rfl ?_)) (List.Perm.refl _)
    refine J_exit ?_
    refine JX_seq_exit ?_
    refine JX_inv_exit ?_
    refine JX_block_hit ?_
    refine JX_seq ?_
    refine J_seq ?_
    refine J_reg ?_
    refine JL_q (q_assign) (k := ?_)
    refine JL_nil ?_
    refine JX_seq ?_
    refine J_seq ?_
    refine J_seq ?_
    refine J_reg ?_
    refine JL_q (q_assign) (k := ?_)
    refine JL_nil ?_
    refine JX_seq ?_
    refine J_block ?_
    refine J_unroll ?_
    refine J_seq ?_
    refine J_seq ?_
    refine J_reg ?_
    refine JL_q (q_move) (k := ?_)
    refine JL_q (q_lss) (k := ?_)
    refine JL_nil ?_
    refine JX_seq ?_
    refine J_true rfl ?_
    refine J_skip ?_
    refine JX_seq ?_
    refine J_seq ?_
    refine J_block ?_
    refine J_seq ?_
    refine J_reg ?_
    refine JL_q (q_move) (k := ?_)
    refine JL_q (q_rem) (k := ?_)
    refine JL_q (q_conv rfl Tryd.runUnderlying3 Tryd.runUnderlying5) (k := ?_)
    refine JL_a noMk (a_bslice (l := [_]) Tryd.runUnderlying33 Tryd.sizeOf5 Tryd.zeroValue5) (k := fun r1 hr1 => ?_)
    refine JL_q (q_str Tryd.underlying9 Tryd.underlying33 Tryd.underlying5 (SlJ.lit (xs := ([(IntKind.u8.wrap ((8 * ((s.length : Nat) : Int)) % 256))] : List Int)) eI_u8_ok)) (k := ?_)
    refine JL_q (q_move) (k := ?_)
    refine JL_q (q_addT (s := (toS ([(IntKind.u8.wrap ((8 * ((s.length : Nat) : Int)) % 256))] : List Int))) (s' := ([] : Str)) (h := by first | omega | (simp only [List.length_append, List.length_take, List.length_drop, List.length_set, List.length_replicate, List.length_cons, List.length_nil, List.length_map, toS_length, toI_length]; omega) | (simp only [List.length_append, List.length_take, List.length_drop, List.length_set, List.length_replicate, List.length_cons, List.length_nil, List.length_map, toS_length, toI_length] at *; omega))) (k := ?_)
    have hsa4 : ((toS ([(IntKind.u8.wrap ((8 * ((s.length : Nat) : Int)) % 256))] : List Int)) ++ ([] : Str)).length = (toS ([(IntKind.u8.wrap ((8 * ((s.length : Nat) : Int)) % 256))] : List Int)).length + 0 := by simp only [List.length_append, List.length_cons, List.length_nil, Nat.zero_add]
    refine JL_q (q_assign) (k := ?_)
    refine JL_nil ?_
    refine JX_seq ?_
    refine J_reg ?_
    refine JL_q (q_move) (k := ?_)
    refine JL_q (q_quo) (k := ?_)
    refine JL_q (q_assign) (k := ?_)
    refine JL_nil ?_
    refine JX_block ?_
    refine JX_seq ?_
    refine J_reg ?_
    refine JL_q (q_move) (k := ?_)
    refine JL_q (q_add) (k := ?_)
    refine JL_q (q_assign) (k := ?_)
    refine JL_nil ?_
    refine JX_again ?_
    refine J_seq ?_
    refine J_seq ?_
    refine J_reg ?_
    refine JL_q (q_move) (k := ?_)
    refine JL_q (q_lss) (k := ?_)
    refine JL_nil ?_
    refine JX_seq ?_
    refine J_true rfl ?_
    refine J_skip ?_
    refine JX_seq ?_
    refine J_seq ?_
    refine J_block ?_
    refine J_seq ?_
    refine J_reg ?_
    refine JL_q (q_move) (k := ?_)
    refine JL_q (q_rem) (k := ?_)
    refine JL_q (q_conv rfl Tryd.runUnderlying3 Tryd.runUnderlying5) (k := ?_)
    refine JL_a noMk (a_bslice (l := [_]) Tryd.runUnderlying33 Tryd.sizeOf5 Tryd.zeroValue5) (k := fun r2 hr2 => ?_)
    refine JL_q (q_str Tryd.underlying9 Tryd.underlying33 Tryd.underlying5 (SlJ.lit (xs := ([(IntKind.u8.wrap (((8 * ((s.length : Nat) : Int)) / 256) % 256))] : List Int)) eI_u8_ok)) (k := ?_)
    refine JL_q (q_move) (k := ?_)
    refine JL_q (q_addT (s := (toS ([(IntKind.u8.wrap (((8 * ((s.length : Nat) : Int)) / 256) % 256))] : List Int))) (s' := ((toS ([(IntKind.u8.wrap ((8 * ((s.length : Nat) : Int)) % 256))] : List Int)) ++ ([] : Str))) (h := by first | omega | (simp only [List.length_append, List.length_take, List.length_drop, List.length_set, List.length_replicate, List.length_cons, List.length_nil, List.length_map, toS_length, toI_length]; omega) | (simp only [List.length_append, List.length_take, List.length_drop, List.length_set, List.length_replicate, List.length_cons, List.length_nil, List.length_map, toS_length, toI_length] at *; omega))) (k := ?_)
    have hsa5 : ((toS ([(IntKind.u8.wrap (((8 * ((s.length : Nat) : Int)) / 256) % 256))] : List Int)) ++ ((toS ([(IntKind.u8.wrap ((8 * ((s.length : Nat) : Int)) % 256))] : List Int)) ++ ([] : Str))).length = (toS ([(IntKind.u8.wrap (((8 * ((s.length : Nat) : Int)) / 256) % 256))] : List Int)).length + ((toS ([(IntKind.u8.wrap ((8 * ((s.length : Nat) : Int)) % 256))] : List Int)) ++ ([] : Str)).length := by simp only [List.length_append, List.length_cons, List.length_nil, Nat.zero_add]
    refine JL_q (q_assign) (k := ?_)
    refine JL_nil ?_
    refine JX_seq ?_
    refine J_reg ?_
    refine JL_q (q_move) (k := ?_)
    refine JL_q (q_quo) (k := ?_)
    refine JL_q (q_assign) (k := ?_)
    refine JL_nil ?_
    refine JX_block ?_
    refine JX_seq ?_
    refine J_reg ?_
    refine JL_q (q_move) (k := ?_)
    refine JL_q (q_add) (k := ?_)
    refine JL_q (q_assign) (k := ?_)
    refine JL_nil ?_
    refine JX_again ?_
    refine J_seq ?_
    refine J_seq ?_
    refine J_reg ?_
    refine JL_q (q_move) (k := ?_)
    refine JL_q (q_lss) (k := ?_)
    refine JL_nil ?_
    refine JX_seq ?_
    refine J_true rfl ?_
    refine J_skip ?_
    refine JX_seq ?_
    refine J_seq ?_
    refine J_block ?_
    refine J_seq ?_
    refine J_reg ?_
    refine JL_q (q_move) (k := ?_)
    refine JL_q (q_rem) (k := ?_)
    refine JL_q (q_conv rfl Tryd.runUnderlying3 Tryd.runUnderlying5) (k := ?_)
    refine JL_a noMk (a_bslice (l := [_]) Tryd.runUnderlying33 Tryd.sizeOf5 Tryd.zeroValue5) (k := fun r3 hr3 => ?_)
    refine JL_q (q_str Tryd.underlying9 Tryd.underlying33 Tryd.underlying5 (SlJ.lit (xs := ([(IntKind.u8.wrap ((((8 * ((s.length : Nat) : Int)) / 256) / 256) % 256))] : List Int)) eI_u8_ok)) (k := ?_)
    refine JL_q (q_move) (k := ?_)
    refine JL_q (q_addT (s := (toS ([(IntKind.u8.wrap ((((8 * ((s.length : Nat) : Int)) / 256) / 256) % 256))] : List Int))) (s' := ((toS ([(IntKind.u8.wrap (((8 * ((s.length : Nat) : Int)) / 256) % 256))] : List Int)) ++ ((toS ([(IntKind.u8.wrap ((8 * ((s.length : Nat) : Int)) % 256))] : List Int)) ++ ([] : Str)))) (h := by first | omega | (simp only [List.length_append, List.length_take, List.length_drop, List.length_set, List.length_replicate, List.length_cons, List.length_nil, List.length_map, toS_length, toI_length]; omega) | (simp only [List.length_append, List.length_take, List.length_drop, List.length_set, List.length_replicate, List.length_cons, List.length_nil, List.length_map, toS_length, toI_length] at *; omega))) (k := ?_)
    have hsa6 : ((toS ([(IntKind.u8.wrap ((((8 * ((s.length : Nat) : Int)) / 256) / 256) % 256))] : List Int)) ++ ((toS ([(IntKind.u8.wrap (((8 * ((s.length : Nat) : Int)) / 256) % 256))] : List Int)) ++ ((toS ([(IntKind.u8.wrap ((8 * ((s.length : Nat) : Int)) % 256))] : List Int)) ++ ([] : Str)))).length = (toS ([(IntKind.u8.wrap ((((8 * ((s.length : Nat) : Int)) / 256) / 256) % 256))] : List Int)).length + ((toS ([(IntKind.u8.wrap (((8 * ((s.length : Nat) : Int)) / 256) % 256))] : List Int)) ++ ((toS ([(IntKind.u8.wrap ((8 * ((s.length : Nat) : Int)) % 256))] : List Int)) ++ ([] : Str))).length := by simp only [List.length_append, List.length_cons, List.length_nil, Nat.zero_add]
    refine JL_q (q_assign) (k := ?_)
    refine JL_nil ?_
    refine JX_seq ?_
    refine J_reg ?_
    refine JL_q (q_move) (k := ?_)
    refine JL_q (q_quo) (k := ?_)
    refine JL_q (q_assign) (k := ?_)
    refine JL_nil ?_
    refine JX_block ?_
    refine JX_seq ?_
    refine J_reg ?_
    refine JL_q (q_move) (k := ?_)
    refine JL_q (q_add) (k := ?_)
    refine JL_q (q_assign) (k := ?_)
    refine JL_nil ?_
    refine JX_again ?_
    refine J_seq ?_
    refine J_seq ?_
    refine J_reg ?_
    refine JL_q (q_move) (k := ?_)
    refine JL_q (q_lss) (k := ?_)
    refine JL_nil ?_
    refine JX_seq ?_
    refine J_true rfl ?_
    refine J_skip ?_
    refine JX_seq ?_
    refine J_seq ?_
    refine J_block ?_
    refine J_seq ?_
    refine J_reg ?_
    refine JL_q (q_move) (k := ?_)
    refine JL_q (q_rem) (k := ?_)
    refine JL_q (q_conv rfl Tryd.runUnderlying3 Tryd.runUnderlying5) (k := ?_)
    refine JL_a noMk (a_bslice (l := [_]) Tryd.runUnderlying33 Tryd.sizeOf5 Tryd.zeroValue5) (k := fun r4 hr4 => ?_)
    refine JL_q (q_str Tryd.underlying9 Tryd.underlying33 Tryd.underlying5 (SlJ.lit (xs := ([(IntKind.u8.wrap (((((8 * ((s.length : Nat) : Int)) / 256) / 256) / 256) % 256))] : List Int)) eI_u8_ok)) (k := ?_)
    refine JL_q (q_move) (k := ?_)
    refine JL_q (q_addT (s := (toS ([(IntKind.u8.wrap (((((8 * ((s.length : Nat) : Int)) / 256) / 256) / 256) % 256))] : List Int))) (s' := ((toS ([(IntKind.u8.wrap ((((8 * ((s.length : Nat) : Int)) / 256) / 256) % 256))] : List Int)) ++ ((toS ([(IntKind.u8.wrap (((8 * ((s.length : Nat) : Int)) / 256) % 256))] : List Int)) ++ ((toS ([(IntKind.u8.wrap ((8 * ((s.length : Nat) : Int)) % 256))] : List Int)) ++ ([] : Str))))) (h := by first | omega | (simp only [List.length_append, List.length_take, List.length_drop, List.length_set, List.length_replicate, List.length_cons, List.length_nil, List.length_map, toS_length, toI_length]; omega) | (simp only [List.length_append, List.length_take, List.length_drop, List.length_set, List.length_replicate, List.length_cons, List.length_nil, List.length_map, toS_length, toI_length] at *; omega))) (k := ?_)
    have hsa7 : ((toS ([(IntKind.u8.wrap (((((8 * ((s.length : Nat) : Int)) / 256) / 256) / 256) % 256))] : List Int)) ++ ((toS ([(IntKind.u8.wrap ((((8 * ((s.length : Nat) : Int)) / 256) / 256) % 256))] : List Int)) ++ ((toS ([(IntKind.u8.wrap (((8 * ((s.length : Nat) : Int)) / 256) % 256))] : List Int)) ++ ((toS ([(IntKind.u8.wrap ((8 * ((s.length : Nat) : Int)) % 256))] : List Int)) ++ ([] : Str))))).length = (toS ([(IntKind.u8.wrap (((((8 * ((s.length : Nat) : Int)) / 256) / 256) / 256) % 256))] : List Int)).length + ((toS ([(IntKind.u8.wrap ((((8 * ((s.length : Nat) : Int)) / 256) / 256) % 256))] : List Int)) ++ ((toS ([(IntKind.u8.wrap (((8 * ((s.length : Nat) : Int)) / 256) % 256))] : List Int)) ++ ((toS ([(IntKind.u8.wrap ((8 * ((s.length : Nat) : Int)) % 256))] : List Int)) ++ ([] : Str)))).length := by simp only [List.length_append, List.length_cons, List.length_nil, Nat.zero_add]
    refine JL_q (q_assign) (k := ?_)
    refine JL_nil ?_
    refine JX_seq ?_
    refine J_reg ?_
    refine JL_q (q_move) (k := ?_)
    refine JL_q (q_quo) (k := ?_)
    refine JL_q (q_assign) (k := ?_)
    refine JL_nil ?_
    refine JX_block ?_
    refine JX_seq ?_
    refine J_reg ?_
    refine JL_q (q_move) (k := ?_)
    refine JL_q (q_add) (k := ?_)
    refine JL_q (q_assign) (k := ?_)
    refine JL_nil ?_
    refine JX_again ?_
    refine J_seq ?_
    refine J_seq ?_
    refine J_reg ?_
    refine JL_q (q_move) (k := ?_)
    refine JL_q (q_lss) (k := ?_)
    refine JL_nil ?_
    refine JX_seq ?_
    refine J_true rfl ?_
    refine J_skip ?_
    refine JX_seq ?_
    refine J_seq ?_
    refine J_block ?_
    refine J_seq ?_
    refine J_reg ?_
    refine JL_q (q_move) (k := ?_)
    refine JL_q (q_rem) (k := ?_)
    refine JL_q (q_conv rfl Tryd.runUnderlying3 Tryd.runUnderlying5) (k := ?_)
    refine JL_a noMk (a_bslice (l := [_]) Tryd.runUnderlying33 Tryd.sizeOf5 Tryd.zeroValue5) (k := fun r5 hr5 => ?_)
    refine JL_q (q_str Tryd.underlying9 Tryd.underlying33 Tryd.underlying5 (SlJ.lit (xs := ([(IntKind.u8.wrap ((((((8 * ((s.length : Nat) : Int)) / 256) / 256) / 256) / 256) % 256))] : List Int)) eI_u8_ok)) (k := ?_)
    refine JL_q (q_move) (k := ?_)
    refine JL_q (q_addT (s := (toS ([(IntKind.u8.wrap ((((((8 * ((s.length : Nat) : Int)) / 256) / 256) / 256) / 256) % 256))] : List Int))) (s' := ((toS ([(IntKind.u8.wrap (((((8 * ((s.length : Nat) : Int)) / 256) / 256) / 256) % 256))] : List Int)) ++ ((toS ([(IntKind.u8.wrap ((((8 * ((s.length : Nat) : Int)) / 256) / 256) % 256))] : List Int)) ++ ((toS ([(IntKind.u8.wrap (((8 * ((s.length : Nat) : Int)) / 256) % 256))] : List Int)) ++ ((toS ([(IntKind.u8.wrap ((8 * ((s.length : Nat) : Int)) % 256))] : List Int)) ++ ([] : Str)))))) (h := by first | omega | (simp only [List.length_append, List.length_take, List.length_drop, List.length_set, List.length_replicate, List.length_cons, List.length_nil, List.length_map, toS_length, toI_length]; omega) | (simp only [List.length_append, List.length_take, List.length_drop, List.length_set, List.length_replicate, List.length_cons, List.length_nil, List.length_map, toS_length, toI_length] at *; omega))) (k := ?_)
    have hsa8 : ((toS ([(IntKind.u8.wrap ((((((8 * ((s.length : Nat) : Int)) / 256) / 256) / 256) / 256) % 256))] : List Int)) ++ ((toS ([(IntKind.u8.wrap (((((8 * ((s.length : Nat) : Int)) / 256) / 256) / 256) % 256))] : List Int)) ++ ((toS ([(IntKind.u8.wrap ((((8 * ((s.length : Nat) : Int)) / 256) / 256) % 256))] : List Int)) ++ ((toS ([(IntKind.u8.wrap (((8 * ((s.length : Nat) : Int)) / 256) % 256))] : List Int)) ++ ((toS ([(IntKind.u8.wrap ((8 * ((s.length : Nat) : Int)) % 256))] : List Int)) ++ ([] : Str)))))).length = (toS ([(IntKind.u8.wrap ((((((8 * ((s.length : Nat) : Int)) / 256) / 256) / 256) / 256) % 256))] : List Int)).length + ((toS ([(IntKind.u8.wrap (((((8 * ((s.length : Nat) : Int)) / 256) / 256) / 256) % 256))] : List Int)) ++ ((toS ([(IntKind.u8.wrap ((((8 * ((s.length : Nat) : Int)) / 256) / 256) % 256))] : List Int)) ++ ((toS ([(IntKind.u8.wrap (((8 * ((s.length : Nat) : Int)) / 256) % 256))] : List Int)) ++ ((toS ([(IntKind.u8.wrap ((8 * ((s.length : Nat) : Int)) % 256))] : List Int)) ++ ([] : Str))))).length := by simp only [List.length_append, List.length_cons, List.length_nil, Nat.zero_add]
    refine JL_q (q_assign) (k := ?_)
    refine JL_nil ?_
    refine JX_seq ?_
    refine J_reg ?_
    refine JL_q (q_move) (k := ?_)
    refine JL_q (q_quo) (k := ?_)
    refine JL_q (q_assign) (k := ?_)
    refine JL_nil ?_
    refine JX_block ?_
    refine JX_seq ?_
    refine J_reg ?_
    refine JL_q (q_move) (k := ?_)
    refine JL_q (q_add) (k := ?_)
    refine JL_q (q_assign) (k := ?_)
    refine JL_nil ?_
    refine JX_again ?_
    refine J_seq ?_
    refine J_seq ?_
    refine J_reg ?_
    refine JL_q (q_move) (k := ?_)
    refine JL_q (q_lss) (k := ?_)
    refine JL_nil ?_
    refine JX_seq ?_
    refine J_true rfl ?_
    refine J_skip ?_
    refine JX_seq ?_
    refine J_seq ?_
    refine J_block ?_
    refine J_seq ?_
    refine J_reg ?_
    refine JL_q (q_move) (k := ?_)
    refine JL_q (q_rem) (k := ?_)
    refine JL_q (q_conv rfl Tryd.runUnderlying3 Tryd.runUnderlying5) (k := ?_)
    refine JL_a noMk (a_bslice (l := [_]) Tryd.runUnderlying33 Tryd.sizeOf5 Tryd.zeroValue5) (k := fun r6 hr6 => ?_)
    refine JL_q (q_str Tryd.underlying9 Tryd.underlying33 Tryd.underlying5 (SlJ.lit (xs := ([(IntKind.u8.wrap (((((((8 * ((s.length : Nat) : Int)) / 256) / 256) / 256) / 256) / 256) % 256))] : List Int)) eI_u8_ok)) (k := ?_)
    refine JL_q (q_move) (k := ?_)
    refine JL_q (q_addT (s := (toS ([(IntKind.u8.wrap (((((((8 * ((s.length : Nat) : Int)) / 256) / 256) / 256) / 256) / 256) % 256))] : List Int))) (s' := ((toS ([(IntKind.u8.wrap ((((((8 * ((s.length : Nat) : Int)) / 256) / 256) / 256) / 256) % 256))] : List Int)) ++ ((toS ([(IntKind.u8.wrap (((((8 * ((s.length : Nat) : Int)) / 256) / 256) / 256) % 256))] : List Int)) ++ ((toS ([(IntKind.u8.wrap ((((8 * ((s.length : Nat) : Int)) / 256) / 256) % 256))] : List Int)) ++ ((toS ([(IntKind.u8.wrap (((8 * ((s.length : Nat) : Int)) / 256) % 256))] : List Int)) ++ ((toS ([(IntKind.u8.wrap ((8 * ((s.length : Nat) : Int)) % 256))] : List Int)) ++ ([] : Str))))))) (h := by first | omega | (simp only [List.length_append, List.length_take, List.length_drop, List.length_set, List.length_replicate, List.length_cons, List.length_nil, List.length_map, toS_length, toI_length]; omega) | (simp only [List.length_append, List.length_take, List.length_drop, List.length_set, List.length_replicate, List.length_cons, List.length_nil, List.length_map, toS_length, toI_length] at *; omega))) (k := ?_)
    have hsa9 : ((toS ([(IntKind.u8.wrap (((((((8 * ((s.length : Nat) : Int)) / 256) / 256) / 256) / 256) / 256) % 256))] : List Int)) ++ ((toS ([(IntKind.u8.wrap ((((((8 * ((s.length : Nat) : Int)) / 256) / 256) / 256) / 256) % 256))] : List Int)) ++ ((toS ([(IntKind.u8.wrap (((((8 * ((s.length : Nat) : Int)) / 256) / 256) / 256) % 256))] : List Int)) ++ ((toS ([(IntKind.u8.wrap ((((8 * ((s.length : Nat) : Int)) / 256) / 256) % 256))] : List Int)) ++ ((toS ([(IntKind.u8.wrap (((8 * ((s.length : Nat) : Int)) / 256) % 256))] : List Int)) ++ ((toS ([(IntKind.u8.wrap ((8 * ((s.length : Nat) : Int)) % 256))] : List Int)) ++ ([] : Str))))))).length = (toS ([(IntKind.u8.wrap (((((((8 * ((s.length : Nat) : Int)) / 256) / 256) / 256) / 256) / 256) % 256))] : List Int)).length + ((toS ([(IntKind.u8.wrap ((((((8 * ((s.length : Nat) : Int)) / 256) / 256) / 256) / 256) % 256))] : List Int)) ++ ((toS ([(IntKind.u8.wrap (((((8 * ((s.length : Nat) : Int)) / 256) / 256) / 256) % 256))] : List Int)) ++ ((toS ([(IntKind.u8.wrap ((((8 * ((s.length : Nat) : Int)) / 256) / 256) % 256))] : List Int)) ++ ((toS ([(IntKind.u8.wrap (((8 * ((s.length : Nat) : Int)) / 256) % 256))] : List Int)) ++ ((toS ([(IntKind.u8.wrap ((8 * ((s.length : Nat) : Int)) % 256))] : List Int)) ++ ([] : Str)))))).length := by simp only [List.length_append, List.length_cons, List.length_nil, Nat.zero_add]
    refine JL_q (q_assign) (k := ?_)
    refine JL_nil ?_
    refine JX_seq ?_
    refine J_reg ?_
    refine JL_q (q_move) (k := ?_)
    refine JL_q (q_quo) (k := ?_)
    refine JL_q (q_assign) (k := ?_)
    refine JL_nil ?_
    refine JX_block ?_
    refine JX_seq ?_
    refine J_reg ?_
    refine JL_q (q_move) (k := ?_)
    refine JL_q (q_add) (k := ?_)
    refine JL_q (q_assign) (k := ?_)
    refine JL_nil ?_
    refine JX_again ?_
    refine J_seq ?_
    refine J_seq ?_
    refine J_reg ?_
    refine JL_q (q_move) (k := ?_)
    refine JL_q (q_lss) (k := ?_)
    refine JL_nil ?_
    refine JX_seq ?_
    refine J_true rfl ?_
    refine J_skip ?_
    refine JX_seq ?_
    refine J_seq ?_
    refine J_block ?_
    refine J_seq ?_
    refine J_reg ?_
    refine JL_q (q_move) (k := ?_)
    refine JL_q (q_rem) (k := ?_)
    refine JL_q (q_conv rfl Tryd.runUnderlying3 Tryd.runUnderlying5) (k := ?_)
    refine JL_a noMk (a_bslice (l := [_]) Tryd.runUnderlying33 Tryd.sizeOf5 Tryd.zeroValue5) (k := fun r7 hr7 => ?_)
    refine JL_q (q_str Tryd.underlying9 Tryd.underlying33 Tryd.underlying5 (SlJ.lit (xs := ([(IntKind.u8.wrap ((((((((8 * ((s.length : Nat) : Int)) / 256) / 256) / 256) / 256) / 256) / 256) % 256))] : List Int)) eI_u8_ok)) (k := ?_)
    refine JL_q (q_move) (k := ?_)
    refine JL_q (q_addT (s := (toS ([(IntKind.u8.wrap ((((((((8 * ((s.length : Nat) : Int)) / 256) / 256) / 256) / 256) / 256) / 256) % 256))] : List Int))) (s' := ((toS ([(IntKind.u8.wrap (((((((8 * ((s.length : Nat) : Int)) / 256) / 256) / 256) / 256) / 256) % 256))] : List Int)) ++ ((toS ([(IntKind.u8.wrap ((((((8 * ((s.length : Nat) : Int)) / 256) / 256) / 256) / 256) % 256))] : List Int)) ++ ((toS ([(IntKind.u8.wrap (((((8 * ((s.length : Nat) : Int)) / 256) / 256) / 256) % 256))] : List Int)) ++ ((toS ([(IntKind.u8.wrap ((((8 * ((s.length : Nat) : Int)) / 256) / 256) % 256))] : List Int)) ++ ((toS ([(IntKind.u8.wrap (((8 * ((s.length : Nat) : Int)) / 256) % 256))] : List Int)) ++ ((toS ([(IntKind.u8.wrap ((8 * ((s.length : Nat) : Int)) % 256))] : List Int)) ++ ([] : Str)))))))) (h := by first | omega | (simp only [List.length_append, List.length_take, List.length_drop, List.length_set, List.length_replicate, List.length_cons, List.length_nil, List.length_map, toS_length, toI_length]; omega) | (simp only [List.length_append, List.length_take, List.length_drop, List.length_set, List.length_replicate, List.length_cons, List.length_nil, List.length_map, toS_length, toI_length] at *; omega))) (k := ?_)
    have hsa10 : ((toS ([(IntKind.u8.wrap ((((((((8 * ((s.length : Nat) : Int)) / 256) / 256) / 256) / 256) / 256) / 256) % 256))] : List Int)) ++ ((toS ([(IntKind.u8.wrap (((((((8 * ((s.length : Nat) : Int)) / 256) / 256) / 256) / 256) / 256) % 256))] : List Int)) ++ ((toS ([(IntKind.u8.wrap ((((((8 * ((s.length : Nat) : Int)) / 256) / 256) / 256) / 256) % 256))] : List Int)) ++ ((toS ([(IntKind.u8.wrap (((((8 * ((s.length : Nat) : Int)) / 256) / 256) / 256) % 256))] : List Int)) ++ ((toS ([(IntKind.u8.wrap ((((8 * ((s.length : Nat) : Int)) / 256) / 256) % 256))] : List Int)) ++ ((toS ([(IntKind.u8.wrap (((8 * ((s.length : Nat) : Int)) / 256) % 256))] : List Int)) ++ ((toS ([(IntKind.u8.wrap ((8 * ((s.length : Nat) : Int)) % 256))] : List Int)) ++ ([] : Str)))))))).length = (toS ([(IntKind.u8.wrap ((((((((8 * ((s.length : Nat) : Int)) / 256) / 256) / 256) / 256) / 256) / 256) % 256))] : List Int)).length + ((toS ([(IntKind.u8.wrap (((((((8 * ((s.length : Nat) : Int)) / 256) / 256) / 256) / 256) / 256) % 256))] : List Int)) ++ ((toS ([(IntKind.u8.wrap ((((((8 * ((s.length : Nat) : Int)) / 256) / 256) / 256) / 256) % 256))] : List Int)) ++ ((toS ([(IntKind.u8.wrap (((((8 * ((s.length : Nat) : Int)) / 256) / 256) / 256) % 256))] : List Int)) ++ ((toS ([(IntKind.u8.wrap ((((8 * ((s.length : Nat) : Int)) / 256) / 256) % 256))] : List Int)) ++ ((toS ([(IntKind.u8.wrap (((8 * ((s.length : Nat) : Int)) / 256) % 256))] : List Int)) ++ ((toS ([(IntKind.u8.wrap ((8 * ((s.length : Nat) : Int)) % 256))] : List Int)) ++ ([] : Str))))))).length := by simp only [List.length_append, List.length_cons, List.length_nil, Nat.zero_add]
    refine JL_q (q_assign) (k := ?_)
    refine JL_nil ?_
    refine JX_seq ?_
    refine J_reg ?_
    refine JL_q (q_move) (k := ?_)
    refine JL_q (q_quo) (k := ?_)
    refine JL_q (q_assign) (k := ?_)
    refine JL_nil ?_
    refine JX_block ?_
    refine JX_seq ?_
    refine J_reg ?_
    refine JL_q (q_move) (k := ?_)
    refine JL_q (q_add) (k := ?_)
    refine JL_q (q_assign) (k := ?_)
    refine JL_nil ?_
    refine JX_again ?_
    refine J_seq ?_
    refine J_seq ?_
    refine J_reg ?_
    refine JL_q (q_move) (k := ?_)
    refine JL_q (q_lss) (k := ?_)
    refine JL_nil ?_
    refine JX_seq ?_
    refine J_true rfl ?_
    refine J_skip ?_
    refine JX_seq ?_
    refine J_seq ?_
    refine J_block ?_
    refine J_seq ?_
    refine J_reg ?_
    refine JL_q (q_move) (k := ?_)
    refine JL_q (q_rem) (k := ?_)
    refine JL_q (q_conv rfl Tryd.runUnderlying3 Tryd.runUnderlying5) (k := ?_)
    refine JL_a noMk (a_bslice (l := [_]) Tryd.runUnderlying33 Tryd.sizeOf5 Tryd.zeroValue5) (k := fun r8 hr8 => ?_)
    refine JL_q (q_str Tryd.underlying9 Tryd.underlying33 Tryd.underlying5 (SlJ.lit (xs := ([(IntKind.u8.wrap (((((((((8 * ((s.length : Nat) : Int)) / 256) / 256) / 256) / 256) / 256) / 256) / 256) % 256))] : List Int)) eI_u8_ok)) (k := ?_)
    refine JL_q (q_move) (k := ?_)
    refine JL_q (q_addT (s := (toS ([(IntKind.u8.wrap (((((((((8 * ((s.length : Nat) : Int)) / 256) / 256) / 256) / 256) / 256) / 256) / 256) % 256))] : List Int))) (s' := ((toS ([(IntKind.u8.wrap ((((((((8 * ((s.length : Nat) : Int)) / 256) / 256) / 256) / 256) / 256) / 256) % 256))] : List Int)) ++ ((toS ([(IntKind.u8.wrap (((((((8 * ((s.length : Nat) : Int)) / 256) / 256) / 256) / 256) / 256) % 256))] : List Int)) ++ ((toS ([(IntKind.u8.wrap ((((((8 * ((s.length : Nat) : Int)) / 256) / 256) / 256) / 256) % 256))] : List Int)) ++ ((toS ([(IntKind.u8.wrap (((((8 * ((s.length : Nat) : Int)) / 256) / 256) / 256) % 256))] : List Int)) ++ ((toS ([(IntKind.u8.wrap ((((8 * ((s.length : Nat) : Int)) / 256) / 256) % 256))] : List Int)) ++ ((toS ([(IntKind.u8.wrap (((8 * ((s.length : Nat) : Int)) / 256) % 256))] : List Int)) ++ ((toS ([(IntKind.u8.wrap ((8 * ((s.length : Nat) : Int)) % 256))] : List Int)) ++ ([] : Str))))))))) (h := by first | omega | (simp only [List.length_append, List.length_take, List.length_drop, List.length_set, List.length_replicate, List.length_cons, List.length_nil, List.length_map, toS_length, toI_length]; omega) | (simp only [List.length_append, List.length_take, List.length_drop, List.length_set, List.length_replicate, List.length_cons, List.length_nil, List.length_map, toS_length, toI_length] at *; omega))) (k := ?_)
    have hsa11 : ((toS ([(IntKind.u8.wrap (((((((((8 * ((s.length : Nat) : Int)) / 256) / 256) / 256) / 256) / 256) / 256) / 256) % 256))] : List Int)) ++ ((toS ([(IntKind.u8.wrap ((((((((8 * ((s.length : Nat) : Int)) / 256) / 256) / 256) / 256) / 256) / 256) % 256))] : List Int)) ++ ((toS ([(IntKind.u8.wrap (((((((8 * ((s.length : Nat) : Int)) / 256) / 256) / 256) / 256) / 256) % 256))] : List Int)) ++ ((toS ([(IntKind.u8.wrap ((((((8 * ((s.length : Nat) : Int)) / 256) / 256) / 256) / 256) % 256))] : List Int)) ++ ((toS ([(IntKind.u8.wrap (((((8 * ((s.length : Nat) : Int)) / 256) / 256) / 256) % 256))] : List Int)) ++ ((toS ([(IntKind.u8.wrap ((((8 * ((s.length : Nat) : Int)) / 256) / 256) % 256))] : List Int)) ++ ((toS ([(IntKind.u8.wrap (((8 * ((s.length : Nat) : Int)) / 256) % 256))] : List Int)) ++ ((toS ([(IntKind.u8.wrap ((8 * ((s.length : Nat) : Int)) % 256))] : List Int)) ++ ([] : Str))))))))).length = (toS ([(IntKind.u8.wrap (((((((((8 * ((s.length : Nat) : Int)) / 256) / 256) / 256) / 256) / 256) / 256) / 256) % 256))] : List Int)).length + ((toS ([(IntKind.u8.wrap ((((((((8 * ((s.length : Nat) : Int)) / 256) / 256) / 256) / 256) / 256) / 256) % 256))] : List Int)) ++ ((toS ([(IntKind.u8.wrap (((((((8 * ((s.length : Nat) : Int)) / 256) / 256) / 256) / 256) / 256) % 256))] : List Int)) ++ ((toS ([(IntKind.u8.wrap ((((((8 * ((s.length : Nat) : Int)) / 256) / 256) / 256) / 256) % 256))] : List Int)) ++ ((toS ([(IntKind.u8.wrap (((((8 * ((s.length : Nat) : Int)) / 256) / 256) / 256) % 256))] : List Int)) ++ ((toS ([(IntKind.u8.wrap ((((8 * ((s.length : Nat) : Int)) / 256) / 256) % 256))] : List Int)) ++ ((toS ([(IntKind.u8.wrap (((8 * ((s.length : Nat) : Int)) / 256) % 256))] : List Int)) ++ ((toS ([(IntKind.u8.wrap ((8 * ((s.length : Nat) : Int)) % 256))] : List Int)) ++ ([] : Str)))))))).length := by simp only [List.length_append, List.length_cons, List.length_nil, Nat.zero_add]
    refine JL_q (q_assign) (k := ?_)
    refine JL_nil ?_
    refine JX_seq ?_
    refine J_reg ?_
    refine JL_q (q_move) (k := ?_)
    refine JL_q (q_quo) (k := ?_)
    refine JL_q (q_assign) (k := ?_)
    refine JL_nil ?_
    refine JX_block ?_
    refine JX_seq ?_
    refine J_reg ?_
    refine JL_q (q_move) (k := ?_)
    refine JL_q (q_add) (k := ?_)
    refine JL_q (q_assign) (k := ?_)
    refine JL_nil ?_
    refine JX_again ?_
    refine J_seq ?_
    refine J_seq ?_
    refine J_reg ?_
    refine JL_q (q_move) (k := ?_)
    refine JL_q (q_lss) (k := ?_)
    refine JL_nil ?_
    refine JX_seq ?_
    refine J_false rfl ?_
    refine J_exit ?_
    refine JX_seq_exit ?_
    refine JX_inv_exit ?_
    refine JX_block_hit ?_
    refine JX_seq ?_
    refine J_seq ?_
    refine J_reg ?_
    refine JL_q (q_move) (k := ?_)
    refine JL_q (q_move) (k := ?_)
    refine JL_q (q_addT (s := s_1) (s' := ((toS ([(IntKind.u8.wrap (((((((((8 * ((s.length : Nat) : Int)) / 256) / 256) / 256) / 256) / 256) / 256) / 256) % 256))] : List Int)) ++ ((toS ([(IntKind.u8.wrap ((((((((8 * ((s.length : Nat) : Int)) / 256) / 256) / 256) / 256) / 256) / 256) % 256))] : List Int)) ++ ((toS ([(IntKind.u8.wrap (((((((8 * ((s.length : Nat) : Int)) / 256) / 256) / 256) / 256) / 256) % 256))] : List Int)) ++ ((toS ([(IntKind.u8.wrap ((((((8 * ((s.length : Nat) : Int)) / 256) / 256) / 256) / 256) % 256))] : List Int)) ++ ((toS ([(IntKind.u8.wrap (((((8 * ((s.length : Nat) : Int)) / 256) / 256) / 256) % 256))] : List Int)) ++ ((toS ([(IntKind.u8.wrap ((((8 * ((s.length : Nat) : Int)) / 256) / 256) % 256))] : List Int)) ++ ((toS ([(IntKind.u8.wrap (((8 * ((s.length : Nat) : Int)) / 256) % 256))] : List Int)) ++ ((toS ([(IntKind.u8.wrap ((8 * ((s.length : Nat) : Int)) % 256))] : List Int)) ++ ([] : Str)))))))))) (h := by first | omega | (simp only [List.length_append, List.length_take, List.length_drop, List.length_set, List.length_replicate, List.length_cons, List.length_nil, List.length_map, toS_length, toI_length]; omega) | (simp only [List.length_append, List.length_take, List.length_drop, List.length_set, List.length_replicate, List.length_cons, List.length_nil, List.length_map, toS_length, toI_length] at *; omega))) (k := ?_)
    have hsa12 : (s_1 ++ ((toS ([(IntKind.u8.wrap (((((((((8 * ((s.length : Nat) : Int)) / 256) / 256) / 256) / 256) / 256) / 256) / 256) % 256))] : List Int)) ++ ((toS ([(IntKind.u8.wrap ((((((((8 * ((s.length : Nat) : Int)) / 256) / 256) / 256) / 256) / 256) / 256) % 256))] : List Int)) ++ ((toS ([(IntKind.u8.wrap (((((((8 * ((s.length : Nat) : Int)) / 256) / 256) / 256) / 256) / 256) % 256))] : List Int)) ++ ((toS ([(IntKind.u8.wrap ((((((8 * ((s.length : Nat) : Int)) / 256) / 256) / 256) / 256) % 256))] : List Int)) ++ ((toS ([(IntKind.u8.wrap (((((8 * ((s.length : Nat) : Int)) / 256) / 256) / 256) % 256))] : List Int)) ++ ((toS ([(IntKind.u8.wrap ((((8 * ((s.length : Nat) : Int)) / 256) / 256) % 256))] : List Int)) ++ ((toS ([(IntKind.u8.wrap (((8 * ((s.length : Nat) : Int)) / 256) % 256))] : List Int)) ++ ((toS ([(IntKind.u8.wrap ((8 * ((s.length : Nat) : Int)) % 256))] : List Int)) ++ ([] : Str)))))))))).length = s_1.length + ((toS ([(IntKind.u8.wrap (((((((((8 * ((s.length : Nat) : Int)) / 256) / 256) / 256) / 256) / 256) / 256) / 256) % 256))] : List Int)) ++ ((toS ([(IntKind.u8.wrap ((((((((8 * ((s.length : Nat) : Int)) / 256) / 256) / 256) / 256) / 256) / 256) % 256))] : List Int)) ++ ((toS ([(IntKind.u8.wrap (((((((8 * ((s.length : Nat) : Int)) / 256) / 256) / 256) / 256) / 256) % 256))] : List Int)) ++ ((toS ([(IntKind.u8.wrap ((((((8 * ((s.length : Nat) : Int)) / 256) / 256) / 256) / 256) % 256))] : List Int)) ++ ((toS ([(IntKind.u8.wrap (((((8 * ((s.length : Nat) : Int)) / 256) / 256) / 256) % 256))] : List Int)) ++ ((toS ([(IntKind.u8.wrap ((((8 * ((s.length : Nat) : Int)) / 256) / 256) % 256))] : List Int)) ++ ((toS ([(IntKind.u8.wrap (((8 * ((s.length : Nat) : Int)) / 256) % 256))] : List Int)) ++ ((toS ([(IntKind.u8.wrap ((8 * ((s.length : Nat) : Int)) % 256))] : List Int)) ++ ([] : Str))))))))).length := by simp only [List.length_append, List.length_cons, List.length_nil, Nat.zero_add]
    refine JL_q (q_assign) (k := ?_)
    refine JL_nil ?_
    refine JX_seq ?_
    refine J_ret ?_
    refine JX_ret Tryd.results41 (Res.tmp rfl Res.nil) (fun w1 hw1 => ?_)
    exact ⟨(by rw [((hF.rn1 (hF3.neg hq1))).eq] <;> first | rfl | (simp only [List.length_set] <;> rfl)), hw1.ext_out⟩

theorem rsSum_ok (w : World) {s : Str} (n_s : s.length ≤ 1000000) (hG : Gl w) : Val Tryd.prog 24 [(Value.string (bs s))] w (Value.string (bs (rsSum s))) := by
  have hF := Is.refl (rsSum s)
  refine enter Tryd.func24 Tryd.ntmps24 (h := ?_)
  refine J_seq ?_
  refine J_reg ?_
  refine JL_q (q_assign) (k := ?_)
  refine JL_nil ?_
  refine JX_seq ?_
  refine J_seq ?_
  refine J_reg ?_
  refine JL_q (q_move) (k := ?_)
  refine JL_v (args := [(Value.string (bs s))]) (c_callA Tryd.call41) (fun w1 hw1 => rsPad_ok w1 (s := s) (n_s := by first | omega | (simp only [List.length_append, List.length_take, List.length_drop, List.length_set, List.length_replicate, List.length_cons, List.length_nil, List.length_map, toS_length, toI_length]; omega) | (simp only [List.length_append, List.length_take, List.length_drop, List.length_set, List.length_replicate, List.length_cons, List.length_nil, List.length_map, toS_length, toI_length] at *; omega) | decide)) (k := ?_)
  have hpm_94121 := rsPad_mod s
  have hpl_94121 := rsPad_len s
  refine JL_q (q_assign) (k := ?_)
  refine JL_nil ?_
  refine JX_seq ?_
  refine J_seq ?_
  refine J_reg ?_
  refine JL_q (q_buildA (cs := [_, _, _, _, _, _, _, _]) Tryd.zeroValue73 PL_73) (k := ?_)
  refine JL_a noMk (a_alloc (l := [_, _, _, _, _, _, _, _]) Tryd.zeroValue73) (k := fun r1 hr1 => ?_)
  refine JL_s (w_store (l' := [_, _, _, _, _, _, _, _]) Tryd.sizeOf73) (k := ?_)
  refine JL_nil ?_
  refine JX_seq ?_
  refine J_seq ?_
  refine J_seq ?_
  refine J_reg ?_
  refine JL_q (q_assign) (k := ?_)
  refine JL_nil ?_
  refine JX_seq ?_
  refine J_block ?_
  refine J_loop10 (σ1 := Nat) (σ2 := Nat) (σ3 := Int) (σ4 := Int) (σ5 := Int) (σ6 := Int) (σ7 := Int) (σ8 := Int) (σ9 := Int) (σ10 := Int) (fun n_10 at_1 x_2 x_3 x_4 x_5 x_6 x_7 x_8 x_9 => ((r1, Obj.cells [(Value.int .u32 (x_2)), (Value.int .u32 (x_3)), (Value.int .u32 (x_4)), (Value.int .u32 (x_5)), (Value.int .u32 (x_6)), (Value.int .u32 (x_7)), (Value.int .u32 (x_8)), (Value.int .u32 (x_9))].toArray 73) :: [])) (fun n_10 at_1 x_2 x_3 x_4 x_5 x_6 x_7 x_8 x_9 => [(0, (Value.string (bs (rsPad s)))), (2, (Value.string (bs ([] : Str)))), (3, (Value.pointer (some ⟨r1, 0, none⟩))), (4, (Value.int .i64 (((at_1 : Nat) : Int))))]) (fun n_10 at_1 x_2 x_3 x_4 x_5 x_6 x_7 x_8 x_9 => ((rsPad s).length) - at_1 < n_10 ∧ Is (rsSum_l0 s (((rsPad s).length) + 1) 0 1779033703 3144134277 1013904242 2773480762 1359893119 2600822924 528734635 1541459225) (rsSum_l0 s n_10 at_1 x_2 x_3 x_4 x_5 x_6 x_7 x_8 x_9) ∧ at_1 % 64 = 0) (fun n_10 at_1 x_2 x_3 x_4 x_5 x_6 x_7 x_8 x_9 => n_10) (((rsPad s).length) + 1) 0 1779033703 3144134277 1013904242 2773480762 1359893119 2600822924 528734635 1541459225 ?_ (by repeat (first | exact SubE.nil | refine SubE.cons rfl ?_)) (List.Perm.refl _) ?_
  · exact ⟨Nat.lt_succ_self _, Is.refl _, (by first | omega | rfl | (simp; done))⟩
  · rintro (_ | n_10) at_1 x_2 x_3 x_4 x_5 x_6 x_7 x_8 x_9 ⟨hm12, hF11, hi13⟩
    · omega
    refine J_seq ?_
    refine J_seq ?_
    refine J_reg ?_
    refine JL_q (q_move) (k := ?_)
    refine JL_q (q_move) (k := ?_)
    refine JL_q (q_lenT Tryd.runUnderlying9) (k := ?_)
    refine JL_q (q_lss) (k := ?_)
    refine JL_nil ?_
    refine JX_seq ?_
    refine J_dec rfl (fun hq1 => ?_) (fun hq1 => ?_)
    rotate_left
    · refine J_exit ?_
      refine JX_seq_exit ?_
      refine JX_inv_exit ?_
      refine JX_block_hit ?_
      refine JX_seq ?_
      refine J_seq ?_
      refine J_reg ?_
      refine JL_q (q_assign) (k := ?_)
      refine JL_nil ?_
      refine JX_seq ?_
      refine J_seq ?_
      refine J_seq ?_
      refine J_reg ?_
      refine JL_q (q_assign) (k := ?_)
      refine JL_nil ?_
      refine JX_seq ?_
      refine J_block ?_
      refine J_unroll ?_
      refine J_seq ?_
      refine J_seq ?_
      refine J_reg ?_
      refine JL_q (q_move) (k := ?_)
      refine JL_q (q_lss) (k := ?_)
      refine JL_nil ?_
      refine JX_seq ?_
      refine J_true rfl ?_
      refine J_skip ?_
      refine JX_seq ?_
      refine J_seq ?_
      refine J_block ?_
      refine J_seq ?_
      refine J_reg ?_
      refine JL_q (q_move) (k := ?_)
      refine JL_q (q_idxP (m := 0) Tryd.runUnderlying73 Tryd.sizeOf48) (k := ?_)
      refine JL_q (q_load Tryd.isAgg48) (k := ?_)
      refine JL_q (q_assign) (k := ?_)
      refine JL_nil ?_
      refine JX_seq ?_
      refine J_reg ?_
      refine JL_q (q_move) (k := ?_)
      refine JL_q (q_move) (k := ?_)
      refine JL_q (q_shrW) (k := ?_)
      refine JL_q (q_conv rfl Tryd.runUnderlying48 Tryd.runUnderlying5) (k := ?_)
      refine JL_q (q_move) (k := ?_)
      refine JL_q (q_shrW) (k := ?_)
      refine JL_q (q_conv rfl Tryd.runUnderlying48 Tryd.runUnderlying5) (k := ?_)
      refine JL_q (q_move) (k := ?_)
      refine JL_q (q_shrW) (k := ?_)
      refine JL_q (q_conv rfl Tryd.runUnderlying48 Tryd.runUnderlying5) (k := ?_)
      refine JL_q (q_move) (k := ?_)
      refine JL_q (q_conv rfl Tryd.runUnderlying48 Tryd.runUnderlying5) (k := ?_)
      refine JL_a noMk (a_bslice (l := [_, _, _, _]) Tryd.runUnderlying33 Tryd.sizeOf5 Tryd.zeroValue5) (k := fun r4 hr4 => ?_)
      refine JL_q (q_str Tryd.underlying9 Tryd.underlying33 Tryd.underlying5 (SlJ.lit (xs := ([(IntKind.u8.wrap (shrI .u32 x_2 24)), (IntKind.u8.wrap (shrI .u32 x_2 16)), (IntKind.u8.wrap (shrI .u32 x_2 8)), (IntKind.u8.wrap x_2)] : List Int)) eI_u8_ok)) (k := ?_)
      refine JL_q (q_addT (s := ([] : Str)) (s' := (toS ([(IntKind.u8.wrap (shrI .u32 x_2 24)), (IntKind.u8.wrap (shrI .u32 x_2 16)), (IntKind.u8.wrap (shrI .u32 x_2 8)), (IntKind.u8.wrap x_2)] : List Int))) (h := by first | omega | (simp only [List.length_append, List.length_take, List.length_drop, List.length_set, List.length_replicate, List.length_cons, List.length_nil, List.length_map, toS_length, toI_length]; omega) | (simp only [List.length_append, List.length_take, List.length_drop, List.length_set, List.length_replicate, List.length_cons, List.length_nil, List.length_map, toS_length, toI_length] at *; omega))) (k := ?_)
      have hsa10 : (([] : Str) ++ (toS ([(IntKind.u8.wrap (shrI .u32 x_2 24)), (IntKind.u8.wrap (shrI .u32 x_2 16)), (IntKind.u8.wrap (shrI .u32 x_2 8)), (IntKind.u8.wrap x_2)] : List Int))).length = 0 + (toS ([(IntKind.u8.wrap (shrI .u32 x_2 24)), (IntKind.u8.wrap (shrI .u32 x_2 16)), (IntKind.u8.wrap (shrI .u32 x_2 8)), (IntKind.u8.wrap x_2)] : List Int)).length := by simp only [List.length_append, List.length_cons, List.length_nil, Nat.zero_add]
      refine JL_q (q_assign) (k := ?_)
      refine JL_nil ?_
      refine JX_block ?_
      refine JX_seq ?_
      refine J_reg ?_
      refine JL_q (q_move) (k := ?_)
      refine JL_q (q_add) (k := ?_)
      refine JL_q (q_assign) (k := ?_)
      refine JL_nil ?_
      refine JX_again ?_
      refine J_seq ?_
      refine J_seq ?_
      refine J_reg ?_
      refine JL_q (q_move) (k := ?_)
      refine JL_q (q_lss) (k := ?_)
      refine JL_nil ?_
      refine JX_seq ?_
      refine J_true rfl ?_
      refine J_skip ?_
      refine JX_seq ?_
      refine J_seq ?_
      refine J_block ?_
      refine J_seq ?_
      refine J_reg ?_
      refine JL_q (q_move) (k := ?_)
      refine JL_q (q_idxP (m := 1) Tryd.runUnderlying73 Tryd.sizeOf48) (k := ?_)
      refine JL_q (q_load Tryd.isAgg48) (k := ?_)
      refine JL_q (q_assign) (k := ?_)
      refine JL_nil ?_
      refine JX_seq ?_
      refine J_reg ?_
      refine JL_q (q_move) (k := ?_)
      refine JL_q (q_move) (k := ?_)
      refine JL_q (q_shrW) (k := ?_)
      refine JL_q (q_conv rfl Tryd.runUnderlying48 Tryd.runUnderlying5) (k := ?_)
      refine JL_q (q_move) (k := ?_)
      refine JL_q (q_shrW) (k := ?_)
      refine JL_q (q_conv rfl Tryd.runUnderlying48 Tryd.runUnderlying5) (k := ?_)
      refine JL_q (q_move) (k := ?_)
      refine JL_q (q_shrW) (k := ?_)
      refine JL_q (q_conv rfl Tryd.runUnderlying48 Tryd.runUnderlying5) (k := ?_)
      refine JL_q (q_move) (k := ?_)
      refine JL_q (q_conv rfl Tryd.runUnderlying48 Tryd.runUnderlying5) (k := ?_)
      refine JL_a noMk (a_bslice (l := [_, _, _, _]) Tryd.runUnderlying33 Tryd.sizeOf5 Tryd.zeroValue5) (k := fun r5 hr5 => ?_)
      refine JL_q (q_str Tryd.underlying9 Tryd.underlying33 Tryd.underlying5 (SlJ.lit (xs := ([(IntKind.u8.wrap (shrI .u32 x_3 24)), (IntKind.u8.wrap (shrI .u32 x_3 16)), (IntKind.u8.wrap (shrI .u32 x_3 8)), (IntKind.u8.wrap x_3)] : List Int)) eI_u8_ok)) (k := ?_)
      refine JL_q (q_addT (s := (([] : Str) ++ (toS ([(IntKind.u8.wrap (shrI .u32 x_2 24)), (IntKind.u8.wrap (shrI .u32 x_2 16)), (IntKind.u8.wrap (shrI .u32 x_2 8)), (IntKind.u8.wrap x_2)] : List Int)))) (s' := (toS ([(IntKind.u8.wrap (shrI .u32 x_3 24)), (IntKind.u8.wrap (shrI .u32 x_3 16)), (IntKind.u8.wrap (shrI .u32 x_3 8)), (IntKind.u8.wrap x_3)] : List Int))) (h := by first | omega | (simp only [List.length_append, List.length_take, List.length_drop, List.length_set, List.length_replicate, List.length_cons, List.length_nil, List.length_map, toS_length, toI_length]; omega) | (simp only [List.length_append, List.length_take, List.length_drop, List.length_set, List.length_replicate, List.length_cons, List.length_nil, List.length_map, toS_length, toI_length] at *; omega))) (k := ?_)
      have hsa11 : ((([] : Str) ++ (toS ([(IntKind.u8.wrap (shrI .u32 x_2 24)), (IntKind.u8.wrap (shrI .u32 x_2 16)), (IntKind.u8.wrap (shrI .u32 x_2 8)), (IntKind.u8.wrap x_2)] : List Int))) ++ (toS ([(IntKind.u8.wrap (shrI .u32 x_3 24)), (IntKind.u8.wrap (shrI .u32 x_3 16)), (IntKind.u8.wrap (shrI .u32 x_3 8)), (IntKind.u8.wrap x_3)] : List Int))).length = (([] : Str) ++ (toS ([(IntKind.u8.wrap (shrI .u32 x_2 24)), (IntKind.u8.wrap (shrI .u32 x_2 16)), (IntKind.u8.wrap (shrI .u32 x_2 8)), (IntKind.u8.wrap x_2)] : List Int))).length + (toS ([(IntKind.u8.wrap (shrI .u32 x_3 24)), (IntKind.u8.wrap (shrI .u32 x_3 16)), (IntKind.u8.wrap (shrI .u32 x_3 8)), (IntKind.u8.wrap x_3)] : List Int)).length := by simp only [List.length_append, List.length_cons, List.length_nil, Nat.zero_add]
      refine JL_q (q_assign) (k := ?_)
      refine JL_nil ?_
      refine JX_block ?_
      refine JX_seq ?_
      refine J_reg ?_
      refine JL_q (q_move) (k := ?_)
      refine JL_q (q_add) (k := ?_)
      refine JL_q (q_assign) (k := ?_)
      refine JL_nil ?_
      refine JX_again ?_
      refine J_seq ?_
      refine J_seq ?_
      refine J_reg ?_
      refine JL_q (q_move) (k := ?_)
      refine JL_q (q_lss) (k := ?_)
      refine JL_nil ?_
      refine JX_seq ?_
      refine J_true rfl ?_
      refine J_skip ?_
      refine JX_seq ?_
      refine J_seq ?_
      refine J_block ?_
      refine J_seq ?_
      refine J_reg ?_
      refine JL_q (q_move) (k := ?_)
      refine JL_q (q_idxP (m := 2) Tryd.runUnderlying73 Tryd.sizeOf48) (k := ?_)
      refine JL_q (q_load Tryd.isAgg48) (k := ?_)
      refine JL_q (q_assign) (k := ?_)
      refine JL_nil ?_
      refine JX_seq ?_
      refine J_reg ?_
      refine JL_q (q_move) (k := ?_)
      refine JL_q (q_move) (k := ?_)
      refine JL_q (q_shrW) (k := ?_)
      refine JL_q (q_conv rfl Tryd.runUnderlying48 Tryd.runUnderlying5) (k := ?_)
      refine JL_q (q_move) (k := ?_)
      refine JL_q (q_shrW) (k := ?_)
      refine JL_q (q_conv rfl Tryd.runUnderlying48 Tryd.runUnderlying5) (k := ?_)
      refine JL_q (q_move) (k := ?_)
      refine JL_q (q_shrW) (k := ?_)
      refine JL_q (q_conv rfl Tryd.runUnderlying48 Tryd.runUnderlying5) (k := ?_)
      refine JL_q (q_move) (k := ?_)
      refine JL_q (q_conv rfl Tryd.runUnderlying48 Tryd.runUnderlying5) (k := ?_)
      refine JL_a noMk (a_bslice (l := [_, _, _, _]) Tryd.runUnderlying33 Tryd.sizeOf5 Tryd.zeroValue5) (k := fun r6 hr6 => ?_)
      refine JL_q (q_str Tryd.underlying9 Tryd.underlying33 Tryd.underlying5 (SlJ.lit (xs := ([(IntKind.u8.wrap (shrI .u32 x_4 24)), (IntKind.u8.wrap (shrI .u32 x_4 16)), (IntKind.u8.wrap (shrI .u32 x_4 8)), (IntKind.u8.wrap x_4)] : List Int)) eI_u8_ok)) (k := ?_)
      refine JL_q (q_addT (s := ((([] : Str) ++ (toS ([(IntKind.u8.wrap (shrI .u32 x_2 24)), (IntKind.u8.wrap (shrI .u32 x_2 16)), (IntKind.u8.wrap (shrI .u32 x_2 8)), (IntKind.u8.wrap x_2)] : List Int))) ++ (toS ([(IntKind.u8.wrap (shrI .u32 x_3 24)), (IntKind.u8.wrap (shrI .u32 x_3 16)), (IntKind.u8.wrap (shrI .u32 x_3 8)), (IntKind.u8.wrap x_3)] : List Int)))) (s' := (toS ([(IntKind.u8.wrap (shrI .u32 x_4 24)), (IntKind.u8.wrap (shrI .u32 x_4 16)), (IntKind.u8.wrap (shrI .u32 x_4 8)), (IntKind.u8.wrap x_4)] : List Int))) (h := by first | omega | (simp only [List.length_append, List.length_take, List.length_drop, List.length_set, List.length_replicate, List.length_cons, List.length_nil, List.length_map, toS_length, toI_length]; omega) | (simp only [List.length_append, List.length_take, List.length_drop, List.length_set, List.length_replicate, List.length_cons, List.length_nil, List.length_map, toS_length, toI_length] at *; omega))) (k := ?_)
      have hsa12 : (((([] : Str) ++ (toS ([(IntKind.u8.wrap (shrI .u32 x_2 24)), (IntKind.u8.wrap (shrI .u32 x_2 16)), (IntKind.u8.wrap (shrI .u32 x_2 8)), (IntKind.u8.wrap x_2)] : List Int))) ++ (toS ([(IntKind.u8.wrap (shrI .u32 x_3 24)), (IntKind.u8.wrap (shrI .u32 x_3 16)), (IntKind.u8.wrap (shrI .u32 x_3 8)), (IntKind.u8.wrap x_3)] : List Int))) ++ (toS ([(IntKind.u8.wrap (shrI .u32 x_4 24)), (IntKind.u8.wrap (shrI .u32 x_4 16)), (IntKind.u8.wrap (shrI .u32 x_4 8)), (IntKind.u8.wrap x_4)] : List Int))).length = ((([] : Str) ++ (toS ([(IntKind.u8.wrap (shrI .u32 x_2 24)), (IntKind.u8.wrap (shrI .u32 x_2 16)), (IntKind.u8.wrap (shrI .u32 x_2 8)), (IntKind.u8.wrap x_2)] : List Int))) ++ (toS ([(IntKind.u8.wrap (shrI .u32 x_3 24)), (IntKind.u8.wrap (shrI .u32 x_3 16)), (IntKind.u8.wrap (shrI .u32 x_3 8)), (IntKind.u8.wrap x_3)] : List Int))).length + (toS ([(IntKind.u8.wrap (shrI .u32 x_4 24)), (IntKind.u8.wrap (shrI .u32 x_4 16)), (IntKind.u8.wrap (shrI .u32 x_4 8)), (IntKind.u8.wrap x_4)] : List Int)).length := by simp only [List.length_append, List.length_cons, List.length_nil, Nat.zero_add]
      refine JL_q (q_assign) (k := ?_)
      refine JL_nil ?_
      refine JX_block ?_
      refine JX_seq ?_
      refine J_reg ?_
      refine JL_q (q_move) (k := ?_)
      refine JL_q (q_add) (k := ?_)
      refine JL_q (q_assign) (k := ?_)
      refine JL_nil ?_
      refine JX_again ?_
      refine J_seq ?_
      refine J_seq ?_
      refine J_reg ?_
      refine JL_q (q_move) (k := ?_)
      refine JL_q (q_lss) (k := ?_)
      refine JL_nil ?_
      refine JX_seq ?_
      refine J_true rfl ?_
      refine J_skip ?_
      refine JX_seq ?_
      refine J_seq ?_
      refine J_block ?_
      refine J_seq ?_
      refine J_reg ?_
      refine JL_q (q_move) (k := ?_)
      refine JL_q (q_idxP (m := 3) Tryd.runUnderlying73 Tryd.sizeOf48) (k := ?_)
      refine JL_q (q_load Tryd.isAgg48) (k := ?_)
      refine JL_q (q_assign) (k := ?_)
      refine JL_nil ?_
      refine JX_seq ?_
      refine J_reg ?_
      refine JL_q (q_move) (k := ?_)
      refine JL_q (q_move) (k := ?_)
      refine JL_q (q_shrW) (k := ?_)
      refine JL_q (q_conv rfl Tryd.runUnderlying48 Tryd.runUnderlying5) (k := ?_)
      refine JL_q (q_move) (k := ?_)
      refine JL_q (q_shrW) (k := ?_)
      refine JL_q (q_conv rfl Tryd.runUnderlying48 Tryd.runUnderlying5) (k := ?_)
      refine JL_q (q_move) (k := ?_)
      refine JL_q (q_shrW) (k := ?_)
      refine JL_q (q_conv rfl Tryd.runUnderlying48 Tryd.runUnderlying5) (k := ?_)
      refine JL_q (q_move) (k := ?_)
      refine JL_q (q_conv rfl Tryd.runUnderlying48 Tryd.runUnderlying5) (k := ?_)
      refine JL_a noMk (a_bslice (l := [_, _, _, _]) Tryd.runUnderlying33 Tryd.sizeOf5 Tryd.zeroValue5) (k := fun r7 hr7 => ?_)
      refine JL_q (q_str Tryd.underlying9 Tryd.underlying33 Tryd.underlying5 (SlJ.lit (xs := ([(IntKind.u8.wrap (shrI .u32 x_5 24)), (IntKind.u8.wrap (shrI .u32 x_5 16)), (IntKind.u8.wrap (shrI .u32 x_5 8)), (IntKind.u8.wrap x_5)] : List Int)) eI_u8_ok)) (k := ?_)
      refine JL_q (q_addT (s := (((([] : Str) ++ (toS ([(IntKind.u8.wrap (shrI .u32 x_2 24)), (IntKind.u8.wrap (shrI .u32 x_2 16)), (IntKind.u8.wrap (shrI .u32 x_2 8)), (IntKind.u8.wrap x_2)] : List Int))) ++ (toS ([(IntKind.u8.wrap (shrI .u32 x_3 24)), (IntKind.u8.wrap (shrI .u32 x_3 16)), (IntKind.u8.wrap (shrI .u32 x_3 8)), (IntKind.u8.wrap x_3)] : List Int))) ++ (toS ([(IntKind.u8.wrap (shrI .u32 x_4 24)), (IntKind.u8.wrap (shrI .u32 x_4 16)), (IntKind.u8.wrap (shrI .u32 x_4 8)), (IntKind.u8.wrap x_4)] : List Int)))) (s' := (toS ([(IntKind.u8.wrap (shrI .u32 x_5 24)), (IntKind.u8.wrap (shrI .u32 x_5 16)), (IntKind.u8.wrap (shrI .u32 x_5 8)), (IntKind.u8.wrap x_5)] : List Int))) (h := by first | omega | (simp only [List.length_append, List.length_take, List.length_drop, List.length_set, List.length_replicate, List.length_cons, List.length_nil, List.length_map, toS_length, toI_length]; omega) | (simp only [List.length_append, List.length_take, List.length_drop, List.length_set, List.length_replicate, List.length_cons, List.length_nil, List.length_map, toS_length, toI_length] at *; omega))) (k := ?_)
      have hsa13 : ((((([] : Str) ++ (toS ([(IntKind.u8.wrap (shrI .u32 x_2 24)), (IntKind.u8.wrap (shrI .u32 x_2 16)), (IntKind.u8.wrap (shrI .u32 x_2 8)), (IntKind.u8.wrap x_2)] : List Int))) ++ (toS ([(IntKind.u8.wrap (shrI .u32 x_3 24)), (IntKind.u8.wrap (shrI .u32 x_3 16)), (IntKind.u8.wrap (shrI .u32 x_3 8)), (IntKind.u8.wrap x_3)] : List Int))) ++ (toS ([(IntKind.u8.wrap (shrI .u32 x_4 24)), (IntKind.u8.wrap (shrI .u32 x_4 16)), (IntKind.u8.wrap (shrI .u32 x_4 8)), (IntKind.u8.wrap x_4)] : List Int))) ++ (toS ([(IntKind.u8.wrap (shrI .u32 x_5 24)), (IntKind.u8.wrap (shrI .u32 x_5 16)), (IntKind.u8.wrap (shrI .u32 x_5 8)), (IntKind.u8.wrap x_5)] : List Int))).length = (((([] : Str) ++ (toS ([(IntKind.u8.wrap (shrI .u32 x_2 24)), (IntKind.u8.wrap (shrI .u32 x_2 16)), (IntKind.u8.wrap (shrI .u32 x_2 8)), (IntKind.u8.wrap x_2)] : List Int))) ++ (toS ([(IntKind.u8.wrap (shrI .u32 x_3 24)), (IntKind.u8.wrap (shrI .u32 x_3 16)), (IntKind.u8.wrap (shrI .u32 x_3 8)), (IntKind.u8.wrap x_3)] : List Int))) ++ (toS ([(IntKind.u8.wrap (shrI .u32 x_4 24)), (IntKind.u8.wrap (shrI .u32 x_4 16)), (IntKind.u8.wrap (shrI .u32 x_4 8)), (IntKind.u8.wrap x_4)] : List Int))).length + (toS ([(IntKind.u8.wrap (shrI .u32 x_5 24)), (IntKind.u8.wrap (shrI .u32 x_5 16)), (IntKind.u8.wrap (shrI .u32 x_5 8)), (IntKind.u8.wrap x_5)] : List Int)).length := by simp only [List.length_append, List.length_cons, List.length_nil, Nat.zero_add]
      refine JL_q (q_assign) (k := ?_)
      refine JL_nil ?_
      refine JX_block ?_
      refine JX_seq ?_
      refine J_reg ?_
      refine JL_q (q_move) (k := ?_)
      refine JL_q (q_add) (k := ?_)
      refine JL_q (q_assign) (k := ?_)
      refine JL_nil ?_
      refine JX_again ?_
      refine J_seq ?_
      refine J_seq ?_
      refine J_reg ?_
      refine JL_q (q_move) (k := ?_)
      refine JL_q (q_lss) (k := ?_)
      refine JL_nil ?_
      refine JX_seq ?_
      refine J_true rfl ?_
      refine J_skip ?_
      refine JX_seq ?_
      refine J_seq ?_
      refine J_block ?_
      refine J_seq ?_
      refine J_reg ?_
      refine JL_q (q_move) (k := ?_)
      refine JL_q (q_idxP (m := 4) Tryd.runUnderlying73 Tryd.sizeOf48) (k := ?_)
      refine JL_q (q_load Tryd.isAgg48) (k := ?_)
      refine JL_q (q_assign) (k := ?_)
      refine JL_nil ?_
      refine JX_seq ?_
      refine J_reg ?_
      refine JL_q (q_move) (k := ?_)
      refine JL_q (q_move) (k := ?_)
      refine JL_q (q_shrW) (k := ?_)
      refine JL_q (q_conv rfl Tryd.runUnderlying48 Tryd.runUnderlying5) (k := ?_)
      refine JL_q (q_move) (k := ?_)
      refine JL_q (q_shrW) (k := ?_)
      refine JL_q (q_conv rfl Tryd.runUnderlying48 Tryd.runUnderlying5) (k := ?_)
      refine JL_q (q_move) (k := ?_)
      refine JL_q (q_shrW) (k := ?_)
      refine JL_q (q_conv rfl Tryd.runUnderlying48 Tryd.runUnderlying5) (k := ?_)
      refine JL_q (q_move) (k := ?_)
      refine JL_q (q_conv rfl Tryd.runUnderlying48 Tryd.runUnderlying5) (k := ?_)
      refine JL_a noMk (a_bslice (l := [_, _, _, _]) Tryd.runUnderlying33 Tryd.sizeOf5 Tryd.zeroValue5) (k := fun r8 hr8 => ?_)
      refine JL_q (q_str Tryd.underlying9 Tryd.underlying33 Tryd.underlying5 (SlJ.lit (xs := ([(IntKind.u8.wrap (shrI .u32 x_6 24)), (IntKind.u8.wrap (shrI .u32 x_6 16)), (IntKind.u8.wrap (shrI .u32 x_6 8)), (IntKind.u8.wrap x_6)] : List Int)) eI_u8_ok)) (k := ?_)
      refine JL_q (q_addT (s := ((((([] : Str) ++ (toS ([(IntKind.u8.wrap (shrI .u32 x_2 24)), (IntKind.u8.wrap (shrI .u32 x_2 16)), (IntKind.u8.wrap (shrI .u32 x_2 8)), (IntKind.u8.wrap x_2)] : List Int))) ++ (toS ([(IntKind.u8.wrap (shrI .u32 x_3 24)), (IntKind.u8.wrap (shrI .u32 x_3 16)), (IntKind.u8.wrap (shrI .u32 x_3 8)), (IntKind.u8.wrap x_3)] : List Int))) ++ (toS ([(IntKind.u8.wrap (shrI .u32 x_4 24)), (IntKind.u8.wrap (shrI .u32 x_4 16)), (IntKind.u8.wrap (shrI .u32 x_4 8)), (IntKind.u8.wrap x_4)] : List Int))) ++ (toS ([(IntKind.u8.wrap (shrI .u32 x_5 24)), (IntKind.u8.wrap (shrI .u32 x_5 16)), (IntKind.u8.wrap (shrI .u32 x_5 8)), (IntKind.u8.wrap x_5)] : List Int)))) (s' := (toS ([(IntKind.u8.wrap (shrI .u32 x_6 24)), (IntKind.u8.wrap (shrI .u32 x_6 16)), (IntKind.u8.wrap (shrI .u32 x_6 8)), (IntKind.u8.wrap x_6)] : List Int))) (h := by first | omega | (simp only [List.length_append, List.length_take, List.length_drop, List.length_set, List.length_replicate, List.length_cons, List.length_nil, List.length_map, toS_length, toI_length]; omega) | (simp only [List.length_append, List.length_take, List.length_drop, List.length_set, List.length_replicate, List.length_cons, List.length_nil, List.length_map, toS_length, toI_length] at *; omega))) (k := ?_)
      have hsa14 : (((((([] : Str) ++ (toS ([(IntKind.u8.wrap (shrI .u32 x_2 24)), (IntKind.u8.wrap (shrI .u32 x_2 16)), (IntKind.u8.wrap (shrI .u32 x_2 8)), (IntKind.u8.wrap x_2)] : List Int))) ++ (toS ([(IntKind.u8.wrap (shrI .u32 x_3 24)), (IntKind.u8.wrap (shrI .u32 x_3 16)), (IntKind.u8.wrap (shrI .u32 x_3 8)), (IntKind.u8.wrap x_3)] : List Int))) ++ (toS ([(IntKind.u8.wrap (shrI .u32 x_4 24)), (IntKind.u8.wrap (shrI .u32 x_4 16)), (IntKind.u8.wrap (shrI .u32 x_4 8)), (IntKind.u8.wrap x_4)] : List Int))) ++ (toS ([(IntKind.u8.wrap (shrI .u32 x_5 24)), (IntKind.u8.wrap (shrI .u32 x_5 16)), (IntKind.u8.wrap (shrI .u32 x_5 8)), (IntKind.u8.wrap x_5)] : List Int))) ++ (toS ([(IntKind.u8.wrap (shrI .u32 x_6 24)), (IntKind.u8.wrap (shrI .u32 x_6 16)), (IntKind.u8.wrap (shrI .u32 x_6 8)), (IntKind.u8.wrap x_6)] : List Int))).length = ((((([] : Str) ++ (toS ([(IntKind.u8.wrap (shrI .u32 x_2 24)), (IntKind.u8.wrap (shrI .u32 x_2 16)), (IntKind.u8.wrap (shrI .u32 x_2 8)), (IntKind.u8.wrap x_2)] : List Int))) ++ (toS ([(IntKind.u8.wrap (shrI .u32 x_3 24)), (IntKind.u8.wrap (shrI .u32 x_3 16)), (IntKind.u8.wrap (shrI .u32 x_3 8)), (IntKind.u8.wrap x_3)] : List Int))) ++ (toS ([(IntKind.u8.wrap (shrI .u32 x_4 24)), (IntKind.u8.wrap (shrI .u32 x_4 16)), (IntKind.u8.wrap (shrI .u32 x_4 8)), (IntKind.u8.wrap x_4)] : List Int))) ++ (toS ([(IntKind.u8.wrap (shrI .u32 x_5 24)), (IntKind.u8.wrap (shrI .u32 x_5 16)), (IntKind.u8.wrap (shrI .u32 x_5 8)), (IntKind.u8.wrap x_5)] : List Int))).length + (toS ([(IntKind.u8.wrap (shrI .u32 x_6 24)), (IntKind.u8.wrap (shrI .u32 x_6 16)), (IntKind.u8.wrap (shrI .u32 x_6 8)), (IntKind.u8.wrap x_6)] : List Int)).length := by simp only [List.length_append, List.length_cons, List.length_nil, Nat.zero_add]
      refine JL_q (q_assign) (k := ?_)
      refine JL_nil ?_
      refine JX_block ?_
      refine JX_seq ?_
      refine J_reg ?_
      refine JL_q (q_move) (k := ?_)
      refine JL_q (q_add) (k := ?_)
      refine JL_q (q_assign) (k := ?_)
      refine JL_nil ?_
      refine JX_again ?_
      refine J_seq ?_
      refine J_seq ?_
      refine J_reg ?_
      refine JL_q (q_move) (k := ?_)
      refine JL_q (q_lss) (k := ?_)
      refine JL_nil ?_
      refine JX_seq ?_
      refine J_true rfl ?_
      refine J_skip ?_
      refine JX_seq ?_
      refine J_seq ?_
      refine J_block ?_
      refine J_seq ?_
      refine J_reg ?_
      refine JL_q (q_move) (k := ?_)
      refine JL_q (q_idxP (m := 5) Tryd.runUnderlying73 Tryd.sizeOf48) (k := ?_)
      refine JL_q (q_load Tryd.isAgg48) (k := ?_)
      refine JL_q (q_assign) (k := ?_)
      refine JL_nil ?_
      refine JX_seq ?_
      refine J_reg ?_
      refine JL_q (q_move) (k := ?_)
      refine JL_q (q_move) (k := ?_)
      refine JL_q (q_shrW) (k := ?_)
      refine JL_q (q_conv rfl Tryd.runUnderlying48 Tryd.runUnderlying5) (k := ?_)
      refine JL_q (q_move) (k := ?_)
      refine JL_q (q_shrW) (k := ?_)
      refine JL_q (q_conv rfl Tryd.runUnderlying48 Tryd.runUnderlying5) (k := ?_)
      refine JL_q (q_move) (k := ?_)
      refine JL_q (q_shrW) (k := ?_)
      refine JL_q (q_conv rfl Tryd.runUnderlying48 Tryd.runUnderlying5) (k := ?_)
      refine JL_q (q_move) (k := ?_)
      refine JL_q (q_conv rfl Tryd.runUnderlying48 Tryd.runUnderlying5) (k := ?_)
      refine JL_a noMk (a_bslice (l := [_, _, _, _]) Tryd.runUnderlying33 Tryd.sizeOf5 Tryd.zeroValue5) (k := fun r9 hr9 => ?_)
      refine JL_q (q_str Tryd.underlying9 Tryd.underlying33 Tryd.underlying5 (SlJ.lit (xs := ([(IntKind.u8.wrap (shrI .u32 x_7 24)), (IntKind.u8.wrap (shrI .u32 x_7 16)), (IntKind.u8.wrap (shrI .u32 x_7 8)), (IntKind.u8.wrap x_7)] : List Int)) eI_u8_ok)) (k := ?_)
      refine JL_q (q_addT (s := (((((([] : Str) ++ (toS ([(IntKind.u8.wrap (shrI .u32 x_2 24)), (IntKind.u8.wrap (shrI .u32 x_2 16)), (IntKind.u8.wrap (shrI .u32 x_2 8)), (IntKind.u8.wrap x_2)] : List Int))) ++ (toS ([(IntKind.u8.wrap (shrI .u32 x_3 24)), (IntKind.u8.wrap (shrI .u32 x_3 16)), (IntKind.u8.wrap (shrI .u32 x_3 8)), (IntKind.u8.wrap x_3)] : List Int))) ++ (toS ([(IntKind.u8.wrap (shrI .u32 x_4 24)), (IntKind.u8.wrap (shrI .u32 x_4 16)), (IntKind.u8.wrap (shrI .u32 x_4 8)), (IntKind.u8.wrap x_4)] : List Int))) ++ (toS ([(IntKind.u8.wrap (shrI .u32 x_5 24)), (IntKind.u8.wrap (shrI .u32 x_5 16)), (IntKind.u8.wrap (shrI .u32 x_5 8)), (IntKind.u8.wrap x_5)] : List Int))) ++ (toS ([(IntKind.u8.wrap (shrI .u32 x_6 24)), (IntKind.u8.wrap (shrI .u32 x_6 16)), (IntKind.u8.wrap (shrI .u32 x_6 8)), (IntKind.u8.wrap x_6)] : List Int)))) (s' := (toS ([(IntKind.u8.wrap (shrI .u32 x_7 24)), (IntKind.u8.wrap (shrI .u32 x_7 16)), (IntKind.u8.wrap (shrI .u32 x_7 8)), (IntKind.u8.wrap x_7)] : List Int))) (h := by first | omega | (simp only [List.length_append, List.length_take, List.length_drop, List.length_set, List.length_replicate, List.length_cons, List.length_nil, List.length_map, toS_length, toI_length]; omega) | (simp only [List.length_append, List.length_take, List.length_drop, List.length_set, List.length_replicate, List.length_cons, List.length_nil, List.length_map, toS_length, toI_length] at *; omega))) (k := ?_)
      have hsa15 : ((((((([] : Str) ++ (toS ([(IntKind.u8.wrap (shrI .u32 x_2 24)), (IntKind.u8.wrap (shrI .u32 x_2 16)), (IntKind.u8.wrap (shrI .u32 x_2 8)), (IntKind.u8.wrap x_2)] : List Int))) ++ (toS ([(IntKind.u8.wrap (shrI .u32 x_3 24)), (IntKind.u8.wrap (shrI .u32 x_3 16)), (IntKind.u8.wrap (shrI .u32 x_3 8)), (IntKind.u8.wrap x_3)] : List Int))) ++ (toS ([(IntKind.u8.wrap (shrI .u32 x_4 24)), (IntKind.u8.wrap (shrI .u32 x_4 16)), (IntKind.u8.wrap (shrI .u32 x_4 8)), (IntKind.u8.wrap x_4)] : List Int))) ++ (toS ([(IntKind.u8.wrap (shrI .u32 x_5 24)), (IntKind.u8.wrap (shrI .u32 x_5 16)), (IntKind.u8.wrap (shrI .u32 x_5 8)), (IntKind.u8.wrap x_5)] : List Int))) ++ (toS ([(IntKind.u8.wrap (shrI .u32 x_6 24)), (IntKind.u8.wrap (shrI .u32 x_6 16)), (IntKind.u8.wrap (shrI .u32 x_6 8)), (IntKind.u8.wrap x_6)] : List Int))) ++ (toS ([(IntKind.u8.wrap (shrI .u32 x_7 24)), (IntKind.u8.wrap (shrI .u32 x_7 16)), (IntKind.u8.wrap (shrI .u32 x_7 8)), (IntKind.u8.wrap x_7)] : List Int))).length = (((((([] : Str) ++ (toS ([(IntKind.u8.wrap (shrI .u32 x_2 24)), (IntKind.u8.wrap (shrI .u32 x_2 16)), (IntKind.u8.wrap (shrI .u32 x_2 8)), (IntKind.u8.wrap x_2)] : List Int))) ++ (toS ([(IntKind.u8.wrap (shrI .u32 x_3 24)), (IntKind.u8.wrap (shrI .u32 x_3 16)), (IntKind.u8.wrap (shrI .u32 x_3 8)), (IntKind.u8.wrap x_3)] : List Int))) ++ (toS ([(IntKind.u8.wrap (shrI .u32 x_4 24)), (IntKind.u8.wrap (shrI .u32 x_4 16)), (IntKind.u8.wrap (shrI .u32 x_4 8)), (IntKind.u8.wrap x_4)] : List Int))) ++ (toS ([(IntKind.u8.wrap (shrI .u32 x_5 24)), (IntKind.u8.wrap (shrI .u32 x_5 16)), (IntKind.u8.wrap (shrI .u32 x_5 8)), (IntKind.u8.wrap x_5)] : List Int))) ++ (toS ([(IntKind.u8.wrap (shrI .u32 x_6 24)), (IntKind.u8.wrap (shrI .u32 x_6 16)), (IntKind.u8.wrap (shrI .u32 x_6 8)), (IntKind.u8.wrap x_6)] : List Int))).length + (toS ([(IntKind.u8.wrap (shrI .u32 x_7 24)), (IntKind.u8.wrap (shrI .u32 x_7 16)), (IntKind.u8.wrap (shrI .u32 x_7 8)), (IntKind.u8.wrap x_7)] : List Int)).length := by simp only [List.length_append, List.length_cons, List.length_nil, Nat.zero_add]
      refine JL_q (q_assign) (k := ?_)
      refine JL_nil ?_
      refine JX_block ?_
      refine JX_seq ?_
      refine J_reg ?_
      refine JL_q (q_move) (k := ?_)
      refine JL_q (q_add) (k := ?_)
      refine JL_q (q_assign) (k := ?_)
      refine JL_nil ?_
      refine JX_again ?_
      refine J_seq ?_
      refine J_seq ?_
      refine J_reg ?_
      refine JL_q (q_move) (k := ?_)
      refine JL_q (q_lss) (k := ?_)
      refine JL_nil ?_
      refine JX_seq ?_
      refine J_true rfl ?_
      refine J_skip ?_
      refine JX_seq ?_
      refine J_seq ?_
      refine J_block ?_
      refine J_seq ?_
      refine J_reg ?_
      refine JL_q (q_move) (k := ?_)
      refine JL_q (q_idxP (m := 6) Tryd.runUnderlying73 Tryd.sizeOf48) (k := ?_)
      refine JL_q (q_load Tryd.isAgg48) (k := ?_)
      refine JL_q (q_assign) (k := ?_)
      refine JL_nil ?_
      refine JX_seq ?_
      refine J_reg ?_
      refine JL_q (q_move) (k := ?_)
      refine JL_q (q_move) (k := ?_)
      refine JL_q (q_shrW) (k := ?_)
      refine JL_q (q_conv rfl Tryd.runUnderlying48 Tryd.runUnderlying5) (k := ?_)
      refine JL_q (q_move) (k := ?_)
      refine JL_q (q_shrW) (k := ?_)
      refine JL_q (q_conv rfl Tryd.runUnderlying48 Tryd.runUnderlying5) (k := ?_)
      refine JL_q (q_move) (k := ?_)
      refine JL_q (q_shrW) (k := ?_)
      refine JL_q (q_conv rfl Tryd.runUnderlying48 Tryd.runUnderlying5) (k := ?_)
      refine JL_q (q_move) (k := ?_)
      refine JL_q (q_conv rfl Tryd.runUnderlying48 Tryd.runUnderlying5) (k := ?_)
      refine JL_a noMk (a_bslice (l := [_, _, _, _]) Tryd.runUnderlying33 Tryd.sizeOf5 Tryd.zeroValue5) (k := fun r10 hr10 => ?_)
      refine JL_q (q_str Tryd.underlying9 Tryd.underlying33 Tryd.underlying5 (SlJ.lit (xs := ([(IntKind.u8.wrap (shrI .u32 x_8 24)), (IntKind.u8.wrap (shrI .u32 x_8 16)), (IntKind.u8.wrap (shrI .u32 x_8 8)), (IntKind.u8.wrap x_8)] : List Int)) eI_u8_ok)) (k := ?_)
      refine JL_q (q_addT (s := ((((((([] : Str) ++ (toS ([(IntKind.u8.wrap (shrI .u32 x_2 24)), (IntKind.u8.wrap (shrI .u32 x_2 16)), (IntKind.u8.wrap (shrI .u32 x_2 8)), (IntKind.u8.wrap x_2)] : List Int))) ++ (toS ([(IntKind.u8.wrap (shrI .u32 x_3 24)), (IntKind.u8.wrap (shrI .u32 x_3 16)), (IntKind.u8.wrap (shrI .u32 x_3 8)), (IntKind.u8.wrap x_3)] : List Int))) ++ (toS ([(IntKind.u8.wrap (shrI .u32 x_4 24)), (IntKind.u8.wrap (shrI .u32 x_4 16)), (IntKind.u8.wrap (shrI .u32 x_4 8)), (IntKind.u8.wrap x_4)] : List Int))) ++ (toS ([(IntKind.u8.wrap (shrI .u32 x_5 24)), (IntKind.u8.wrap (shrI .u32 x_5 16)), (IntKind.u8.wrap (shrI .u32 x_5 8)), (IntKind.u8.wrap x_5)] : List Int))) ++ (toS ([(IntKind.u8.wrap (shrI .u32 x_6 24)), (IntKind.u8.wrap (shrI .u32 x_6 16)), (IntKind.u8.wrap (shrI .u32 x_6 8)), (IntKind.u8.wrap x_6)] : List Int))) ++ (toS ([(IntKind.u8.wrap (shrI .u32 x_7 24)), (IntKind.u8.wrap (shrI .u32 x_7 16)), (IntKind.u8.wrap (shrI .u32 x_7 8)), (IntKind.u8.wrap x_7)] : List Int)))) (s' := (toS ([(IntKind.u8.wrap (shrI .u32 x_8 24)), (IntKind.u8.wrap (shrI .u32 x_8 16)), (IntKind.u8.wrap (shrI .u32 x_8 8)), (IntKind.u8.wrap x_8)] : List Int))) (h := by first | omega | (simp only [List.length_append, List.length_take, List.length_drop, List.length_set, List.length_replicate, List.length_cons, List.length_nil, List.length_map, toS_length, toI_length]; omega) | (simp only [List.length_append, List.length_take, List.length_drop, List.length_set, List.length_replicate, List.length_cons, List.length_nil, List.length_map, toS_length, toI_length] at *; omega))) (k := ?_)
      have hsa16 : (((((((([] : Str) ++ (toS ([(IntKind.u8.wrap (shrI .u32 x_2 24)), (IntKind.u8.wrap (shrI .u32 x_2 16)), (IntKind.u8.wrap (shrI .u32 x_2 8)), (IntKind.u8.wrap x_2)] : List Int))) ++ (toS ([(IntKind.u8.wrap (shrI .u32 x_3 24)), (IntKind.u8.wrap (shrI .u32 x_3 16)), (IntKind.u8.wrap (shrI .u32 x_3 8)), (IntKind.u8.wrap x_3)] : List Int))) ++ (toS ([(IntKind.u8.wrap (shrI .u32 x_4 24)), (IntKind.u8.wrap (shrI .u32 x_4 16)), (IntKind.u8.wrap (shrI .u32 x_4 8)), (IntKind.u8.wrap x_4)] : List Int))) ++ (toS ([(IntKind.u8.wrap (shrI .u32 x_5 24)), (IntKind.u8.wrap (shrI .u32 x_5 16)), (IntKind.u8.wrap (shrI .u32 x_5 8)), (IntKind.u8.wrap x_5)] : List Int))) ++ (toS ([(IntKind.u8.wrap (shrI .u32 x_6 24)), (IntKind.u8.wrap (shrI .u32 x_6 16)), (IntKind.u8.wrap (shrI .u32 x_6 8)), (IntKind.u8.wrap x_6)] : List Int))) ++ (toS ([(IntKind.u8.wrap (shrI .u32 x_7 24)), (IntKind.u8.wrap (shrI .u32 x_7 16)), (IntKind.u8.wrap (shrI .u32 x_7 8)), (IntKind.u8.wrap x_7)] : List Int))) ++ (toS ([(IntKind.u8.wrap (shrI .u32 x_8 24)), (IntKind.u8.wrap (shrI .u32 x_8 16)), (IntKind.u8.wrap (shrI .u32 x_8 8)), (IntKind.u8.wrap x_8)] : List Int))).length = ((((((([] : Str) ++ (toS ([(IntKind.u8.wrap (shrI .u32 x_2 24)), (IntKind.u8.wrap (shrI .u32 x_2 16)), (IntKind.u8.wrap (shrI .u32 x_2 8)), (IntKind.u8.wrap x_2)] : List Int))) ++ (toS ([(IntKind.u8.wrap (shrI .u32 x_3 24)), (IntKind.u8.wrap (shrI .u32 x_3 16)), (IntKind.u8.wrap (shrI .u32 x_3 8)), (IntKind.u8.wrap x_3)] : List Int))) ++ (toS ([(IntKind.u8.wrap (shrI .u32 x_4 24)), (IntKind.u8.wrap (shrI .u32 x_4 16)), (IntKind.u8.wrap (shrI .u32 x_4 8)), (IntKind.u8.wrap x_4)] : List Int))) ++ (toS ([(IntKind.u8.wrap (shrI .u32 x_5 24)), (IntKind.u8.wrap (shrI .u32 x_5 16)), (IntKind.u8.wrap (shrI .u32 x_5 8)), (IntKind.u8.wrap x_5)] : List Int))) ++ (toS ([(IntKind.u8.wrap (shrI .u32 x_6 24)), (IntKind.u8.wrap (shrI .u32 x_6 16)), (IntKind.u8.wrap (shrI .u32 x_6 8)), (IntKind.u8.wrap x_6)] : List Int))) ++ (toS ([(IntKind.u8.wrap (shrI .u32 x_7 24)), (IntKind.u8.wrap (shrI .u32 x_7 16)), (IntKind.u8.wrap (shrI .u32 x_7 8)), (IntKind.u8.wrap x_7)] : List Int))).length + (toS ([(IntKind.u8.wrap (shrI .u32 x_8 24)), (IntKind.u8.wrap (shrI .u32 x_8 16)), (IntKind.u8.wrap (shrI .u32 x_8 8)), (IntKind.u8.wrap x_8)] : List Int)).length := by simp only [List.length_append, List.length_cons, List.length_nil, Nat.zero_add]
      refine JL_q (q_assign) (k := ?_)
      refine JL_nil ?_
      refine JX_block ?_
      refine JX_seq ?_
      refine J_reg ?_
      refine JL_q (q_move) (k := ?_)
      refine JL_q (q_add) (k := ?_)
      refine JL_q (q_assign) (k := ?_)
      refine JL_nil ?_
      refine JX_again ?_
      refine J_seq ?_
      refine J_seq ?_
      refine J_reg ?_
      refine JL_q (q_move) (k := ?_)
      refine JL_q (q_lss) (k := ?_)
      refine JL_nil ?_
      refine JX_seq ?_
      refine J_true rfl ?_
      refine J_skip ?_
      refine JX_seq ?_
      refine J_seq ?_
      refine J_block ?_
      refine J_seq ?_
      refine J_reg ?_
      refine JL_q (q_move) (k := ?_)
      refine JL_q (q_idxP (m := 7) Tryd.runUnderlying73 Tryd.sizeOf48) (k := ?_)
      refine JL_q (q_load Tryd.isAgg48) (k := ?_)
      refine JL_q (q_assign) (k := ?_)
      refine JL_nil ?_
      refine JX_seq ?_
      refine J_reg ?_
      refine JL_q (q_move) (k := ?_)
      refine JL_q (q_move) (k := ?_)
      refine JL_q (q_shrW) (k := ?_)
      refine JL_q (q_conv rfl Tryd.runUnderlying48 Tryd.runUnderlying5) (k := ?_)
      refine JL_q (q_move) (k := ?_)
      refine JL_q (q_shrW) (k := ?_)
      refine JL_q (q_conv rfl Tryd.runUnderlying48 Tryd.runUnderlying5) (k := ?_)
      refine JL_q (q_move) (k := ?_)
      refine JL_q (q_shrW) (k := ?_)
      refine JL_q (q_conv rfl Tryd.runUnderlying48 Tryd.runUnderlying5) (k := ?_)
      refine JL_q (q_move) (k := ?_)
      refine JL_q (q_conv rfl Tryd.runUnderlying48 Tryd.runUnderlying5) (k := ?_)
      refine JL_a noMk (a_bslice (l := [_, _, _, _]) Tryd.runUnderlying33 Tryd.sizeOf5 Tryd.zeroValue5) (k := fun r11 hr11 => ?_)
      refine JL_q (q_str Tryd.underlying9 Tryd.underlying33 Tryd.underlying5 (SlJ.lit (xs := ([(IntKind.u8.wrap (shrI .u32 x_9 24)), (IntKind.u8.wrap (shrI .u32 x_9 16)), (IntKind.u8.wrap (shrI .u32 x_9 8)), (IntKind.u8.wrap x_9)] : List Int)) eI_u8_ok)) (k := ?_)
      refine JL_q (q_addT (s := (((((((([] : Str) ++ (toS ([(IntKind.u8.wrap (shrI .u32 x_2 24)), (IntKind.u8.wrap (shrI .u32 x_2 16)), (IntKind.u8.wrap (shrI .u32 x_2 8)), (IntKind.u8.wrap x_2)] : List Int))) ++ (toS ([(IntKind.u8.wrap (shrI .u32 x_3 24)), (IntKind.u8.wrap (shrI .u32 x_3 16)), (IntKind.u8.wrap (shrI .u32 x_3 8)), (IntKind.u8.wrap x_3)] : List Int))) ++ (toS ([(IntKind.u8.wrap (shrI .u32 x_4 24)), (IntKind.u8.wrap (shrI .u32 x_4 16)), (IntKind.u8.wrap (shrI .u32 x_4 8)), (IntKind.u8.wrap x_4)] : List Int))) ++ (toS ([(IntKind.u8.wrap (shrI .u32 x_5 24)), (IntKind.u8.wrap (shrI .u32 x_5 16)), (IntKind.u8.wrap (shrI .u32 x_5 8)), (IntKind.u8.wrap x_5)] : List Int))) ++ (toS ([(IntKind.u8.wrap (shrI .u32 x_6 24)), (IntKind.u8.wrap (shrI .u32 x_6 16)), (IntKind.u8.wrap (shrI .u32 x_6 8)), (IntKind.u8.wrap x_6)] : List Int))) ++ (toS ([(IntKind.u8.wrap (shrI .u32 x_7 24)), (IntKind.u8.wrap (shrI .u32 x_7 16)), (IntKind.u8.wrap (shrI .u32 x_7 8)), (IntKind.u8.wrap x_7)] : List Int))) ++ (toS ([(IntKind.u8.wrap (shrI .u32 x_8 24)), (IntKind.u8.wrap (shrI .u32 x_8 16)), (IntKind.u8.wrap (shrI .u32 x_8 8)), (IntKind.u8.wrap x_8)] : List Int)))) (s' := (toS ([(IntKind.u8.wrap (shrI .u32 x_9 24)), (IntKind.u8.wrap (shrI .u32 x_9 16)), (IntKind.u8.wrap (shrI .u32 x_9 8)), (IntKind.u8.wrap x_9)] : List Int))) (h := by first | omega | (simp only [List.length_append, List.length_take, List.length_drop, List.length_set, List.length_replicate, List.length_cons, List.length_nil, List.length_map, toS_length, toI_length]; omega) | (simp only [List.length_append, List.length_take, List.length_drop, List.length_set, List.length_replicate, List.length_cons, List.length_nil, List.length_map, toS_length, toI_length] at *; omega))) (k := ?_)
      have hsa17 : ((((((((([] : Str) ++ (toS ([(IntKind.u8.wrap (shrI .u32 x_2 24)), (IntKind.u8.wrap (shrI .u32 x_2 16)), (IntKind.u8.wrap (shrI .u32 x_2 8)), (IntKind.u8.wrap x_2)] : List Int))) ++ (toS ([(IntKind.u8.wrap (shrI .u32 x_3 24)), (IntKind.u8.wrap (shrI .u32 x_3 16)), (IntKind.u8.wrap (shrI .u32 x_3 8)), (IntKind.u8.wrap x_3)] : List Int))) ++ (toS ([(IntKind.u8.wrap (shrI .u32 x_4 24)), (IntKind.u8.wrap (shrI .u32 x_4 16)), (IntKind.u8.wrap (shrI .u32 x_4 8)), (IntKind.u8.wrap x_4)] : List Int))) ++ (toS ([(IntKind.u8.wrap (shrI .u32 x_5 24)), (IntKind.u8.wrap (shrI .u32 x_5 16)), (IntKind.u8.wrap (shrI .u32 x_5 8)), (IntKind.u8.wrap x_5)] : List Int))) ++ (toS ([(IntKind.u8.wrap (shrI .u32 x_6 24)), (IntKind.u8.wrap (shrI .u32 x_6 16)), (IntKind.u8.wrap (shrI .u32 x_6 8)), (IntKind.u8.wrap x_6)] : List Int))) ++ (toS ([(IntKind.u8.wrap (shrI .u32 x_7 24)), (IntKind.u8.wrap (shrI .u32 x_7 16)), (IntKind.u8.wrap (shrI .u32 x_7 8)), (IntKind.u8.wrap x_7)] : List Int))) ++ (toS ([(IntKind.u8.wrap (shrI .u32 x_8 24)), (IntKind.u8.wrap (shrI .u32 x_8 16)), (IntKind.u8.wrap (shrI .u32 x_8 8)), (IntKind.u8.wrap x_8)] : List Int))) ++ (toS ([(IntKind.u8.wrap (shrI .u32 x_9 24)), (IntKind.u8.wrap (shrI .u32 x_9 16)), (IntKind.u8.wrap (shrI .u32 x_9 8)), (IntKind.u8.wrap x_9)] : List Int))).length = (((((((([] : Str) ++ (toS ([(IntKind.u8.wrap (shrI .u32 x_2 24)), (IntKind.u8.wrap (shrI .u32 x_2 16)), (IntKind.u8.wrap (shrI .u32 x_2 8)), (IntKind.u8.wrap x_2)] : List Int))) ++ (toS ([(IntKind.u8.wrap (shrI .u32 x_3 24)), (IntKind.u8.wrap (shrI .u32 x_3 16)), (IntKind.u8.wrap (shrI .u32 x_3 8)), (IntKind.u8.wrap x_3)] : List Int))) ++ (toS ([(IntKind.u8.wrap (shrI .u32 x_4 24)), (IntKind.u8.wrap (shrI .u32 x_4 16)), (IntKind.u8.wrap (shrI .u32 x_4 8)), (IntKind.u8.wrap x_4)] : List Int))) ++ (toS ([(IntKind.u8.wrap (shrI .u32 x_5 24)), (IntKind.u8.wrap (shrI .u32 x_5 16)), (IntKind.u8.wrap (shrI .u32 x_5 8)), (IntKind.u8.wrap x_5)] : List Int))) ++ (toS ([(IntKind.u8.wrap (shrI .u32 x_6 24)), (IntKind.u8.wrap (shrI .u32 x_6 16)), (IntKind.u8.wrap (shrI .u32 x_6 8)), (IntKind.u8.wrap x_6)] : List Int))) ++ (toS ([(IntKind.u8.wrap (shrI .u32 x_7 24)), (IntKind.u8.wrap (shrI .u32 x_7 16)), (IntKind.u8.wrap (shrI .u32 x_7 8)), (IntKind.u8.wrap x_7)] : List Int))) ++ (toS ([(IntKind.u8.wrap (shrI .u32 x_8 24)), (IntKind.u8.wrap (shrI .u32 x_8 16)), (IntKind.u8.wrap (shrI .u32 x_8 8)), (IntKind.u8.wrap x_8)] : List Int))).length + (toS ([(IntKind.u8.wrap (shrI .u32 x_9 24)), (IntKind.u8.wrap (shrI .u32 x_9 16)), (IntKind.u8.wrap (shrI .u32 x_9 8)), (IntKind.u8.wrap x_9)] : List Int)).length := by simp only [List.length_append, List.length_cons, List.length_nil, Nat.zero_add]
      refine JL_q (q_assign) (k := ?_)
      refine JL_nil ?_
      refine JX_block ?_
      refine JX_seq ?_
      refine J_reg ?_
      refine JL_q (q_move) (k := ?_)
      refine JL_q (q_add) (k := ?_)
      refine JL_q (q_assign) (k := ?_)
      refine JL_nil ?_
      refine JX_again ?_
      refine J_seq ?_
      refine J_seq ?_
      refine J_reg ?_
      refine JL_q (q_move) (k := ?_)
      refine JL_q (q_lss) (k := ?_)
      refine JL_nil ?_
      refine JX_seq ?_
      refine J_false rfl ?_
      refine J_exit ?_
      refine JX_seq_exit ?_
      refine JX_inv_exit ?_
      refine JX_block_hit ?_
      refine JX_seq ?_
      refine J_seq ?_
      refine J_reg ?_
      refine JL_q (q_move) (k := ?_)
      refine JL_q (q_assign) (k := ?_)
      refine JL_nil ?_
      refine JX_seq ?_
      refine J_ret ?_
      refine JX_ret Tryd.results24 (Res.tmp rfl Res.nil) (fun w1 hw1 => ?_)
      exact ⟨(by rw [((hF.rn9 (hF11.neg hq1))).eq] <;> first | rfl | (simp only [List.length_set] <;> rfl)), hw1.ext_out⟩
    refine J_skip ?_
    refine JX_seq ?_
    refine J_seq ?_
    refine J_block ?_
    refine J_seq ?_
    refine J_reg ?_
    refine JL_a noMk (a_alloc (l := aI .u32 (List.replicate 64 (0 : Int))) Tryd.zeroValue74 (by kernel_rfl)) (k := fun r2 hr2 => ?_)
    have hrlr2 := List.length_replicate (n := 64) (a := (0 : Int))
    refine JL_nil ?_
    refine JX_seq ?_
    refine J_seq ?_
    refine J_seq ?_
    refine J_reg ?_
    refine JL_q (q_assign) (k := ?_)
    refine JL_nil ?_
    refine JX_seq ?_
    refine J_block ?_
    refine J_loop3 (σ1 := Nat) (σ2 := Nat) (σ3 := List Int) (fun n_16 i_14 x_15 => ((r2, Obj.cells (aI .u32 x_15).toArray 74) :: ((r1, Obj.cells [(Value.int .u32 (x_2)), (Value.int .u32 (x_3)), (Value.int .u32 (x_4)), (Value.int .u32 (x_5)), (Value.int .u32 (x_6)), (Value.int .u32 (x_7)), (Value.int .u32 (x_8)), (Value.int .u32 (x_9))].toArray 73) :: []))) (fun n_16 i_14 x_15 => [(0, (Value.string (bs (rsPad s)))), (2, (Value.string (bs ([] : Str)))), (3, (Value.pointer (some ⟨r1, 0, none⟩))), (4, (Value.int .i64 (((at_1 : Nat) : Int)))), (5, (Value.pointer (some ⟨r2, 0, none⟩))), (6, (Value.int .i64 (((i_14 : Nat) : Int))))]) (fun n_16 i_14 x_15 => 16 - i_14 < n_16 ∧ Is (rsSum_l1 s at_1 x_2 x_3 x_4 x_5 x_6 x_7 x_8 x_9 (16 + 1) 0 (List.replicate 64 (0 : Int))) (rsSum_l1 s at_1 x_2 x_3 x_4 x_5 x_6 x_7 x_8 x_9 n_16 i_14 x_15) ∧ x_15.length = 64 ∧ i_14 ≤ 16) (fun n_16 i_14 x_15 => n_16) (16 + 1) 0 (List.replicate 64 (0 : Int)) ?_ (by repeat (first | exact SubE.nil | refine SubE.cons rfl ?_)) (List.Perm.refl _) ?_
    · exact ⟨Nat.lt_succ_self _, Is.refl _, (by first | omega | (simp only [List.length_set]; omega) | (simp only [List.length_append, List.length_take, List.length_drop, List.length_set, List.length_replicate, List.length_cons, List.length_nil, List.length_map, toS_length, toI_length]; omega)), (by first | omega | rfl | (simp; done))⟩
    · rintro (_ | n_16) i_14 x_15 ⟨hm18, hF17, hx_15, hi19⟩
      · omega
      refine J_seq ?_
      refine J_seq ?_
      refine J_reg ?_
      refine JL_q (q_move) (k := ?_)
      refine JL_q (q_lss) (k := ?_)
      refine JL_nil ?_
      refine JX_seq ?_
      refine J_dec rfl (fun hq2 => ?_) (fun hq2 => ?_)
      · refine J_skip ?_
        refine JX_seq ?_
        refine J_seq ?_
        refine J_block ?_
        refine J_reg ?_
        refine JL_q (q_move) (k := ?_)
        refine JL_q (q_move) (k := ?_)
        refine JL_q (q_move) (k := ?_)
        refine JL_q (q_move) (k := ?_)
        refine JL_q (q_mul) (k := ?_)
        refine JL_q (q_add) (k := ?_)
        refine JL_q (q_move) (k := ?_)
        refine JL_q (q_move) (k := ?_)
        refine JL_q (q_mul) (k := ?_)
        refine JL_q (q_add) (k := ?_)
        refine JL_q (q_add) (k := ?_)
        refine JL_q (q_subT (s := (rsPad s)) (at_1 + (4 * i_14)) ((at_1 + (4 * i_14)) + 4) Tryd.runUnderlying9 (by omega) (by omega)) (k := ?_)
        have hsb9 : (((rsPad s).take ((at_1 + (4 * i_14)) + 4)).drop (at_1 + (4 * i_14))).length = ((at_1 + (4 * i_14)) + 4) - (at_1 + (4 * i_14)) := by first | omega | (simp only [List.length_take, List.length_drop, List.length_cons, List.length_nil] <;> omega)
        refine JL_v (args := [(Value.string (bs (((rsPad s).take ((at_1 + (4 * i_14)) + 4)).drop (at_1 + (4 * i_14)))))]) (c_callA Tryd.call42) (fun w1 hw1 => rWord_ok w1 (s := (((rsPad s).take ((at_1 + (4 * i_14)) + 4)).drop (at_1 + (4 * i_14)))) (hs := by first | omega | (simp only [List.length_append, List.length_take, List.length_drop, List.length_set, List.length_replicate, List.length_cons, List.length_nil, List.length_map, toS_length, toI_length]; omega) | (simp only [List.length_append, List.length_take, List.length_drop, List.length_set, List.length_replicate, List.length_cons, List.length_nil, List.length_map, toS_length, toI_length] at *; omega) | decide)) (k := ?_)
        refine JL_q (q_idxI i_14 i_14 Tryd.runUnderlying74 Tryd.sizeOf48 (hm := by first | omega | (simp only [List.length_set]; omega) | (simp only [List.length_append, List.length_take, List.length_drop, List.length_set, List.length_replicate, List.length_cons, List.length_nil, List.length_map, toS_length, toI_length]; omega))) (k := ?_)
        refine JL_s (w_storeI (m := i_14) (xs := x_15) Tryd.sizeOf48 (by first | omega | (simp only [List.length_set]; omega) | (simp only [List.length_append, List.length_take, List.length_drop, List.length_set, List.length_replicate, List.length_cons, List.length_nil, List.length_map, toS_length, toI_length]; omega))) (k := ?_)
        refine JL_nil ?_
        refine JX_block ?_
        refine JX_seq ?_
        refine J_reg ?_
        refine JL_q (q_move) (k := ?_)
        refine JL_q (q_add) (k := ?_)
        refine JL_q (q_assign) (k := ?_)
        refine JL_nil ?_
        exact JX_inv3 n_16 (i_14 + 1) (x_15.set i_14 (rWord (((rsPad s).take ((at_1 + (4 * i_14)) + 4)).drop (at_1 + (4 * i_14))))) ⟨by omega, (hF17.pos hq2), (by first | omega | (simp only [List.length_set]; omega) | (simp only [List.length_append, List.length_take, List.length_drop, List.length_set, List.length_replicate, List.length_cons, List.length_nil, List.length_map, toS_length, toI_length]; omega)), (by omega)⟩ (Nat.lt_succ_self _) (by repeat (first | exact SubE.nil | refine SubE.cons rfl ?_)) (List.Perm.refl _)
      refine J_exit ?_
      refine JX_seq_exit ?_
      refine JX_inv_exit ?_
      refine JX_block_hit ?_
      refine JX_seq ?_
      refine J_seq ?_
      refine J_seq ?_
      refine J_reg ?_
      refine JL_q (q_assign) (k := ?_)
      refine JL_nil ?_
      refine JX_seq ?_
      refine J_block ?_
      refine J_loop3 (σ1 := Nat) (σ2 := Nat) (σ3 := List Int) (fun n_22 i_20 x_21 => ((r2, Obj.cells (aI .u32 x_21).toArray 74) :: ((r1, Obj.cells [(Value.int .u32 (x_2)), (Value.int .u32 (x_3)), (Value.int .u32 (x_4)), (Value.int .u32 (x_5)), (Value.int .u32 (x_6)), (Value.int .u32 (x_7)), (Value.int .u32 (x_8)), (Value.int .u32 (x_9))].toArray 73) :: []))) (fun n_22 i_20 x_21 => [(0, (Value.string (bs (rsPad s)))), (2, (Value.string (bs ([] : Str)))), (3, (Value.pointer (some ⟨r1, 0, none⟩))), (4, (Value.int .i64 (((at_1 : Nat) : Int)))), (5, (Value.pointer (some ⟨r2, 0, none⟩))), (7, (Value.int .i64 (((i_20 : Nat) : Int))))]) (fun n_22 i_20 x_21 => 64 - i_20 < n_22 ∧ Is (rsSum_l2 s at_1 x_2 x_3 x_4 x_5 x_6 x_7 x_8 x_9 i_14 x_15 (64 - 16 + 1) 16 x_15) (rsSum_l2 s at_1 x_2 x_3 x_4 x_5 x_6 x_7 x_8 x_9 i_14 x_15 n_22 i_20 x_21) ∧ x_21.length = 64 ∧ 16 ≤ i_20) (fun n_22 i_20 x_21 => n_22) (64 - 16 + 1) 16 x_15 ?_ (by repeat (first | exact SubE.nil | refine SubE.cons rfl ?_)) (List.Perm.refl _) ?_
      · exact ⟨Nat.lt_succ_self _, Is.refl _, (by first | omega | (simp only [List.length_set]; omega) | (simp only [List.length_append, List.length_take, List.length_drop, List.length_set, List.length_replicate, List.length_cons, List.length_nil, List.length_map, toS_length, toI_length]; omega)), (by first | omega | rfl | (simp; done))⟩
      · rintro (_ | n_22) i_20 x_21 ⟨hm24, hF23, hx_21, hi25⟩
        · omega
        refine J_seq ?_
        refine J_seq ?_
        refine J_reg ?_
        refine JL_q (q_move) (k := ?_)
        refine JL_q (q_lss) (k := ?_)
        refine JL_nil ?_
        refine JX_seq ?_
        refine J_dec rfl (fun hq3 => ?_) (fun hq3 => ?_)
        · refine J_skip ?_
          refine JX_seq ?_
          refine J_seq ?_
          refine J_block ?_
          refine J_seq ?_
          refine J_reg ?_
          refine JL_q (q_move) (k := ?_)
          refine JL_q (q_sub) (k := ?_)
          refine JL_q (q_idxI (((((i_20 : Nat) : Int) - 15)).toNat) (((((i_20 : Nat) : Int) - 15)).toNat) Tryd.runUnderlying74 Tryd.sizeOf48 (hm := by first | omega | (simp only [List.length_set]; omega) | (simp only [List.length_append, List.length_take, List.length_drop, List.length_set, List.length_replicate, List.length_cons, List.length_nil, List.length_map, toS_length, toI_length]; omega))) (k := ?_)
          refine JL_q (q_loadI (m := (((((i_20 : Nat) : Int) - 15)).toNat)) (xs := x_21) Tryd.isAgg48 (by first | omega | (simp only [List.length_set]; omega) | (simp only [List.length_append, List.length_take, List.length_drop, List.length_set, List.length_replicate, List.length_cons, List.length_nil, List.length_map, toS_length, toI_length]; omega))) (k := ?_)
          refine JL_q (q_assign) (k := ?_)
          refine JL_nil ?_
          refine JX_seq ?_
          refine J_seq ?_
          refine J_reg ?_
          refine JL_q (q_move) (k := ?_)
          refine JL_q (q_sub) (k := ?_)
          refine JL_q (q_idxI (((((i_20 : Nat) : Int) - 2)).toNat) (((((i_20 : Nat) : Int) - 2)).toNat) Tryd.runUnderlying74 Tryd.sizeOf48 (hm := by first | omega | (simp only [List.length_set]; omega) | (simp only [List.length_append, List.length_take, List.length_drop, List.length_set, List.length_replicate, List.length_cons, List.length_nil, List.length_map, toS_length, toI_length]; omega))) (k := ?_)
          refine JL_q (q_loadI (m := (((((i_20 : Nat) : Int) - 2)).toNat)) (xs := x_21) Tryd.isAgg48 (by first | omega | (simp only [List.length_set]; omega) | (simp only [List.length_append, List.length_take, List.length_drop, List.length_set, List.length_replicate, List.length_cons, List.length_nil, List.length_map, toS_length, toI_length]; omega))) (k := ?_)
          refine JL_q (q_assign) (k := ?_)
          refine JL_nil ?_
          refine JX_seq ?_
          refine J_plan mixed 29 [(true, 0), (true, 1), (true, 2), (true, 3), (true, 4), (true, 5), (true, 7), (true, 10), (true, 11), (true, 14), (true, 15), (true, 16), (true, 17), (true, 19), (true, 21), (true, 24), (true, 25), (false, 6), (false, 8), (true, 9), (true, 12), (true, 13), (true, 18), (false, 20), (false, 22), (true, 23), (true, 26), (true, 27), (true, 28)] (by kernel_rfl) ?_
          refine JD_q (q_move) (k := ?_)
          refine JD_q (q_move) (k := ?_)
          refine JD_q (q_sub) (k := ?_)
          refine JD_q (q_idxI (((((i_20 : Nat) : Int) - 16)).toNat) (((((i_20 : Nat) : Int) - 16)).toNat) Tryd.runUnderlying74 Tryd.sizeOf48 (hm := by first | omega | (simp only [List.length_set]; omega) | (simp only [List.length_append, List.length_take, List.length_drop, List.length_set, List.length_replicate, List.length_cons, List.length_nil, List.length_map, toS_length, toI_length]; omega))) (k := ?_)
          refine JD_q (q_loadI (m := (((((i_20 : Nat) : Int) - 16)).toNat)) (xs := x_21) Tryd.isAgg48 (by first | omega | (simp only [List.length_set]; omega) | (simp only [List.length_append, List.length_take, List.length_drop, List.length_set, List.length_replicate, List.length_cons, List.length_nil, List.length_map, toS_length, toI_length]; omega))) (k := ?_)
          refine JD_q (q_move) (k := ?_)
          refine JD_q (q_move) (k := ?_)
          refine JD_q (q_move) (k := ?_)
          refine JD_q (q_shrW) (k := ?_)
          refine JD_q (q_move) (k := ?_)
          refine JD_q (q_sub) (k := ?_)
          refine JD_q (q_idxI (((((i_20 : Nat) : Int) - 7)).toNat) (((((i_20 : Nat) : Int) - 7)).toNat) Tryd.runUnderlying74 Tryd.sizeOf48 (hm := by first | omega | (simp only [List.length_set]; omega) | (simp only [List.length_append, List.length_take, List.length_drop, List.length_set, List.length_replicate, List.length_cons, List.length_nil, List.length_map, toS_length, toI_length]; omega))) (k := ?_)
          refine JD_q (q_loadI (m := (((((i_20 : Nat) : Int) - 7)).toNat)) (xs := x_21) Tryd.isAgg48 (by first | omega | (simp only [List.length_set]; omega) | (simp only [List.length_append, List.length_take, List.length_drop, List.length_set, List.length_replicate, List.length_cons, List.length_nil, List.length_map, toS_length, toI_length]; omega))) (k := ?_)
          refine JD_q (q_move) (k := ?_)
          refine JD_q (q_move) (k := ?_)
          refine JD_q (q_move) (k := ?_)
          refine JD_q (q_shrW) (k := ?_)
          refine JD_v (args := [(Value.int .u32 ((x_21.getD (((((i_20 : Nat) : Int) - 15)).toNat) default))), (Value.int .u32 (7))]) (c_callA Tryd.call43) (fun w1 hw1 => rTurn_ok w1 (x := (x_21.getD (((((i_20 : Nat) : Int) - 15)).toNat) default)) (n_ := 7) (hn := by first | omega | (simp only [List.length_append, List.length_take, List.length_drop, List.length_set, List.length_replicate, List.length_cons, List.length_nil, List.length_map, toS_length, toI_length]; omega) | (simp only [List.length_append, List.length_take, List.length_drop, List.length_set, List.length_replicate, List.length_cons, List.length_nil, List.length_map, toS_length, toI_length] at *; omega) | decide)) (k := ?_)
          refine JD_v (args := [(Value.int .u32 ((x_21.getD (((((i_20 : Nat) : Int) - 15)).toNat) default))), (Value.int .u32 (18))]) (c_callA Tryd.call43) (fun w1 hw1 => rTurn_ok w1 (x := (x_21.getD (((((i_20 : Nat) : Int) - 15)).toNat) default)) (n_ := 18) (hn := by first | omega | (simp only [List.length_append, List.length_take, List.length_drop, List.length_set, List.length_replicate, List.length_cons, List.length_nil, List.length_map, toS_length, toI_length]; omega) | (simp only [List.length_append, List.length_take, List.length_drop, List.length_set, List.length_replicate, List.length_cons, List.length_nil, List.length_map, toS_length, toI_length] at *; omega) | decide)) (k := ?_)
          refine JD_q (q_xorW) (k := ?_)
          refine JD_q (q_xorW) (k := ?_)
          refine JD_q (q_addW) (k := ?_)
          refine JD_q (q_addW) (k := ?_)
          refine JD_v (args := [(Value.int .u32 ((x_21.getD (((((i_20 : Nat) : Int) - 2)).toNat) default))), (Value.int .u32 (17))]) (c_callA Tryd.call43) (fun w1 hw1 => rTurn_ok w1 (x := (x_21.getD (((((i_20 : Nat) : Int) - 2)).toNat) default)) (n_ := 17) (hn := by first | omega | (simp only [List.length_append, List.length_take, List.length_drop, List.length_set, List.length_replicate, List.length_cons, List.length_nil, List.length_map, toS_length, toI_length]; omega) | (simp only [List.length_append, List.length_take, List.length_drop, List.length_set, List.length_replicate, List.length_cons, List.length_nil, List.length_map, toS_length, toI_length] at *; omega) | decide)) (k := ?_)
          refine JD_v (args := [(Value.int .u32 ((x_21.getD (((((i_20 : Nat) : Int) - 2)).toNat) default))), (Value.int .u32 (19))]) (c_callA Tryd.call43) (fun w1 hw1 => rTurn_ok w1 (x := (x_21.getD (((((i_20 : Nat) : Int) - 2)).toNat) default)) (n_ := 19) (hn := by first | omega | (simp only [List.length_append, List.length_take, List.length_drop, List.length_set, List.length_replicate, List.length_cons, List.length_nil, List.length_map, toS_length, toI_length]; omega) | (simp only [List.length_append, List.length_take, List.length_drop, List.length_set, List.length_replicate, List.length_cons, List.length_nil, List.length_map, toS_length, toI_length] at *; omega) | decide)) (k := ?_)
          refine JD_q (q_xorW) (k := ?_)
          refine JD_q (q_xorW) (k := ?_)
          refine JD_q (q_addW) (k := ?_)
          refine JD_q (q_idxI i_20 i_20 Tryd.runUnderlying74 Tryd.sizeOf48 (hm := by first | omega | (simp only [List.length_set]; omega) | (simp only [List.length_append, List.length_take, List.length_drop, List.length_set, List.length_replicate, List.length_cons, List.length_nil, List.length_map, toS_length, toI_length]; omega))) (k := ?_)
          refine JD_nil0 ?_
          refine JL_s (w_storeI (m := i_20) (xs := x_21) Tryd.sizeOf48 (by first | omega | (simp only [List.length_set]; omega) | (simp only [List.length_append, List.length_take, List.length_drop, List.length_set, List.length_replicate, List.length_cons, List.length_nil, List.length_map, toS_length, toI_length]; omega))) (k := ?_)
          refine JL_nil ?_
          refine JX_block ?_
          refine JX_seq ?_
          refine J_reg ?_
          refine JL_q (q_move) (k := ?_)
          refine JL_q (q_add) (k := ?_)
          refine JL_q (q_assign) (k := ?_)
          refine JL_nil ?_
          exact JX_inv3 n_22 (i_20 + 1) (x_21.set i_20 (IntKind.u32.wrap ((IntKind.u32.wrap ((IntKind.u32.wrap ((x_21.getD (((((i_20 : Nat) : Int) - 16)).toNat) default) + (xorI .u32 (xorI .u32 (rTurn (x_21.getD (((((i_20 : Nat) : Int) - 15)).toNat) default) 7) (rTurn (x_21.getD (((((i_20 : Nat) : Int) - 15)).toNat) default) 18)) (shrI .u32 (x_21.getD (((((i_20 : Nat) : Int) - 15)).toNat) default) 3)))) + (x_21.getD (((((i_20 : Nat) : Int) - 7)).toNat) default))) + (xorI .u32 (xorI .u32 (rTurn (x_21.getD (((((i_20 : Nat) : Int) - 2)).toNat) default) 17) (rTurn (x_21.getD (((((i_20 : Nat) : Int) - 2)).toNat) default) 19)) (shrI .u32 (x_21.getD (((((i_20 : Nat) : Int) - 2)).toNat) default) 10))))) ⟨by omega, (hF23.pos hq3), (by first | omega | (simp only [List.length_set]; omega) | (simp only [List.length_append, List.length_take, List.length_drop, List.length_set, List.length_replicate, List.length_cons, List.length_nil, List.length_map, toS_length, toI_length]; omega)), (by omega)⟩ (Nat.lt_succ_self _) (by repeat (first | exact SubE.nil | refine SubE.cons rfl ?_)) (List.Perm.refl _)
        refine J_exit ?_
        refine JX_seq_exit ?_
        refine JX_inv_exit ?_
        refine JX_block_hit ?_
        refine JX_seq ?_
        refine J_seq ?_
        refine J_reg ?_
        refine JL_q (q_loadA Tryd.isAgg73 Tryd.sizeOf73) (k := ?_)
        refine JL_a noMk (a_alloc (l := [_, _, _, _, _, _, _, _]) Tryd.zeroValue73) (k := fun r3 hr3 => ?_)
        refine JL_s (w_store (l' := [_, _, _, _, _, _, _, _]) Tryd.sizeOf73) (k := ?_)
        refine JL_nil ?_
        refine JX_seq ?_
        refine J_seq ?_
        refine J_seq ?_
        refine J_reg ?_
        refine JL_q (q_assign) (k := ?_)
        refine JL_nil ?_
        refine JX_seq ?_
        refine J_block ?_
        refine J_loop10 (σ1 := Nat) (σ2 := Nat) (σ3 := Int) (σ4 := Int) (σ5 := Int) (σ6 := Int) (σ7 := Int) (σ8 := Int) (σ9 := Int) (σ10 := Int) (fun n_35 i_26 x_27 x_28 x_29 x_30 x_31 x_32 x_33 x_34 => ((r3, Obj.cells [(Value.int .u32 (x_27)), (Value.int .u32 (x_28)), (Value.int .u32 (x_29)), (Value.int .u32 (x_30)), (Value.int .u32 (x_31)), (Value.int .u32 (x_32)), (Value.int .u32 (x_33)), (Value.int .u32 (x_34))].toArray 73) :: ((r2, Obj.cells (aI .u32 x_21).toArray 74) :: ((r1, Obj.cells [(Value.int .u32 (x_2)), (Value.int .u32 (x_3)), (Value.int .u32 (x_4)), (Value.int .u32 (x_5)), (Value.int .u32 (x_6)), (Value.int .u32 (x_7)), (Value.int .u32 (x_8)), (Value.int .u32 (x_9))].toArray 73) :: [])))) (fun n_35 i_26 x_27 x_28 x_29 x_30 x_31 x_32 x_33 x_34 => [(0, (Value.string (bs (rsPad s)))), (2, (Value.string (bs ([] : Str)))), (3, (Value.pointer (some ⟨r1, 0, none⟩))), (4, (Value.int .i64 (((at_1 : Nat) : Int)))), (5, (Value.pointer (some ⟨r2, 0, none⟩))), (10, (Value.pointer (some ⟨r3, 0, none⟩))), (11, (Value.int .i64 (((i_26 : Nat) : Int))))]) (fun n_35 i_26 x_27 x_28 x_29 x_30 x_31 x_32 x_33 x_34 => 64 - i_26 < n_35 ∧ Is (rsSum_l3 s at_1 x_2 x_3 x_4 x_5 x_6 x_7 x_8 x_9 i_14 x_15 i_20 x_21 (64 + 1) 0 x_2 x_3 x_4 x_5 x_6 x_7 x_8 x_9) (rsSum_l3 s at_1 x_2 x_3 x_4 x_5 x_6 x_7 x_8 x_9 i_14 x_15 i_20 x_21 n_35 i_26 x_27 x_28 x_29 x_30 x_31 x_32 x_33 x_34) ∧ i_26 ≤ 64) (fun n_35 i_26 x_27 x_28 x_29 x_30 x_31 x_32 x_33 x_34 => n_35) (64 + 1) 0 x_2 x_3 x_4 x_5 x_6 x_7 x_8 x_9 ?_ (by repeat (first | exact SubE.nil | refine SubE.cons rfl ?_)) (List.Perm.refl _) ?_
        · exact ⟨Nat.lt_succ_self _, Is.refl _, (by first | omega | rfl | (simp; done))⟩
        · rintro (_ | n_35) i_26 x_27 x_28 x_29 x_30 x_31 x_32 x_33 x_34 ⟨hm37, hF36, hi38⟩
          · omega
          refine J_seq ?_
          refine J_seq ?_
          refine J_reg ?_
          refine JL_q (q_move) (k := ?_)
          refine JL_q (q_lss) (k := ?_)
          refine JL_nil ?_
          refine JX_seq ?_
          refine J_dec rfl (fun hq4 => ?_) (fun hq4 => ?_)
          · refine J_skip ?_
            refine JX_seq ?_
            refine J_seq ?_
            refine J_block ?_
            refine J_seq ?_
            refine J_reg ?_
            refine JL_q (q_idxP (m := 0) Tryd.runUnderlying73 Tryd.sizeOf48) (k := ?_)
            refine JL_q (q_load Tryd.isAgg48) (k := ?_)
            refine JL_q (q_assign) (k := ?_)
            refine JL_nil ?_
            refine JX_seq ?_
            refine J_seq ?_
            refine J_reg ?_
            refine JL_q (q_idxP (m := 4) Tryd.runUnderlying73 Tryd.sizeOf48) (k := ?_)
            refine JL_q (q_load Tryd.isAgg48) (k := ?_)
            refine JL_q (q_assign) (k := ?_)
            refine JL_nil ?_
            refine JX_seq ?_
            refine J_seq ?_
            refine J_plan mixed 31 [(true, 0), (true, 1), (true, 2), (true, 4), (true, 7), (true, 11), (true, 12), (true, 13), (true, 14), (true, 15), (true, 16), (true, 17), (true, 18), (true, 19), (true, 20), (true, 22), (true, 23), (true, 24), (true, 26), (true, 27), (true, 28), (false, 3), (false, 5), (true, 6), (false, 8), (true, 9), (true, 10), (true, 21), (true, 25), (true, 29), (true, 30)] (by kernel_rfl) ?_
            refine JD_q (q_idxP (m := 7) Tryd.runUnderlying73 Tryd.sizeOf48) (k := ?_)
            refine JD_q (q_load Tryd.isAgg48) (k := ?_)
            refine JD_q (q_move) (k := ?_)
            refine JD_q (q_move) (k := ?_)
            refine JD_q (q_move) (k := ?_)
            refine JD_q (q_move) (k := ?_)
            refine JD_q (q_idxP (m := 5) Tryd.runUnderlying73 Tryd.sizeOf48) (k := ?_)
            refine JD_q (q_load Tryd.isAgg48) (k := ?_)
            refine JD_q (q_andW) (k := ?_)
            refine JD_q (q_move) (k := ?_)
            refine JD_q (q_notI) (k := ?_)
            refine JD_q (q_idxP (m := 6) Tryd.runUnderlying73 Tryd.sizeOf48) (k := ?_)
            refine JD_q (q_load Tryd.isAgg48) (k := ?_)
            refine JD_q (q_andW) (k := ?_)
            refine JD_q (q_xorW) (k := ?_)
            refine JD_q (q_move) (k := ?_)
            refine JD_q (q_idxI i_26 i_26 Tryd.runUnderlying74 Tryd.sizeOf48 (hm := by first | omega | (simp only [List.length_set]; omega) | (simp only [List.length_append, List.length_take, List.length_drop, List.length_set, List.length_replicate, List.length_cons, List.length_nil, List.length_map, toS_length, toI_length]; omega))) (k := ?_)
            obtain ⟨Thgl5, fhgl5, hgl5⟩ := hG.rsha
            refine JD_q (q_loadIB (xs := rTab) (m := i_26) Tryd.isAgg48 (by (have := rTab_len; omega)) hgl5) (k := ?_)
            refine JD_q (q_move) (k := ?_)
            refine JD_q (q_idxI i_26 i_26 Tryd.runUnderlying74 Tryd.sizeOf48 (hm := by first | omega | (simp only [List.length_set]; omega) | (simp only [List.length_append, List.length_take, List.length_drop, List.length_set, List.length_replicate, List.length_cons, List.length_nil, List.length_map, toS_length, toI_length]; omega))) (k := ?_)
            refine JD_q (q_loadI (m := i_26) (xs := x_21) Tryd.isAgg48 (by first | omega | (simp only [List.length_set]; omega) | (simp only [List.length_append, List.length_take, List.length_drop, List.length_set, List.length_replicate, List.length_cons, List.length_nil, List.length_map, toS_length, toI_length]; omega))) (k := ?_)
            refine JD_v (args := [(Value.int .u32 (x_31)), (Value.int .u32 (6))]) (c_callA Tryd.call43) (fun w1 hw1 => rTurn_ok w1 (x := x_31) (n_ := 6) (hn := by first | omega | (simp only [List.length_append, List.length_take, List.length_drop, List.length_set, List.length_replicate, List.length_cons, List.length_nil, List.length_map, toS_length, toI_length]; omega) | (simp only [List.length_append, List.length_take, List.length_drop, List.length_set, List.length_replicate, List.length_cons, List.length_nil, List.length_map, toS_length, toI_length] at *; omega) | decide)) (k := ?_)
            refine JD_v (args := [(Value.int .u32 (x_31)), (Value.int .u32 (11))]) (c_callA Tryd.call43) (fun w1 hw1 => rTurn_ok w1 (x := x_31) (n_ := 11) (hn := by first | omega | (simp only [List.length_append, List.length_take, List.length_drop, List.length_set, List.length_replicate, List.length_cons, List.length_nil, List.length_map, toS_length, toI_length]; omega) | (simp only [List.length_append, List.length_take, List.length_drop, List.length_set, List.length_replicate, List.length_cons, List.length_nil, List.length_map, toS_length, toI_length] at *; omega) | decide)) (k := ?_)
            refine JD_q (q_xorW) (k := ?_)
            refine JD_v (args := [(Value.int .u32 (x_31)), (Value.int .u32 (25))]) (c_callA Tryd.call43) (fun w1 hw1 => rTurn_ok w1 (x := x_31) (n_ := 25) (hn := by first | omega | (simp only [List.length_append, List.length_take, List.length_drop, List.length_set, List.length_replicate, List.length_cons, List.length_nil, List.length_map, toS_length, toI_length]; omega) | (simp only [List.length_append, List.length_take, List.length_drop, List.length_set, List.length_replicate, List.length_cons, List.length_nil, List.length_map, toS_length, toI_length] at *; omega) | decide)) (k := ?_)
            refine JD_q (q_xorW) (k := ?_)
            refine JD_q (q_addW) (k := ?_)
            refine JD_q (q_addW) (k := ?_)
            refine JD_q (q_addW) (k := ?_)
            refine JD_q (q_addW) (k := ?_)
            refine JD_q (q_assign) (k := ?_)
            refine JD_nil0 ?_
            refine JL_nil ?_
            refine JX_seq ?_
            refine J_seq ?_
            refine J_plan mixed 25 [(true, 0), (true, 2), (true, 5), (true, 8), (true, 9), (true, 10), (true, 11), (true, 12), (true, 13), (true, 14), (true, 15), (true, 16), (true, 17), (true, 18), (true, 19), (true, 20), (true, 21), (true, 22), (false, 1), (false, 3), (true, 4), (false, 6), (true, 7), (true, 23), (true, 24)] (by kernel_rfl) ?_
            refine JD_q (q_move) (k := ?_)
            refine JD_q (q_move) (k := ?_)
            refine JD_q (q_move) (k := ?_)
            refine JD_q (q_move) (k := ?_)
            refine JD_q (q_idxP (m := 1) Tryd.runUnderlying73 Tryd.sizeOf48) (k := ?_)
            refine JD_q (q_load Tryd.isAgg48) (k := ?_)
            refine JD_q (q_andW) (k := ?_)
            refine JD_q (q_move) (k := ?_)
            refine JD_q (q_idxP (m := 2) Tryd.runUnderlying73 Tryd.sizeOf48) (k := ?_)
            refine JD_q (q_load Tryd.isAgg48) (k := ?_)
            refine JD_q (q_andW) (k := ?_)
            refine JD_q (q_xorW) (k := ?_)
            refine JD_q (q_idxP (m := 1) Tryd.runUnderlying73 Tryd.sizeOf48) (k := ?_)
            refine JD_q (q_load Tryd.isAgg48) (k := ?_)
            refine JD_q (q_idxP (m := 2) Tryd.runUnderlying73 Tryd.sizeOf48) (k := ?_)
            refine JD_q (q_load Tryd.isAgg48) (k := ?_)
            refine JD_q (q_andW) (k := ?_)
            refine JD_q (q_xorW) (k := ?_)
            refine JD_v (args := [(Value.int .u32 (x_27)), (Value.int .u32 (2))]) (c_callA Tryd.call43) (fun w1 hw1 => rTurn_ok w1 (x := x_27) (n_ := 2) (hn := by first | omega | (simp only [List.length_append, List.length_take, List.length_drop, List.length_set, List.length_replicate, List.length_cons, List.length_nil, List.length_map, toS_length, toI_length]; omega) | (simp only [List.length_append, List.length_take, List.length_drop, List.length_set, List.length_replicate, List.length_cons, List.length_nil, List.length_map, toS_length, toI_length] at *; omega) | decide)) (k := ?_)
            refine JD_v (args := [(Value.int .u32 (x_27)), (Value.int .u32 (13))]) (c_callA Tryd.call43) (fun w1 hw1 => rTurn_ok w1 (x := x_27) (n_ := 13) (hn := by first | omega | (simp only [List.length_append, List.length_take, List.length_drop, List.length_set, List.length_replicate, List.length_cons, List.length_nil, List.length_map, toS_length, toI_length]; omega) | (simp only [List.length_append, List.length_take, List.length_drop, List.length_set, List.length_replicate, List.length_cons, List.length_nil, List.length_map, toS_length, toI_length] at *; omega) | decide)) (k := ?_)
            refine JD_q (q_xorW) (k := ?_)
            refine JD_v (args := [(Value.int .u32 (x_27)), (Value.int .u32 (22))]) (c_callA Tryd.call43) (fun w1 hw1 => rTurn_ok w1 (x := x_27) (n_ := 22) (hn := by first | omega | (simp only [List.length_append, List.length_take, List.length_drop, List.length_set, List.length_replicate, List.length_cons, List.length_nil, List.length_map, toS_length, toI_length]; omega) | (simp only [List.length_append, List.length_take, List.length_drop, List.length_set, List.length_replicate, List.length_cons, List.length_nil, List.length_map, toS_length, toI_length] at *; omega) | decide)) (k := ?_)
            refine JD_q (q_xorW) (k := ?_)
            refine JD_q (q_addW) (k := ?_)
            refine JD_q (q_assign) (k := ?_)
            refine JD_nil0 ?_
            refine JL_nil ?_
            refine JX_seq ?_
            refine J_reg ?_
            refine JL_q (q_move) (k := ?_)
            refine JL_q (q_move) (k := ?_)
            refine JL_q (q_addW) (k := ?_)
            refine JL_q (q_move) (k := ?_)
            refine JL_q (q_idxP (m := 1) Tryd.runUnderlying73 Tryd.sizeOf48) (k := ?_)
            refine JL_q (q_load Tryd.isAgg48) (k := ?_)
            refine JL_q (q_idxP (m := 2) Tryd.runUnderlying73 Tryd.sizeOf48) (k := ?_)
            refine JL_q (q_load Tryd.isAgg48) (k := ?_)
            refine JL_q (q_idxP (m := 3) Tryd.runUnderlying73 Tryd.sizeOf48) (k := ?_)
            refine JL_q (q_load Tryd.isAgg48) (k := ?_)
            refine JL_q (q_move) (k := ?_)
            refine JL_q (q_addW) (k := ?_)
            refine JL_q (q_move) (k := ?_)
            refine JL_q (q_idxP (m := 5) Tryd.runUnderlying73 Tryd.sizeOf48) (k := ?_)
            refine JL_q (q_load Tryd.isAgg48) (k := ?_)
            refine JL_q (q_idxP (m := 6) Tryd.runUnderlying73 Tryd.sizeOf48) (k := ?_)
            refine JL_q (q_load Tryd.isAgg48) (k := ?_)
            refine JL_q (q_buildA (cs := [_, _, _, _, _, _, _, _]) Tryd.zeroValue73 PL_73) (k := ?_)
            refine JL_s (w_store (l' := [_, _, _, _, _, _, _, _]) Tryd.sizeOf73) (k := ?_)
            refine JL_nil ?_
            refine JX_block ?_
            refine JX_seq ?_
            refine J_reg ?_
            refine JL_q (q_move) (k := ?_)
            refine JL_q (q_add) (k := ?_)
            refine JL_q (q_assign) (k := ?_)
            refine JL_nil ?_
            exact JX_inv10 n_35 (i_26 + 1) (IntKind.u32.wrap ((IntKind.u32.wrap ((IntKind.u32.wrap ((IntKind.u32.wrap ((IntKind.u32.wrap (x_34 + (xorI .u32 (xorI .u32 (rTurn x_31 6) (rTurn x_31 11)) (rTurn x_31 25)))) + (xorI .u32 (andI .u32 x_31 x_32) (andI .u32 (xorI .u32 (IntKind.max .u32) x_31) x_33)))) + (rTab.getD i_26 default))) + (x_21.getD i_26 default))) + (IntKind.u32.wrap ((xorI .u32 (xorI .u32 (rTurn x_27 2) (rTurn x_27 13)) (rTurn x_27 22)) + (xorI .u32 (xorI .u32 (andI .u32 x_27 x_28) (andI .u32 x_27 x_29)) (andI .u32 x_28 x_29)))))) x_27 x_28 x_29 (IntKind.u32.wrap (x_30 + (IntKind.u32.wrap ((IntKind.u32.wrap ((IntKind.u32.wrap ((IntKind.u32.wrap (x_34 + (xorI .u32 (xorI .u32 (rTurn x_31 6) (rTurn x_31 11)) (rTurn x_31 25)))) + (xorI .u32 (andI .u32 x_31 x_32) (andI .u32 (xorI .u32 (IntKind.max .u32) x_31) x_33)))) + (rTab.getD i_26 default))) + (x_21.getD i_26 default))))) x_31 x_32 x_33 ⟨by omega, (hF36.pos hq4), (by omega)⟩ (Nat.lt_succ_self _) (by repeat (first | exact SubE.nil | refine SubE.cons rfl ?_)) (List.Perm.refl _)
          refine J_exit ?_
          refine JX_seq_exit ?_
          refine JX_inv_exit ?_
          refine JX_block_hit ?_
          refine JX_seq ?_
          refine J_seq ?_
          refine J_reg ?_
          refine JL_q (q_assign) (k := ?_)
          refine JL_nil ?_
          refine JX_seq ?_
          refine J_block ?_
          refine J_unroll ?_
          refine J_seq ?_
          refine J_seq ?_
          refine J_reg ?_
          refine JL_q (q_move) (k := ?_)
          refine JL_q (q_lss) (k := ?_)
          refine JL_nil ?_
          refine JX_seq ?_
          refine J_true rfl ?_
          refine J_skip ?_
          refine JX_seq ?_
          refine J_seq ?_
          refine J_block ?_
          refine J_plan mixed 9 [(true, 0), (true, 1), (true, 2), (true, 3), (true, 4), (true, 5), (true, 6), (true, 7), (true, 8)] (by kernel_rfl) ?_
          refine JD_q (q_move) (k := ?_)
          refine JD_q (q_move) (k := ?_)
          refine JD_q (q_idxP (m := 0) Tryd.runUnderlying73 Tryd.sizeOf48) (k := ?_)
          refine JD_q (q_load Tryd.isAgg48) (k := ?_)
          refine JD_q (q_move) (k := ?_)
          refine JD_q (q_idxP (m := 0) Tryd.runUnderlying73 Tryd.sizeOf48) (k := ?_)
          refine JD_q (q_load Tryd.isAgg48) (k := ?_)
          refine JD_q (q_addW) (k := ?_)
          refine JD_q (q_idxP (m := 0) Tryd.runUnderlying73 Tryd.sizeOf48) (k := ?_)
          refine JD_nil0 ?_
          refine JL_s (w_store (l' := [_, _, _, _, _, _, _, _]) Tryd.sizeOf48) (k := ?_)
          refine JL_nil ?_
          refine JX_block ?_
          refine JX_seq ?_
          refine J_reg ?_
          refine JL_q (q_move) (k := ?_)
          refine JL_q (q_add) (k := ?_)
          refine JL_q (q_assign) (k := ?_)
          refine JL_nil ?_
          refine JX_again ?_
          refine J_seq ?_
          refine J_seq ?_
          refine J_reg ?_
          refine JL_q (q_move) (k := ?_)
          refine JL_q (q_lss) (k := ?_)
          refine JL_nil ?_
          refine JX_seq ?_
          refine J_true rfl ?_
          refine J_skip ?_
          refine JX_seq ?_
          refine J_seq ?_
          refine J_block ?_
          refine J_plan mixed 9 [(true, 0), (true, 1), (true, 2), (true, 3), (true, 4), (true, 5), (true, 6), (true, 7), (true, 8)] (by kernel_rfl) ?_
          refine JD_q (q_move) (k := ?_)
          refine JD_q (q_move) (k := ?_)
          refine JD_q (q_idxP (m := 1) Tryd.runUnderlying73 Tryd.sizeOf48) (k := ?_)
          refine JD_q (q_load Tryd.isAgg48) (k := ?_)
          refine JD_q (q_move) (k := ?_)
          refine JD_q (q_idxP (m := 1) Tryd.runUnderlying73 Tryd.sizeOf48) (k := ?_)
          refine JD_q (q_load Tryd.isAgg48) (k := ?_)
          refine JD_q (q_addW) (k := ?_)
          refine JD_q (q_idxP (m := 1) Tryd.runUnderlying73 Tryd.sizeOf48) (k := ?_)
          refine JD_nil0 ?_
          refine JL_s (w_store (l' := [_, _, _, _, _, _, _, _]) Tryd.sizeOf48) (k := ?_)
          refine JL_nil ?_
          refine JX_block ?_
          refine JX_seq ?_
          refine J_reg ?_
          refine JL_q (q_move) (k := ?_)
          refine JL_q (q_add) (k := ?_)
          refine JL_q (q_assign) (k := ?_)
          refine JL_nil ?_
          refine JX_again ?_
          refine J_seq ?_
          refine J_seq ?_
          refine J_reg ?_
          refine JL_q (q_move) (k := ?_)
          refine JL_q (q_lss) (k := ?_)
          refine JL_nil ?_
          refine JX_seq ?_
          refine J_true rfl ?_
          refine J_skip ?_
          refine JX_seq ?_
          refine J_seq ?_
          refine J_block ?_
          refine J_plan mixed 9 [(true, 0), (true, 1), (true, 2), (true, 3), (true, 4), (true, 5), (true, 6), (true, 7), (true, 8)] (by kernel_rfl) ?_
          refine JD_q (q_move) (k := ?_)
          refine JD_q (q_move) (k := ?_)
          refine JD_q (q_idxP (m := 2) Tryd.runUnderlying73 Tryd.sizeOf48) (k := ?_)
          refine JD_q (q_load Tryd.isAgg48) (k := ?_)
          refine JD_q (q_move) (k := ?_)
          refine JD_q (q_idxP (m := 2) Tryd.runUnderlying73 Tryd.sizeOf48) (k := ?_)
          refine JD_q (q_load Tryd.isAgg48) (k := ?_)
          refine JD_q (q_addW) (k := ?_)
          refine JD_q (q_idxP (m := 2) Tryd.runUnderlying73 Tryd.sizeOf48) (k := ?_)
          refine JD_nil0 ?_
          refine JL_s (w_store (l' := [_, _, _, _, _, _, _, _]) Tryd.sizeOf48) (k := ?_)
          refine JL_nil ?_
          refine JX_block ?_
          refine JX_seq ?_
          refine J_reg ?_
          refine JL_q (q_move) (k := ?_)
          refine JL_q (q_add) (k := ?_)
          refine JL_q (q_assign) (k := ?_)
          refine JL_nil ?_
          refine JX_again ?_
          refine J_seq ?_
          refine J_seq ?_
          refine J_reg ?_
          refine JL_q (q_move) (k := ?_)
          refine JL_q (q_lss) (k := ?_)
          refine JL_nil ?_
          refine JX_seq ?_
          refine J_true rfl ?_
          refine J_skip ?_
          refine JX_seq ?_
          refine J_seq ?_
          refine J_block ?_
          refine J_plan mixed 9 [(true, 0), (true, 1), (true, 2), (true, 3), (true, 4), (true, 5), (true, 6), (true, 7), (true, 8)] (by kernel_rfl) ?_
          refine JD_q (q_move) (k := ?_)
          refine JD_q (q_move) (k := ?_)
          refine JD_q (q_idxP (m := 3) Tryd.runUnderlying73 Tryd.sizeOf48) (k := ?_)
          refine JD_q (q_load Tryd.isAgg48) (k := ?_)
          refine JD_q (q_move) (k := ?_)
          refine JD_q (q_idxP (m := 3) Tryd.runUnderlying73 Tryd.sizeOf48) (k := ?_)
          refine JD_q (q_load Tryd.isAgg48) (k := ?_)
          refine JD_q (q_addW) (k := ?_)
          refine JD_q (q_idxP (m := 3) Tryd.runUnderlying73 Tryd.sizeOf48) (k := ?_)
          refine JD_nil0 ?_
          refine JL_s (w_store (l' := [_, _, _, _, _, _, _, _]) Tryd.sizeOf48) (k := ?_)
          refine JL_nil ?_
          refine JX_block ?_
          refine JX_seq ?_
          refine J_reg ?_
          refine JL_q (q_move) (k := ?_)
          refine JL_q (q_add) (k := ?_)
          refine JL_q (q_assign) (k := ?_)
          refine JL_nil ?_
          refine JX_again ?_
          refine J_seq ?_
          refine J_seq ?_
          refine J_reg ?_
          refine JL_q (q_move) (k := ?_)
          refine JL_q (q_lss) (k := ?_)
          refine JL_nil ?_
          refine JX_seq ?_
          refine J_true rfl ?_
          refine J_skip ?_
          refine JX_seq ?_
          refine J_seq ?_
          refine J_block ?_
          refine J_plan mixed 9 [(true, 0), (true, 1), (true, 2), (true, 3), (true, 4), (true, 5), (true, 6), (true, 7), (true, 8)] (by kernel_rfl) ?_
          refine JD_q (q_move) (k := ?_)
          refine JD_q (q_move) (k := ?_)
          refine JD_q (q_idxP (m := 4) Tryd.runUnderlying73 Tryd.sizeOf48) (k := ?_)
          refine JD_q (q_load Tryd.isAgg48) (k := ?_)
          refine JD_q (q_move) (k := ?_)
          refine JD_q (q_idxP (m := 4) Tryd.runUnderlying73 Tryd.sizeOf48) (k := ?_)
          refine JD_q (q_load Tryd.isAgg48) (k := ?_)
          refine JD_q (q_addW) (k := ?_)
          refine JD_q (q_idxP (m := 4) Tryd.runUnderlying73 Tryd.sizeOf48) (k := ?_)
          refine JD_nil0 ?_
          refine JL_s (w_store (l' := [_, _, _, _, _, _, _, _]) Tryd.sizeOf48) (k := ?_)
          refine JL_nil ?_
          refine JX_block ?_
          refine JX_seq ?_
          refine J_reg ?_
          refine JL_q (q_move) (k := ?_)
          refine JL_q (q_add) (k := ?_)
          refine JL_q (q_assign) (k := ?_)
          refine JL_nil ?_
          refine JX_again ?_
          refine J_seq ?_
          refine J_seq ?_
          refine J_reg ?_
          refine JL_q (q_move) (k := ?_)
          refine JL_q (q_lss) (k := ?_)
          refine JL_nil ?_
          refine JX_seq ?_
          refine J_true rfl ?_
          refine J_skip ?_
          refine JX_seq ?_
          refine J_seq ?_
          refine J_block ?_
          refine J_plan mixed 9 [(true, 0), (true, 1), (true, 2), (true, 3), (true, 4), (true, 5), (true, 6), (true, 7), (true, 8)] (by kernel_rfl) ?_
          refine JD_q (q_move) (k := ?_)
          refine JD_q (q_move) (k := ?_)
          refine JD_q (q_idxP (m := 5) Tryd.runUnderlying73 Tryd.sizeOf48) (k := ?_)
          refine JD_q (q_load Tryd.isAgg48) (k := ?_)
          refine JD_q (q_move) (k := ?_)
          refine JD_q (q_idxP (m := 5) Tryd.runUnderlying73 Tryd.sizeOf48) (k := ?_)
          refine JD_q (q_load Tryd.isAgg48) (k := ?_)
          refine JD_q (q_addW) (k := ?_)
          refine JD_q (q_idxP (m := 5) Tryd.runUnderlying73 Tryd.sizeOf48) (k := ?_)
          refine JD_nil0 ?_
          refine JL_s (w_store (l' := [_, _, _, _, _, _, _, _]) Tryd.sizeOf48) (k := ?_)
          refine JL_nil ?_
          refine JX_block ?_
          refine JX_seq ?_
          refine J_reg ?_
          refine JL_q (q_move) (k := ?_)
          refine JL_q (q_add) (k := ?_)
          refine JL_q (q_assign) (k := ?_)
          refine JL_nil ?_
          refine JX_again ?_
          refine J_seq ?_
          refine J_seq ?_
          refine J_reg ?_
          refine JL_q (q_move) (k := ?_)
          refine JL_q (q_lss) (k := ?_)
          refine JL_nil ?_
          refine JX_seq ?_
          refine J_true rfl ?_
          refine J_skip ?_
          refine JX_seq ?_
          refine J_seq ?_
          refine J_block ?_
          refine J_plan mixed 9 [(true, 0), (true, 1), (true, 2), (true, 3), (true, 4), (true, 5), (true, 6), (true, 7), (true, 8)] (by kernel_rfl) ?_
          refine JD_q (q_move) (k := ?_)
          refine JD_q (q_move) (k := ?_)
          refine JD_q (q_idxP (m := 6) Tryd.runUnderlying73 Tryd.sizeOf48) (k := ?_)
          refine JD_q (q_load Tryd.isAgg48) (k := ?_)
          refine JD_q (q_move) (k := ?_)
          refine JD_q (q_idxP (m := 6) Tryd.runUnderlying73 Tryd.sizeOf48) (k := ?_)
          refine JD_q (q_load Tryd.isAgg48) (k := ?_)
          refine JD_q (q_addW) (k := ?_)
          refine JD_q (q_idxP (m := 6) Tryd.runUnderlying73 Tryd.sizeOf48) (k := ?_)
          refine JD_nil0 ?_
          refine JL_s (w_store (l' := [_, _, _, _, _, _, _, _]) Tryd.sizeOf48) (k := ?_)
          refine JL_nil ?_
          refine JX_block ?_
          refine JX_seq ?_
          refine J_reg ?_
          refine JL_q (q_move) (k := ?_)
          refine JL_q (q_add) (k := ?_)
          refine JL_q (q_assign) (k := ?_)
          refine JL_nil ?_
          refine JX_again ?_
          refine J_seq ?_
          refine J_seq ?_
          refine J_reg ?_
          refine JL_q (q_move) (k := ?_)
          refine JL_q (q_lss) (k := ?_)
          refine JL_nil ?_
          refine JX_seq ?_
          refine J_true rfl ?_
          refine J_skip ?_
          refine JX_seq ?_
          refine J_seq ?_
          refine J_block ?_
          refine J_plan mixed 9 [(true, 0), (true, 1), (true, 2), (true, 3), (true, 4), (true, 5), (true, 6), (true, 7), (true, 8)] (by kernel_rfl) ?_
          refine JD_q (q_move) (k := ?_)
          refine JD_q (q_move) (k := ?_)
          refine JD_q (q_idxP (m := 7) Tryd.runUnderlying73 Tryd.sizeOf48) (k := ?_)
          refine JD_q (q_load Tryd.isAgg48) (k := ?_)
          refine JD_q (q_move) (k := ?_)
          refine JD_q (q_idxP (m := 7) Tryd.runUnderlying73 Tryd.sizeOf48) (k := ?_)
          refine JD_q (q_load Tryd.isAgg48) (k := ?_)
          refine JD_q (q_addW) (k := ?_)
          refine JD_q (q_idxP (m := 7) Tryd.runUnderlying73 Tryd.sizeOf48) (k := ?_)
          refine JD_nil0 ?_
          refine JL_s (w_store (l' := [_, _, _, _, _, _, _, _]) Tryd.sizeOf48) (k := ?_)
          refine JL_nil ?_
          refine JX_block ?_
          refine JX_seq ?_
          refine J_reg ?_
          refine JL_q (q_move) (k := ?_)
          refine JL_q (q_add) (k := ?_)
          refine JL_q (q_assign) (k := ?_)
          refine JL_nil ?_
          refine JX_again ?_
          refine J_seq ?_
          refine J_seq ?_
          refine J_reg ?_
          refine JL_q (q_move) (k := ?_)
          refine JL_q (q_lss) (k := ?_)
          refine JL_nil ?_
          refine JX_seq ?_
          refine J_false rfl ?_
          refine J_exit ?_
          refine JX_seq_exit ?_
          refine JX_inv_exit ?_
          refine JX_block_hit ?_
          refine JX_block ?_
          refine JX_seq ?_
          refine J_reg ?_
          refine JL_q (q_move) (k := ?_)
          refine JL_q (q_add) (k := ?_)
          refine JL_q (q_assign) (k := ?_)
          refine JL_nil ?_
          refine JX_permL ((r1, Obj.cells [(Value.int .u32 ((IntKind.u32.wrap (x_2 + x_27)))), (Value.int .u32 ((IntKind.u32.wrap (x_3 + x_28)))), (Value.int .u32 ((IntKind.u32.wrap (x_4 + x_29)))), (Value.int .u32 ((IntKind.u32.wrap (x_5 + x_30)))), (Value.int .u32 ((IntKind.u32.wrap (x_6 + x_31)))), (Value.int .u32 ((IntKind.u32.wrap (x_7 + x_32)))), (Value.int .u32 ((IntKind.u32.wrap (x_8 + x_33)))), (Value.int .u32 ((IntKind.u32.wrap (x_9 + x_34))))].toArray 73) :: ((r3, Obj.cells [(Value.int .u32 (x_27)), (Value.int .u32 (x_28)), (Value.int .u32 (x_29)), (Value.int .u32 (x_30)), (Value.int .u32 (x_31)), (Value.int .u32 (x_32)), (Value.int .u32 (x_33)), (Value.int .u32 (x_34))].toArray 73) :: ((r2, Obj.cells (aI .u32 x_21).toArray 74) :: []))) ((List.Perm.cons _ ((List.Perm.cons _ (List.Perm.refl _)).trans (List.Perm.swap _ _ _))).trans (List.Perm.swap _ _ _)) ?_
          refine JX_subL ((r1, Obj.cells [(Value.int .u32 ((IntKind.u32.wrap (x_2 + x_27)))), (Value.int .u32 ((IntKind.u32.wrap (x_3 + x_28)))), (Value.int .u32 ((IntKind.u32.wrap (x_4 + x_29)))), (Value.int .u32 ((IntKind.u32.wrap (x_5 + x_30)))), (Value.int .u32 ((IntKind.u32.wrap (x_6 + x_31)))), (Value.int .u32 ((IntKind.u32.wrap (x_7 + x_32)))), (Value.int .u32 ((IntKind.u32.wrap (x_8 + x_33)))), (Value.int .u32 ((IntKind.u32.wrap (x_9 + x_34))))].toArray 73) :: []) (List.Sublist.cons_cons _ (List.nil_sublist _)) ?_
          exact JX_inv10 n_10 (at_1 + 64) (IntKind.u32.wrap (x_2 + x_27)) (IntKind.u32.wrap (x_3 + x_28)) (IntKind.u32.wrap (x_4 + x_29)) (IntKind.u32.wrap (x_5 + x_30)) (IntKind.u32.wrap (x_6 + x_31)) (IntKind.u32.wrap (x_7 + x_32)) (IntKind.u32.wrap (x_8 + x_33)) (IntKind.u32.wrap (x_9 + x_34)) ⟨by omega, ((((hF11.pos hq1).rn2 (hF17.neg hq2)).rn2 (hF23.neg hq3)).rn9 (hF36.neg hq4)), (by omega)⟩ (Nat.lt_succ_self _) (by repeat (first | exact SubE.nil | refine SubE.cons rfl ?_)) (List.Perm.refl _)

end Go.Proofs.YtodejmindmiknaaDoor.Jd
