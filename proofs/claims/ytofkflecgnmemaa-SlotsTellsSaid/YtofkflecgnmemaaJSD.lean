/- Part of the proofs of this seat: walks and plain facts. No condition. -/
import Derived.Test.YtofkflecgnmemaaProg
import Derived.Test.YtofkflecgnmemaaJSC
import Derived.Test.YtofkflecgnmemaaJSQ
import Derived.Test.YtofkflecgnmemaaJS5
namespace Go.Proofs.Ytofkflecgnmemaa.Jd
open Go.Proofs
open Go.RowKit (Below)
set_option maxRecDepth 100000
set_option linter.unusedVariables false
set_option linter.unusedSimpArgs false

theorem rOwn_ok (w : World) {s_1_a : Option Addr} {s_1_c : Nat} {s_2_1_a : Option Addr} {s_2_1_c : Nat} {s_2_2_a : Option Addr} {s_2_2_c : Nat} {s : (List Int × List Bool × List Int)} (h_s_1 : Sl w eI 1 s_1_a s.1) (n_s_1 : s.1.length ≤ 1000000) (h_s_2_1 : Sl w eB 1 s_2_1_a s.2.1) (n_s_2_1 : s.2.1.length ≤ 1000000) (h_s_2_2 : Sl w eI 1 s_2_2_a s.2.2) (n_s_2_2 : s.2.2.length ≤ 1000000) : Calls Try.prog 27 (List.toArray [(Value.agg [(Value.slice (s_1_a) (s.1.length) (s_1_c)), (Value.slice (s_2_1_a) (s.2.1.length) (s_2_1_c)), (Value.slice (s_2_2_a) (s.2.2.length) (s_2_2_c))].toArray)]) w fun e w2 => ∃ a1 : Option Addr, ∃ c1 : Nat, ∃ a2 : Option Addr, ∃ c2 : Nat, ∃ a3 : Option Addr, ∃ c3 : Nat, ∃ B1 : Heap, ∃ B2 : Heap, ∃ B3 : Heap, e = .returned (Value.agg [(Value.slice (a1) ((rOwn s).1.length) (c1)), (Value.slice (a2) ((rOwn s).2.1.length) (c2)), (Value.slice (a3) ((rOwn s).2.2.length) (c3))].toArray) ∧ Fresh w w2 (B1 ++ (B2 ++ B3)) ∧ OwnB eI 1 3 a1 c1 B1 (rOwn s).1 ∧ OwnB eB 1 4 a2 c2 B2 (rOwn s).2.1 ∧ OwnB eI 1 3 a3 c3 B3 (rOwn s).2.2 := by
  have hF := Is.refl (rOwn s)
  refine enter Try.func27 Try.ntmps27 (h := ?_)
  refine J_seq ?_
  refine J_reg ?_
  refine JL_a noMk (a_box (l := [_, _, _])) (k := fun r1 hr1 => ?_)
  refine JL_a noMk (a_alloc (l := [_, _, _]) Try.zeroValue25) (k := fun r2 hr2 => ?_)
  refine JL_nil ?_
  refine JX_seq ?_
  refine J_seq ?_
  refine J_join12 (σ1 := List Int) (σ2 := Option Addr) (σ3 := Nat) (σ4 := Heap) (σ5 := List Bool) (σ6 := Option Addr) (σ7 := Nat) (σ8 := Heap) (σ9 := List Int) (σ10 := Option Addr) (σ11 := Nat) (σ12 := Heap) (fun x_1 x_1a x_1c x_1B x_2 x_2a x_2c x_2B x_3 x_3a x_3c x_3B => (x_3B ++ (x_2B ++ (x_1B ++ ((r2, Obj.cells [(Value.slice (x_1a) (x_1.length) (x_1c)), (Value.slice (x_2a) (x_2.length) (x_2c)), (Value.slice (x_3a) (x_3.length) (x_3c))].toArray 25) :: ((r1, Obj.cells [(Value.slice (s_1_a) (s.1.length) (s_1_c)), (Value.slice (s_2_1_a) (s.2.1.length) (s_2_1_c)), (Value.slice (s_2_2_a) (s.2.2.length) (s_2_2_c))].toArray 25) :: [])))))) (fun x_1 x_1a x_1c x_1B x_2 x_2a x_2c x_2B x_3 x_3a x_3c x_3B => [(2, (Value.pointer (some ⟨r2, 0, none⟩)))]) (fun x_1 x_1a x_1c x_1B x_2 x_2a x_2c x_2B x_3 x_3a x_3c x_3B => Is (Is.xr3 hF) (x_1, x_2, x_3) ∧ OwnB eI 1 3 x_1a x_1c x_1B x_1 ∧ OwnB eB 1 4 x_2a x_2c x_2B x_2 ∧ OwnB eI 1 3 x_3a x_3c x_3B x_3) ?_ ?_
  · skip
    refine J_any (V := []) mixed 13 (by kernel_rfl) ?_
    refine JG_q 1 rfl (by kernel_rfl) (q_fld FO_25_0) (k := ?_)
    refine JG_q 2 rfl (by kernel_rfl) (q_load Try.isAgg22) (k := ?_)
    refine JG_q 5 rfl (by kernel_rfl) (q_fld FO_25_1) (k := ?_)
    refine JG_q 6 rfl (by kernel_rfl) (q_load Try.isAgg23) (k := ?_)
    refine JG_q 9 rfl (by kernel_rfl) (q_fld FO_25_2) (k := ?_)
    refine JG_q 10 rfl (by kernel_rfl) (q_load Try.isAgg22) (k := ?_)
    refine JG_br [0, 4, 8] (by kernel_rfl) rfl (List.forall_mem_cons.2 ⟨?_, (List.forall_mem_cons.2 ⟨?_, (List.forall_mem_cons.2 ⟨?_, nofun⟩)⟩)⟩)
    · skip
      refine JO_a rfl noMk (a_bslice (l := []) Try.runUnderlying22 Try.sizeOf3 Try.zeroValue3) (k := fun r23 hr23 => ?_)
      refine JG_br [3, 4, 8] (by kernel_rfl) rfl (List.forall_mem_cons.2 ⟨?_, (List.forall_mem_cons.2 ⟨?_, (List.forall_mem_cons.2 ⟨?_, nofun⟩)⟩)⟩)
      · skip
        refine JO_append rfl TY_3 Try.underlying22 eI_ok (SlJ.of_base h_s_1) ⟨by omega, by omega⟩ (m := s.1.length) (k := fun ax81 cx81 Bx81 hox81 => ?_)
        refine JG_br [4, 8] (by kernel_rfl) rfl (List.forall_mem_cons.2 ⟨?_, (List.forall_mem_cons.2 ⟨?_, nofun⟩)⟩)
        · skip
          refine JO_a rfl noMk (a_bslice (l := []) Try.runUnderlying23 Try.sizeOf4 Try.zeroValue4) (k := fun r103 hr103 => ?_)
          refine JG_br [7, 8] (by kernel_rfl) rfl (List.forall_mem_cons.2 ⟨?_, (List.forall_mem_cons.2 ⟨?_, nofun⟩)⟩)
          · skip
            refine JO_append rfl TY_4 Try.underlying23 eB_ok (SlJ.of_base h_s_2_1) ⟨by omega, by omega⟩ (m := s.2.1.length) (k := fun ax161 cx161 Bx161 hox161 => ?_)
            refine JG_br [8] (by kernel_rfl) rfl (List.forall_mem_cons.2 ⟨?_, nofun⟩)
            · skip
              refine JO_a rfl noMk (a_bslice (l := []) Try.runUnderlying22 Try.sizeOf3 Try.zeroValue3) (k := fun r183 hr183 => ?_)
              refine JG_br [11] (by kernel_rfl) rfl (List.forall_mem_cons.2 ⟨?_, nofun⟩)
              · skip
                refine JO_append rfl TY_3 Try.underlying22 eI_ok (SlJ.of_base h_s_2_2) ⟨by omega, by omega⟩ (m := s.2.2.length) (k := fun ax241 cx241 Bx241 hox241 => ?_)
                refine JG_q 12 rfl (by kernel_rfl) (q_build (cs := [_, _, _]) Try.zeroValue25 PL_25) (k := ?_)
                refine JG_nil (by kernel_rfl) _ ?_
                refine JL_s (w_store (l' := [_, _, _]) Try.sizeOf25) (k := ?_)
                refine JL_nil ?_
                refine JX_permL (Bx241 ++ (Bx161 ++ (Bx81 ++ ((r2, Obj.cells [(Value.slice (ax81) (s.1.length) (cx81)), (Value.slice (ax161) (s.2.1.length) (cx161)), (Value.slice (ax241) (s.2.2.length) (cx241))].toArray 25) :: ((r1, Obj.cells [(Value.slice (s_1_a) (s.1.length) (s_1_c)), (Value.slice (s_2_1_a) (s.2.1.length) (s_2_1_c)), (Value.slice (s_2_2_a) (s.2.2.length) (s_2_2_c))].toArray 25) :: ((r183, Obj.cells [].toArray 3) :: ((r103, Obj.cells [].toArray 4) :: ((r23, Obj.cells [].toArray 3) :: [])))))))) ((((((List.Perm.append_left _ ((List.Perm.cons _ ((List.Perm.append_left _ ((List.Perm.cons _ ((List.Perm.append_left _ ((List.Perm.cons _ ((List.Perm.cons _ (List.Perm.refl _)).trans (List.Perm.swap _ _ _))).trans (List.Perm.swap _ _ _))).trans List.perm_middle)).trans (List.Perm.swap _ _ _))).trans List.perm_middle)).trans (List.Perm.swap _ _ _))).trans List.perm_middle).trans ((List.Perm.cons _ ((List.Perm.append_left _ ((List.Perm.cons _ ((List.Perm.append_left _ ((List.Perm.cons _ ((List.Perm.append_left _ ((List.Perm.cons _ (List.Perm.refl _)).trans (List.Perm.swap _ _ _))).trans List.perm_middle)).trans (List.Perm.swap _ _ _))).trans List.perm_middle)).trans (List.Perm.swap _ _ _))).trans List.perm_middle)).trans (List.Perm.swap _ _ _))).trans ((List.Perm.cons _ ((List.Perm.cons _ ((List.Perm.append_left _ ((List.Perm.cons _ ((List.Perm.append_left _ ((List.Perm.cons _ (List.Perm.refl _)).trans List.perm_middle.symm)).trans (perm_seg _ _ _))).trans List.perm_middle.symm)).trans (perm_seg _ _ _))).trans List.perm_middle.symm)).trans List.perm_middle.symm)).trans ((List.Perm.append_left _ ((List.Perm.cons _ ((List.Perm.cons _ ((List.Perm.append_left _ ((List.Perm.cons _ (List.Perm.refl _)).trans List.perm_middle.symm)).trans (perm_seg _ _ _))).trans List.perm_middle.symm)).trans List.perm_middle.symm)).trans (perm_seg _ _ _))).trans ((List.Perm.append_left _ ((List.Perm.append_left _ ((List.Perm.cons _ ((List.Perm.cons _ (List.Perm.refl _)).trans List.perm_middle.symm)).trans List.perm_middle.symm)).trans (perm_seg _ _ _))).trans (perm_seg _ _ _))) ?_
                refine JX_subL (Bx241 ++ (Bx161 ++ (Bx81 ++ ((r2, Obj.cells [(Value.slice (ax81) (s.1.length) (cx81)), (Value.slice (ax161) (s.2.1.length) (cx161)), (Value.slice (ax241) (s.2.2.length) (cx241))].toArray 25) :: ((r1, Obj.cells [(Value.slice (s_1_a) (s.1.length) (s_1_c)), (Value.slice (s_2_1_a) (s.2.1.length) (s_2_1_c)), (Value.slice (s_2_2_a) (s.2.2.length) (s_2_2_c))].toArray 25) :: []))))) (List.Sublist.append (List.Sublist.refl _) (List.Sublist.append (List.Sublist.refl _) (List.Sublist.append (List.Sublist.refl _) (List.Sublist.cons_cons _ (List.Sublist.cons_cons _ (List.nil_sublist _)))))) ?_
                exact JX_join12 s.1 ax81 cx81 Bx81 s.2.1 ax161 cx161 Bx161 s.2.2 ax241 cx241 Bx241 ⟨(Is.refl (Is.xr3 hF)), hox81, hox161, hox241⟩ (by repeat (first | exact SubE.nil | refine SubE.cons rfl ?_)) (List.Perm.refl _)
          · skip
            refine JO_a rfl noMk (a_bslice (l := []) Try.runUnderlying22 Try.sizeOf3 Try.zeroValue3) (k := fun r183 hr183 => ?_)
            refine JG_br [7] (by kernel_rfl) rfl (List.forall_mem_cons.2 ⟨?_, nofun⟩)
            · skip
              refine JO_append rfl TY_4 Try.underlying23 eB_ok (SlJ.of_base h_s_2_1) ⟨by omega, by omega⟩ (m := s.2.1.length) (k := fun ax161 cx161 Bx161 hox161 => ?_)
              refine JG_br [11] (by kernel_rfl) rfl (List.forall_mem_cons.2 ⟨?_, nofun⟩)
              · skip
                refine JO_append rfl TY_3 Try.underlying22 eI_ok (SlJ.of_base h_s_2_2) ⟨by omega, by omega⟩ (m := s.2.2.length) (k := fun ax241 cx241 Bx241 hox241 => ?_)
                refine JG_q 12 rfl (by kernel_rfl) (q_build (cs := [_, _, _]) Try.zeroValue25 PL_25) (k := ?_)
                refine JG_nil (by kernel_rfl) _ ?_
                refine JL_s (w_store (l' := [_, _, _]) Try.sizeOf25) (k := ?_)
                refine JL_nil ?_
                refine JX_permL (Bx241 ++ (Bx161 ++ (Bx81 ++ ((r2, Obj.cells [(Value.slice (ax81) (s.1.length) (cx81)), (Value.slice (ax161) (s.2.1.length) (cx161)), (Value.slice (ax241) (s.2.2.length) (cx241))].toArray 25) :: ((r1, Obj.cells [(Value.slice (s_1_a) (s.1.length) (s_1_c)), (Value.slice (s_2_1_a) (s.2.1.length) (s_2_1_c)), (Value.slice (s_2_2_a) (s.2.2.length) (s_2_2_c))].toArray 25) :: ((r183, Obj.cells [].toArray 3) :: ((r103, Obj.cells [].toArray 4) :: ((r23, Obj.cells [].toArray 3) :: [])))))))) ((((((List.Perm.append_left _ ((List.Perm.append_left _ ((List.Perm.cons _ ((List.Perm.cons _ ((List.Perm.append_left _ ((List.Perm.cons _ ((List.Perm.cons _ (List.Perm.refl _)).trans (List.Perm.swap _ _ _))).trans (List.Perm.swap _ _ _))).trans List.perm_middle)).trans (List.Perm.swap _ _ _))).trans (List.Perm.swap _ _ _))).trans List.perm_middle)).trans List.perm_middle).trans ((List.Perm.cons _ ((List.Perm.append_left _ ((List.Perm.append_left _ ((List.Perm.cons _ ((List.Perm.cons _ ((List.Perm.append_left _ ((List.Perm.cons _ (List.Perm.refl _)).trans (List.Perm.swap _ _ _))).trans List.perm_middle)).trans (List.Perm.swap _ _ _))).trans (List.Perm.swap _ _ _))).trans List.perm_middle)).trans List.perm_middle)).trans (List.Perm.swap _ _ _))).trans ((List.Perm.cons _ ((List.Perm.cons _ ((List.Perm.append_left _ ((List.Perm.append_left _ ((List.Perm.cons _ ((List.Perm.cons _ (List.Perm.refl _)).trans List.perm_middle.symm)).trans List.perm_middle.symm)).trans (perm_seg _ _ _))).trans (perm_seg _ _ _))).trans List.perm_middle.symm)).trans List.perm_middle.symm)).trans ((List.Perm.append_left _ ((List.Perm.cons _ ((List.Perm.cons _ ((List.Perm.append_left _ (List.Perm.refl _)).trans (perm_seg _ _ _))).trans List.perm_middle.symm)).trans List.perm_middle.symm)).trans (perm_seg _ _ _))).trans ((List.Perm.append_left _ ((List.Perm.append_left _ ((List.Perm.cons _ ((List.Perm.cons _ (List.Perm.refl _)).trans List.perm_middle.symm)).trans List.perm_middle.symm)).trans (perm_seg _ _ _))).trans (perm_seg _ _ _))) ?_
                refine JX_subL (Bx241 ++ (Bx161 ++ (Bx81 ++ ((r2, Obj.cells [(Value.slice (ax81) (s.1.length) (cx81)), (Value.slice (ax161) (s.2.1.length) (cx161)), (Value.slice (ax241) (s.2.2.length) (cx241))].toArray 25) :: ((r1, Obj.cells [(Value.slice (s_1_a) (s.1.length) (s_1_c)), (Value.slice (s_2_1_a) (s.2.1.length) (s_2_1_c)), (Value.slice (s_2_2_a) (s.2.2.length) (s_2_2_c))].toArray 25) :: []))))) (List.Sublist.append (List.Sublist.refl _) (List.Sublist.append (List.Sublist.refl _) (List.Sublist.append (List.Sublist.refl _) (List.Sublist.cons_cons _ (List.Sublist.cons_cons _ (List.nil_sublist _)))))) ?_
                exact JX_join12 s.1 ax81 cx81 Bx81 s.2.1 ax161 cx161 Bx161 s.2.2 ax241 cx241 Bx241 ⟨(Is.refl (Is.xr3 hF)), hox81, hox161, hox241⟩ (by repeat (first | exact SubE.nil | refine SubE.cons rfl ?_)) (List.Perm.refl _)
        · skip
          refine JO_a rfl noMk (a_bslice (l := []) Try.runUnderlying22 Try.sizeOf3 Try.zeroValue3) (k := fun r183 hr183 => ?_)
          refine JG_br [4] (by kernel_rfl) rfl (List.forall_mem_cons.2 ⟨?_, nofun⟩)
          · skip
            refine JO_a rfl noMk (a_bslice (l := []) Try.runUnderlying23 Try.sizeOf4 Try.zeroValue4) (k := fun r103 hr103 => ?_)
            refine JG_br [7] (by kernel_rfl) rfl (List.forall_mem_cons.2 ⟨?_, nofun⟩)
            · skip
              refine JO_append rfl TY_4 Try.underlying23 eB_ok (SlJ.of_base h_s_2_1) ⟨by omega, by omega⟩ (m := s.2.1.length) (k := fun ax161 cx161 Bx161 hox161 => ?_)
              refine JG_br [11] (by kernel_rfl) rfl (List.forall_mem_cons.2 ⟨?_, nofun⟩)
              · skip
                refine JO_append rfl TY_3 Try.underlying22 eI_ok (SlJ.of_base h_s_2_2) ⟨by omega, by omega⟩ (m := s.2.2.length) (k := fun ax241 cx241 Bx241 hox241 => ?_)
                refine JG_q 12 rfl (by kernel_rfl) (q_build (cs := [_, _, _]) Try.zeroValue25 PL_25) (k := ?_)
                refine JG_nil (by kernel_rfl) _ ?_
                refine JL_s (w_store (l' := [_, _, _]) Try.sizeOf25) (k := ?_)
                refine JL_nil ?_
                refine JX_permL (Bx241 ++ (Bx161 ++ (Bx81 ++ ((r2, Obj.cells [(Value.slice (ax81) (s.1.length) (cx81)), (Value.slice (ax161) (s.2.1.length) (cx161)), (Value.slice (ax241) (s.2.2.length) (cx241))].toArray 25) :: ((r1, Obj.cells [(Value.slice (s_1_a) (s.1.length) (s_1_c)), (Value.slice (s_2_1_a) (s.2.1.length) (s_2_1_c)), (Value.slice (s_2_2_a) (s.2.2.length) (s_2_2_c))].toArray 25) :: ((r103, Obj.cells [].toArray 4) :: ((r183, Obj.cells [].toArray 3) :: ((r23, Obj.cells [].toArray 3) :: [])))))))) ((((((List.Perm.append_left _ ((List.Perm.append_left _ ((List.Perm.cons _ ((List.Perm.cons _ ((List.Perm.append_left _ ((List.Perm.cons _ ((List.Perm.cons _ (List.Perm.refl _)).trans (List.Perm.swap _ _ _))).trans (List.Perm.swap _ _ _))).trans List.perm_middle)).trans (List.Perm.swap _ _ _))).trans (List.Perm.swap _ _ _))).trans List.perm_middle)).trans List.perm_middle).trans ((List.Perm.cons _ ((List.Perm.append_left _ ((List.Perm.append_left _ ((List.Perm.cons _ ((List.Perm.cons _ ((List.Perm.append_left _ ((List.Perm.cons _ (List.Perm.refl _)).trans (List.Perm.swap _ _ _))).trans List.perm_middle)).trans (List.Perm.swap _ _ _))).trans (List.Perm.swap _ _ _))).trans List.perm_middle)).trans List.perm_middle)).trans (List.Perm.swap _ _ _))).trans ((List.Perm.cons _ ((List.Perm.cons _ ((List.Perm.append_left _ ((List.Perm.append_left _ ((List.Perm.cons _ ((List.Perm.cons _ (List.Perm.refl _)).trans List.perm_middle.symm)).trans List.perm_middle.symm)).trans (perm_seg _ _ _))).trans (perm_seg _ _ _))).trans List.perm_middle.symm)).trans List.perm_middle.symm)).trans ((List.Perm.append_left _ ((List.Perm.cons _ ((List.Perm.cons _ ((List.Perm.append_left _ (List.Perm.refl _)).trans (perm_seg _ _ _))).trans List.perm_middle.symm)).trans List.perm_middle.symm)).trans (perm_seg _ _ _))).trans ((List.Perm.append_left _ ((List.Perm.append_left _ ((List.Perm.cons _ ((List.Perm.cons _ (List.Perm.refl _)).trans List.perm_middle.symm)).trans List.perm_middle.symm)).trans (perm_seg _ _ _))).trans (perm_seg _ _ _))) ?_
                refine JX_subL (Bx241 ++ (Bx161 ++ (Bx81 ++ ((r2, Obj.cells [(Value.slice (ax81) (s.1.length) (cx81)), (Value.slice (ax161) (s.2.1.length) (cx161)), (Value.slice (ax241) (s.2.2.length) (cx241))].toArray 25) :: ((r1, Obj.cells [(Value.slice (s_1_a) (s.1.length) (s_1_c)), (Value.slice (s_2_1_a) (s.2.1.length) (s_2_1_c)), (Value.slice (s_2_2_a) (s.2.2.length) (s_2_2_c))].toArray 25) :: []))))) (List.Sublist.append (List.Sublist.refl _) (List.Sublist.append (List.Sublist.refl _) (List.Sublist.append (List.Sublist.refl _) (List.Sublist.cons_cons _ (List.Sublist.cons_cons _ (List.nil_sublist _)))))) ?_
                exact JX_join12 s.1 ax81 cx81 Bx81 s.2.1 ax161 cx161 Bx161 s.2.2 ax241 cx241 Bx241 ⟨(Is.refl (Is.xr3 hF)), hox81, hox161, hox241⟩ (by repeat (first | exact SubE.nil | refine SubE.cons rfl ?_)) (List.Perm.refl _)
      · skip
        refine JO_a rfl noMk (a_bslice (l := []) Try.runUnderlying23 Try.sizeOf4 Try.zeroValue4) (k := fun r103 hr103 => ?_)
        refine JG_br [3, 8] (by kernel_rfl) rfl (List.forall_mem_cons.2 ⟨?_, (List.forall_mem_cons.2 ⟨?_, nofun⟩)⟩)
        · skip
          refine JO_append rfl TY_3 Try.underlying22 eI_ok (SlJ.of_base h_s_1) ⟨by omega, by omega⟩ (m := s.1.length) (k := fun ax81 cx81 Bx81 hox81 => ?_)
          refine JG_br [7, 8] (by kernel_rfl) rfl (List.forall_mem_cons.2 ⟨?_, (List.forall_mem_cons.2 ⟨?_, nofun⟩)⟩)
          · skip
            refine JO_append rfl TY_4 Try.underlying23 eB_ok (SlJ.of_base h_s_2_1) ⟨by omega, by omega⟩ (m := s.2.1.length) (k := fun ax161 cx161 Bx161 hox161 => ?_)
            refine JG_br [8] (by kernel_rfl) rfl (List.forall_mem_cons.2 ⟨?_, nofun⟩)
            · skip
              refine JO_a rfl noMk (a_bslice (l := []) Try.runUnderlying22 Try.sizeOf3 Try.zeroValue3) (k := fun r183 hr183 => ?_)
              refine JG_br [11] (by kernel_rfl) rfl (List.forall_mem_cons.2 ⟨?_, nofun⟩)
              · skip
                refine JO_append rfl TY_3 Try.underlying22 eI_ok (SlJ.of_base h_s_2_2) ⟨by omega, by omega⟩ (m := s.2.2.length) (k := fun ax241 cx241 Bx241 hox241 => ?_)
                refine JG_q 12 rfl (by kernel_rfl) (q_build (cs := [_, _, _]) Try.zeroValue25 PL_25) (k := ?_)
                refine JG_nil (by kernel_rfl) _ ?_
                refine JL_s (w_store (l' := [_, _, _]) Try.sizeOf25) (k := ?_)
                refine JL_nil ?_
                refine JX_permL (Bx241 ++ (Bx161 ++ (Bx81 ++ ((r2, Obj.cells [(Value.slice (ax81) (s.1.length) (cx81)), (Value.slice (ax161) (s.2.1.length) (cx161)), (Value.slice (ax241) (s.2.2.length) (cx241))].toArray 25) :: ((r1, Obj.cells [(Value.slice (s_1_a) (s.1.length) (s_1_c)), (Value.slice (s_2_1_a) (s.2.1.length) (s_2_1_c)), (Value.slice (s_2_2_a) (s.2.2.length) (s_2_2_c))].toArray 25) :: ((r183, Obj.cells [].toArray 3) :: ((r103, Obj.cells [].toArray 4) :: ((r23, Obj.cells [].toArray 3) :: [])))))))) ((((((List.Perm.append_left _ ((List.Perm.cons _ ((List.Perm.append_left _ ((List.Perm.append_left _ ((List.Perm.cons _ ((List.Perm.cons _ ((List.Perm.cons _ (List.Perm.refl _)).trans (List.Perm.swap _ _ _))).trans (List.Perm.swap _ _ _))).trans (List.Perm.swap _ _ _))).trans List.perm_middle)).trans List.perm_middle)).trans (List.Perm.swap _ _ _))).trans List.perm_middle).trans ((List.Perm.cons _ ((List.Perm.append_left _ ((List.Perm.cons _ ((List.Perm.append_left _ ((List.Perm.append_left _ ((List.Perm.cons _ ((List.Perm.cons _ (List.Perm.refl _)).trans (List.Perm.swap _ _ _))).trans (List.Perm.swap _ _ _))).trans List.perm_middle)).trans List.perm_middle)).trans (List.Perm.swap _ _ _))).trans List.perm_middle)).trans (List.Perm.swap _ _ _))).trans ((List.Perm.cons _ ((List.Perm.cons _ ((List.Perm.append_left _ ((List.Perm.cons _ ((List.Perm.append_left _ (List.Perm.refl _)).trans (perm_seg _ _ _))).trans List.perm_middle.symm)).trans (perm_seg _ _ _))).trans List.perm_middle.symm)).trans List.perm_middle.symm)).trans ((List.Perm.append_left _ ((List.Perm.cons _ ((List.Perm.cons _ ((List.Perm.append_left _ ((List.Perm.cons _ (List.Perm.refl _)).trans List.perm_middle.symm)).trans (perm_seg _ _ _))).trans List.perm_middle.symm)).trans List.perm_middle.symm)).trans (perm_seg _ _ _))).trans ((List.Perm.append_left _ ((List.Perm.append_left _ ((List.Perm.cons _ ((List.Perm.cons _ (List.Perm.refl _)).trans List.perm_middle.symm)).trans List.perm_middle.symm)).trans (perm_seg _ _ _))).trans (perm_seg _ _ _))) ?_
                refine JX_subL (Bx241 ++ (Bx161 ++ (Bx81 ++ ((r2, Obj.cells [(Value.slice (ax81) (s.1.length) (cx81)), (Value.slice (ax161) (s.2.1.length) (cx161)), (Value.slice (ax241) (s.2.2.length) (cx241))].toArray 25) :: ((r1, Obj.cells [(Value.slice (s_1_a) (s.1.length) (s_1_c)), (Value.slice (s_2_1_a) (s.2.1.length) (s_2_1_c)), (Value.slice (s_2_2_a) (s.2.2.length) (s_2_2_c))].toArray 25) :: []))))) (List.Sublist.append (List.Sublist.refl _) (List.Sublist.append (List.Sublist.refl _) (List.Sublist.append (List.Sublist.refl _) (List.Sublist.cons_cons _ (List.Sublist.cons_cons _ (List.nil_sublist _)))))) ?_
                exact JX_join12 s.1 ax81 cx81 Bx81 s.2.1 ax161 cx161 Bx161 s.2.2 ax241 cx241 Bx241 ⟨(Is.refl (Is.xr3 hF)), hox81, hox161, hox241⟩ (by repeat (first | exact SubE.nil | refine SubE.cons rfl ?_)) (List.Perm.refl _)
          · skip
            refine JO_a rfl noMk (a_bslice (l := []) Try.runUnderlying22 Try.sizeOf3 Try.zeroValue3) (k := fun r183 hr183 => ?_)
            refine JG_br [7] (by kernel_rfl) rfl (List.forall_mem_cons.2 ⟨?_, nofun⟩)
            · skip
              refine JO_append rfl TY_4 Try.underlying23 eB_ok (SlJ.of_base h_s_2_1) ⟨by omega, by omega⟩ (m := s.2.1.length) (k := fun ax161 cx161 Bx161 hox161 => ?_)
              refine JG_br [11] (by kernel_rfl) rfl (List.forall_mem_cons.2 ⟨?_, nofun⟩)
              · skip
                refine JO_append rfl TY_3 Try.underlying22 eI_ok (SlJ.of_base h_s_2_2) ⟨by omega, by omega⟩ (m := s.2.2.length) (k := fun ax241 cx241 Bx241 hox241 => ?_)
                refine JG_q 12 rfl (by kernel_rfl) (q_build (cs := [_, _, _]) Try.zeroValue25 PL_25) (k := ?_)
                refine JG_nil (by kernel_rfl) _ ?_
                refine JL_s (w_store (l' := [_, _, _]) Try.sizeOf25) (k := ?_)
                refine JL_nil ?_
                refine JX_permL (Bx241 ++ (Bx161 ++ (Bx81 ++ ((r2, Obj.cells [(Value.slice (ax81) (s.1.length) (cx81)), (Value.slice (ax161) (s.2.1.length) (cx161)), (Value.slice (ax241) (s.2.2.length) (cx241))].toArray 25) :: ((r1, Obj.cells [(Value.slice (s_1_a) (s.1.length) (s_1_c)), (Value.slice (s_2_1_a) (s.2.1.length) (s_2_1_c)), (Value.slice (s_2_2_a) (s.2.2.length) (s_2_2_c))].toArray 25) :: ((r183, Obj.cells [].toArray 3) :: ((r103, Obj.cells [].toArray 4) :: ((r23, Obj.cells [].toArray 3) :: [])))))))) ((((((List.Perm.append_left _ ((List.Perm.append_left _ ((List.Perm.cons _ ((List.Perm.append_left _ ((List.Perm.cons _ ((List.Perm.cons _ ((List.Perm.cons _ (List.Perm.refl _)).trans (List.Perm.swap _ _ _))).trans (List.Perm.swap _ _ _))).trans (List.Perm.swap _ _ _))).trans List.perm_middle)).trans (List.Perm.swap _ _ _))).trans List.perm_middle)).trans List.perm_middle).trans ((List.Perm.cons _ ((List.Perm.append_left _ ((List.Perm.append_left _ ((List.Perm.cons _ ((List.Perm.append_left _ ((List.Perm.cons _ ((List.Perm.cons _ (List.Perm.refl _)).trans (List.Perm.swap _ _ _))).trans (List.Perm.swap _ _ _))).trans List.perm_middle)).trans (List.Perm.swap _ _ _))).trans List.perm_middle)).trans List.perm_middle)).trans (List.Perm.swap _ _ _))).trans ((List.Perm.cons _ ((List.Perm.cons _ ((List.Perm.append_left _ ((List.Perm.append_left _ ((List.Perm.cons _ (List.Perm.refl _)).trans List.perm_middle.symm)).trans (perm_seg _ _ _))).trans (perm_seg _ _ _))).trans List.perm_middle.symm)).trans List.perm_middle.symm)).trans ((List.Perm.append_left _ ((List.Perm.cons _ ((List.Perm.cons _ ((List.Perm.append_left _ (List.Perm.refl _)).trans (perm_seg _ _ _))).trans List.perm_middle.symm)).trans List.perm_middle.symm)).trans (perm_seg _ _ _))).trans ((List.Perm.append_left _ ((List.Perm.append_left _ ((List.Perm.cons _ ((List.Perm.cons _ (List.Perm.refl _)).trans List.perm_middle.symm)).trans List.perm_middle.symm)).trans (perm_seg _ _ _))).trans (perm_seg _ _ _))) ?_
                refine JX_subL (Bx241 ++ (Bx161 ++ (Bx81 ++ ((r2, Obj.cells [(Value.slice (ax81) (s.1.length) (cx81)), (Value.slice (ax161) (s.2.1.length) (cx161)), (Value.slice (ax241) (s.2.2.length) (cx241))].toArray 25) :: ((r1, Obj.cells [(Value.slice (s_1_a) (s.1.length) (s_1_c)), (Value.slice (s_2_1_a) (s.2.1.length) (s_2_1_c)), (Value.slice (s_2_2_a) (s.2.2.length) (s_2_2_c))].toArray 25) :: []))))) (List.Sublist.append (List.Sublist.refl _) (List.Sublist.append (List.Sublist.refl _) (List.Sublist.append (List.Sublist.refl _) (List.Sublist.cons_cons _ (List.Sublist.cons_cons _ (List.nil_sublist _)))))) ?_
                exact JX_join12 s.1 ax81 cx81 Bx81 s.2.1 ax161 cx161 Bx161 s.2.2 ax241 cx241 Bx241 ⟨(Is.refl (Is.xr3 hF)), hox81, hox161, hox241⟩ (by repeat (first | exact SubE.nil | refine SubE.cons rfl ?_)) (List.Perm.refl _)
        · skip
          refine JO_a rfl noMk (a_bslice (l := []) Try.runUnderlying22 Try.sizeOf3 Try.zeroValue3) (k := fun r183 hr183 => ?_)
          refine JG_br [3] (by kernel_rfl) rfl (List.forall_mem_cons.2 ⟨?_, nofun⟩)
          · skip
            refine JO_append rfl TY_3 Try.underlying22 eI_ok (SlJ.of_base h_s_1) ⟨by omega, by omega⟩ (m := s.1.length) (k := fun ax81 cx81 Bx81 hox81 => ?_)
            refine JG_br [7] (by kernel_rfl) rfl (List.forall_mem_cons.2 ⟨?_, nofun⟩)
            · skip
              refine JO_append rfl TY_4 Try.underlying23 eB_ok (SlJ.of_base h_s_2_1) ⟨by omega, by omega⟩ (m := s.2.1.length) (k := fun ax161 cx161 Bx161 hox161 => ?_)
              refine JG_br [11] (by kernel_rfl) rfl (List.forall_mem_cons.2 ⟨?_, nofun⟩)
              · skip
                refine JO_append rfl TY_3 Try.underlying22 eI_ok (SlJ.of_base h_s_2_2) ⟨by omega, by omega⟩ (m := s.2.2.length) (k := fun ax241 cx241 Bx241 hox241 => ?_)
                refine JG_q 12 rfl (by kernel_rfl) (q_build (cs := [_, _, _]) Try.zeroValue25 PL_25) (k := ?_)
                refine JG_nil (by kernel_rfl) _ ?_
                refine JL_s (w_store (l' := [_, _, _]) Try.sizeOf25) (k := ?_)
                refine JL_nil ?_
                refine JX_permL (Bx241 ++ (Bx161 ++ (Bx81 ++ ((r2, Obj.cells [(Value.slice (ax81) (s.1.length) (cx81)), (Value.slice (ax161) (s.2.1.length) (cx161)), (Value.slice (ax241) (s.2.2.length) (cx241))].toArray 25) :: ((r1, Obj.cells [(Value.slice (s_1_a) (s.1.length) (s_1_c)), (Value.slice (s_2_1_a) (s.2.1.length) (s_2_1_c)), (Value.slice (s_2_2_a) (s.2.2.length) (s_2_2_c))].toArray 25) :: ((r183, Obj.cells [].toArray 3) :: ((r103, Obj.cells [].toArray 4) :: ((r23, Obj.cells [].toArray 3) :: [])))))))) ((((((List.Perm.append_left _ ((List.Perm.append_left _ ((List.Perm.append_left _ ((List.Perm.cons _ ((List.Perm.cons _ ((List.Perm.cons _ ((List.Perm.cons _ (List.Perm.refl _)).trans (List.Perm.swap _ _ _))).trans (List.Perm.swap _ _ _))).trans (List.Perm.swap _ _ _))).trans (List.Perm.swap _ _ _))).trans List.perm_middle)).trans List.perm_middle)).trans List.perm_middle).trans ((List.Perm.cons _ ((List.Perm.append_left _ ((List.Perm.append_left _ ((List.Perm.append_left _ ((List.Perm.cons _ ((List.Perm.cons _ ((List.Perm.cons _ (List.Perm.refl _)).trans (List.Perm.swap _ _ _))).trans (List.Perm.swap _ _ _))).trans (List.Perm.swap _ _ _))).trans List.perm_middle)).trans List.perm_middle)).trans List.perm_middle)).trans (List.Perm.swap _ _ _))).trans ((List.Perm.cons _ ((List.Perm.cons _ ((List.Perm.append_left _ ((List.Perm.append_left _ (List.Perm.refl _)).trans (perm_seg _ _ _))).trans (perm_seg _ _ _))).trans List.perm_middle.symm)).trans List.perm_middle.symm)).trans ((List.Perm.append_left _ ((List.Perm.cons _ ((List.Perm.cons _ ((List.Perm.append_left _ (List.Perm.refl _)).trans (perm_seg _ _ _))).trans List.perm_middle.symm)).trans List.perm_middle.symm)).trans (perm_seg _ _ _))).trans ((List.Perm.append_left _ ((List.Perm.append_left _ ((List.Perm.cons _ ((List.Perm.cons _ (List.Perm.refl _)).trans List.perm_middle.symm)).trans List.perm_middle.symm)).trans (perm_seg _ _ _))).trans (perm_seg _ _ _))) ?_
                refine JX_subL (Bx241 ++ (Bx161 ++ (Bx81 ++ ((r2, Obj.cells [(Value.slice (ax81) (s.1.length) (cx81)), (Value.slice (ax161) (s.2.1.length) (cx161)), (Value.slice (ax241) (s.2.2.length) (cx241))].toArray 25) :: ((r1, Obj.cells [(Value.slice (s_1_a) (s.1.length) (s_1_c)), (Value.slice (s_2_1_a) (s.2.1.length) (s_2_1_c)), (Value.slice (s_2_2_a) (s.2.2.length) (s_2_2_c))].toArray 25) :: []))))) (List.Sublist.append (List.Sublist.refl _) (List.Sublist.append (List.Sublist.refl _) (List.Sublist.append (List.Sublist.refl _) (List.Sublist.cons_cons _ (List.Sublist.cons_cons _ (List.nil_sublist _)))))) ?_
                exact JX_join12 s.1 ax81 cx81 Bx81 s.2.1 ax161 cx161 Bx161 s.2.2 ax241 cx241 Bx241 ⟨(Is.refl (Is.xr3 hF)), hox81, hox161, hox241⟩ (by repeat (first | exact SubE.nil | refine SubE.cons rfl ?_)) (List.Perm.refl _)
      · skip
        refine JO_a rfl noMk (a_bslice (l := []) Try.runUnderlying22 Try.sizeOf3 Try.zeroValue3) (k := fun r183 hr183 => ?_)
        refine JG_br [3, 4] (by kernel_rfl) rfl (List.forall_mem_cons.2 ⟨?_, (List.forall_mem_cons.2 ⟨?_, nofun⟩)⟩)
        · skip
          refine JO_append rfl TY_3 Try.underlying22 eI_ok (SlJ.of_base h_s_1) ⟨by omega, by omega⟩ (m := s.1.length) (k := fun ax81 cx81 Bx81 hox81 => ?_)
          refine JG_br [4] (by kernel_rfl) rfl (List.forall_mem_cons.2 ⟨?_, nofun⟩)
          · skip
            refine JO_a rfl noMk (a_bslice (l := []) Try.runUnderlying23 Try.sizeOf4 Try.zeroValue4) (k := fun r103 hr103 => ?_)
            refine JG_br [7] (by kernel_rfl) rfl (List.forall_mem_cons.2 ⟨?_, nofun⟩)
            · skip
              refine JO_append rfl TY_4 Try.underlying23 eB_ok (SlJ.of_base h_s_2_1) ⟨by omega, by omega⟩ (m := s.2.1.length) (k := fun ax161 cx161 Bx161 hox161 => ?_)
              refine JG_br [11] (by kernel_rfl) rfl (List.forall_mem_cons.2 ⟨?_, nofun⟩)
              · skip
                refine JO_append rfl TY_3 Try.underlying22 eI_ok (SlJ.of_base h_s_2_2) ⟨by omega, by omega⟩ (m := s.2.2.length) (k := fun ax241 cx241 Bx241 hox241 => ?_)
                refine JG_q 12 rfl (by kernel_rfl) (q_build (cs := [_, _, _]) Try.zeroValue25 PL_25) (k := ?_)
                refine JG_nil (by kernel_rfl) _ ?_
                refine JL_s (w_store (l' := [_, _, _]) Try.sizeOf25) (k := ?_)
                refine JL_nil ?_
                refine JX_permL (Bx241 ++ (Bx161 ++ (Bx81 ++ ((r2, Obj.cells [(Value.slice (ax81) (s.1.length) (cx81)), (Value.slice (ax161) (s.2.1.length) (cx161)), (Value.slice (ax241) (s.2.2.length) (cx241))].toArray 25) :: ((r1, Obj.cells [(Value.slice (s_1_a) (s.1.length) (s_1_c)), (Value.slice (s_2_1_a) (s.2.1.length) (s_2_1_c)), (Value.slice (s_2_2_a) (s.2.2.length) (s_2_2_c))].toArray 25) :: ((r103, Obj.cells [].toArray 4) :: ((r183, Obj.cells [].toArray 3) :: ((r23, Obj.cells [].toArray 3) :: [])))))))) ((((((List.Perm.append_left _ ((List.Perm.append_left _ ((List.Perm.cons _ ((List.Perm.append_left _ ((List.Perm.cons _ ((List.Perm.cons _ ((List.Perm.cons _ (List.Perm.refl _)).trans (List.Perm.swap _ _ _))).trans (List.Perm.swap _ _ _))).trans (List.Perm.swap _ _ _))).trans List.perm_middle)).trans (List.Perm.swap _ _ _))).trans List.perm_middle)).trans List.perm_middle).trans ((List.Perm.cons _ ((List.Perm.append_left _ ((List.Perm.append_left _ ((List.Perm.cons _ ((List.Perm.append_left _ ((List.Perm.cons _ ((List.Perm.cons _ (List.Perm.refl _)).trans (List.Perm.swap _ _ _))).trans (List.Perm.swap _ _ _))).trans List.perm_middle)).trans (List.Perm.swap _ _ _))).trans List.perm_middle)).trans List.perm_middle)).trans (List.Perm.swap _ _ _))).trans ((List.Perm.cons _ ((List.Perm.cons _ ((List.Perm.append_left _ ((List.Perm.append_left _ ((List.Perm.cons _ (List.Perm.refl _)).trans List.perm_middle.symm)).trans (perm_seg _ _ _))).trans (perm_seg _ _ _))).trans List.perm_middle.symm)).trans List.perm_middle.symm)).trans ((List.Perm.append_left _ ((List.Perm.cons _ ((List.Perm.cons _ ((List.Perm.append_left _ (List.Perm.refl _)).trans (perm_seg _ _ _))).trans List.perm_middle.symm)).trans List.perm_middle.symm)).trans (perm_seg _ _ _))).trans ((List.Perm.append_left _ ((List.Perm.append_left _ ((List.Perm.cons _ ((List.Perm.cons _ (List.Perm.refl _)).trans List.perm_middle.symm)).trans List.perm_middle.symm)).trans (perm_seg _ _ _))).trans (perm_seg _ _ _))) ?_
                refine JX_subL (Bx241 ++ (Bx161 ++ (Bx81 ++ ((r2, Obj.cells [(Value.slice (ax81) (s.1.length) (cx81)), (Value.slice (ax161) (s.2.1.length) (cx161)), (Value.slice (ax241) (s.2.2.length) (cx241))].toArray 25) :: ((r1, Obj.cells [(Value.slice (s_1_a) (s.1.length) (s_1_c)), (Value.slice (s_2_1_a) (s.2.1.length) (s_2_1_c)), (Value.slice (s_2_2_a) (s.2.2.length) (s_2_2_c))].toArray 25) :: []))))) (List.Sublist.append (List.Sublist.refl _) (List.Sublist.append (List.Sublist.refl _) (List.Sublist.append (List.Sublist.refl _) (List.Sublist.cons_cons _ (List.Sublist.cons_cons _ (List.nil_sublist _)))))) ?_
                exact JX_join12 s.1 ax81 cx81 Bx81 s.2.1 ax161 cx161 Bx161 s.2.2 ax241 cx241 Bx241 ⟨(Is.refl (Is.xr3 hF)), hox81, hox161, hox241⟩ (by repeat (first | exact SubE.nil | refine SubE.cons rfl ?_)) (List.Perm.refl _)
        · skip
          refine JO_a rfl noMk (a_bslice (l := []) Try.runUnderlying23 Try.sizeOf4 Try.zeroValue4) (k := fun r103 hr103 => ?_)
          refine JG_br [3] (by kernel_rfl) rfl (List.forall_mem_cons.2 ⟨?_, nofun⟩)
          · skip
            refine JO_append rfl TY_3 Try.underlying22 eI_ok (SlJ.of_base h_s_1) ⟨by omega, by omega⟩ (m := s.1.length) (k := fun ax81 cx81 Bx81 hox81 => ?_)
            refine JG_br [7] (by kernel_rfl) rfl (List.forall_mem_cons.2 ⟨?_, nofun⟩)
            · skip
              refine JO_append rfl TY_4 Try.underlying23 eB_ok (SlJ.of_base h_s_2_1) ⟨by omega, by omega⟩ (m := s.2.1.length) (k := fun ax161 cx161 Bx161 hox161 => ?_)
              refine JG_br [11] (by kernel_rfl) rfl (List.forall_mem_cons.2 ⟨?_, nofun⟩)
              · skip
                refine JO_append rfl TY_3 Try.underlying22 eI_ok (SlJ.of_base h_s_2_2) ⟨by omega, by omega⟩ (m := s.2.2.length) (k := fun ax241 cx241 Bx241 hox241 => ?_)
                refine JG_q 12 rfl (by kernel_rfl) (q_build (cs := [_, _, _]) Try.zeroValue25 PL_25) (k := ?_)
                refine JG_nil (by kernel_rfl) _ ?_
                refine JL_s (w_store (l' := [_, _, _]) Try.sizeOf25) (k := ?_)
                refine JL_nil ?_
                refine JX_permL (Bx241 ++ (Bx161 ++ (Bx81 ++ ((r2, Obj.cells [(Value.slice (ax81) (s.1.length) (cx81)), (Value.slice (ax161) (s.2.1.length) (cx161)), (Value.slice (ax241) (s.2.2.length) (cx241))].toArray 25) :: ((r1, Obj.cells [(Value.slice (s_1_a) (s.1.length) (s_1_c)), (Value.slice (s_2_1_a) (s.2.1.length) (s_2_1_c)), (Value.slice (s_2_2_a) (s.2.2.length) (s_2_2_c))].toArray 25) :: ((r103, Obj.cells [].toArray 4) :: ((r183, Obj.cells [].toArray 3) :: ((r23, Obj.cells [].toArray 3) :: [])))))))) ((((((List.Perm.append_left _ ((List.Perm.append_left _ ((List.Perm.append_left _ ((List.Perm.cons _ ((List.Perm.cons _ ((List.Perm.cons _ ((List.Perm.cons _ (List.Perm.refl _)).trans (List.Perm.swap _ _ _))).trans (List.Perm.swap _ _ _))).trans (List.Perm.swap _ _ _))).trans (List.Perm.swap _ _ _))).trans List.perm_middle)).trans List.perm_middle)).trans List.perm_middle).trans ((List.Perm.cons _ ((List.Perm.append_left _ ((List.Perm.append_left _ ((List.Perm.append_left _ ((List.Perm.cons _ ((List.Perm.cons _ ((List.Perm.cons _ (List.Perm.refl _)).trans (List.Perm.swap _ _ _))).trans (List.Perm.swap _ _ _))).trans (List.Perm.swap _ _ _))).trans List.perm_middle)).trans List.perm_middle)).trans List.perm_middle)).trans (List.Perm.swap _ _ _))).trans ((List.Perm.cons _ ((List.Perm.cons _ ((List.Perm.append_left _ ((List.Perm.append_left _ (List.Perm.refl _)).trans (perm_seg _ _ _))).trans (perm_seg _ _ _))).trans List.perm_middle.symm)).trans List.perm_middle.symm)).trans ((List.Perm.append_left _ ((List.Perm.cons _ ((List.Perm.cons _ ((List.Perm.append_left _ (List.Perm.refl _)).trans (perm_seg _ _ _))).trans List.perm_middle.symm)).trans List.perm_middle.symm)).trans (perm_seg _ _ _))).trans ((List.Perm.append_left _ ((List.Perm.append_left _ ((List.Perm.cons _ ((List.Perm.cons _ (List.Perm.refl _)).trans List.perm_middle.symm)).trans List.perm_middle.symm)).trans (perm_seg _ _ _))).trans (perm_seg _ _ _))) ?_
                refine JX_subL (Bx241 ++ (Bx161 ++ (Bx81 ++ ((r2, Obj.cells [(Value.slice (ax81) (s.1.length) (cx81)), (Value.slice (ax161) (s.2.1.length) (cx161)), (Value.slice (ax241) (s.2.2.length) (cx241))].toArray 25) :: ((r1, Obj.cells [(Value.slice (s_1_a) (s.1.length) (s_1_c)), (Value.slice (s_2_1_a) (s.2.1.length) (s_2_1_c)), (Value.slice (s_2_2_a) (s.2.2.length) (s_2_2_c))].toArray 25) :: []))))) (List.Sublist.append (List.Sublist.refl _) (List.Sublist.append (List.Sublist.refl _) (List.Sublist.append (List.Sublist.refl _) (List.Sublist.cons_cons _ (List.Sublist.cons_cons _ (List.nil_sublist _)))))) ?_
                exact JX_join12 s.1 ax81 cx81 Bx81 s.2.1 ax161 cx161 Bx161 s.2.2 ax241 cx241 Bx241 ⟨(Is.refl (Is.xr3 hF)), hox81, hox161, hox241⟩ (by repeat (first | exact SubE.nil | refine SubE.cons rfl ?_)) (List.Perm.refl _)
    · skip
      refine JO_a rfl noMk (a_bslice (l := []) Try.runUnderlying23 Try.sizeOf4 Try.zeroValue4) (k := fun r103 hr103 => ?_)
      refine JG_br [0, 8] (by kernel_rfl) rfl (List.forall_mem_cons.2 ⟨?_, (List.forall_mem_cons.2 ⟨?_, nofun⟩)⟩)
      · skip
        refine JO_a rfl noMk (a_bslice (l := []) Try.runUnderlying22 Try.sizeOf3 Try.zeroValue3) (k := fun r23 hr23 => ?_)
        refine JG_br [3, 8] (by kernel_rfl) rfl (List.forall_mem_cons.2 ⟨?_, (List.forall_mem_cons.2 ⟨?_, nofun⟩)⟩)
        · skip
          refine JO_append rfl TY_3 Try.underlying22 eI_ok (SlJ.of_base h_s_1) ⟨by omega, by omega⟩ (m := s.1.length) (k := fun ax81 cx81 Bx81 hox81 => ?_)
          refine JG_br [7, 8] (by kernel_rfl) rfl (List.forall_mem_cons.2 ⟨?_, (List.forall_mem_cons.2 ⟨?_, nofun⟩)⟩)
          · skip
            refine JO_append rfl TY_4 Try.underlying23 eB_ok (SlJ.of_base h_s_2_1) ⟨by omega, by omega⟩ (m := s.2.1.length) (k := fun ax161 cx161 Bx161 hox161 => ?_)
            refine JG_br [8] (by kernel_rfl) rfl (List.forall_mem_cons.2 ⟨?_, nofun⟩)
            · skip
              refine JO_a rfl noMk (a_bslice (l := []) Try.runUnderlying22 Try.sizeOf3 Try.zeroValue3) (k := fun r183 hr183 => ?_)
              refine JG_br [11] (by kernel_rfl) rfl (List.forall_mem_cons.2 ⟨?_, nofun⟩)
              · skip
                refine JO_append rfl TY_3 Try.underlying22 eI_ok (SlJ.of_base h_s_2_2) ⟨by omega, by omega⟩ (m := s.2.2.length) (k := fun ax241 cx241 Bx241 hox241 => ?_)
                refine JG_q 12 rfl (by kernel_rfl) (q_build (cs := [_, _, _]) Try.zeroValue25 PL_25) (k := ?_)
                refine JG_nil (by kernel_rfl) _ ?_
                refine JL_s (w_store (l' := [_, _, _]) Try.sizeOf25) (k := ?_)
                refine JL_nil ?_
                refine JX_permL (Bx241 ++ (Bx161 ++ (Bx81 ++ ((r2, Obj.cells [(Value.slice (ax81) (s.1.length) (cx81)), (Value.slice (ax161) (s.2.1.length) (cx161)), (Value.slice (ax241) (s.2.2.length) (cx241))].toArray 25) :: ((r1, Obj.cells [(Value.slice (s_1_a) (s.1.length) (s_1_c)), (Value.slice (s_2_1_a) (s.2.1.length) (s_2_1_c)), (Value.slice (s_2_2_a) (s.2.2.length) (s_2_2_c))].toArray 25) :: ((r183, Obj.cells [].toArray 3) :: ((r23, Obj.cells [].toArray 3) :: ((r103, Obj.cells [].toArray 4) :: [])))))))) ((((((List.Perm.append_left _ ((List.Perm.cons _ ((List.Perm.append_left _ ((List.Perm.append_left _ ((List.Perm.cons _ ((List.Perm.cons _ ((List.Perm.cons _ (List.Perm.refl _)).trans (List.Perm.swap _ _ _))).trans (List.Perm.swap _ _ _))).trans (List.Perm.swap _ _ _))).trans List.perm_middle)).trans List.perm_middle)).trans (List.Perm.swap _ _ _))).trans List.perm_middle).trans ((List.Perm.cons _ ((List.Perm.append_left _ ((List.Perm.cons _ ((List.Perm.append_left _ ((List.Perm.append_left _ ((List.Perm.cons _ ((List.Perm.cons _ (List.Perm.refl _)).trans (List.Perm.swap _ _ _))).trans (List.Perm.swap _ _ _))).trans List.perm_middle)).trans List.perm_middle)).trans (List.Perm.swap _ _ _))).trans List.perm_middle)).trans (List.Perm.swap _ _ _))).trans ((List.Perm.cons _ ((List.Perm.cons _ ((List.Perm.append_left _ ((List.Perm.cons _ ((List.Perm.append_left _ (List.Perm.refl _)).trans (perm_seg _ _ _))).trans List.perm_middle.symm)).trans (perm_seg _ _ _))).trans List.perm_middle.symm)).trans List.perm_middle.symm)).trans ((List.Perm.append_left _ ((List.Perm.cons _ ((List.Perm.cons _ ((List.Perm.append_left _ ((List.Perm.cons _ (List.Perm.refl _)).trans List.perm_middle.symm)).trans (perm_seg _ _ _))).trans List.perm_middle.symm)).trans List.perm_middle.symm)).trans (perm_seg _ _ _))).trans ((List.Perm.append_left _ ((List.Perm.append_left _ ((List.Perm.cons _ ((List.Perm.cons _ (List.Perm.refl _)).trans List.perm_middle.symm)).trans List.perm_middle.symm)).trans (perm_seg _ _ _))).trans (perm_seg _ _ _))) ?_
                refine JX_subL (Bx241 ++ (Bx161 ++ (Bx81 ++ ((r2, Obj.cells [(Value.slice (ax81) (s.1.length) (cx81)), (Value.slice (ax161) (s.2.1.length) (cx161)), (Value.slice (ax241) (s.2.2.length) (cx241))].toArray 25) :: ((r1, Obj.cells [(Value.slice (s_1_a) (s.1.length) (s_1_c)), (Value.slice (s_2_1_a) (s.2.1.length) (s_2_1_c)), (Value.slice (s_2_2_a) (s.2.2.length) (s_2_2_c))].toArray 25) :: []))))) (List.Sublist.append (List.Sublist.refl _) (List.Sublist.append (List.Sublist.refl _) (List.Sublist.append (List.Sublist.refl _) (List.Sublist.cons_cons _ (List.Sublist.cons_cons _ (List.nil_sublist _)))))) ?_
                exact JX_join12 s.1 ax81 cx81 Bx81 s.2.1 ax161 cx161 Bx161 s.2.2 ax241 cx241 Bx241 ⟨(Is.refl (Is.xr3 hF)), hox81, hox161, hox241⟩ (by repeat (first | exact SubE.nil | refine SubE.cons rfl ?_)) (List.Perm.refl _)
          · skip
            refine JO_a rfl noMk (a_bslice (l := []) Try.runUnderlying22 Try.sizeOf3 Try.zeroValue3) (k := fun r183 hr183 => ?_)
            refine JG_br [7] (by kernel_rfl) rfl (List.forall_mem_cons.2 ⟨?_, nofun⟩)
            · skip
              refine JO_append rfl TY_4 Try.underlying23 eB_ok (SlJ.of_base h_s_2_1) ⟨by omega, by omega⟩ (m := s.2.1.length) (k := fun ax161 cx161 Bx161 hox161 => ?_)
              refine JG_br [11] (by kernel_rfl) rfl (List.forall_mem_cons.2 ⟨?_, nofun⟩)
              · skip
                refine JO_append rfl TY_3 Try.underlying22 eI_ok (SlJ.of_base h_s_2_2) ⟨by omega, by omega⟩ (m := s.2.2.length) (k := fun ax241 cx241 Bx241 hox241 => ?_)
                refine JG_q 12 rfl (by kernel_rfl) (q_build (cs := [_, _, _]) Try.zeroValue25 PL_25) (k := ?_)
                refine JG_nil (by kernel_rfl) _ ?_
                refine JL_s (w_store (l' := [_, _, _]) Try.sizeOf25) (k := ?_)
                refine JL_nil ?_
                refine JX_permL (Bx241 ++ (Bx161 ++ (Bx81 ++ ((r2, Obj.cells [(Value.slice (ax81) (s.1.length) (cx81)), (Value.slice (ax161) (s.2.1.length) (cx161)), (Value.slice (ax241) (s.2.2.length) (cx241))].toArray 25) :: ((r1, Obj.cells [(Value.slice (s_1_a) (s.1.length) (s_1_c)), (Value.slice (s_2_1_a) (s.2.1.length) (s_2_1_c)), (Value.slice (s_2_2_a) (s.2.2.length) (s_2_2_c))].toArray 25) :: ((r183, Obj.cells [].toArray 3) :: ((r23, Obj.cells [].toArray 3) :: ((r103, Obj.cells [].toArray 4) :: [])))))))) ((((((List.Perm.append_left _ ((List.Perm.append_left _ ((List.Perm.cons _ ((List.Perm.append_left _ ((List.Perm.cons _ ((List.Perm.cons _ ((List.Perm.cons _ (List.Perm.refl _)).trans (List.Perm.swap _ _ _))).trans (List.Perm.swap _ _ _))).trans (List.Perm.swap _ _ _))).trans List.perm_middle)).trans (List.Perm.swap _ _ _))).trans List.perm_middle)).trans List.perm_middle).trans ((List.Perm.cons _ ((List.Perm.append_left _ ((List.Perm.append_left _ ((List.Perm.cons _ ((List.Perm.append_left _ ((List.Perm.cons _ ((List.Perm.cons _ (List.Perm.refl _)).trans (List.Perm.swap _ _ _))).trans (List.Perm.swap _ _ _))).trans List.perm_middle)).trans (List.Perm.swap _ _ _))).trans List.perm_middle)).trans List.perm_middle)).trans (List.Perm.swap _ _ _))).trans ((List.Perm.cons _ ((List.Perm.cons _ ((List.Perm.append_left _ ((List.Perm.append_left _ ((List.Perm.cons _ (List.Perm.refl _)).trans List.perm_middle.symm)).trans (perm_seg _ _ _))).trans (perm_seg _ _ _))).trans List.perm_middle.symm)).trans List.perm_middle.symm)).trans ((List.Perm.append_left _ ((List.Perm.cons _ ((List.Perm.cons _ ((List.Perm.append_left _ (List.Perm.refl _)).trans (perm_seg _ _ _))).trans List.perm_middle.symm)).trans List.perm_middle.symm)).trans (perm_seg _ _ _))).trans ((List.Perm.append_left _ ((List.Perm.append_left _ ((List.Perm.cons _ ((List.Perm.cons _ (List.Perm.refl _)).trans List.perm_middle.symm)).trans List.perm_middle.symm)).trans (perm_seg _ _ _))).trans (perm_seg _ _ _))) ?_
                refine JX_subL (Bx241 ++ (Bx161 ++ (Bx81 ++ ((r2, Obj.cells [(Value.slice (ax81) (s.1.length) (cx81)), (Value.slice (ax161) (s.2.1.length) (cx161)), (Value.slice (ax241) (s.2.2.length) (cx241))].toArray 25) :: ((r1, Obj.cells [(Value.slice (s_1_a) (s.1.length) (s_1_c)), (Value.slice (s_2_1_a) (s.2.1.length) (s_2_1_c)), (Value.slice (s_2_2_a) (s.2.2.length) (s_2_2_c))].toArray 25) :: []))))) (List.Sublist.append (List.Sublist.refl _) (List.Sublist.append (List.Sublist.refl _) (List.Sublist.append (List.Sublist.refl _) (List.Sublist.cons_cons _ (List.Sublist.cons_cons _ (List.nil_sublist _)))))) ?_
                exact JX_join12 s.1 ax81 cx81 Bx81 s.2.1 ax161 cx161 Bx161 s.2.2 ax241 cx241 Bx241 ⟨(Is.refl (Is.xr3 hF)), hox81, hox161, hox241⟩ (by repeat (first | exact SubE.nil | refine SubE.cons rfl ?_)) (List.Perm.refl _)
        · skip
          refine JO_a rfl noMk (a_bslice (l := []) Try.runUnderlying22 Try.sizeOf3 Try.zeroValue3) (k := fun r183 hr183 => ?_)
          refine JG_br [3] (by kernel_rfl) rfl (List.forall_mem_cons.2 ⟨?_, nofun⟩)
          · skip
            refine JO_append rfl TY_3 Try.underlying22 eI_ok (SlJ.of_base h_s_1) ⟨by omega, by omega⟩ (m := s.1.length) (k := fun ax81 cx81 Bx81 hox81 => ?_)
            refine JG_br [7] (by kernel_rfl) rfl (List.forall_mem_cons.2 ⟨?_, nofun⟩)
            · skip
              refine JO_append rfl TY_4 Try.underlying23 eB_ok (SlJ.of_base h_s_2_1) ⟨by omega, by omega⟩ (m := s.2.1.length) (k := fun ax161 cx161 Bx161 hox161 => ?_)
              refine JG_br [11] (by kernel_rfl) rfl (List.forall_mem_cons.2 ⟨?_, nofun⟩)
              · skip
                refine JO_append rfl TY_3 Try.underlying22 eI_ok (SlJ.of_base h_s_2_2) ⟨by omega, by omega⟩ (m := s.2.2.length) (k := fun ax241 cx241 Bx241 hox241 => ?_)
                refine JG_q 12 rfl (by kernel_rfl) (q_build (cs := [_, _, _]) Try.zeroValue25 PL_25) (k := ?_)
                refine JG_nil (by kernel_rfl) _ ?_
                refine JL_s (w_store (l' := [_, _, _]) Try.sizeOf25) (k := ?_)
                refine JL_nil ?_
                refine JX_permL (Bx241 ++ (Bx161 ++ (Bx81 ++ ((r2, Obj.cells [(Value.slice (ax81) (s.1.length) (cx81)), (Value.slice (ax161) (s.2.1.length) (cx161)), (Value.slice (ax241) (s.2.2.length) (cx241))].toArray 25) :: ((r1, Obj.cells [(Value.slice (s_1_a) (s.1.length) (s_1_c)), (Value.slice (s_2_1_a) (s.2.1.length) (s_2_1_c)), (Value.slice (s_2_2_a) (s.2.2.length) (s_2_2_c))].toArray 25) :: ((r183, Obj.cells [].toArray 3) :: ((r23, Obj.cells [].toArray 3) :: ((r103, Obj.cells [].toArray 4) :: [])))))))) ((((((List.Perm.append_left _ ((List.Perm.append_left _ ((List.Perm.append_left _ ((List.Perm.cons _ ((List.Perm.cons _ ((List.Perm.cons _ ((List.Perm.cons _ (List.Perm.refl _)).trans (List.Perm.swap _ _ _))).trans (List.Perm.swap _ _ _))).trans (List.Perm.swap _ _ _))).trans (List.Perm.swap _ _ _))).trans List.perm_middle)).trans List.perm_middle)).trans List.perm_middle).trans ((List.Perm.cons _ ((List.Perm.append_left _ ((List.Perm.append_left _ ((List.Perm.append_left _ ((List.Perm.cons _ ((List.Perm.cons _ ((List.Perm.cons _ (List.Perm.refl _)).trans (List.Perm.swap _ _ _))).trans (List.Perm.swap _ _ _))).trans (List.Perm.swap _ _ _))).trans List.perm_middle)).trans List.perm_middle)).trans List.perm_middle)).trans (List.Perm.swap _ _ _))).trans ((List.Perm.cons _ ((List.Perm.cons _ ((List.Perm.append_left _ ((List.Perm.append_left _ (List.Perm.refl _)).trans (perm_seg _ _ _))).trans (perm_seg _ _ _))).trans List.perm_middle.symm)).trans List.perm_middle.symm)).trans ((List.Perm.append_left _ ((List.Perm.cons _ ((List.Perm.cons _ ((List.Perm.append_left _ (List.Perm.refl _)).trans (perm_seg _ _ _))).trans List.perm_middle.symm)).trans List.perm_middle.symm)).trans (perm_seg _ _ _))).trans ((List.Perm.append_left _ ((List.Perm.append_left _ ((List.Perm.cons _ ((List.Perm.cons _ (List.Perm.refl _)).trans List.perm_middle.symm)).trans List.perm_middle.symm)).trans (perm_seg _ _ _))).trans (perm_seg _ _ _))) ?_
                refine JX_subL (Bx241 ++ (Bx161 ++ (Bx81 ++ ((r2, Obj.cells [(Value.slice (ax81) (s.1.length) (cx81)), (Value.slice (ax161) (s.2.1.length) (cx161)), (Value.slice (ax241) (s.2.2.length) (cx241))].toArray 25) :: ((r1, Obj.cells [(Value.slice (s_1_a) (s.1.length) (s_1_c)), (Value.slice (s_2_1_a) (s.2.1.length) (s_2_1_c)), (Value.slice (s_2_2_a) (s.2.2.length) (s_2_2_c))].toArray 25) :: []))))) (List.Sublist.append (List.Sublist.refl _) (List.Sublist.append (List.Sublist.refl _) (List.Sublist.append (List.Sublist.refl _) (List.Sublist.cons_cons _ (List.Sublist.cons_cons _ (List.nil_sublist _)))))) ?_
                exact JX_join12 s.1 ax81 cx81 Bx81 s.2.1 ax161 cx161 Bx161 s.2.2 ax241 cx241 Bx241 ⟨(Is.refl (Is.xr3 hF)), hox81, hox161, hox241⟩ (by repeat (first | exact SubE.nil | refine SubE.cons rfl ?_)) (List.Perm.refl _)
      · skip
        refine JO_a rfl noMk (a_bslice (l := []) Try.runUnderlying22 Try.sizeOf3 Try.zeroValue3) (k := fun r183 hr183 => ?_)
        refine JG_br [0] (by kernel_rfl) rfl (List.forall_mem_cons.2 ⟨?_, nofun⟩)
        · skip
          refine JO_a rfl noMk (a_bslice (l := []) Try.runUnderlying22 Try.sizeOf3 Try.zeroValue3) (k := fun r23 hr23 => ?_)
          refine JG_br [3] (by kernel_rfl) rfl (List.forall_mem_cons.2 ⟨?_, nofun⟩)
          · skip
            refine JO_append rfl TY_3 Try.underlying22 eI_ok (SlJ.of_base h_s_1) ⟨by omega, by omega⟩ (m := s.1.length) (k := fun ax81 cx81 Bx81 hox81 => ?_)
            refine JG_br [7] (by kernel_rfl) rfl (List.forall_mem_cons.2 ⟨?_, nofun⟩)
            · skip
              refine JO_append rfl TY_4 Try.underlying23 eB_ok (SlJ.of_base h_s_2_1) ⟨by omega, by omega⟩ (m := s.2.1.length) (k := fun ax161 cx161 Bx161 hox161 => ?_)
              refine JG_br [11] (by kernel_rfl) rfl (List.forall_mem_cons.2 ⟨?_, nofun⟩)
              · skip
                refine JO_append rfl TY_3 Try.underlying22 eI_ok (SlJ.of_base h_s_2_2) ⟨by omega, by omega⟩ (m := s.2.2.length) (k := fun ax241 cx241 Bx241 hox241 => ?_)
                refine JG_q 12 rfl (by kernel_rfl) (q_build (cs := [_, _, _]) Try.zeroValue25 PL_25) (k := ?_)
                refine JG_nil (by kernel_rfl) _ ?_
                refine JL_s (w_store (l' := [_, _, _]) Try.sizeOf25) (k := ?_)
                refine JL_nil ?_
                refine JX_permL (Bx241 ++ (Bx161 ++ (Bx81 ++ ((r2, Obj.cells [(Value.slice (ax81) (s.1.length) (cx81)), (Value.slice (ax161) (s.2.1.length) (cx161)), (Value.slice (ax241) (s.2.2.length) (cx241))].toArray 25) :: ((r1, Obj.cells [(Value.slice (s_1_a) (s.1.length) (s_1_c)), (Value.slice (s_2_1_a) (s.2.1.length) (s_2_1_c)), (Value.slice (s_2_2_a) (s.2.2.length) (s_2_2_c))].toArray 25) :: ((r23, Obj.cells [].toArray 3) :: ((r183, Obj.cells [].toArray 3) :: ((r103, Obj.cells [].toArray 4) :: [])))))))) ((((((List.Perm.append_left _ ((List.Perm.append_left _ ((List.Perm.append_left _ ((List.Perm.cons _ ((List.Perm.cons _ ((List.Perm.cons _ ((List.Perm.cons _ (List.Perm.refl _)).trans (List.Perm.swap _ _ _))).trans (List.Perm.swap _ _ _))).trans (List.Perm.swap _ _ _))).trans (List.Perm.swap _ _ _))).trans List.perm_middle)).trans List.perm_middle)).trans List.perm_middle).trans ((List.Perm.cons _ ((List.Perm.append_left _ ((List.Perm.append_left _ ((List.Perm.append_left _ ((List.Perm.cons _ ((List.Perm.cons _ ((List.Perm.cons _ (List.Perm.refl _)).trans (List.Perm.swap _ _ _))).trans (List.Perm.swap _ _ _))).trans (List.Perm.swap _ _ _))).trans List.perm_middle)).trans List.perm_middle)).trans List.perm_middle)).trans (List.Perm.swap _ _ _))).trans ((List.Perm.cons _ ((List.Perm.cons _ ((List.Perm.append_left _ ((List.Perm.append_left _ (List.Perm.refl _)).trans (perm_seg _ _ _))).trans (perm_seg _ _ _))).trans List.perm_middle.symm)).trans List.perm_middle.symm)).trans ((List.Perm.append_left _ ((List.Perm.cons _ ((List.Perm.cons _ ((List.Perm.append_left _ (List.Perm.refl _)).trans (perm_seg _ _ _))).trans List.perm_middle.symm)).trans List.perm_middle.symm)).trans (perm_seg _ _ _))).trans ((List.Perm.append_left _ ((List.Perm.append_left _ ((List.Perm.cons _ ((List.Perm.cons _ (List.Perm.refl _)).trans List.perm_middle.symm)).trans List.perm_middle.symm)).trans (perm_seg _ _ _))).trans (perm_seg _ _ _))) ?_
                refine JX_subL (Bx241 ++ (Bx161 ++ (Bx81 ++ ((r2, Obj.cells [(Value.slice (ax81) (s.1.length) (cx81)), (Value.slice (ax161) (s.2.1.length) (cx161)), (Value.slice (ax241) (s.2.2.length) (cx241))].toArray 25) :: ((r1, Obj.cells [(Value.slice (s_1_a) (s.1.length) (s_1_c)), (Value.slice (s_2_1_a) (s.2.1.length) (s_2_1_c)), (Value.slice (s_2_2_a) (s.2.2.length) (s_2_2_c))].toArray 25) :: []))))) (List.Sublist.append (List.Sublist.refl _) (List.Sublist.append (List.Sublist.refl _) (List.Sublist.append (List.Sublist.refl _) (List.Sublist.cons_cons _ (List.Sublist.cons_cons _ (List.nil_sublist _)))))) ?_
                exact JX_join12 s.1 ax81 cx81 Bx81 s.2.1 ax161 cx161 Bx161 s.2.2 ax241 cx241 Bx241 ⟨(Is.refl (Is.xr3 hF)), hox81, hox161, hox241⟩ (by repeat (first | exact SubE.nil | refine SubE.cons rfl ?_)) (List.Perm.refl _)
    · skip
      refine JO_a rfl noMk (a_bslice (l := []) Try.runUnderlying22 Try.sizeOf3 Try.zeroValue3) (k := fun r183 hr183 => ?_)
      refine JG_br [0, 4] (by kernel_rfl) rfl (List.forall_mem_cons.2 ⟨?_, (List.forall_mem_cons.2 ⟨?_, nofun⟩)⟩)
      · skip
        refine JO_a rfl noMk (a_bslice (l := []) Try.runUnderlying22 Try.sizeOf3 Try.zeroValue3) (k := fun r23 hr23 => ?_)
        refine JG_br [3, 4] (by kernel_rfl) rfl (List.forall_mem_cons.2 ⟨?_, (List.forall_mem_cons.2 ⟨?_, nofun⟩)⟩)
        · skip
          refine JO_append rfl TY_3 Try.underlying22 eI_ok (SlJ.of_base h_s_1) ⟨by omega, by omega⟩ (m := s.1.length) (k := fun ax81 cx81 Bx81 hox81 => ?_)
          refine JG_br [4] (by kernel_rfl) rfl (List.forall_mem_cons.2 ⟨?_, nofun⟩)
          · skip
            refine JO_a rfl noMk (a_bslice (l := []) Try.runUnderlying23 Try.sizeOf4 Try.zeroValue4) (k := fun r103 hr103 => ?_)
            refine JG_br [7] (by kernel_rfl) rfl (List.forall_mem_cons.2 ⟨?_, nofun⟩)
            · skip
              refine JO_append rfl TY_4 Try.underlying23 eB_ok (SlJ.of_base h_s_2_1) ⟨by omega, by omega⟩ (m := s.2.1.length) (k := fun ax161 cx161 Bx161 hox161 => ?_)
              refine JG_br [11] (by kernel_rfl) rfl (List.forall_mem_cons.2 ⟨?_, nofun⟩)
              · skip
                refine JO_append rfl TY_3 Try.underlying22 eI_ok (SlJ.of_base h_s_2_2) ⟨by omega, by omega⟩ (m := s.2.2.length) (k := fun ax241 cx241 Bx241 hox241 => ?_)
                refine JG_q 12 rfl (by kernel_rfl) (q_build (cs := [_, _, _]) Try.zeroValue25 PL_25) (k := ?_)
                refine JG_nil (by kernel_rfl) _ ?_
                refine JL_s (w_store (l' := [_, _, _]) Try.sizeOf25) (k := ?_)
                refine JL_nil ?_
                refine JX_permL (Bx241 ++ (Bx161 ++ (Bx81 ++ ((r2, Obj.cells [(Value.slice (ax81) (s.1.length) (cx81)), (Value.slice (ax161) (s.2.1.length) (cx161)), (Value.slice (ax241) (s.2.2.length) (cx241))].toArray 25) :: ((r1, Obj.cells [(Value.slice (s_1_a) (s.1.length) (s_1_c)), (Value.slice (s_2_1_a) (s.2.1.length) (s_2_1_c)), (Value.slice (s_2_2_a) (s.2.2.length) (s_2_2_c))].toArray 25) :: ((r103, Obj.cells [].toArray 4) :: ((r23, Obj.cells [].toArray 3) :: ((r183, Obj.cells [].toArray 3) :: [])))))))) ((((((List.Perm.append_left _ ((List.Perm.append_left _ ((List.Perm.cons _ ((List.Perm.append_left _ ((List.Perm.cons _ ((List.Perm.cons _ ((List.Perm.cons _ (List.Perm.refl _)).trans (List.Perm.swap _ _ _))).trans (List.Perm.swap _ _ _))).trans (List.Perm.swap _ _ _))).trans List.perm_middle)).trans (List.Perm.swap _ _ _))).trans List.perm_middle)).trans List.perm_middle).trans ((List.Perm.cons _ ((List.Perm.append_left _ ((List.Perm.append_left _ ((List.Perm.cons _ ((List.Perm.append_left _ ((List.Perm.cons _ ((List.Perm.cons _ (List.Perm.refl _)).trans (List.Perm.swap _ _ _))).trans (List.Perm.swap _ _ _))).trans List.perm_middle)).trans (List.Perm.swap _ _ _))).trans List.perm_middle)).trans List.perm_middle)).trans (List.Perm.swap _ _ _))).trans ((List.Perm.cons _ ((List.Perm.cons _ ((List.Perm.append_left _ ((List.Perm.append_left _ ((List.Perm.cons _ (List.Perm.refl _)).trans List.perm_middle.symm)).trans (perm_seg _ _ _))).trans (perm_seg _ _ _))).trans List.perm_middle.symm)).trans List.perm_middle.symm)).trans ((List.Perm.append_left _ ((List.Perm.cons _ ((List.Perm.cons _ ((List.Perm.append_left _ (List.Perm.refl _)).trans (perm_seg _ _ _))).trans List.perm_middle.symm)).trans List.perm_middle.symm)).trans (perm_seg _ _ _))).trans ((List.Perm.append_left _ ((List.Perm.append_left _ ((List.Perm.cons _ ((List.Perm.cons _ (List.Perm.refl _)).trans List.perm_middle.symm)).trans List.perm_middle.symm)).trans (perm_seg _ _ _))).trans (perm_seg _ _ _))) ?_
                refine JX_subL (Bx241 ++ (Bx161 ++ (Bx81 ++ ((r2, Obj.cells [(Value.slice (ax81) (s.1.length) (cx81)), (Value.slice (ax161) (s.2.1.length) (cx161)), (Value.slice (ax241) (s.2.2.length) (cx241))].toArray 25) :: ((r1, Obj.cells [(Value.slice (s_1_a) (s.1.length) (s_1_c)), (Value.slice (s_2_1_a) (s.2.1.length) (s_2_1_c)), (Value.slice (s_2_2_a) (s.2.2.length) (s_2_2_c))].toArray 25) :: []))))) (List.Sublist.append (List.Sublist.refl _) (List.Sublist.append (List.Sublist.refl _) (List.Sublist.append (List.Sublist.refl _) (List.Sublist.cons_cons _ (List.Sublist.cons_cons _ (List.nil_sublist _)))))) ?_
                exact JX_join12 s.1 ax81 cx81 Bx81 s.2.1 ax161 cx161 Bx161 s.2.2 ax241 cx241 Bx241 ⟨(Is.refl (Is.xr3 hF)), hox81, hox161, hox241⟩ (by repeat (first | exact SubE.nil | refine SubE.cons rfl ?_)) (List.Perm.refl _)
        · skip
          refine JO_a rfl noMk (a_bslice (l := []) Try.runUnderlying23 Try.sizeOf4 Try.zeroValue4) (k := fun r103 hr103 => ?_)
          refine JG_br [3] (by kernel_rfl) rfl (List.forall_mem_cons.2 ⟨?_, nofun⟩)
          · skip
            refine JO_append rfl TY_3 Try.underlying22 eI_ok (SlJ.of_base h_s_1) ⟨by omega, by omega⟩ (m := s.1.length) (k := fun ax81 cx81 Bx81 hox81 => ?_)
            refine JG_br [7] (by kernel_rfl) rfl (List.forall_mem_cons.2 ⟨?_, nofun⟩)
            · skip
              refine JO_append rfl TY_4 Try.underlying23 eB_ok (SlJ.of_base h_s_2_1) ⟨by omega, by omega⟩ (m := s.2.1.length) (k := fun ax161 cx161 Bx161 hox161 => ?_)
              refine JG_br [11] (by kernel_rfl) rfl (List.forall_mem_cons.2 ⟨?_, nofun⟩)
              · skip
                refine JO_append rfl TY_3 Try.underlying22 eI_ok (SlJ.of_base h_s_2_2) ⟨by omega, by omega⟩ (m := s.2.2.length) (k := fun ax241 cx241 Bx241 hox241 => ?_)
                refine JG_q 12 rfl (by kernel_rfl) (q_build (cs := [_, _, _]) Try.zeroValue25 PL_25) (k := ?_)
                refine JG_nil (by kernel_rfl) _ ?_
                refine JL_s (w_store (l' := [_, _, _]) Try.sizeOf25) (k := ?_)
                refine JL_nil ?_
                refine JX_permL (Bx241 ++ (Bx161 ++ (Bx81 ++ ((r2, Obj.cells [(Value.slice (ax81) (s.1.length) (cx81)), (Value.slice (ax161) (s.2.1.length) (cx161)), (Value.slice (ax241) (s.2.2.length) (cx241))].toArray 25) :: ((r1, Obj.cells [(Value.slice (s_1_a) (s.1.length) (s_1_c)), (Value.slice (s_2_1_a) (s.2.1.length) (s_2_1_c)), (Value.slice (s_2_2_a) (s.2.2.length) (s_2_2_c))].toArray 25) :: ((r103, Obj.cells [].toArray 4) :: ((r23, Obj.cells [].toArray 3) :: ((r183, Obj.cells [].toArray 3) :: [])))))))) ((((((List.Perm.append_left _ ((List.Perm.append_left _ ((List.Perm.append_left _ ((List.Perm.cons _ ((List.Perm.cons _ ((List.Perm.cons _ ((List.Perm.cons _ (List.Perm.refl _)).trans (List.Perm.swap _ _ _))).trans (List.Perm.swap _ _ _))).trans (List.Perm.swap _ _ _))).trans (List.Perm.swap _ _ _))).trans List.perm_middle)).trans List.perm_middle)).trans List.perm_middle).trans ((List.Perm.cons _ ((List.Perm.append_left _ ((List.Perm.append_left _ ((List.Perm.append_left _ ((List.Perm.cons _ ((List.Perm.cons _ ((List.Perm.cons _ (List.Perm.refl _)).trans (List.Perm.swap _ _ _))).trans (List.Perm.swap _ _ _))).trans (List.Perm.swap _ _ _))).trans List.perm_middle)).trans List.perm_middle)).trans List.perm_middle)).trans (List.Perm.swap _ _ _))).trans ((List.Perm.cons _ ((List.Perm.cons _ ((List.Perm.append_left _ ((List.Perm.append_left _ (List.Perm.refl _)).trans (perm_seg _ _ _))).trans (perm_seg _ _ _))).trans List.perm_middle.symm)).trans List.perm_middle.symm)).trans ((List.Perm.append_left _ ((List.Perm.cons _ ((List.Perm.cons _ ((List.Perm.append_left _ (List.Perm.refl _)).trans (perm_seg _ _ _))).trans List.perm_middle.symm)).trans List.perm_middle.symm)).trans (perm_seg _ _ _))).trans ((List.Perm.append_left _ ((List.Perm.append_left _ ((List.Perm.cons _ ((List.Perm.cons _ (List.Perm.refl _)).trans List.perm_middle.symm)).trans List.perm_middle.symm)).trans (perm_seg _ _ _))).trans (perm_seg _ _ _))) ?_
                refine JX_subL (Bx241 ++ (Bx161 ++ (Bx81 ++ ((r2, Obj.cells [(Value.slice (ax81) (s.1.length) (cx81)), (Value.slice (ax161) (s.2.1.length) (cx161)), (Value.slice (ax241) (s.2.2.length) (cx241))].toArray 25) :: ((r1, Obj.cells [(Value.slice (s_1_a) (s.1.length) (s_1_c)), (Value.slice (s_2_1_a) (s.2.1.length) (s_2_1_c)), (Value.slice (s_2_2_a) (s.2.2.length) (s_2_2_c))].toArray 25) :: []))))) (List.Sublist.append (List.Sublist.refl _) (List.Sublist.append (List.Sublist.refl _) (List.Sublist.append (List.Sublist.refl _) (List.Sublist.cons_cons _ (List.Sublist.cons_cons _ (List.nil_sublist _)))))) ?_
                exact JX_join12 s.1 ax81 cx81 Bx81 s.2.1 ax161 cx161 Bx161 s.2.2 ax241 cx241 Bx241 ⟨(Is.refl (Is.xr3 hF)), hox81, hox161, hox241⟩ (by repeat (first | exact SubE.nil | refine SubE.cons rfl ?_)) (List.Perm.refl _)
      · skip
        refine JO_a rfl noMk (a_bslice (l := []) Try.runUnderlying23 Try.sizeOf4 Try.zeroValue4) (k := fun r103 hr103 => ?_)
        refine JG_br [0] (by kernel_rfl) rfl (List.forall_mem_cons.2 ⟨?_, nofun⟩)
        · skip
          refine JO_a rfl noMk (a_bslice (l := []) Try.runUnderlying22 Try.sizeOf3 Try.zeroValue3) (k := fun r23 hr23 => ?_)
          refine JG_br [3] (by kernel_rfl) rfl (List.forall_mem_cons.2 ⟨?_, nofun⟩)
          · skip
            refine JO_append rfl TY_3 Try.underlying22 eI_ok (SlJ.of_base h_s_1) ⟨by omega, by omega⟩ (m := s.1.length) (k := fun ax81 cx81 Bx81 hox81 => ?_)
            refine JG_br [7] (by kernel_rfl) rfl (List.forall_mem_cons.2 ⟨?_, nofun⟩)
            · skip
              refine JO_append rfl TY_4 Try.underlying23 eB_ok (SlJ.of_base h_s_2_1) ⟨by omega, by omega⟩ (m := s.2.1.length) (k := fun ax161 cx161 Bx161 hox161 => ?_)
              refine JG_br [11] (by kernel_rfl) rfl (List.forall_mem_cons.2 ⟨?_, nofun⟩)
              · skip
                refine JO_append rfl TY_3 Try.underlying22 eI_ok (SlJ.of_base h_s_2_2) ⟨by omega, by omega⟩ (m := s.2.2.length) (k := fun ax241 cx241 Bx241 hox241 => ?_)
                refine JG_q 12 rfl (by kernel_rfl) (q_build (cs := [_, _, _]) Try.zeroValue25 PL_25) (k := ?_)
                refine JG_nil (by kernel_rfl) _ ?_
                refine JL_s (w_store (l' := [_, _, _]) Try.sizeOf25) (k := ?_)
                refine JL_nil ?_
                refine JX_permL (Bx241 ++ (Bx161 ++ (Bx81 ++ ((r2, Obj.cells [(Value.slice (ax81) (s.1.length) (cx81)), (Value.slice (ax161) (s.2.1.length) (cx161)), (Value.slice (ax241) (s.2.2.length) (cx241))].toArray 25) :: ((r1, Obj.cells [(Value.slice (s_1_a) (s.1.length) (s_1_c)), (Value.slice (s_2_1_a) (s.2.1.length) (s_2_1_c)), (Value.slice (s_2_2_a) (s.2.2.length) (s_2_2_c))].toArray 25) :: ((r23, Obj.cells [].toArray 3) :: ((r103, Obj.cells [].toArray 4) :: ((r183, Obj.cells [].toArray 3) :: [])))))))) ((((((List.Perm.append_left _ ((List.Perm.append_left _ ((List.Perm.append_left _ ((List.Perm.cons _ ((List.Perm.cons _ ((List.Perm.cons _ ((List.Perm.cons _ (List.Perm.refl _)).trans (List.Perm.swap _ _ _))).trans (List.Perm.swap _ _ _))).trans (List.Perm.swap _ _ _))).trans (List.Perm.swap _ _ _))).trans List.perm_middle)).trans List.perm_middle)).trans List.perm_middle).trans ((List.Perm.cons _ ((List.Perm.append_left _ ((List.Perm.append_left _ ((List.Perm.append_left _ ((List.Perm.cons _ ((List.Perm.cons _ ((List.Perm.cons _ (List.Perm.refl _)).trans (List.Perm.swap _ _ _))).trans (List.Perm.swap _ _ _))).trans (List.Perm.swap _ _ _))).trans List.perm_middle)).trans List.perm_middle)).trans List.perm_middle)).trans (List.Perm.swap _ _ _))).trans ((List.Perm.cons _ ((List.Perm.cons _ ((List.Perm.append_left _ ((List.Perm.append_left _ (List.Perm.refl _)).trans (perm_seg _ _ _))).trans (perm_seg _ _ _))).trans List.perm_middle.symm)).trans List.perm_middle.symm)).trans ((List.Perm.append_left _ ((List.Perm.cons _ ((List.Perm.cons _ ((List.Perm.append_left _ (List.Perm.refl _)).trans (perm_seg _ _ _))).trans List.perm_middle.symm)).trans List.perm_middle.symm)).trans (perm_seg _ _ _))).trans ((List.Perm.append_left _ ((List.Perm.append_left _ ((List.Perm.cons _ ((List.Perm.cons _ (List.Perm.refl _)).trans List.perm_middle.symm)).trans List.perm_middle.symm)).trans (perm_seg _ _ _))).trans (perm_seg _ _ _))) ?_
                refine JX_subL (Bx241 ++ (Bx161 ++ (Bx81 ++ ((r2, Obj.cells [(Value.slice (ax81) (s.1.length) (cx81)), (Value.slice (ax161) (s.2.1.length) (cx161)), (Value.slice (ax241) (s.2.2.length) (cx241))].toArray 25) :: ((r1, Obj.cells [(Value.slice (s_1_a) (s.1.length) (s_1_c)), (Value.slice (s_2_1_a) (s.2.1.length) (s_2_1_c)), (Value.slice (s_2_2_a) (s.2.2.length) (s_2_2_c))].toArray 25) :: []))))) (List.Sublist.append (List.Sublist.refl _) (List.Sublist.append (List.Sublist.refl _) (List.Sublist.append (List.Sublist.refl _) (List.Sublist.cons_cons _ (List.Sublist.cons_cons _ (List.nil_sublist _)))))) ?_
                exact JX_join12 s.1 ax81 cx81 Bx81 s.2.1 ax161 cx161 Bx161 s.2.2 ax241 cx241 Bx241 ⟨(Is.refl (Is.xr3 hF)), hox81, hox161, hox241⟩ (by repeat (first | exact SubE.nil | refine SubE.cons rfl ?_)) (List.Perm.refl _)
  rintro x_1 x_1a x_1c x_1B x_2 x_2a x_2c x_2B x_3 x_3a x_3c x_3B ⟨hJ4, hx_1, hx_2, hx_3⟩
  refine JX_seq ?_
  refine J_ret ?_
  refine JX_ret Try.results27 (Res.agg Try.isAgg25 Try.sizeOf25 rfl (by repeat (first | exact List.mem_cons_self | apply List.mem_cons_of_mem | apply List.mem_append_right)) rfl Res.nil) (fun w1 hw1 => ?_)
  exact ⟨x_1a, x_1c, x_2a, x_2c, x_3a, x_3c, x_1B, x_2B, x_3B, (by rw [((hF.rn3 hJ4)).eq] <;> first | rfl | (simp only [List.length_set] <;> rfl)), (fresh_segs (L := (x_1B ++ (x_2B ++ x_3B))) (R := ((r2, Obj.cells [(Value.slice (x_1a) (x_1.length) (x_1c)), (Value.slice (x_2a) (x_2.length) (x_2c)), (Value.slice (x_3a) (x_3.length) (x_3c))].toArray 25) :: ((r1, Obj.cells [(Value.slice (s_1_a) (s.1.length) (s_1_c)), (Value.slice (s_2_1_a) (s.2.1.length) (s_2_1_c)), (Value.slice (s_2_2_a) (s.2.2.length) (s_2_2_c))].toArray 25) :: []))) (hw1.perm (((List.Perm.refl _).trans ((List.Perm.append_left _ (List.Perm.refl _)).trans (perm_seg _ _ _))).trans ((List.Perm.append_left _ ((List.Perm.append_left _ (List.Perm.refl _)).trans (perm_seg _ _ _))).trans (perm_seg _ _ _)))) (by simp)), (by rw [((hF.rn3 hJ4)).eq]; exact hx_1), (by rw [((hF.rn3 hJ4)).eq]; exact hx_2), (by rw [((hF.rn3 hJ4)).eq]; exact hx_3)⟩

theorem rOwn_ok2 (w : World) {s_1_a : Option Addr} {s_1_c : Nat} {s_2_1_a : Option Addr} {s_2_1_c : Nat} {s_2_2_a : Option Addr} {s_2_2_c : Nat} {s : (List Int × List Bool × List Int)} (h_s_1 : Sl w eI 1 s_1_a s.1) (n_s_1 : s.1.length ≤ 1000000) (h_s_2_1 : Sl w eB 1 s_2_1_a s.2.1) (n_s_2_1 : s.2.1.length ≤ 1000000) (h_s_2_2 : Sl w eI 1 s_2_2_a s.2.2) (n_s_2_2 : s.2.2.length ≤ 1000000) : Calls Try.prog 27 (List.toArray [(Value.agg [(Value.slice (s_1_a) (s.1.length) (s_1_c)), (Value.slice (s_2_1_a) (s.2.1.length) (s_2_1_c)), (Value.slice (s_2_2_a) (s.2.2.length) (s_2_2_c))].toArray)]) w fun e w2 => ∃ a1 : Option Addr, ∃ c1 : Nat, ∃ a2 : Option Addr, ∃ c2 : Nat, ∃ a3 : Option Addr, ∃ c3 : Nat, ∃ B1 : Heap, ∃ B2 : Heap, ∃ B3 : Heap, e = .returned (Value.agg [(Value.slice (a1) ((s).1.length) (c1)), (Value.slice (a2) ((s).2.1.length) (c2)), (Value.slice (a3) ((s).2.2.length) (c3))].toArray) ∧ Fresh w w2 (B1 ++ (B2 ++ B3)) ∧ OwnB eI 1 3 a1 c1 B1 (s).1 ∧ OwnB eB 1 4 a2 c2 B2 (s).2.1 ∧ OwnB eI 1 3 a3 c3 B3 (s).2.2 :=
  rOwn_ok w h_s_1 n_s_1 h_s_2_1 n_s_2_1 h_s_2_2 n_s_2_2

theorem rNew_ok (w : World) {n_ : Int} : Calls Try.prog 20 (List.toArray [(Value.int .i64 (n_))]) w fun e w2 => ∃ a1 : Option Addr, ∃ c1 : Nat, ∃ a2 : Option Addr, ∃ c2 : Nat, ∃ a3 : Option Addr, ∃ c3 : Nat, ∃ B1 : Heap, ∃ B2 : Heap, ∃ B3 : Heap, e = .returned (Value.tuple [(Value.agg [(Value.slice (a1) ((rNew n_).1.1.length) (c1)), (Value.slice (a2) ((rNew n_).1.2.1.length) (c2)), (Value.slice (a3) ((rNew n_).1.2.2.length) (c3))].toArray), (Value.int .i64 (((rNew n_).2)))].toArray) ∧ Fresh w w2 (B1 ++ (B2 ++ B3)) ∧ OwnB eI 1 3 a1 c1 B1 (rNew n_).1.1 ∧ OwnB eB 1 4 a2 c2 B2 (rNew n_).1.2.1 ∧ OwnB eI 1 3 a3 c3 B3 (rNew n_).1.2.2 := by
  have hF := Is.refl (rNew n_)
  refine enter Try.func20 Try.ntmps20 (h := ?_)
  refine J_seq ?_
  refine J_reg ?_
  refine JL_a noMk (a_alloc (l := [_, _, _]) Try.zeroValue25) (k := fun r1 hr1 => ?_)
  refine JL_q (q_assign) (k := ?_)
  refine JL_nil ?_
  refine JX_seq ?_
  refine J_seq ?_
  refine J_seq ?_
  refine J_reg ?_
  refine JL_q (q_move) (k := ?_)
  refine JL_q (q_lss) (k := ?_)
  refine JL_q (q_move) (k := ?_)
  refine JL_dec 8 rfl (fun hq1 => ?_) (fun hq1 => ?_)
  · refine JL_skips 2 rfl ?_
    refine JL_q (q_pickT) (k := ?_)
    refine JL_nil ?_
    refine JX_seq ?_
    refine J_true rfl ?_
    refine J_seq ?_
    refine J_reg ?_
    refine JL_q (q_build (cs := [_, _, _]) Try.zeroValue25 PL_25) (k := ?_)
    refine JL_s (w_store (l' := [_, _, _]) Try.sizeOf25) (k := ?_)
    refine JL_q (q_assign) (k := ?_)
    refine JL_nil ?_
    refine JX_seq ?_
    refine J_ret ?_
    refine JX_seq_ret ?_
    refine JX_ret Try.results20 (Res.agg Try.isAgg25 Try.sizeOf25 rfl (by repeat (first | exact List.mem_cons_self | apply List.mem_cons_of_mem | apply List.mem_append_right)) rfl (Res.tmp rfl Res.nil)) (fun w1 hw1 => ?_)
    exact ⟨none, 0, none, 0, none, 0, [], [], [], (by rw [((hF.pos hq1)).eq] <;> first | rfl | (simp only [List.length_set] <;> rfl)), (hw1.fresh_out.sub (List.nil_sublist _)), (by rw [((hF.pos hq1)).eq]; exact OwnB.nil), (by rw [((hF.pos hq1)).eq]; exact OwnB.nil), (by rw [((hF.pos hq1)).eq]; exact OwnB.nil)⟩
  refine JL_qg (q_move) (k := ?_)
  refine JL_qg (q_gtr) (k := ?_)
  refine JL_q (q_pickF) (k := ?_)
  refine JL_nil ?_
  refine JX_seq ?_
  refine J_dec rfl (fun hq2 => ?_) (fun hq2 => ?_)
  · refine J_seq ?_
    refine J_reg ?_
    refine JL_q (q_build (cs := [_, _, _]) Try.zeroValue25 PL_25) (k := ?_)
    refine JL_s (w_store (l' := [_, _, _]) Try.sizeOf25) (k := ?_)
    refine JL_q (q_assign) (k := ?_)
    refine JL_nil ?_
    refine JX_seq ?_
    refine J_ret ?_
    refine JX_seq_ret ?_
    refine JX_ret Try.results20 (Res.agg Try.isAgg25 Try.sizeOf25 rfl (by repeat (first | exact List.mem_cons_self | apply List.mem_cons_of_mem | apply List.mem_append_right)) rfl (Res.tmp rfl Res.nil)) (fun w1 hw1 => ?_)
    exact ⟨none, 0, none, 0, none, 0, [], [], [], (by rw [(((hF.neg hq1).pos hq2)).eq] <;> first | rfl | (simp only [List.length_set] <;> rfl)), (hw1.fresh_out.sub (List.nil_sublist _)), (by rw [(((hF.neg hq1).pos hq2)).eq]; exact OwnB.nil), (by rw [(((hF.neg hq1).pos hq2)).eq]; exact OwnB.nil), (by rw [(((hF.neg hq1).pos hq2)).eq]; exact OwnB.nil)⟩
  refine J_skip ?_
  refine JX_seq ?_
  refine J_seq ?_
  refine J_join9 (σ1 := List Int) (σ2 := Option Addr) (σ3 := Nat) (σ4 := Heap) (σ5 := List Bool) (σ6 := Option Addr) (σ7 := Nat) (σ8 := Heap) (σ9 := Nat) (fun x_1 x_1a x_1c x_1B x_2 x_2a x_2c x_2B r122 => (x_2B ++ (x_1B ++ ((r122, Obj.cells [(Value.slice (x_1a) (x_1.length) (x_1c)), (Value.slice (x_2a) (x_2.length) (x_2c)), (Value.slice (none) (0) (0))].toArray 25) :: ((r1, Obj.cells [(Value.slice (none) (0) (0)), (Value.slice (none) (0) (0)), (Value.slice (none) (0) (0))].toArray 25) :: []))))) (fun x_1 x_1a x_1c x_1B x_2 x_2a x_2c x_2B r122 => [(0, (Value.int .i64 (n_))), (2, (Value.pointer (some ⟨r1, 0, none⟩))), (3, (Value.int .i64 (0))), (4, (Value.pointer (some ⟨r122, 0, none⟩)))]) (fun x_1 x_1a x_1c x_1B x_2 x_2a x_2c x_2B r122 => Is (Is.xr2 ((hF.neg hq1).neg hq2)) (x_1, x_2) ∧ OwnB eI 1 3 x_1a x_1c x_1B x_1 ∧ OwnB eB 1 4 x_2a x_2c x_2B x_2) ?_ ?_
  · skip
    refine J_any (V := []) mixed 6 (by kernel_rfl) ?_
    refine JG_q 0 rfl (by kernel_rfl) (q_move) (k := ?_)
    refine JG_q 2 rfl (by kernel_rfl) (q_move) (k := ?_)
    refine JG_br [1, 3, 5] (by kernel_rfl) rfl (List.forall_mem_cons.2 ⟨?_, (List.forall_mem_cons.2 ⟨?_, (List.forall_mem_cons.2 ⟨?_, nofun⟩)⟩)⟩)
    · skip
      refine JO_make rfl (n := (n_).toNat) (x0 := default) TY_3 Try.underlying22 eI_ok rfl ⟨by omega, by omega⟩ (k := fun ax41 Bx41 hox41 => ?_)
      refine JG_br [3, 5] (by kernel_rfl) rfl (List.forall_mem_cons.2 ⟨?_, (List.forall_mem_cons.2 ⟨?_, nofun⟩)⟩)
      · skip
        refine JO_make rfl (n := (n_).toNat) (x0 := default) TY_4 Try.underlying23 eB_ok rfl ⟨by omega, by omega⟩ (k := fun ax81 Bx81 hox81 => ?_)
        refine JG_q 4 rfl (by kernel_rfl) (q_build (cs := [_, _, _]) Try.zeroValue25 PL_25) (k := ?_)
        refine JG_br [5] (by kernel_rfl) rfl (List.forall_mem_cons.2 ⟨?_, nofun⟩)
        · skip
          refine JO_a rfl noMk (a_alloc (l := [_, _, _]) Try.zeroValue25) (k := fun r122 hr122 => ?_)
          refine JG_nil (by kernel_rfl) _ ?_
          refine JL_s (w_store (l' := [_, _, _]) Try.sizeOf25) (k := ?_)
          refine JL_nil ?_
          refine JX_permL (Bx81 ++ (Bx41 ++ ((r122, Obj.cells [(Value.slice (ax41) ((List.replicate ((n_).toNat) (default : Int)).length) ((n_).toNat)), (Value.slice (ax81) ((List.replicate ((n_).toNat) (default : Bool)).length) ((n_).toNat)), (Value.slice (none) (0) (0))].toArray 25) :: ((r1, Obj.cells [(Value.slice (none) (0) (0)), (Value.slice (none) (0) (0)), (Value.slice (none) (0) (0))].toArray 25) :: [])))) (((((List.Perm.cons _ ((List.Perm.append_left _ ((List.Perm.append_left _ (List.Perm.refl _)).trans List.perm_middle)).trans List.perm_middle)).trans (List.Perm.swap _ _ _)).trans ((List.Perm.cons _ (List.Perm.refl _)).trans (List.Perm.swap _ _ _))).trans ((List.Perm.cons _ ((List.Perm.cons _ ((List.Perm.append_left _ (List.Perm.refl _)).trans (perm_seg _ _ _))).trans List.perm_middle.symm)).trans List.perm_middle.symm)).trans ((List.Perm.append_left _ ((List.Perm.cons _ ((List.Perm.cons _ (List.Perm.refl _)).trans List.perm_middle.symm)).trans List.perm_middle.symm)).trans (perm_seg _ _ _))) ?_
          exact JX_join9 (List.replicate ((n_).toNat) (default : Int)) ax41 ((n_).toNat) Bx41 (List.replicate ((n_).toNat) (default : Bool)) ax81 ((n_).toNat) Bx81 r122 ⟨(Is.refl (Is.xr2 ((hF.neg hq1).neg hq2))), hox41, hox81⟩ (by repeat (first | exact SubE.nil | refine SubE.cons rfl ?_)) (List.Perm.refl _)
      · skip
        refine JO_a rfl noMk (a_alloc (l := [_, _, _]) Try.zeroValue25) (k := fun r122 hr122 => ?_)
        refine JG_br [3] (by kernel_rfl) rfl (List.forall_mem_cons.2 ⟨?_, nofun⟩)
        · skip
          refine JO_make rfl (n := (n_).toNat) (x0 := default) TY_4 Try.underlying23 eB_ok rfl ⟨by omega, by omega⟩ (k := fun ax81 Bx81 hox81 => ?_)
          refine JG_q 4 rfl (by kernel_rfl) (q_build (cs := [_, _, _]) Try.zeroValue25 PL_25) (k := ?_)
          refine JG_nil (by kernel_rfl) _ ?_
          refine JL_s (w_store (l' := [_, _, _]) Try.sizeOf25) (k := ?_)
          refine JL_nil ?_
          refine JX_permL (Bx81 ++ (Bx41 ++ ((r122, Obj.cells [(Value.slice (ax41) ((List.replicate ((n_).toNat) (default : Int)).length) ((n_).toNat)), (Value.slice (ax81) ((List.replicate ((n_).toNat) (default : Bool)).length) ((n_).toNat)), (Value.slice (none) (0) (0))].toArray 25) :: ((r1, Obj.cells [(Value.slice (none) (0) (0)), (Value.slice (none) (0) (0)), (Value.slice (none) (0) (0))].toArray 25) :: [])))) (((((List.Perm.append_left _ ((List.Perm.cons _ ((List.Perm.append_left _ (List.Perm.refl _)).trans List.perm_middle)).trans (List.Perm.swap _ _ _))).trans List.perm_middle).trans ((List.Perm.cons _ ((List.Perm.append_left _ (List.Perm.refl _)).trans List.perm_middle)).trans (List.Perm.swap _ _ _))).trans ((List.Perm.cons _ ((List.Perm.cons _ ((List.Perm.append_left _ (List.Perm.refl _)).trans (perm_seg _ _ _))).trans List.perm_middle.symm)).trans List.perm_middle.symm)).trans ((List.Perm.append_left _ ((List.Perm.cons _ ((List.Perm.cons _ (List.Perm.refl _)).trans List.perm_middle.symm)).trans List.perm_middle.symm)).trans (perm_seg _ _ _))) ?_
          exact JX_join9 (List.replicate ((n_).toNat) (default : Int)) ax41 ((n_).toNat) Bx41 (List.replicate ((n_).toNat) (default : Bool)) ax81 ((n_).toNat) Bx81 r122 ⟨(Is.refl (Is.xr2 ((hF.neg hq1).neg hq2))), hox41, hox81⟩ (by repeat (first | exact SubE.nil | refine SubE.cons rfl ?_)) (List.Perm.refl _)
    · skip
      refine JO_make rfl (n := (n_).toNat) (x0 := default) TY_4 Try.underlying23 eB_ok rfl ⟨by omega, by omega⟩ (k := fun ax81 Bx81 hox81 => ?_)
      refine JG_br [1, 5] (by kernel_rfl) rfl (List.forall_mem_cons.2 ⟨?_, (List.forall_mem_cons.2 ⟨?_, nofun⟩)⟩)
      · skip
        refine JO_make rfl (n := (n_).toNat) (x0 := default) TY_3 Try.underlying22 eI_ok rfl ⟨by omega, by omega⟩ (k := fun ax41 Bx41 hox41 => ?_)
        refine JG_q 4 rfl (by kernel_rfl) (q_build (cs := [_, _, _]) Try.zeroValue25 PL_25) (k := ?_)
        refine JG_br [5] (by kernel_rfl) rfl (List.forall_mem_cons.2 ⟨?_, nofun⟩)
        · skip
          refine JO_a rfl noMk (a_alloc (l := [_, _, _]) Try.zeroValue25) (k := fun r122 hr122 => ?_)
          refine JG_nil (by kernel_rfl) _ ?_
          refine JL_s (w_store (l' := [_, _, _]) Try.sizeOf25) (k := ?_)
          refine JL_nil ?_
          refine JX_permL (Bx81 ++ (Bx41 ++ ((r122, Obj.cells [(Value.slice (ax41) ((List.replicate ((n_).toNat) (default : Int)).length) ((n_).toNat)), (Value.slice (ax81) ((List.replicate ((n_).toNat) (default : Bool)).length) ((n_).toNat)), (Value.slice (none) (0) (0))].toArray 25) :: ((r1, Obj.cells [(Value.slice (none) (0) (0)), (Value.slice (none) (0) (0)), (Value.slice (none) (0) (0))].toArray 25) :: [])))) (((((List.Perm.cons _ ((List.Perm.append_left _ ((List.Perm.append_left _ (List.Perm.refl _)).trans List.perm_middle)).trans List.perm_middle)).trans (List.Perm.swap _ _ _)).trans ((List.Perm.cons _ (List.Perm.refl _)).trans (List.Perm.swap _ _ _))).trans ((List.Perm.cons _ ((List.Perm.cons _ (List.Perm.refl _)).trans List.perm_middle.symm)).trans List.perm_middle.symm)).trans ((List.Perm.append_left _ ((List.Perm.cons _ ((List.Perm.cons _ (List.Perm.refl _)).trans List.perm_middle.symm)).trans List.perm_middle.symm)).trans (perm_seg _ _ _))) ?_
          exact JX_join9 (List.replicate ((n_).toNat) (default : Int)) ax41 ((n_).toNat) Bx41 (List.replicate ((n_).toNat) (default : Bool)) ax81 ((n_).toNat) Bx81 r122 ⟨(Is.refl (Is.xr2 ((hF.neg hq1).neg hq2))), hox41, hox81⟩ (by repeat (first | exact SubE.nil | refine SubE.cons rfl ?_)) (List.Perm.refl _)
      · skip
        refine JO_a rfl noMk (a_alloc (l := [_, _, _]) Try.zeroValue25) (k := fun r122 hr122 => ?_)
        refine JG_br [1] (by kernel_rfl) rfl (List.forall_mem_cons.2 ⟨?_, nofun⟩)
        · skip
          refine JO_make rfl (n := (n_).toNat) (x0 := default) TY_3 Try.underlying22 eI_ok rfl ⟨by omega, by omega⟩ (k := fun ax41 Bx41 hox41 => ?_)
          refine JG_q 4 rfl (by kernel_rfl) (q_build (cs := [_, _, _]) Try.zeroValue25 PL_25) (k := ?_)
          refine JG_nil (by kernel_rfl) _ ?_
          refine JL_s (w_store (l' := [_, _, _]) Try.sizeOf25) (k := ?_)
          refine JL_nil ?_
          refine JX_permL (Bx81 ++ (Bx41 ++ ((r122, Obj.cells [(Value.slice (ax41) ((List.replicate ((n_).toNat) (default : Int)).length) ((n_).toNat)), (Value.slice (ax81) ((List.replicate ((n_).toNat) (default : Bool)).length) ((n_).toNat)), (Value.slice (none) (0) (0))].toArray 25) :: ((r1, Obj.cells [(Value.slice (none) (0) (0)), (Value.slice (none) (0) (0)), (Value.slice (none) (0) (0))].toArray 25) :: [])))) (((((List.Perm.append_left _ ((List.Perm.cons _ ((List.Perm.append_left _ (List.Perm.refl _)).trans List.perm_middle)).trans (List.Perm.swap _ _ _))).trans List.perm_middle).trans ((List.Perm.cons _ ((List.Perm.append_left _ (List.Perm.refl _)).trans List.perm_middle)).trans (List.Perm.swap _ _ _))).trans ((List.Perm.cons _ ((List.Perm.cons _ (List.Perm.refl _)).trans List.perm_middle.symm)).trans List.perm_middle.symm)).trans ((List.Perm.append_left _ ((List.Perm.cons _ ((List.Perm.cons _ (List.Perm.refl _)).trans List.perm_middle.symm)).trans List.perm_middle.symm)).trans (perm_seg _ _ _))) ?_
          exact JX_join9 (List.replicate ((n_).toNat) (default : Int)) ax41 ((n_).toNat) Bx41 (List.replicate ((n_).toNat) (default : Bool)) ax81 ((n_).toNat) Bx81 r122 ⟨(Is.refl (Is.xr2 ((hF.neg hq1).neg hq2))), hox41, hox81⟩ (by repeat (first | exact SubE.nil | refine SubE.cons rfl ?_)) (List.Perm.refl _)
    · skip
      refine JO_a rfl noMk (a_alloc (l := [_, _, _]) Try.zeroValue25) (k := fun r122 hr122 => ?_)
      refine JG_br [1, 3] (by kernel_rfl) rfl (List.forall_mem_cons.2 ⟨?_, (List.forall_mem_cons.2 ⟨?_, nofun⟩)⟩)
      · skip
        refine JO_make rfl (n := (n_).toNat) (x0 := default) TY_3 Try.underlying22 eI_ok rfl ⟨by omega, by omega⟩ (k := fun ax41 Bx41 hox41 => ?_)
        refine JG_br [3] (by kernel_rfl) rfl (List.forall_mem_cons.2 ⟨?_, nofun⟩)
        · skip
          refine JO_make rfl (n := (n_).toNat) (x0 := default) TY_4 Try.underlying23 eB_ok rfl ⟨by omega, by omega⟩ (k := fun ax81 Bx81 hox81 => ?_)
          refine JG_q 4 rfl (by kernel_rfl) (q_build (cs := [_, _, _]) Try.zeroValue25 PL_25) (k := ?_)
          refine JG_nil (by kernel_rfl) _ ?_
          refine JL_s (w_store (l' := [_, _, _]) Try.sizeOf25) (k := ?_)
          refine JL_nil ?_
          exact JX_join9 (List.replicate ((n_).toNat) (default : Int)) ax41 ((n_).toNat) Bx41 (List.replicate ((n_).toNat) (default : Bool)) ax81 ((n_).toNat) Bx81 r122 ⟨(Is.refl (Is.xr2 ((hF.neg hq1).neg hq2))), hox41, hox81⟩ (by repeat (first | exact SubE.nil | refine SubE.cons rfl ?_)) (List.Perm.refl _)
      · skip
        refine JO_make rfl (n := (n_).toNat) (x0 := default) TY_4 Try.underlying23 eB_ok rfl ⟨by omega, by omega⟩ (k := fun ax81 Bx81 hox81 => ?_)
        refine JG_br [1] (by kernel_rfl) rfl (List.forall_mem_cons.2 ⟨?_, nofun⟩)
        · skip
          refine JO_make rfl (n := (n_).toNat) (x0 := default) TY_3 Try.underlying22 eI_ok rfl ⟨by omega, by omega⟩ (k := fun ax41 Bx41 hox41 => ?_)
          refine JG_q 4 rfl (by kernel_rfl) (q_build (cs := [_, _, _]) Try.zeroValue25 PL_25) (k := ?_)
          refine JG_nil (by kernel_rfl) _ ?_
          refine JL_s (w_store (l' := [_, _, _]) Try.sizeOf25) (k := ?_)
          refine JL_nil ?_
          refine JX_permL (Bx81 ++ (Bx41 ++ ((r122, Obj.cells [(Value.slice (ax41) ((List.replicate ((n_).toNat) (default : Int)).length) ((n_).toNat)), (Value.slice (ax81) ((List.replicate ((n_).toNat) (default : Bool)).length) ((n_).toNat)), (Value.slice (none) (0) (0))].toArray 25) :: ((r1, Obj.cells [(Value.slice (none) (0) (0)), (Value.slice (none) (0) (0)), (Value.slice (none) (0) (0))].toArray 25) :: [])))) (((((List.Perm.append_left _ ((List.Perm.append_left _ ((List.Perm.cons _ (List.Perm.refl _)).trans (List.Perm.swap _ _ _))).trans List.perm_middle)).trans List.perm_middle).trans ((List.Perm.cons _ ((List.Perm.append_left _ ((List.Perm.append_left _ (List.Perm.refl _)).trans List.perm_middle)).trans List.perm_middle)).trans (List.Perm.swap _ _ _))).trans ((List.Perm.cons _ ((List.Perm.cons _ (List.Perm.refl _)).trans List.perm_middle.symm)).trans List.perm_middle.symm)).trans ((List.Perm.append_left _ ((List.Perm.cons _ ((List.Perm.cons _ (List.Perm.refl _)).trans List.perm_middle.symm)).trans List.perm_middle.symm)).trans (perm_seg _ _ _))) ?_
          exact JX_join9 (List.replicate ((n_).toNat) (default : Int)) ax41 ((n_).toNat) Bx41 (List.replicate ((n_).toNat) (default : Bool)) ax81 ((n_).toNat) Bx81 r122 ⟨(Is.refl (Is.xr2 ((hF.neg hq1).neg hq2))), hox41, hox81⟩ (by repeat (first | exact SubE.nil | refine SubE.cons rfl ?_)) (List.Perm.refl _)
  rintro x_1 x_1a x_1c x_1B x_2 x_2a x_2c x_2B r122 ⟨hJ3, hx_1, hx_2⟩
  refine JX_seq ?_
  refine J_seq ?_
  refine J_seq ?_
  refine J_reg ?_
  refine JL_q (q_move) (k := ?_)
  refine JL_q (q_sub) (k := ?_)
  refine JL_q (q_assign) (k := ?_)
  refine JL_nil ?_
  refine JX_seq ?_
  refine J_block ?_
  refine J_loop6 (σ1 := Nat) (σ2 := Int) (σ3 := List Int) (σ4 := Option Addr) (σ5 := Nat) (σ6 := Heap) (fun n_6 i_4 x_5 x_5a x_5c x_5B => (x_5B ++ (x_2B ++ (x_1B ++ ((r122, Obj.cells [(Value.slice (x_1a) (x_1.length) (x_1c)), (Value.slice (x_2a) (x_2.length) (x_2c)), (Value.slice (x_5a) (x_5.length) (x_5c))].toArray 25) :: ((r1, Obj.cells [(Value.slice (none) (0) (0)), (Value.slice (none) (0) (0)), (Value.slice (none) (0) (0))].toArray 25) :: [])))))) (fun n_6 i_4 x_5 x_5a x_5c x_5B => [(2, (Value.pointer (some ⟨r1, 0, none⟩))), (3, (Value.int .i64 (0))), (4, (Value.pointer (some ⟨r122, 0, none⟩))), (5, (Value.int .i64 (i_4)))]) (fun n_6 i_4 x_5 x_5a x_5c x_5B => (i_4 + 1).toNat < n_6 ∧ Is (rNew_l0 n_ x_1 x_2 (((n_ - 1) + 1).toNat + 1) (n_ - 1) []) (rNew_l0 n_ x_1 x_2 n_6 i_4 x_5) ∧ OwnB eI 1 3 x_5a x_5c x_5B x_5 ∧ -1 ≤ i_4 ∧ i_4 ≤ 63 ∧ (x_5.length : Int) + i_4 ≤ 63) (fun n_6 i_4 x_5 x_5a x_5c x_5B => n_6) (((n_ - 1) + 1).toNat + 1) (n_ - 1) ([]) none 0 ([]) ?_ (by repeat (first | exact SubE.nil | refine SubE.cons rfl ?_)) (List.Perm.refl _) ?_
  · exact ⟨Nat.lt_succ_self _, Is.refl _, OwnB.nil, (by first | omega | (simp only [List.length_append, List.length_take, List.length_drop, List.length_set, List.length_replicate, List.length_cons, List.length_nil, List.length_map]; omega) | (simp only [List.length_append, List.length_take, List.length_drop, List.length_set, List.length_replicate, List.length_cons, List.length_nil, List.length_map] at *; omega)), (by first | omega | (simp only [List.length_append, List.length_take, List.length_drop, List.length_set, List.length_replicate, List.length_cons, List.length_nil, List.length_map]; omega) | (simp only [List.length_append, List.length_take, List.length_drop, List.length_set, List.length_replicate, List.length_cons, List.length_nil, List.length_map] at *; omega))⟩
  · rintro (_ | n_6) i_4 x_5 x_5a x_5c x_5B ⟨hm8, hF7, hx_5, hi9, hi10⟩
    · omega
    refine J_seq ?_
    refine J_seq ?_
    refine J_reg ?_
    refine JL_q (q_move) (k := ?_)
    refine JL_q (q_geq) (k := ?_)
    refine JL_nil ?_
    refine JX_seq ?_
    refine J_dec rfl (fun hq3 => ?_) (fun hq3 => ?_)
    rotate_left
    · refine J_exit ?_
      refine JX_seq_exit ?_
      refine JX_inv_exit ?_
      refine JX_block_hit ?_
      refine JX_seq ?_
      refine J_seq ?_
      refine J_reg ?_
      refine JL_q (q_loadA Try.isAgg25 Try.sizeOf25) (k := ?_)
      refine JL_s (w_store (l' := [_, _, _]) Try.sizeOf25) (k := ?_)
      refine JL_q (q_assign) (k := ?_)
      refine JL_nil ?_
      refine JX_seq ?_
      refine J_ret ?_
      refine JX_ret Try.results20 (Res.agg Try.isAgg25 Try.sizeOf25 rfl (by repeat (first | exact List.mem_cons_self | apply List.mem_cons_of_mem | apply List.mem_append_right)) rfl (Res.tmp rfl Res.nil)) (fun w1 hw1 => ?_)
      exact ⟨x_1a, x_1c, x_2a, x_2c, x_5a, x_5c, x_1B, x_2B, x_5B, (by rw [(((((hF.neg hq1).neg hq2).rn2 hJ3).rn2 (hF7.neg hq3))).eq] <;> first | rfl | (simp only [List.length_set] <;> rfl)), (fresh_segs (L := (x_1B ++ (x_2B ++ x_5B))) (R := ((r122, Obj.cells [(Value.slice (x_1a) (x_1.length) (x_1c)), (Value.slice (x_2a) (x_2.length) (x_2c)), (Value.slice (x_5a) (x_5.length) (x_5c))].toArray 25) :: ((r1, Obj.cells [(Value.slice (x_1a) (x_1.length) (x_1c)), (Value.slice (x_2a) (x_2.length) (x_2c)), (Value.slice (x_5a) (x_5.length) (x_5c))].toArray 25) :: []))) (hw1.perm (((List.Perm.refl _).trans ((List.Perm.append_left _ (List.Perm.refl _)).trans (perm_seg _ _ _))).trans ((List.Perm.append_left _ ((List.Perm.append_left _ (List.Perm.refl _)).trans (perm_seg _ _ _))).trans (perm_seg _ _ _)))) (by simp)), (by rw [(((((hF.neg hq1).neg hq2).rn2 hJ3).rn2 (hF7.neg hq3))).eq]; exact hx_1), (by rw [(((((hF.neg hq1).neg hq2).rn2 hJ3).rn2 (hF7.neg hq3))).eq]; exact hx_2), (by rw [(((((hF.neg hq1).neg hq2).rn2 hJ3).rn2 (hF7.neg hq3))).eq]; exact hx_5)⟩
    refine J_skip ?_
    refine JX_seq ?_
    refine J_seq ?_
    refine J_block ?_
    refine J_reg ?_
    refine JL_q (q_fld FO_25_2) (k := ?_)
    refine JL_q (q_load Try.isAgg22) (k := ?_)
    refine JL_q (q_move) (k := ?_)
    refine JL_a noMk (a_bslice (l := [_]) Try.runUnderlying22 Try.sizeOf3 Try.zeroValue3) (k := fun r162 hr162 => ?_)
    refine JL_append (x_5 ++ ([i_4] : List Int)) rfl TY_3 Try.underlying22 eI_ok hx_5 ((List.Perm.cons _ (List.Perm.refl _)).trans List.perm_middle.symm) (SlJ.lit (xs := ([i_4] : List Int)) eI_ok) ⟨by omega, by omega⟩ (n := x_5.length) (m := 1) (k := fun ax161 cx161 Bx161 hox161 => ?_)
    refine JL_q (q_fld FO_25_2) (k := ?_)
    refine JL_s (w_store (l' := [_, _, _]) Try.sizeOf22) (k := ?_)
    refine JL_nil ?_
    refine JX_block ?_
    refine JX_seq ?_
    refine J_reg ?_
    refine JL_q (q_move) (k := ?_)
    refine JL_q (q_sub) (k := ?_)
    refine JL_q (q_assign) (k := ?_)
    refine JL_nil ?_
    refine JX_permL (Bx161 ++ (x_2B ++ (x_1B ++ ((r122, Obj.cells [(Value.slice (x_1a) (x_1.length) (x_1c)), (Value.slice (x_2a) (x_2.length) (x_2c)), (Value.slice (ax161) ((x_5 ++ ([i_4] : List Int)).length) (cx161))].toArray 25) :: ((r1, Obj.cells [(Value.slice (none) (0) (0)), (Value.slice (none) (0) (0)), (Value.slice (none) (0) (0))].toArray 25) :: ((r162, Obj.cells [(Value.int .i64 (i_4))].toArray 3) :: [])))))) ((((((List.Perm.append_left _ ((List.Perm.cons _ ((List.Perm.append_left _ ((List.Perm.append_left _ ((List.Perm.cons _ (List.Perm.refl _)).trans (List.Perm.swap _ _ _))).trans List.perm_middle)).trans List.perm_middle)).trans (List.Perm.swap _ _ _))).trans List.perm_middle).trans ((List.Perm.cons _ ((List.Perm.append_left _ ((List.Perm.cons _ ((List.Perm.append_left _ ((List.Perm.append_left _ (List.Perm.refl _)).trans List.perm_middle)).trans List.perm_middle)).trans (List.Perm.swap _ _ _))).trans List.perm_middle)).trans (List.Perm.swap _ _ _))).trans ((List.Perm.cons _ ((List.Perm.cons _ ((List.Perm.append_left _ ((List.Perm.cons _ ((List.Perm.append_left _ (List.Perm.refl _)).trans (perm_seg _ _ _))).trans List.perm_middle.symm)).trans (perm_seg _ _ _))).trans List.perm_middle.symm)).trans List.perm_middle.symm)).trans ((List.Perm.append_left _ ((List.Perm.cons _ ((List.Perm.cons _ ((List.Perm.append_left _ ((List.Perm.cons _ (List.Perm.refl _)).trans List.perm_middle.symm)).trans (perm_seg _ _ _))).trans List.perm_middle.symm)).trans List.perm_middle.symm)).trans (perm_seg _ _ _))).trans ((List.Perm.append_left _ ((List.Perm.append_left _ ((List.Perm.cons _ ((List.Perm.cons _ (List.Perm.refl _)).trans List.perm_middle.symm)).trans List.perm_middle.symm)).trans (perm_seg _ _ _))).trans (perm_seg _ _ _))) ?_
    refine JX_subL (Bx161 ++ (x_2B ++ (x_1B ++ ((r122, Obj.cells [(Value.slice (x_1a) (x_1.length) (x_1c)), (Value.slice (x_2a) (x_2.length) (x_2c)), (Value.slice (ax161) ((x_5 ++ ([i_4] : List Int)).length) (cx161))].toArray 25) :: ((r1, Obj.cells [(Value.slice (none) (0) (0)), (Value.slice (none) (0) (0)), (Value.slice (none) (0) (0))].toArray 25) :: []))))) (List.Sublist.append (List.Sublist.refl _) (List.Sublist.append (List.Sublist.refl _) (List.Sublist.append (List.Sublist.refl _) (List.Sublist.cons_cons _ (List.Sublist.cons_cons _ (List.nil_sublist _)))))) ?_
    exact JX_inv6 n_6 (i_4 - 1) (x_5 ++ ([i_4] : List Int)) ax161 cx161 Bx161 ⟨by omega, (hF7.pos hq3), hox161, (by first | omega | (simp only [List.length_append, List.length_take, List.length_drop, List.length_set, List.length_replicate, List.length_cons, List.length_nil, List.length_map]; omega) | (simp only [List.length_append, List.length_take, List.length_drop, List.length_set, List.length_replicate, List.length_cons, List.length_nil, List.length_map] at *; omega)), (by first | omega | (simp only [List.length_append, List.length_take, List.length_drop, List.length_set, List.length_replicate, List.length_cons, List.length_nil, List.length_map]; omega) | (simp only [List.length_append, List.length_take, List.length_drop, List.length_set, List.length_replicate, List.length_cons, List.length_nil, List.length_map] at *; omega))⟩ (Nat.lt_succ_self _) (by repeat (first | exact SubE.nil | refine SubE.cons rfl ?_)) (List.Perm.refl _)

theorem rValid_ok (w : World) {s_1_a : Option Addr} {s_1_c : Nat} {s_2_1_a : Option Addr} {s_2_1_c : Nat} {s_2_2_a : Option Addr} {s_2_2_c : Nat} {s : (List Int × List Bool × List Int)} {h : (Int × Int)} (h_s_1 : Sl w eI 1 s_1_a s.1) (n_s_1 : s.1.length ≤ 1000000) (h_s_2_1 : Sl w eB 1 s_2_1_a s.2.1) (n_s_2_1 : s.2.1.length ≤ 1000000) (h_s_2_2 : Sl w eI 1 s_2_2_a s.2.2) (n_s_2_2 : s.2.2.length ≤ 1000000) : Val Try.prog 23 [(Value.agg [(Value.slice (s_1_a) (s.1.length) (s_1_c)), (Value.slice (s_2_1_a) (s.2.1.length) (s_2_1_c)), (Value.slice (s_2_2_a) (s.2.2.length) (s_2_2_c))].toArray), (Value.agg [(Value.int .i64 (h.1)), (Value.int .i64 (h.2))].toArray)] w (Value.bool ((rValid s h))) := by
  have hF := Is.refl (rValid s h)
  refine enter Try.func23 Try.ntmps23 (h := ?_)
  refine J_seq ?_
  refine J_reg ?_
  refine JL_a noMk (a_box (l := [_, _, _])) (k := fun r1 hr1 => ?_)
  refine JL_a noMk (a_box (l := [_, _])) (k := fun r2 hr2 => ?_)
  refine JL_q (q_assign) (k := ?_)
  refine JL_nil ?_
  refine JX_seq ?_
  refine J_seq ?_
  refine J_plan mixed 35 [(true, 0), (false, 1), (true, 2), (true, 3), (true, 4), (true, 5), (true, 6), (true, 7), (true, 8), (true, 9), (true, 10), (true, 11), (true, 12), (true, 13), (true, 14), (true, 15), (true, 16), (true, 17), (true, 18), (true, 19), (true, 20), (true, 21), (true, 22), (true, 23), (true, 24), (true, 25), (true, 26), (true, 27), (true, 28), (true, 29), (true, 30), (true, 31), (true, 32), (true, 33), (true, 34)] (by kernel_rfl) ?_
  refine JD_q (q_loadA Try.isAgg25 Try.sizeOf25) (k := ?_)
  refine JD_v (args := [(Value.agg [(Value.slice (s_1_a) (s.1.length) (s_1_c)), (Value.slice (s_2_1_a) (s.2.1.length) (s_2_1_c)), (Value.slice (s_2_2_a) (s.2.2.length) (s_2_2_c))].toArray)]) (c_callA Try.call21) (fun w1 hw1 => rRight_ok w1 (s := s) (h_s_1 := (SlJ.of_base h_s_1) w1 hw1) (n_s_1 := by first | omega | (simp only [List.length_append, List.length_take, List.length_drop, List.length_set, List.length_replicate, List.length_cons, List.length_nil, List.length_map]; omega) | (simp only [List.length_append, List.length_take, List.length_drop, List.length_set, List.length_replicate, List.length_cons, List.length_nil, List.length_map] at *; omega) | decide) (h_s_2_1 := (SlJ.of_base h_s_2_1) w1 hw1) (n_s_2_1 := by first | omega | (simp only [List.length_append, List.length_take, List.length_drop, List.length_set, List.length_replicate, List.length_cons, List.length_nil, List.length_map]; omega) | (simp only [List.length_append, List.length_take, List.length_drop, List.length_set, List.length_replicate, List.length_cons, List.length_nil, List.length_map] at *; omega) | decide) (h_s_2_2 := (SlJ.of_base h_s_2_2) w1 hw1) (n_s_2_2 := by first | omega | (simp only [List.length_append, List.length_take, List.length_drop, List.length_set, List.length_replicate, List.length_cons, List.length_nil, List.length_map]; omega) | (simp only [List.length_append, List.length_take, List.length_drop, List.length_set, List.length_replicate, List.length_cons, List.length_nil, List.length_map] at *; omega) | decide)) (k := ?_)
  refine JD_q (q_move) (k := ?_)
  refine JD_bool 7 rfl (fun hq1 => ?_) (fun hq1 => ?_)
  rotate_left
  · refine JD_skips 3 rfl ?_
    refine JD_q (q_pickF) (k := ?_)
    refine JD_q (q_move) (k := ?_)
    refine JD_skips 6 rfl ?_
    refine JD_q (q_pickF) (k := ?_)
    refine JD_q (q_move) (k := ?_)
    refine JD_skips 6 rfl ?_
    refine JD_q (q_pickF) (k := ?_)
    refine JD_q (q_move) (k := ?_)
    refine JD_skips 9 rfl ?_
    refine JD_q (q_pickF) (k := ?_)
    refine JD_q (q_assign) (k := ?_)
    refine JD_nil ?_
    refine JL_nil ?_
    refine JX_seq ?_
    refine J_ret ?_
    refine JX_ret Try.results23 (Res.tmp rfl Res.nil) (fun w1 hw1 => ?_)
    exact ⟨(by rw [((hF.f hq1)).eq] <;> first | rfl | (simp only [List.length_set] <;> rfl)), hw1.ext_out⟩
  have hfhq1 := rRight_t hq1
  refine JD_qg (q_fld FO_27_0) (k := ?_)
  refine JD_qg (q_load Try.isAgg3) (k := ?_)
  refine JD_qg (q_geq) (k := ?_)
  refine JD_q (q_pickT) (k := ?_)
  refine JD_q (q_move) (k := ?_)
  refine JD_dec 12 rfl (fun hq2 => ?_) (fun hq2 => ?_)
  rotate_left
  · refine JD_skips 6 rfl ?_
    refine JD_q (q_pickF) (k := ?_)
    refine JD_q (q_move) (k := ?_)
    refine JD_skips 6 rfl ?_
    refine JD_q (q_pickF) (k := ?_)
    refine JD_q (q_move) (k := ?_)
    refine JD_skips 9 rfl ?_
    refine JD_q (q_pickF) (k := ?_)
    refine JD_q (q_assign) (k := ?_)
    refine JD_nil ?_
    refine JL_nil ?_
    refine JX_seq ?_
    refine J_ret ?_
    refine JX_ret Try.results23 (Res.tmp rfl Res.nil) (fun w1 hw1 => ?_)
    exact ⟨(by rw [(((hF.t hq1).neg hq2)).eq] <;> first | rfl | (simp only [List.length_set] <;> rfl)), hw1.ext_out⟩
  refine JD_qg (q_fld FO_27_0) (k := ?_)
  refine JD_qg (q_load Try.isAgg3) (k := ?_)
  refine JD_qg (q_fld FO_25_0) (k := ?_)
  refine JD_qg (q_load Try.isAgg22) (k := ?_)
  refine JD_qg (q_lenS Try.runUnderlying22) (k := ?_)
  refine JD_qg (q_lss) (k := ?_)
  refine JD_q (q_pickT) (k := ?_)
  refine JD_q (q_move) (k := ?_)
  refine JD_dec 20 rfl (fun hq3 => ?_) (fun hq3 => ?_)
  rotate_left
  · refine JD_skips 6 rfl ?_
    refine JD_q (q_pickF) (k := ?_)
    refine JD_q (q_move) (k := ?_)
    refine JD_skips 9 rfl ?_
    refine JD_q (q_pickF) (k := ?_)
    refine JD_q (q_assign) (k := ?_)
    refine JD_nil ?_
    refine JL_nil ?_
    refine JX_seq ?_
    refine J_ret ?_
    refine JX_ret Try.results23 (Res.tmp rfl Res.nil) (fun w1 hw1 => ?_)
    exact ⟨(by rw [((((hF.t hq1).pos hq2).neg hq3)).eq] <;> first | rfl | (simp only [List.length_set] <;> rfl)), hw1.ext_out⟩
  refine JD_qg (q_fld FO_25_1) (k := ?_)
  refine JD_qg (q_load Try.isAgg23) (k := ?_)
  refine JD_qg (q_fld FO_27_0) (k := ?_)
  refine JD_qg (q_load Try.isAgg3) (k := ?_)
  refine JD_qg (q_idx (n := s.2.1.length) Try.runUnderlying23 Try.sizeOf4 ((h.1).toNat) (SlJ.of_base h_s_2_1) (gD (by first | omega | (simp only [List.length_set]; omega) | (simp only [List.length_append, List.length_take, List.length_drop, List.length_set, List.length_replicate, List.length_cons, List.length_nil, List.length_map]; omega))) (by first | rfl | simp)) (k := ?_)
  refine JD_qg (q_loadE Try.isAgg4 ((h.1).toNat) 0 (SlJ.of_base h_s_2_1) (gD (by first | omega | (simp only [List.length_set]; omega) | (simp only [List.length_append, List.length_take, List.length_drop, List.length_set, List.length_replicate, List.length_cons, List.length_nil, List.length_map]; omega)))) (k := ?_)
  refine JD_q (q_pickT) (k := ?_)
  refine JD_q (q_move) (k := ?_)
  refine JD_bool 28 rfl (fun hq4 => ?_) (fun hq4 => ?_)
  rotate_left
  · refine JD_skips 9 rfl ?_
    refine JD_q (q_pickF) (k := ?_)
    refine JD_q (q_assign) (k := ?_)
    refine JD_nil ?_
    refine JL_nil ?_
    refine JX_seq ?_
    refine J_ret ?_
    refine JX_ret Try.results23 (Res.tmp rfl Res.nil) (fun w1 hw1 => ?_)
    exact ⟨(by rw [(((((hF.t hq1).pos hq2).pos hq3).f hq4)).eq] <;> first | rfl | (simp only [List.length_set] <;> rfl)), hw1.ext_out⟩
  refine JD_qg (q_fld FO_25_0) (k := ?_)
  refine JD_qg (q_load Try.isAgg22) (k := ?_)
  refine JD_qg (q_fld FO_27_0) (k := ?_)
  refine JD_qg (q_load Try.isAgg3) (k := ?_)
  refine JD_qg (q_idx (n := s.1.length) Try.runUnderlying22 Try.sizeOf3 ((h.1).toNat) (SlJ.of_base h_s_1) (gD (by first | omega | (simp only [List.length_set]; omega) | (simp only [List.length_append, List.length_take, List.length_drop, List.length_set, List.length_replicate, List.length_cons, List.length_nil, List.length_map]; omega))) (by first | rfl | simp)) (k := ?_)
  refine JD_qg (q_loadE Try.isAgg3 ((h.1).toNat) 0 (SlJ.of_base h_s_1) (gD (by first | omega | (simp only [List.length_set]; omega) | (simp only [List.length_append, List.length_take, List.length_drop, List.length_set, List.length_replicate, List.length_cons, List.length_nil, List.length_map]; omega)))) (k := ?_)
  refine JD_qg (q_fld FO_27_1) (k := ?_)
  refine JD_qg (q_load Try.isAgg3) (k := ?_)
  refine JD_qg (q_eql) (k := ?_)
  refine JD_q (q_pickT) (k := ?_)
  refine JD_q (q_assign) (k := ?_)
  refine JD_nil ?_
  refine JL_nil ?_
  refine JX_seq ?_
  refine J_ret ?_
  refine JX_ret Try.results23 (Res.tmp rfl Res.nil) (fun w1 hw1 => ?_)
  exact ⟨(by rw [(((((hF.t hq1).pos hq2).pos hq3).t hq4)).eq] <;> first | rfl | (simp only [List.length_set] <;> rfl)), hw1.ext_out⟩

theorem rAll_ok (w : World) {s_1_a : Option Addr} {s_1_c : Nat} {s_2_1_a : Option Addr} {s_2_1_c : Nat} {s_2_2_a : Option Addr} {s_2_2_c : Nat} {s : (List Int × List Bool × List Int)} (h_s_1 : Sl w eI 1 s_1_a s.1) (n_s_1 : s.1.length ≤ 1000000) (h_s_2_1 : Sl w eB 1 s_2_1_a s.2.1) (n_s_2_1 : s.2.1.length ≤ 1000000) (h_s_2_2 : Sl w eI 1 s_2_2_a s.2.2) (n_s_2_2 : s.2.2.length ≤ 1000000) : Calls Try.prog 25 (List.toArray [(Value.agg [(Value.slice (s_1_a) (s.1.length) (s_1_c)), (Value.slice (s_2_1_a) (s.2.1.length) (s_2_1_c)), (Value.slice (s_2_2_a) (s.2.2.length) (s_2_2_c))].toArray)]) w fun e w2 => ∃ a1 : Option Addr, ∃ c1 : Nat, ∃ B1 : Heap, e = .returned (Value.slice (a1) ((rAll s).length) (c1)) ∧ Fresh w w2 B1 ∧ OwnB eH 2 27 a1 c1 B1 (rAll s) := by
  have hF := Is.refl (rAll s)
  refine enter Try.func25 Try.ntmps25 (h := ?_)
  refine J_seq ?_
  refine J_reg ?_
  refine JL_a noMk (a_box (l := [_, _, _])) (k := fun r1 hr1 => ?_)
  refine JL_q (q_assign) (k := ?_)
  refine JL_nil ?_
  refine JX_seq ?_
  refine J_seq ?_
  refine J_reg ?_
  refine JL_q (q_assign) (k := ?_)
  refine JL_nil ?_
  refine JX_seq ?_
  refine J_seq ?_
  refine J_seq ?_
  refine J_reg ?_
  refine JL_q (q_assign) (k := ?_)
  refine JL_nil ?_
  refine JX_seq ?_
  refine J_block ?_
  refine J_loop6 (σ1 := Nat) (σ2 := List (Int × Int)) (σ3 := Option Addr) (σ4 := Nat) (σ5 := Heap) (σ6 := Nat) (fun n_3 out_1 out_1a out_1c out_1B i_2 => (out_1B ++ ((r1, Obj.cells [(Value.slice (s_1_a) (s.1.length) (s_1_c)), (Value.slice (s_2_1_a) (s.2.1.length) (s_2_1_c)), (Value.slice (s_2_2_a) (s.2.2.length) (s_2_2_c))].toArray 25) :: []))) (fun n_3 out_1 out_1a out_1c out_1B i_2 => [(1, (Value.pointer (some ⟨r1, 0, none⟩))), (2, (Value.slice (none) (0) (0))), (3, (Value.slice (out_1a) (out_1.length) (out_1c))), (4, (Value.int .i64 (((i_2 : Nat) : Int))))]) (fun n_3 out_1 out_1a out_1c out_1B i_2 => s.1.length - i_2 < n_3 ∧ Is (rAll_l0 s (s.1.length + 1) [] 0) (rAll_l0 s n_3 out_1 i_2) ∧ OwnB eH 2 27 out_1a out_1c out_1B out_1 ∧ out_1.length ≤ i_2 ∧ i_2 ≤ s.1.length) (fun n_3 out_1 out_1a out_1c out_1B i_2 => n_3) (s.1.length + 1) ([]) none 0 ([]) 0 ?_ (by repeat (first | exact SubE.nil | refine SubE.cons rfl ?_)) (List.Perm.refl _) ?_
  · exact ⟨Nat.lt_succ_self _, Is.refl _, OwnB.nil, (by first | omega | (simp only [List.length_append, List.length_take, List.length_drop, List.length_set, List.length_replicate, List.length_cons, List.length_nil, List.length_map]; omega) | (simp only [List.length_append, List.length_take, List.length_drop, List.length_set, List.length_replicate, List.length_cons, List.length_nil, List.length_map] at *; omega)), (by first | omega | (simp only [List.length_append, List.length_take, List.length_drop, List.length_set, List.length_replicate, List.length_cons, List.length_nil, List.length_map]; omega) | (simp only [List.length_append, List.length_take, List.length_drop, List.length_set, List.length_replicate, List.length_cons, List.length_nil, List.length_map] at *; omega))⟩
  · rintro (_ | n_3) out_1 out_1a out_1c out_1B i_2 ⟨hm5, hF4, hout_1, hi6, hi7⟩
    · omega
    refine J_seq ?_
    refine J_seq ?_
    refine J_reg ?_
    refine JL_q (q_move) (k := ?_)
    refine JL_q (q_fld FO_25_0) (k := ?_)
    refine JL_q (q_load Try.isAgg22) (k := ?_)
    refine JL_q (q_lenS Try.runUnderlying22) (k := ?_)
    refine JL_q (q_lss) (k := ?_)
    refine JL_q (q_move) (k := ?_)
    refine JL_dec 10 rfl (fun hq1 => ?_) (fun hq1 => ?_)
    rotate_left
    · refine JL_skips 2 rfl ?_
      refine JL_q (q_pickF) (k := ?_)
      refine JL_nil ?_
      refine JX_seq ?_
      refine J_false rfl ?_
      refine J_exit ?_
      refine JX_seq_exit ?_
      refine JX_inv_exit ?_
      refine JX_block_hit ?_
      refine JX_seq ?_
      refine J_seq ?_
      refine J_reg ?_
      refine JL_q (q_move) (k := ?_)
      refine JL_q (q_assign) (k := ?_)
      refine JL_nil ?_
      refine JX_seq ?_
      refine J_ret ?_
      refine JX_ret Try.results25 (Res.tmp rfl Res.nil) (fun w1 hw1 => ?_)
      exact ⟨out_1a, out_1c, out_1B, (by rw [((hF.rn2 (hF4.neg hq1))).eq] <;> first | rfl | (simp only [List.length_set] <;> rfl)), (fresh_segs (L := out_1B) (R := ((r1, Obj.cells [(Value.slice (s_1_a) (s.1.length) (s_1_c)), (Value.slice (s_2_1_a) (s.2.1.length) (s_2_1_c)), (Value.slice (s_2_2_a) (s.2.2.length) (s_2_2_c))].toArray 25) :: [])) (hw1.perm (List.Perm.refl _)) (by simp)), (by rw [((hF.rn2 (hF4.neg hq1))).eq]; exact hout_1)⟩
    refine JL_qg (q_loadA Try.isAgg25 Try.sizeOf25) (k := ?_)
    refine JL_vg (args := [(Value.agg [(Value.slice (s_1_a) (s.1.length) (s_1_c)), (Value.slice (s_2_1_a) (s.2.1.length) (s_2_1_c)), (Value.slice (s_2_2_a) (s.2.2.length) (s_2_2_c))].toArray)]) (c_callA Try.call21) (fun w1 hw1 => rRight_ok w1 (s := s) (h_s_1 := (SlJ.of_base h_s_1) w1 hw1) (n_s_1 := by first | omega | (simp only [List.length_append, List.length_take, List.length_drop, List.length_set, List.length_replicate, List.length_cons, List.length_nil, List.length_map]; omega) | (simp only [List.length_append, List.length_take, List.length_drop, List.length_set, List.length_replicate, List.length_cons, List.length_nil, List.length_map] at *; omega) | decide) (h_s_2_1 := (SlJ.of_base h_s_2_1) w1 hw1) (n_s_2_1 := by first | omega | (simp only [List.length_append, List.length_take, List.length_drop, List.length_set, List.length_replicate, List.length_cons, List.length_nil, List.length_map]; omega) | (simp only [List.length_append, List.length_take, List.length_drop, List.length_set, List.length_replicate, List.length_cons, List.length_nil, List.length_map] at *; omega) | decide) (h_s_2_2 := (SlJ.of_base h_s_2_2) w1 hw1) (n_s_2_2 := by first | omega | (simp only [List.length_append, List.length_take, List.length_drop, List.length_set, List.length_replicate, List.length_cons, List.length_nil, List.length_map]; omega) | (simp only [List.length_append, List.length_take, List.length_drop, List.length_set, List.length_replicate, List.length_cons, List.length_nil, List.length_map] at *; omega) | decide)) (k := ?_)
    refine JL_q (q_pickT) (k := ?_)
    refine JL_nil ?_
    refine JX_seq ?_
    refine J_cond rfl (fun hq2 => ?_) (fun hq2 => ?_)
    rotate_left
    · refine J_exit ?_
      refine JX_seq_exit ?_
      refine JX_inv_exit ?_
      refine JX_block_hit ?_
      refine JX_seq ?_
      refine J_seq ?_
      refine J_reg ?_
      refine JL_q (q_move) (k := ?_)
      refine JL_q (q_assign) (k := ?_)
      refine JL_nil ?_
      refine JX_seq ?_
      refine J_ret ?_
      refine JX_ret Try.results25 (Res.tmp rfl Res.nil) (fun w1 hw1 => ?_)
      exact ⟨out_1a, out_1c, out_1B, (by rw [((hF.rn2 ((hF4.pos hq1).f hq2))).eq] <;> first | rfl | (simp only [List.length_set] <;> rfl)), (fresh_segs (L := out_1B) (R := ((r1, Obj.cells [(Value.slice (s_1_a) (s.1.length) (s_1_c)), (Value.slice (s_2_1_a) (s.2.1.length) (s_2_1_c)), (Value.slice (s_2_2_a) (s.2.2.length) (s_2_2_c))].toArray 25) :: [])) (hw1.perm (List.Perm.refl _)) (by simp)), (by rw [((hF.rn2 ((hF4.pos hq1).f hq2))).eq]; exact hout_1)⟩
    have hfhq2 := rRight_t hq2
    refine J_skip ?_
    refine JX_seq ?_
    refine J_seq ?_
    refine J_block ?_
    refine J_seq ?_
    refine J_reg ?_
    refine JL_q (q_fld FO_25_1) (k := ?_)
    refine JL_q (q_load Try.isAgg23) (k := ?_)
    refine JL_q (q_move) (k := ?_)
    refine JL_q (q_idx (n := s.2.1.length) Try.runUnderlying23 Try.sizeOf4 i_2 (SlJ.of_base h_s_2_1) (gD (by first | omega | (simp only [List.length_set]; omega) | (simp only [List.length_append, List.length_take, List.length_drop, List.length_set, List.length_replicate, List.length_cons, List.length_nil, List.length_map]; omega))) (by first | rfl | simp)) (k := ?_)
    refine JL_q (q_loadE Try.isAgg4 i_2 0 (SlJ.of_base h_s_2_1) (gD (by first | omega | (simp only [List.length_set]; omega) | (simp only [List.length_append, List.length_take, List.length_drop, List.length_set, List.length_replicate, List.length_cons, List.length_nil, List.length_map]; omega)))) (k := ?_)
    refine JL_nil ?_
    refine JX_seq ?_
    refine J_cond rfl (fun hq3 => ?_) (fun hq3 => ?_)
    rotate_left
    · refine J_skip ?_
      refine JX_block ?_
      refine JX_seq ?_
      refine J_reg ?_
      refine JL_q (q_move) (k := ?_)
      refine JL_q (q_add) (k := ?_)
      refine JL_q (q_assign) (k := ?_)
      refine JL_nil ?_
      exact JX_inv6 n_3 out_1 out_1a out_1c out_1B (i_2 + 1) ⟨by omega, (((hF4.pos hq1).t hq2).f hq3), hout_1, (by first | omega | (simp only [List.length_append, List.length_take, List.length_drop, List.length_set, List.length_replicate, List.length_cons, List.length_nil, List.length_map]; omega) | (simp only [List.length_append, List.length_take, List.length_drop, List.length_set, List.length_replicate, List.length_cons, List.length_nil, List.length_map] at *; omega)), (by first | omega | (simp only [List.length_append, List.length_take, List.length_drop, List.length_set, List.length_replicate, List.length_cons, List.length_nil, List.length_map]; omega) | (simp only [List.length_append, List.length_take, List.length_drop, List.length_set, List.length_replicate, List.length_cons, List.length_nil, List.length_map] at *; omega))⟩ (Nat.lt_succ_self _) (by repeat (first | exact SubE.nil | refine SubE.cons rfl ?_)) (List.Perm.refl _)
    refine J_reg ?_
    refine JL_q (q_move) (k := ?_)
    refine JL_q (q_move) (k := ?_)
    refine JL_q (q_fld FO_25_0) (k := ?_)
    refine JL_q (q_load Try.isAgg22) (k := ?_)
    refine JL_q (q_move) (k := ?_)
    refine JL_q (q_idx (n := s.1.length) Try.runUnderlying22 Try.sizeOf3 i_2 (SlJ.of_base h_s_1) (gD (by first | omega | (simp only [List.length_set]; omega) | (simp only [List.length_append, List.length_take, List.length_drop, List.length_set, List.length_replicate, List.length_cons, List.length_nil, List.length_map]; omega))) (by first | rfl | simp)) (k := ?_)
    refine JL_q (q_loadE Try.isAgg3 i_2 0 (SlJ.of_base h_s_1) (gD (by first | omega | (simp only [List.length_set]; omega) | (simp only [List.length_append, List.length_take, List.length_drop, List.length_set, List.length_replicate, List.length_cons, List.length_nil, List.length_map]; omega)))) (k := ?_)
    refine JL_q (q_build (cs := [_, _]) Try.zeroValue27 PL_27) (k := ?_)
    refine JL_a noMk (a_bslice (l := [_, _]) Try.runUnderlying38 Try.sizeOf27 Try.zeroValue27) (k := fun r2 hr2 => ?_)
    refine JL_append (out_1 ++ ([(((i_2 : Nat) : Int), (s.1.getD i_2 default))] : List (Int × Int))) rfl TY_27 Try.underlying38 eH_ok hout_1 ((List.Perm.cons _ (List.Perm.refl _)).trans List.perm_middle.symm) (SlJ.lit (xs := ([(((i_2 : Nat) : Int), (s.1.getD i_2 default))] : List (Int × Int))) eH_ok) ⟨by omega, by omega⟩ (n := out_1.length) (m := 1) (k := fun ax1 cx1 Bx1 hox1 => ?_)
    refine JL_q (q_assign) (k := ?_)
    refine JL_nil ?_
    refine JX_block ?_
    refine JX_seq ?_
    refine J_reg ?_
    refine JL_q (q_move) (k := ?_)
    refine JL_q (q_add) (k := ?_)
    refine JL_q (q_assign) (k := ?_)
    refine JL_nil ?_
    refine JX_permL (Bx1 ++ ((r1, Obj.cells [(Value.slice (s_1_a) (s.1.length) (s_1_c)), (Value.slice (s_2_1_a) (s.2.1.length) (s_2_1_c)), (Value.slice (s_2_2_a) (s.2.2.length) (s_2_2_c))].toArray 25) :: ((r2, Obj.cells [(Value.int .i64 (((i_2 : Nat) : Int))), (Value.int .i64 ((s.1.getD i_2 default)))].toArray 27) :: []))) (((List.Perm.append_left _ ((List.Perm.cons _ (List.Perm.refl _)).trans (List.Perm.swap _ _ _))).trans List.perm_middle).trans ((List.Perm.cons _ (List.Perm.refl _)).trans List.perm_middle.symm)) ?_
    refine JX_subL (Bx1 ++ ((r1, Obj.cells [(Value.slice (s_1_a) (s.1.length) (s_1_c)), (Value.slice (s_2_1_a) (s.2.1.length) (s_2_1_c)), (Value.slice (s_2_2_a) (s.2.2.length) (s_2_2_c))].toArray 25) :: [])) (List.Sublist.append (List.Sublist.refl _) (List.Sublist.cons_cons _ (List.nil_sublist _))) ?_
    exact JX_inv6 n_3 (out_1 ++ ([(((i_2 : Nat) : Int), (s.1.getD i_2 default))] : List (Int × Int))) ax1 cx1 Bx1 (i_2 + 1) ⟨by omega, (((hF4.pos hq1).t hq2).t hq3), hox1, (by first | omega | (simp only [List.length_append, List.length_take, List.length_drop, List.length_set, List.length_replicate, List.length_cons, List.length_nil, List.length_map]; omega) | (simp only [List.length_append, List.length_take, List.length_drop, List.length_set, List.length_replicate, List.length_cons, List.length_nil, List.length_map] at *; omega)), (by first | omega | (simp only [List.length_append, List.length_take, List.length_drop, List.length_set, List.length_replicate, List.length_cons, List.length_nil, List.length_map]; omega) | (simp only [List.length_append, List.length_take, List.length_drop, List.length_set, List.length_replicate, List.length_cons, List.length_nil, List.length_map] at *; omega))⟩ (Nat.lt_succ_self _) (by repeat (first | exact SubE.nil | refine SubE.cons rfl ?_)) (List.Perm.refl _)

theorem rTake_ok (w : World) {s_1_a : Option Addr} {s_1_c : Nat} {s_2_1_a : Option Addr} {s_2_1_c : Nat} {s_2_2_a : Option Addr} {s_2_2_c : Nat} {s : (List Int × List Bool × List Int)} (h_s_1 : Sl w eI 1 s_1_a s.1) (n_s_1 : s.1.length ≤ 1000000) (h_s_2_1 : Sl w eB 1 s_2_1_a s.2.1) (n_s_2_1 : s.2.1.length ≤ 1000000) (h_s_2_2 : Sl w eI 1 s_2_2_a s.2.2) (n_s_2_2 : s.2.2.length ≤ 1000000) : Calls Try.prog 12 (List.toArray [(Value.agg [(Value.slice (s_1_a) (s.1.length) (s_1_c)), (Value.slice (s_2_1_a) (s.2.1.length) (s_2_1_c)), (Value.slice (s_2_2_a) (s.2.2.length) (s_2_2_c))].toArray)]) w fun e w2 => ∃ a1 : Option Addr, ∃ c1 : Nat, ∃ a2 : Option Addr, ∃ c2 : Nat, ∃ a3 : Option Addr, ∃ c3 : Nat, ∃ B1 : Heap, ∃ B2 : Heap, ∃ B3 : Heap, e = .returned (Value.tuple [(Value.agg [(Value.slice (a1) ((rTake s).1.1.length) (c1)), (Value.slice (a2) ((rTake s).1.2.1.length) (c2)), (Value.slice (a3) ((rTake s).1.2.2.length) (c3))].toArray), (Value.agg [(Value.int .i64 (((rTake s).2.1.1))), (Value.int .i64 (((rTake s).2.1.2)))].toArray), (Value.int .i64 (((rTake s).2.2)))].toArray) ∧ Fresh w w2 (B1 ++ (B2 ++ B3)) ∧ OwnB eI 1 3 a1 c1 B1 (rTake s).1.1 ∧ OwnB eB 1 4 a2 c2 B2 (rTake s).1.2.1 ∧ OwnB eI 1 3 a3 c3 B3 (rTake s).1.2.2 := by
  have hF := Is.refl (rTake s)
  refine enter Try.func12 Try.ntmps12 (h := ?_)
  refine J_seq ?_
  refine J_reg ?_
  refine JL_a noMk (a_box (l := [_, _, _])) (k := fun r1 hr1 => ?_)
  refine JL_a noMk (a_alloc (l := [_, _, _]) Try.zeroValue25) (k := fun r2 hr2 => ?_)
  refine JL_a noMk (a_alloc (l := [_, _]) Try.zeroValue27) (k := fun r3 hr3 => ?_)
  refine JL_q (q_assign) (k := ?_)
  refine JL_nil ?_
  refine JX_seq ?_
  refine J_seq ?_
  refine J_seq ?_
  refine J_reg ?_
  refine JL_q (q_loadA Try.isAgg25 Try.sizeOf25) (k := ?_)
  refine JL_v (args := [(Value.agg [(Value.slice (s_1_a) (s.1.length) (s_1_c)), (Value.slice (s_2_1_a) (s.2.1.length) (s_2_1_c)), (Value.slice (s_2_2_a) (s.2.2.length) (s_2_2_c))].toArray)]) (c_callA Try.call21) (fun w1 hw1 => rRight_ok w1 (s := s) (h_s_1 := (SlJ.of_base h_s_1) w1 hw1) (n_s_1 := by first | omega | (simp only [List.length_append, List.length_take, List.length_drop, List.length_set, List.length_replicate, List.length_cons, List.length_nil, List.length_map]; omega) | (simp only [List.length_append, List.length_take, List.length_drop, List.length_set, List.length_replicate, List.length_cons, List.length_nil, List.length_map] at *; omega) | decide) (h_s_2_1 := (SlJ.of_base h_s_2_1) w1 hw1) (n_s_2_1 := by first | omega | (simp only [List.length_append, List.length_take, List.length_drop, List.length_set, List.length_replicate, List.length_cons, List.length_nil, List.length_map]; omega) | (simp only [List.length_append, List.length_take, List.length_drop, List.length_set, List.length_replicate, List.length_cons, List.length_nil, List.length_map] at *; omega) | decide) (h_s_2_2 := (SlJ.of_base h_s_2_2) w1 hw1) (n_s_2_2 := by first | omega | (simp only [List.length_append, List.length_take, List.length_drop, List.length_set, List.length_replicate, List.length_cons, List.length_nil, List.length_map]; omega) | (simp only [List.length_append, List.length_take, List.length_drop, List.length_set, List.length_replicate, List.length_cons, List.length_nil, List.length_map] at *; omega) | decide)) (k := ?_)
  refine JL_q (q_not) (k := ?_)
  refine JL_nil ?_
  refine JX_seq ?_
  refine J_cond rfl (fun hq1 => ?_) (fun hq1 => ?_)
  · refine J_seq ?_
    refine J_reg ?_
    refine JL_q (q_build (cs := [_, _, _]) Try.zeroValue25 PL_25) (k := ?_)
    refine JL_q (q_build (cs := [_, _]) Try.zeroValue27 PL_27) (k := ?_)
    refine JL_s (w_store (l' := [_, _, _]) Try.sizeOf25) (k := ?_)
    refine JL_s (w_store (l' := [_, _]) Try.sizeOf27) (k := ?_)
    refine JL_q (q_assign) (k := ?_)
    refine JL_nil ?_
    refine JX_seq ?_
    refine J_ret ?_
    refine JX_seq_ret ?_
    refine JX_ret Try.results12 (Res.agg Try.isAgg25 Try.sizeOf25 rfl (by repeat (first | exact List.mem_cons_self | apply List.mem_cons_of_mem | apply List.mem_append_right)) rfl (Res.agg Try.isAgg27 Try.sizeOf27 rfl (by repeat (first | exact List.mem_cons_self | apply List.mem_cons_of_mem | apply List.mem_append_right)) rfl (Res.tmp rfl Res.nil))) (fun w1 hw1 => ?_)
    exact ⟨none, 0, none, 0, none, 0, [], [], [], (by rw [((hF.t hq1)).eq] <;> first | rfl | (simp only [List.length_set] <;> rfl)), (hw1.fresh_out.sub (List.nil_sublist _)), (by rw [((hF.t hq1)).eq]; exact OwnB.nil), (by rw [((hF.t hq1)).eq]; exact OwnB.nil), (by rw [((hF.t hq1)).eq]; exact OwnB.nil)⟩
  have hfhq1 := rRight_t (by simpa using hq1)
  refine J_skip ?_
  refine JX_seq ?_
  refine J_seq ?_
  refine J_reg ?_
  refine JL_q (q_fld FO_25_2) (k := ?_)
  refine JL_q (q_load Try.isAgg22) (k := ?_)
  refine JL_q (q_lenS Try.runUnderlying22) (k := ?_)
  refine JL_q (q_sub) (k := ?_)
  refine JL_q (q_assign) (k := ?_)
  refine JL_nil ?_
  refine JX_seq ?_
  refine J_seq ?_
  refine J_seq ?_
  refine J_plan mixed 14 [(true, 0), (true, 1), (true, 2), (true, 3), (true, 4), (true, 5), (true, 6), (true, 7), (true, 8), (true, 9), (true, 10), (true, 11), (true, 12), (true, 13)] (by kernel_rfl) ?_
  refine JD_q (q_move) (k := ?_)
  refine JD_q (q_lss) (k := ?_)
  refine JD_q (q_move) (k := ?_)
  refine JD_dec 19 rfl (fun hq2 => ?_) (fun hq2 => ?_)
  · refine JD_skips 10 rfl ?_
    refine JD_q (q_pickT) (k := ?_)
    refine JD_nil ?_
    refine JL_nil ?_
    refine JX_seq ?_
    refine J_true rfl ?_
    refine J_seq ?_
    refine J_reg ?_
    refine JL_q (q_build (cs := [_, _, _]) Try.zeroValue25 PL_25) (k := ?_)
    refine JL_q (q_build (cs := [_, _]) Try.zeroValue27 PL_27) (k := ?_)
    refine JL_s (w_store (l' := [_, _, _]) Try.sizeOf25) (k := ?_)
    refine JL_s (w_store (l' := [_, _]) Try.sizeOf27) (k := ?_)
    refine JL_q (q_assign) (k := ?_)
    refine JL_nil ?_
    refine JX_seq ?_
    refine J_ret ?_
    refine JX_seq_ret ?_
    refine JX_ret Try.results12 (Res.agg Try.isAgg25 Try.sizeOf25 rfl (by repeat (first | exact List.mem_cons_self | apply List.mem_cons_of_mem | apply List.mem_append_right)) rfl (Res.agg Try.isAgg27 Try.sizeOf27 rfl (by repeat (first | exact List.mem_cons_self | apply List.mem_cons_of_mem | apply List.mem_append_right)) rfl (Res.tmp rfl Res.nil))) (fun w1 hw1 => ?_)
    exact ⟨none, 0, none, 0, none, 0, [], [], [], (by rw [(((hF.f hq1).pos hq2)).eq] <;> first | rfl | (simp only [List.length_set] <;> rfl)), (hw1.fresh_out.sub (List.nil_sublist _)), (by rw [(((hF.f hq1).pos hq2)).eq]; exact OwnB.nil), (by rw [(((hF.f hq1).pos hq2)).eq]; exact OwnB.nil), (by rw [(((hF.f hq1).pos hq2)).eq]; exact OwnB.nil)⟩
  refine JD_qg (q_fld FO_25_0) (k := ?_)
  refine JD_qg (q_load Try.isAgg22) (k := ?_)
  refine JD_qg (q_fld FO_25_2) (k := ?_)
  refine JD_qg (q_load Try.isAgg22) (k := ?_)
  refine JD_qg (q_move) (k := ?_)
  refine JD_qg (q_idx (n := s.2.2.length) Try.runUnderlying22 Try.sizeOf3 (((((s.2.2.length : Nat) : Int) - 1)).toNat) (SlJ.of_base h_s_2_2) (gD (by first | omega | (simp only [List.length_set]; omega) | (simp only [List.length_append, List.length_take, List.length_drop, List.length_set, List.length_replicate, List.length_cons, List.length_nil, List.length_map]; omega))) (by first | rfl | simp)) (k := ?_)
  refine JD_qg (q_loadE Try.isAgg3 (((((s.2.2.length : Nat) : Int) - 1)).toNat) 0 (SlJ.of_base h_s_2_2) (gD (by first | omega | (simp only [List.length_set]; omega) | (simp only [List.length_append, List.length_take, List.length_drop, List.length_set, List.length_replicate, List.length_cons, List.length_nil, List.length_map]; omega)))) (k := ?_)
  refine JD_qg (q_idx (n := s.1.length) Try.runUnderlying22 Try.sizeOf3 (((s.2.2.getD (((((s.2.2.length : Nat) : Int) - 1)).toNat) default)).toNat) (SlJ.of_base h_s_1) (gD (by first | omega | (simp only [List.length_set]; omega) | (simp only [List.length_append, List.length_take, List.length_drop, List.length_set, List.length_replicate, List.length_cons, List.length_nil, List.length_map]; omega))) (by first | rfl | simp)) (k := ?_)
  refine JD_qg (q_loadE Try.isAgg3 (((s.2.2.getD (((((s.2.2.length : Nat) : Int) - 1)).toNat) default)).toNat) 0 (SlJ.of_base h_s_1) (gD (by first | omega | (simp only [List.length_set]; omega) | (simp only [List.length_append, List.length_take, List.length_drop, List.length_set, List.length_replicate, List.length_cons, List.length_nil, List.length_map]; omega)))) (k := ?_)
  refine JD_qg (q_eql) (k := ?_)
  refine JD_q (q_pickF) (k := ?_)
  refine JD_nil ?_
  refine JL_nil ?_
  refine JX_seq ?_
  refine J_dec rfl (fun hq3 => ?_) (fun hq3 => ?_)
  · refine J_seq ?_
    refine J_reg ?_
    refine JL_q (q_build (cs := [_, _, _]) Try.zeroValue25 PL_25) (k := ?_)
    refine JL_q (q_build (cs := [_, _]) Try.zeroValue27 PL_27) (k := ?_)
    refine JL_s (w_store (l' := [_, _, _]) Try.sizeOf25) (k := ?_)
    refine JL_s (w_store (l' := [_, _]) Try.sizeOf27) (k := ?_)
    refine JL_q (q_assign) (k := ?_)
    refine JL_nil ?_
    refine JX_seq ?_
    refine J_ret ?_
    refine JX_seq_ret ?_
    refine JX_ret Try.results12 (Res.agg Try.isAgg25 Try.sizeOf25 rfl (by repeat (first | exact List.mem_cons_self | apply List.mem_cons_of_mem | apply List.mem_append_right)) rfl (Res.agg Try.isAgg27 Try.sizeOf27 rfl (by repeat (first | exact List.mem_cons_self | apply List.mem_cons_of_mem | apply List.mem_append_right)) rfl (Res.tmp rfl Res.nil))) (fun w1 hw1 => ?_)
    exact ⟨none, 0, none, 0, none, 0, [], [], [], (by rw [((((hF.f hq1).neg hq2).pos hq3)).eq] <;> first | rfl | (simp only [List.length_set] <;> rfl)), (hw1.fresh_out.sub (List.nil_sublist _)), (by rw [((((hF.f hq1).neg hq2).pos hq3)).eq]; exact OwnB.nil), (by rw [((((hF.f hq1).neg hq2).pos hq3)).eq]; exact OwnB.nil), (by rw [((((hF.f hq1).neg hq2).pos hq3)).eq]; exact OwnB.nil)⟩
  refine J_skip ?_
  refine JX_seq ?_
  refine J_seq ?_
  refine J_reg ?_
  refine JL_q (q_loadA Try.isAgg25 Try.sizeOf25) (k := ?_)
  refine JL_p (args := [(Value.agg [(Value.slice (s_1_a) (s.1.length) (s_1_c)), (Value.slice (s_2_1_a) (s.2.1.length) (s_2_1_c)), (Value.slice (s_2_2_a) (s.2.2.length) (s_2_2_c))].toArray)]) (c_callA Try.call27) (fun w1 hw1 => rOwn_ok2 w1 (s := s) (h_s_1 := (SlJ.of_base h_s_1) w1 hw1) (n_s_1 := by first | omega | (simp only [List.length_append, List.length_take, List.length_drop, List.length_set, List.length_replicate, List.length_cons, List.length_nil, List.length_map]; omega) | (simp only [List.length_append, List.length_take, List.length_drop, List.length_set, List.length_replicate, List.length_cons, List.length_nil, List.length_map] at *; omega) | decide) (h_s_2_1 := (SlJ.of_base h_s_2_1) w1 hw1) (n_s_2_1 := by first | omega | (simp only [List.length_append, List.length_take, List.length_drop, List.length_set, List.length_replicate, List.length_cons, List.length_nil, List.length_map]; omega) | (simp only [List.length_append, List.length_take, List.length_drop, List.length_set, List.length_replicate, List.length_cons, List.length_nil, List.length_map] at *; omega) | decide) (h_s_2_2 := (SlJ.of_base h_s_2_2) w1 hw1) (n_s_2_2 := by first | omega | (simp only [List.length_append, List.length_take, List.length_drop, List.length_set, List.length_replicate, List.length_cons, List.length_nil, List.length_map]; omega) | (simp only [List.length_append, List.length_take, List.length_drop, List.length_set, List.length_replicate, List.length_cons, List.length_nil, List.length_map] at *; omega) | decide)) (k := ?_)
  rintro w1_1 e1_1 w2_1 hw1_1 ⟨a1_1, c1_1, a2_1, c2_1, a3_1, c3_1, B1_1, B2_1, B3_1, he_1, hf_1, ho1_1, ho2_1, ho3_1⟩
  refine ⟨_, (B1_1 ++ (B2_1 ++ (B3_1 ++ ((r3, Obj.cells [(Value.int .i64 (0)), (Value.int .i64 (0))].toArray 27) :: ((r2, Obj.cells [(Value.slice (none) (0) (0)), (Value.slice (none) (0) (0)), (Value.slice (none) (0) (0))].toArray 25) :: ((r1, Obj.cells [(Value.slice (s_1_a) (s.1.length) (s_1_c)), (Value.slice (s_2_1_a) (s.2.1.length) (s_2_1_c)), (Value.slice (s_2_2_a) (s.2.2.length) (s_2_2_c))].toArray 25) :: [])))))), he_1, (hw1_1.fresh hf_1).perm (List.Perm.of_eq (by first | (simp only [List.append_assoc]; done) | (simp only [List.append_assoc, List.nil_append, List.cons_append]; done) | rfl)), ?_⟩
  refine JL_a noMk (a_alloc (l := [_, _, _]) Try.zeroValue25) (k := fun r4 hr4 => ?_)
  refine JL_s (w_store (l' := [_, _, _]) Try.sizeOf25) (k := ?_)
  refine JL_nil ?_
  refine JX_seq ?_
  refine J_seq ?_
  refine J_reg ?_
  refine JL_q (q_fld FO_25_2) (k := ?_)
  refine JL_q (q_load Try.isAgg22) (k := ?_)
  refine JL_q (q_move) (k := ?_)
  refine JL_q (q_idx (n := (s).2.2.length) Try.runUnderlying22 Try.sizeOf3 (((((s.2.2.length : Nat) : Int) - 1)).toNat) (ho3_1.slj eI_ok) (gD (by first | omega | (simp only [List.length_set]; omega) | (simp only [List.length_append, List.length_take, List.length_drop, List.length_set, List.length_replicate, List.length_cons, List.length_nil, List.length_map]; omega))) (by first | rfl | simp)) (k := ?_)
  refine JL_q (q_loadE Try.isAgg3 (((((s.2.2.length : Nat) : Int) - 1)).toNat) 0 (ho3_1.slj eI_ok) (gD (by first | omega | (simp only [List.length_set]; omega) | (simp only [List.length_append, List.length_take, List.length_drop, List.length_set, List.length_replicate, List.length_cons, List.length_nil, List.length_map]; omega)))) (k := ?_)
  refine JL_q (q_assign) (k := ?_)
  refine JL_nil ?_
  refine JX_seq ?_
  refine J_seq ?_
  refine J_reg ?_
  refine JL_q (q_fld FO_25_2) (k := ?_)
  refine JL_q (q_load Try.isAgg22) (k := ?_)
  refine JL_q (q_move) (k := ?_)
  have hl4 : (((s).2.2).take (((((s.2.2.length : Nat) : Int) - 1)).toNat)).length = ((((s.2.2.length : Nat) : Int) - 1)).toNat := by rw [List.length_take]; omega
  have hl4c := ho3_1.le'
  refine JL_q (q_sliceHi' (((s).2.2).take (((((s.2.2.length : Nat) : Int) - 1)).toNat)).length Try.runUnderlying22 (fun w => ⟨_, Try.sizeOf3 w⟩) (hm := by omega) (hi := by omega)) (k := ?_)
  refine JL_q (q_fld FO_25_2) (k := ?_)
  refine JL_s (w_store (l' := [_, _, _]) Try.sizeOf22) (k := ?_)
  refine JL_nil ?_
  refine JX_seq ?_
  refine J_seq ?_
  refine J_reg ?_
  refine JL_q (q_fld FO_25_1) (k := ?_)
  refine JL_q (q_load Try.isAgg23) (k := ?_)
  refine JL_q (q_move) (k := ?_)
  refine JL_q (q_idx (n := (s).2.1.length) Try.runUnderlying23 Try.sizeOf4 (((((s).2.2).getD (((((s.2.2.length : Nat) : Int) - 1)).toNat) default)).toNat) (ho2_1.slj eB_ok) (gD (by first | omega | (simp only [List.length_set]; omega) | (simp only [List.length_append, List.length_take, List.length_drop, List.length_set, List.length_replicate, List.length_cons, List.length_nil, List.length_map]; omega))) (by first | rfl | simp)) (k := ?_)
  refine JL_storeE (((((s).2.2).getD (((((s.2.2.length : Nat) : Int) - 1)).toNat) default)).toNat) true Try.sizeOf4 eB_ok ho2_1 ((List.Perm.cons _ ((List.Perm.append_left _ (List.Perm.refl _)).trans (perm_seg _ _ _))).trans List.perm_middle.symm) (by first | omega | (simp only [List.length_set]; omega)) (k := fun Bs1 hos1 => ?_)
  refine JL_nil ?_
  refine JX_seq ?_
  refine J_seq ?_
  refine J_reg ?_
  refine JL_q (q_fld FO_25_0) (k := ?_)
  refine JL_q (q_load Try.isAgg22) (k := ?_)
  refine JL_q (q_move) (k := ?_)
  refine JL_q (q_idx (n := (s).1.length) Try.runUnderlying22 Try.sizeOf3 (((((s).2.2).getD (((((s.2.2.length : Nat) : Int) - 1)).toNat) default)).toNat) (ho1_1.slj eI_ok) (gD (by first | omega | (simp only [List.length_set]; omega) | (simp only [List.length_append, List.length_take, List.length_drop, List.length_set, List.length_replicate, List.length_cons, List.length_nil, List.length_map]; omega))) (by first | rfl | simp)) (k := ?_)
  refine JL_q (q_loadE Try.isAgg3 (((((s).2.2).getD (((((s.2.2.length : Nat) : Int) - 1)).toNat) default)).toNat) 0 (ho1_1.slj eI_ok) (gD (by first | omega | (simp only [List.length_set]; omega) | (simp only [List.length_append, List.length_take, List.length_drop, List.length_set, List.length_replicate, List.length_cons, List.length_nil, List.length_map]; omega)))) (k := ?_)
  refine JL_q (q_add) (k := ?_)
  refine JL_q (q_idx (n := (s).1.length) Try.runUnderlying22 Try.sizeOf3 (((((s).2.2).getD (((((s.2.2.length : Nat) : Int) - 1)).toNat) default)).toNat) (ho1_1.slj eI_ok) (gD (by first | omega | (simp only [List.length_set]; omega) | (simp only [List.length_append, List.length_take, List.length_drop, List.length_set, List.length_replicate, List.length_cons, List.length_nil, List.length_map]; omega))) (by first | rfl | simp)) (k := ?_)
  refine JL_storeE (((((s).2.2).getD (((((s.2.2.length : Nat) : Int) - 1)).toNat) default)).toNat) ((((s).1).getD (((((s).2.2).getD (((((s.2.2.length : Nat) : Int) - 1)).toNat) default)).toNat) default) + 1) Try.sizeOf3 eI_ok ho1_1 ((List.Perm.append_left _ ((List.Perm.cons _ (List.Perm.refl _)).trans List.perm_middle.symm)).trans (perm_seg _ _ _)) (by first | omega | (simp only [List.length_set]; omega)) (k := fun Bs2 hos2 => ?_)
  refine JL_nil ?_
  refine JX_seq ?_
  refine J_seq ?_
  refine J_planV (Bs2 ++ (Bs1 ++ ((r4, Obj.cells [(Value.slice (a1_1) ((s).1.length) (c1_1)), (Value.slice (a2_1) ((s).2.1.length) (c2_1)), (Value.slice (a3_1) ((((s).2.2).take (((((s.2.2.length : Nat) : Int) - 1)).toNat)).length) (c3_1))].toArray 25) :: (B3_1 ++ ((r1, Obj.cells [(Value.slice (s_1_a) (s.1.length) (s_1_c)), (Value.slice (s_2_1_a) (s.2.1.length) (s_2_1_c)), (Value.slice (s_2_2_a) (s.2.2.length) (s_2_2_c))].toArray 25) :: []))))) ((r2, Obj.cells [(Value.slice (none) (0) (0)), (Value.slice (none) (0) (0)), (Value.slice (none) (0) (0))].toArray 25) :: ((r3, Obj.cells [(Value.int .i64 (0)), (Value.int .i64 (0))].toArray 27) :: [])) (List.Perm.trans (((List.Perm.append_left _ ((List.Perm.append_left _ ((List.Perm.cons _ ((List.Perm.append_left _ (List.Perm.refl _)).trans List.perm_middle)).trans (List.Perm.swap _ _ _))).trans List.perm_middle)).trans List.perm_middle).trans ((List.Perm.cons _ ((List.Perm.append_left _ ((List.Perm.append_left _ ((List.Perm.cons _ ((List.Perm.append_left _ (List.Perm.refl _)).trans List.perm_middle)).trans (List.Perm.swap _ _ _))).trans List.perm_middle)).trans List.perm_middle)).trans (List.Perm.swap _ _ _))) (List.Perm.of_eq (by first | rfl | (simp only [List.cons_append, List.nil_append, List.append_assoc, List.append_nil]; done) | (simp only [List.cons_append, List.nil_append, List.append_assoc, List.append_nil]; rfl)))) mixed 11 [(true, 0), (true, 1), (true, 2), (true, 3), (true, 4), (true, 5), (true, 6), (true, 7), (false, 8), (false, 9), (true, 10)] (by kernel_rfl) ?_
  refine JD_q (q_loadA Try.isAgg25 Try.sizeOf25) (k := ?_)
  refine JD_q (q_move) (k := ?_)
  refine JD_q (q_fld FO_25_0) (k := ?_)
  refine JD_q (q_load Try.isAgg22) (k := ?_)
  refine JD_q (q_move) (k := ?_)
  refine JD_q (q_idx (n := (s).1.length) Try.runUnderlying22 Try.sizeOf3 (((((s).2.2).getD (((((s.2.2.length : Nat) : Int) - 1)).toNat) default)).toNat) (hos2.slj eI_ok) (gD (by first | omega | (simp only [List.length_set]; omega) | (simp only [List.length_append, List.length_take, List.length_drop, List.length_set, List.length_replicate, List.length_cons, List.length_nil, List.length_map]; omega))) (by first | rfl | simp)) (k := ?_)
  refine JD_q (q_loadE Try.isAgg3 (((((s).2.2).getD (((((s.2.2.length : Nat) : Int) - 1)).toNat) default)).toNat) 0 (hos2.slj eI_ok) (gD (by first | omega | (simp only [List.length_set]; omega) | (simp only [List.length_append, List.length_take, List.length_drop, List.length_set, List.length_replicate, List.length_cons, List.length_nil, List.length_map]; omega)))) (k := ?_)
  refine JD_q (q_build (cs := [_, _]) Try.zeroValue27 PL_27) (k := ?_)
  refine JD_s (V' := ((r2, Obj.cells [(Value.slice (a1_1) ((s).1.length) (c1_1)), (Value.slice (a2_1) ((s).2.1.length) (c2_1)), (Value.slice (a3_1) ((((s).2.2).take (((((s.2.2.length : Nat) : Int) - 1)).toNat)).length) (c3_1))].toArray 25) :: ((r3, Obj.cells [(Value.int .i64 (0)), (Value.int .i64 (0))].toArray 27) :: []))) (w_store (l' := [_, _, _]) Try.sizeOf25) (k := ?_)
  refine JD_s (V' := ((r2, Obj.cells [(Value.slice (a1_1) ((s).1.length) (c1_1)), (Value.slice (a2_1) ((s).2.1.length) (c2_1)), (Value.slice (a3_1) ((((s).2.2).take (((((s.2.2.length : Nat) : Int) - 1)).toNat)).length) (c3_1))].toArray 25) :: ((r3, Obj.cells [(Value.int .i64 ((((s).2.2).getD (((((s.2.2.length : Nat) : Int) - 1)).toNat) default))), (Value.int .i64 (((((s).1).set (((((s).2.2).getD (((((s.2.2.length : Nat) : Int) - 1)).toNat) default)).toNat) ((((s).1).getD (((((s).2.2).getD (((((s.2.2.length : Nat) : Int) - 1)).toNat) default)).toNat) default) + 1)).getD (((((s).2.2).getD (((((s.2.2.length : Nat) : Int) - 1)).toNat) default)).toNat) default)))].toArray 27) :: []))) (w_store (l' := [_, _]) Try.sizeOf27) (k := ?_)
  refine JD_q (q_assign) (k := ?_)
  refine JD_nil ?_
  refine JL_eqL (L' := ((r2, Obj.cells [(Value.slice (a1_1) ((s).1.length) (c1_1)), (Value.slice (a2_1) ((s).2.1.length) (c2_1)), (Value.slice (a3_1) ((((s).2.2).take (((((s.2.2.length : Nat) : Int) - 1)).toNat)).length) (c3_1))].toArray 25) :: ((r3, Obj.cells [(Value.int .i64 ((((s).2.2).getD (((((s.2.2.length : Nat) : Int) - 1)).toNat) default))), (Value.int .i64 (((((s).1).set (((((s).2.2).getD (((((s.2.2.length : Nat) : Int) - 1)).toNat) default)).toNat) ((((s).1).getD (((((s).2.2).getD (((((s.2.2.length : Nat) : Int) - 1)).toNat) default)).toNat) default) + 1)).getD (((((s).2.2).getD (((((s.2.2.length : Nat) : Int) - 1)).toNat) default)).toNat) default)))].toArray 27) :: (Bs2 ++ (Bs1 ++ ((r4, Obj.cells [(Value.slice (a1_1) ((s).1.length) (c1_1)), (Value.slice (a2_1) ((s).2.1.length) (c2_1)), (Value.slice (a3_1) ((((s).2.2).take (((((s.2.2.length : Nat) : Int) - 1)).toNat)).length) (c3_1))].toArray 25) :: (B3_1 ++ ((r1, Obj.cells [(Value.slice (s_1_a) (s.1.length) (s_1_c)), (Value.slice (s_2_1_a) (s.2.1.length) (s_2_1_c)), (Value.slice (s_2_2_a) (s.2.2.length) (s_2_2_c))].toArray 25) :: [])))))))) (by simp only [List.append_nil, List.append_assoc, List.cons_append, List.nil_append]) ?_
  refine JL_nil ?_
  refine JX_seq ?_
  refine J_ret ?_
  refine JX_ret Try.results12 (Res.agg Try.isAgg25 Try.sizeOf25 rfl (by repeat (first | exact List.mem_cons_self | apply List.mem_cons_of_mem | apply List.mem_append_right)) rfl (Res.agg Try.isAgg27 Try.sizeOf27 rfl (by repeat (first | exact List.mem_cons_self | apply List.mem_cons_of_mem | apply List.mem_append_right)) rfl (Res.tmp rfl Res.nil))) (fun w1 hw1 => ?_)
  exact ⟨a1_1, c1_1, a2_1, c2_1, a3_1, c3_1, Bs2, Bs1, B3_1, (by rw [((((hF.f hq1).neg hq2).neg hq3)).eq] <;> first | rfl | (simp only [List.length_set] <;> rfl)), (fresh_segs (L := (Bs2 ++ (Bs1 ++ B3_1))) (R := ((r2, Obj.cells [(Value.slice (a1_1) ((s).1.length) (c1_1)), (Value.slice (a2_1) ((s).2.1.length) (c2_1)), (Value.slice (a3_1) ((((s).2.2).take (((((s.2.2.length : Nat) : Int) - 1)).toNat)).length) (c3_1))].toArray 25) :: ((r3, Obj.cells [(Value.int .i64 ((((s).2.2).getD (((((s.2.2.length : Nat) : Int) - 1)).toNat) default))), (Value.int .i64 (((((s).1).set (((((s).2.2).getD (((((s.2.2.length : Nat) : Int) - 1)).toNat) default)).toNat) ((((s).1).getD (((((s).2.2).getD (((((s.2.2.length : Nat) : Int) - 1)).toNat) default)).toNat) default) + 1)).getD (((((s).2.2).getD (((((s.2.2.length : Nat) : Int) - 1)).toNat) default)).toNat) default)))].toArray 27) :: ((r4, Obj.cells [(Value.slice (a1_1) ((s).1.length) (c1_1)), (Value.slice (a2_1) ((s).2.1.length) (c2_1)), (Value.slice (a3_1) ((((s).2.2).take (((((s.2.2.length : Nat) : Int) - 1)).toNat)).length) (c3_1))].toArray 25) :: ((r1, Obj.cells [(Value.slice (s_1_a) (s.1.length) (s_1_c)), (Value.slice (s_2_1_a) (s.2.1.length) (s_2_1_c)), (Value.slice (s_2_2_a) (s.2.2.length) (s_2_2_c))].toArray 25) :: []))))) (hw1.perm ((((List.Perm.cons _ ((List.Perm.cons _ ((List.Perm.append_left _ ((List.Perm.append_left _ ((List.Perm.cons _ (List.Perm.refl _)).trans List.perm_middle.symm)).trans (perm_seg _ _ _))).trans (perm_seg _ _ _))).trans List.perm_middle.symm)).trans List.perm_middle.symm).trans ((List.Perm.append_left _ ((List.Perm.cons _ ((List.Perm.cons _ ((List.Perm.append_left _ (List.Perm.refl _)).trans (perm_seg _ _ _))).trans List.perm_middle.symm)).trans List.perm_middle.symm)).trans (perm_seg _ _ _))).trans ((List.Perm.append_left _ ((List.Perm.append_left _ ((List.Perm.cons _ ((List.Perm.cons _ (List.Perm.refl _)).trans List.perm_middle.symm)).trans List.perm_middle.symm)).trans (perm_seg _ _ _))).trans (perm_seg _ _ _)))) (by simp)), (by rw [((((hF.f hq1).neg hq2).neg hq3)).eq]; exact hos2), (by rw [((((hF.f hq1).neg hq2).neg hq3)).eq]; exact hos1), (by rw [((((hF.f hq1).neg hq2).neg hq3)).eq]; exact (ho3_1.take eI_ok (((((s.2.2.length : Nat) : Int) - 1)).toNat)))⟩

theorem rGive_ok (w : World) {s_1_a : Option Addr} {s_1_c : Nat} {s_2_1_a : Option Addr} {s_2_1_c : Nat} {s_2_2_a : Option Addr} {s_2_2_c : Nat} {s : (List Int × List Bool × List Int)} {h : (Int × Int)} (h_s_1 : Sl w eI 1 s_1_a s.1) (n_s_1 : s.1.length ≤ 1000000) (h_s_2_1 : Sl w eB 1 s_2_1_a s.2.1) (n_s_2_1 : s.2.1.length ≤ 1000000) (h_s_2_2 : Sl w eI 1 s_2_2_a s.2.2) (n_s_2_2 : s.2.2.length ≤ 1000000) : Calls Try.prog 14 (List.toArray [(Value.agg [(Value.slice (s_1_a) (s.1.length) (s_1_c)), (Value.slice (s_2_1_a) (s.2.1.length) (s_2_1_c)), (Value.slice (s_2_2_a) (s.2.2.length) (s_2_2_c))].toArray), (Value.agg [(Value.int .i64 (h.1)), (Value.int .i64 (h.2))].toArray)]) w fun e w2 => ∃ a1 : Option Addr, ∃ c1 : Nat, ∃ a2 : Option Addr, ∃ c2 : Nat, ∃ a3 : Option Addr, ∃ c3 : Nat, ∃ B1 : Heap, ∃ B2 : Heap, ∃ B3 : Heap, e = .returned (Value.tuple [(Value.agg [(Value.slice (a1) ((rGive s h).1.1.length) (c1)), (Value.slice (a2) ((rGive s h).1.2.1.length) (c2)), (Value.slice (a3) ((rGive s h).1.2.2.length) (c3))].toArray), (Value.int .i64 (((rGive s h).2)))].toArray) ∧ Fresh w w2 (B1 ++ (B2 ++ B3)) ∧ OwnB eI 1 3 a1 c1 B1 (rGive s h).1.1 ∧ OwnB eB 1 4 a2 c2 B2 (rGive s h).1.2.1 ∧ OwnB eI 1 3 a3 c3 B3 (rGive s h).1.2.2 := by
  have hF := Is.refl (rGive s h)
  refine enter Try.func14 Try.ntmps14 (h := ?_)
  refine J_seq ?_
  refine J_reg ?_
  refine JL_a noMk (a_box (l := [_, _, _])) (k := fun r1 hr1 => ?_)
  refine JL_a noMk (a_box (l := [_, _])) (k := fun r2 hr2 => ?_)
  refine JL_a noMk (a_alloc (l := [_, _, _]) Try.zeroValue25) (k := fun r3 hr3 => ?_)
  refine JL_q (q_assign) (k := ?_)
  refine JL_nil ?_
  refine JX_seq ?_
  refine J_seq ?_
  refine J_seq ?_
  refine J_reg ?_
  refine JL_q (q_loadA Try.isAgg25 Try.sizeOf25) (k := ?_)
  refine JL_v (args := [(Value.agg [(Value.slice (s_1_a) (s.1.length) (s_1_c)), (Value.slice (s_2_1_a) (s.2.1.length) (s_2_1_c)), (Value.slice (s_2_2_a) (s.2.2.length) (s_2_2_c))].toArray)]) (c_callA Try.call21) (fun w1 hw1 => rRight_ok w1 (s := s) (h_s_1 := (SlJ.of_base h_s_1) w1 hw1) (n_s_1 := by first | omega | (simp only [List.length_append, List.length_take, List.length_drop, List.length_set, List.length_replicate, List.length_cons, List.length_nil, List.length_map]; omega) | (simp only [List.length_append, List.length_take, List.length_drop, List.length_set, List.length_replicate, List.length_cons, List.length_nil, List.length_map] at *; omega) | decide) (h_s_2_1 := (SlJ.of_base h_s_2_1) w1 hw1) (n_s_2_1 := by first | omega | (simp only [List.length_append, List.length_take, List.length_drop, List.length_set, List.length_replicate, List.length_cons, List.length_nil, List.length_map]; omega) | (simp only [List.length_append, List.length_take, List.length_drop, List.length_set, List.length_replicate, List.length_cons, List.length_nil, List.length_map] at *; omega) | decide) (h_s_2_2 := (SlJ.of_base h_s_2_2) w1 hw1) (n_s_2_2 := by first | omega | (simp only [List.length_append, List.length_take, List.length_drop, List.length_set, List.length_replicate, List.length_cons, List.length_nil, List.length_map]; omega) | (simp only [List.length_append, List.length_take, List.length_drop, List.length_set, List.length_replicate, List.length_cons, List.length_nil, List.length_map] at *; omega) | decide)) (k := ?_)
  refine JL_q (q_not) (k := ?_)
  refine JL_nil ?_
  refine JX_seq ?_
  refine J_cond rfl (fun hq1 => ?_) (fun hq1 => ?_)
  · refine J_seq ?_
    refine J_reg ?_
    refine JL_q (q_build (cs := [_, _, _]) Try.zeroValue25 PL_25) (k := ?_)
    refine JL_s (w_store (l' := [_, _, _]) Try.sizeOf25) (k := ?_)
    refine JL_q (q_assign) (k := ?_)
    refine JL_nil ?_
    refine JX_seq ?_
    refine J_ret ?_
    refine JX_seq_ret ?_
    refine JX_ret Try.results14 (Res.agg Try.isAgg25 Try.sizeOf25 rfl (by repeat (first | exact List.mem_cons_self | apply List.mem_cons_of_mem | apply List.mem_append_right)) rfl (Res.tmp rfl Res.nil)) (fun w1 hw1 => ?_)
    exact ⟨none, 0, none, 0, none, 0, [], [], [], (by rw [((hF.t hq1)).eq] <;> first | rfl | (simp only [List.length_set] <;> rfl)), (hw1.fresh_out.sub (List.nil_sublist _)), (by rw [((hF.t hq1)).eq]; exact OwnB.nil), (by rw [((hF.t hq1)).eq]; exact OwnB.nil), (by rw [((hF.t hq1)).eq]; exact OwnB.nil)⟩
  have hfhq1 := rRight_t (by simpa using hq1)
  refine J_skip ?_
  refine JX_seq ?_
  refine J_seq ?_
  refine J_seq ?_
  refine J_reg ?_
  refine JL_q (q_loadA Try.isAgg25 Try.sizeOf25) (k := ?_)
  refine JL_q (q_loadA Try.isAgg27 Try.sizeOf27) (k := ?_)
  refine JL_v (args := [(Value.agg [(Value.slice (s_1_a) (s.1.length) (s_1_c)), (Value.slice (s_2_1_a) (s.2.1.length) (s_2_1_c)), (Value.slice (s_2_2_a) (s.2.2.length) (s_2_2_c))].toArray), (Value.agg [(Value.int .i64 (h.1)), (Value.int .i64 (h.2))].toArray)]) (c_callA Try.call23) (fun w1 hw1 => rValid_ok w1 (s := s) (h := h) (h_s_1 := (SlJ.of_base h_s_1) w1 hw1) (n_s_1 := by first | omega | (simp only [List.length_append, List.length_take, List.length_drop, List.length_set, List.length_replicate, List.length_cons, List.length_nil, List.length_map]; omega) | (simp only [List.length_append, List.length_take, List.length_drop, List.length_set, List.length_replicate, List.length_cons, List.length_nil, List.length_map] at *; omega) | decide) (h_s_2_1 := (SlJ.of_base h_s_2_1) w1 hw1) (n_s_2_1 := by first | omega | (simp only [List.length_append, List.length_take, List.length_drop, List.length_set, List.length_replicate, List.length_cons, List.length_nil, List.length_map]; omega) | (simp only [List.length_append, List.length_take, List.length_drop, List.length_set, List.length_replicate, List.length_cons, List.length_nil, List.length_map] at *; omega) | decide) (h_s_2_2 := (SlJ.of_base h_s_2_2) w1 hw1) (n_s_2_2 := by first | omega | (simp only [List.length_append, List.length_take, List.length_drop, List.length_set, List.length_replicate, List.length_cons, List.length_nil, List.length_map]; omega) | (simp only [List.length_append, List.length_take, List.length_drop, List.length_set, List.length_replicate, List.length_cons, List.length_nil, List.length_map] at *; omega) | decide)) (k := ?_)
  refine JL_q (q_not) (k := ?_)
  refine JL_nil ?_
  refine JX_seq ?_
  refine J_cond rfl (fun hq2 => ?_) (fun hq2 => ?_)
  · refine J_seq ?_
    refine J_reg ?_
    refine JL_q (q_build (cs := [_, _, _]) Try.zeroValue25 PL_25) (k := ?_)
    refine JL_s (w_store (l' := [_, _, _]) Try.sizeOf25) (k := ?_)
    refine JL_q (q_assign) (k := ?_)
    refine JL_nil ?_
    refine JX_seq ?_
    refine J_ret ?_
    refine JX_seq_ret ?_
    refine JX_ret Try.results14 (Res.agg Try.isAgg25 Try.sizeOf25 rfl (by repeat (first | exact List.mem_cons_self | apply List.mem_cons_of_mem | apply List.mem_append_right)) rfl (Res.tmp rfl Res.nil)) (fun w1 hw1 => ?_)
    exact ⟨none, 0, none, 0, none, 0, [], [], [], (by rw [(((hF.f hq1).t hq2)).eq] <;> first | rfl | (simp only [List.length_set] <;> rfl)), (hw1.fresh_out.sub (List.nil_sublist _)), (by rw [(((hF.f hq1).t hq2)).eq]; exact OwnB.nil), (by rw [(((hF.f hq1).t hq2)).eq]; exact OwnB.nil), (by rw [(((hF.f hq1).t hq2)).eq]; exact OwnB.nil)⟩
  have hfhq2 := rValid_t (by simpa using hq2)
  refine J_skip ?_
  refine JX_seq ?_
  refine J_seq ?_
  refine J_reg ?_
  refine JL_q (q_loadA Try.isAgg25 Try.sizeOf25) (k := ?_)
  refine JL_p (args := [(Value.agg [(Value.slice (s_1_a) (s.1.length) (s_1_c)), (Value.slice (s_2_1_a) (s.2.1.length) (s_2_1_c)), (Value.slice (s_2_2_a) (s.2.2.length) (s_2_2_c))].toArray)]) (c_callA Try.call27) (fun w1 hw1 => rOwn_ok2 w1 (s := s) (h_s_1 := (SlJ.of_base h_s_1) w1 hw1) (n_s_1 := by first | omega | (simp only [List.length_append, List.length_take, List.length_drop, List.length_set, List.length_replicate, List.length_cons, List.length_nil, List.length_map]; omega) | (simp only [List.length_append, List.length_take, List.length_drop, List.length_set, List.length_replicate, List.length_cons, List.length_nil, List.length_map] at *; omega) | decide) (h_s_2_1 := (SlJ.of_base h_s_2_1) w1 hw1) (n_s_2_1 := by first | omega | (simp only [List.length_append, List.length_take, List.length_drop, List.length_set, List.length_replicate, List.length_cons, List.length_nil, List.length_map]; omega) | (simp only [List.length_append, List.length_take, List.length_drop, List.length_set, List.length_replicate, List.length_cons, List.length_nil, List.length_map] at *; omega) | decide) (h_s_2_2 := (SlJ.of_base h_s_2_2) w1 hw1) (n_s_2_2 := by first | omega | (simp only [List.length_append, List.length_take, List.length_drop, List.length_set, List.length_replicate, List.length_cons, List.length_nil, List.length_map]; omega) | (simp only [List.length_append, List.length_take, List.length_drop, List.length_set, List.length_replicate, List.length_cons, List.length_nil, List.length_map] at *; omega) | decide)) (k := ?_)
  rintro w1_1 e1_1 w2_1 hw1_1 ⟨a1_1, c1_1, a2_1, c2_1, a3_1, c3_1, B1_1, B2_1, B3_1, he_1, hf_1, ho1_1, ho2_1, ho3_1⟩
  refine ⟨_, (B1_1 ++ (B2_1 ++ (B3_1 ++ ((r3, Obj.cells [(Value.slice (none) (0) (0)), (Value.slice (none) (0) (0)), (Value.slice (none) (0) (0))].toArray 25) :: ((r2, Obj.cells [(Value.int .i64 (h.1)), (Value.int .i64 (h.2))].toArray 27) :: ((r1, Obj.cells [(Value.slice (s_1_a) (s.1.length) (s_1_c)), (Value.slice (s_2_1_a) (s.2.1.length) (s_2_1_c)), (Value.slice (s_2_2_a) (s.2.2.length) (s_2_2_c))].toArray 25) :: [])))))), he_1, (hw1_1.fresh hf_1).perm (List.Perm.of_eq (by first | (simp only [List.append_assoc]; done) | (simp only [List.append_assoc, List.nil_append, List.cons_append]; done) | rfl)), ?_⟩
  refine JL_a noMk (a_alloc (l := [_, _, _]) Try.zeroValue25) (k := fun r4 hr4 => ?_)
  refine JL_s (w_store (l' := [_, _, _]) Try.sizeOf25) (k := ?_)
  refine JL_nil ?_
  refine JX_seq ?_
  refine J_seq ?_
  refine J_reg ?_
  refine JL_q (q_fld FO_25_1) (k := ?_)
  refine JL_q (q_load Try.isAgg23) (k := ?_)
  refine JL_q (q_fld FO_27_0) (k := ?_)
  refine JL_q (q_load Try.isAgg3) (k := ?_)
  refine JL_q (q_idx (n := (s).2.1.length) Try.runUnderlying23 Try.sizeOf4 ((h.1).toNat) (ho2_1.slj eB_ok) (gD (by first | omega | (simp only [List.length_set]; omega) | (simp only [List.length_append, List.length_take, List.length_drop, List.length_set, List.length_replicate, List.length_cons, List.length_nil, List.length_map]; omega))) (by first | rfl | simp)) (k := ?_)
  refine JL_storeE ((h.1).toNat) false Try.sizeOf4 eB_ok ho2_1 ((List.Perm.cons _ ((List.Perm.append_left _ (List.Perm.refl _)).trans (perm_seg _ _ _))).trans List.perm_middle.symm) (by first | omega | (simp only [List.length_set]; omega)) (k := fun Bs1 hos1 => ?_)
  refine JL_nil ?_
  refine JX_seq ?_
  refine J_seq ?_
  refine J_reg ?_
  refine JL_q (q_fld FO_25_2) (k := ?_)
  refine JL_q (q_load Try.isAgg22) (k := ?_)
  refine JL_q (q_fld FO_27_0) (k := ?_)
  refine JL_q (q_load Try.isAgg3) (k := ?_)
  refine JL_a noMk (a_bslice (l := [_]) Try.runUnderlying22 Try.sizeOf3 Try.zeroValue3) (k := fun r5 hr5 => ?_)
  refine JL_append (((s).2.2) ++ ([h.1] : List Int)) rfl TY_3 Try.underlying22 eI_ok ho3_1 ((List.Perm.cons _ ((List.Perm.append_left _ ((List.Perm.cons _ ((List.Perm.append_left _ (List.Perm.refl _)).trans (perm_seg _ _ _))).trans List.perm_middle.symm)).trans (perm_seg _ _ _))).trans List.perm_middle.symm) (SlJ.lit (xs := ([h.1] : List Int)) eI_ok) ⟨by omega, by omega⟩ (n := (s).2.2.length) (m := 1) (k := fun ax1 cx1 Bx1 hox1 => ?_)
  refine JL_q (q_fld FO_25_2) (k := ?_)
  refine JL_s (w_store (l' := [_, _, _]) Try.sizeOf22) (k := ?_)
  refine JL_nil ?_
  refine JX_seq ?_
  refine J_seq ?_
  refine J_reg ?_
  refine JL_q (q_loadA Try.isAgg25 Try.sizeOf25) (k := ?_)
  refine JL_s (w_store (l' := [_, _, _]) Try.sizeOf25) (k := ?_)
  refine JL_q (q_assign) (k := ?_)
  refine JL_nil ?_
  refine JX_seq ?_
  refine J_ret ?_
  refine JX_ret Try.results14 (Res.agg Try.isAgg25 Try.sizeOf25 rfl (by repeat (first | exact List.mem_cons_self | apply List.mem_cons_of_mem | apply List.mem_append_right)) rfl (Res.tmp rfl Res.nil)) (fun w1 hw1 => ?_)
  exact ⟨a1_1, c1_1, a2_1, c2_1, ax1, cx1, B1_1, Bs1, Bx1, (by rw [(((hF.f hq1).f hq2)).eq] <;> first | rfl | (simp only [List.length_set] <;> rfl)), (fresh_segs (L := (B1_1 ++ (Bs1 ++ Bx1))) (R := ((r5, Obj.cells [(Value.int .i64 (h.1))].toArray 3) :: ((r4, Obj.cells [(Value.slice (a1_1) ((s).1.length) (c1_1)), (Value.slice (a2_1) ((s).2.1.length) (c2_1)), (Value.slice (ax1) ((((s).2.2) ++ ([h.1] : List Int)).length) (cx1))].toArray 25) :: ((r3, Obj.cells [(Value.slice (a1_1) ((s).1.length) (c1_1)), (Value.slice (a2_1) ((s).2.1.length) (c2_1)), (Value.slice (ax1) ((((s).2.2) ++ ([h.1] : List Int)).length) (cx1))].toArray 25) :: ((r2, Obj.cells [(Value.int .i64 (h.1)), (Value.int .i64 (h.2))].toArray 27) :: ((r1, Obj.cells [(Value.slice (s_1_a) (s.1.length) (s_1_c)), (Value.slice (s_2_1_a) (s.2.1.length) (s_2_1_c)), (Value.slice (s_2_2_a) (s.2.2.length) (s_2_2_c))].toArray 25) :: [])))))) (hw1.perm (((List.Perm.refl _).trans ((List.Perm.append_left _ ((List.Perm.cons _ (List.Perm.refl _)).trans List.perm_middle.symm)).trans (perm_seg _ _ _))).trans ((List.Perm.append_left _ ((List.Perm.append_left _ ((List.Perm.cons _ ((List.Perm.cons _ (List.Perm.refl _)).trans List.perm_middle.symm)).trans List.perm_middle.symm)).trans (perm_seg _ _ _))).trans (perm_seg _ _ _)))) (by simp)), (by rw [(((hF.f hq1).f hq2)).eq]; exact ho1_1), (by rw [(((hF.f hq1).f hq2)).eq]; exact hos1), (by rw [(((hF.f hq1).f hq2)).eq]; exact hox1)⟩

end Go.Proofs.Ytofkflecgnmemaa.Jd
