/- Part of the proofs of this seat: walks and plain facts. No condition. -/
import Derived.Test.YtcmondhpiahchaaGreatDoorProg
import Derived.Test.YtcmondhpiahchaaGreatDoorJKM
import Derived.Test.YtcmondhpiahchaaGreatDoorJKN
import Derived.Test.YtcmondhpiahchaaGreatDoorJMW
import Derived.Test.YtcmondhpiahchaaGreatDoorJCF
namespace Go.Proofs.YtcmondhpiahchaaGreatDoor.Jd
open Go.Proofs
open Go.RowKit (Below)
set_option maxRecDepth 100000
set_option linter.unusedVariables false
set_option linter.unusedSimpArgs false
def eCred (x : Cred) : List Value := [Value.int .i64 (x.id), Value.string (bs x.key), Value.int .i64 (x.frm), Value.int .i64 (x.to)]
theorem eCred_ok : EncOk eCred 4 := ⟨by omega, fun _ => rfl, fun _ => rfl⟩
theorem FO_37_0 : FieldOff Tryz.prog 37 0 0 := fun r k w => by simp [Instr.fieldAt, Instr.sureAddr, fieldPlace, addr_add]
theorem FO_37_1 : FieldOff Tryz.prog 37 1 1 := fun r k w => by simp [Instr.fieldAt, Instr.sureAddr, fieldPlace, addr_add]
theorem FO_37_2 : FieldOff Tryz.prog 37 2 2 := fun r k w => by simp [Instr.fieldAt, Instr.sureAddr, fieldPlace, addr_add]
theorem FO_37_3 : FieldOff Tryz.prog 37 3 3 := fun r k w => by simp [Instr.fieldAt, Instr.sureAddr, fieldPlace, addr_add]
theorem FO_55_0 : FieldOff Tryz.prog 55 0 0 := fun r k w => by simp [Instr.fieldAt, Instr.sureAddr, fieldPlace, addr_add]
theorem FO_75_0 : FieldOff Tryz.prog 75 0 0 := fun r k w => by simp [Instr.fieldAt, Instr.sureAddr, fieldPlace, addr_add]
theorem PL_37 : Places Tryz.prog 37 [(0, 1), (1, 1), (2, 1), (3, 1)] := ⟨_, fun w => Tryz.runUnderlying37 w, fun w => by simp⟩
theorem PL_55 : Places Tryz.prog 55 [(0, 4)] := ⟨_, fun w => Tryz.runUnderlying55 w, fun w => by simp⟩
theorem PL_75 : Places Tryz.prog 75 [(0, 1)] := ⟨_, fun w => Tryz.runUnderlying75 w, fun w => by simp⟩
theorem EQH_37 (a0 b0 : Int) (a1 b1 : Str) (a2 b2 : Int) (a3 b3 : Int) (n : Nat) (w : World) : (Op.equalIn (n + 2) 37 (Value.agg [Value.int .i64 a0, Value.string (bs a1), Value.int .i64 a2, Value.int .i64 a3].toArray) (Value.agg [Value.int .i64 b0, Value.string (bs b1), Value.int .i64 b2, Value.int .i64 b3].toArray)).run Tryz.prog w = .ok (decide (a0 = b0 ∧ a1 = b1 ∧ a2 = b2 ∧ a3 = b3)) w := by
  rw [show n + 2 = (n + 1) + 1 from rfl]
  unfold Op.equalIn
  simp [part, run_eqI (P := Tryz.prog) (t := 3) n .i64 _ _ Tryz.runUnderlying3, run_eqStr (P := Tryz.prog) (t := 9) n _ _ Tryz.runUnderlying9]
  by_cases h0 : a0 = b0 <;> by_cases h1 : a1 = b1 <;> by_cases h2 : a2 = b2 <;> by_cases h3 : a3 = b3 <;> simp_all
theorem EQ_37 (x y : Operand) (a0 b0 : Int) (a1 b1 : Str) (a2 b2 : Int) (a3 b3 : Int) (w : World) : (do eqGuard .eql 37 x y (Value.agg [Value.int .i64 a0, Value.string (bs a1), Value.int .i64 a2, Value.int .i64 a3].toArray) (Value.agg [Value.int .i64 b0, Value.string (bs b1), Value.int .i64 b2, Value.int .i64 b3].toArray); binOp .eql 37 (Value.agg [Value.int .i64 a0, Value.string (bs a1), Value.int .i64 a2, Value.int .i64 a3].toArray) (Value.agg [Value.int .i64 b0, Value.string (bs b1), Value.int .i64 b2, Value.int .i64 b3].toArray) : Sem Value).run Tryz.prog w = .ok (.bool (decide (a0 = b0 ∧ a1 = b1 ∧ a2 = b2 ∧ a3 = b3))) w := by
  have h2 : (binOp .eql 37 (Value.agg [Value.int .i64 a0, Value.string (bs a1), Value.int .i64 a2, Value.int .i64 a3].toArray) (Value.agg [Value.int .i64 b0, Value.string (bs b1), Value.int .i64 b2, Value.int .i64 b3].toArray)).run Tryz.prog w = .ok (.bool (decide (a0 = b0 ∧ a1 = b1 ∧ a2 = b2 ∧ a3 = b3))) w := by
    show (do pure (.bool (← Op.equal 37 _ _)) : Sem Value).run Tryz.prog w = _
    simp only [Sem.run_bind, Op.equal, Op.maxDepth, EQH_37 a0 b0 a1 b1 a2 b2 a3 b3 9998, Result.andThen_ok, Sem.run_pure]
  simp [eqGuard]
  simpa using h2
theorem NE_37 (x y : Operand) (a0 b0 : Int) (a1 b1 : Str) (a2 b2 : Int) (a3 b3 : Int) (w : World) : (do eqGuard .neq 37 x y (Value.agg [Value.int .i64 a0, Value.string (bs a1), Value.int .i64 a2, Value.int .i64 a3].toArray) (Value.agg [Value.int .i64 b0, Value.string (bs b1), Value.int .i64 b2, Value.int .i64 b3].toArray); binOp .neq 37 (Value.agg [Value.int .i64 a0, Value.string (bs a1), Value.int .i64 a2, Value.int .i64 a3].toArray) (Value.agg [Value.int .i64 b0, Value.string (bs b1), Value.int .i64 b2, Value.int .i64 b3].toArray) : Sem Value).run Tryz.prog w = .ok (.bool (decide (¬ (a0 = b0 ∧ a1 = b1 ∧ a2 = b2 ∧ a3 = b3)))) w := by
  have h2 : (binOp .neq 37 (Value.agg [Value.int .i64 a0, Value.string (bs a1), Value.int .i64 a2, Value.int .i64 a3].toArray) (Value.agg [Value.int .i64 b0, Value.string (bs b1), Value.int .i64 b2, Value.int .i64 b3].toArray)).run Tryz.prog w = .ok (.bool (decide (¬ (a0 = b0 ∧ a1 = b1 ∧ a2 = b2 ∧ a3 = b3)))) w := by
    show (do pure (.bool (!(← Op.equal 37 _ _))) : Sem Value).run Tryz.prog w = _
    simp only [Sem.run_bind, Op.equal, Op.maxDepth, EQH_37 a0 b0 a1 b1 a2 b2 a3 b3 9998, Result.andThen_ok, Sem.run_pure]
    congr 2
    simp
  simp [eqGuard]
  simpa using h2
theorem TY_37 : Ty Tryz.prog 37 4 40 (Value.agg [(Value.int .i64 (0)), (Value.string (bs ([] : Str))), (Value.int .i64 (0)), (Value.int .i64 (0))].toArray) := ⟨⟨Tryz.t37, by kernel_rfl, rfl, rfl, rfl⟩, rfl⟩
theorem cIsIn_ok (w : World) {n_ : Int} {least : Int} {most : Int} : Val Tryz.prog 26 [(Value.int .i64 (n_)), (Value.int .i64 (least)), (Value.int .i64 (most))] w (Value.bool ((cIsIn n_ least most))) := by
  have hF := Is.refl (cIsIn n_ least most)
  refine enter Tryz.func26 Tryz.ntmps26 (h := ?_)
  refine J_seq ?_
  refine J_reg ?_
  refine JL_q (q_assign) (k := ?_)
  refine JL_nil ?_
  refine JX_seq ?_
  refine J_seq ?_
  refine J_reg ?_
  refine JL_q (q_move) (k := ?_)
  refine JL_q (q_move) (k := ?_)
  refine JL_q (q_geq) (k := ?_)
  refine JL_q (q_move) (k := ?_)
  refine JL_dec 10 rfl (fun hq1 => ?_) (fun hq1 => ?_)
  rotate_left
  · refine JL_skips 3 rfl ?_
    refine JL_q (q_pickF) (k := ?_)
    refine JL_q (q_assign) (k := ?_)
    refine JL_nil ?_
    refine JX_seq ?_
    refine J_ret ?_
    refine JX_ret Tryz.results26 (Res.tmp rfl Res.nil) (fun w1 hw1 => ?_)
    exact ⟨(by rw [((hF.neg hq1)).eq] <;> first | rfl | (simp only [List.length_set] <;> rfl)), hw1.ext_out⟩
  refine JL_qg (q_move) (k := ?_)
  refine JL_qg (q_move) (k := ?_)
  refine JL_qg (q_leq) (k := ?_)
  refine JL_q (q_pickT) (k := ?_)
  refine JL_q (q_assign) (k := ?_)
  refine JL_nil ?_
  refine JX_seq ?_
  refine J_ret ?_
  refine JX_ret Tryz.results26 (Res.tmp rfl Res.nil) (fun w1 hw1 => ?_)
  exact ⟨(by rw [((hF.pos hq1)).eq] <;> first | rfl | (simp only [List.length_set] <;> rfl)), hw1.ext_out⟩

theorem cIsId_ok (w : World) {c : Cred} : Val Tryz.prog 32 [(Value.agg [(Value.int .i64 (c.id)), (Value.string (bs c.key)), (Value.int .i64 (c.frm)), (Value.int .i64 (c.to))].toArray)] w (Value.bool ((cIsId c))) := by
  have hF := Is.refl (cIsId c)
  refine enter Tryz.func32 Tryz.ntmps32 (h := ?_)
  refine J_seq ?_
  refine J_reg ?_
  refine JL_a noMk (a_box (l := [_, _, _, _])) (k := fun r1 hr1 => ?_)
  refine JL_q (q_assign) (k := ?_)
  refine JL_nil ?_
  refine JX_seq ?_
  refine J_seq ?_
  refine J_reg ?_
  refine JL_q (q_fld FO_55_0) (k := ?_)
  refine JL_q (q_fld FO_37_0) (k := ?_)
  refine JL_q (q_load Tryz.isAgg3) (k := ?_)
  refine JL_v (args := [(Value.int .i64 (c.id)), (Value.int .i64 (1)), (Value.int .i64 (1000000000))]) (c_callA Tryz.call26) (fun w1 hw1 => cIsIn_ok w1 (n_ := c.id) (least := 1) (most := 1000000000)) (k := ?_)
  refine JL_q (q_assign) (k := ?_)
  refine JL_nil ?_
  refine JX_seq ?_
  refine J_ret ?_
  refine JX_ret Tryz.results32 (Res.tmp rfl Res.nil) (fun w1 hw1 => ?_)
  exact ⟨(by rw [(hF).eq] <;> first | rfl | (simp only [List.length_set] <;> rfl)), hw1.ext_out⟩

theorem cIsKey_ok (w : World) {c : Cred} : Val Tryz.prog 33 [(Value.agg [(Value.int .i64 (c.id)), (Value.string (bs c.key)), (Value.int .i64 (c.frm)), (Value.int .i64 (c.to))].toArray)] w (Value.bool ((cIsKey c))) := by
  have hF := Is.refl (cIsKey c)
  refine enter Tryz.func33 Tryz.ntmps33 (h := ?_)
  refine J_seq ?_
  refine J_reg ?_
  refine JL_a noMk (a_box (l := [_, _, _, _])) (k := fun r1 hr1 => ?_)
  refine JL_q (q_assign) (k := ?_)
  refine JL_nil ?_
  refine JX_seq ?_
  refine J_seq ?_
  refine J_reg ?_
  refine JL_q (q_fld FO_55_0) (k := ?_)
  refine JL_q (q_fld FO_37_1) (k := ?_)
  refine JL_q (q_load Tryz.isAgg9) (k := ?_)
  refine JL_v (args := [(Value.string (bs c.key))]) (c_callA Tryz.call47) (fun w1 hw1 => mRight_ok w1 (key := c.key)) (k := ?_)
  refine JL_q (q_assign) (k := ?_)
  refine JL_nil ?_
  refine JX_seq ?_
  refine J_ret ?_
  refine JX_ret Tryz.results33 (Res.tmp rfl Res.nil) (fun w1 hw1 => ?_)
  exact ⟨(by rw [(hF).eq] <;> first | rfl | (simp only [List.length_set] <;> rfl)), hw1.ext_out⟩

theorem cIsSpan_ok (w : World) {c : Cred} : Val Tryz.prog 34 [(Value.agg [(Value.int .i64 (c.id)), (Value.string (bs c.key)), (Value.int .i64 (c.frm)), (Value.int .i64 (c.to))].toArray)] w (Value.bool ((cIsSpan c))) := by
  have hF := Is.refl (cIsSpan c)
  refine enter Tryz.func34 Tryz.ntmps34 (h := ?_)
  refine J_seq ?_
  refine J_reg ?_
  refine JL_a noMk (a_box (l := [_, _, _, _])) (k := fun r1 hr1 => ?_)
  refine JL_q (q_assign) (k := ?_)
  refine JL_nil ?_
  refine JX_seq ?_
  refine J_seq ?_
  refine J_reg ?_
  refine JL_q (q_fld FO_55_0) (k := ?_)
  refine JL_q (q_fld FO_37_2) (k := ?_)
  refine JL_q (q_load Tryz.isAgg3) (k := ?_)
  refine JL_q (q_geq) (k := ?_)
  refine JL_q (q_move) (k := ?_)
  refine JL_dec 7 rfl (fun hq1 => ?_) (fun hq1 => ?_)
  rotate_left
  · refine JL_skips 7 rfl ?_
    refine JL_q (q_pickF) (k := ?_)
    refine JL_q (q_move) (k := ?_)
    refine JL_skips 4 rfl ?_
    refine JL_q (q_pickF) (k := ?_)
    refine JL_q (q_assign) (k := ?_)
    refine JL_nil ?_
    refine JX_seq ?_
    refine J_ret ?_
    refine JX_ret Tryz.results34 (Res.tmp rfl Res.nil) (fun w1 hw1 => ?_)
    exact ⟨(by rw [((hF.neg hq1)).eq] <;> first | rfl | (simp only [List.length_set] <;> rfl)), hw1.ext_out⟩
  refine JL_qg (q_fld FO_55_0) (k := ?_)
  refine JL_qg (q_fld FO_37_2) (k := ?_)
  refine JL_qg (q_load Tryz.isAgg3) (k := ?_)
  refine JL_qg (q_fld FO_55_0) (k := ?_)
  refine JL_qg (q_fld FO_37_3) (k := ?_)
  refine JL_qg (q_load Tryz.isAgg3) (k := ?_)
  refine JL_qg (q_lss) (k := ?_)
  refine JL_q (q_pickT) (k := ?_)
  refine JL_q (q_move) (k := ?_)
  refine JL_dec 16 rfl (fun hq2 => ?_) (fun hq2 => ?_)
  rotate_left
  · refine JL_skips 4 rfl ?_
    refine JL_q (q_pickF) (k := ?_)
    refine JL_q (q_assign) (k := ?_)
    refine JL_nil ?_
    refine JX_seq ?_
    refine J_ret ?_
    refine JX_ret Tryz.results34 (Res.tmp rfl Res.nil) (fun w1 hw1 => ?_)
    exact ⟨(by rw [(((hF.pos hq1).neg hq2)).eq] <;> first | rfl | (simp only [List.length_set] <;> rfl)), hw1.ext_out⟩
  refine JL_qg (q_fld FO_55_0) (k := ?_)
  refine JL_qg (q_fld FO_37_3) (k := ?_)
  refine JL_qg (q_load Tryz.isAgg3) (k := ?_)
  refine JL_qg (q_leq) (k := ?_)
  refine JL_q (q_pickT) (k := ?_)
  refine JL_q (q_assign) (k := ?_)
  refine JL_nil ?_
  refine JX_seq ?_
  refine J_ret ?_
  refine JX_ret Tryz.results34 (Res.tmp rfl Res.nil) (fun w1 hw1 => ?_)
  exact ⟨(by rw [(((hF.pos hq1).pos hq2)).eq] <;> first | rfl | (simp only [List.length_set] <;> rfl)), hw1.ext_out⟩

theorem cHolds_ok (w : World) {c : Cred} {now : Int} : Val Tryz.prog 29 [(Value.agg [(Value.int .i64 (c.id)), (Value.string (bs c.key)), (Value.int .i64 (c.frm)), (Value.int .i64 (c.to))].toArray), (Value.int .i64 (now))] w (Value.bool ((cHolds c now))) := by
  have hF := Is.refl (cHolds c now)
  refine enter Tryz.func29 Tryz.ntmps29 (h := ?_)
  refine J_seq ?_
  refine J_reg ?_
  refine JL_a noMk (a_box (l := [_, _, _, _])) (k := fun r1 hr1 => ?_)
  refine JL_q (q_assign) (k := ?_)
  refine JL_nil ?_
  refine JX_seq ?_
  refine J_seq ?_
  refine J_reg ?_
  refine JL_q (q_fld FO_55_0) (k := ?_)
  refine JL_q (q_fld FO_37_2) (k := ?_)
  refine JL_q (q_load Tryz.isAgg3) (k := ?_)
  refine JL_q (q_move) (k := ?_)
  refine JL_q (q_leq) (k := ?_)
  refine JL_q (q_move) (k := ?_)
  refine JL_dec 10 rfl (fun hq1 => ?_) (fun hq1 => ?_)
  rotate_left
  · refine JL_skips 5 rfl ?_
    refine JL_q (q_pickF) (k := ?_)
    refine JL_q (q_assign) (k := ?_)
    refine JL_nil ?_
    refine JX_seq ?_
    refine J_ret ?_
    refine JX_ret Tryz.results29 (Res.tmp rfl Res.nil) (fun w1 hw1 => ?_)
    exact ⟨(by rw [((hF.neg hq1)).eq] <;> first | rfl | (simp only [List.length_set] <;> rfl)), hw1.ext_out⟩
  refine JL_qg (q_move) (k := ?_)
  refine JL_qg (q_fld FO_55_0) (k := ?_)
  refine JL_qg (q_fld FO_37_3) (k := ?_)
  refine JL_qg (q_load Tryz.isAgg3) (k := ?_)
  refine JL_qg (q_lss) (k := ?_)
  refine JL_q (q_pickT) (k := ?_)
  refine JL_q (q_assign) (k := ?_)
  refine JL_nil ?_
  refine JX_seq ?_
  refine J_ret ?_
  refine JX_ret Tryz.results29 (Res.tmp rfl Res.nil) (fun w1 hw1 => ?_)
  exact ⟨(by rw [((hF.pos hq1)).eq] <;> first | rfl | (simp only [List.length_set] <;> rfl)), hw1.ext_out⟩

theorem cRight_ok (w : World) {l_a : Option Addr} {l_c : Nat} {l : List Cred} (h_l : Sl w eCred 4 l_a l) (n_l : l.length ≤ 1000) : Val Tryz.prog 16 [(Value.slice (l_a) (l.length) (l_c))] w (Value.bool ((cRight l))) := by
  have hF := Is.refl (cRight l)
  refine enter Tryz.func16 Tryz.ntmps16 (h := ?_)
  refine J_seq ?_
  refine J_reg ?_
  refine JL_q (q_assign) (k := ?_)
  refine JL_nil ?_
  refine JX_seq ?_
  refine J_seq ?_
  refine J_reg ?_
  refine JL_a noMk a_map (k := fun r1 hr1 => ?_)
  refine JL_q (q_assign) (k := ?_)
  refine JL_q (q_assign) (k := ?_)
  refine JL_nil ?_
  refine JX_seq ?_
  refine J_seq ?_
  refine J_seq ?_
  refine J_reg ?_
  refine JL_q (q_move) (k := ?_)
  refine JL_q (q_lenS Tryz.runUnderlying22) (k := ?_)
  refine JL_q (q_move) (k := ?_)
  refine JL_nil ?_
  refine JX_seq ?_
  refine J_block ?_
  refine J_loop6 (σ1 := Nat) (σ2 := Nat) (σ3 := Int) (σ4 := List Int) (σ5 := Array MapEntry) (σ6 := Nat) (fun n_4 x_1 last_2 x_3 x_3e x_3k => ((r1, Obj.map x_3e x_3k) :: [])) (fun n_4 x_1 last_2 x_3 x_3e x_3k => [(0, (Value.slice (l_a) (l.length) (l_c))), (2, (Value.bool (false))), (3, (Value.map (some r1))), (4, (Value.int .i64 (last_2))), (8, (Value.slice (l_a) (l.length) (l_c))), (9, (Value.int .i64 (((l.length : Nat) : Int)))), (10, (Value.int .i64 (((x_1 : Nat) : Int))))]) (fun n_4 x_1 last_2 x_3 x_3e x_3k => l.length - x_1 < n_4 ∧ Is (cRight_l0 l (l.length + 1) 0 0 ([] : List Int)) (cRight_l0 l n_4 x_1 last_2 x_3) ∧ MSet (fun x : Int => Value.int .i64 x) x_3e x_3 ∧ x_1 ≤ l.length) (fun n_4 x_1 last_2 x_3 x_3e x_3k => n_4) (l.length + 1) 0 0 ([] : List Int) (#[]) 0 ?_ (by repeat (first | exact SubE.nil | refine SubE.cons rfl ?_)) (List.Perm.refl _) ?_
  · exact ⟨Nat.lt_succ_self _, Is.refl _, MSet.nil, (by first | omega | rfl | (simp; done))⟩
  · rintro (_ | n_4) x_1 last_2 x_3 x_3e x_3k ⟨hm6, hF5, hx_3, hi7⟩
    · omega
    refine J_seq ?_
    refine J_reg ?_
    refine JL_q (q_lss) (k := ?_)
    refine JL_nil ?_
    refine JX_seq ?_
    refine J_seq ?_
    refine J_dec rfl (fun hq1 => ?_) (fun hq1 => ?_)
    · refine J_skip ?_
      refine JX_seq ?_
      refine J_seq ?_
      refine J_block ?_
      refine J_seq ?_
      refine J_reg ?_
      refine JL_q (q_idx (n := l.length) Tryz.runUnderlying22 Tryz.sizeOf37 x_1 (SlJ.of_base h_l) (gD (by first | omega | (simp only [List.length_set]; omega) | (simp only [List.length_append, List.length_take, List.length_drop, List.length_set, List.length_replicate, List.length_cons, List.length_nil, List.length_map, toS_length, toI_length]; omega))) (by first | rfl | simp)) (k := ?_)
      refine JL_q (q_loadEA Tryz.isAgg37 Tryz.sizeOf37 x_1 (SlJ.of_base h_l) (gD (by first | omega | (simp only [List.length_set]; omega) | (simp only [List.length_append, List.length_take, List.length_drop, List.length_set, List.length_replicate, List.length_cons, List.length_nil, List.length_map, toS_length, toI_length]; omega)))) (k := ?_)
      refine JL_a noMk (a_alloc (l := [_, _, _, _]) Tryz.zeroValue37) (k := fun r2 hr2 => ?_)
      refine JL_s (w_store (l' := [_, _, _, _]) Tryz.sizeOf37) (k := ?_)
      refine JL_nil ?_
      refine JX_seq ?_
      refine J_seq ?_
      refine J_seq ?_
      refine J_reg ?_
      refine JL_q (q_move) (k := ?_)
      refine JL_q (q_fld FO_37_0) (k := ?_)
      refine JL_q (q_load Tryz.isAgg3) (k := ?_)
      refine JL_q (q_inSet (xs := x_3) ((l.getD x_1 default).id) keyInt Tryz.runUnderlying59 Tryz.runUnderlying3 Tryz.zeroValue4 hx_3) (k := ?_)
      refine JL_q (q_move) (k := ?_)
      refine JL_dec 18 rfl (fun hq2 => ?_) (fun hq2 => ?_)
      · refine JL_skips 4 rfl ?_
        refine JL_q (q_pickT) (k := ?_)
        refine JL_nil ?_
        refine JX_seq ?_
        refine J_true rfl ?_
        refine J_seq ?_
        refine J_reg ?_
        refine JL_q (q_assign) (k := ?_)
        refine JL_nil ?_
        refine JX_seq ?_
        refine J_ret ?_
        refine JX_seq_ret ?_
        refine JX_block_ret ?_
        refine JX_seq_ret ?_
        refine JX_inv_ret ?_
        refine JX_block_ret ?_
        refine JX_seq_ret ?_
        refine JX_ret Tryz.results16 (Res.tmp rfl Res.nil) (fun w1 hw1 => ?_)
        exact ⟨(by rw [((hF.er3 ((hF5.pos hq1).pos hq2))).eq] <;> first | rfl | (simp only [List.length_set] <;> rfl)), hw1.ext_out⟩
      refine JL_qg (q_fld FO_37_0) (k := ?_)
      refine JL_qg (q_load Tryz.isAgg3) (k := ?_)
      refine JL_qg (q_move) (k := ?_)
      refine JL_qg (q_lss) (k := ?_)
      refine JL_q (q_pickF) (k := ?_)
      refine JL_nil ?_
      refine JX_seq ?_
      refine J_dec rfl (fun hq3 => ?_) (fun hq3 => ?_)
      · refine J_seq ?_
        refine J_reg ?_
        refine JL_q (q_assign) (k := ?_)
        refine JL_nil ?_
        refine JX_seq ?_
        refine J_ret ?_
        refine JX_seq_ret ?_
        refine JX_block_ret ?_
        refine JX_seq_ret ?_
        refine JX_inv_ret ?_
        refine JX_block_ret ?_
        refine JX_seq_ret ?_
        refine JX_ret Tryz.results16 (Res.tmp rfl Res.nil) (fun w1 hw1 => ?_)
        exact ⟨(by rw [((hF.er3 (((hF5.pos hq1).neg hq2).pos hq3))).eq] <;> first | rfl | (simp only [List.length_set] <;> rfl)), hw1.ext_out⟩
      refine J_skip ?_
      refine JX_seq ?_
      refine J_planV ((r2, Obj.cells [(Value.int .i64 (((l.getD x_1 default).id))), (Value.string (bs ((l.getD x_1 default).key))), (Value.int .i64 (((l.getD x_1 default).frm))), (Value.int .i64 (((l.getD x_1 default).to)))].toArray 37) :: []) ((r1, Obj.map x_3e x_3k) :: []) (List.Perm.trans ((List.Perm.cons _ (List.Perm.refl _)).trans (List.Perm.swap _ _ _)) (List.Perm.of_eq (by first | rfl | (simp only [List.cons_append, List.nil_append, List.append_assoc, List.append_nil]; done) | (simp only [List.cons_append, List.nil_append, List.append_assoc, List.append_nil]; rfl)))) mixed 7 [(true, 0), (true, 1), (true, 2), (true, 3), (true, 4), (false, 5), (true, 6)] (by kernel_rfl) ?_
      refine JD_q (q_move) (k := ?_)
      refine JD_q (q_fld FO_37_0) (k := ?_)
      refine JD_q (q_load Tryz.isAgg3) (k := ?_)
      refine JD_q (q_fld FO_37_0) (k := ?_)
      refine JD_q (q_load Tryz.isAgg3) (k := ?_)
      refine JD_sput (xs := x_3) ((l.getD x_1 default).id) keyInt Tryz.runUnderlying59 Tryz.runUnderlying3 hx_3 (by assumption) (List.Perm.refl _) (k := fun em6 km6 hms6 => ?_)
      refine JD_q (q_assign) (k := ?_)
      refine JD_nil ?_
      refine JL_eqL (L' := ((r1, Obj.map em6 km6) :: ((r2, Obj.cells [(Value.int .i64 (((l.getD x_1 default).id))), (Value.string (bs ((l.getD x_1 default).key))), (Value.int .i64 (((l.getD x_1 default).frm))), (Value.int .i64 (((l.getD x_1 default).to)))].toArray 37) :: []))) (by simp only [List.append_nil, List.append_assoc, List.cons_append, List.nil_append]) ?_
      refine JL_nil ?_
      refine JX_block ?_
      refine JX_seq ?_
      refine J_reg ?_
      refine JL_q (q_add) (k := ?_)
      refine JL_q (q_move) (k := ?_)
      refine JL_nil ?_
      refine JX_subL ((r1, Obj.map em6 km6) :: []) (List.Sublist.cons_cons _ (List.nil_sublist _)) ?_
      exact JX_inv6 n_4 (x_1 + 1) ((l.getD x_1 default).id) (x_3 ++ [((l.getD x_1 default).id)]) em6 km6 ⟨by omega, (((hF5.pos hq1).neg hq2).neg hq3), hms6, (by omega)⟩ (Nat.lt_succ_self _) (by repeat (first | exact SubE.nil | refine SubE.cons rfl ?_)) (List.Perm.refl _)
    refine J_exit ?_
    refine JX_seq_exit ?_
    refine JX_inv_exit ?_
    refine JX_block_hit ?_
    refine JX_seq ?_
    refine J_seq ?_
    refine J_reg ?_
    refine JL_q (q_move) (k := ?_)
    refine JL_q (q_lenS Tryz.runUnderlying22) (k := ?_)
    refine JL_q (q_leq) (k := ?_)
    refine JL_q (q_move) (k := ?_)
    refine JL_dec 33 rfl (fun hq4 => ?_) (fun hq4 => ?_)
    rotate_left
    · refine JL_skips 3 rfl ?_
      refine JL_q (q_pickF) (k := ?_)
      refine JL_q (q_assign) (k := ?_)
      refine JL_nil ?_
      refine JX_seq ?_
      refine J_ret ?_
      refine JX_ret Tryz.results16 (Res.tmp rfl Res.nil) (fun w1 hw1 => ?_)
      exact ⟨(by rw [(((hF.ok3 (hF5.neg hq1)).neg hq4)).eq] <;> first | rfl | (simp only [List.length_set] <;> rfl)), hw1.ext_out⟩
    refine JL_qg (q_move) (k := ?_)
    refine JL_ag noMk (a_bslice (l := [_, _, _]) Tryz.runUnderlying78 Tryz.sizeOf61 Tryz.zeroValue61) (k := fun r3 hr3 => ?_)
    refine JL_inlg (args := [(Value.slice (l_a) (l.length) (l_c)), (Value.slice (some ⟨r3, 0, none⟩) (3) (3))]) (c_callA Tryz.call31) Tryz.func31 Tryz.ntmps31 ?_
    refine J_seq ?_
    refine J_reg ?_
    refine JL_q (q_assign) (k := ?_)
    refine JL_nil ?_
    refine JX_seq ?_
    refine J_seq ?_
    refine J_seq ?_
    refine J_reg ?_
    refine JL_q (q_move) (k := ?_)
    refine JL_q (q_lenS Tryz.runUnderlying22) (k := ?_)
    refine JL_q (q_move) (k := ?_)
    refine JL_nil ?_
    refine JX_seq ?_
    refine J_block ?_
    refine J_loop2 (σ1 := Nat) (σ2 := Nat) (fun n_9 x_8 => ((r3, Obj.cells [(Value.func (.func 32) [].toArray [].toArray), (Value.func (.func 33) [].toArray [].toArray), (Value.func (.func 34) [].toArray [].toArray)].toArray 61) :: ((r1, Obj.map x_3e x_3k) :: []))) (fun n_9 x_8 => [(1, (Value.slice (some ⟨r3, 0, none⟩) (3) (3))), (4, (Value.bool (false))), (9, (Value.slice (l_a) (l.length) (l_c))), (10, (Value.int .i64 (((l.length : Nat) : Int)))), (11, (Value.int .i64 (((x_8 : Nat) : Int))))]) (fun n_9 x_8 => l.length - x_8 < n_9 ∧ Is (cRight_l1 l x_1 last_2 x_3 (l.length + 1) 0) (cRight_l1 l x_1 last_2 x_3 n_9 x_8) ∧ x_8 ≤ l.length) (fun n_9 x_8 => n_9) (l.length + 1) 0 ?_ (by repeat (first | exact SubE.nil | refine SubE.cons rfl ?_)) (List.Perm.refl _) ?_
    · exact ⟨Nat.lt_succ_self _, Is.refl _, (by first | omega | rfl | (simp; done))⟩
    · rintro (_ | n_9) x_8 ⟨hm11, hF10, hi12⟩
      · omega
      refine J_seq ?_
      refine J_reg ?_
      refine JL_q (q_lss) (k := ?_)
      refine JL_nil ?_
      refine JX_seq ?_
      refine J_seq ?_
      refine J_dec rfl (fun hq5 => ?_) (fun hq5 => ?_)
      rotate_left
      · refine J_exit ?_
        refine JX_seq_exit ?_
        refine JX_inv_exit ?_
        refine JX_block_hit ?_
        refine JX_seq ?_
        refine J_seq ?_
        refine J_reg ?_
        refine JL_q (q_assign) (k := ?_)
        refine JL_nil ?_
        refine JX_seq ?_
        refine J_ret ?_
        refine JX_retI Tryz.results31 (Res.tmp rfl Res.nil) ?_
        refine JL_q (q_pickT) (k := ?_)
        refine JL_q (q_assign) (k := ?_)
        refine JL_nil ?_
        refine JX_seq ?_
        refine J_ret ?_
        refine JX_ret Tryz.results16 (Res.tmp rfl Res.nil) (fun w1 hw1 => ?_)
        exact ⟨(by rw [((((hF.ok3 (hF5.neg hq1)).pos hq4).ok1 (hF10.neg hq5))).eq] <;> first | rfl | (simp only [List.length_set] <;> rfl)), hw1.ext_out⟩
      refine J_skip ?_
      refine JX_seq ?_
      refine J_seq ?_
      refine J_block ?_
      refine J_seq ?_
      refine J_reg ?_
      refine JL_q (q_idx (n := l.length) Tryz.runUnderlying22 Tryz.sizeOf37 x_8 (SlJ.of_base h_l) (gD (by first | omega | (simp only [List.length_set]; omega) | (simp only [List.length_append, List.length_take, List.length_drop, List.length_set, List.length_replicate, List.length_cons, List.length_nil, List.length_map, toS_length, toI_length]; omega))) (by first | rfl | simp)) (k := ?_)
      refine JL_q (q_loadEA Tryz.isAgg37 Tryz.sizeOf37 x_8 (SlJ.of_base h_l) (gD (by first | omega | (simp only [List.length_set]; omega) | (simp only [List.length_append, List.length_take, List.length_drop, List.length_set, List.length_replicate, List.length_cons, List.length_nil, List.length_map, toS_length, toI_length]; omega)))) (k := ?_)
      refine JL_a noMk (a_alloc (l := [_, _, _, _]) Tryz.zeroValue37) (k := fun r4 hr4 => ?_)
      refine JL_s (w_store (l' := [_, _, _, _]) Tryz.sizeOf37) (k := ?_)
      refine JL_nil ?_
      refine JX_seq ?_
      refine J_seq ?_
      refine J_reg ?_
      refine JL_q (q_move) (k := ?_)
      refine JL_q (q_lenS Tryz.runUnderlying78) (k := ?_)
      refine JL_q (q_move) (k := ?_)
      refine JL_nil ?_
      refine JX_seq ?_
      refine J_block ?_
      refine J_unroll ?_
      refine J_seq ?_
      refine J_reg ?_
      refine JL_q (q_lss) (k := ?_)
      refine JL_nil ?_
      refine JX_seq ?_
      refine J_seq ?_
      refine J_true rfl ?_
      refine J_skip ?_
      refine JX_seq ?_
      refine J_seq ?_
      refine J_block ?_
      refine J_seq ?_
      refine J_reg ?_
      refine JL_q (q_idxO Tryz.runUnderlying78 Tryz.sizeOf61 0) (k := ?_)
      refine JL_q (q_load Tryz.isAgg61) (k := ?_)
      refine JL_q (q_assign) (k := ?_)
      refine JL_nil ?_
      refine JX_seq ?_
      refine J_seq ?_
      refine J_reg ?_
      refine JL_q (q_move) (k := ?_)
      refine JL_q (q_loadA Tryz.isAgg37 Tryz.sizeOf37) (k := ?_)
      refine JL_q (q_build (cs := [_, _, _, _]) Tryz.zeroValue55 PL_55) (k := ?_)
      refine JL_v (args := [(Value.agg [(Value.int .i64 (((l.getD x_8 default).id))), (Value.string (bs ((l.getD x_8 default).key))), (Value.int .i64 (((l.getD x_8 default).frm))), (Value.int .i64 (((l.getD x_8 default).to)))].toArray)]) (c_callA Tryz.call32) (fun w1 hw1 => cIsId_ok w1 (c := (l.getD x_8 default))) (k := ?_)
      refine JL_q (q_not) (k := ?_)
      refine JL_nil ?_
      refine JX_seq ?_
      refine J_cond rfl (fun hq6 => ?_) (fun hq6 => ?_)
      · refine J_seq ?_
        refine J_reg ?_
        refine JL_q (q_assign) (k := ?_)
        refine JL_nil ?_
        refine JX_seq ?_
        refine J_ret ?_
        refine JX_block_ret ?_
        refine JX_seq_ret ?_
        refine JX_inv_ret ?_
        refine JX_block_ret ?_
        refine JX_block_ret ?_
        refine JX_seq_ret ?_
        refine JX_inv_ret ?_
        refine JX_block_ret ?_
        refine JX_seq_ret ?_
        refine JX_retI Tryz.results31 (Res.tmp rfl Res.nil) ?_
        refine JL_q (q_pickT) (k := ?_)
        refine JL_q (q_assign) (k := ?_)
        refine JL_nil ?_
        refine JX_seq ?_
        refine J_ret ?_
        refine JX_ret Tryz.results16 (Res.tmp rfl Res.nil) (fun w1 hw1 => ?_)
        exact ⟨(by rw [((((hF.ok3 (hF5.neg hq1)).pos hq4).er1 ((hF10.pos hq5).t hq6))).eq] <;> first | rfl | (simp only [List.length_set] <;> rfl)), hw1.ext_out⟩
      refine J_skip ?_
      refine JX_block ?_
      refine JX_seq ?_
      refine J_reg ?_
      refine JL_q (q_add) (k := ?_)
      refine JL_q (q_move) (k := ?_)
      refine JL_nil ?_
      refine JX_again ?_
      refine J_seq ?_
      refine J_reg ?_
      refine JL_q (q_lss) (k := ?_)
      refine JL_nil ?_
      refine JX_seq ?_
      refine J_seq ?_
      refine J_true rfl ?_
      refine J_skip ?_
      refine JX_seq ?_
      refine J_seq ?_
      refine J_block ?_
      refine J_seq ?_
      refine J_reg ?_
      refine JL_q (q_idxO Tryz.runUnderlying78 Tryz.sizeOf61 1) (k := ?_)
      refine JL_q (q_load Tryz.isAgg61) (k := ?_)
      refine JL_q (q_assign) (k := ?_)
      refine JL_nil ?_
      refine JX_seq ?_
      refine J_seq ?_
      refine J_reg ?_
      refine JL_q (q_move) (k := ?_)
      refine JL_q (q_loadA Tryz.isAgg37 Tryz.sizeOf37) (k := ?_)
      refine JL_q (q_build (cs := [_, _, _, _]) Tryz.zeroValue55 PL_55) (k := ?_)
      refine JL_v (args := [(Value.agg [(Value.int .i64 (((l.getD x_8 default).id))), (Value.string (bs ((l.getD x_8 default).key))), (Value.int .i64 (((l.getD x_8 default).frm))), (Value.int .i64 (((l.getD x_8 default).to)))].toArray)]) (c_callA Tryz.call33) (fun w1 hw1 => cIsKey_ok w1 (c := (l.getD x_8 default))) (k := ?_)
      refine JL_q (q_not) (k := ?_)
      refine JL_nil ?_
      refine JX_seq ?_
      refine J_cond rfl (fun hq7 => ?_) (fun hq7 => ?_)
      · refine J_seq ?_
        refine J_reg ?_
        refine JL_q (q_assign) (k := ?_)
        refine JL_nil ?_
        refine JX_seq ?_
        refine J_ret ?_
        refine JX_block_ret ?_
        refine JX_seq_ret ?_
        refine JX_inv_ret ?_
        refine JX_block_ret ?_
        refine JX_block_ret ?_
        refine JX_seq_ret ?_
        refine JX_inv_ret ?_
        refine JX_block_ret ?_
        refine JX_seq_ret ?_
        refine JX_retI Tryz.results31 (Res.tmp rfl Res.nil) ?_
        refine JL_q (q_pickT) (k := ?_)
        refine JL_q (q_assign) (k := ?_)
        refine JL_nil ?_
        refine JX_seq ?_
        refine J_ret ?_
        refine JX_ret Tryz.results16 (Res.tmp rfl Res.nil) (fun w1 hw1 => ?_)
        exact ⟨(by rw [((((hF.ok3 (hF5.neg hq1)).pos hq4).er1 (((hF10.pos hq5).f hq6).t hq7))).eq] <;> first | rfl | (simp only [List.length_set] <;> rfl)), hw1.ext_out⟩
      refine J_skip ?_
      refine JX_block ?_
      refine JX_seq ?_
      refine J_reg ?_
      refine JL_q (q_add) (k := ?_)
      refine JL_q (q_move) (k := ?_)
      refine JL_nil ?_
      refine JX_again ?_
      refine J_seq ?_
      refine J_reg ?_
      refine JL_q (q_lss) (k := ?_)
      refine JL_nil ?_
      refine JX_seq ?_
      refine J_seq ?_
      refine J_true rfl ?_
      refine J_skip ?_
      refine JX_seq ?_
      refine J_seq ?_
      refine J_block ?_
      refine J_seq ?_
      refine J_reg ?_
      refine JL_q (q_idxO Tryz.runUnderlying78 Tryz.sizeOf61 2) (k := ?_)
      refine JL_q (q_load Tryz.isAgg61) (k := ?_)
      refine JL_q (q_assign) (k := ?_)
      refine JL_nil ?_
      refine JX_seq ?_
      refine J_seq ?_
      refine J_reg ?_
      refine JL_q (q_move) (k := ?_)
      refine JL_q (q_loadA Tryz.isAgg37 Tryz.sizeOf37) (k := ?_)
      refine JL_q (q_build (cs := [_, _, _, _]) Tryz.zeroValue55 PL_55) (k := ?_)
      refine JL_v (args := [(Value.agg [(Value.int .i64 (((l.getD x_8 default).id))), (Value.string (bs ((l.getD x_8 default).key))), (Value.int .i64 (((l.getD x_8 default).frm))), (Value.int .i64 (((l.getD x_8 default).to)))].toArray)]) (c_callA Tryz.call34) (fun w1 hw1 => cIsSpan_ok w1 (c := (l.getD x_8 default))) (k := ?_)
      refine JL_q (q_not) (k := ?_)
      refine JL_nil ?_
      refine JX_seq ?_
      refine J_cond rfl (fun hq8 => ?_) (fun hq8 => ?_)
      · refine J_seq ?_
        refine J_reg ?_
        refine JL_q (q_assign) (k := ?_)
        refine JL_nil ?_
        refine JX_seq ?_
        refine J_ret ?_
        refine JX_block_ret ?_
        refine JX_seq_ret ?_
        refine JX_inv_ret ?_
        refine JX_block_ret ?_
        refine JX_block_ret ?_
        refine JX_seq_ret ?_
        refine JX_inv_ret ?_
        refine JX_block_ret ?_
        refine JX_seq_ret ?_
        refine JX_retI Tryz.results31 (Res.tmp rfl Res.nil) ?_
        refine JL_q (q_pickT) (k := ?_)
        refine JL_q (q_assign) (k := ?_)
        refine JL_nil ?_
        refine JX_seq ?_
        refine J_ret ?_
        refine JX_ret Tryz.results16 (Res.tmp rfl Res.nil) (fun w1 hw1 => ?_)
        exact ⟨(by rw [((((hF.ok3 (hF5.neg hq1)).pos hq4).er1 ((((hF10.pos hq5).f hq6).f hq7).t hq8))).eq] <;> first | rfl | (simp only [List.length_set] <;> rfl)), hw1.ext_out⟩
      refine J_skip ?_
      refine JX_block ?_
      refine JX_seq ?_
      refine J_reg ?_
      refine JL_q (q_add) (k := ?_)
      refine JL_q (q_move) (k := ?_)
      refine JL_nil ?_
      refine JX_again ?_
      refine J_seq ?_
      refine J_reg ?_
      refine JL_q (q_lss) (k := ?_)
      refine JL_nil ?_
      refine JX_seq ?_
      refine J_seq ?_
      refine J_false rfl ?_
      refine J_exit ?_
      refine JX_seq_exit ?_
      refine JX_inv_exit ?_
      refine JX_block_hit ?_
      refine JX_block ?_
      refine JX_seq ?_
      refine J_reg ?_
      refine JL_q (q_add) (k := ?_)
      refine JL_q (q_move) (k := ?_)
      refine JL_nil ?_
      refine JX_permL ((r3, Obj.cells [(Value.func (.func 32) [].toArray [].toArray), (Value.func (.func 33) [].toArray [].toArray), (Value.func (.func 34) [].toArray [].toArray)].toArray 61) :: ((r1, Obj.map x_3e x_3k) :: ((r4, Obj.cells [(Value.int .i64 (((l.getD x_8 default).id))), (Value.string (bs ((l.getD x_8 default).key))), (Value.int .i64 (((l.getD x_8 default).frm))), (Value.int .i64 (((l.getD x_8 default).to)))].toArray 37) :: []))) (((List.Perm.cons _ ((List.Perm.cons _ (List.Perm.refl _)).trans (List.Perm.swap _ _ _))).trans (List.Perm.swap _ _ _)).trans ((List.Perm.cons _ ((List.Perm.cons _ (List.Perm.refl _)).trans (List.Perm.swap _ _ _))).trans (List.Perm.swap _ _ _))) ?_
      refine JX_subL ((r3, Obj.cells [(Value.func (.func 32) [].toArray [].toArray), (Value.func (.func 33) [].toArray [].toArray), (Value.func (.func 34) [].toArray [].toArray)].toArray 61) :: ((r1, Obj.map x_3e x_3k) :: [])) (List.Sublist.cons_cons _ (List.Sublist.cons_cons _ (List.nil_sublist _))) ?_
      exact JX_inv2 n_9 (x_8 + 1) ⟨by omega, ((((hF10.pos hq5).f hq6).f hq7).f hq8), (by omega)⟩ (Nat.lt_succ_self _) (by repeat (first | exact SubE.nil | refine SubE.cons rfl ?_)) (List.Perm.refl _)

theorem cHolding_ok (w : World) {l_a : Option Addr} {l_c : Nat} {l : List Cred} {now : Int} (h_l : Sl w eCred 4 l_a l) (n_l : l.length ≤ 1000) : Calls Tryz.prog 17 (List.toArray [(Value.slice (l_a) (l.length) (l_c)), (Value.int .i64 (now))]) w fun e w2 => ∃ a1 : Option Addr, ∃ c1 : Nat, ∃ B1 : Heap, e = .returned (Value.slice (a1) ((cHolding l now).length) (c1)) ∧ Fresh w w2 B1 ∧ OwnB eCred 4 37 a1 c1 B1 (cHolding l now) ∧ (cHolding l now).length ≤ 1000 := by
  have hF := Is.refl (cHolding l now)
  refine enter Tryz.func17 Tryz.ntmps17 (h := ?_)
  refine J_seq ?_
  refine J_reg ?_
  refine JL_q (q_assign) (k := ?_)
  refine JL_nil ?_
  refine JX_seq ?_
  refine J_seq ?_
  refine J_seq ?_
  refine J_reg ?_
  refine JL_q (q_move) (k := ?_)
  refine JL_v (args := [(Value.slice (l_a) (l.length) (l_c))]) (c_callA Tryz.call16) (fun w1 hw1 => cRight_ok w1 (l := l) (h_l := (SlJ.of_base h_l) w1 hw1) (n_l := by first | omega | (simp only [List.length_append, List.length_take, List.length_drop, List.length_set, List.length_replicate, List.length_cons, List.length_nil, List.length_map, toS_length, toI_length]; omega) | (simp only [List.length_append, List.length_take, List.length_drop, List.length_set, List.length_replicate, List.length_cons, List.length_nil, List.length_map, toS_length, toI_length] at *; omega) | decide)) (k := ?_)
  refine JL_q (q_not) (k := ?_)
  refine JL_nil ?_
  refine JX_seq ?_
  refine J_cond rfl (fun hq1 => ?_) (fun hq1 => ?_)
  · refine J_seq ?_
    refine J_reg ?_
    refine JL_q (q_assign) (k := ?_)
    refine JL_nil ?_
    refine JX_seq ?_
    refine J_ret ?_
    refine JX_seq_ret ?_
    refine JX_ret Tryz.results17 (Res.tmp rfl Res.nil) (fun w1 hw1 => ?_)
    exact ⟨none, 0, [], (by rw [((hF.t hq1)).eq] <;> first | rfl | (simp only [List.length_set] <;> rfl)), (hw1.fresh_out.sub (List.nil_sublist _)), (by rw [((hF.t hq1)).eq]; exact OwnB.nil), (by rw [((hF.t hq1)).eq]; first | omega | (simp only [List.length_append, List.length_take, List.length_drop, List.length_set, List.length_replicate, List.length_cons, List.length_nil, List.length_map, toS_length, toI_length]; omega) | (simp only [List.length_append, List.length_take, List.length_drop, List.length_set, List.length_replicate, List.length_cons, List.length_nil, List.length_map, toS_length, toI_length] at *; omega))⟩
  have hfhq1 := cRight_t (by simpa using hq1)
  refine J_skip ?_
  refine JX_seq ?_
  refine J_seq ?_
  refine J_reg ?_
  refine JL_q (q_move) (k := ?_)
  refine JL_q (q_move) (k := ?_)
  refine JL_inl (args := [(Value.slice (l_a) (l.length) (l_c)), (Value.int .i64 (now))]) (c_callA Tryz.call36) Tryz.func36 Tryz.ntmps36 ?_
  refine J_seq ?_
  refine J_reg ?_
  refine JL_a noMk (a_box (l := [_])) (k := fun r1 hr1 => ?_)
  refine JL_a noMk (a_box (l := [_])) (k := fun r2 hr2 => ?_)
  refine JL_q (q_assign) (k := ?_)
  refine JL_nil ?_
  refine JX_seq ?_
  refine J_seq ?_
  refine J_reg ?_
  refine JL_q (q_func) (k := ?_)
  refine JL_q (q_assign) (k := ?_)
  refine JL_nil ?_
  refine JX_seq ?_
  refine J_ret ?_
  refine JX_retI Tryz.results36 (Res.tmp rfl Res.nil) ?_
  refine JL_inl (args := [(Value.func (.func 51) [].toArray [(Value.pointer (some ⟨r1, 0, none⟩)), (Value.pointer (some ⟨r2, 0, none⟩))].toArray)]) (c_callA Tryz.call35) Tryz.func35 Tryz.ntmps35 ?_
  refine J_seq ?_
  refine J_reg ?_
  refine JL_q (q_assign) (k := ?_)
  refine JL_nil ?_
  refine JX_seq ?_
  refine J_seq ?_
  refine J_reg ?_
  refine JL_q (q_move) (k := ?_)
  refine JL_inlM (args := [(Value.slice (none) (0) (0)), (Value.func (.func 51) [].toArray [(Value.pointer (some ⟨r1, 0, none⟩)), (Value.pointer (some ⟨r2, 0, none⟩))].toArray)]) (c_callA Tryz.call50) Tryz.func50 Tryz.ntmps50 ?_
  refine J_seq ?_
  refine J_reg ?_
  refine JL_a noMk (a_box (l := [_])) (k := fun r3 hr3 => ?_)
  refine JL_q (q_assign) (k := ?_)
  refine JL_nil ?_
  refine JX_seq ?_
  refine J_seq ?_
  refine J_seq ?_
  refine J_reg ?_
  refine JL_q (q_move) (k := ?_)
  refine JL_nil ?_
  refine JX_seq ?_
  refine J_block ?_
  refine J_rangeI noMk rfl Tryz.call51 Tryz.func51 Tryz.ntmps51 (fun l4 rD4 rr4 hl4 => ?_)
  refine J_scope ?_
  refine J_seq ?_
  refine J_label ?_
  refine JX_seq ?_
  refine J_seq ?_
  refine J_reg ?_
  refine JL_q (q_load Tryz.isAgg22) (k := ?_)
  refine JL_q (q_lenS Tryz.runUnderlying22) (k := ?_)
  refine JL_q (q_move) (k := ?_)
  refine JL_nil ?_
  refine JX_seq ?_
  refine J_block ?_
  refine J_loop6 (σ1 := Nat) (σ2 := Nat) (σ3 := List Cred) (σ4 := Option Addr) (σ5 := Nat) (σ6 := Heap) (fun n_3 x_1 x_2 x_2a x_2c x_2B => (x_2B ++ ((l4, loopAt rr4 .ready none) :: ((rD4, Obj.deferred (some [])) :: ((r3, Obj.cells [(Value.slice (x_2a) (x_2.length) (x_2c))].toArray 22) :: ((r2, Obj.cells [(Value.int .i64 (now))].toArray 3) :: ((r1, Obj.cells [(Value.slice (l_a) (l.length) (l_c))].toArray 22) :: []))))))) (fun n_3 x_1 x_2 x_2a x_2c x_2B => [(0, (Value.func (.yield l4) [].toArray [].toArray)), (2, (Value.pointer (some ⟨r2, 0, none⟩))), (7, (Value.slice (l_a) (l.length) (l_c))), (8, (Value.int .i64 (((l.length : Nat) : Int)))), (9, (Value.int .i64 (((x_1 : Nat) : Int))))]) (fun n_3 x_1 x_2 x_2a x_2c x_2B => l.length - x_1 < n_3 ∧ Is (cHolding_l0 l now (l.length + 1) 0 []) (cHolding_l0 l now n_3 x_1 x_2) ∧ OwnB eCred 4 37 x_2a x_2c x_2B x_2 ∧ x_2.length ≤ x_1 ∧ x_1 ≤ l.length) (fun n_3 x_1 x_2 x_2a x_2c x_2B => n_3) (l.length + 1) 0 ([]) none 0 ([]) ?_ (by repeat (first | exact SubE.nil | refine SubE.cons rfl ?_)) (List.Perm.refl _) ?_
  · exact ⟨Nat.lt_succ_self _, Is.refl _, OwnB.nil, (by first | omega | rfl | (simp; done)), (by first | omega | rfl | (simp; done))⟩
  · rintro (_ | n_3) x_1 x_2 x_2a x_2c x_2B ⟨hm5, hF4, hx_2, hi6, hi7⟩
    · omega
    refine J_seq ?_
    refine J_reg ?_
    refine JL_q (q_lss) (k := ?_)
    refine JL_nil ?_
    refine JX_seq ?_
    refine J_seq ?_
    refine J_dec rfl (fun hq2 => ?_) (fun hq2 => ?_)
    rotate_left
    · refine J_exit ?_
      refine JX_seq_exit ?_
      refine JX_inv_exit ?_
      refine JX_block_hit ?_
      refine JX_scope ?_
      refine JX_it0 (.inr rfl) Tryz.results51 ((List.Perm.append_left _ (List.Perm.refl _)).trans List.perm_middle) ?_
      refine JX_block ?_
      refine JX_seq ?_
      refine J_seq ?_
      refine J_reg ?_
      refine JL_q (q_load Tryz.isAgg22) (k := ?_)
      refine JL_q (q_assign) (k := ?_)
      refine JL_nil ?_
      refine JX_seq ?_
      refine J_ret ?_
      refine JX_retIM [rD4] ((List.Perm.cons _ ((List.Perm.append_left _ (List.Perm.refl _)).trans List.perm_middle)).trans (List.Perm.swap _ _ _)) Tryz.results50 (Res.tmp rfl Res.nil) ?_
      refine JL_q (q_assign) (k := ?_)
      refine JL_nil ?_
      refine JX_seq ?_
      refine J_ret ?_
      refine JX_retI Tryz.results35 (Res.tmp rfl Res.nil) ?_
      refine JL_q (q_assign) (k := ?_)
      refine JL_nil ?_
      refine JX_seq ?_
      refine J_ret ?_
      refine JX_ret Tryz.results17 (Res.tmp rfl Res.nil) (fun w1 hw1 => ?_)
      exact ⟨x_2a, x_2c, x_2B, (by rw [(((hF.f hq1).rn2 (hF4.neg hq2))).eq] <;> first | rfl | (simp only [List.length_set] <;> rfl)), (fresh_segs (L := x_2B) (R := ((l4, loopAt rr4 .exhausted none) :: ((r3, Obj.cells [(Value.slice (x_2a) (x_2.length) (x_2c))].toArray 22) :: ((r2, Obj.cells [(Value.int .i64 (now))].toArray 3) :: ((r1, Obj.cells [(Value.slice (l_a) (l.length) (l_c))].toArray 22) :: []))))) (hw1.perm ((List.Perm.cons _ (List.Perm.refl _)).trans List.perm_middle.symm)) (by simp)), (by rw [(((hF.f hq1).rn2 (hF4.neg hq2))).eq]; exact hx_2), (by rw [(((hF.f hq1).rn2 (hF4.neg hq2))).eq]; first | omega | (simp only [List.length_append, List.length_take, List.length_drop, List.length_set, List.length_replicate, List.length_cons, List.length_nil, List.length_map, toS_length, toI_length]; omega) | (simp only [List.length_append, List.length_take, List.length_drop, List.length_set, List.length_replicate, List.length_cons, List.length_nil, List.length_map, toS_length, toI_length] at *; omega))⟩
    refine J_skip ?_
    refine JX_seq ?_
    refine J_seq ?_
    refine J_block ?_
    refine J_seq ?_
    refine J_reg ?_
    refine JL_q (q_idx (n := l.length) Tryz.runUnderlying22 Tryz.sizeOf37 x_1 (SlJ.of_base h_l) (gD (by first | omega | (simp only [List.length_set]; omega) | (simp only [List.length_append, List.length_take, List.length_drop, List.length_set, List.length_replicate, List.length_cons, List.length_nil, List.length_map, toS_length, toI_length]; omega))) (by first | rfl | simp)) (k := ?_)
    refine JL_q (q_loadEA Tryz.isAgg37 Tryz.sizeOf37 x_1 (SlJ.of_base h_l) (gD (by first | omega | (simp only [List.length_set]; omega) | (simp only [List.length_append, List.length_take, List.length_drop, List.length_set, List.length_replicate, List.length_cons, List.length_nil, List.length_map, toS_length, toI_length]; omega)))) (k := ?_)
    refine JL_a noMk (a_alloc (l := [_, _, _, _]) Tryz.zeroValue37) (k := fun r5 hr5 => ?_)
    refine JL_s (w_store (l' := [_, _, _, _]) Tryz.sizeOf37) (k := ?_)
    refine JL_nil ?_
    refine JX_seq ?_
    refine J_seq ?_
    refine J_reg ?_
    refine JL_q (q_loadA Tryz.isAgg37 Tryz.sizeOf37) (k := ?_)
    refine JL_q (q_build (cs := [_, _, _, _]) Tryz.zeroValue55 PL_55) (k := ?_)
    refine JL_q (q_func) (k := ?_)
    refine JL_q (q_assign) (k := ?_)
    refine JL_nil ?_
    refine JX_seq ?_
    refine J_seq ?_
    refine J_reg ?_
    refine JL_q (q_move) (k := ?_)
    refine JL_q (q_load Tryz.isAgg3) (k := ?_)
    refine JL_v (args := [(Value.agg [(Value.int .i64 (((l.getD x_1 default).id))), (Value.string (bs ((l.getD x_1 default).key))), (Value.int .i64 (((l.getD x_1 default).frm))), (Value.int .i64 (((l.getD x_1 default).to)))].toArray), (Value.int .i64 (now))]) (c_callA Tryz.call29) (fun w1 hw1 => cHolds_ok w1 (c := (l.getD x_1 default)) (now := now)) (k := ?_)
    refine JL_q (q_move) (k := ?_)
    refine JL_bool 19 rfl (fun hq3 => ?_) (fun hq3 => ?_)
    rotate_left
    · refine JL_skips 4 rfl ?_
      refine JL_q (q_pickF) (k := ?_)
      refine JL_nil ?_
      refine JX_seq ?_
      refine J_false rfl ?_
      refine J_skip ?_
      refine JX_block ?_
      refine JX_seq ?_
      refine J_reg ?_
      refine JL_q (q_add) (k := ?_)
      refine JL_q (q_move) (k := ?_)
      refine JL_nil ?_
      refine JX_permL (x_2B ++ ((l4, loopAt rr4 .ready none) :: ((rD4, Obj.deferred (some [])) :: ((r3, Obj.cells [(Value.slice (x_2a) (x_2.length) (x_2c))].toArray 22) :: ((r2, Obj.cells [(Value.int .i64 (now))].toArray 3) :: ((r1, Obj.cells [(Value.slice (l_a) (l.length) (l_c))].toArray 22) :: ((r5, Obj.cells [(Value.int .i64 (((l.getD x_1 default).id))), (Value.string (bs ((l.getD x_1 default).key))), (Value.int .i64 (((l.getD x_1 default).frm))), (Value.int .i64 (((l.getD x_1 default).to)))].toArray 37) :: []))))))) (((((((List.Perm.cons _ ((List.Perm.append_left _ ((List.Perm.cons _ ((List.Perm.cons _ ((List.Perm.cons _ ((List.Perm.cons _ (List.Perm.refl _)).trans (List.Perm.swap _ _ _))).trans (List.Perm.swap _ _ _))).trans (List.Perm.swap _ _ _))).trans (List.Perm.swap _ _ _))).trans List.perm_middle)).trans (List.Perm.swap _ _ _)).trans ((List.Perm.cons _ ((List.Perm.cons _ ((List.Perm.append_left _ ((List.Perm.cons _ ((List.Perm.cons _ ((List.Perm.cons _ (List.Perm.refl _)).trans (List.Perm.swap _ _ _))).trans (List.Perm.swap _ _ _))).trans (List.Perm.swap _ _ _))).trans List.perm_middle)).trans (List.Perm.swap _ _ _))).trans (List.Perm.swap _ _ _))).trans ((List.Perm.cons _ ((List.Perm.cons _ ((List.Perm.cons _ ((List.Perm.append_left _ ((List.Perm.cons _ ((List.Perm.cons _ (List.Perm.refl _)).trans (List.Perm.swap _ _ _))).trans (List.Perm.swap _ _ _))).trans List.perm_middle)).trans (List.Perm.swap _ _ _))).trans (List.Perm.swap _ _ _))).trans (List.Perm.swap _ _ _))).trans ((List.Perm.cons _ ((List.Perm.cons _ ((List.Perm.cons _ ((List.Perm.cons _ ((List.Perm.append_left _ ((List.Perm.cons _ (List.Perm.refl _)).trans (List.Perm.swap _ _ _))).trans List.perm_middle)).trans (List.Perm.swap _ _ _))).trans (List.Perm.swap _ _ _))).trans (List.Perm.swap _ _ _))).trans (List.Perm.swap _ _ _))).trans ((List.Perm.cons _ ((List.Perm.cons _ ((List.Perm.cons _ ((List.Perm.cons _ ((List.Perm.cons _ ((List.Perm.append_left _ (List.Perm.refl _)).trans List.perm_middle)).trans (List.Perm.swap _ _ _))).trans (List.Perm.swap _ _ _))).trans (List.Perm.swap _ _ _))).trans (List.Perm.swap _ _ _))).trans (List.Perm.swap _ _ _))).trans ((List.Perm.cons _ ((List.Perm.cons _ ((List.Perm.cons _ ((List.Perm.cons _ ((List.Perm.cons _ ((List.Perm.cons _ (List.Perm.refl _)).trans List.perm_middle.symm)).trans List.perm_middle.symm)).trans List.perm_middle.symm)).trans List.perm_middle.symm)).trans List.perm_middle.symm)).trans List.perm_middle.symm)) ?_
      refine JX_subL (x_2B ++ ((l4, loopAt rr4 .ready none) :: ((rD4, Obj.deferred (some [])) :: ((r3, Obj.cells [(Value.slice (x_2a) (x_2.length) (x_2c))].toArray 22) :: ((r2, Obj.cells [(Value.int .i64 (now))].toArray 3) :: ((r1, Obj.cells [(Value.slice (l_a) (l.length) (l_c))].toArray 22) :: [])))))) (List.Sublist.append (List.Sublist.refl _) (List.Sublist.cons_cons _ (List.Sublist.cons_cons _ (List.Sublist.cons_cons _ (List.Sublist.cons_cons _ (List.Sublist.cons_cons _ (List.nil_sublist _))))))) ?_
      exact JX_inv6 n_3 (x_1 + 1) x_2 x_2a x_2c x_2B ⟨by omega, ((hF4.pos hq2).f hq3), hx_2, (by omega), (by omega)⟩ (Nat.lt_succ_self _) (by repeat (first | exact SubE.nil | refine SubE.cons rfl ?_)) (List.Perm.refl _)
    refine JL_qg (q_move) (k := ?_)
    refine JL_qg (q_loadA Tryz.isAgg37 Tryz.sizeOf37) (k := ?_)
    refine JL_yIng (vs := [(Value.agg [(Value.int .i64 (((l.getD x_1 default).id))), (Value.string (bs ((l.getD x_1 default).key))), (Value.int .i64 (((l.getD x_1 default).frm))), (Value.int .i64 (((l.getD x_1 default).to)))].toArray)]) hl4 ((List.Perm.cons _ ((List.Perm.append_left _ (List.Perm.refl _)).trans List.perm_middle)).trans (List.Perm.swap _ _ _)) y_call ?_
    refine J_reg ?_
    refine JL_a noMk (a_alloc (l := [_, _, _, _]) Tryz.zeroValue37) (k := fun r6 hr6 => ?_)
    refine JL_s (w_store (l' := [_, _, _, _]) Tryz.sizeOf37) (k := ?_)
    refine JL_nil ?_
    refine JX_begin ((List.Perm.cons _ (List.Perm.refl _)).trans (List.Perm.swap _ _ _)) ?_
    refine J_block ?_
    refine J_reg ?_
    refine JL_q (q_load Tryz.isAgg22) (k := ?_)
    refine JL_q (q_loadA Tryz.isAgg37 Tryz.sizeOf37) (k := ?_)
    refine JL_a noMk (a_bslice (l := [_, _, _, _]) Tryz.runUnderlying22 Tryz.sizeOf37 Tryz.zeroValue37) (k := fun r7 hr7 => ?_)
    refine JL_append (x_2 ++ ([(l.getD x_1 default)] : List Cred)) rfl TY_37 Tryz.underlying22 eCred_ok hx_2 ((List.Perm.cons _ ((List.Perm.cons _ ((List.Perm.cons _ ((List.Perm.cons _ (List.Perm.refl _)).trans List.perm_middle.symm)).trans List.perm_middle.symm)).trans List.perm_middle.symm)).trans List.perm_middle.symm) (SlJ.lit (xs := ([(l.getD x_1 default)] : List Cred)) eCred_ok) ⟨by omega, by omega⟩ (n := x_2.length) (m := 1) (k := fun ax1 cx1 Bx1 hox1 => ?_)
    have hal1 : (x_2 ++ ([(l.getD x_1 default)] : List Cred)).length = x_2.length + 1 := by first | rfl | simp
    refine JL_s (w_store (l' := [_]) Tryz.sizeOf22) (k := ?_)
    refine JL_nil ?_
    refine JX_block ?_
    refine JX_roundI ((List.Perm.append_left _ ((List.Perm.cons _ (List.Perm.refl _)).trans (List.Perm.swap _ _ _))).trans List.perm_middle) ?_
    refine JL_qg (q_not) (k := ?_)
    refine JL_q (q_pickT) (k := ?_)
    refine JL_nil ?_
    refine JX_seq ?_
    refine J_false rfl ?_
    refine J_skip ?_
    refine JX_block ?_
    refine JX_seq ?_
    refine J_reg ?_
    refine JL_q (q_add) (k := ?_)
    refine JL_q (q_move) (k := ?_)
    refine JL_nil ?_
    refine JX_permL (Bx1 ++ ((l4, loopAt rr4 .ready none) :: ((rD4, Obj.deferred (some [])) :: ((r3, Obj.cells [(Value.slice (ax1) ((x_2 ++ ([(l.getD x_1 default)] : List Cred)).length) (cx1))].toArray 22) :: ((r2, Obj.cells [(Value.int .i64 (now))].toArray 3) :: ((r1, Obj.cells [(Value.slice (l_a) (l.length) (l_c))].toArray 22) :: ((r7, Obj.cells [(Value.int .i64 (((l.getD x_1 default).id))), (Value.string (bs ((l.getD x_1 default).key))), (Value.int .i64 (((l.getD x_1 default).frm))), (Value.int .i64 (((l.getD x_1 default).to)))].toArray 37) :: ((r6, Obj.cells [(Value.int .i64 (((l.getD x_1 default).id))), (Value.string (bs ((l.getD x_1 default).key))), (Value.int .i64 (((l.getD x_1 default).frm))), (Value.int .i64 (((l.getD x_1 default).to)))].toArray 37) :: ((r5, Obj.cells [(Value.int .i64 (((l.getD x_1 default).id))), (Value.string (bs ((l.getD x_1 default).key))), (Value.int .i64 (((l.getD x_1 default).frm))), (Value.int .i64 (((l.getD x_1 default).to)))].toArray 37) :: []))))))))) (((((((List.Perm.cons _ ((List.Perm.append_left _ ((List.Perm.cons _ ((List.Perm.cons _ ((List.Perm.cons _ ((List.Perm.cons _ ((List.Perm.cons _ ((List.Perm.cons _ (List.Perm.refl _)).trans (List.Perm.swap _ _ _))).trans (List.Perm.swap _ _ _))).trans (List.Perm.swap _ _ _))).trans (List.Perm.swap _ _ _))).trans (List.Perm.swap _ _ _))).trans (List.Perm.swap _ _ _))).trans List.perm_middle)).trans (List.Perm.swap _ _ _)).trans ((List.Perm.cons _ ((List.Perm.cons _ ((List.Perm.append_left _ ((List.Perm.cons _ ((List.Perm.cons _ ((List.Perm.cons _ ((List.Perm.cons _ ((List.Perm.cons _ (List.Perm.refl _)).trans (List.Perm.swap _ _ _))).trans (List.Perm.swap _ _ _))).trans (List.Perm.swap _ _ _))).trans (List.Perm.swap _ _ _))).trans (List.Perm.swap _ _ _))).trans List.perm_middle)).trans (List.Perm.swap _ _ _))).trans (List.Perm.swap _ _ _))).trans ((List.Perm.cons _ ((List.Perm.cons _ ((List.Perm.cons _ ((List.Perm.append_left _ ((List.Perm.cons _ ((List.Perm.cons _ ((List.Perm.cons _ ((List.Perm.cons _ (List.Perm.refl _)).trans (List.Perm.swap _ _ _))).trans (List.Perm.swap _ _ _))).trans (List.Perm.swap _ _ _))).trans (List.Perm.swap _ _ _))).trans List.perm_middle)).trans (List.Perm.swap _ _ _))).trans (List.Perm.swap _ _ _))).trans (List.Perm.swap _ _ _))).trans ((List.Perm.cons _ ((List.Perm.cons _ ((List.Perm.cons _ ((List.Perm.cons _ ((List.Perm.append_left _ ((List.Perm.cons _ ((List.Perm.cons _ ((List.Perm.cons _ (List.Perm.refl _)).trans (List.Perm.swap _ _ _))).trans (List.Perm.swap _ _ _))).trans (List.Perm.swap _ _ _))).trans List.perm_middle)).trans (List.Perm.swap _ _ _))).trans (List.Perm.swap _ _ _))).trans (List.Perm.swap _ _ _))).trans (List.Perm.swap _ _ _))).trans ((List.Perm.cons _ ((List.Perm.cons _ ((List.Perm.cons _ ((List.Perm.cons _ (List.Perm.refl _)).trans (List.Perm.swap _ _ _))).trans (List.Perm.swap _ _ _))).trans (List.Perm.swap _ _ _))).trans (List.Perm.swap _ _ _))).trans ((List.Perm.cons _ ((List.Perm.cons _ ((List.Perm.cons _ ((List.Perm.cons _ ((List.Perm.cons _ (List.Perm.refl _)).trans List.perm_middle.symm)).trans List.perm_middle.symm)).trans List.perm_middle.symm)).trans List.perm_middle.symm)).trans List.perm_middle.symm)) ?_
    refine JX_subL (Bx1 ++ ((l4, loopAt rr4 .ready none) :: ((rD4, Obj.deferred (some [])) :: ((r3, Obj.cells [(Value.slice (ax1) ((x_2 ++ ([(l.getD x_1 default)] : List Cred)).length) (cx1))].toArray 22) :: ((r2, Obj.cells [(Value.int .i64 (now))].toArray 3) :: ((r1, Obj.cells [(Value.slice (l_a) (l.length) (l_c))].toArray 22) :: [])))))) (List.Sublist.append (List.Sublist.refl _) (List.Sublist.cons_cons _ (List.Sublist.cons_cons _ (List.Sublist.cons_cons _ (List.Sublist.cons_cons _ (List.Sublist.cons_cons _ (List.nil_sublist _))))))) ?_
    exact JX_inv6 n_3 (x_1 + 1) (x_2 ++ ([(l.getD x_1 default)] : List Cred)) ax1 cx1 Bx1 ⟨by omega, ((hF4.pos hq2).t hq3), hox1, (by omega), (by omega)⟩ (Nat.lt_succ_self _) (by repeat (first | exact SubE.nil | refine SubE.cons rfl ?_)) (List.Perm.refl _)

theorem cCheck_ok (w : World) {l_a : Option Addr} {l_c : Nat} {ea0 : Addr} {ea1 : Addr} {l : List Cred} {now : Int} {challenge : Str} {name : Str} {proof : Str} (h_l : Sl w eCred 4 l_a l) (n_l : l.length ≤ 1000) (n_name : name.length ≤ 10000) (n_proof : proof.length ≤ 1000000) (hG : Gl w) (hE : Er w ea0 ea1) : Val Tryz.prog 21 [(Value.slice (l_a) (l.length) (l_c)), (Value.int .i64 (now)), (Value.string (bs challenge)), (Value.string (bs name)), (Value.string (bs proof))] w (Value.tuple [(Value.int .i64 (((cCheck l now challenge name proof).1))), (Value.bool (((cCheck l now challenge name proof).2)))].toArray) := by
  have hF := Is.refl (cCheck l now challenge name proof)
  refine enter Tryz.func21 Tryz.ntmps21 (h := ?_)
  refine J_seq ?_
  refine J_reg ?_
  refine JL_q (q_assign) (k := ?_)
  refine JL_q (q_assign) (k := ?_)
  refine JL_nil ?_
  refine JX_seq ?_
  refine J_seq ?_
  refine J_reg ?_
  refine JL_q (q_build (cs := [_, _, _, _]) Tryz.zeroValue37 PL_37) (k := ?_)
  refine JL_a noMk (a_alloc (l := [_, _, _, _]) Tryz.zeroValue37) (k := fun r1 hr1 => ?_)
  refine JL_s (w_store (l' := [_, _, _, _]) Tryz.sizeOf37) (k := ?_)
  refine JL_nil ?_
  refine JX_seq ?_
  refine J_seq ?_
  refine J_seq ?_
  refine J_reg ?_
  refine JL_q (q_move) (k := ?_)
  refine JL_q (q_move) (k := ?_)
  refine JL_p (args := [(Value.slice (l_a) (l.length) (l_c)), (Value.int .i64 (now))]) (c_callA Tryz.call17) (fun w1 hw1 => cHolding_ok w1 (l := l) (now := now) (h_l := (SlJ.of_base h_l) w1 hw1) (n_l := by first | omega | (simp only [List.length_append, List.length_take, List.length_drop, List.length_set, List.length_replicate, List.length_cons, List.length_nil, List.length_map, toS_length, toI_length]; omega) | (simp only [List.length_append, List.length_take, List.length_drop, List.length_set, List.length_replicate, List.length_cons, List.length_nil, List.length_map, toS_length, toI_length] at *; omega) | decide)) (k := ?_)
  rintro w1_1 e1_1 w2_1 hw1_1 ⟨a1_1, c1_1, B1_1, he_1, hf_1, ho1_1, hl1_1⟩
  refine ⟨_, (B1_1 ++ ((r1, Obj.cells [(Value.int .i64 (0)), (Value.string (bs ([] : Str))), (Value.int .i64 (0)), (Value.int .i64 (0))].toArray 37) :: [])), he_1, hw1_1.fresh hf_1, ?_⟩
  refine JL_q (q_lenS Tryz.runUnderlying22) (k := ?_)
  refine JL_q (q_move) (k := ?_)
  refine JL_nil ?_
  refine JX_seq ?_
  refine J_block ?_
  refine J_loop2 (σ1 := Nat) (σ2 := Nat) (fun n_2 x_1 => (B1_1 ++ ((r1, Obj.cells [(Value.int .i64 (0)), (Value.string (bs ([] : Str))), (Value.int .i64 (0)), (Value.int .i64 (0))].toArray 37) :: []))) (fun n_2 x_1 => [(2, (Value.string (bs challenge))), (3, (Value.string (bs name))), (4, (Value.string (bs proof))), (10, (Value.int .i64 (0))), (11, (Value.bool (false))), (12, (Value.pointer (some ⟨r1, 0, none⟩))), (20, (Value.slice (a1_1) ((cHolding l now).length) (c1_1))), (21, (Value.int .i64 (((((cHolding l now).length) : Nat) : Int)))), (22, (Value.int .i64 (((x_1 : Nat) : Int))))]) (fun n_2 x_1 => ((cHolding l now).length) - x_1 < n_2 ∧ Is (cCheck_l0 l now challenge name proof (((cHolding l now).length) + 1) 0) (cCheck_l0 l now challenge name proof n_2 x_1)) (fun n_2 x_1 => n_2) (((cHolding l now).length) + 1) 0 ?_ (by repeat (first | exact SubE.nil | refine SubE.cons rfl ?_)) (List.Perm.refl _) ?_
  · exact ⟨Nat.lt_succ_self _, Is.refl _⟩
  · rintro (_ | n_2) x_1 ⟨hm4, hF3⟩
    · omega
    refine J_seq ?_
    refine J_reg ?_
    refine JL_q (q_lss) (k := ?_)
    refine JL_nil ?_
    refine JX_seq ?_
    refine J_seq ?_
    refine J_dec rfl (fun hq1 => ?_) (fun hq1 => ?_)
    rotate_left
    · refine J_exit ?_
      refine JX_seq_exit ?_
      refine JX_inv_exit ?_
      refine JX_block_hit ?_
      refine JX_seq ?_
      refine J_seq ?_
      refine J_reg ?_
      refine JL_q (q_assign) (k := ?_)
      refine JL_q (q_assign) (k := ?_)
      refine JL_nil ?_
      refine JX_seq ?_
      refine J_ret ?_
      refine JX_ret Tryz.results21 (Res.tmp rfl (Res.tmp rfl Res.nil)) (fun w1 hw1 => ?_)
      exact ⟨(by rw [((hF.ok1 (hF3.neg hq1))).eq] <;> first | rfl | (simp only [List.length_set] <;> rfl)), hw1.ext_out⟩
    refine J_skip ?_
    refine JX_seq ?_
    refine J_seq ?_
    refine J_block ?_
    refine J_seq ?_
    refine J_reg ?_
    refine JL_q (q_idx (n := (cHolding l now).length) Tryz.runUnderlying22 Tryz.sizeOf37 x_1 (ho1_1.slj eCred_ok) (gD (by first | omega | (simp only [List.length_set]; omega) | (simp only [List.length_append, List.length_take, List.length_drop, List.length_set, List.length_replicate, List.length_cons, List.length_nil, List.length_map, toS_length, toI_length]; omega))) (by first | rfl | simp)) (k := ?_)
    refine JL_q (q_loadEA Tryz.isAgg37 Tryz.sizeOf37 x_1 (ho1_1.slj eCred_ok) (gD (by first | omega | (simp only [List.length_set]; omega) | (simp only [List.length_append, List.length_take, List.length_drop, List.length_set, List.length_replicate, List.length_cons, List.length_nil, List.length_map, toS_length, toI_length]; omega)))) (k := ?_)
    refine JL_a noMk (a_alloc (l := [_, _, _, _]) Tryz.zeroValue37) (k := fun r2 hr2 => ?_)
    refine JL_s (w_store (l' := [_, _, _, _]) Tryz.sizeOf37) (k := ?_)
    refine JL_nil ?_
    refine JX_seq ?_
    refine J_seq ?_
    refine J_reg ?_
    refine JL_q (q_fld FO_37_1) (k := ?_)
    refine JL_q (q_load Tryz.isAgg9) (k := ?_)
    refine JL_q (q_move) (k := ?_)
    refine JL_q (q_move) (k := ?_)
    refine JL_v (args := [(Value.string (bs (((cHolding l now).getD x_1 default).key))), (Value.string (bs challenge)), (Value.string (bs name))]) (c_callA Tryz.call20) (fun w1 hw1 => mAns_ok w1 (key := (((cHolding l now).getD x_1 default).key)) (challenge := challenge) (name := name) (n_name := by first | omega | (simp only [List.length_append, List.length_take, List.length_drop, List.length_set, List.length_replicate, List.length_cons, List.length_nil, List.length_map, toS_length, toI_length]; omega) | (simp only [List.length_append, List.length_take, List.length_drop, List.length_set, List.length_replicate, List.length_cons, List.length_nil, List.length_map, toS_length, toI_length] at *; omega) | decide) (hG := hG.ext hw1.ext_out) (hE := hE.ext hw1.ext_out)) (k := ?_)
    have han_35915 := mAns_len (((cHolding l now).getD x_1 default).key) challenge name
    refine JL_q (q_move) (k := ?_)
    refine JL_q (q_ext) (k := ?_)
    refine JL_q (q_ext) (k := ?_)
    refine JL_q (q_assign) (k := ?_)
    refine JL_q (q_assign) (k := ?_)
    refine JL_nil ?_
    refine JX_seq ?_
    refine J_seq ?_
    refine J_reg ?_
    refine JL_q (q_loadA Tryz.isAgg37 Tryz.sizeOf37) (k := ?_)
    refine JL_q (q_loadA Tryz.isAgg37 Tryz.sizeOf37) (k := ?_)
    refine JL_q (q_neS (NE_37 _ _ _ _ _ _ _ _ _ _)) (k := ?_)
    refine JL_q (q_move) (k := ?_)
    refine JL_dec 37 rfl (fun hq2 => ?_) (fun hq2 => ?_)
    rotate_left
    · refine JL_skips 2 rfl ?_
      refine JL_q (q_pickF) (k := ?_)
      refine JL_q (q_move) (k := ?_)
      refine JL_skips 3 rfl ?_
      refine JL_q (q_pickF) (k := ?_)
      refine JL_nil ?_
      refine JX_seq ?_
      refine J_false rfl ?_
      refine J_skip ?_
      refine JX_block ?_
      refine JX_seq ?_
      refine J_reg ?_
      refine JL_q (q_add) (k := ?_)
      refine JL_q (q_move) (k := ?_)
      refine JL_nil ?_
      refine JX_permL (B1_1 ++ ((r1, Obj.cells [(Value.int .i64 (0)), (Value.string (bs ([] : Str))), (Value.int .i64 (0)), (Value.int .i64 (0))].toArray 37) :: ((r2, Obj.cells [(Value.int .i64 ((((cHolding l now).getD x_1 default).id))), (Value.string (bs (((cHolding l now).getD x_1 default).key))), (Value.int .i64 ((((cHolding l now).getD x_1 default).frm))), (Value.int .i64 ((((cHolding l now).getD x_1 default).to)))].toArray 37) :: []))) (((List.Perm.cons _ ((List.Perm.append_left _ (List.Perm.refl _)).trans List.perm_middle)).trans (List.Perm.swap _ _ _)).trans ((List.Perm.cons _ ((List.Perm.cons _ (List.Perm.refl _)).trans List.perm_middle.symm)).trans List.perm_middle.symm)) ?_
      refine JX_subL (B1_1 ++ ((r1, Obj.cells [(Value.int .i64 (0)), (Value.string (bs ([] : Str))), (Value.int .i64 (0)), (Value.int .i64 (0))].toArray 37) :: [])) (List.Sublist.append (List.Sublist.refl _) (List.Sublist.cons_cons _ (List.nil_sublist _))) ?_
      exact JX_inv2 n_2 (x_1 + 1) ⟨by omega, ((hF3.pos hq1).neg hq2)⟩ (Nat.lt_succ_self _) (by repeat (first | exact SubE.nil | refine SubE.cons rfl ?_)) (List.Perm.refl _)
    refine JL_qg (q_move) (k := ?_)
    refine JL_qg (q_eql) (k := ?_)
    refine JL_q (q_pickT) (k := ?_)
    refine JL_q (q_move) (k := ?_)
    refine JL_dec 41 rfl (fun hq3 => ?_) (fun hq3 => ?_)
    rotate_left
    · refine JL_skips 3 rfl ?_
      refine JL_q (q_pickF) (k := ?_)
      refine JL_nil ?_
      refine JX_seq ?_
      refine J_false rfl ?_
      refine J_skip ?_
      refine JX_block ?_
      refine JX_seq ?_
      refine J_reg ?_
      refine JL_q (q_add) (k := ?_)
      refine JL_q (q_move) (k := ?_)
      refine JL_nil ?_
      refine JX_permL (B1_1 ++ ((r1, Obj.cells [(Value.int .i64 (0)), (Value.string (bs ([] : Str))), (Value.int .i64 (0)), (Value.int .i64 (0))].toArray 37) :: ((r2, Obj.cells [(Value.int .i64 ((((cHolding l now).getD x_1 default).id))), (Value.string (bs (((cHolding l now).getD x_1 default).key))), (Value.int .i64 ((((cHolding l now).getD x_1 default).frm))), (Value.int .i64 ((((cHolding l now).getD x_1 default).to)))].toArray 37) :: []))) (((List.Perm.cons _ ((List.Perm.append_left _ (List.Perm.refl _)).trans List.perm_middle)).trans (List.Perm.swap _ _ _)).trans ((List.Perm.cons _ ((List.Perm.cons _ (List.Perm.refl _)).trans List.perm_middle.symm)).trans List.perm_middle.symm)) ?_
      refine JX_subL (B1_1 ++ ((r1, Obj.cells [(Value.int .i64 (0)), (Value.string (bs ([] : Str))), (Value.int .i64 (0)), (Value.int .i64 (0))].toArray 37) :: [])) (List.Sublist.append (List.Sublist.refl _) (List.Sublist.cons_cons _ (List.nil_sublist _))) ?_
      exact JX_inv2 n_2 (x_1 + 1) ⟨by omega, (((hF3.pos hq1).pos hq2).neg hq3)⟩ (Nat.lt_succ_self _) (by repeat (first | exact SubE.nil | refine SubE.cons rfl ?_)) (List.Perm.refl _)
    refine JL_qg (q_move) (k := ?_)
    refine JL_qg (q_move) (k := ?_)
    refine JL_vg (args := [(Value.string (bs ((mAns (((cHolding l now).getD x_1 default).key) challenge name).1))), (Value.string (bs proof))]) (c_callA Tryz.call46) (fun w1 hw1 => mSame_ok w1 (a := ((mAns (((cHolding l now).getD x_1 default).key) challenge name).1)) (b := proof) (n_a := by first | omega | (simp only [List.length_append, List.length_take, List.length_drop, List.length_set, List.length_replicate, List.length_cons, List.length_nil, List.length_map, toS_length, toI_length]; omega) | (simp only [List.length_append, List.length_take, List.length_drop, List.length_set, List.length_replicate, List.length_cons, List.length_nil, List.length_map, toS_length, toI_length] at *; omega) | decide) (n_b := by first | omega | (simp only [List.length_append, List.length_take, List.length_drop, List.length_set, List.length_replicate, List.length_cons, List.length_nil, List.length_map, toS_length, toI_length]; omega) | (simp only [List.length_append, List.length_take, List.length_drop, List.length_set, List.length_replicate, List.length_cons, List.length_nil, List.length_map, toS_length, toI_length] at *; omega) | decide)) (k := ?_)
    refine JL_q (q_pickT) (k := ?_)
    refine JL_nil ?_
    refine JX_seq ?_
    refine J_cond rfl (fun hq4 => ?_) (fun hq4 => ?_)
    rotate_left
    · refine J_skip ?_
      refine JX_block ?_
      refine JX_seq ?_
      refine J_reg ?_
      refine JL_q (q_add) (k := ?_)
      refine JL_q (q_move) (k := ?_)
      refine JL_nil ?_
      refine JX_permL (B1_1 ++ ((r1, Obj.cells [(Value.int .i64 (0)), (Value.string (bs ([] : Str))), (Value.int .i64 (0)), (Value.int .i64 (0))].toArray 37) :: ((r2, Obj.cells [(Value.int .i64 ((((cHolding l now).getD x_1 default).id))), (Value.string (bs (((cHolding l now).getD x_1 default).key))), (Value.int .i64 ((((cHolding l now).getD x_1 default).frm))), (Value.int .i64 ((((cHolding l now).getD x_1 default).to)))].toArray 37) :: []))) (((List.Perm.cons _ ((List.Perm.append_left _ (List.Perm.refl _)).trans List.perm_middle)).trans (List.Perm.swap _ _ _)).trans ((List.Perm.cons _ ((List.Perm.cons _ (List.Perm.refl _)).trans List.perm_middle.symm)).trans List.perm_middle.symm)) ?_
      refine JX_subL (B1_1 ++ ((r1, Obj.cells [(Value.int .i64 (0)), (Value.string (bs ([] : Str))), (Value.int .i64 (0)), (Value.int .i64 (0))].toArray 37) :: [])) (List.Sublist.append (List.Sublist.refl _) (List.Sublist.cons_cons _ (List.nil_sublist _))) ?_
      exact JX_inv2 n_2 (x_1 + 1) ⟨by omega, ((((hF3.pos hq1).pos hq2).pos hq3).f hq4)⟩ (Nat.lt_succ_self _) (by repeat (first | exact SubE.nil | refine SubE.cons rfl ?_)) (List.Perm.refl _)
    refine J_seq ?_
    refine J_reg ?_
    refine JL_q (q_fld FO_37_0) (k := ?_)
    refine JL_q (q_load Tryz.isAgg3) (k := ?_)
    refine JL_q (q_assign) (k := ?_)
    refine JL_q (q_assign) (k := ?_)
    refine JL_nil ?_
    refine JX_seq ?_
    refine J_ret ?_
    refine JX_block_ret ?_
    refine JX_seq_ret ?_
    refine JX_inv_ret ?_
    refine JX_block_ret ?_
    refine JX_seq_ret ?_
    refine JX_ret Tryz.results21 (Res.tmp rfl (Res.tmp rfl Res.nil)) (fun w1 hw1 => ?_)
    exact ⟨(by rw [((hF.er1 ((((hF3.pos hq1).pos hq2).pos hq3).t hq4))).eq] <;> first | rfl | (simp only [List.length_set] <;> rfl)), hw1.ext_out⟩

theorem cRot_ok (w : World) {l_a : Option Addr} {l_c : Nat} {ea0 : Addr} {ea1 : Addr} {l : List Cred} {key : Str} {now : Int} {overlap : Int} {span : Int} (h_l : Sl w eCred 4 l_a l) (n_l : l.length ≤ 1000) (hG : Gl w) (hE : Er w ea0 ea1) : Calls Tryz.prog 11 (List.toArray [(Value.slice (l_a) (l.length) (l_c)), (Value.string (bs key)), (Value.int .i64 (now)), (Value.int .i64 (overlap)), (Value.int .i64 (span))]) w fun e w2 => ∃ a1 : Option Addr, ∃ c1 : Nat, ∃ B1 : Heap, e = .returned (Value.tuple [(Value.slice (a1) ((cRot l key now overlap span).1.length) (c1)), (Value.int .i64 (((cRot l key now overlap span).2.1))), (Value.int .i64 (((cRot l key now overlap span).2.2)))].toArray) ∧ Fresh w w2 B1 ∧ OwnB eCred 4 37 a1 c1 B1 (cRot l key now overlap span).1 ∧ (cRot l key now overlap span).1.length ≤ 4 := by
  have hF := Is.refl (cRot l key now overlap span)
  refine enter Tryz.func11 Tryz.ntmps11 (h := ?_)
  refine J_seq ?_
  refine J_reg ?_
  refine JL_q (q_assign) (k := ?_)
  refine JL_q (q_assign) (k := ?_)
  refine JL_q (q_assign) (k := ?_)
  refine JL_nil ?_
  refine JX_seq ?_
  refine J_seq ?_
  refine J_reg ?_
  refine JL_q (q_move) (k := ?_)
  refine JL_q (q_move) (k := ?_)
  refine JL_q (q_move) (k := ?_)
  refine JL_q (q_move) (k := ?_)
  refine JL_q (q_move) (k := ?_)
  refine JL_inl (args := [(Value.slice (l_a) (l.length) (l_c)), (Value.string (bs key)), (Value.int .i64 (now)), (Value.int .i64 (overlap)), (Value.int .i64 (span))]) (c_callA Tryz.call22) Tryz.func22 Tryz.ntmps22 ?_
  refine J_seq ?_
  refine J_reg ?_
  refine JL_a noMk (a_box (l := [_])) (k := fun r1 hr1 => ?_)
  refine JL_a noMk (a_box (l := [_])) (k := fun r2 hr2 => ?_)
  refine JL_q (q_assign) (k := ?_)
  refine JL_q (q_assign) (k := ?_)
  refine JL_q (q_assign) (k := ?_)
  refine JL_nil ?_
  refine JX_seq ?_
  refine J_seq ?_
  refine J_block ?_
  refine J_seq ?_
  refine J_reg ?_
  refine JL_q (q_move) (k := ?_)
  refine JL_v (args := [(Value.slice (l_a) (l.length) (l_c))]) (c_callA Tryz.call16) (fun w1 hw1 => cRight_ok w1 (l := l) (h_l := (SlJ.of_base h_l) w1 hw1) (n_l := by first | omega | (simp only [List.length_append, List.length_take, List.length_drop, List.length_set, List.length_replicate, List.length_cons, List.length_nil, List.length_map, toS_length, toI_length]; omega) | (simp only [List.length_append, List.length_take, List.length_drop, List.length_set, List.length_replicate, List.length_cons, List.length_nil, List.length_map, toS_length, toI_length] at *; omega) | decide)) (k := ?_)
  refine JL_q (q_not) (k := ?_)
  refine JL_q (q_assign) (k := ?_)
  refine JL_nil ?_
  refine JX_seq ?_
  refine J_cond rfl (fun hq1 => ?_) (fun hq1 => ?_)
  · refine J_seq ?_
    refine J_reg ?_
    refine JL_q (q_build (cs := [_]) Tryz.zeroValue75 PL_75) (k := ?_)
    refine JL_q (q_mkI Tryz.underlying75) (k := ?_)
    refine JL_q (q_assign) (k := ?_)
    refine JL_q (q_assign) (k := ?_)
    refine JL_q (q_assign) (k := ?_)
    refine JL_nil ?_
    refine JX_seq ?_
    refine J_ret ?_
    refine JX_block_ret ?_
    refine JX_seq_ret ?_
    refine JX_retI Tryz.results22 (Res.tmp rfl (Res.tmp rfl (Res.tmp rfl Res.nil))) ?_
    refine JL_q (q_move) (k := ?_)
    refine JL_q (q_ext) (k := ?_)
    refine JL_q (q_ext) (k := ?_)
    refine JL_q (q_ext) (k := ?_)
    refine JL_q (q_assign) (k := ?_)
    refine JL_q (q_assign) (k := ?_)
    refine JL_q (q_assign) (k := ?_)
    refine JL_nil ?_
    refine JX_seq ?_
    refine J_seq ?_
    refine J_reg ?_
    refine JL_q (q_move) (k := ?_)
    refine JL_q (q_move) (k := ?_)
    refine JL_q (q_move) (k := ?_)
    refine JL_inl (args := [(Value.iface 75 (Value.agg [(Value.int .i64 (110))].toArray))]) (c_callA Tryz.call23) Tryz.func23 Tryz.ntmps23 ?_
    refine J_seq ?_
    refine J_reg ?_
    refine JL_q (q_assign) (k := ?_)
    refine JL_nil ?_
    refine JX_seq ?_
    refine J_seq ?_
    refine J_reg ?_
    refine JL_a noMk (a_alloc (l := [_]) Tryz.zeroValue75) (k := fun r3 hr3 => ?_)
    refine JL_nil ?_
    refine JX_seq ?_
    refine J_seq ?_
    refine J_seq ?_
    refine J_reg ?_
    refine JL_q (q_move) (k := ?_)
    refine JL_q (q_mkI Tryz.underlying77) (k := ?_)
    refine JL_p (args := [(Value.iface 75 (Value.agg [(Value.int .i64 (110))].toArray)), (Value.iface 77 (Value.pointer (some ⟨r3, 0, none⟩)))]) (c_callA Tryz.call49) (fun w1 hw1 => as_hit_t w1 (hG.ext hw1.ext_out).ety (hw1.own _ (by repeat (first | exact List.mem_cons_self | apply List.mem_cons_of_mem | apply List.mem_append_right)))) (k := ?_)
    rintro w1_1 e1_1 w2_1 hw1_1 ⟨he_1, hT_1⟩
    refine ⟨_, ((r3, Obj.cells [(Value.int .i64 (110))].toArray 75) :: ((r2, Obj.cells [(Value.int .i64 (overlap))].toArray 3) :: ((r1, Obj.cells [(Value.int .i64 (now))].toArray 3) :: []))), he_1, (hw1_1.perm (List.Perm.refl _)).tr hT_1, ?_⟩
    refine JL_nil ?_
    refine JX_seq ?_
    refine J_true rfl ?_
    refine J_seq ?_
    refine J_reg ?_
    refine JL_q (q_fld FO_75_0) (k := ?_)
    refine JL_q (q_load Tryz.isAgg26) (k := ?_)
    refine JL_q (q_assign) (k := ?_)
    refine JL_nil ?_
    refine JX_seq ?_
    refine J_ret ?_
    refine JX_seq_ret ?_
    refine JX_retI Tryz.results23 (Res.tmp rfl Res.nil) ?_
    refine JL_q (q_assign) (k := ?_)
    refine JL_q (q_assign) (k := ?_)
    refine JL_q (q_assign) (k := ?_)
    refine JL_nil ?_
    refine JX_seq ?_
    refine J_ret ?_
    refine JX_ret Tryz.results11 (Res.tmp rfl (Res.tmp rfl (Res.tmp rfl Res.nil))) (fun w1 hw1 => ?_)
    exact ⟨none, 0, [], (by rw [((hF.t hq1)).eq] <;> first | rfl | (simp only [List.length_set] <;> rfl)), (hw1.fresh_out.sub (List.nil_sublist _)), (by rw [((hF.t hq1)).eq]; exact OwnB.nil), (by rw [((hF.t hq1)).eq]; first | omega | (simp only [List.length_append, List.length_take, List.length_drop, List.length_set, List.length_replicate, List.length_cons, List.length_nil, List.length_map, toS_length, toI_length]; omega) | (simp only [List.length_append, List.length_take, List.length_drop, List.length_set, List.length_replicate, List.length_cons, List.length_nil, List.length_map, toS_length, toI_length] at *; omega))⟩
  have hfhq1 := cRight_t (by simpa using hq1)
  refine J_seq ?_
  refine J_reg ?_
  refine JL_q (q_move) (k := ?_)
  refine JL_v (args := [(Value.string (bs key))]) (c_callA Tryz.call47) (fun w1 hw1 => mRight_ok w1 (key := key)) (k := ?_)
  refine JL_q (q_not) (k := ?_)
  refine JL_q (q_assign) (k := ?_)
  refine JL_nil ?_
  refine JX_seq ?_
  refine J_cond rfl (fun hq2 => ?_) (fun hq2 => ?_)
  · refine J_seq ?_
    refine J_reg ?_
    refine JL_q (q_build (cs := [_]) Tryz.zeroValue75 PL_75) (k := ?_)
    refine JL_q (q_mkI Tryz.underlying75) (k := ?_)
    refine JL_q (q_assign) (k := ?_)
    refine JL_q (q_assign) (k := ?_)
    refine JL_q (q_assign) (k := ?_)
    refine JL_nil ?_
    refine JX_seq ?_
    refine J_ret ?_
    refine JX_block_ret ?_
    refine JX_seq_ret ?_
    refine JX_retI Tryz.results22 (Res.tmp rfl (Res.tmp rfl (Res.tmp rfl Res.nil))) ?_
    refine JL_q (q_move) (k := ?_)
    refine JL_q (q_ext) (k := ?_)
    refine JL_q (q_ext) (k := ?_)
    refine JL_q (q_ext) (k := ?_)
    refine JL_q (q_assign) (k := ?_)
    refine JL_q (q_assign) (k := ?_)
    refine JL_q (q_assign) (k := ?_)
    refine JL_nil ?_
    refine JX_seq ?_
    refine J_seq ?_
    refine J_reg ?_
    refine JL_q (q_move) (k := ?_)
    refine JL_q (q_move) (k := ?_)
    refine JL_q (q_move) (k := ?_)
    refine JL_inl (args := [(Value.iface 75 (Value.agg [(Value.int .i64 (50))].toArray))]) (c_callA Tryz.call23) Tryz.func23 Tryz.ntmps23 ?_
    refine J_seq ?_
    refine J_reg ?_
    refine JL_q (q_assign) (k := ?_)
    refine JL_nil ?_
    refine JX_seq ?_
    refine J_seq ?_
    refine J_reg ?_
    refine JL_a noMk (a_alloc (l := [_]) Tryz.zeroValue75) (k := fun r4 hr4 => ?_)
    refine JL_nil ?_
    refine JX_seq ?_
    refine J_seq ?_
    refine J_seq ?_
    refine J_reg ?_
    refine JL_q (q_move) (k := ?_)
    refine JL_q (q_mkI Tryz.underlying77) (k := ?_)
    refine JL_p (args := [(Value.iface 75 (Value.agg [(Value.int .i64 (50))].toArray)), (Value.iface 77 (Value.pointer (some ⟨r4, 0, none⟩)))]) (c_callA Tryz.call49) (fun w1 hw1 => as_hit_t w1 (hG.ext hw1.ext_out).ety (hw1.own _ (by repeat (first | exact List.mem_cons_self | apply List.mem_cons_of_mem | apply List.mem_append_right)))) (k := ?_)
    rintro w1_2 e1_2 w2_2 hw1_2 ⟨he_2, hT_2⟩
    refine ⟨_, ((r4, Obj.cells [(Value.int .i64 (50))].toArray 75) :: ((r2, Obj.cells [(Value.int .i64 (overlap))].toArray 3) :: ((r1, Obj.cells [(Value.int .i64 (now))].toArray 3) :: []))), he_2, (hw1_2.perm (List.Perm.refl _)).tr hT_2, ?_⟩
    refine JL_nil ?_
    refine JX_seq ?_
    refine J_true rfl ?_
    refine J_seq ?_
    refine J_reg ?_
    refine JL_q (q_fld FO_75_0) (k := ?_)
    refine JL_q (q_load Tryz.isAgg26) (k := ?_)
    refine JL_q (q_assign) (k := ?_)
    refine JL_nil ?_
    refine JX_seq ?_
    refine J_ret ?_
    refine JX_seq_ret ?_
    refine JX_retI Tryz.results23 (Res.tmp rfl Res.nil) ?_
    refine JL_q (q_assign) (k := ?_)
    refine JL_q (q_assign) (k := ?_)
    refine JL_q (q_assign) (k := ?_)
    refine JL_nil ?_
    refine JX_seq ?_
    refine J_ret ?_
    refine JX_ret Tryz.results11 (Res.tmp rfl (Res.tmp rfl (Res.tmp rfl Res.nil))) (fun w1 hw1 => ?_)
    exact ⟨none, 0, [], (by rw [(((hF.f hq1).t hq2)).eq] <;> first | rfl | (simp only [List.length_set] <;> rfl)), (hw1.fresh_out.sub (List.nil_sublist _)), (by rw [(((hF.f hq1).t hq2)).eq]; exact OwnB.nil), (by rw [(((hF.f hq1).t hq2)).eq]; first | omega | (simp only [List.length_append, List.length_take, List.length_drop, List.length_set, List.length_replicate, List.length_cons, List.length_nil, List.length_map, toS_length, toI_length]; omega) | (simp only [List.length_append, List.length_take, List.length_drop, List.length_set, List.length_replicate, List.length_cons, List.length_nil, List.length_map, toS_length, toI_length] at *; omega))⟩
  refine J_seq ?_
  refine J_reg ?_
  refine JL_q (q_load Tryz.isAgg3) (k := ?_)
  refine JL_v (args := [(Value.int .i64 (now)), (Value.int .i64 (0)), (Value.int .i64 (1000000000000))]) (c_callA Tryz.call26) (fun w1 hw1 => cIsIn_ok w1 (n_ := now) (least := 0) (most := 1000000000000)) (k := ?_)
  refine JL_q (q_not) (k := ?_)
  refine JL_q (q_move) (k := ?_)
  refine JL_bool 31 rfl (fun hq3 => ?_) (fun hq3 => ?_)
  · refine JL_skips 3 rfl ?_
    refine JL_q (q_pickT) (k := ?_)
    refine JL_q (q_move) (k := ?_)
    refine JL_skips 3 rfl ?_
    refine JL_q (q_pickT) (k := ?_)
    refine JL_q (q_move) (k := ?_)
    refine JL_skips 4 rfl ?_
    refine JL_q (q_pickT) (k := ?_)
    refine JL_q (q_assign) (k := ?_)
    refine JL_nil ?_
    refine JX_seq ?_
    refine J_true rfl ?_
    refine J_seq ?_
    refine J_reg ?_
    refine JL_q (q_build (cs := [_]) Tryz.zeroValue75 PL_75) (k := ?_)
    refine JL_q (q_mkI Tryz.underlying75) (k := ?_)
    refine JL_q (q_assign) (k := ?_)
    refine JL_q (q_assign) (k := ?_)
    refine JL_q (q_assign) (k := ?_)
    refine JL_nil ?_
    refine JX_seq ?_
    refine J_ret ?_
    refine JX_block_ret ?_
    refine JX_seq_ret ?_
    refine JX_retI Tryz.results22 (Res.tmp rfl (Res.tmp rfl (Res.tmp rfl Res.nil))) ?_
    refine JL_q (q_move) (k := ?_)
    refine JL_q (q_ext) (k := ?_)
    refine JL_q (q_ext) (k := ?_)
    refine JL_q (q_ext) (k := ?_)
    refine JL_q (q_assign) (k := ?_)
    refine JL_q (q_assign) (k := ?_)
    refine JL_q (q_assign) (k := ?_)
    refine JL_nil ?_
    refine JX_seq ?_
    refine J_seq ?_
    refine J_reg ?_
    refine JL_q (q_move) (k := ?_)
    refine JL_q (q_move) (k := ?_)
    refine JL_q (q_move) (k := ?_)
    refine JL_inl (args := [(Value.iface 75 (Value.agg [(Value.int .i64 (2))].toArray))]) (c_callA Tryz.call23) Tryz.func23 Tryz.ntmps23 ?_
    refine J_seq ?_
    refine J_reg ?_
    refine JL_q (q_assign) (k := ?_)
    refine JL_nil ?_
    refine JX_seq ?_
    refine J_seq ?_
    refine J_reg ?_
    refine JL_a noMk (a_alloc (l := [_]) Tryz.zeroValue75) (k := fun r5 hr5 => ?_)
    refine JL_nil ?_
    refine JX_seq ?_
    refine J_seq ?_
    refine J_seq ?_
    refine J_reg ?_
    refine JL_q (q_move) (k := ?_)
    refine JL_q (q_mkI Tryz.underlying77) (k := ?_)
    refine JL_p (args := [(Value.iface 75 (Value.agg [(Value.int .i64 (2))].toArray)), (Value.iface 77 (Value.pointer (some ⟨r5, 0, none⟩)))]) (c_callA Tryz.call49) (fun w1 hw1 => as_hit_t w1 (hG.ext hw1.ext_out).ety (hw1.own _ (by repeat (first | exact List.mem_cons_self | apply List.mem_cons_of_mem | apply List.mem_append_right)))) (k := ?_)
    rintro w1_3 e1_3 w2_3 hw1_3 ⟨he_3, hT_3⟩
    refine ⟨_, ((r5, Obj.cells [(Value.int .i64 (2))].toArray 75) :: ((r2, Obj.cells [(Value.int .i64 (overlap))].toArray 3) :: ((r1, Obj.cells [(Value.int .i64 (now))].toArray 3) :: []))), he_3, (hw1_3.perm (List.Perm.refl _)).tr hT_3, ?_⟩
    refine JL_nil ?_
    refine JX_seq ?_
    refine J_true rfl ?_
    refine J_seq ?_
    refine J_reg ?_
    refine JL_q (q_fld FO_75_0) (k := ?_)
    refine JL_q (q_load Tryz.isAgg26) (k := ?_)
    refine JL_q (q_assign) (k := ?_)
    refine JL_nil ?_
    refine JX_seq ?_
    refine J_ret ?_
    refine JX_seq_ret ?_
    refine JX_retI Tryz.results23 (Res.tmp rfl Res.nil) ?_
    refine JL_q (q_assign) (k := ?_)
    refine JL_q (q_assign) (k := ?_)
    refine JL_q (q_assign) (k := ?_)
    refine JL_nil ?_
    refine JX_seq ?_
    refine J_ret ?_
    refine JX_ret Tryz.results11 (Res.tmp rfl (Res.tmp rfl (Res.tmp rfl Res.nil))) (fun w1 hw1 => ?_)
    exact ⟨none, 0, [], (by rw [((((hF.f hq1).f hq2).t hq3)).eq] <;> first | rfl | (simp only [List.length_set] <;> rfl)), (hw1.fresh_out.sub (List.nil_sublist _)), (by rw [((((hF.f hq1).f hq2).t hq3)).eq]; exact OwnB.nil), (by rw [((((hF.f hq1).f hq2).t hq3)).eq]; first | omega | (simp only [List.length_append, List.length_take, List.length_drop, List.length_set, List.length_replicate, List.length_cons, List.length_nil, List.length_map, toS_length, toI_length]; omega) | (simp only [List.length_append, List.length_take, List.length_drop, List.length_set, List.length_replicate, List.length_cons, List.length_nil, List.length_map, toS_length, toI_length] at *; omega))⟩
  have hfhq3 := cIsIn_t (by simpa using hq3)
  refine JL_qg (q_load Tryz.isAgg3) (k := ?_)
  refine JL_vg (args := [(Value.int .i64 (overlap)), (Value.int .i64 (0)), (Value.int .i64 (1000000000))]) (c_callA Tryz.call26) (fun w1 hw1 => cIsIn_ok w1 (n_ := overlap) (least := 0) (most := 1000000000)) (k := ?_)
  refine JL_qg (q_not) (k := ?_)
  refine JL_q (q_pickF) (k := ?_)
  refine JL_q (q_move) (k := ?_)
  refine JL_bool 36 rfl (fun hq4 => ?_) (fun hq4 => ?_)
  · refine JL_skips 3 rfl ?_
    refine JL_q (q_pickT) (k := ?_)
    refine JL_q (q_move) (k := ?_)
    refine JL_skips 4 rfl ?_
    refine JL_q (q_pickT) (k := ?_)
    refine JL_q (q_assign) (k := ?_)
    refine JL_nil ?_
    refine JX_seq ?_
    refine J_true rfl ?_
    refine J_seq ?_
    refine J_reg ?_
    refine JL_q (q_build (cs := [_]) Tryz.zeroValue75 PL_75) (k := ?_)
    refine JL_q (q_mkI Tryz.underlying75) (k := ?_)
    refine JL_q (q_assign) (k := ?_)
    refine JL_q (q_assign) (k := ?_)
    refine JL_q (q_assign) (k := ?_)
    refine JL_nil ?_
    refine JX_seq ?_
    refine J_ret ?_
    refine JX_block_ret ?_
    refine JX_seq_ret ?_
    refine JX_retI Tryz.results22 (Res.tmp rfl (Res.tmp rfl (Res.tmp rfl Res.nil))) ?_
    refine JL_q (q_move) (k := ?_)
    refine JL_q (q_ext) (k := ?_)
    refine JL_q (q_ext) (k := ?_)
    refine JL_q (q_ext) (k := ?_)
    refine JL_q (q_assign) (k := ?_)
    refine JL_q (q_assign) (k := ?_)
    refine JL_q (q_assign) (k := ?_)
    refine JL_nil ?_
    refine JX_seq ?_
    refine J_seq ?_
    refine J_reg ?_
    refine JL_q (q_move) (k := ?_)
    refine JL_q (q_move) (k := ?_)
    refine JL_q (q_move) (k := ?_)
    refine JL_inl (args := [(Value.iface 75 (Value.agg [(Value.int .i64 (2))].toArray))]) (c_callA Tryz.call23) Tryz.func23 Tryz.ntmps23 ?_
    refine J_seq ?_
    refine J_reg ?_
    refine JL_q (q_assign) (k := ?_)
    refine JL_nil ?_
    refine JX_seq ?_
    refine J_seq ?_
    refine J_reg ?_
    refine JL_a noMk (a_alloc (l := [_]) Tryz.zeroValue75) (k := fun r6 hr6 => ?_)
    refine JL_nil ?_
    refine JX_seq ?_
    refine J_seq ?_
    refine J_seq ?_
    refine J_reg ?_
    refine JL_q (q_move) (k := ?_)
    refine JL_q (q_mkI Tryz.underlying77) (k := ?_)
    refine JL_p (args := [(Value.iface 75 (Value.agg [(Value.int .i64 (2))].toArray)), (Value.iface 77 (Value.pointer (some ⟨r6, 0, none⟩)))]) (c_callA Tryz.call49) (fun w1 hw1 => as_hit_t w1 (hG.ext hw1.ext_out).ety (hw1.own _ (by repeat (first | exact List.mem_cons_self | apply List.mem_cons_of_mem | apply List.mem_append_right)))) (k := ?_)
    rintro w1_4 e1_4 w2_4 hw1_4 ⟨he_4, hT_4⟩
    refine ⟨_, ((r6, Obj.cells [(Value.int .i64 (2))].toArray 75) :: ((r2, Obj.cells [(Value.int .i64 (overlap))].toArray 3) :: ((r1, Obj.cells [(Value.int .i64 (now))].toArray 3) :: []))), he_4, (hw1_4.perm (List.Perm.refl _)).tr hT_4, ?_⟩
    refine JL_nil ?_
    refine JX_seq ?_
    refine J_true rfl ?_
    refine J_seq ?_
    refine J_reg ?_
    refine JL_q (q_fld FO_75_0) (k := ?_)
    refine JL_q (q_load Tryz.isAgg26) (k := ?_)
    refine JL_q (q_assign) (k := ?_)
    refine JL_nil ?_
    refine JX_seq ?_
    refine J_ret ?_
    refine JX_seq_ret ?_
    refine JX_retI Tryz.results23 (Res.tmp rfl Res.nil) ?_
    refine JL_q (q_assign) (k := ?_)
    refine JL_q (q_assign) (k := ?_)
    refine JL_q (q_assign) (k := ?_)
    refine JL_nil ?_
    refine JX_seq ?_
    refine J_ret ?_
    refine JX_ret Tryz.results11 (Res.tmp rfl (Res.tmp rfl (Res.tmp rfl Res.nil))) (fun w1 hw1 => ?_)
    exact ⟨none, 0, [], (by rw [(((((hF.f hq1).f hq2).f hq3).t hq4)).eq] <;> first | rfl | (simp only [List.length_set] <;> rfl)), (hw1.fresh_out.sub (List.nil_sublist _)), (by rw [(((((hF.f hq1).f hq2).f hq3).t hq4)).eq]; exact OwnB.nil), (by rw [(((((hF.f hq1).f hq2).f hq3).t hq4)).eq]; first | omega | (simp only [List.length_append, List.length_take, List.length_drop, List.length_set, List.length_replicate, List.length_cons, List.length_nil, List.length_map, toS_length, toI_length]; omega) | (simp only [List.length_append, List.length_take, List.length_drop, List.length_set, List.length_replicate, List.length_cons, List.length_nil, List.length_map, toS_length, toI_length] at *; omega))⟩
  have hfhq4 := cIsIn_t (by simpa using hq4)
  refine JL_qg (q_move) (k := ?_)
  refine JL_vg (args := [(Value.int .i64 (span)), (Value.int .i64 (1)), (Value.int .i64 (1000000000))]) (c_callA Tryz.call26) (fun w1 hw1 => cIsIn_ok w1 (n_ := span) (least := 1) (most := 1000000000)) (k := ?_)
  refine JL_qg (q_not) (k := ?_)
  refine JL_q (q_pickF) (k := ?_)
  refine JL_q (q_move) (k := ?_)
  refine JL_bool 41 rfl (fun hq5 => ?_) (fun hq5 => ?_)
  · refine JL_skips 4 rfl ?_
    refine JL_q (q_pickT) (k := ?_)
    refine JL_q (q_assign) (k := ?_)
    refine JL_nil ?_
    refine JX_seq ?_
    refine J_true rfl ?_
    refine J_seq ?_
    refine J_reg ?_
    refine JL_q (q_build (cs := [_]) Tryz.zeroValue75 PL_75) (k := ?_)
    refine JL_q (q_mkI Tryz.underlying75) (k := ?_)
    refine JL_q (q_assign) (k := ?_)
    refine JL_q (q_assign) (k := ?_)
    refine JL_q (q_assign) (k := ?_)
    refine JL_nil ?_
    refine JX_seq ?_
    refine J_ret ?_
    refine JX_block_ret ?_
    refine JX_seq_ret ?_
    refine JX_retI Tryz.results22 (Res.tmp rfl (Res.tmp rfl (Res.tmp rfl Res.nil))) ?_
    refine JL_q (q_move) (k := ?_)
    refine JL_q (q_ext) (k := ?_)
    refine JL_q (q_ext) (k := ?_)
    refine JL_q (q_ext) (k := ?_)
    refine JL_q (q_assign) (k := ?_)
    refine JL_q (q_assign) (k := ?_)
    refine JL_q (q_assign) (k := ?_)
    refine JL_nil ?_
    refine JX_seq ?_
    refine J_seq ?_
    refine J_reg ?_
    refine JL_q (q_move) (k := ?_)
    refine JL_q (q_move) (k := ?_)
    refine JL_q (q_move) (k := ?_)
    refine JL_inl (args := [(Value.iface 75 (Value.agg [(Value.int .i64 (2))].toArray))]) (c_callA Tryz.call23) Tryz.func23 Tryz.ntmps23 ?_
    refine J_seq ?_
    refine J_reg ?_
    refine JL_q (q_assign) (k := ?_)
    refine JL_nil ?_
    refine JX_seq ?_
    refine J_seq ?_
    refine J_reg ?_
    refine JL_a noMk (a_alloc (l := [_]) Tryz.zeroValue75) (k := fun r7 hr7 => ?_)
    refine JL_nil ?_
    refine JX_seq ?_
    refine J_seq ?_
    refine J_seq ?_
    refine J_reg ?_
    refine JL_q (q_move) (k := ?_)
    refine JL_q (q_mkI Tryz.underlying77) (k := ?_)
    refine JL_p (args := [(Value.iface 75 (Value.agg [(Value.int .i64 (2))].toArray)), (Value.iface 77 (Value.pointer (some ⟨r7, 0, none⟩)))]) (c_callA Tryz.call49) (fun w1 hw1 => as_hit_t w1 (hG.ext hw1.ext_out).ety (hw1.own _ (by repeat (first | exact List.mem_cons_self | apply List.mem_cons_of_mem | apply List.mem_append_right)))) (k := ?_)
    rintro w1_5 e1_5 w2_5 hw1_5 ⟨he_5, hT_5⟩
    refine ⟨_, ((r7, Obj.cells [(Value.int .i64 (2))].toArray 75) :: ((r2, Obj.cells [(Value.int .i64 (overlap))].toArray 3) :: ((r1, Obj.cells [(Value.int .i64 (now))].toArray 3) :: []))), he_5, (hw1_5.perm (List.Perm.refl _)).tr hT_5, ?_⟩
    refine JL_nil ?_
    refine JX_seq ?_
    refine J_true rfl ?_
    refine J_seq ?_
    refine J_reg ?_
    refine JL_q (q_fld FO_75_0) (k := ?_)
    refine JL_q (q_load Tryz.isAgg26) (k := ?_)
    refine JL_q (q_assign) (k := ?_)
    refine JL_nil ?_
    refine JX_seq ?_
    refine J_ret ?_
    refine JX_seq_ret ?_
    refine JX_retI Tryz.results23 (Res.tmp rfl Res.nil) ?_
    refine JL_q (q_assign) (k := ?_)
    refine JL_q (q_assign) (k := ?_)
    refine JL_q (q_assign) (k := ?_)
    refine JL_nil ?_
    refine JX_seq ?_
    refine J_ret ?_
    refine JX_ret Tryz.results11 (Res.tmp rfl (Res.tmp rfl (Res.tmp rfl Res.nil))) (fun w1 hw1 => ?_)
    exact ⟨none, 0, [], (by rw [((((((hF.f hq1).f hq2).f hq3).f hq4).t hq5)).eq] <;> first | rfl | (simp only [List.length_set] <;> rfl)), (hw1.fresh_out.sub (List.nil_sublist _)), (by rw [((((((hF.f hq1).f hq2).f hq3).f hq4).t hq5)).eq]; exact OwnB.nil), (by rw [((((((hF.f hq1).f hq2).f hq3).f hq4).t hq5)).eq]; first | omega | (simp only [List.length_append, List.length_take, List.length_drop, List.length_set, List.length_replicate, List.length_cons, List.length_nil, List.length_map, toS_length, toI_length]; omega) | (simp only [List.length_append, List.length_take, List.length_drop, List.length_set, List.length_replicate, List.length_cons, List.length_nil, List.length_map, toS_length, toI_length] at *; omega))⟩
  have hfhq5 := cIsIn_t (by simpa using hq5)
  refine JL_qg (q_load Tryz.isAgg3) (k := ?_)
  refine JL_qg (q_move) (k := ?_)
  refine JL_qg (q_add) (k := ?_)
  refine JL_qg (q_gtr) (k := ?_)
  refine JL_q (q_pickF) (k := ?_)
  refine JL_q (q_assign) (k := ?_)
  refine JL_nil ?_
  refine JX_seq ?_
  refine J_dec rfl (fun hq6 => ?_) (fun hq6 => ?_)
  · refine J_seq ?_
    refine J_reg ?_
    refine JL_q (q_build (cs := [_]) Tryz.zeroValue75 PL_75) (k := ?_)
    refine JL_q (q_mkI Tryz.underlying75) (k := ?_)
    refine JL_q (q_assign) (k := ?_)
    refine JL_q (q_assign) (k := ?_)
    refine JL_q (q_assign) (k := ?_)
    refine JL_nil ?_
    refine JX_seq ?_
    refine J_ret ?_
    refine JX_block_ret ?_
    refine JX_seq_ret ?_
    refine JX_retI Tryz.results22 (Res.tmp rfl (Res.tmp rfl (Res.tmp rfl Res.nil))) ?_
    refine JL_q (q_move) (k := ?_)
    refine JL_q (q_ext) (k := ?_)
    refine JL_q (q_ext) (k := ?_)
    refine JL_q (q_ext) (k := ?_)
    refine JL_q (q_assign) (k := ?_)
    refine JL_q (q_assign) (k := ?_)
    refine JL_q (q_assign) (k := ?_)
    refine JL_nil ?_
    refine JX_seq ?_
    refine J_seq ?_
    refine J_reg ?_
    refine JL_q (q_move) (k := ?_)
    refine JL_q (q_move) (k := ?_)
    refine JL_q (q_move) (k := ?_)
    refine JL_inl (args := [(Value.iface 75 (Value.agg [(Value.int .i64 (2))].toArray))]) (c_callA Tryz.call23) Tryz.func23 Tryz.ntmps23 ?_
    refine J_seq ?_
    refine J_reg ?_
    refine JL_q (q_assign) (k := ?_)
    refine JL_nil ?_
    refine JX_seq ?_
    refine J_seq ?_
    refine J_reg ?_
    refine JL_a noMk (a_alloc (l := [_]) Tryz.zeroValue75) (k := fun r8 hr8 => ?_)
    refine JL_nil ?_
    refine JX_seq ?_
    refine J_seq ?_
    refine J_seq ?_
    refine J_reg ?_
    refine JL_q (q_move) (k := ?_)
    refine JL_q (q_mkI Tryz.underlying77) (k := ?_)
    refine JL_p (args := [(Value.iface 75 (Value.agg [(Value.int .i64 (2))].toArray)), (Value.iface 77 (Value.pointer (some ⟨r8, 0, none⟩)))]) (c_callA Tryz.call49) (fun w1 hw1 => as_hit_t w1 (hG.ext hw1.ext_out).ety (hw1.own _ (by repeat (first | exact List.mem_cons_self | apply List.mem_cons_of_mem | apply List.mem_append_right)))) (k := ?_)
    rintro w1_6 e1_6 w2_6 hw1_6 ⟨he_6, hT_6⟩
    refine ⟨_, ((r8, Obj.cells [(Value.int .i64 (2))].toArray 75) :: ((r2, Obj.cells [(Value.int .i64 (overlap))].toArray 3) :: ((r1, Obj.cells [(Value.int .i64 (now))].toArray 3) :: []))), he_6, (hw1_6.perm (List.Perm.refl _)).tr hT_6, ?_⟩
    refine JL_nil ?_
    refine JX_seq ?_
    refine J_true rfl ?_
    refine J_seq ?_
    refine J_reg ?_
    refine JL_q (q_fld FO_75_0) (k := ?_)
    refine JL_q (q_load Tryz.isAgg26) (k := ?_)
    refine JL_q (q_assign) (k := ?_)
    refine JL_nil ?_
    refine JX_seq ?_
    refine J_ret ?_
    refine JX_seq_ret ?_
    refine JX_retI Tryz.results23 (Res.tmp rfl Res.nil) ?_
    refine JL_q (q_assign) (k := ?_)
    refine JL_q (q_assign) (k := ?_)
    refine JL_q (q_assign) (k := ?_)
    refine JL_nil ?_
    refine JX_seq ?_
    refine J_ret ?_
    refine JX_ret Tryz.results11 (Res.tmp rfl (Res.tmp rfl (Res.tmp rfl Res.nil))) (fun w1 hw1 => ?_)
    exact ⟨none, 0, [], (by rw [(((((((hF.f hq1).f hq2).f hq3).f hq4).f hq5).pos hq6)).eq] <;> first | rfl | (simp only [List.length_set] <;> rfl)), (hw1.fresh_out.sub (List.nil_sublist _)), (by rw [(((((((hF.f hq1).f hq2).f hq3).f hq4).f hq5).pos hq6)).eq]; exact OwnB.nil), (by rw [(((((((hF.f hq1).f hq2).f hq3).f hq4).f hq5).pos hq6)).eq]; first | omega | (simp only [List.length_append, List.length_take, List.length_drop, List.length_set, List.length_replicate, List.length_cons, List.length_nil, List.length_map, toS_length, toI_length]; omega) | (simp only [List.length_append, List.length_take, List.length_drop, List.length_set, List.length_replicate, List.length_cons, List.length_nil, List.length_map, toS_length, toI_length] at *; omega))⟩
  refine J_skip ?_
  refine JX_block ?_
  refine JX_seq ?_
  refine J_seq ?_
  refine J_reg ?_
  refine JL_a noMk (a_alloc (l := [_]) Tryz.zeroValue3) (k := fun r9 hr9 => ?_)
  refine JL_s (w_store (l' := [_]) Tryz.sizeOf3) (k := ?_)
  refine JL_nil ?_
  refine JX_seq ?_
  refine J_seq ?_
  refine J_reg ?_
  refine JL_q (q_move) (k := ?_)
  refine JL_q (q_func) (k := ?_)
  refine JL_inl (args := [(Value.slice (l_a) (l.length) (l_c)), (Value.func (.func 48) [].toArray [(Value.pointer (some ⟨r9, 0, none⟩)), (Value.pointer (some ⟨r1, 0, none⟩)), (Value.pointer (some ⟨r2, 0, none⟩))].toArray)]) (c_callA Tryz.call27) Tryz.func27 Tryz.ntmps27 ?_
  refine J_seq ?_
  refine J_reg ?_
  refine JL_q (q_assign) (k := ?_)
  refine JL_nil ?_
  refine JX_seq ?_
  refine J_seq ?_
  refine J_reg ?_
  refine JL_q (q_assign) (k := ?_)
  refine JL_nil ?_
  refine JX_seq ?_
  refine J_seq ?_
  refine J_seq ?_
  refine J_reg ?_
  refine JL_q (q_move) (k := ?_)
  refine JL_q (q_lenS Tryz.runUnderlying22) (k := ?_)
  refine JL_q (q_move) (k := ?_)
  refine JL_nil ?_
  refine JX_seq ?_
  refine J_block ?_
  refine J_loop7 (σ1 := Nat) (σ2 := Nat) (σ3 := List Cred) (σ4 := Option Addr) (σ5 := Nat) (σ6 := Heap) (σ7 := Int) (fun n_4 x_1 out_2 out_2a out_2c out_2B x_3 => (out_2B ++ ((r9, Obj.cells [(Value.int .i64 (x_3))].toArray 3) :: ((r2, Obj.cells [(Value.int .i64 (overlap))].toArray 3) :: ((r1, Obj.cells [(Value.int .i64 (now))].toArray 3) :: []))))) (fun n_4 x_1 out_2 out_2a out_2c out_2B x_3 => [(1, (Value.func (.func 48) [].toArray [(Value.pointer (some ⟨r9, 0, none⟩)), (Value.pointer (some ⟨r1, 0, none⟩)), (Value.pointer (some ⟨r2, 0, none⟩))].toArray)), (4, (Value.slice (none) (0) (0))), (5, (Value.slice (out_2a) (out_2.length) (out_2c))), (8, (Value.slice (l_a) (l.length) (l_c))), (9, (Value.int .i64 (((l.length : Nat) : Int)))), (10, (Value.int .i64 (((x_1 : Nat) : Int))))]) (fun n_4 x_1 out_2 out_2a out_2c out_2B x_3 => l.length - x_1 < n_4 ∧ Is (cRot_l0 l key now overlap span (l.length + 1) 0 [] 1) (cRot_l0 l key now overlap span n_4 x_1 out_2 x_3) ∧ OwnB eCred 4 37 out_2a out_2c out_2B out_2 ∧ out_2.length ≤ x_1 ∧ x_1 ≤ l.length) (fun n_4 x_1 out_2 out_2a out_2c out_2B x_3 => n_4) (l.length + 1) 0 ([]) none 0 ([]) 1 ?_ (by repeat (first | exact SubE.nil | refine SubE.cons rfl ?_)) (List.Perm.refl _) ?_
  · exact ⟨Nat.lt_succ_self _, Is.refl _, OwnB.nil, (by first | omega | rfl | (simp; done)), (by first | omega | rfl | (simp; done))⟩
  · rintro (_ | n_4) x_1 out_2 out_2a out_2c out_2B x_3 ⟨hm6, hF5, hout_2, hi7, hi8⟩
    · omega
    refine J_seq ?_
    refine J_reg ?_
    refine JL_q (q_lss) (k := ?_)
    refine JL_nil ?_
    refine JX_seq ?_
    refine J_seq ?_
    refine J_dec rfl (fun hq7 => ?_) (fun hq7 => ?_)
    · refine J_skip ?_
      refine JX_seq ?_
      refine J_seq ?_
      refine J_block ?_
      refine J_seq ?_
      refine J_reg ?_
      refine JL_q (q_idx (n := l.length) Tryz.runUnderlying22 Tryz.sizeOf37 x_1 (SlJ.of_base h_l) (gD (by first | omega | (simp only [List.length_set]; omega) | (simp only [List.length_append, List.length_take, List.length_drop, List.length_set, List.length_replicate, List.length_cons, List.length_nil, List.length_map, toS_length, toI_length]; omega))) (by first | rfl | simp)) (k := ?_)
      refine JL_q (q_loadEA Tryz.isAgg37 Tryz.sizeOf37 x_1 (SlJ.of_base h_l) (gD (by first | omega | (simp only [List.length_set]; omega) | (simp only [List.length_append, List.length_take, List.length_drop, List.length_set, List.length_replicate, List.length_cons, List.length_nil, List.length_map, toS_length, toI_length]; omega)))) (k := ?_)
      refine JL_a noMk (a_alloc (l := [_, _, _, _]) Tryz.zeroValue37) (k := fun r10 hr10 => ?_)
      refine JL_s (w_store (l' := [_, _, _, _]) Tryz.sizeOf37) (k := ?_)
      refine JL_nil ?_
      refine JX_seq ?_
      refine J_seq ?_
      refine J_reg ?_
      refine JL_q (q_move) (k := ?_)
      refine JL_q (q_loadA Tryz.isAgg37 Tryz.sizeOf37) (k := ?_)
      refine JL_inl (args := [(Value.agg [(Value.int .i64 (((l.getD x_1 default).id))), (Value.string (bs ((l.getD x_1 default).key))), (Value.int .i64 (((l.getD x_1 default).frm))), (Value.int .i64 (((l.getD x_1 default).to)))].toArray), (Value.pointer (some ⟨r9, 0, none⟩)), (Value.pointer (some ⟨r1, 0, none⟩)), (Value.pointer (some ⟨r2, 0, none⟩))]) (c_callA Tryz.call48) Tryz.func48 Tryz.ntmps48 ?_
      refine J_seq ?_
      refine J_reg ?_
      refine JL_a noMk (a_box (l := [_, _, _, _])) (k := fun r11 hr11 => ?_)
      refine JL_a noMk (a_alloc (l := [_, _, _, _]) Tryz.zeroValue37) (k := fun r12 hr12 => ?_)
      refine JL_nil ?_
      refine JX_seq ?_
      refine J_seq ?_
      refine J_reg ?_
      refine JL_q (q_fld FO_37_0) (k := ?_)
      refine JL_q (q_load Tryz.isAgg3) (k := ?_)
      have hid := RightC.id (l := l) (by assumption) x_1
      refine JL_q (q_add) (k := ?_)
      refine JL_s (w_store (l' := [_]) Tryz.sizeOf3) (k := ?_)
      refine JL_nil ?_
      refine JX_seq ?_
      refine J_seq ?_
      refine J_seq ?_
      refine J_reg ?_
      refine JL_q (q_fld FO_37_3) (k := ?_)
      refine JL_q (q_load Tryz.isAgg3) (k := ?_)
      refine JL_q (q_load Tryz.isAgg3) (k := ?_)
      refine JL_q (q_leq) (k := ?_)
      refine JL_nil ?_
      refine JX_seq ?_
      refine J_dec rfl (fun hq8 => ?_) (fun hq8 => ?_)
      · refine J_seq ?_
        refine J_reg ?_
        refine JL_q (q_build (cs := [_, _, _, _]) Tryz.zeroValue37 PL_37) (k := ?_)
        refine JL_s (w_store (l' := [_, _, _, _]) Tryz.sizeOf37) (k := ?_)
        refine JL_nil ?_
        refine JX_seq ?_
        refine J_ret ?_
        refine JX_seq_ret ?_
        refine JX_retI Tryz.results48 (Res.agg Tryz.isAgg37 Tryz.sizeOf37 rfl (by repeat (first | exact List.mem_cons_self | apply List.mem_cons_of_mem | apply List.mem_append_right)) rfl Res.nil) ?_
        refine JL_s (w_store (l' := [_, _, _, _]) Tryz.sizeOf37) (k := ?_)
        refine JL_nil ?_
        refine JX_seq ?_
        refine J_seq ?_
        refine J_reg ?_
        refine JL_q (q_fld FO_37_2) (k := ?_)
        refine JL_q (q_load Tryz.isAgg3) (k := ?_)
        refine JL_q (q_fld FO_37_3) (k := ?_)
        refine JL_q (q_load Tryz.isAgg3) (k := ?_)
        refine JL_q (q_lss) (k := ?_)
        refine JL_nil ?_
        refine JX_seq ?_
        refine J_false rfl ?_
        refine J_skip ?_
        refine JX_block ?_
        refine JX_seq ?_
        refine J_reg ?_
        refine JL_q (q_add) (k := ?_)
        refine JL_q (q_move) (k := ?_)
        refine JL_nil ?_
        refine JX_permL (out_2B ++ ((r9, Obj.cells [(Value.int .i64 ((((l.getD x_1 default).id) + 1)))].toArray 3) :: ((r2, Obj.cells [(Value.int .i64 (overlap))].toArray 3) :: ((r1, Obj.cells [(Value.int .i64 (now))].toArray 3) :: ((r12, Obj.cells [(Value.int .i64 (0)), (Value.string (bs ([] : Str))), (Value.int .i64 (0)), (Value.int .i64 (0))].toArray 37) :: ((r11, Obj.cells [(Value.int .i64 (((l.getD x_1 default).id))), (Value.string (bs ((l.getD x_1 default).key))), (Value.int .i64 (((l.getD x_1 default).frm))), (Value.int .i64 (((l.getD x_1 default).to)))].toArray 37) :: ((r10, Obj.cells [(Value.int .i64 (0)), (Value.string (bs ([] : Str))), (Value.int .i64 (0)), (Value.int .i64 (0))].toArray 37) :: []))))))) (((((List.Perm.cons _ ((List.Perm.cons _ ((List.Perm.cons _ ((List.Perm.append_left _ ((List.Perm.cons _ ((List.Perm.cons _ (List.Perm.refl _)).trans (List.Perm.swap _ _ _))).trans (List.Perm.swap _ _ _))).trans List.perm_middle)).trans (List.Perm.swap _ _ _))).trans (List.Perm.swap _ _ _))).trans (List.Perm.swap _ _ _)).trans ((List.Perm.cons _ ((List.Perm.cons _ ((List.Perm.cons _ ((List.Perm.cons _ ((List.Perm.append_left _ ((List.Perm.cons _ (List.Perm.refl _)).trans (List.Perm.swap _ _ _))).trans List.perm_middle)).trans (List.Perm.swap _ _ _))).trans (List.Perm.swap _ _ _))).trans (List.Perm.swap _ _ _))).trans (List.Perm.swap _ _ _))).trans ((List.Perm.cons _ ((List.Perm.cons _ ((List.Perm.cons _ ((List.Perm.cons _ ((List.Perm.cons _ ((List.Perm.append_left _ (List.Perm.refl _)).trans List.perm_middle)).trans (List.Perm.swap _ _ _))).trans (List.Perm.swap _ _ _))).trans (List.Perm.swap _ _ _))).trans (List.Perm.swap _ _ _))).trans (List.Perm.swap _ _ _))).trans ((List.Perm.cons _ ((List.Perm.cons _ ((List.Perm.cons _ ((List.Perm.cons _ ((List.Perm.cons _ ((List.Perm.cons _ (List.Perm.refl _)).trans List.perm_middle.symm)).trans List.perm_middle.symm)).trans List.perm_middle.symm)).trans List.perm_middle.symm)).trans List.perm_middle.symm)).trans List.perm_middle.symm)) ?_
        refine JX_subL (out_2B ++ ((r9, Obj.cells [(Value.int .i64 ((((l.getD x_1 default).id) + 1)))].toArray 3) :: ((r2, Obj.cells [(Value.int .i64 (overlap))].toArray 3) :: ((r1, Obj.cells [(Value.int .i64 (now))].toArray 3) :: [])))) (List.Sublist.append (List.Sublist.refl _) (List.Sublist.cons_cons _ (List.Sublist.cons_cons _ (List.Sublist.cons_cons _ (List.nil_sublist _))))) ?_
        exact JX_inv7 n_4 (x_1 + 1) out_2 out_2a out_2c out_2B (((l.getD x_1 default).id) + 1) ⟨by omega, ((hF5.pos hq7).pos hq8), hout_2, (by omega), (by omega)⟩ (Nat.lt_succ_self _) (by repeat (first | exact SubE.nil | refine SubE.cons rfl ?_)) (List.Perm.refl _)
      refine J_skip ?_
      refine JX_seq ?_
      refine J_seq ?_
      refine J_reg ?_
      refine JL_q (q_fld FO_37_3) (k := ?_)
      refine JL_q (q_load Tryz.isAgg3) (k := ?_)
      refine JL_q (q_load Tryz.isAgg3) (k := ?_)
      refine JL_q (q_load Tryz.isAgg3) (k := ?_)
      refine JL_q (q_add) (k := ?_)
      refine JL_q (q_min) (k := ?_)
      refine JL_q (q_fld FO_37_3) (k := ?_)
      refine JL_s (w_store (l' := [_, _, _, _]) Tryz.sizeOf3) (k := ?_)
      refine JL_nil ?_
      refine JX_seq ?_
      refine J_seq ?_
      refine J_reg ?_
      refine JL_q (q_loadA Tryz.isAgg37 Tryz.sizeOf37) (k := ?_)
      refine JL_s (w_store (l' := [_, _, _, _]) Tryz.sizeOf37) (k := ?_)
      refine JL_nil ?_
      refine JX_seq ?_
      refine J_ret ?_
      refine JX_retI Tryz.results48 (Res.agg Tryz.isAgg37 Tryz.sizeOf37 rfl (by repeat (first | exact List.mem_cons_self | apply List.mem_cons_of_mem | apply List.mem_append_right)) rfl Res.nil) ?_
      refine JL_s (w_store (l' := [_, _, _, _]) Tryz.sizeOf37) (k := ?_)
      refine JL_nil ?_
      refine JX_seq ?_
      refine J_seq ?_
      refine J_reg ?_
      refine JL_q (q_fld FO_37_2) (k := ?_)
      refine JL_q (q_load Tryz.isAgg3) (k := ?_)
      refine JL_q (q_fld FO_37_3) (k := ?_)
      refine JL_q (q_load Tryz.isAgg3) (k := ?_)
      refine JL_q (q_lss) (k := ?_)
      refine JL_nil ?_
      refine JX_seq ?_
      refine J_dec rfl (fun hq9 => ?_) (fun hq9 => ?_)
      rotate_left
      · refine J_skip ?_
        refine JX_block ?_
        refine JX_seq ?_
        refine J_reg ?_
        refine JL_q (q_add) (k := ?_)
        refine JL_q (q_move) (k := ?_)
        refine JL_nil ?_
        refine JX_permL (out_2B ++ ((r9, Obj.cells [(Value.int .i64 ((((l.getD x_1 default).id) + 1)))].toArray 3) :: ((r2, Obj.cells [(Value.int .i64 (overlap))].toArray 3) :: ((r1, Obj.cells [(Value.int .i64 (now))].toArray 3) :: ((r12, Obj.cells [(Value.int .i64 (((l.getD x_1 default).id))), (Value.string (bs ((l.getD x_1 default).key))), (Value.int .i64 (((l.getD x_1 default).frm))), (Value.int .i64 ((if (now + overlap) < ((l.getD x_1 default).to) then (now + overlap) else ((l.getD x_1 default).to))))].toArray 37) :: ((r11, Obj.cells [(Value.int .i64 (((l.getD x_1 default).id))), (Value.string (bs ((l.getD x_1 default).key))), (Value.int .i64 (((l.getD x_1 default).frm))), (Value.int .i64 ((if (now + overlap) < ((l.getD x_1 default).to) then (now + overlap) else ((l.getD x_1 default).to))))].toArray 37) :: ((r10, Obj.cells [(Value.int .i64 (((l.getD x_1 default).id))), (Value.string (bs ((l.getD x_1 default).key))), (Value.int .i64 (((l.getD x_1 default).frm))), (Value.int .i64 ((if (now + overlap) < ((l.getD x_1 default).to) then (now + overlap) else ((l.getD x_1 default).to))))].toArray 37) :: []))))))) (((((List.Perm.cons _ ((List.Perm.cons _ ((List.Perm.cons _ ((List.Perm.append_left _ ((List.Perm.cons _ ((List.Perm.cons _ (List.Perm.refl _)).trans (List.Perm.swap _ _ _))).trans (List.Perm.swap _ _ _))).trans List.perm_middle)).trans (List.Perm.swap _ _ _))).trans (List.Perm.swap _ _ _))).trans (List.Perm.swap _ _ _)).trans ((List.Perm.cons _ ((List.Perm.cons _ ((List.Perm.cons _ ((List.Perm.cons _ ((List.Perm.append_left _ ((List.Perm.cons _ (List.Perm.refl _)).trans (List.Perm.swap _ _ _))).trans List.perm_middle)).trans (List.Perm.swap _ _ _))).trans (List.Perm.swap _ _ _))).trans (List.Perm.swap _ _ _))).trans (List.Perm.swap _ _ _))).trans ((List.Perm.cons _ ((List.Perm.cons _ ((List.Perm.cons _ ((List.Perm.cons _ ((List.Perm.cons _ ((List.Perm.append_left _ (List.Perm.refl _)).trans List.perm_middle)).trans (List.Perm.swap _ _ _))).trans (List.Perm.swap _ _ _))).trans (List.Perm.swap _ _ _))).trans (List.Perm.swap _ _ _))).trans (List.Perm.swap _ _ _))).trans ((List.Perm.cons _ ((List.Perm.cons _ ((List.Perm.cons _ ((List.Perm.cons _ ((List.Perm.cons _ ((List.Perm.cons _ (List.Perm.refl _)).trans List.perm_middle.symm)).trans List.perm_middle.symm)).trans List.perm_middle.symm)).trans List.perm_middle.symm)).trans List.perm_middle.symm)).trans List.perm_middle.symm)) ?_
        refine JX_subL (out_2B ++ ((r9, Obj.cells [(Value.int .i64 ((((l.getD x_1 default).id) + 1)))].toArray 3) :: ((r2, Obj.cells [(Value.int .i64 (overlap))].toArray 3) :: ((r1, Obj.cells [(Value.int .i64 (now))].toArray 3) :: [])))) (List.Sublist.append (List.Sublist.refl _) (List.Sublist.cons_cons _ (List.Sublist.cons_cons _ (List.Sublist.cons_cons _ (List.nil_sublist _))))) ?_
        exact JX_inv7 n_4 (x_1 + 1) out_2 out_2a out_2c out_2B (((l.getD x_1 default).id) + 1) ⟨by omega, (((hF5.pos hq7).neg hq8).neg hq9), hout_2, (by omega), (by omega)⟩ (Nat.lt_succ_self _) (by repeat (first | exact SubE.nil | refine SubE.cons rfl ?_)) (List.Perm.refl _)
      refine J_reg ?_
      refine JL_q (q_move) (k := ?_)
      refine JL_q (q_loadA Tryz.isAgg37 Tryz.sizeOf37) (k := ?_)
      refine JL_a noMk (a_bslice (l := [_, _, _, _]) Tryz.runUnderlying22 Tryz.sizeOf37 Tryz.zeroValue37) (k := fun r13 hr13 => ?_)
      refine JL_append (out_2 ++ ([(Cred.mk ((l.getD x_1 default).id) ((l.getD x_1 default).key) ((l.getD x_1 default).frm) (if (now + overlap) < ((l.getD x_1 default).to) then (now + overlap) else ((l.getD x_1 default).to)))] : List Cred)) rfl TY_37 Tryz.underlying22 eCred_ok hout_2 ((List.Perm.cons _ ((List.Perm.cons _ ((List.Perm.cons _ ((List.Perm.cons _ (List.Perm.refl _)).trans List.perm_middle.symm)).trans List.perm_middle.symm)).trans List.perm_middle.symm)).trans List.perm_middle.symm) (SlJ.lit (xs := ([(Cred.mk ((l.getD x_1 default).id) ((l.getD x_1 default).key) ((l.getD x_1 default).frm) (if (now + overlap) < ((l.getD x_1 default).to) then (now + overlap) else ((l.getD x_1 default).to)))] : List Cred)) eCred_ok) ⟨by omega, by omega⟩ (n := out_2.length) (m := 1) (k := fun ax1 cx1 Bx1 hox1 => ?_)
      have hal1 : (out_2 ++ ([(Cred.mk ((l.getD x_1 default).id) ((l.getD x_1 default).key) ((l.getD x_1 default).frm) (if (now + overlap) < ((l.getD x_1 default).to) then (now + overlap) else ((l.getD x_1 default).to)))] : List Cred)).length = out_2.length + 1 := by first | rfl | simp
      refine JL_q (q_assign) (k := ?_)
      refine JL_nil ?_
      refine JX_block ?_
      refine JX_seq ?_
      refine J_reg ?_
      refine JL_q (q_add) (k := ?_)
      refine JL_q (q_move) (k := ?_)
      refine JL_nil ?_
      refine JX_permL (Bx1 ++ ((r9, Obj.cells [(Value.int .i64 ((((l.getD x_1 default).id) + 1)))].toArray 3) :: ((r2, Obj.cells [(Value.int .i64 (overlap))].toArray 3) :: ((r1, Obj.cells [(Value.int .i64 (now))].toArray 3) :: ((r13, Obj.cells [(Value.int .i64 (((l.getD x_1 default).id))), (Value.string (bs ((l.getD x_1 default).key))), (Value.int .i64 (((l.getD x_1 default).frm))), (Value.int .i64 ((if (now + overlap) < ((l.getD x_1 default).to) then (now + overlap) else ((l.getD x_1 default).to))))].toArray 37) :: ((r12, Obj.cells [(Value.int .i64 (((l.getD x_1 default).id))), (Value.string (bs ((l.getD x_1 default).key))), (Value.int .i64 (((l.getD x_1 default).frm))), (Value.int .i64 ((if (now + overlap) < ((l.getD x_1 default).to) then (now + overlap) else ((l.getD x_1 default).to))))].toArray 37) :: ((r11, Obj.cells [(Value.int .i64 (((l.getD x_1 default).id))), (Value.string (bs ((l.getD x_1 default).key))), (Value.int .i64 (((l.getD x_1 default).frm))), (Value.int .i64 ((if (now + overlap) < ((l.getD x_1 default).to) then (now + overlap) else ((l.getD x_1 default).to))))].toArray 37) :: ((r10, Obj.cells [(Value.int .i64 (((l.getD x_1 default).id))), (Value.string (bs ((l.getD x_1 default).key))), (Value.int .i64 (((l.getD x_1 default).frm))), (Value.int .i64 ((if (now + overlap) < ((l.getD x_1 default).to) then (now + overlap) else ((l.getD x_1 default).to))))].toArray 37) :: [])))))))) (((((List.Perm.append_left _ ((List.Perm.cons _ ((List.Perm.cons _ ((List.Perm.cons _ ((List.Perm.cons _ ((List.Perm.cons _ ((List.Perm.cons _ (List.Perm.refl _)).trans (List.Perm.swap _ _ _))).trans (List.Perm.swap _ _ _))).trans (List.Perm.swap _ _ _))).trans (List.Perm.swap _ _ _))).trans (List.Perm.swap _ _ _))).trans (List.Perm.swap _ _ _))).trans List.perm_middle).trans ((List.Perm.cons _ ((List.Perm.append_left _ ((List.Perm.cons _ ((List.Perm.cons _ ((List.Perm.cons _ ((List.Perm.cons _ ((List.Perm.cons _ (List.Perm.refl _)).trans (List.Perm.swap _ _ _))).trans (List.Perm.swap _ _ _))).trans (List.Perm.swap _ _ _))).trans (List.Perm.swap _ _ _))).trans (List.Perm.swap _ _ _))).trans List.perm_middle)).trans (List.Perm.swap _ _ _))).trans ((List.Perm.cons _ ((List.Perm.cons _ ((List.Perm.append_left _ ((List.Perm.cons _ ((List.Perm.cons _ ((List.Perm.cons _ ((List.Perm.cons _ (List.Perm.refl _)).trans (List.Perm.swap _ _ _))).trans (List.Perm.swap _ _ _))).trans (List.Perm.swap _ _ _))).trans (List.Perm.swap _ _ _))).trans List.perm_middle)).trans (List.Perm.swap _ _ _))).trans (List.Perm.swap _ _ _))).trans ((List.Perm.cons _ ((List.Perm.cons _ ((List.Perm.cons _ (List.Perm.refl _)).trans List.perm_middle.symm)).trans List.perm_middle.symm)).trans List.perm_middle.symm)) ?_
      refine JX_subL (Bx1 ++ ((r9, Obj.cells [(Value.int .i64 ((((l.getD x_1 default).id) + 1)))].toArray 3) :: ((r2, Obj.cells [(Value.int .i64 (overlap))].toArray 3) :: ((r1, Obj.cells [(Value.int .i64 (now))].toArray 3) :: [])))) (List.Sublist.append (List.Sublist.refl _) (List.Sublist.cons_cons _ (List.Sublist.cons_cons _ (List.Sublist.cons_cons _ (List.nil_sublist _))))) ?_
      exact JX_inv7 n_4 (x_1 + 1) (out_2 ++ ([(Cred.mk ((l.getD x_1 default).id) ((l.getD x_1 default).key) ((l.getD x_1 default).frm) (if (now + overlap) < ((l.getD x_1 default).to) then (now + overlap) else ((l.getD x_1 default).to)))] : List Cred)) ax1 cx1 Bx1 (((l.getD x_1 default).id) + 1) ⟨by omega, (((hF5.pos hq7).neg hq8).pos hq9), hox1, (by omega), (by omega)⟩ (Nat.lt_succ_self _) (by repeat (first | exact SubE.nil | refine SubE.cons rfl ?_)) (List.Perm.refl _)
    refine J_exit ?_
    refine JX_seq_exit ?_
    refine JX_inv_exit ?_
    refine JX_block_hit ?_
    refine JX_seq ?_
    refine J_seq ?_
    refine J_reg ?_
    refine JL_q (q_move) (k := ?_)
    refine JL_q (q_assign) (k := ?_)
    refine JL_nil ?_
    refine JX_seq ?_
    refine J_ret ?_
    refine JX_retI Tryz.results27 (Res.tmp rfl Res.nil) ?_
    refine JL_q (q_assign) (k := ?_)
    refine JL_nil ?_
    refine JX_seq ?_
    refine J_seq ?_
    refine J_reg ?_
    refine JL_q (q_move) (k := ?_)
    refine JL_q (q_load Tryz.isAgg3) (k := ?_)
    refine JL_q (q_move) (k := ?_)
    refine JL_q (q_load Tryz.isAgg3) (k := ?_)
    refine JL_q (q_load Tryz.isAgg3) (k := ?_)
    refine JL_q (q_move) (k := ?_)
    refine JL_q (q_add) (k := ?_)
    refine JL_q (q_build (cs := [_, _, _, _]) Tryz.zeroValue37 PL_37) (k := ?_)
    refine JL_a noMk (a_bslice (l := [_, _, _, _]) Tryz.runUnderlying22 Tryz.sizeOf37 Tryz.zeroValue37) (k := fun r14 hr14 => ?_)
    refine JL_append (out_2 ++ ([(Cred.mk x_3 key now (now + span))] : List Cred)) rfl TY_37 Tryz.underlying22 eCred_ok hout_2 ((List.Perm.cons _ (List.Perm.refl _)).trans List.perm_middle.symm) (SlJ.lit (xs := ([(Cred.mk x_3 key now (now + span))] : List Cred)) eCred_ok) ⟨by omega, by omega⟩ (n := out_2.length) (m := 1) (k := fun ax2 cx2 Bx2 hox2 => ?_)
    have hal2 : (out_2 ++ ([(Cred.mk x_3 key now (now + span))] : List Cred)).length = out_2.length + 1 := by first | rfl | simp
    refine JL_q (q_assign) (k := ?_)
    refine JL_nil ?_
    refine JX_seq ?_
    refine J_seq ?_
    refine J_seq ?_
    refine J_reg ?_
    refine JL_q (q_move) (k := ?_)
    refine JL_q (q_lenS Tryz.runUnderlying22) (k := ?_)
    refine JL_q (q_gtr) (k := ?_)
    refine JL_q (q_move) (k := ?_)
    refine JL_dec 65 rfl (fun hq10 => ?_) (fun hq10 => ?_)
    · refine JL_skips 2 rfl ?_
      refine JL_q (q_pickT) (k := ?_)
      refine JL_nil ?_
      refine JX_seq ?_
      refine J_true rfl ?_
      refine J_seq ?_
      refine J_reg ?_
      refine JL_q (q_build (cs := [_]) Tryz.zeroValue75 PL_75) (k := ?_)
      refine JL_q (q_mkI Tryz.underlying75) (k := ?_)
      refine JL_q (q_assign) (k := ?_)
      refine JL_q (q_assign) (k := ?_)
      refine JL_q (q_assign) (k := ?_)
      refine JL_nil ?_
      refine JX_seq ?_
      refine J_ret ?_
      refine JX_seq_ret ?_
      refine JX_retI Tryz.results22 (Res.tmp rfl (Res.tmp rfl (Res.tmp rfl Res.nil))) ?_
      refine JL_q (q_move) (k := ?_)
      refine JL_q (q_ext) (k := ?_)
      refine JL_q (q_ext) (k := ?_)
      refine JL_q (q_ext) (k := ?_)
      refine JL_q (q_assign) (k := ?_)
      refine JL_q (q_assign) (k := ?_)
      refine JL_q (q_assign) (k := ?_)
      refine JL_nil ?_
      refine JX_seq ?_
      refine J_seq ?_
      refine J_reg ?_
      refine JL_q (q_move) (k := ?_)
      refine JL_q (q_move) (k := ?_)
      refine JL_q (q_move) (k := ?_)
      refine JL_inl (args := [(Value.iface 75 (Value.agg [(Value.int .i64 (92))].toArray))]) (c_callA Tryz.call23) Tryz.func23 Tryz.ntmps23 ?_
      refine J_seq ?_
      refine J_reg ?_
      refine JL_q (q_assign) (k := ?_)
      refine JL_nil ?_
      refine JX_seq ?_
      refine J_seq ?_
      refine J_reg ?_
      refine JL_a noMk (a_alloc (l := [_]) Tryz.zeroValue75) (k := fun r15 hr15 => ?_)
      refine JL_nil ?_
      refine JX_seq ?_
      refine J_seq ?_
      refine J_seq ?_
      refine J_reg ?_
      refine JL_q (q_move) (k := ?_)
      refine JL_q (q_mkI Tryz.underlying77) (k := ?_)
      refine JL_p (args := [(Value.iface 75 (Value.agg [(Value.int .i64 (92))].toArray)), (Value.iface 77 (Value.pointer (some ⟨r15, 0, none⟩)))]) (c_callA Tryz.call49) (fun w1 hw1 => as_hit_t w1 (hG.ext hw1.ext_out).ety (hw1.own _ (by repeat (first | exact List.mem_cons_self | apply List.mem_cons_of_mem | apply List.mem_append_right)))) (k := ?_)
      rintro w1_7 e1_7 w2_7 hw1_7 ⟨he_7, hT_7⟩
      refine ⟨_, ((r15, Obj.cells [(Value.int .i64 (92))].toArray 75) :: (Bx2 ++ ((r14, Obj.cells [(Value.int .i64 (x_3)), (Value.string (bs key)), (Value.int .i64 (now)), (Value.int .i64 ((now + span)))].toArray 37) :: ((r9, Obj.cells [(Value.int .i64 (x_3))].toArray 3) :: ((r2, Obj.cells [(Value.int .i64 (overlap))].toArray 3) :: ((r1, Obj.cells [(Value.int .i64 (now))].toArray 3) :: [])))))), he_7, (hw1_7.perm (List.Perm.refl _)).tr hT_7, ?_⟩
      refine JL_nil ?_
      refine JX_seq ?_
      refine J_true rfl ?_
      refine J_seq ?_
      refine J_reg ?_
      refine JL_q (q_fld FO_75_0) (k := ?_)
      refine JL_q (q_load Tryz.isAgg26) (k := ?_)
      refine JL_q (q_assign) (k := ?_)
      refine JL_nil ?_
      refine JX_seq ?_
      refine J_ret ?_
      refine JX_seq_ret ?_
      refine JX_retI Tryz.results23 (Res.tmp rfl Res.nil) ?_
      refine JL_q (q_assign) (k := ?_)
      refine JL_q (q_assign) (k := ?_)
      refine JL_q (q_assign) (k := ?_)
      refine JL_nil ?_
      refine JX_seq ?_
      refine J_ret ?_
      refine JX_ret Tryz.results11 (Res.tmp rfl (Res.tmp rfl (Res.tmp rfl Res.nil))) (fun w1 hw1 => ?_)
      exact ⟨none, 0, [], (by rw [(((((((((hF.f hq1).f hq2).f hq3).f hq4).f hq5).neg hq6).rn3 (hF5.neg hq7)).pos hq10)).eq] <;> first | rfl | (simp only [List.length_set] <;> rfl)), (hw1.fresh_out.sub (List.nil_sublist _)), (by rw [(((((((((hF.f hq1).f hq2).f hq3).f hq4).f hq5).neg hq6).rn3 (hF5.neg hq7)).pos hq10)).eq]; exact OwnB.nil), (by rw [(((((((((hF.f hq1).f hq2).f hq3).f hq4).f hq5).neg hq6).rn3 (hF5.neg hq7)).pos hq10)).eq]; first | omega | (simp only [List.length_append, List.length_take, List.length_drop, List.length_set, List.length_replicate, List.length_cons, List.length_nil, List.length_map, toS_length, toI_length]; omega) | (simp only [List.length_append, List.length_take, List.length_drop, List.length_set, List.length_replicate, List.length_cons, List.length_nil, List.length_map, toS_length, toI_length] at *; omega))⟩
    refine JL_qg (q_load Tryz.isAgg3) (k := ?_)
    refine JL_qg (q_gtr) (k := ?_)
    refine JL_q (q_pickF) (k := ?_)
    refine JL_nil ?_
    refine JX_seq ?_
    refine J_dec rfl (fun hq11 => ?_) (fun hq11 => ?_)
    rotate_left
    · refine J_skip ?_
      refine JX_seq ?_
      refine J_seq ?_
      refine J_plan mixed 5 [(true, 0), (true, 1), (true, 2), (true, 3), (true, 4)] (by kernel_rfl) ?_
      refine JD_q (q_move) (k := ?_)
      refine JD_q (q_load Tryz.isAgg3) (k := ?_)
      refine JD_q (q_assign) (k := ?_)
      refine JD_q (q_assign) (k := ?_)
      refine JD_q (q_assign) (k := ?_)
      refine JD_nil0 ?_
      refine JL_nil ?_
      refine JX_seq ?_
      refine J_ret ?_
      refine JX_retI Tryz.results22 (Res.tmp rfl (Res.tmp rfl (Res.tmp rfl Res.nil))) ?_
      refine JL_q (q_move) (k := ?_)
      refine JL_q (q_ext) (k := ?_)
      refine JL_q (q_ext) (k := ?_)
      refine JL_q (q_ext) (k := ?_)
      refine JL_q (q_assign) (k := ?_)
      refine JL_q (q_assign) (k := ?_)
      refine JL_q (q_assign) (k := ?_)
      refine JL_nil ?_
      refine JX_seq ?_
      refine J_seq ?_
      refine J_reg ?_
      refine JL_q (q_move) (k := ?_)
      refine JL_q (q_move) (k := ?_)
      refine JL_q (q_move) (k := ?_)
      refine JL_inl (args := [Value.nilIface]) (c_callA Tryz.call23) Tryz.func23 Tryz.ntmps23 ?_
      refine J_seq ?_
      refine J_reg ?_
      refine JL_q (q_assign) (k := ?_)
      refine JL_nil ?_
      refine JX_seq ?_
      refine J_seq ?_
      refine J_reg ?_
      refine JL_a noMk (a_alloc (l := [_]) Tryz.zeroValue75) (k := fun r17 hr17 => ?_)
      refine JL_nil ?_
      refine JX_seq ?_
      refine J_seq ?_
      refine J_seq ?_
      refine J_reg ?_
      refine JL_q (q_move) (k := ?_)
      refine JL_q (q_mkI Tryz.underlying77) (k := ?_)
      refine JL_v (args := [Value.nilIface, (Value.iface 77 (Value.pointer (some ⟨r17, 0, none⟩)))]) (c_callA Tryz.call49) (fun w1 hw1 => as_nil_v w1) (k := ?_)
      refine JL_nil ?_
      refine JX_seq ?_
      refine J_false rfl ?_
      refine J_skip ?_
      refine JX_seq ?_
      refine J_seq ?_
      refine J_reg ?_
      refine JL_q (q_assign) (k := ?_)
      refine JL_nil ?_
      refine JX_seq ?_
      refine J_ret ?_
      refine JX_retI Tryz.results23 (Res.tmp rfl Res.nil) ?_
      refine JL_q (q_assign) (k := ?_)
      refine JL_q (q_assign) (k := ?_)
      refine JL_q (q_assign) (k := ?_)
      refine JL_nil ?_
      refine JX_seq ?_
      refine J_ret ?_
      refine JX_ret Tryz.results11 (Res.tmp rfl (Res.tmp rfl (Res.tmp rfl Res.nil))) (fun w1 hw1 => ?_)
      exact ⟨ax2, cx2, Bx2, (by rw [((((((((((hF.f hq1).f hq2).f hq3).f hq4).f hq5).neg hq6).rn3 (hF5.neg hq7)).neg hq10).neg hq11)).eq] <;> first | rfl | (simp only [List.length_set] <;> rfl)), (fresh_segs (L := Bx2) (R := ((r17, Obj.cells [(Value.int .i64 (0))].toArray 75) :: ((r14, Obj.cells [(Value.int .i64 (x_3)), (Value.string (bs key)), (Value.int .i64 (now)), (Value.int .i64 ((now + span)))].toArray 37) :: ((r9, Obj.cells [(Value.int .i64 (x_3))].toArray 3) :: ((r2, Obj.cells [(Value.int .i64 (overlap))].toArray 3) :: ((r1, Obj.cells [(Value.int .i64 (now))].toArray 3) :: [])))))) (hw1.perm ((List.Perm.cons _ (List.Perm.refl _)).trans List.perm_middle.symm)) (by simp)), (by rw [((((((((((hF.f hq1).f hq2).f hq3).f hq4).f hq5).neg hq6).rn3 (hF5.neg hq7)).neg hq10).neg hq11)).eq]; exact hox2), (by rw [((((((((((hF.f hq1).f hq2).f hq3).f hq4).f hq5).neg hq6).rn3 (hF5.neg hq7)).neg hq10).neg hq11)).eq]; first | omega | (simp only [List.length_append, List.length_take, List.length_drop, List.length_set, List.length_replicate, List.length_cons, List.length_nil, List.length_map, toS_length, toI_length]; omega) | (simp only [List.length_append, List.length_take, List.length_drop, List.length_set, List.length_replicate, List.length_cons, List.length_nil, List.length_map, toS_length, toI_length] at *; omega))⟩
    refine J_seq ?_
    refine J_reg ?_
    refine JL_q (q_build (cs := [_]) Tryz.zeroValue75 PL_75) (k := ?_)
    refine JL_q (q_mkI Tryz.underlying75) (k := ?_)
    refine JL_q (q_assign) (k := ?_)
    refine JL_q (q_assign) (k := ?_)
    refine JL_q (q_assign) (k := ?_)
    refine JL_nil ?_
    refine JX_seq ?_
    refine J_ret ?_
    refine JX_seq_ret ?_
    refine JX_retI Tryz.results22 (Res.tmp rfl (Res.tmp rfl (Res.tmp rfl Res.nil))) ?_
    refine JL_q (q_move) (k := ?_)
    refine JL_q (q_ext) (k := ?_)
    refine JL_q (q_ext) (k := ?_)
    refine JL_q (q_ext) (k := ?_)
    refine JL_q (q_assign) (k := ?_)
    refine JL_q (q_assign) (k := ?_)
    refine JL_q (q_assign) (k := ?_)
    refine JL_nil ?_
    refine JX_seq ?_
    refine J_seq ?_
    refine J_reg ?_
    refine JL_q (q_move) (k := ?_)
    refine JL_q (q_move) (k := ?_)
    refine JL_q (q_move) (k := ?_)
    refine JL_inl (args := [(Value.iface 75 (Value.agg [(Value.int .i64 (92))].toArray))]) (c_callA Tryz.call23) Tryz.func23 Tryz.ntmps23 ?_
    refine J_seq ?_
    refine J_reg ?_
    refine JL_q (q_assign) (k := ?_)
    refine JL_nil ?_
    refine JX_seq ?_
    refine J_seq ?_
    refine J_reg ?_
    refine JL_a noMk (a_alloc (l := [_]) Tryz.zeroValue75) (k := fun r16 hr16 => ?_)
    refine JL_nil ?_
    refine JX_seq ?_
    refine J_seq ?_
    refine J_seq ?_
    refine J_reg ?_
    refine JL_q (q_move) (k := ?_)
    refine JL_q (q_mkI Tryz.underlying77) (k := ?_)
    refine JL_p (args := [(Value.iface 75 (Value.agg [(Value.int .i64 (92))].toArray)), (Value.iface 77 (Value.pointer (some ⟨r16, 0, none⟩)))]) (c_callA Tryz.call49) (fun w1 hw1 => as_hit_t w1 (hG.ext hw1.ext_out).ety (hw1.own _ (by repeat (first | exact List.mem_cons_self | apply List.mem_cons_of_mem | apply List.mem_append_right)))) (k := ?_)
    rintro w1_8 e1_8 w2_8 hw1_8 ⟨he_8, hT_8⟩
    refine ⟨_, ((r16, Obj.cells [(Value.int .i64 (92))].toArray 75) :: (Bx2 ++ ((r14, Obj.cells [(Value.int .i64 (x_3)), (Value.string (bs key)), (Value.int .i64 (now)), (Value.int .i64 ((now + span)))].toArray 37) :: ((r9, Obj.cells [(Value.int .i64 (x_3))].toArray 3) :: ((r2, Obj.cells [(Value.int .i64 (overlap))].toArray 3) :: ((r1, Obj.cells [(Value.int .i64 (now))].toArray 3) :: [])))))), he_8, (hw1_8.perm (List.Perm.refl _)).tr hT_8, ?_⟩
    refine JL_nil ?_
    refine JX_seq ?_
    refine J_true rfl ?_
    refine J_seq ?_
    refine J_reg ?_
    refine JL_q (q_fld FO_75_0) (k := ?_)
    refine JL_q (q_load Tryz.isAgg26) (k := ?_)
    refine JL_q (q_assign) (k := ?_)
    refine JL_nil ?_
    refine JX_seq ?_
    refine J_ret ?_
    refine JX_seq_ret ?_
    refine JX_retI Tryz.results23 (Res.tmp rfl Res.nil) ?_
    refine JL_q (q_assign) (k := ?_)
    refine JL_q (q_assign) (k := ?_)
    refine JL_q (q_assign) (k := ?_)
    refine JL_nil ?_
    refine JX_seq ?_
    refine J_ret ?_
    refine JX_ret Tryz.results11 (Res.tmp rfl (Res.tmp rfl (Res.tmp rfl Res.nil))) (fun w1 hw1 => ?_)
    exact ⟨none, 0, [], (by rw [((((((((((hF.f hq1).f hq2).f hq3).f hq4).f hq5).neg hq6).rn3 (hF5.neg hq7)).neg hq10).pos hq11)).eq] <;> first | rfl | (simp only [List.length_set] <;> rfl)), (hw1.fresh_out.sub (List.nil_sublist _)), (by rw [((((((((((hF.f hq1).f hq2).f hq3).f hq4).f hq5).neg hq6).rn3 (hF5.neg hq7)).neg hq10).pos hq11)).eq]; exact OwnB.nil), (by rw [((((((((((hF.f hq1).f hq2).f hq3).f hq4).f hq5).neg hq6).rn3 (hF5.neg hq7)).neg hq10).pos hq11)).eq]; first | omega | (simp only [List.length_append, List.length_take, List.length_drop, List.length_set, List.length_replicate, List.length_cons, List.length_nil, List.length_map, toS_length, toI_length]; omega) | (simp only [List.length_append, List.length_take, List.length_drop, List.length_set, List.length_replicate, List.length_cons, List.length_nil, List.length_map, toS_length, toI_length] at *; omega))⟩

theorem cEnd_ok (w : World) {l_a : Option Addr} {l_c : Nat} {ea0 : Addr} {ea1 : Addr} {l : List Cred} {id : Int} {now : Int} (h_l : Sl w eCred 4 l_a l) (n_l : l.length ≤ 1000) (hG : Gl w) (hE : Er w ea0 ea1) : Calls Tryz.prog 13 (List.toArray [(Value.slice (l_a) (l.length) (l_c)), (Value.int .i64 (id)), (Value.int .i64 (now))]) w fun e w2 => ∃ a1 : Option Addr, ∃ c1 : Nat, ∃ B1 : Heap, e = .returned (Value.tuple [(Value.slice (a1) ((cEnd l id now).1.length) (c1)), (Value.int .i64 (((cEnd l id now).2)))].toArray) ∧ Fresh w w2 B1 ∧ OwnB eCred 4 37 a1 c1 B1 (cEnd l id now).1 ∧ (cEnd l id now).1.length ≤ 1000 := by
  have hF := Is.refl (cEnd l id now)
  refine enter Tryz.func13 Tryz.ntmps13 (h := ?_)
  refine J_seq ?_
  refine J_reg ?_
  refine JL_a noMk (a_box (l := [_])) (k := fun r1 hr1 => ?_)
  refine JL_a noMk (a_box (l := [_])) (k := fun r2 hr2 => ?_)
  refine JL_q (q_assign) (k := ?_)
  refine JL_q (q_assign) (k := ?_)
  refine JL_nil ?_
  refine JX_seq ?_
  refine J_seq ?_
  refine J_block ?_
  refine J_seq ?_
  refine J_reg ?_
  refine JL_q (q_move) (k := ?_)
  refine JL_v (args := [(Value.slice (l_a) (l.length) (l_c))]) (c_callA Tryz.call16) (fun w1 hw1 => cRight_ok w1 (l := l) (h_l := (SlJ.of_base h_l) w1 hw1) (n_l := by first | omega | (simp only [List.length_append, List.length_take, List.length_drop, List.length_set, List.length_replicate, List.length_cons, List.length_nil, List.length_map, toS_length, toI_length]; omega) | (simp only [List.length_append, List.length_take, List.length_drop, List.length_set, List.length_replicate, List.length_cons, List.length_nil, List.length_map, toS_length, toI_length] at *; omega) | decide)) (k := ?_)
  refine JL_q (q_not) (k := ?_)
  refine JL_q (q_assign) (k := ?_)
  refine JL_nil ?_
  refine JX_seq ?_
  refine J_cond rfl (fun hq1 => ?_) (fun hq1 => ?_)
  · refine J_seq ?_
    refine J_reg ?_
    refine JL_q (q_assign) (k := ?_)
    refine JL_q (q_assign) (k := ?_)
    refine JL_nil ?_
    refine JX_seq ?_
    refine J_ret ?_
    refine JX_block_ret ?_
    refine JX_seq_ret ?_
    refine JX_ret Tryz.results13 (Res.tmp rfl (Res.tmp rfl Res.nil)) (fun w1 hw1 => ?_)
    exact ⟨none, 0, [], (by rw [((hF.t hq1)).eq] <;> first | rfl | (simp only [List.length_set] <;> rfl)), (hw1.fresh_out.sub (List.nil_sublist _)), (by rw [((hF.t hq1)).eq]; exact OwnB.nil), (by rw [((hF.t hq1)).eq]; first | omega | (simp only [List.length_append, List.length_take, List.length_drop, List.length_set, List.length_replicate, List.length_cons, List.length_nil, List.length_map, toS_length, toI_length]; omega) | (simp only [List.length_append, List.length_take, List.length_drop, List.length_set, List.length_replicate, List.length_cons, List.length_nil, List.length_map, toS_length, toI_length] at *; omega))⟩
  have hfhq1 := cRight_t (by simpa using hq1)
  refine J_seq ?_
  refine J_reg ?_
  refine JL_q (q_load Tryz.isAgg3) (k := ?_)
  refine JL_v (args := [(Value.int .i64 (now)), (Value.int .i64 (0)), (Value.int .i64 (1000000000000))]) (c_callA Tryz.call26) (fun w1 hw1 => cIsIn_ok w1 (n_ := now) (least := 0) (most := 1000000000000)) (k := ?_)
  refine JL_q (q_not) (k := ?_)
  refine JL_q (q_assign) (k := ?_)
  refine JL_nil ?_
  refine JX_seq ?_
  refine J_cond rfl (fun hq2 => ?_) (fun hq2 => ?_)
  · refine J_seq ?_
    refine J_reg ?_
    refine JL_q (q_assign) (k := ?_)
    refine JL_q (q_assign) (k := ?_)
    refine JL_nil ?_
    refine JX_seq ?_
    refine J_ret ?_
    refine JX_block_ret ?_
    refine JX_seq_ret ?_
    refine JX_ret Tryz.results13 (Res.tmp rfl (Res.tmp rfl Res.nil)) (fun w1 hw1 => ?_)
    exact ⟨none, 0, [], (by rw [(((hF.f hq1).t hq2)).eq] <;> first | rfl | (simp only [List.length_set] <;> rfl)), (hw1.fresh_out.sub (List.nil_sublist _)), (by rw [(((hF.f hq1).t hq2)).eq]; exact OwnB.nil), (by rw [(((hF.f hq1).t hq2)).eq]; first | omega | (simp only [List.length_append, List.length_take, List.length_drop, List.length_set, List.length_replicate, List.length_cons, List.length_nil, List.length_map, toS_length, toI_length]; omega) | (simp only [List.length_append, List.length_take, List.length_drop, List.length_set, List.length_replicate, List.length_cons, List.length_nil, List.length_map, toS_length, toI_length] at *; omega))⟩
  have hfhq2 := cIsIn_t (by simpa using hq2)
  refine J_skip ?_
  refine JX_block ?_
  refine JX_seq ?_
  refine J_seq ?_
  refine J_reg ?_
  refine JL_a noMk (a_alloc (l := [_]) Tryz.zeroValue4) (k := fun r3 hr3 => ?_)
  refine JL_s (w_store (l' := [_]) Tryz.sizeOf4) (k := ?_)
  refine JL_nil ?_
  refine JX_seq ?_
  refine J_seq ?_
  refine J_reg ?_
  refine JL_q (q_move) (k := ?_)
  refine JL_q (q_func) (k := ?_)
  refine JL_inl (args := [(Value.slice (l_a) (l.length) (l_c)), (Value.func (.func 28) [].toArray [(Value.pointer (some ⟨r1, 0, none⟩)), (Value.pointer (some ⟨r2, 0, none⟩)), (Value.pointer (some ⟨r3, 0, none⟩))].toArray)]) (c_callA Tryz.call27) Tryz.func27 Tryz.ntmps27 ?_
  refine J_seq ?_
  refine J_reg ?_
  refine JL_q (q_assign) (k := ?_)
  refine JL_nil ?_
  refine JX_seq ?_
  refine J_seq ?_
  refine J_reg ?_
  refine JL_q (q_assign) (k := ?_)
  refine JL_nil ?_
  refine JX_seq ?_
  refine J_seq ?_
  refine J_seq ?_
  refine J_reg ?_
  refine JL_q (q_move) (k := ?_)
  refine JL_q (q_lenS Tryz.runUnderlying22) (k := ?_)
  refine JL_q (q_move) (k := ?_)
  refine JL_nil ?_
  refine JX_seq ?_
  refine J_block ?_
  refine J_loop7 (σ1 := Nat) (σ2 := Nat) (σ3 := List Cred) (σ4 := Option Addr) (σ5 := Nat) (σ6 := Heap) (σ7 := Bool) (fun n_4 x_1 out_2 out_2a out_2c out_2B x_3 => (out_2B ++ ((r3, Obj.cells [(Value.bool (x_3))].toArray 4) :: ((r2, Obj.cells [(Value.int .i64 (now))].toArray 3) :: ((r1, Obj.cells [(Value.int .i64 (id))].toArray 3) :: []))))) (fun n_4 x_1 out_2 out_2a out_2c out_2B x_3 => [(1, (Value.func (.func 28) [].toArray [(Value.pointer (some ⟨r1, 0, none⟩)), (Value.pointer (some ⟨r2, 0, none⟩)), (Value.pointer (some ⟨r3, 0, none⟩))].toArray)), (4, (Value.slice (none) (0) (0))), (5, (Value.slice (out_2a) (out_2.length) (out_2c))), (8, (Value.slice (l_a) (l.length) (l_c))), (9, (Value.int .i64 (((l.length : Nat) : Int)))), (10, (Value.int .i64 (((x_1 : Nat) : Int))))]) (fun n_4 x_1 out_2 out_2a out_2c out_2B x_3 => l.length - x_1 < n_4 ∧ Is (cEnd_l0 l id now (l.length + 1) 0 [] false) (cEnd_l0 l id now n_4 x_1 out_2 x_3) ∧ OwnB eCred 4 37 out_2a out_2c out_2B out_2 ∧ out_2.length ≤ x_1 ∧ x_1 ≤ l.length) (fun n_4 x_1 out_2 out_2a out_2c out_2B x_3 => n_4) (l.length + 1) 0 ([]) none 0 ([]) false ?_ (by repeat (first | exact SubE.nil | refine SubE.cons rfl ?_)) (List.Perm.refl _) ?_
  · exact ⟨Nat.lt_succ_self _, Is.refl _, OwnB.nil, (by first | omega | rfl | (simp; done)), (by first | omega | rfl | (simp; done))⟩
  · rintro (_ | n_4) x_1 out_2 out_2a out_2c out_2B x_3 ⟨hm6, hF5, hout_2, hi7, hi8⟩
    · omega
    refine J_seq ?_
    refine J_reg ?_
    refine JL_q (q_lss) (k := ?_)
    refine JL_nil ?_
    refine JX_seq ?_
    refine J_seq ?_
    refine J_dec rfl (fun hq3 => ?_) (fun hq3 => ?_)
    rotate_left
    · refine J_exit ?_
      refine JX_seq_exit ?_
      refine JX_inv_exit ?_
      refine JX_block_hit ?_
      refine JX_seq ?_
      refine J_seq ?_
      refine J_reg ?_
      refine JL_q (q_move) (k := ?_)
      refine JL_q (q_assign) (k := ?_)
      refine JL_nil ?_
      refine JX_seq ?_
      refine J_ret ?_
      refine JX_retI Tryz.results27 (Res.tmp rfl Res.nil) ?_
      refine JL_q (q_assign) (k := ?_)
      refine JL_nil ?_
      refine JX_seq ?_
      refine J_seq ?_
      refine J_seq ?_
      refine J_reg ?_
      refine JL_q (q_load Tryz.isAgg4) (k := ?_)
      refine JL_q (q_not) (k := ?_)
      refine JL_nil ?_
      refine JX_seq ?_
      refine J_cond rfl (fun hq9 => ?_) (fun hq9 => ?_)
      · refine J_seq ?_
        refine J_reg ?_
        refine JL_q (q_assign) (k := ?_)
        refine JL_q (q_assign) (k := ?_)
        refine JL_nil ?_
        refine JX_seq ?_
        refine J_ret ?_
        refine JX_seq_ret ?_
        refine JX_ret Tryz.results13 (Res.tmp rfl (Res.tmp rfl Res.nil)) (fun w1 hw1 => ?_)
        exact ⟨none, 0, [], (by rw [(((((hF.f hq1).f hq2).rn3 (hF5.neg hq3)).t hq9)).eq] <;> first | rfl | (simp only [List.length_set] <;> rfl)), (hw1.fresh_out.sub (List.nil_sublist _)), (by rw [(((((hF.f hq1).f hq2).rn3 (hF5.neg hq3)).t hq9)).eq]; exact OwnB.nil), (by rw [(((((hF.f hq1).f hq2).rn3 (hF5.neg hq3)).t hq9)).eq]; first | omega | (simp only [List.length_append, List.length_take, List.length_drop, List.length_set, List.length_replicate, List.length_cons, List.length_nil, List.length_map, toS_length, toI_length]; omega) | (simp only [List.length_append, List.length_take, List.length_drop, List.length_set, List.length_replicate, List.length_cons, List.length_nil, List.length_map, toS_length, toI_length] at *; omega))⟩
      refine J_skip ?_
      refine JX_seq ?_
      refine J_seq ?_
      refine J_reg ?_
      refine JL_q (q_move) (k := ?_)
      refine JL_q (q_assign) (k := ?_)
      refine JL_q (q_assign) (k := ?_)
      refine JL_nil ?_
      refine JX_seq ?_
      refine J_ret ?_
      refine JX_ret Tryz.results13 (Res.tmp rfl (Res.tmp rfl Res.nil)) (fun w1 hw1 => ?_)
      exact ⟨out_2a, out_2c, out_2B, (by rw [(((((hF.f hq1).f hq2).rn3 (hF5.neg hq3)).f hq9)).eq] <;> first | rfl | (simp only [List.length_set] <;> rfl)), (fresh_segs (L := out_2B) (R := ((r3, Obj.cells [(Value.bool (x_3))].toArray 4) :: ((r2, Obj.cells [(Value.int .i64 (now))].toArray 3) :: ((r1, Obj.cells [(Value.int .i64 (id))].toArray 3) :: [])))) (hw1.perm (List.Perm.refl _)) (by simp)), (by rw [(((((hF.f hq1).f hq2).rn3 (hF5.neg hq3)).f hq9)).eq]; exact hout_2), (by rw [(((((hF.f hq1).f hq2).rn3 (hF5.neg hq3)).f hq9)).eq]; first | omega | (simp only [List.length_append, List.length_take, List.length_drop, List.length_set, List.length_replicate, List.length_cons, List.length_nil, List.length_map, toS_length, toI_length]; omega) | (simp only [List.length_append, List.length_take, List.length_drop, List.length_set, List.length_replicate, List.length_cons, List.length_nil, List.length_map, toS_length, toI_length] at *; omega))⟩
    refine J_skip ?_
    refine JX_seq ?_
    refine J_seq ?_
    refine J_block ?_
    refine J_seq ?_
    refine J_reg ?_
    refine JL_q (q_idx (n := l.length) Tryz.runUnderlying22 Tryz.sizeOf37 x_1 (SlJ.of_base h_l) (gD (by first | omega | (simp only [List.length_set]; omega) | (simp only [List.length_append, List.length_take, List.length_drop, List.length_set, List.length_replicate, List.length_cons, List.length_nil, List.length_map, toS_length, toI_length]; omega))) (by first | rfl | simp)) (k := ?_)
    refine JL_q (q_loadEA Tryz.isAgg37 Tryz.sizeOf37 x_1 (SlJ.of_base h_l) (gD (by first | omega | (simp only [List.length_set]; omega) | (simp only [List.length_append, List.length_take, List.length_drop, List.length_set, List.length_replicate, List.length_cons, List.length_nil, List.length_map, toS_length, toI_length]; omega)))) (k := ?_)
    refine JL_a noMk (a_alloc (l := [_, _, _, _]) Tryz.zeroValue37) (k := fun r4 hr4 => ?_)
    refine JL_s (w_store (l' := [_, _, _, _]) Tryz.sizeOf37) (k := ?_)
    refine JL_nil ?_
    refine JX_seq ?_
    refine J_seq ?_
    refine J_reg ?_
    refine JL_q (q_move) (k := ?_)
    refine JL_q (q_loadA Tryz.isAgg37 Tryz.sizeOf37) (k := ?_)
    refine JL_inl (args := [(Value.agg [(Value.int .i64 (((l.getD x_1 default).id))), (Value.string (bs ((l.getD x_1 default).key))), (Value.int .i64 (((l.getD x_1 default).frm))), (Value.int .i64 (((l.getD x_1 default).to)))].toArray), (Value.pointer (some ⟨r1, 0, none⟩)), (Value.pointer (some ⟨r2, 0, none⟩)), (Value.pointer (some ⟨r3, 0, none⟩))]) (c_callA Tryz.call28) Tryz.func28 Tryz.ntmps28 ?_
    refine J_seq ?_
    refine J_reg ?_
    refine JL_a noMk (a_box (l := [_, _, _, _])) (k := fun r5 hr5 => ?_)
    refine JL_a noMk (a_alloc (l := [_, _, _, _]) Tryz.zeroValue37) (k := fun r6 hr6 => ?_)
    refine JL_nil ?_
    refine JX_seq ?_
    refine J_seq ?_
    refine J_seq ?_
    refine J_reg ?_
    refine JL_q (q_fld FO_37_0) (k := ?_)
    refine JL_q (q_load Tryz.isAgg3) (k := ?_)
    refine JL_q (q_load Tryz.isAgg3) (k := ?_)
    refine JL_q (q_eql) (k := ?_)
    refine JL_q (q_move) (k := ?_)
    refine JL_dec 10 rfl (fun hq4 => ?_) (fun hq4 => ?_)
    rotate_left
    · refine JL_skips 4 rfl ?_
      refine JL_q (q_pickF) (k := ?_)
      refine JL_nil ?_
      refine JX_seq ?_
      refine J_false rfl ?_
      refine J_skip ?_
      refine JX_seq ?_
      refine J_seq ?_
      refine J_reg ?_
      refine JL_q (q_loadA Tryz.isAgg37 Tryz.sizeOf37) (k := ?_)
      refine JL_s (w_store (l' := [_, _, _, _]) Tryz.sizeOf37) (k := ?_)
      refine JL_nil ?_
      refine JX_seq ?_
      refine J_ret ?_
      refine JX_retI Tryz.results28 (Res.agg Tryz.isAgg37 Tryz.sizeOf37 rfl (by repeat (first | exact List.mem_cons_self | apply List.mem_cons_of_mem | apply List.mem_append_right)) rfl Res.nil) ?_
      refine JL_s (w_store (l' := [_, _, _, _]) Tryz.sizeOf37) (k := ?_)
      refine JL_nil ?_
      refine JX_seq ?_
      refine J_seq ?_
      refine J_reg ?_
      refine JL_q (q_fld FO_37_2) (k := ?_)
      refine JL_q (q_load Tryz.isAgg3) (k := ?_)
      refine JL_q (q_fld FO_37_3) (k := ?_)
      refine JL_q (q_load Tryz.isAgg3) (k := ?_)
      refine JL_q (q_lss) (k := ?_)
      refine JL_nil ?_
      refine JX_seq ?_
      refine J_dec rfl (fun hq8 => ?_) (fun hq8 => ?_)
      rotate_left
      · refine J_skip ?_
        refine JX_block ?_
        refine JX_seq ?_
        refine J_reg ?_
        refine JL_q (q_add) (k := ?_)
        refine JL_q (q_move) (k := ?_)
        refine JL_nil ?_
        refine JX_permL (out_2B ++ ((r3, Obj.cells [(Value.bool (x_3))].toArray 4) :: ((r2, Obj.cells [(Value.int .i64 (now))].toArray 3) :: ((r1, Obj.cells [(Value.int .i64 (id))].toArray 3) :: ((r6, Obj.cells [(Value.int .i64 (((l.getD x_1 default).id))), (Value.string (bs ((l.getD x_1 default).key))), (Value.int .i64 (((l.getD x_1 default).frm))), (Value.int .i64 (((l.getD x_1 default).to)))].toArray 37) :: ((r5, Obj.cells [(Value.int .i64 (((l.getD x_1 default).id))), (Value.string (bs ((l.getD x_1 default).key))), (Value.int .i64 (((l.getD x_1 default).frm))), (Value.int .i64 (((l.getD x_1 default).to)))].toArray 37) :: ((r4, Obj.cells [(Value.int .i64 (((l.getD x_1 default).id))), (Value.string (bs ((l.getD x_1 default).key))), (Value.int .i64 (((l.getD x_1 default).frm))), (Value.int .i64 (((l.getD x_1 default).to)))].toArray 37) :: []))))))) (((((List.Perm.cons _ ((List.Perm.cons _ ((List.Perm.cons _ ((List.Perm.append_left _ ((List.Perm.cons _ ((List.Perm.cons _ (List.Perm.refl _)).trans (List.Perm.swap _ _ _))).trans (List.Perm.swap _ _ _))).trans List.perm_middle)).trans (List.Perm.swap _ _ _))).trans (List.Perm.swap _ _ _))).trans (List.Perm.swap _ _ _)).trans ((List.Perm.cons _ ((List.Perm.cons _ ((List.Perm.cons _ ((List.Perm.cons _ ((List.Perm.append_left _ ((List.Perm.cons _ (List.Perm.refl _)).trans (List.Perm.swap _ _ _))).trans List.perm_middle)).trans (List.Perm.swap _ _ _))).trans (List.Perm.swap _ _ _))).trans (List.Perm.swap _ _ _))).trans (List.Perm.swap _ _ _))).trans ((List.Perm.cons _ ((List.Perm.cons _ ((List.Perm.cons _ ((List.Perm.cons _ ((List.Perm.cons _ ((List.Perm.append_left _ (List.Perm.refl _)).trans List.perm_middle)).trans (List.Perm.swap _ _ _))).trans (List.Perm.swap _ _ _))).trans (List.Perm.swap _ _ _))).trans (List.Perm.swap _ _ _))).trans (List.Perm.swap _ _ _))).trans ((List.Perm.cons _ ((List.Perm.cons _ ((List.Perm.cons _ ((List.Perm.cons _ ((List.Perm.cons _ ((List.Perm.cons _ (List.Perm.refl _)).trans List.perm_middle.symm)).trans List.perm_middle.symm)).trans List.perm_middle.symm)).trans List.perm_middle.symm)).trans List.perm_middle.symm)).trans List.perm_middle.symm)) ?_
        refine JX_subL (out_2B ++ ((r3, Obj.cells [(Value.bool (x_3))].toArray 4) :: ((r2, Obj.cells [(Value.int .i64 (now))].toArray 3) :: ((r1, Obj.cells [(Value.int .i64 (id))].toArray 3) :: [])))) (List.Sublist.append (List.Sublist.refl _) (List.Sublist.cons_cons _ (List.Sublist.cons_cons _ (List.Sublist.cons_cons _ (List.nil_sublist _))))) ?_
        exact JX_inv7 n_4 (x_1 + 1) out_2 out_2a out_2c out_2B x_3 ⟨by omega, (((hF5.pos hq3).neg hq4).neg hq8), hout_2, (by omega), (by omega)⟩ (Nat.lt_succ_self _) (by repeat (first | exact SubE.nil | refine SubE.cons rfl ?_)) (List.Perm.refl _)
      refine J_reg ?_
      refine JL_q (q_move) (k := ?_)
      refine JL_q (q_loadA Tryz.isAgg37 Tryz.sizeOf37) (k := ?_)
      refine JL_a noMk (a_bslice (l := [_, _, _, _]) Tryz.runUnderlying22 Tryz.sizeOf37 Tryz.zeroValue37) (k := fun r9 hr9 => ?_)
      refine JL_append (out_2 ++ ([(l.getD x_1 default)] : List Cred)) rfl TY_37 Tryz.underlying22 eCred_ok hout_2 ((List.Perm.cons _ ((List.Perm.cons _ ((List.Perm.cons _ ((List.Perm.cons _ (List.Perm.refl _)).trans List.perm_middle.symm)).trans List.perm_middle.symm)).trans List.perm_middle.symm)).trans List.perm_middle.symm) (SlJ.lit (xs := ([(l.getD x_1 default)] : List Cred)) eCred_ok) ⟨by omega, by omega⟩ (n := out_2.length) (m := 1) (k := fun ax3 cx3 Bx3 hox3 => ?_)
      have hal3 : (out_2 ++ ([(l.getD x_1 default)] : List Cred)).length = out_2.length + 1 := by first | rfl | simp
      refine JL_q (q_assign) (k := ?_)
      refine JL_nil ?_
      refine JX_block ?_
      refine JX_seq ?_
      refine J_reg ?_
      refine JL_q (q_add) (k := ?_)
      refine JL_q (q_move) (k := ?_)
      refine JL_nil ?_
      refine JX_permL (Bx3 ++ ((r3, Obj.cells [(Value.bool (x_3))].toArray 4) :: ((r2, Obj.cells [(Value.int .i64 (now))].toArray 3) :: ((r1, Obj.cells [(Value.int .i64 (id))].toArray 3) :: ((r9, Obj.cells [(Value.int .i64 (((l.getD x_1 default).id))), (Value.string (bs ((l.getD x_1 default).key))), (Value.int .i64 (((l.getD x_1 default).frm))), (Value.int .i64 (((l.getD x_1 default).to)))].toArray 37) :: ((r6, Obj.cells [(Value.int .i64 (((l.getD x_1 default).id))), (Value.string (bs ((l.getD x_1 default).key))), (Value.int .i64 (((l.getD x_1 default).frm))), (Value.int .i64 (((l.getD x_1 default).to)))].toArray 37) :: ((r5, Obj.cells [(Value.int .i64 (((l.getD x_1 default).id))), (Value.string (bs ((l.getD x_1 default).key))), (Value.int .i64 (((l.getD x_1 default).frm))), (Value.int .i64 (((l.getD x_1 default).to)))].toArray 37) :: ((r4, Obj.cells [(Value.int .i64 (((l.getD x_1 default).id))), (Value.string (bs ((l.getD x_1 default).key))), (Value.int .i64 (((l.getD x_1 default).frm))), (Value.int .i64 (((l.getD x_1 default).to)))].toArray 37) :: [])))))))) (((((List.Perm.append_left _ ((List.Perm.cons _ ((List.Perm.cons _ ((List.Perm.cons _ ((List.Perm.cons _ ((List.Perm.cons _ ((List.Perm.cons _ (List.Perm.refl _)).trans (List.Perm.swap _ _ _))).trans (List.Perm.swap _ _ _))).trans (List.Perm.swap _ _ _))).trans (List.Perm.swap _ _ _))).trans (List.Perm.swap _ _ _))).trans (List.Perm.swap _ _ _))).trans List.perm_middle).trans ((List.Perm.cons _ ((List.Perm.append_left _ ((List.Perm.cons _ ((List.Perm.cons _ ((List.Perm.cons _ ((List.Perm.cons _ ((List.Perm.cons _ (List.Perm.refl _)).trans (List.Perm.swap _ _ _))).trans (List.Perm.swap _ _ _))).trans (List.Perm.swap _ _ _))).trans (List.Perm.swap _ _ _))).trans (List.Perm.swap _ _ _))).trans List.perm_middle)).trans (List.Perm.swap _ _ _))).trans ((List.Perm.cons _ ((List.Perm.cons _ ((List.Perm.append_left _ ((List.Perm.cons _ ((List.Perm.cons _ ((List.Perm.cons _ ((List.Perm.cons _ (List.Perm.refl _)).trans (List.Perm.swap _ _ _))).trans (List.Perm.swap _ _ _))).trans (List.Perm.swap _ _ _))).trans (List.Perm.swap _ _ _))).trans List.perm_middle)).trans (List.Perm.swap _ _ _))).trans (List.Perm.swap _ _ _))).trans ((List.Perm.cons _ ((List.Perm.cons _ ((List.Perm.cons _ (List.Perm.refl _)).trans List.perm_middle.symm)).trans List.perm_middle.symm)).trans List.perm_middle.symm)) ?_
      refine JX_subL (Bx3 ++ ((r3, Obj.cells [(Value.bool (x_3))].toArray 4) :: ((r2, Obj.cells [(Value.int .i64 (now))].toArray 3) :: ((r1, Obj.cells [(Value.int .i64 (id))].toArray 3) :: [])))) (List.Sublist.append (List.Sublist.refl _) (List.Sublist.cons_cons _ (List.Sublist.cons_cons _ (List.Sublist.cons_cons _ (List.nil_sublist _))))) ?_
      exact JX_inv7 n_4 (x_1 + 1) (out_2 ++ ([(l.getD x_1 default)] : List Cred)) ax3 cx3 Bx3 x_3 ⟨by omega, (((hF5.pos hq3).neg hq4).pos hq8), hox3, (by omega), (by omega)⟩ (Nat.lt_succ_self _) (by repeat (first | exact SubE.nil | refine SubE.cons rfl ?_)) (List.Perm.refl _)
    refine JL_qg (q_loadA Tryz.isAgg37 Tryz.sizeOf37) (k := ?_)
    refine JL_qg (q_build (cs := [_, _, _, _]) Tryz.zeroValue55 PL_55) (k := ?_)
    refine JL_qg (q_load Tryz.isAgg3) (k := ?_)
    refine JL_vg (args := [(Value.agg [(Value.int .i64 (((l.getD x_1 default).id))), (Value.string (bs ((l.getD x_1 default).key))), (Value.int .i64 (((l.getD x_1 default).frm))), (Value.int .i64 (((l.getD x_1 default).to)))].toArray), (Value.int .i64 (now))]) (c_callA Tryz.call29) (fun w1 hw1 => cHolds_ok w1 (c := (l.getD x_1 default)) (now := now)) (k := ?_)
    refine JL_q (q_pickT) (k := ?_)
    refine JL_nil ?_
    refine JX_seq ?_
    refine J_cond rfl (fun hq5 => ?_) (fun hq5 => ?_)
    rotate_left
    · refine J_skip ?_
      refine JX_seq ?_
      refine J_seq ?_
      refine J_reg ?_
      refine JL_q (q_loadA Tryz.isAgg37 Tryz.sizeOf37) (k := ?_)
      refine JL_s (w_store (l' := [_, _, _, _]) Tryz.sizeOf37) (k := ?_)
      refine JL_nil ?_
      refine JX_seq ?_
      refine J_ret ?_
      refine JX_retI Tryz.results28 (Res.agg Tryz.isAgg37 Tryz.sizeOf37 rfl (by repeat (first | exact List.mem_cons_self | apply List.mem_cons_of_mem | apply List.mem_append_right)) rfl Res.nil) ?_
      refine JL_s (w_store (l' := [_, _, _, _]) Tryz.sizeOf37) (k := ?_)
      refine JL_nil ?_
      refine JX_seq ?_
      refine J_seq ?_
      refine J_reg ?_
      refine JL_q (q_fld FO_37_2) (k := ?_)
      refine JL_q (q_load Tryz.isAgg3) (k := ?_)
      refine JL_q (q_fld FO_37_3) (k := ?_)
      refine JL_q (q_load Tryz.isAgg3) (k := ?_)
      refine JL_q (q_lss) (k := ?_)
      refine JL_nil ?_
      refine JX_seq ?_
      refine J_dec rfl (fun hq7 => ?_) (fun hq7 => ?_)
      rotate_left
      · refine J_skip ?_
        refine JX_block ?_
        refine JX_seq ?_
        refine J_reg ?_
        refine JL_q (q_add) (k := ?_)
        refine JL_q (q_move) (k := ?_)
        refine JL_nil ?_
        refine JX_permL (out_2B ++ ((r3, Obj.cells [(Value.bool (x_3))].toArray 4) :: ((r2, Obj.cells [(Value.int .i64 (now))].toArray 3) :: ((r1, Obj.cells [(Value.int .i64 (id))].toArray 3) :: ((r6, Obj.cells [(Value.int .i64 (((l.getD x_1 default).id))), (Value.string (bs ((l.getD x_1 default).key))), (Value.int .i64 (((l.getD x_1 default).frm))), (Value.int .i64 (((l.getD x_1 default).to)))].toArray 37) :: ((r5, Obj.cells [(Value.int .i64 (((l.getD x_1 default).id))), (Value.string (bs ((l.getD x_1 default).key))), (Value.int .i64 (((l.getD x_1 default).frm))), (Value.int .i64 (((l.getD x_1 default).to)))].toArray 37) :: ((r4, Obj.cells [(Value.int .i64 (((l.getD x_1 default).id))), (Value.string (bs ((l.getD x_1 default).key))), (Value.int .i64 (((l.getD x_1 default).frm))), (Value.int .i64 (((l.getD x_1 default).to)))].toArray 37) :: []))))))) (((((List.Perm.cons _ ((List.Perm.cons _ ((List.Perm.cons _ ((List.Perm.append_left _ ((List.Perm.cons _ ((List.Perm.cons _ (List.Perm.refl _)).trans (List.Perm.swap _ _ _))).trans (List.Perm.swap _ _ _))).trans List.perm_middle)).trans (List.Perm.swap _ _ _))).trans (List.Perm.swap _ _ _))).trans (List.Perm.swap _ _ _)).trans ((List.Perm.cons _ ((List.Perm.cons _ ((List.Perm.cons _ ((List.Perm.cons _ ((List.Perm.append_left _ ((List.Perm.cons _ (List.Perm.refl _)).trans (List.Perm.swap _ _ _))).trans List.perm_middle)).trans (List.Perm.swap _ _ _))).trans (List.Perm.swap _ _ _))).trans (List.Perm.swap _ _ _))).trans (List.Perm.swap _ _ _))).trans ((List.Perm.cons _ ((List.Perm.cons _ ((List.Perm.cons _ ((List.Perm.cons _ ((List.Perm.cons _ ((List.Perm.append_left _ (List.Perm.refl _)).trans List.perm_middle)).trans (List.Perm.swap _ _ _))).trans (List.Perm.swap _ _ _))).trans (List.Perm.swap _ _ _))).trans (List.Perm.swap _ _ _))).trans (List.Perm.swap _ _ _))).trans ((List.Perm.cons _ ((List.Perm.cons _ ((List.Perm.cons _ ((List.Perm.cons _ ((List.Perm.cons _ ((List.Perm.cons _ (List.Perm.refl _)).trans List.perm_middle.symm)).trans List.perm_middle.symm)).trans List.perm_middle.symm)).trans List.perm_middle.symm)).trans List.perm_middle.symm)).trans List.perm_middle.symm)) ?_
        refine JX_subL (out_2B ++ ((r3, Obj.cells [(Value.bool (x_3))].toArray 4) :: ((r2, Obj.cells [(Value.int .i64 (now))].toArray 3) :: ((r1, Obj.cells [(Value.int .i64 (id))].toArray 3) :: [])))) (List.Sublist.append (List.Sublist.refl _) (List.Sublist.cons_cons _ (List.Sublist.cons_cons _ (List.Sublist.cons_cons _ (List.nil_sublist _))))) ?_
        exact JX_inv7 n_4 (x_1 + 1) out_2 out_2a out_2c out_2B x_3 ⟨by omega, ((((hF5.pos hq3).pos hq4).f hq5).neg hq7), hout_2, (by omega), (by omega)⟩ (Nat.lt_succ_self _) (by repeat (first | exact SubE.nil | refine SubE.cons rfl ?_)) (List.Perm.refl _)
      refine J_reg ?_
      refine JL_q (q_move) (k := ?_)
      refine JL_q (q_loadA Tryz.isAgg37 Tryz.sizeOf37) (k := ?_)
      refine JL_a noMk (a_bslice (l := [_, _, _, _]) Tryz.runUnderlying22 Tryz.sizeOf37 Tryz.zeroValue37) (k := fun r8 hr8 => ?_)
      refine JL_append (out_2 ++ ([(l.getD x_1 default)] : List Cred)) rfl TY_37 Tryz.underlying22 eCred_ok hout_2 ((List.Perm.cons _ ((List.Perm.cons _ ((List.Perm.cons _ ((List.Perm.cons _ (List.Perm.refl _)).trans List.perm_middle.symm)).trans List.perm_middle.symm)).trans List.perm_middle.symm)).trans List.perm_middle.symm) (SlJ.lit (xs := ([(l.getD x_1 default)] : List Cred)) eCred_ok) ⟨by omega, by omega⟩ (n := out_2.length) (m := 1) (k := fun ax2 cx2 Bx2 hox2 => ?_)
      have hal2 : (out_2 ++ ([(l.getD x_1 default)] : List Cred)).length = out_2.length + 1 := by first | rfl | simp
      refine JL_q (q_assign) (k := ?_)
      refine JL_nil ?_
      refine JX_block ?_
      refine JX_seq ?_
      refine J_reg ?_
      refine JL_q (q_add) (k := ?_)
      refine JL_q (q_move) (k := ?_)
      refine JL_nil ?_
      refine JX_permL (Bx2 ++ ((r3, Obj.cells [(Value.bool (x_3))].toArray 4) :: ((r2, Obj.cells [(Value.int .i64 (now))].toArray 3) :: ((r1, Obj.cells [(Value.int .i64 (id))].toArray 3) :: ((r8, Obj.cells [(Value.int .i64 (((l.getD x_1 default).id))), (Value.string (bs ((l.getD x_1 default).key))), (Value.int .i64 (((l.getD x_1 default).frm))), (Value.int .i64 (((l.getD x_1 default).to)))].toArray 37) :: ((r6, Obj.cells [(Value.int .i64 (((l.getD x_1 default).id))), (Value.string (bs ((l.getD x_1 default).key))), (Value.int .i64 (((l.getD x_1 default).frm))), (Value.int .i64 (((l.getD x_1 default).to)))].toArray 37) :: ((r5, Obj.cells [(Value.int .i64 (((l.getD x_1 default).id))), (Value.string (bs ((l.getD x_1 default).key))), (Value.int .i64 (((l.getD x_1 default).frm))), (Value.int .i64 (((l.getD x_1 default).to)))].toArray 37) :: ((r4, Obj.cells [(Value.int .i64 (((l.getD x_1 default).id))), (Value.string (bs ((l.getD x_1 default).key))), (Value.int .i64 (((l.getD x_1 default).frm))), (Value.int .i64 (((l.getD x_1 default).to)))].toArray 37) :: [])))))))) (((((List.Perm.append_left _ ((List.Perm.cons _ ((List.Perm.cons _ ((List.Perm.cons _ ((List.Perm.cons _ ((List.Perm.cons _ ((List.Perm.cons _ (List.Perm.refl _)).trans (List.Perm.swap _ _ _))).trans (List.Perm.swap _ _ _))).trans (List.Perm.swap _ _ _))).trans (List.Perm.swap _ _ _))).trans (List.Perm.swap _ _ _))).trans (List.Perm.swap _ _ _))).trans List.perm_middle).trans ((List.Perm.cons _ ((List.Perm.append_left _ ((List.Perm.cons _ ((List.Perm.cons _ ((List.Perm.cons _ ((List.Perm.cons _ ((List.Perm.cons _ (List.Perm.refl _)).trans (List.Perm.swap _ _ _))).trans (List.Perm.swap _ _ _))).trans (List.Perm.swap _ _ _))).trans (List.Perm.swap _ _ _))).trans (List.Perm.swap _ _ _))).trans List.perm_middle)).trans (List.Perm.swap _ _ _))).trans ((List.Perm.cons _ ((List.Perm.cons _ ((List.Perm.append_left _ ((List.Perm.cons _ ((List.Perm.cons _ ((List.Perm.cons _ ((List.Perm.cons _ (List.Perm.refl _)).trans (List.Perm.swap _ _ _))).trans (List.Perm.swap _ _ _))).trans (List.Perm.swap _ _ _))).trans (List.Perm.swap _ _ _))).trans List.perm_middle)).trans (List.Perm.swap _ _ _))).trans (List.Perm.swap _ _ _))).trans ((List.Perm.cons _ ((List.Perm.cons _ ((List.Perm.cons _ (List.Perm.refl _)).trans List.perm_middle.symm)).trans List.perm_middle.symm)).trans List.perm_middle.symm)) ?_
      refine JX_subL (Bx2 ++ ((r3, Obj.cells [(Value.bool (x_3))].toArray 4) :: ((r2, Obj.cells [(Value.int .i64 (now))].toArray 3) :: ((r1, Obj.cells [(Value.int .i64 (id))].toArray 3) :: [])))) (List.Sublist.append (List.Sublist.refl _) (List.Sublist.cons_cons _ (List.Sublist.cons_cons _ (List.Sublist.cons_cons _ (List.nil_sublist _))))) ?_
      exact JX_inv7 n_4 (x_1 + 1) (out_2 ++ ([(l.getD x_1 default)] : List Cred)) ax2 cx2 Bx2 x_3 ⟨by omega, ((((hF5.pos hq3).pos hq4).f hq5).pos hq7), hox2, (by omega), (by omega)⟩ (Nat.lt_succ_self _) (by repeat (first | exact SubE.nil | refine SubE.cons rfl ?_)) (List.Perm.refl _)
    refine J_planV ((r6, Obj.cells [(Value.int .i64 (0)), (Value.string (bs ([] : Str))), (Value.int .i64 (0)), (Value.int .i64 (0))].toArray 37) :: ((r4, Obj.cells [(Value.int .i64 (((l.getD x_1 default).id))), (Value.string (bs ((l.getD x_1 default).key))), (Value.int .i64 (((l.getD x_1 default).frm))), (Value.int .i64 (((l.getD x_1 default).to)))].toArray 37) :: (out_2B ++ ((r2, Obj.cells [(Value.int .i64 (now))].toArray 3) :: ((r1, Obj.cells [(Value.int .i64 (id))].toArray 3) :: []))))) ((r3, Obj.cells [(Value.bool (x_3))].toArray 4) :: ((r5, Obj.cells [(Value.int .i64 (((l.getD x_1 default).id))), (Value.string (bs ((l.getD x_1 default).key))), (Value.int .i64 (((l.getD x_1 default).frm))), (Value.int .i64 (((l.getD x_1 default).to)))].toArray 37) :: [])) (List.Perm.trans (((List.Perm.cons _ (List.Perm.refl _)).trans (List.Perm.swap _ _ _)).trans ((List.Perm.cons _ ((List.Perm.cons _ ((List.Perm.cons _ ((List.Perm.append_left _ (List.Perm.refl _)).trans List.perm_middle)).trans (List.Perm.swap _ _ _))).trans (List.Perm.swap _ _ _))).trans (List.Perm.swap _ _ _))) (List.Perm.of_eq (by first | rfl | (simp only [List.cons_append, List.nil_append, List.append_assoc, List.append_nil]; done) | (simp only [List.cons_append, List.nil_append, List.append_assoc, List.append_nil]; rfl)))) mixed 4 [(true, 0), (false, 1), (true, 2), (false, 3)] (by kernel_rfl) ?_
    refine JD_q (q_load Tryz.isAgg3) (k := ?_)
    refine JD_s (V' := ((r3, Obj.cells [(Value.bool (true))].toArray 4) :: ((r5, Obj.cells [(Value.int .i64 (((l.getD x_1 default).id))), (Value.string (bs ((l.getD x_1 default).key))), (Value.int .i64 (((l.getD x_1 default).frm))), (Value.int .i64 (((l.getD x_1 default).to)))].toArray 37) :: []))) (w_store (l' := [_]) Tryz.sizeOf4) (k := ?_)
    refine JD_q (q_fld FO_37_3) (k := ?_)
    refine JD_s (V' := ((r3, Obj.cells [(Value.bool (true))].toArray 4) :: ((r5, Obj.cells [(Value.int .i64 (((l.getD x_1 default).id))), (Value.string (bs ((l.getD x_1 default).key))), (Value.int .i64 (((l.getD x_1 default).frm))), (Value.int .i64 (now))].toArray 37) :: []))) (w_store (l' := [_, _, _, _]) Tryz.sizeOf3) (k := ?_)
    refine JD_nil ?_
    refine JL_eqL (L' := ((r3, Obj.cells [(Value.bool (true))].toArray 4) :: ((r5, Obj.cells [(Value.int .i64 (((l.getD x_1 default).id))), (Value.string (bs ((l.getD x_1 default).key))), (Value.int .i64 (((l.getD x_1 default).frm))), (Value.int .i64 (now))].toArray 37) :: ((r6, Obj.cells [(Value.int .i64 (0)), (Value.string (bs ([] : Str))), (Value.int .i64 (0)), (Value.int .i64 (0))].toArray 37) :: ((r4, Obj.cells [(Value.int .i64 (((l.getD x_1 default).id))), (Value.string (bs ((l.getD x_1 default).key))), (Value.int .i64 (((l.getD x_1 default).frm))), (Value.int .i64 (((l.getD x_1 default).to)))].toArray 37) :: (out_2B ++ ((r2, Obj.cells [(Value.int .i64 (now))].toArray 3) :: ((r1, Obj.cells [(Value.int .i64 (id))].toArray 3) :: [])))))))) (by simp only [List.append_nil, List.append_assoc, List.cons_append, List.nil_append]) ?_
    refine JL_nil ?_
    refine JX_seq ?_
    refine J_seq ?_
    refine J_reg ?_
    refine JL_q (q_loadA Tryz.isAgg37 Tryz.sizeOf37) (k := ?_)
    refine JL_s (w_store (l' := [_, _, _, _]) Tryz.sizeOf37) (k := ?_)
    refine JL_nil ?_
    refine JX_seq ?_
    refine J_ret ?_
    refine JX_retI Tryz.results28 (Res.agg Tryz.isAgg37 Tryz.sizeOf37 rfl (by repeat (first | exact List.mem_cons_self | apply List.mem_cons_of_mem | apply List.mem_append_right)) rfl Res.nil) ?_
    refine JL_s (w_store (l' := [_, _, _, _]) Tryz.sizeOf37) (k := ?_)
    refine JL_nil ?_
    refine JX_seq ?_
    refine J_seq ?_
    refine J_reg ?_
    refine JL_q (q_fld FO_37_2) (k := ?_)
    refine JL_q (q_load Tryz.isAgg3) (k := ?_)
    refine JL_q (q_fld FO_37_3) (k := ?_)
    refine JL_q (q_load Tryz.isAgg3) (k := ?_)
    refine JL_q (q_lss) (k := ?_)
    refine JL_nil ?_
    refine JX_seq ?_
    refine J_dec rfl (fun hq6 => ?_) (fun hq6 => ?_)
    rotate_left
    · refine J_skip ?_
      refine JX_block ?_
      refine JX_seq ?_
      refine J_reg ?_
      refine JL_q (q_add) (k := ?_)
      refine JL_q (q_move) (k := ?_)
      refine JL_nil ?_
      refine JX_permL (out_2B ++ ((r3, Obj.cells [(Value.bool (true))].toArray 4) :: ((r2, Obj.cells [(Value.int .i64 (now))].toArray 3) :: ((r1, Obj.cells [(Value.int .i64 (id))].toArray 3) :: ((r5, Obj.cells [(Value.int .i64 (((l.getD x_1 default).id))), (Value.string (bs ((l.getD x_1 default).key))), (Value.int .i64 (((l.getD x_1 default).frm))), (Value.int .i64 (now))].toArray 37) :: ((r6, Obj.cells [(Value.int .i64 (((l.getD x_1 default).id))), (Value.string (bs ((l.getD x_1 default).key))), (Value.int .i64 (((l.getD x_1 default).frm))), (Value.int .i64 (now))].toArray 37) :: ((r4, Obj.cells [(Value.int .i64 (((l.getD x_1 default).id))), (Value.string (bs ((l.getD x_1 default).key))), (Value.int .i64 (((l.getD x_1 default).frm))), (Value.int .i64 (now))].toArray 37) :: []))))))) (((((List.Perm.cons _ ((List.Perm.cons _ ((List.Perm.cons _ ((List.Perm.cons _ ((List.Perm.append_left _ ((List.Perm.cons _ (List.Perm.refl _)).trans (List.Perm.swap _ _ _))).trans List.perm_middle)).trans (List.Perm.swap _ _ _))).trans (List.Perm.swap _ _ _))).trans (List.Perm.swap _ _ _))).trans (List.Perm.swap _ _ _)).trans ((List.Perm.cons _ ((List.Perm.cons _ ((List.Perm.cons _ ((List.Perm.cons _ ((List.Perm.cons _ ((List.Perm.append_left _ (List.Perm.refl _)).trans List.perm_middle)).trans (List.Perm.swap _ _ _))).trans (List.Perm.swap _ _ _))).trans (List.Perm.swap _ _ _))).trans (List.Perm.swap _ _ _))).trans (List.Perm.swap _ _ _))).trans ((List.Perm.cons _ ((List.Perm.cons _ (List.Perm.refl _)).trans (List.Perm.swap _ _ _))).trans (List.Perm.swap _ _ _))).trans ((List.Perm.cons _ ((List.Perm.cons _ ((List.Perm.cons _ ((List.Perm.cons _ ((List.Perm.cons _ ((List.Perm.cons _ (List.Perm.refl _)).trans List.perm_middle.symm)).trans List.perm_middle.symm)).trans List.perm_middle.symm)).trans List.perm_middle.symm)).trans List.perm_middle.symm)).trans List.perm_middle.symm)) ?_
      refine JX_subL (out_2B ++ ((r3, Obj.cells [(Value.bool (true))].toArray 4) :: ((r2, Obj.cells [(Value.int .i64 (now))].toArray 3) :: ((r1, Obj.cells [(Value.int .i64 (id))].toArray 3) :: [])))) (List.Sublist.append (List.Sublist.refl _) (List.Sublist.cons_cons _ (List.Sublist.cons_cons _ (List.Sublist.cons_cons _ (List.nil_sublist _))))) ?_
      exact JX_inv7 n_4 (x_1 + 1) out_2 out_2a out_2c out_2B true ⟨by omega, ((((hF5.pos hq3).pos hq4).t hq5).neg hq6), hout_2, (by omega), (by omega)⟩ (Nat.lt_succ_self _) (by repeat (first | exact SubE.nil | refine SubE.cons rfl ?_)) (List.Perm.refl _)
    refine J_reg ?_
    refine JL_q (q_move) (k := ?_)
    refine JL_q (q_loadA Tryz.isAgg37 Tryz.sizeOf37) (k := ?_)
    refine JL_a noMk (a_bslice (l := [_, _, _, _]) Tryz.runUnderlying22 Tryz.sizeOf37 Tryz.zeroValue37) (k := fun r7 hr7 => ?_)
    refine JL_append (out_2 ++ ([(Cred.mk ((l.getD x_1 default).id) ((l.getD x_1 default).key) ((l.getD x_1 default).frm) now)] : List Cred)) rfl TY_37 Tryz.underlying22 eCred_ok hout_2 ((List.Perm.cons _ ((List.Perm.cons _ ((List.Perm.cons _ ((List.Perm.cons _ ((List.Perm.cons _ (List.Perm.refl _)).trans List.perm_middle.symm)).trans List.perm_middle.symm)).trans List.perm_middle.symm)).trans List.perm_middle.symm)).trans List.perm_middle.symm) (SlJ.lit (xs := ([(Cred.mk ((l.getD x_1 default).id) ((l.getD x_1 default).key) ((l.getD x_1 default).frm) now)] : List Cred)) eCred_ok) ⟨by omega, by omega⟩ (n := out_2.length) (m := 1) (k := fun ax1 cx1 Bx1 hox1 => ?_)
    have hal1 : (out_2 ++ ([(Cred.mk ((l.getD x_1 default).id) ((l.getD x_1 default).key) ((l.getD x_1 default).frm) now)] : List Cred)).length = out_2.length + 1 := by first | rfl | simp
    refine JL_q (q_assign) (k := ?_)
    refine JL_nil ?_
    refine JX_block ?_
    refine JX_seq ?_
    refine J_reg ?_
    refine JL_q (q_add) (k := ?_)
    refine JL_q (q_move) (k := ?_)
    refine JL_nil ?_
    refine JX_permL (Bx1 ++ ((r3, Obj.cells [(Value.bool (true))].toArray 4) :: ((r2, Obj.cells [(Value.int .i64 (now))].toArray 3) :: ((r1, Obj.cells [(Value.int .i64 (id))].toArray 3) :: ((r7, Obj.cells [(Value.int .i64 (((l.getD x_1 default).id))), (Value.string (bs ((l.getD x_1 default).key))), (Value.int .i64 (((l.getD x_1 default).frm))), (Value.int .i64 (now))].toArray 37) :: ((r5, Obj.cells [(Value.int .i64 (((l.getD x_1 default).id))), (Value.string (bs ((l.getD x_1 default).key))), (Value.int .i64 (((l.getD x_1 default).frm))), (Value.int .i64 (now))].toArray 37) :: ((r6, Obj.cells [(Value.int .i64 (((l.getD x_1 default).id))), (Value.string (bs ((l.getD x_1 default).key))), (Value.int .i64 (((l.getD x_1 default).frm))), (Value.int .i64 (now))].toArray 37) :: ((r4, Obj.cells [(Value.int .i64 (((l.getD x_1 default).id))), (Value.string (bs ((l.getD x_1 default).key))), (Value.int .i64 (((l.getD x_1 default).frm))), (Value.int .i64 (now))].toArray 37) :: [])))))))) (((((List.Perm.append_left _ ((List.Perm.cons _ ((List.Perm.cons _ ((List.Perm.cons _ ((List.Perm.cons _ ((List.Perm.cons _ ((List.Perm.cons _ (List.Perm.refl _)).trans (List.Perm.swap _ _ _))).trans (List.Perm.swap _ _ _))).trans (List.Perm.swap _ _ _))).trans (List.Perm.swap _ _ _))).trans (List.Perm.swap _ _ _))).trans (List.Perm.swap _ _ _))).trans List.perm_middle).trans ((List.Perm.cons _ ((List.Perm.append_left _ ((List.Perm.cons _ ((List.Perm.cons _ ((List.Perm.cons _ ((List.Perm.cons _ ((List.Perm.cons _ (List.Perm.refl _)).trans (List.Perm.swap _ _ _))).trans (List.Perm.swap _ _ _))).trans (List.Perm.swap _ _ _))).trans (List.Perm.swap _ _ _))).trans (List.Perm.swap _ _ _))).trans List.perm_middle)).trans (List.Perm.swap _ _ _))).trans ((List.Perm.cons _ ((List.Perm.cons _ ((List.Perm.append_left _ ((List.Perm.cons _ (List.Perm.refl _)).trans (List.Perm.swap _ _ _))).trans List.perm_middle)).trans (List.Perm.swap _ _ _))).trans (List.Perm.swap _ _ _))).trans ((List.Perm.cons _ ((List.Perm.cons _ ((List.Perm.cons _ (List.Perm.refl _)).trans List.perm_middle.symm)).trans List.perm_middle.symm)).trans List.perm_middle.symm)) ?_
    refine JX_subL (Bx1 ++ ((r3, Obj.cells [(Value.bool (true))].toArray 4) :: ((r2, Obj.cells [(Value.int .i64 (now))].toArray 3) :: ((r1, Obj.cells [(Value.int .i64 (id))].toArray 3) :: [])))) (List.Sublist.append (List.Sublist.refl _) (List.Sublist.cons_cons _ (List.Sublist.cons_cons _ (List.Sublist.cons_cons _ (List.nil_sublist _))))) ?_
    exact JX_inv7 n_4 (x_1 + 1) (out_2 ++ ([(Cred.mk ((l.getD x_1 default).id) ((l.getD x_1 default).key) ((l.getD x_1 default).frm) now)] : List Cred)) ax1 cx1 Bx1 true ⟨by omega, ((((hF5.pos hq3).pos hq4).t hq5).pos hq6), hox1, (by omega), (by omega)⟩ (Nat.lt_succ_self _) (by repeat (first | exact SubE.nil | refine SubE.cons rfl ?_)) (List.Perm.refl _)

end Go.Proofs.YtcmondhpiahchaaGreatDoor.Jd
