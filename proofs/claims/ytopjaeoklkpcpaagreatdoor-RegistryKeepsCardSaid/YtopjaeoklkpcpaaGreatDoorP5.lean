/- Part of the proofs of this seat: walks and plain facts. No condition. -/
import Derived.Test.YtopjaeoklkpcpaaGreatDoorP0
import Derived.Test.YtopjaeoklkpcpaaGreatDoorProg
import Derived.Test.YtopjaeoklkpcpaaGreatDoorP4
import Derived.Test.YtopjaeoklkpcpaaGreatDoorP1
import Derived.Test.YtopjaeoklkpcpaaGreatDoorP2
import Derived.Test.YtopjaeoklkpcpaaGreatDoorP3
namespace Go.Proofs.YtopjaeoklkpcpaaGreatDoor.Jd
open Go.Proofs
open Go.RowKit (Below)
set_option maxRecDepth 100000
set_option maxHeartbeats 8000000
set_option linter.unusedVariables false
set_option linter.unusedSimpArgs false
theorem gApplyJ_ok (w : World) {r_slots_gens_a : Option Addr} {r_slots_gens_c : Nat} {r_slots_used_a : Option Addr} {r_slots_used_c : Nat} {r_slots_free_a : Option Addr} {r_slots_free_c : Nat} {r_l_a : Option Addr} {r_l_c : Nat} {r_l_t : List TA} {ea0 : Addr} {ea1 : Addr} {ea2 : Addr} {ea3 : Addr} {r : Registry} {role : Int} {c : Command} {now : Int} (h_r_slots_gens : Sl w eI 1 r_slots_gens_a r.slots.gens) (n_r_slots_gens : r.slots.gens.length ≤ 1000) (h_r_slots_used : Sl w eB 1 r_slots_used_a r.slots.used) (n_r_slots_used : r.slots.used.length ≤ 1000) (h_r_slots_free : Sl w eI 1 r_slots_free_a r.slots.free) (n_r_slots_free : r.slots.free.length ≤ 1000) (h_r_l : SlN w eTenant 8 DT r_l_a r.l r_l_t) (n_r_l : r.l.length ≤ 1000) (k_r_l : r.l.length ≤ r_l_c) (i_c_at_ : -9223372036854775808 ≤ c.at_ ∧ c.at_ ≤ 9223372036854775807) (hG : Gl w) (hE : Er w ea0 ea1 ea2 ea3) (hsm : Small r.l) : Calls Tryz.prog 17 (List.toArray [(Value.agg [(vs r_slots_gens_a r.slots.gens.length r_slots_gens_c), (vs r_slots_used_a r.slots.used.length r_slots_used_c), (vs r_slots_free_a r.slots.free.length r_slots_free_c), (vs r_l_a r.l.length r_l_c), (vi r.seq)].toArray), (vi role), (Value.agg [(vi c.verb), (vt c.name), (vi c.want), (vi c.at_), (Value.bool c.rule.allow), (vi c.rule.pfx.addr), (vi c.rule.pfx.bits), (vi c.rule.prt.lo), (vi c.rule.prt.hi), (vt c.key), (vi c.n), (vi c.m)].toArray), (vi now)]) w fun e w2 => ∃ a1 : Option Addr, ∃ c1 : Nat, ∃ a2 : Option Addr, ∃ c2 : Nat, ∃ a3 : Option Addr, ∃ c3 : Nat, ∃ a4 : Option Addr, ∃ c4 : Nat, ∃ t4 : List TA, ∃ B : Heap, e = .returned (Value.tuple [(Value.agg [(vs a1 ((gApplyJ r role c now).1.slots.gens.length) c1), (vs a2 ((gApplyJ r role c now).1.slots.used.length) c2), (vs a3 ((gApplyJ r role c now).1.slots.free.length) c3), (vs a4 ((gApplyJ r role c now).1.l.length) c4), (vi ((gApplyJ r role c now).1.seq))].toArray), (Value.agg [(vi ((gApplyJ r role c now).2.err)), (vi ((gApplyJ r role c now).2.seq)), (vi ((gApplyJ r role c now).2.handle.slot)), (vi ((gApplyJ r role c now).2.handle.gen)), (vi ((gApplyJ r role c now).2.version)), (vi ((gApplyJ r role c now).2.state))].toArray)].toArray) ∧ Fresh w w2 B ∧ SlB B eI 1 a1 (gApplyJ r role c now).1.slots.gens ∧ SlB B eB 1 a2 (gApplyJ r role c now).1.slots.used ∧ SlB B eI 1 a3 (gApplyJ r role c now).1.slots.free ∧ (SlNB B eTenant 8 DT a4 (gApplyJ r role c now).1.l t4 ∧ (gApplyJ r role c now).1.l.length ≤ c4) ∧ (gApplyJ r role c now).1.slots.gens.length ≤ 1000 ∧ (gApplyJ r role c now).1.slots.used.length ≤ 1000 ∧ (gApplyJ r role c now).1.slots.free.length ≤ 1000 ∧ (gApplyJ r role c now).1.l.length ≤ 1000 := by
 have hF := Is.refl (gApplyJ r role c now)
 refine enter Tryz.func17 Tryz.ntmps17 (h := ?_)
 refine Z2 ?_
 refine JL_a noMk (a_box (l := [_, _, _, _, _])) (k := fun r1 hr1 => ?_)
 refine JL_a noMk (a_box (l := [_, _, _, _, _, _, _, _, _, _, _, _])) (k := fun r2 hr2 => ?_)
 refine JL_a noMk (a_alloc (l := [_, _, _, _, _]) Tryz.zeroValue28) (k := fun r3 hr3 => ?_)
 refine JL_a noMk (a_alloc (l := [_, _, _, _, _, _]) Tryz.zeroValue44) (k := fun r4 hr4 => ?_)
 refine Z72 ?_
 refine Z21 ?_
 refine JL_v (c_callA Tryz.call23) (fun w1 hw1 => gRight_ok w1 (r := r) (h_r_slots_gens := (SlJ.of_base h_r_slots_gens) w1 hw1) (n_r_slots_gens := by first | omega | (simp; done) | exact (hsm _ (by omega)).1 | exact (hsm _ (by omega)).2) (h_r_slots_used := (SlJ.of_base h_r_slots_used) w1 hw1) (n_r_slots_used := by first | omega | (simp; done) | exact (hsm _ (by omega)).1 | exact (hsm _ (by omega)).2) (h_r_slots_free := (SlJ.of_base h_r_slots_free) w1 hw1) (n_r_slots_free := by first | omega | (simp; done) | exact (hsm _ (by omega)).1 | exact (hsm _ (by omega)).2) (h_r_l := (SlNJ.of_base DT_ok h_r_l).2 w1 hw1) (n_r_l := by first | omega | (simp; done) | exact (hsm _ (by omega)).1 | exact (hsm _ (by omega)).2) (k_r_l := k_r_l) (hsm := by first | omega | (simp; done) | exact (hsm _ (by omega)).1 | exact (hsm _ (by omega)).2)) (k := ?_)
 refine Z484 ?_
 refine Z481 ?_
 refine JL_bool 18 rfl (fun hq1 => ?_) (fun hq1 => ?_)
 ·refine JL_skips 3 rfl ?_
  refine Z18 ?_
  refine JL_skips 2 rfl ?_
  refine Z18 ?_
  refine JL_skips 2 rfl ?_
  refine Z285 ?_
  refine Z213 ?_
  refine Z19 ?_
  refine Z44 ?_
  refine Z510 ?_
  refine JX_ret Tryz.results17 (Res.agg Tryz.isAgg28 Tryz.sizeOf28 rfl me rfl (Res.agg Tryz.isAgg44 Tryz.sizeOf44 rfl me rfl Res.nil)) (fun w1 hw1 => ?_)
  exact ⟨none, 0, none, 0, none, 0, none, 0, [], [], (by rw [(hF.t hq1).eq] <;> first | rfl | (simp only [List.length_set] <;> rfl)), (hw1.fresh_out.sub (List.nil_sublist _)), (by rw [(hF.t hq1).eq]; exact SlB.nil), (by rw [(hF.t hq1).eq]; exact SlB.nil), (by rw [(hF.t hq1).eq]; exact SlB.nil), (by rw [(hF.t hq1).eq]; exact ⟨SlNB.nil, by first | (simp; done) | exact Nat.le_of_eq rfl⟩), (by rw [(hF.t hq1).eq]; first | exact lb), (by rw [(hF.t hq1).eq]; first | exact lb), (by rw [(hF.t hq1).eq]; first | exact lb), (by rw [(hF.t hq1).eq]; first | exact lb)⟩
 have hfhq1 := gRight_t (by simpa using hq1)
 refine Z157 ?_
 refine JL_qg q_geq (k := ?_)
 refine Z5 ?_
 refine JL_dec 23 rfl (fun hq2 => ?_) (fun hq2 => ?_)
 ·refine JL_skips 2 rfl ?_
  refine Z18 ?_
  refine JL_skips 2 rfl ?_
  refine Z285 ?_
  refine Z213 ?_
  refine Z19 ?_
  refine Z44 ?_
  refine Z510 ?_
  refine JX_ret Tryz.results17 (Res.agg Tryz.isAgg28 Tryz.sizeOf28 rfl me rfl (Res.agg Tryz.isAgg44 Tryz.sizeOf44 rfl me rfl Res.nil)) (fun w1 hw1 => ?_)
  exact ⟨none, 0, none, 0, none, 0, none, 0, [], [], (by rw [((hF.f hq1).pos hq2).eq] <;> first | rfl | (simp only [List.length_set] <;> rfl)), (hw1.fresh_out.sub (List.nil_sublist _)), (by rw [((hF.f hq1).pos hq2).eq]; exact SlB.nil), (by rw [((hF.f hq1).pos hq2).eq]; exact SlB.nil), (by rw [((hF.f hq1).pos hq2).eq]; exact SlB.nil), (by rw [((hF.f hq1).pos hq2).eq]; exact ⟨SlNB.nil, by first | (simp; done) | exact Nat.le_of_eq rfl⟩), (by rw [((hF.f hq1).pos hq2).eq]; first | exact lb), (by rw [((hF.f hq1).pos hq2).eq]; first | exact lb), (by rw [((hF.f hq1).pos hq2).eq]; first | exact lb), (by rw [((hF.f hq1).pos hq2).eq]; first | exact lb)⟩
 refine Z489 ?_
 refine JL_qg q_lss (k := ?_)
 refine Z5 ?_
 refine JL_dec 27 rfl (fun hq3 => ?_) (fun hq3 => ?_)
 ·refine JL_skips 2 rfl ?_
  refine Z285 ?_
  refine Z213 ?_
  refine Z19 ?_
  refine Z44 ?_
  refine Z510 ?_
  refine JX_ret Tryz.results17 (Res.agg Tryz.isAgg28 Tryz.sizeOf28 rfl me rfl (Res.agg Tryz.isAgg44 Tryz.sizeOf44 rfl me rfl Res.nil)) (fun w1 hw1 => ?_)
  exact ⟨none, 0, none, 0, none, 0, none, 0, [], [], (by rw [(((hF.f hq1).neg hq2).pos hq3).eq] <;> first | rfl | (simp only [List.length_set] <;> rfl)), (hw1.fresh_out.sub (List.nil_sublist _)), (by rw [(((hF.f hq1).neg hq2).pos hq3).eq]; exact SlB.nil), (by rw [(((hF.f hq1).neg hq2).pos hq3).eq]; exact SlB.nil), (by rw [(((hF.f hq1).neg hq2).pos hq3).eq]; exact SlB.nil), (by rw [(((hF.f hq1).neg hq2).pos hq3).eq]; exact ⟨SlNB.nil, by first | (simp; done) | exact Nat.le_of_eq rfl⟩), (by rw [(((hF.f hq1).neg hq2).pos hq3).eq]; first | exact lb), (by rw [(((hF.f hq1).neg hq2).pos hq3).eq]; first | exact lb), (by rw [(((hF.f hq1).neg hq2).pos hq3).eq]; first | exact lb), (by rw [(((hF.f hq1).neg hq2).pos hq3).eq]; first | exact lb)⟩
 refine Z409 ?_
 refine Z247 ?_
 refine J_dec rfl (fun hq4 => ?_) (fun hq4 => ?_)
 ·refine J_seq ?_
  refine Z486 ?_
  refine Z213 ?_
  refine Z19 ?_
  refine Z44 ?_
  refine Z510 ?_
  refine JX_ret Tryz.results17 (Res.agg Tryz.isAgg28 Tryz.sizeOf28 rfl me rfl (Res.agg Tryz.isAgg44 Tryz.sizeOf44 rfl me rfl Res.nil)) (fun w1 hw1 => ?_)
  exact ⟨none, 0, none, 0, none, 0, none, 0, [], [], (by rw [((((hF.f hq1).neg hq2).neg hq3).pos hq4).eq] <;> first | rfl | (simp only [List.length_set] <;> rfl)), (hw1.fresh_out.sub (List.nil_sublist _)), (by rw [((((hF.f hq1).neg hq2).neg hq3).pos hq4).eq]; exact SlB.nil), (by rw [((((hF.f hq1).neg hq2).neg hq3).pos hq4).eq]; exact SlB.nil), (by rw [((((hF.f hq1).neg hq2).neg hq3).pos hq4).eq]; exact SlB.nil), (by rw [((((hF.f hq1).neg hq2).neg hq3).pos hq4).eq]; exact ⟨SlNB.nil, by first | (simp; done) | exact Nat.le_of_eq rfl⟩), (by rw [((((hF.f hq1).neg hq2).neg hq3).pos hq4).eq]; first | exact lb), (by rw [((((hF.f hq1).neg hq2).neg hq3).pos hq4).eq]; first | exact lb), (by rw [((((hF.f hq1).neg hq2).neg hq3).pos hq4).eq]; first | exact lb), (by rw [((((hF.f hq1).neg hq2).neg hq3).pos hq4).eq]; first | exact lb)⟩
 refine Z14 ?_
 refine Z127 ?_
 rintro w1_1 e1_1 w2_1 hw1_1 ⟨a1_1, c1_1, a2_1, c2_1, a3_1, c3_1, a4_1, c4_1, t4_1, B_1, he_1, hf_1, hs1_1, hs2_1, hs3_1, hs4_1, hl1_1, hl2_1, hl3_1, hl4_1⟩
 refine ⟨_, _, he_1, hw1_1.fresh hf_1, ?_⟩
 refine Z133 ?_
 refine Z2 ?_
 refine Z94 ?_
 refine Z502 ?_
 refine Z201 ?_
 refine Z72 ?_
 refine Z4 ?_
 refine Z382 ?_
 refine JL_v (c_callA Tryz.call40) (fun w1 hw1 => roMay_ok w1 (n_ := role) (v := c.verb) (hG := hG.ext hw1.ext_out) (hE := hE.ext hw1.ext_out)) (k := ?_)
 refine Z189 ?_
 refine J_cond rfl (fun hq5 => ?_) (fun hq5 => ?_)
 ·refine J_seq ?_
  refine J_planV _ _ (vp ((qc q0).trans (qa (qc q0))) (nC (nC nE))) mixed 6 [(true, 0), (true, 1), (true, 2), (true, 3), (false, 4), (false, 5)] (by kernel_rfl) ?_
  refine Z525 ?_
  refine Z380 ?_
  refine JD_q (q_build (cs := [_, _, _, _, _, _]) Tryz.zeroValue44 PL_44) (k := ?_)
  refine Z233 ?_
  refine JD_nil ?_
  refine Z280 ?_
  refine Z510 ?_
  refine JX_ret Tryz.results17 (Res.agg Tryz.isAgg28 Tryz.sizeOf28 rfl me rfl (Res.agg Tryz.isAgg44 Tryz.sizeOf44 rfl me rfl Res.nil)) (fun w1 hw1 => ?_)
  exact ⟨a1_1, c1_1, a2_1, c2_1, a3_1, c3_1, a4_1, c4_1, t4_1, B_1, (by rw [(((((hF.f hq1).neg hq2).neg hq3).neg hq4).t hq5).eq] <;> first | rfl | (simp only [List.length_set] <;> rfl)), (fresh_segs (L := B_1) (hw1.perm (qb (qb q0))) rfl.symm), (by rw [(((((hF.f hq1).neg hq2).neg hq3).neg hq4).t hq5).eq]; exact (hs1_1.mono (by intro p hp; repeat (first | exact hp | exact List.mem_append_left _ hp | apply List.mem_append_right | apply List.mem_cons_of_mem)))), (by rw [(((((hF.f hq1).neg hq2).neg hq3).neg hq4).t hq5).eq]; exact (hs2_1.mono (by intro p hp; repeat (first | exact hp | exact List.mem_append_left _ hp | apply List.mem_append_right | apply List.mem_cons_of_mem)))), (by rw [(((((hF.f hq1).neg hq2).neg hq3).neg hq4).t hq5).eq]; exact (hs3_1.mono (by intro p hp; repeat (first | exact hp | exact List.mem_append_left _ hp | apply List.mem_append_right | apply List.mem_cons_of_mem)))), (by rw [(((((hF.f hq1).neg hq2).neg hq3).neg hq4).t hq5).eq]; exact ⟨(hs4_1.1.mono sh), hs4_1.2⟩), (by rw [(((((hF.f hq1).neg hq2).neg hq3).neg hq4).t hq5).eq]; first | exact lb), (by rw [(((((hF.f hq1).neg hq2).neg hq3).neg hq4).t hq5).eq]; first | exact lb), (by rw [(((((hF.f hq1).neg hq2).neg hq3).neg hq4).t hq5).eq]; first | exact lb), (by rw [(((((hF.f hq1).neg hq2).neg hq3).neg hq4).t hq5).eq]; first | exact lb)⟩
 have hfhq5 := roMay_t (by simpa using hq5)
 refine Z167 ?_
 refine J_join30 (σ1 := Bool) (σ2 := Int) (σ3 := Int) (σ4 := Int) (σ5 := Str) (σ6 := Int) (σ7 := Int) (σ8 := List Rule) (σ9 := Option Addr) (σ10 := Nat) (σ11 := List Cred) (σ12 := Option Addr) (σ13 := Nat) (σ14 := Int) (σ15 := List Int) (σ16 := Option Addr) (σ17 := Nat) (σ18 := List Bool) (σ19 := Option Addr) (σ20 := Nat) (σ21 := List Int) (σ22 := Option Addr) (σ23 := Nat) (σ24 := List Tenant) (σ25 := List TA) (σ26 := Option Addr) (σ27 := Nat) (σ28 := Heap) (σ29 := Nat) (σ30 := Nat) (fun err_1b err_1 x_2 x_3 x_4 x_5 x_6 x_7 x_7a x_7c x_8 x_8a x_8c x_9 x_10 x_10a x_10c x_11 x_11a x_11c x_12 x_12a x_12c x_13 x_13t x_13a x_13c x_7B r14 r13 => (x_7B ++ ((r14, oc [(vi x_2), (vi x_3), (vt x_4), (vi x_5), (vi x_6), (vs x_7a x_7.length x_7c), (vs x_8a x_8.length x_8c), (vi x_9)] 52) :: ((r13, oc [(vs x_10a x_10.length x_10c), (vs x_11a x_11.length x_11c), (vs x_12a x_12.length x_12c), (vs x_13a x_13.length x_13c), (vi (r.seq + 1))] 28) :: (B_1 ++ ((r4, oc [(vi 0), (vi 0), (vi 0), (vi 0), (vi 0), (vi 0)] 44) :: ((r3, oc [(vs none 0 0), (vs none 0 0), (vs none 0 0), (vs none 0 0), (vi 0)] 28) :: ((r2, oc [(vi c.verb), (vt c.name), (vi c.want), (vi c.at_), (Value.bool c.rule.allow), (vi c.rule.pfx.addr), (vi c.rule.pfx.bits), (vi c.rule.prt.lo), (vi c.rule.prt.hi), (vt c.key), (vi c.n), (vi c.m)] 36) :: ((r1, oc [(vs a1_1 r.slots.gens.length c1_1), (vs a2_1 r.slots.used.length c2_1), (vs a3_1 r.slots.free.length c3_1), (vs a4_1 r.l.length c4_1), (vi (r.seq + 1))] 28) :: []))))))))) (fun err_1b err_1 x_2 x_3 x_4 x_5 x_6 x_7 x_7a x_7c x_8 x_8a x_8c x_9 x_10 x_10a x_10c x_11 x_11a x_11c x_12 x_12a x_12c x_13 x_13t x_13a x_13c x_7B r14 r13 => [(4, (Value.pointer (some ⟨r1, 0, none⟩))), (8, (Value.pointer (some ⟨r3, 0, none⟩))), (9, (Value.pointer (some ⟨r4, 0, none⟩))), (10, (Value.pointer (some ⟨r13, 0, none⟩))), (11, (Value.pointer (some ⟨r14, 0, none⟩))), (12, (wE 120 err_1b err_1))]) (fun err_1b err_1 x_2 x_3 x_4 x_5 x_6 x_7 x_7a x_7c x_8 x_8a x_8c x_9 x_10 x_10a x_10c x_11 x_11a x_11c x_12 x_12a x_12c x_13 x_13t x_13a x_13c x_7B r14 r13 => Is (Is.xr14 (((((hF.f hq1).neg hq2).neg hq3).neg hq4).f hq5)) (err_1b, err_1, x_2, x_3, x_4, x_5, x_6, x_7, x_8, x_9, x_10, x_11, x_12, x_13) ∧ SlBC (B_1 ++ x_7B) eRule 5 x_7a x_7c x_7 ∧ SlBC (B_1 ++ x_7B) eCred 4 x_8a x_8c x_8 ∧ SlB (B_1 ++ x_7B) eI 1 x_10a x_10 ∧ SlB (B_1 ++ x_7B) eB 1 x_11a x_11 ∧ SlB (B_1 ++ x_7B) eI 1 x_12a x_12 ∧ (SlNB (B_1 ++ x_7B) eTenant 8 DT x_13a x_13 x_13t ∧ x_13.length ≤ x_13c) ∧ x_10.length ≤ 1000 ∧ x_11.length ≤ 1000 ∧ x_12.length ≤ 1000 ∧ x_13.length ≤ 1000) ?_ ?_
 ·skip
  refine Z50 ?_
  refine Z126 ?_
  refine JL_inl (args := [_, _, _]) (c_callA Tryz.call41) Tryz.func41 Tryz.ntmps41 ?_
  refine Z2 ?_
  refine JL_a noMk (a_box (l := [_, _, _, _, _])) (k := fun r5 hr5 => ?_)
  refine JL_a noMk (a_box (l := [_, _, _, _, _, _, _, _, _, _, _, _])) (k := fun r6 hr6 => ?_)
  refine JL_a noMk (a_alloc (l := [_, _, _, _, _]) Tryz.zeroValue28) (k := fun r7 hr7 => ?_)
  refine JL_a noMk (a_alloc (l := [_, _, _, _, _, _, _, _]) Tryz.zeroValue52) (k := fun r8 hr8 => ?_)
  refine Z427 ?_
  refine Z382 ?_
  refine Z305 ?_
  refine Z2 ?_
  refine Z378 ?_
  refine J_dec rfl (fun hq6 => ?_) (fun hq6 => ?_)
  ·refine J_seq ?_
   refine Z50 ?_
   refine Z126 ?_
   refine JL_inl (args := [_, _, _]) (c_callA Tryz.call74) Tryz.func74 Tryz.ntmps74 ?_
   refine Z2 ?_
   refine JL_a noMk (a_box (l := [_, _, _, _, _])) (k := fun r9 hr9 => ?_)
   refine JL_a noMk (a_box (l := [_, _, _, _, _, _, _, _, _, _, _, _])) (k := fun r10 hr10 => ?_)
   refine JL_a noMk (a_alloc (l := [_, _, _, _, _]) Tryz.zeroValue28) (k := fun r11 hr11 => ?_)
   refine JL_a noMk (a_alloc (l := [_, _, _, _, _, _, _, _]) Tryz.zeroValue52) (k := fun r12 hr12 => ?_)
   refine Z427 ?_
   refine Z84 ?_
   refine JL_v (c_callA Tryz.call92) (fun w1 hw1 => gIsName_ok w1 (s := c.name)) (k := ?_)
   refine Z189 ?_
   refine J_cond rfl (fun hq7 => ?_) (fun hq7 => ?_)
   ·refine J_seq ?_
    refine Z211 ?_
    refine Z65 ?_
    refine Z15 ?_
    refine Z420 ?_
    refine Z169 ?_
    refine Z274 ?_
    refine Z292 ?_
    refine Z337 ?_
    refine JL_a noMk (a_alloc (l := [_, _, _, _, _]) Tryz.zeroValue28) (k := fun r13 hr13 => ?_)
    refine JL_a noMk (a_alloc (l := [_, _, _, _, _, _, _, _]) Tryz.zeroValue52) (k := fun r14 hr14 => ?_)
    refine Z450 ?_
    exact JX_join30 true 152 0 0 ([] : Str) 0 0 ([]) none 0 ([]) none 0 0 r.slots.gens a1_1 c1_1 r.slots.used a2_1 c2_1 r.slots.free a3_1 c3_1 r.l t4_1 a4_1 c4_1 ([]) r14 r13 ⟨(((Is.refl (Is.xr14 (((((hF.f hq1).neg hq2).neg hq3).neg hq4).f hq5))).pos hq6).t hq7), SlBC.nil, SlBC.nil, (SlB.mono hs1_1 sh), (SlB.mono hs2_1 sh), (SlB.mono hs3_1 sh), ⟨(hs4_1.1.mono sh), hs4_1.2⟩, (by first | omega | assumption | (simp; done)), (by first | omega | assumption | (simp; done)), (by first | omega | assumption | (simp; done)), (by first | omega | assumption | (simp; done))⟩ se pj
   refine Z167 ?_
   refine Z21 ?_
   refine Z145 ?_
   refine Z37 ?_
   refine Z488 ?_
   refine Z107 ?_
   refine Z0 ?_
   refine J_cond rfl (fun hq8 => ?_) (fun hq8 => ?_)
   ·have hfhq8 := gPlace_t hq8
    have hxn : (((xN r c : Nat) : Int) = (gPlace (xR r) c.name).1 ∧ xN r c < r.l.length) ∧ (1 ≤ (xA r c).version ∧ (xA r c).version ≤ r.seq) := (fun h0 => ⟨h0, gRight_ver (by simpa using hq1) h0.2⟩) (by have e1 : (gPlace (xR r) c.name).1.toNat = xN r c := rfl; have e2 : (xR r).l.length = r.l.length := rfl; omega)
    refine Z21 ?_
    refine Z520 ?_
    refine Z65 ?_
    refine Z15 ?_
    refine Z420 ?_
    refine Z169 ?_
    refine Z274 ?_
    refine Z292 ?_
    refine Z337 ?_
    refine JL_a noMk (a_alloc (l := [_, _, _, _, _]) Tryz.zeroValue28) (k := fun r15 hr15 => ?_)
    refine JL_a noMk (a_alloc (l := [_, _, _, _, _, _, _, _]) Tryz.zeroValue52) (k := fun r16 hr16 => ?_)
    refine Z450 ?_
    exact JX_join30 true 153 0 0 ([] : Str) 0 0 ([]) none 0 ([]) none 0 0 r.slots.gens a1_1 c1_1 r.slots.used a2_1 c2_1 r.slots.free a3_1 c3_1 r.l t4_1 a4_1 c4_1 ([]) r16 r15 ⟨((((Is.refl (Is.xr14 (((((hF.f hq1).neg hq2).neg hq3).neg hq4).f hq5))).pos hq6).f hq7).t hq8), SlBC.nil, SlBC.nil, (SlB.mono hs1_1 sh), (SlB.mono hs2_1 sh), (SlB.mono hs3_1 sh), ⟨(hs4_1.1.mono sh), hs4_1.2⟩, (by first | omega | assumption | (simp; done)), (by first | omega | assumption | (simp; done)), (by first | omega | assumption | (simp; done)), (by first | omega | assumption | (simp; done))⟩ se pj
   refine Z390 ?_
   refine Z224 ?_
   refine JL_p (c_callA Tryz.call110) (fun w1 hw1 => sTake_ok w1 (s := r.slots) (h_s_gens := (SlB.slj hs1_1) w1 hw1) (n_s_gens := by first | omega | (simp; done) | exact (hsm _ (by omega)).1 | exact (hsm _ (by omega)).2) (h_s_used := (SlB.slj hs2_1) w1 hw1) (n_s_used := by first | omega | (simp; done) | exact (hsm _ (by omega)).1 | exact (hsm _ (by omega)).2) (h_s_free := (SlB.slj hs3_1) w1 hw1) (n_s_free := by first | omega | (simp; done) | exact (hsm _ (by omega)).1 | exact (hsm _ (by omega)).2)) (k := ?_)
   rintro w1_2 e1_2 w2_2 hw1_2 ⟨a1_2, c1_2, a2_2, c2_2, a3_2, c3_2, B_2, he_2, hf_2, hs1_2, hs2_2, hs3_2, hl1_2, hl2_2, hl3_2⟩
   refine ⟨_, _, he_2, hw1_2.fresh hf_2, ?_⟩
   refine Z37 ?_
   refine Z498 ?_
   refine JL_a noMk (a_alloc (l := [_, _, _]) Tryz.zeroValue25) (k := fun r17 hr17 => ?_)
   refine JL_a noMk (a_alloc (l := [_, _]) Tryz.zeroValue42) (k := fun r18 hr18 => ?_)
   refine Z128 ?_
   refine Z104 ?_
   refine Z190 ?_
   refine J_dec rfl (fun hq9 => ?_) (fun hq9 => ?_)
   ·refine J_seq ?_
    refine Z211 ?_
    refine Z481 ?_
    refine Z65 ?_
    refine Z15 ?_
    refine Z41 ?_
    refine JX_subL _ (sd (sd (sx (sk (sk (sd (sd (sk (sk (sk (sk (sa (sk (sk (sk (sk sz)))))))))))))))) ?_
    refine Z169 ?_
    refine Z274 ?_
    refine Z292 ?_
    refine Z337 ?_
    refine JL_a noMk (a_alloc (l := [_, _, _, _, _]) Tryz.zeroValue28) (k := fun r19 hr19 => ?_)
    refine JL_a noMk (a_alloc (l := [_, _, _, _, _, _, _, _]) Tryz.zeroValue52) (k := fun r20 hr20 => ?_)
    refine Z450 ?_
    exact JX_join30 true ((sTake r.slots).2.2) 0 0 ([] : Str) 0 0 ([]) none 0 ([]) none 0 0 r.slots.gens a1_1 c1_1 r.slots.used a2_1 c2_1 r.slots.free a3_1 c3_1 r.l t4_1 a4_1 c4_1 ([]) r20 r19 ⟨(((((Is.refl (Is.xr14 (((((hF.f hq1).neg hq2).neg hq3).neg hq4).f hq5))).pos hq6).f hq7).f hq8).pos hq9), SlBC.nil, SlBC.nil, (SlB.mono hs1_1 sh), (SlB.mono hs2_1 sh), (SlB.mono hs3_1 sh), ⟨(hs4_1.1.mono sh), hs4_1.2⟩, (by first | omega | assumption | (simp; done)), (by first | omega | assumption | (simp; done)), (by first | omega | assumption | (simp; done)), (by first | omega | assumption | (simp; done))⟩ se pj
   refine Z390 ?_
   refine Z383 ?_
   refine Z481 ?_
   refine JL_q (q_fld FO_36_6) (k := ?_)
   refine Z499 ?_
   refine JL_p (c_callA Tryz.call111) (fun w1 hw1 => cRot_ok w1 (l := ([])) (key := c.key) (now := now) (overlap := 0) (span := c.n) (h_l := (fun _ _ => Sl.nil) w1 hw1) (n_l := by first | omega | (simp; done) | exact (hsm _ (by omega)).1 | exact (hsm _ (by omega)).2) (hG := hG.ext hw1.ext_out) (hE := hE.ext hw1.ext_out)) (k := ?_)
   rintro w1_3 e1_3 w2_3 hw1_3 ⟨a1_3, c1_3, B1_3, he_3, hf_3, ho1_3, hl1_3⟩
   refine ⟨_, _, he_3, hw1_3.fresh hf_3, ?_⟩
   have hrot_68179 := cRot_bd ([]) c.key now 0 c.n
   refine Z37 ?_
   refine Z327 ?_
   refine Z104 ?_
   refine Z190 ?_
   refine J_dec rfl (fun hq10 => ?_) (fun hq10 => ?_)
   ·refine J_seq ?_
    refine Z211 ?_
    refine Z481 ?_
    refine Z65 ?_
    refine Z15 ?_
    refine Z41 ?_
    refine JX_subL _ (sx (sd (sd (sx (sk (sk (sd (sd (sk (sk (sk (sk (sa (sk (sk (sk (sk sz))))))))))))))))) ?_
    refine Z169 ?_
    refine Z274 ?_
    refine Z292 ?_
    refine Z337 ?_
    refine JL_a noMk (a_alloc (l := [_, _, _, _, _]) Tryz.zeroValue28) (k := fun r21 hr21 => ?_)
    refine JL_a noMk (a_alloc (l := [_, _, _, _, _, _, _, _]) Tryz.zeroValue52) (k := fun r22 hr22 => ?_)
    refine Z450 ?_
    exact JX_join30 true ((cRot ([]) c.key now 0 c.n).2.2) 0 0 ([] : Str) 0 0 ([]) none 0 ([]) none 0 0 r.slots.gens a1_1 c1_1 r.slots.used a2_1 c2_1 r.slots.free a3_1 c3_1 r.l t4_1 a4_1 c4_1 ([]) r22 r21 ⟨((((((Is.refl (Is.xr14 (((((hF.f hq1).neg hq2).neg hq3).neg hq4).f hq5))).pos hq6).f hq7).f hq8).neg hq9).pos hq10), SlBC.nil, SlBC.nil, (SlB.mono hs1_1 sh), (SlB.mono hs2_1 sh), (SlB.mono hs3_1 sh), ⟨(hs4_1.1.mono sh), hs4_1.2⟩, (by first | omega | assumption | (simp; done)), (by first | omega | assumption | (simp; done)), (by first | omega | assumption | (simp; done)), (by first | omega | assumption | (simp; done))⟩ se pj
   refine Z390 ?_
   refine Z492 ?_
   refine Z84 ?_
   refine Z481 ?_
   refine Z520 ?_
   refine JL_a noMk (a_alloc (l := [_, _, _, _, _, _, _, _]) Tryz.zeroValue52) (k := fun r23 hr23 => ?_)
   refine Z518 ?_
   refine Z72 ?_
   refine J_subL _ (sk (sa (sd (sk (sa (sk (sk (sd (sk (sk (sk (sk (sk (sa (sk (sk (sk (sk sz)))))))))))))))))) ?_
   refine Z486 ?_
   refine Z482 ?_
   refine JL_q (q_fld FO_28_0) (k := ?_)
   refine JL_s (w_store (l' := [_, _, _, _, _]) Tryz.sizeOf25) (k := ?_)
   refine Z72 ?_
   refine J_subL _ (sk (sa (sd (sa (sk (sk (sk (sk (sk (sk (sk (sa (sk (sk (sk (sk sz)))))))))))))))) ?_
   refine J_planV _ _ (vp ((qa (qc (qc q0))).trans (qa (qa (qc (qc q0))))) (nC (nC nE))) mixed 7 [(true, 0), (true, 1), (true, 3), (false, 2), (false, 4), (false, 5), (true, 6)] (by kernel_rfl) ?_
   refine Z525 ?_
   refine JD_q (q_loadA Tryz.isAgg52 Tryz.sizeOf52) (k := ?_)
   refine JD_q (q_loadA Tryz.isAgg52 Tryz.sizeOf52) (k := ?_)
   refine JD_p (c_callA Tryz.call51) (fun w1 hw1 => putN_ok w1 (xs := r.l) (ts := t4_1) (x := (Tenant.mk ((sTake r.slots).2.1) c.name 1 1 ([]) ((cRot ([]) c.key now 0 c.n).1) 0)) (v := (TA.mk none 0 a1_3 c1_3)) ((SlNB.j hs4_1.1 sh).2 w1 hw1) (by first | exact lb) hs4_1.2) (k := ?_)
   rintro w1_5 e1_5 w2_5 hw1_5 ⟨a1_5, c1_5, B1_5, he_5, hf_5, ho1_5⟩
   refine ⟨_, _, _, he_5, hf_5, rfl, ?_⟩
   have hdp11 : DeepB (B_1 ++ (B1_3 ++ [])) DT (putX r.l (Tenant.mk ((sTake r.slots).2.1) c.name 1 1 ([]) ((cRot ([]) c.key now 0 c.n).1) 0)) (putT r.l t4_1 (Tenant.mk ((sTake r.slots).2.1) c.name 1 1 ([]) ((cRot ([]) c.key now 0 c.n).1) 0) (TA.mk none 0 a1_3 c1_3)) := DeepB.put ((DeepB.of hs4_1.1).mono sh) (DeepB.one (B := (B_1 ++ (B1_3 ++ []))) (D := DT) (fun w hw => ⟨Sl.nil, (ho1_3.sl eCred_ok (shw hw)), (by simp), ho1_3.le'⟩))
   have hpx_5 := putX_length_le r.l (Tenant.mk ((sTake r.slots).2.1) c.name 1 1 ([]) ((cRot ([]) c.key now 0 c.n).1) 0)
   refine JD_s (V' := ((r11, _) :: ((r12, _) :: []))) (w_store (l' := [_, _, _, _, _]) Tryz.sizeOf28) (k := ?_)
   refine JD_s (V' := ((r11, _) :: ((r12, _) :: []))) (w_store (l' := [_, _, _, _, _, _, _, _]) Tryz.sizeOf52) (k := ?_)
   refine Z124 ?_
   refine Z280 ?_
   refine JX_subL _ (sk (sk (sa (sd (sa (sa (sd (sk (sk (sk (sk (sa (sk (sk (sk (sk sz)))))))))))))))) ?_
   refine Z169 ?_
   refine Z274 ?_
   refine Z292 ?_
   refine JX_subL _ (sd (sd (sa (sa (sa (sk (sk (sd (sd (sa (sk (sk (sk (sk sz)))))))))))))) ?_
   refine Z51 ?_
   refine Z498 ?_
   refine JL_a noMk (a_alloc (l := [_, _, _, _, _]) Tryz.zeroValue28) (k := fun r24 hr24 => ?_)
   refine JL_a noMk (a_alloc (l := [_, _, _, _, _, _, _, _]) Tryz.zeroValue52) (k := fun r25 hr25 => ?_)
   refine Z398 ?_
   refine JX_permL _ ((((((((((qa (qa (qc (qc (qc (qa (qa (qc (qa (qa (qa q0))))))))))).trans (qa (qa (qa (qc (qc (qc (qa (qa (qc (qa (qa q0)))))))))))).trans (qa (qa (qa (qa (qc (qc (qc (qa (qa (qc (qa q0)))))))))))).trans (qa (qa (qa (qa (qa (qc (qc (qc (qa (qa (qc q0)))))))))))).trans (qb (qb (qb (qb (qb (qb (qd (qd (qd (qb (qb q0)))))))))))).trans (qc (qa (qa (qa (qa (qa q0))))))).trans (qa (qc (qa (qa (qa (qa q0))))))).trans (qb (qb (qd (qb (qb (qb (qb q0)))))))).trans (qd (qb (qb (qd (qb (qb (qb (qb (qd q0)))))))))).trans (qd (qd (qb (qb (qd (qb (qb (qb (qb q0)))))))))) ?_
   refine Z526 ?_
   exact JX_join30 false 0 ((sTake r.slots).2.1.slot) ((sTake r.slots).2.1.gen) c.name 1 1 ([]) none 0 ((cRot ([]) c.key now 0 c.n).1) a1_3 c1_3 0 ((sTake r.slots).1.gens) a1_2 c1_2 ((sTake r.slots).1.used) a2_2 c2_2 ((sTake r.slots).1.free) a3_2 c3_2 (putX r.l (Tenant.mk ((sTake r.slots).2.1) c.name 1 1 ([]) ((cRot ([]) c.key now 0 c.n).1) 0)) (putT r.l t4_1 (Tenant.mk ((sTake r.slots).2.1) c.name 1 1 ([]) ((cRot ([]) c.key now 0 c.n).1) 0) (TA.mk none 0 a1_3 c1_3)) a1_5 c1_5 (B1_3 ++ (B_2 ++ B1_5)) r25 r24 ⟨((((((Is.refl (Is.xr14 (((((hF.f hq1).neg hq2).neg hq3).neg hq4).f hq5))).pos hq6).f hq7).f hq8).neg hq9).neg hq10), SlBC.nil, (fun w hw => ⟨ho1_3.sl eCred_ok (shw hw), ho1_3.le'⟩), (SlB.mono hs1_2 sh), (SlB.mono hs2_2 sh), (SlB.mono hs3_2 sh), ⟨((OwnB.nb (U := (B1_5 ++ (B_1 ++ (B1_3 ++ [])))) eTenant_ok ho1_5 hdp11 (hB := sh) (hR := sh)).mono sh), (by have h0 := ho1_5.le'; rwa [zip_len hdp11.1] at h0)⟩, (by first | omega | assumption | (simp; done)), (by first | omega | assumption | (simp; done)), (by first | omega | assumption | (simp; done)), (by first | omega | assumption | (simp; done))⟩ se pj
  refine Z2 ?_
  refine Z378 ?_
  refine J_dec rfl (fun hq12 => ?_) (fun hq12 => ?_)
  ·refine J_seq ?_
   refine Z211 ?_
   refine Z15 ?_
   refine Z292 ?_
   refine JX_subL _ (sk (sk (sd (sd (sa (sk (sk (sk (sk sz))))))))) ?_
   refine Z51 ?_
   refine Z498 ?_
   refine JL_a noMk (a_alloc (l := [_, _, _, _, _]) Tryz.zeroValue28) (k := fun r26 hr26 => ?_)
   refine JL_a noMk (a_alloc (l := [_, _, _, _, _, _, _, _]) Tryz.zeroValue52) (k := fun r27 hr27 => ?_)
   refine Z450 ?_
   exact JX_join30 false 0 0 0 ([] : Str) 0 0 ([]) none 0 ([]) none 0 0 r.slots.gens a1_1 c1_1 r.slots.used a2_1 c2_1 r.slots.free a3_1 c3_1 r.l t4_1 a4_1 c4_1 ([]) r27 r26 ⟨(((Is.refl (Is.xr14 (((((hF.f hq1).neg hq2).neg hq3).neg hq4).f hq5))).neg hq6).pos hq12), SlBC.nil, SlBC.nil, (SlB.mono hs1_1 sh), (SlB.mono hs2_1 sh), (SlB.mono hs3_1 sh), ⟨(hs4_1.1.mono sh), hs4_1.2⟩, (by first | omega | assumption | (simp; done)), (by first | omega | assumption | (simp; done)), (by first | omega | assumption | (simp; done)), (by first | omega | assumption | (simp; done))⟩ se pj
  refine J_skip ?_
  refine Z17 ?_
  refine Z21 ?_
  refine Z126 ?_
  refine JL_inl (args := [_, _, _]) (c_callA Tryz.call75) Tryz.func75 Tryz.ntmps75 ?_
  refine Z2 ?_
  refine JL_a noMk (a_box (l := [_, _, _, _, _])) (k := fun r28 hr28 => ?_)
  refine JL_a noMk (a_box (l := [_, _, _, _, _, _, _, _, _, _, _, _])) (k := fun r29 hr29 => ?_)
  refine JL_a noMk (a_alloc (l := [_, _, _, _, _]) Tryz.zeroValue28) (k := fun r30 hr30 => ?_)
  refine JL_a noMk (a_alloc (l := [_, _, _, _, _, _, _, _]) Tryz.zeroValue52) (k := fun r31 hr31 => ?_)
  refine Z1 ?_
  refine Z21 ?_
  refine Z145 ?_
  refine Z37 ?_
  refine Z488 ?_
  refine Z104 ?_
  refine Z189 ?_
  refine J_cond rfl (fun hq13 => ?_) (fun hq13 => ?_)
  ·refine J_seq ?_
   refine Z211 ?_
   refine Z65 ?_
   refine Z15 ?_
   refine Z420 ?_
   refine Z115 ?_
   refine Z274 ?_
   refine Z6 ?_
   refine Z337 ?_
   refine JL_a noMk (a_alloc (l := [_, _, _, _, _]) Tryz.zeroValue28) (k := fun r32 hr32 => ?_)
   refine JL_a noMk (a_alloc (l := [_, _, _, _, _, _, _, _]) Tryz.zeroValue52) (k := fun r33 hr33 => ?_)
   refine Z450 ?_
   exact JX_join30 true 154 0 0 ([] : Str) 0 0 ([]) none 0 ([]) none 0 0 r.slots.gens a1_1 c1_1 r.slots.used a2_1 c2_1 r.slots.free a3_1 c3_1 r.l t4_1 a4_1 c4_1 ([]) r33 r32 ⟨((((Is.refl (Is.xr14 (((((hF.f hq1).neg hq2).neg hq3).neg hq4).f hq5))).neg hq6).neg hq12).t hq13), SlBC.nil, SlBC.nil, (SlB.mono hs1_1 sh), (SlB.mono hs2_1 sh), (SlB.mono hs3_1 sh), ⟨(hs4_1.1.mono sh), hs4_1.2⟩, (by first | omega | assumption | (simp; done)), (by first | omega | assumption | (simp; done)), (by first | omega | assumption | (simp; done)), (by first | omega | assumption | (simp; done))⟩ se pj
  have hfhq13 := gPlace_t (by simpa using hq13)
  have hxn : (((xN r c : Nat) : Int) = (gPlace (xR r) c.name).1 ∧ xN r c < r.l.length) ∧ (1 ≤ (xA r c).version ∧ (xA r c).version ≤ r.seq) := (fun h0 => ⟨h0, gRight_ver (by simpa using hq1) h0.2⟩) (by have e1 : (gPlace (xR r) c.name).1.toNat = xN r c := rfl; have e2 : (xR r).l.length = r.l.length := rfl; omega)
  refine Z167 ?_
  refine J_plan mixed 13 [(true, 0), (true, 1), (true, 2), (true, 3), (true, 4), (true, 5), (true, 6), (true, 7), (true, 8), (true, 9), (true, 10), (false, 11), (true, 12)] (by kernel_rfl) ?_
  refine Z322 ?_
  refine Z483 ?_
  refine Z173 ?_
  refine Z380 ?_
  refine JD_q (q_build (cs := [_, _, _, _, _, _, _, _, _]) Tryz.zeroValue88 PL_88) (k := ?_)
  refine JD_q (q_loadA Tryz.isAgg36 Tryz.sizeOf36) (k := ?_)
  refine Z483 ?_
  refine JD_q (q_build (cs := [_, _, _, _, _, _, _, _, _, _, _, _, _, _, _, _, _, _, _, _, _, _]) Tryz.zeroValue97 PL_97) (k := ?_)
  refine JD_a noMk (a_box (l := [_, _, _, _, _, _, _, _, _, _, _, _, _, _, _, _, _, _, _, _, _, _])) (k := fun r34 hr34 => ?_)
  refine Z28 ?_
  refine Z72 ?_
  refine J_seq ?_
  refine J_join1 (σ1 := Bool) (fun x_19 => ((r34, oc [(vi ((xA r c).handle.slot)), (vi ((xA r c).handle.gen)), (vt ((xA r c).name)), (vi ((xA r c).state)), (vi ((xA r c).version)), (vs ((t4_1.getD (xN r c) default).ra) ((xA r c).rules.length) ((t4_1.getD (xN r c) default).rc)), (vs ((t4_1.getD (xN r c) default).ca) ((xA r c).creds.length) ((t4_1.getD (xN r c) default).cc)), (vi ((xA r c).deadline)), (vi (r.seq + 1)), (vi c.verb), (vt c.name), (vi c.want), (vi c.at_), (Value.bool c.rule.allow), (vi c.rule.pfx.addr), (vi c.rule.pfx.bits), (vi c.rule.prt.lo), (vi c.rule.prt.hi), (vt c.key), (vi c.n), (vi c.m), (vi now)] 97) :: ((r31, oc [(vi 0), (vi 0), (vt ([] : Str)), (vi 0), (vi 0), (vs none 0 0), (vs none 0 0), (vi 0)] 52) :: ((r30, oc [(vs none 0 0), (vs none 0 0), (vs none 0 0), (vs none 0 0), (vi 0)] 28) :: ((r29, oc [(vi c.verb), (vt c.name), (vi c.want), (vi c.at_), (Value.bool c.rule.allow), (vi c.rule.pfx.addr), (vi c.rule.pfx.bits), (vi c.rule.prt.lo), (vi c.rule.prt.hi), (vt c.key), (vi c.n), (vi c.m)] 36) :: ((r28, oc [(vs a1_1 r.slots.gens.length c1_1), (vs a2_1 r.slots.used.length c2_1), (vs a3_1 r.slots.free.length c3_1), (vs a4_1 r.l.length c4_1), (vi (r.seq + 1))] 28) :: ((r8, oc [(vi 0), (vi 0), (vt ([] : Str)), (vi 0), (vi 0), (vs none 0 0), (vs none 0 0), (vi 0)] 52) :: ((r7, oc [(vs none 0 0), (vs none 0 0), (vs none 0 0), (vs none 0 0), (vi 0)] 28) :: ((r6, oc [(vi c.verb), (vt c.name), (vi c.want), (vi c.at_), (Value.bool c.rule.allow), (vi c.rule.pfx.addr), (vi c.rule.pfx.bits), (vi c.rule.prt.lo), (vi c.rule.prt.hi), (vt c.key), (vi c.n), (vi c.m)] 36) :: ((r5, oc [(vs a1_1 r.slots.gens.length c1_1), (vs a2_1 r.slots.used.length c2_1), (vs a3_1 r.slots.free.length c3_1), (vs a4_1 r.l.length c4_1), (vi (r.seq + 1))] 28) :: (B_1 ++ ((r4, oc [(vi 0), (vi 0), (vi 0), (vi 0), (vi 0), (vi 0)] 44) :: ((r3, oc [(vs none 0 0), (vs none 0 0), (vs none 0 0), (vs none 0 0), (vi 0)] 28) :: ((r2, oc [(vi c.verb), (vt c.name), (vi c.want), (vi c.at_), (Value.bool c.rule.allow), (vi c.rule.pfx.addr), (vi c.rule.pfx.bits), (vi c.rule.prt.lo), (vi c.rule.prt.hi), (vt c.key), (vi c.n), (vi c.m)] 36) :: ((r1, oc [(vs a1_1 r.slots.gens.length c1_1), (vs a2_1 r.slots.used.length c2_1), (vs a3_1 r.slots.free.length c3_1), (vs a4_1 r.l.length c4_1), (vi (r.seq + 1))] 28) :: []))))))))))))))) (fun x_19 => [(3, (Value.pointer (some ⟨r28, 0, none⟩))), (4, (Value.pointer (some ⟨r29, 0, none⟩))), (6, (Value.pointer (some ⟨r30, 0, none⟩))), (7, (Value.pointer (some ⟨r31, 0, none⟩))), (8, Value.nilIface), (9, (vi ((gPlace (xR r) c.name).1))), (11, (Value.pointer (some ⟨r34, 0, none⟩))), (51, (Value.bool x_19))]) (fun x_19 => Is (Is.xr1 ((((Is.refl (Is.xr14 (((((hF.f hq1).neg hq2).neg hq3).neg hq4).f hq5))).neg hq6).neg hq12).f hq13)) x_19) ?_ ?_
  ·skip
   refine Z527 ?_
   refine JD_q (q_fld FO_36_2) (k := ?_)
   refine Z496 ?_
   refine JD_q q_neq (k := ?_)
   refine Z483 ?_
   refine JD_dec 41 rfl (fun hq14 => ?_) (fun hq14 => ?_)
   rotate_left
   ·refine JD_skips 9 rfl ?_
    refine Z166 ?_
    refine JL_nil ?_
    exact JX_join1 false ((Is.refl (Is.xr1 ((((Is.refl (Is.xr14 (((((hF.f hq1).neg hq2).neg hq3).neg hq4).f hq5))).neg hq6).neg hq12).f hq13))).neg hq14) se (List.Perm.refl _)
   refine JD_qg (q_fld FO_36_2) (k := ?_)
   refine Z528 ?_
   refine Z485 ?_
   refine JD_qg q_nil (k := ?_)
   refine JD_qg (q_fld FO_97_0) (k := ?_)
   refine JD_qg (q_fld FO_88_0) (k := ?_)
   refine Z374 ?_
   refine JD_qg q_neq (k := ?_)
   refine Z92 ?_
   refine JL_nil ?_
   exact JX_join1 (decide (c.want ≠ ((xA r c).version))) ((Is.refl (Is.xr1 ((((Is.refl (Is.xr14 (((((hF.f hq1).neg hq2).neg hq3).neg hq4).f hq5))).neg hq6).neg hq12).f hq13))).pos hq14) se (List.Perm.refl _)
  intro x_19 hJ20
  refine JX_seq ?_
  refine J_cond rfl (fun hq15 => ?_) (fun hq15 => ?_)
  ·refine J_seq ?_
   refine Z211 ?_
   refine Z65 ?_
   refine Z15 ?_
   refine Z41 ?_
   refine JX_subL _ (sd (sk (sk (sd (sd (sk (sk (sk (sk (sa (sk (sk (sk (sk sz)))))))))))))) ?_
   refine Z115 ?_
   refine Z274 ?_
   refine Z6 ?_
   refine Z337 ?_
   refine JL_a noMk (a_alloc (l := [_, _, _, _, _]) Tryz.zeroValue28) (k := fun r35 hr35 => ?_)
   refine JL_a noMk (a_alloc (l := [_, _, _, _, _, _, _, _]) Tryz.zeroValue52) (k := fun r36 hr36 => ?_)
   refine Z450 ?_
   exact JX_join30 true 155 0 0 ([] : Str) 0 0 ([]) none 0 ([]) none 0 0 r.slots.gens a1_1 c1_1 r.slots.used a2_1 c2_1 r.slots.free a3_1 c3_1 r.l t4_1 a4_1 c4_1 ([]) r36 r35 ⟨((((((Is.refl (Is.xr14 (((((hF.f hq1).neg hq2).neg hq3).neg hq4).f hq5))).neg hq6).neg hq12).f hq13).rn1 hJ20).t hq15), SlBC.nil, SlBC.nil, (SlB.mono hs1_1 sh), (SlB.mono hs2_1 sh), (SlB.mono hs3_1 sh), ⟨(hs4_1.1.mono sh), hs4_1.2⟩, (by first | omega | assumption | (simp; done)), (by first | omega | assumption | (simp; done)), (by first | omega | assumption | (simp; done)), (by first | omega | assumption | (simp; done))⟩ se pj
  refine Z167 ?_
  refine J_seq ?_
  refine J_join11 (σ1 := Bool) (σ2 := Int) (σ3 := Int) (σ4 := List Rule) (σ5 := Option Addr) (σ6 := Nat) (σ7 := List Cred) (σ8 := Option Addr) (σ9 := Nat) (σ10 := Int) (σ11 := Heap) (fun err_21b err_21 x_22 x_23 x_23a x_23c x_24 x_24a x_24c x_25 x_23B => (x_23B ++ ((r34, oc [(vi ((xA r c).handle.slot)), (vi ((xA r c).handle.gen)), (vt ((xA r c).name)), (vi x_22), (vi ((xA r c).version)), (vs x_23a x_23.length x_23c), (vs x_24a x_24.length x_24c), (vi x_25), (vi (r.seq + 1)), (vi c.verb), (vt c.name), (vi c.want), (vi c.at_), (Value.bool c.rule.allow), (vi c.rule.pfx.addr), (vi c.rule.pfx.bits), (vi c.rule.prt.lo), (vi c.rule.prt.hi), (vt c.key), (vi c.n), (vi c.m), (vi now)] 97) :: ((r31, oc [(vi 0), (vi 0), (vt ([] : Str)), (vi 0), (vi 0), (vs none 0 0), (vs none 0 0), (vi 0)] 52) :: ((r30, oc [(vs none 0 0), (vs none 0 0), (vs none 0 0), (vs none 0 0), (vi 0)] 28) :: ((r29, oc [(vi c.verb), (vt c.name), (vi c.want), (vi c.at_), (Value.bool c.rule.allow), (vi c.rule.pfx.addr), (vi c.rule.pfx.bits), (vi c.rule.prt.lo), (vi c.rule.prt.hi), (vt c.key), (vi c.n), (vi c.m)] 36) :: ((r28, oc [(vs a1_1 r.slots.gens.length c1_1), (vs a2_1 r.slots.used.length c2_1), (vs a3_1 r.slots.free.length c3_1), (vs a4_1 r.l.length c4_1), (vi (r.seq + 1))] 28) :: ((r8, oc [(vi 0), (vi 0), (vt ([] : Str)), (vi 0), (vi 0), (vs none 0 0), (vs none 0 0), (vi 0)] 52) :: ((r7, oc [(vs none 0 0), (vs none 0 0), (vs none 0 0), (vs none 0 0), (vi 0)] 28) :: ((r6, oc [(vi c.verb), (vt c.name), (vi c.want), (vi c.at_), (Value.bool c.rule.allow), (vi c.rule.pfx.addr), (vi c.rule.pfx.bits), (vi c.rule.prt.lo), (vi c.rule.prt.hi), (vt c.key), (vi c.n), (vi c.m)] 36) :: ((r5, oc [(vs a1_1 r.slots.gens.length c1_1), (vs a2_1 r.slots.used.length c2_1), (vs a3_1 r.slots.free.length c3_1), (vs a4_1 r.l.length c4_1), (vi (r.seq + 1))] 28) :: (B_1 ++ ((r4, oc [(vi 0), (vi 0), (vi 0), (vi 0), (vi 0), (vi 0)] 44) :: ((r3, oc [(vs none 0 0), (vs none 0 0), (vs none 0 0), (vs none 0 0), (vi 0)] 28) :: ((r2, oc [(vi c.verb), (vt c.name), (vi c.want), (vi c.at_), (Value.bool c.rule.allow), (vi c.rule.pfx.addr), (vi c.rule.pfx.bits), (vi c.rule.prt.lo), (vi c.rule.prt.hi), (vt c.key), (vi c.n), (vi c.m)] 36) :: ((r1, oc [(vs a1_1 r.slots.gens.length c1_1), (vs a2_1 r.slots.used.length c2_1), (vs a3_1 r.slots.free.length c3_1), (vs a4_1 r.l.length c4_1), (vi (r.seq + 1))] 28) :: [])))))))))))))))) (fun err_21b err_21 x_22 x_23 x_23a x_23c x_24 x_24a x_24c x_25 x_23B => [(3, (Value.pointer (some ⟨r28, 0, none⟩))), (4, (Value.pointer (some ⟨r29, 0, none⟩))), (6, (Value.pointer (some ⟨r30, 0, none⟩))), (7, (Value.pointer (some ⟨r31, 0, none⟩))), (8, Value.nilIface), (9, (vi ((gPlace (xR r) c.name).1))), (11, (Value.pointer (some ⟨r34, 0, none⟩))), (12, (wE 120 err_21b err_21))]) (fun err_21b err_21 x_22 x_23 x_23a x_23c x_24 x_24a x_24c x_25 x_23B => Is (Is.xr6 ((((((Is.refl (Is.xr14 (((((hF.f hq1).neg hq2).neg hq3).neg hq4).f hq5))).neg hq6).neg hq12).f hq13).rn1 hJ20).f hq15)) (err_21b, err_21, x_22, x_23, x_24, x_25) ∧ SlBC (B_1 ++ x_23B) eRule 5 x_23a x_23c x_23 ∧ SlBC (B_1 ++ x_23B) eCred 4 x_24a x_24c x_24) ?_ ?_
  ·skip
   refine J_planV _ _ (vp (List.Perm.refl _) (nC nE)) mixed 7 [(true, 1), (true, 2), (true, 4), (false, 0), (true, 3), (false, 5), (true, 6)] (by kernel_rfl) ?_
   refine JD_q (q_fld FO_36_0) (k := ?_)
   refine Z496 ?_
   refine Z483 ?_
   refine JD_inl (args := []) (c_callA Tryz.call112) Tryz.func112 Tryz.ntmps112 ?_
   refine Z195 ?_
   refine JL_a noMk a_map (k := fun r37 hr37 => ?_)
   refine JL_ins (ml := ([] : List (Int × Value))) 2 keyInt Tryz.runUnderlying162 Tryz.runUnderlying3 (MapIs.nil (enc := fun x : Int => vi x)) (by simp) q0 (k := fun em57 km57 hms57 => ?_)
   refine JL_ins (ml := ([(2, (Value.func (.func 50) [].toArray [].toArray))] : List (Int × Value))) 3 keyInt Tryz.runUnderlying162 Tryz.runUnderlying3 hms57 (by simp) q0 (k := fun em58 km58 hms58 => ?_)
   refine JL_ins (ml := ([(2, (Value.func (.func 50) [].toArray [].toArray)), (3, (Value.func (.func 143) [].toArray [].toArray))] : List (Int × Value))) 4 keyInt Tryz.runUnderlying162 Tryz.runUnderlying3 hms58 (by simp) q0 (k := fun em59 km59 hms59 => ?_)
   refine JL_ins (ml := ([(2, (Value.func (.func 50) [].toArray [].toArray)), (3, (Value.func (.func 143) [].toArray [].toArray)), (4, (Value.func (.func 144) [].toArray [].toArray))] : List (Int × Value))) 6 keyInt Tryz.runUnderlying162 Tryz.runUnderlying3 hms59 (by simp) q0 (k := fun em60 km60 hms60 => ?_)
   refine JL_ins (ml := ([(2, (Value.func (.func 50) [].toArray [].toArray)), (3, (Value.func (.func 143) [].toArray [].toArray)), (4, (Value.func (.func 144) [].toArray [].toArray)), (6, (Value.func (.func 145) [].toArray [].toArray))] : List (Int × Value))) 7 keyInt Tryz.runUnderlying162 Tryz.runUnderlying3 hms60 (by simp) q0 (k := fun em61 km61 hms61 => ?_)
   refine JL_ins (ml := ([(2, (Value.func (.func 50) [].toArray [].toArray)), (3, (Value.func (.func 143) [].toArray [].toArray)), (4, (Value.func (.func 144) [].toArray [].toArray)), (6, (Value.func (.func 145) [].toArray [].toArray)), (7, (Value.func (.func 146) [].toArray [].toArray))] : List (Int × Value))) 5 keyInt Tryz.runUnderlying162 Tryz.runUnderlying3 hms61 (by simp) q0 (k := fun em62 km62 hms62 => ?_)
   refine JL_ins (ml := ([(2, (Value.func (.func 50) [].toArray [].toArray)), (3, (Value.func (.func 143) [].toArray [].toArray)), (4, (Value.func (.func 144) [].toArray [].toArray)), (6, (Value.func (.func 145) [].toArray [].toArray)), (7, (Value.func (.func 146) [].toArray [].toArray)), (5, (Value.func (.func 147) [].toArray [].toArray))] : List (Int × Value))) 8 keyInt Tryz.runUnderlying162 Tryz.runUnderlying3 hms62 (by simp) q0 (k := fun em63 km63 hms63 => ?_)
   refine JL_ins (ml := ([(2, (Value.func (.func 50) [].toArray [].toArray)), (3, (Value.func (.func 143) [].toArray [].toArray)), (4, (Value.func (.func 144) [].toArray [].toArray)), (6, (Value.func (.func 145) [].toArray [].toArray)), (7, (Value.func (.func 146) [].toArray [].toArray)), (5, (Value.func (.func 147) [].toArray [].toArray)), (8, (Value.func (.func 147) [].toArray [].toArray))] : List (Int × Value))) 10 keyInt Tryz.runUnderlying162 Tryz.runUnderlying3 hms63 (by simp) q0 (k := fun em64 km64 hms64 => ?_)
   refine Z481 ?_
   refine Z6 ?_
   refine JX_retID _ _ Tryz.results112 (Res.tmp rfl Res.nil) (vp (((((((((((((((qa (qa (qa (qa (qa (qa (qa (qa (qa (qa (qc (qa (qa (qa q0)))))))))))))).trans (qa (qa (qa (qa (qa (qa (qa (qa (qa (qa (qa (qc (qa (qa q0))))))))))))))).trans (qa (qa (qa (qa (qa (qa (qa (qa (qa (qa (qa (qa (qc (qa q0))))))))))))))).trans (qa (qa (qa (qa (qa (qa (qa (qa (qa (qa (qa (qa (qa (qc q0))))))))))))))).trans (qb (qb (qb (qb (qb (qb (qb (qb (qb (qb (qb (qb (qb (qb q0))))))))))))))).trans (qc (qa (qa (qa (qa (qa (qa (qa (qa (qa (qa (qa (qa (qa q0))))))))))))))).trans (qa (qc (qa (qa (qa (qa (qa (qa (qa (qa (qa (qa (qa (qa q0))))))))))))))).trans (qa (qa (qc (qa (qa (qa (qa (qa (qa (qa (qa (qa (qa (qa q0))))))))))))))).trans (qa (qa (qa (qc (qa (qa (qa (qa (qa (qa (qa (qa (qa (qa q0))))))))))))))).trans (qa (qa (qa (qa (qc (qa (qa (qa (qa (qa (qa (qa (qa (qa q0))))))))))))))).trans (qa (qa (qa (qa (qa (qc (qa (qa (qa (qa (qa (qa (qa (qa q0))))))))))))))).trans (qa (qa (qa (qa (qa (qa (qc (qa (qa (qa (qa (qa (qa (qa q0))))))))))))))).trans (qa (qa (qa (qa (qa (qa (qa (qc (qa (qa (qa (qa (qa (qa q0))))))))))))))).trans (qa (qa (qa (qa (qa (qa (qa (qa (qc (qa (qa (qa (qa q0)))))))))))))).trans (qa (qa (qa (qa (qa (qa (qa (qa (qa (qc (qa (qa (qa (qa q0))))))))))))))) (nC nE)) (List.Sublist.cons _ (List.Sublist.refl _)) ?_
   by_cases hq16 : c.verb = 2
   ·refine JD_q (q_look1 (l := ([(2, (Value.func (.func 50) [].toArray [].toArray)), (3, (Value.func (.func 143) [].toArray [].toArray)), (4, (Value.func (.func 144) [].toArray [].toArray)), (6, (Value.func (.func 145) [].toArray [].toArray)), (7, (Value.func (.func 146) [].toArray [].toArray)), (5, (Value.func (.func 147) [].toArray [].toArray)), (8, (Value.func (.func 147) [].toArray [].toArray)), (10, (Value.func (.func 147) [].toArray [].toArray))] : List (Int × Value))) (v := (Value.func (.func 50) [].toArray [].toArray)) c.verb keyInt Tryz.runUnderlying162 Tryz.runUnderlying3 Tryz.zeroValue161 hms64 (by rw [(lookL_hit hq16.symm)]; rfl)) (k := ?_)
    refine JD_inl (args := [_]) (c_callA Tryz.call50) Tryz.func50 Tryz.ntmps50 ?_
    refine Z2 ?_
    refine Z276 ?_
    refine Z156 ?_
    refine Z267 ?_
    refine JL_q q_neq (k := ?_)
    refine Z331 ?_
    refine Z257 ?_
    refine J_dec rfl (fun hq17 => ?_) (fun hq17 => ?_)
    ·refine J_seq ?_
     refine Z486 ?_
     refine Z461 ?_
     refine Z321 ?_
     refine JX_retID _ _ Tryz.results50 (Res.tmp rfl Res.nil) (vp (List.Perm.refl _) (nC nE)) (List.Sublist.refl _) ?_
     refine Z124 ?_
     refine Z414 ?_
     exact JX_join11 true 156 ((xA r c).state) ((xA r c).rules) ((t4_1.getD (xN r c) default).ra) ((t4_1.getD (xN r c) default).rc) ((xA r c).creds) ((t4_1.getD (xN r c) default).ca) ((t4_1.getD (xN r c) default).cc) ((xA r c).deadline) ([]) ⟨(((Is.refl (Is.xr6 ((((((Is.refl (Is.xr14 (((((hF.f hq1).neg hq2).neg hq3).neg hq4).f hq5))).neg hq6).neg hq12).f hq13).rn1 hJ20).f hq15))).pos hq16).pos hq17), (fun w hw => ⟨(hs4_1.1.at (m := ((gPlace (xR r) c.name).1).toNat) (by first | exact ix) w (shw hw)).1, (hs4_1.1.at (m := ((gPlace (xR r) c.name).1).toNat) (by first | exact ix) w (shw hw)).2.2.1⟩), (fun w hw => ⟨(hs4_1.1.at (m := ((gPlace (xR r) c.name).1).toNat) (by first | exact ix) w (shw hw)).2.1, (hs4_1.1.at (m := ((gPlace (xR r) c.name).1).toNat) (by first | exact ix) w (shw hw)).2.2.2⟩)⟩ se pj
    refine Z428 ?_
    refine Z27 ?_
    refine Z156 ?_
    refine Z217 ?_
    refine Z156 ?_
    refine Z175 ?_
    refine Z0 ?_
    refine Z178 ?_
    refine Z321 ?_
    refine JX_retID _ _ Tryz.results50 (Res.tmp rfl Res.nil) (vp (List.Perm.refl _) (nC nE)) (List.Sublist.refl _) ?_
    refine Z124 ?_
    refine Z414 ?_
    exact JX_join11 false 0 2 ((xA r c).rules) ((t4_1.getD (xN r c) default).ra) ((t4_1.getD (xN r c) default).rc) ((xA r c).creds) ((t4_1.getD (xN r c) default).ca) ((t4_1.getD (xN r c) default).cc) 0 ([]) ⟨(((Is.refl (Is.xr6 ((((((Is.refl (Is.xr14 (((((hF.f hq1).neg hq2).neg hq3).neg hq4).f hq5))).neg hq6).neg hq12).f hq13).rn1 hJ20).f hq15))).pos hq16).neg hq17), (fun w hw => ⟨(hs4_1.1.at (m := ((gPlace (xR r) c.name).1).toNat) (by first | exact ix) w (shw hw)).1, (hs4_1.1.at (m := ((gPlace (xR r) c.name).1).toNat) (by first | exact ix) w (shw hw)).2.2.1⟩), (fun w hw => ⟨(hs4_1.1.at (m := ((gPlace (xR r) c.name).1).toNat) (by first | exact ix) w (shw hw)).2.1, (hs4_1.1.at (m := ((gPlace (xR r) c.name).1).toNat) (by first | exact ix) w (shw hw)).2.2.2⟩)⟩ se pj
   by_cases hq18 : c.verb = 3
   ·refine JD_q (q_look1 (l := ([(2, (Value.func (.func 50) [].toArray [].toArray)), (3, (Value.func (.func 143) [].toArray [].toArray)), (4, (Value.func (.func 144) [].toArray [].toArray)), (6, (Value.func (.func 145) [].toArray [].toArray)), (7, (Value.func (.func 146) [].toArray [].toArray)), (5, (Value.func (.func 147) [].toArray [].toArray)), (8, (Value.func (.func 147) [].toArray [].toArray)), (10, (Value.func (.func 147) [].toArray [].toArray))] : List (Int × Value))) (v := (Value.func (.func 143) [].toArray [].toArray)) c.verb keyInt Tryz.runUnderlying162 Tryz.runUnderlying3 Tryz.zeroValue161 hms64 (by rw [((lookL_miss (fun e => hq16 e.symm)).trans (lookL_hit hq18.symm))]; rfl)) (k := ?_)
    refine JD_inl (args := [_]) (c_callA Tryz.call143) Tryz.func143 Tryz.ntmps143 ?_
    refine Z2 ?_
    refine Z276 ?_
    refine Z156 ?_
    refine Z267 ?_
    refine JL_q q_eql (k := ?_)
    refine Z331 ?_
    refine Z257 ?_
    refine J_dec rfl (fun hq19 => ?_) (fun hq19 => ?_)
    ·refine J_seq ?_
     refine Z486 ?_
     refine Z461 ?_
     refine Z321 ?_
     refine JX_retID _ _ Tryz.results143 (Res.tmp rfl Res.nil) (vp (List.Perm.refl _) (nC nE)) (List.Sublist.refl _) ?_
     refine Z124 ?_
     refine Z414 ?_
     exact JX_join11 true 156 ((xA r c).state) ((xA r c).rules) ((t4_1.getD (xN r c) default).ra) ((t4_1.getD (xN r c) default).rc) ((xA r c).creds) ((t4_1.getD (xN r c) default).ca) ((t4_1.getD (xN r c) default).cc) ((xA r c).deadline) ([]) ⟨((((Is.refl (Is.xr6 ((((((Is.refl (Is.xr14 (((((hF.f hq1).neg hq2).neg hq3).neg hq4).f hq5))).neg hq6).neg hq12).f hq13).rn1 hJ20).f hq15))).neg hq16).pos hq18).pos hq19), (fun w hw => ⟨(hs4_1.1.at (m := ((gPlace (xR r) c.name).1).toNat) (by first | exact ix) w (shw hw)).1, (hs4_1.1.at (m := ((gPlace (xR r) c.name).1).toNat) (by first | exact ix) w (shw hw)).2.2.1⟩), (fun w hw => ⟨(hs4_1.1.at (m := ((gPlace (xR r) c.name).1).toNat) (by first | exact ix) w (shw hw)).2.1, (hs4_1.1.at (m := ((gPlace (xR r) c.name).1).toNat) (by first | exact ix) w (shw hw)).2.2.2⟩)⟩ se pj
    refine Z428 ?_
    refine Z27 ?_
    refine Z156 ?_
    refine Z217 ?_
    refine Z156 ?_
    refine Z175 ?_
    refine Z0 ?_
    refine Z178 ?_
    refine Z321 ?_
    refine JX_retID _ _ Tryz.results143 (Res.tmp rfl Res.nil) (vp (List.Perm.refl _) (nC nE)) (List.Sublist.refl _) ?_
    refine Z124 ?_
    refine Z414 ?_
    exact JX_join11 false 0 1 ((xA r c).rules) ((t4_1.getD (xN r c) default).ra) ((t4_1.getD (xN r c) default).rc) ((xA r c).creds) ((t4_1.getD (xN r c) default).ca) ((t4_1.getD (xN r c) default).cc) 0 ([]) ⟨((((Is.refl (Is.xr6 ((((((Is.refl (Is.xr14 (((((hF.f hq1).neg hq2).neg hq3).neg hq4).f hq5))).neg hq6).neg hq12).f hq13).rn1 hJ20).f hq15))).neg hq16).pos hq18).neg hq19), (fun w hw => ⟨(hs4_1.1.at (m := ((gPlace (xR r) c.name).1).toNat) (by first | exact ix) w (shw hw)).1, (hs4_1.1.at (m := ((gPlace (xR r) c.name).1).toNat) (by first | exact ix) w (shw hw)).2.2.1⟩), (fun w hw => ⟨(hs4_1.1.at (m := ((gPlace (xR r) c.name).1).toNat) (by first | exact ix) w (shw hw)).2.1, (hs4_1.1.at (m := ((gPlace (xR r) c.name).1).toNat) (by first | exact ix) w (shw hw)).2.2.2⟩)⟩ se pj
   by_cases hq20 : c.verb = 4
   ·refine JD_q (q_look1 (l := ([(2, (Value.func (.func 50) [].toArray [].toArray)), (3, (Value.func (.func 143) [].toArray [].toArray)), (4, (Value.func (.func 144) [].toArray [].toArray)), (6, (Value.func (.func 145) [].toArray [].toArray)), (7, (Value.func (.func 146) [].toArray [].toArray)), (5, (Value.func (.func 147) [].toArray [].toArray)), (8, (Value.func (.func 147) [].toArray [].toArray)), (10, (Value.func (.func 147) [].toArray [].toArray))] : List (Int × Value))) (v := (Value.func (.func 144) [].toArray [].toArray)) c.verb keyInt Tryz.runUnderlying162 Tryz.runUnderlying3 Tryz.zeroValue161 hms64 (by rw [((lookL_miss (fun e => hq16 e.symm)).trans ((lookL_miss (fun e => hq18 e.symm)).trans (lookL_hit hq20.symm)))]; rfl)) (k := ?_)
    refine JD_inl (args := [_]) (c_callA Tryz.call144) Tryz.func144 Tryz.ntmps144 ?_
    refine Z2 ?_
    refine Z31 ?_
    refine Z39 ?_
    refine Z156 ?_
    refine Z267 ?_
    refine JL_q q_eql (k := ?_)
    refine Z331 ?_
    refine Z257 ?_
    refine J_dec rfl (fun hq21 => ?_) (fun hq21 => ?_)
    ·refine J_seq ?_
     refine Z486 ?_
     refine Z461 ?_
     refine JX_retI Tryz.results86 (Res.tmp rfl Res.nil) ?_
     refine Z107 ?_
     refine JL_q (q_neS (u := (Value.iface 120 (Value.agg [(vi 156)].toArray))) (v := Value.nilIface) (b := true) (fun w => by kernel_rfl)) (k := ?_)
     refine Z45 ?_
     refine Z4 ?_
     refine Z41 ?_
     refine Z202 ?_
     refine Z414 ?_
     exact JX_join11 true 156 ((xA r c).state) ((xA r c).rules) ((t4_1.getD (xN r c) default).ra) ((t4_1.getD (xN r c) default).rc) ((xA r c).creds) ((t4_1.getD (xN r c) default).ca) ((t4_1.getD (xN r c) default).cc) ((xA r c).deadline) ([]) ⟨(((((Is.refl (Is.xr6 ((((((Is.refl (Is.xr14 (((((hF.f hq1).neg hq2).neg hq3).neg hq4).f hq5))).neg hq6).neg hq12).f hq13).rn1 hJ20).f hq15))).neg hq16).neg hq18).pos hq20).pos hq21), (fun w hw => ⟨(hs4_1.1.at (m := ((gPlace (xR r) c.name).1).toNat) (by first | exact ix) w (shw hw)).1, (hs4_1.1.at (m := ((gPlace (xR r) c.name).1).toNat) (by first | exact ix) w (shw hw)).2.2.1⟩), (fun w hw => ⟨(hs4_1.1.at (m := ((gPlace (xR r) c.name).1).toNat) (by first | exact ix) w (shw hw)).2.1, (hs4_1.1.at (m := ((gPlace (xR r) c.name).1).toNat) (by first | exact ix) w (shw hw)).2.2.2⟩)⟩ se pj
    refine Z428 ?_
    refine Z27 ?_
    refine Z156 ?_
    refine Z217 ?_
    refine Z156 ?_
    refine Z175 ?_
    refine Z0 ?_
    refine Z178 ?_
    refine JX_retI Tryz.results86 (Res.tmp rfl Res.nil) ?_
    refine Z107 ?_
    refine Z362 ?_
    refine Z428 ?_
    refine JL_q q_nil (k := ?_)
    refine JL_q (q_fld FO_97_1) (k := ?_)
    refine JL_q (q_fld FO_36_6) (k := ?_)
    refine Z499 ?_
    refine Z104 ?_
    refine Z209 ?_
    refine JL_dec 24 rfl (fun hq22 => ?_) (fun hq22 => ?_)
    ·refine JL_skips 2 rfl ?_
     refine Z18 ?_
     refine JL_skips 7 rfl ?_
     refine Z285 ?_
     refine Z461 ?_
     refine Z202 ?_
     refine Z414 ?_
     exact JX_join11 true 2 3 ((xA r c).rules) ((t4_1.getD (xN r c) default).ra) ((t4_1.getD (xN r c) default).rc) ((xA r c).creds) ((t4_1.getD (xN r c) default).ca) ((t4_1.getD (xN r c) default).cc) 0 ([]) ⟨((((((Is.refl (Is.xr6 ((((((Is.refl (Is.xr14 (((((hF.f hq1).neg hq2).neg hq3).neg hq4).f hq5))).neg hq6).neg hq12).f hq13).rn1 hJ20).f hq15))).neg hq16).neg hq18).pos hq20).neg hq21).pos hq22), (fun w hw => ⟨(hs4_1.1.at (m := ((gPlace (xR r) c.name).1).toNat) (by first | exact ix) w (shw hw)).1, (hs4_1.1.at (m := ((gPlace (xR r) c.name).1).toNat) (by first | exact ix) w (shw hw)).2.2.1⟩), (fun w hw => ⟨(hs4_1.1.at (m := ((gPlace (xR r) c.name).1).toNat) (by first | exact ix) w (shw hw)).2.1, (hs4_1.1.at (m := ((gPlace (xR r) c.name).1).toNat) (by first | exact ix) w (shw hw)).2.2.2⟩)⟩ se pj
    refine Z409 ?_
    refine Z5 ?_
    refine JL_dec 28 rfl (fun hq23 => ?_) (fun hq23 => ?_)
    ·refine JL_skips 7 rfl ?_
     refine Z285 ?_
     refine Z461 ?_
     refine Z202 ?_
     refine Z414 ?_
     exact JX_join11 true 2 3 ((xA r c).rules) ((t4_1.getD (xN r c) default).ra) ((t4_1.getD (xN r c) default).rc) ((xA r c).creds) ((t4_1.getD (xN r c) default).ca) ((t4_1.getD (xN r c) default).cc) 0 ([]) ⟨(((((((Is.refl (Is.xr6 ((((((Is.refl (Is.xr14 (((((hF.f hq1).neg hq2).neg hq3).neg hq4).f hq5))).neg hq6).neg hq12).f hq13).rn1 hJ20).f hq15))).neg hq16).neg hq18).pos hq20).neg hq21).neg hq22).pos hq23), (fun w hw => ⟨(hs4_1.1.at (m := ((gPlace (xR r) c.name).1).toNat) (by first | exact ix) w (shw hw)).1, (hs4_1.1.at (m := ((gPlace (xR r) c.name).1).toNat) (by first | exact ix) w (shw hw)).2.2.1⟩), (fun w hw => ⟨(hs4_1.1.at (m := ((gPlace (xR r) c.name).1).toNat) (by first | exact ix) w (shw hw)).2.1, (hs4_1.1.at (m := ((gPlace (xR r) c.name).1).toNat) (by first | exact ix) w (shw hw)).2.2.2⟩)⟩ se pj
    refine Z489 ?_
    refine JL_qg q_nil (k := ?_)
    refine JL_qg (q_fld FO_97_2) (k := ?_)
    refine Z300 ?_
    refine JL_qg q_add (k := ?_)
    refine JL_qg q_gtr (k := ?_)
    refine Z247 ?_
    refine J_dec rfl (fun hq24 => ?_) (fun hq24 => ?_)
    ·refine J_seq ?_
     refine Z486 ?_
     refine Z461 ?_
     refine Z202 ?_
     refine Z414 ?_
     exact JX_join11 true 2 3 ((xA r c).rules) ((t4_1.getD (xN r c) default).ra) ((t4_1.getD (xN r c) default).rc) ((xA r c).creds) ((t4_1.getD (xN r c) default).ca) ((t4_1.getD (xN r c) default).cc) 0 ([]) ⟨((((((((Is.refl (Is.xr6 ((((((Is.refl (Is.xr14 (((((hF.f hq1).neg hq2).neg hq3).neg hq4).f hq5))).neg hq6).neg hq12).f hq13).rn1 hJ20).f hq15))).neg hq16).neg hq18).pos hq20).neg hq21).neg hq22).neg hq23).pos hq24), (fun w hw => ⟨(hs4_1.1.at (m := ((gPlace (xR r) c.name).1).toNat) (by first | exact ix) w (shw hw)).1, (hs4_1.1.at (m := ((gPlace (xR r) c.name).1).toNat) (by first | exact ix) w (shw hw)).2.2.1⟩), (fun w hw => ⟨(hs4_1.1.at (m := ((gPlace (xR r) c.name).1).toNat) (by first | exact ix) w (shw hw)).2.1, (hs4_1.1.at (m := ((gPlace (xR r) c.name).1).toNat) (by first | exact ix) w (shw hw)).2.2.2⟩)⟩ se pj
    refine Z14 ?_
    refine Z39 ?_
    refine JL_q q_nil (k := ?_)
    refine JL_q (q_fld FO_97_2) (k := ?_)
    refine Z499 ?_
    refine Z232 ?_
    refine Z156 ?_
    refine Z175 ?_
    refine Z0 ?_
    refine Z178 ?_
    refine Z202 ?_
    refine Z414 ?_
    exact JX_join11 false 0 3 ((xA r c).rules) ((t4_1.getD (xN r c) default).ra) ((t4_1.getD (xN r c) default).rc) ((xA r c).creds) ((t4_1.getD (xN r c) default).ca) ((t4_1.getD (xN r c) default).cc) (now + c.n) ([]) ⟨((((((((Is.refl (Is.xr6 ((((((Is.refl (Is.xr14 (((((hF.f hq1).neg hq2).neg hq3).neg hq4).f hq5))).neg hq6).neg hq12).f hq13).rn1 hJ20).f hq15))).neg hq16).neg hq18).pos hq20).neg hq21).neg hq22).neg hq23).neg hq24), (fun w hw => ⟨(hs4_1.1.at (m := ((gPlace (xR r) c.name).1).toNat) (by first | exact ix) w (shw hw)).1, (hs4_1.1.at (m := ((gPlace (xR r) c.name).1).toNat) (by first | exact ix) w (shw hw)).2.2.1⟩), (fun w hw => ⟨(hs4_1.1.at (m := ((gPlace (xR r) c.name).1).toNat) (by first | exact ix) w (shw hw)).2.1, (hs4_1.1.at (m := ((gPlace (xR r) c.name).1).toNat) (by first | exact ix) w (shw hw)).2.2.2⟩)⟩ se pj
   by_cases hq25 : c.verb = 6
   ·refine JD_q (q_look1 (l := ([(2, (Value.func (.func 50) [].toArray [].toArray)), (3, (Value.func (.func 143) [].toArray [].toArray)), (4, (Value.func (.func 144) [].toArray [].toArray)), (6, (Value.func (.func 145) [].toArray [].toArray)), (7, (Value.func (.func 146) [].toArray [].toArray)), (5, (Value.func (.func 147) [].toArray [].toArray)), (8, (Value.func (.func 147) [].toArray [].toArray)), (10, (Value.func (.func 147) [].toArray [].toArray))] : List (Int × Value))) (v := (Value.func (.func 145) [].toArray [].toArray)) c.verb keyInt Tryz.runUnderlying162 Tryz.runUnderlying3 Tryz.zeroValue161 hms64 (by rw [((lookL_miss (fun e => hq16 e.symm)).trans ((lookL_miss (fun e => hq18 e.symm)).trans ((lookL_miss (fun e => hq20 e.symm)).trans (lookL_hit hq25.symm))))]; rfl)) (k := ?_)
    refine JD_inl (args := [_]) (c_callA Tryz.call145) Tryz.func145 Tryz.ntmps145 ?_
    refine Z2 ?_
    refine Z31 ?_
    refine J_plan mixed 33 [(true, 0), (true, 1), (true, 2), (true, 3), (true, 4), (true, 5), (true, 6), (true, 7), (true, 8), (true, 9), (true, 10), (true, 11), (true, 12), (true, 13), (true, 14), (true, 15), (true, 16), (true, 17), (true, 18), (true, 19), (true, 20), (true, 21), (true, 22), (true, 23), (true, 24), (false, 25), (true, 26), (true, 27), (true, 28), (true, 29), (true, 30), (true, 31), (true, 32)] (by kernel_rfl) ?_
    refine Z258 ?_
    refine Z333 ?_
    refine JD_q (q_fld FO_52_5) (k := ?_)
    refine JD_q (q_load Tryz.isAgg50) (k := ?_)
    refine Z258 ?_
    refine JD_q (q_fld FO_97_1) (k := ?_)
    refine JD_q (q_fld FO_36_5) (k := ?_)
    refine JD_q (q_load Tryz.isAgg9) (k := ?_)
    refine Z258 ?_
    refine JD_q (q_fld FO_97_2) (k := ?_)
    refine Z496 ?_
    refine Z258 ?_
    refine JD_q (q_fld FO_97_1) (k := ?_)
    refine JD_q (q_fld FO_36_6) (k := ?_)
    refine Z496 ?_
    refine Z258 ?_
    refine JD_q (q_fld FO_97_1) (k := ?_)
    refine JD_q (q_fld FO_36_7) (k := ?_)
    refine Z496 ?_
    refine JD_p (c_callA Tryz.call111) (fun w1 hw1 => cRot_ok w1 (l := ((xA r c).creds)) (key := c.key) (now := now) (overlap := c.n) (span := c.m) (h_l := (fun w hw => ((SlNB.j hs4_1.1 sh).at (m := ((gPlace (xR r) c.name).1).toNat) (by first | exact ix) w hw).2.1) w1 hw1) (n_l := by first | omega | (simp; done) | exact (hsm _ (by omega)).1 | exact (hsm _ (by omega)).2) (hG := hG.ext hw1.ext_out) (hE := hE.ext hw1.ext_out)) (k := ?_)
    rintro w1_10 e1_10 w2_10 hw1_10 ⟨a1_10, c1_10, B1_10, he_10, hf_10, ho1_10, hl1_10⟩
    refine ⟨_, _, _, he_10, hf_10, rfl, ?_⟩
    have hrot_28119 := cRot_bd ((xA r c).creds) c.key now c.n c.m
    refine Z483 ?_
    refine JD_q q_ext (k := ?_)
    refine JD_q q_ext (k := ?_)
    refine JD_q q_ext (k := ?_)
    refine JD_q q_assign (k := ?_)
    refine JD_q q_assign (k := ?_)
    refine Z28 ?_
    refine Z0 ?_
    refine Z39 ?_
    refine Z156 ?_
    refine JL_q (q_fld FO_52_5) (k := ?_)
    refine JL_s (w_store (l' := [_, _, _, _, _, _, _, _, _, _, _, _, _, _, _, _, _, _, _, _, _, _]) Tryz.sizeOf50) (k := ?_)
    refine Z237 ?_
    refine Z443 ?_
    refine Z190 ?_
    refine J_dec rfl (fun hq26 => ?_) (fun hq26 => ?_)
    rotate_left
    ·refine J_skip ?_
     refine JX_seq ?_
     refine Z178 ?_
     refine Z317 ?_
     refine Z70 ?_
     refine JD_nil ?_
     refine Z181 ?_
     refine Z7 ?_
     exact JX_join11 false 0 ((xA r c).state) ((xA r c).rules) ((t4_1.getD (xN r c) default).ra) ((t4_1.getD (xN r c) default).rc) ((cRot ((xA r c).creds) c.key now c.n c.m).1) a1_10 c1_10 ((xA r c).deadline) B1_10 ⟨((((((Is.refl (Is.xr6 ((((((Is.refl (Is.xr14 (((((hF.f hq1).neg hq2).neg hq3).neg hq4).f hq5))).neg hq6).neg hq12).f hq13).rn1 hJ20).f hq15))).neg hq16).neg hq18).neg hq20).pos hq25).neg hq26), (fun w hw => ⟨(hs4_1.1.at (m := ((gPlace (xR r) c.name).1).toNat) (by first | exact ix) w (shw hw)).1, (hs4_1.1.at (m := ((gPlace (xR r) c.name).1).toNat) (by first | exact ix) w (shw hw)).2.2.1⟩), (fun w hw => ⟨ho1_10.sl eCred_ok (shw hw), ho1_10.le'⟩)⟩ se pj
    refine Z4 ?_
    refine Z461 ?_
    refine Z317 ?_
    refine Z70 ?_
    refine JD_nil ?_
    refine Z181 ?_
    refine Z7 ?_
    exact JX_join11 true ((cRot ((xA r c).creds) c.key now c.n c.m).2.2) ((xA r c).state) ((xA r c).rules) ((t4_1.getD (xN r c) default).ra) ((t4_1.getD (xN r c) default).rc) ((cRot ((xA r c).creds) c.key now c.n c.m).1) a1_10 c1_10 ((xA r c).deadline) B1_10 ⟨((((((Is.refl (Is.xr6 ((((((Is.refl (Is.xr14 (((((hF.f hq1).neg hq2).neg hq3).neg hq4).f hq5))).neg hq6).neg hq12).f hq13).rn1 hJ20).f hq15))).neg hq16).neg hq18).neg hq20).pos hq25).pos hq26), (fun w hw => ⟨(hs4_1.1.at (m := ((gPlace (xR r) c.name).1).toNat) (by first | exact ix) w (shw hw)).1, (hs4_1.1.at (m := ((gPlace (xR r) c.name).1).toNat) (by first | exact ix) w (shw hw)).2.2.1⟩), (fun w hw => ⟨ho1_10.sl eCred_ok (shw hw), ho1_10.le'⟩)⟩ se pj
   by_cases hq27 : c.verb = 7
   rotate_left
   ·by_cases hq31 : c.verb = 5
    ·refine JD_q (q_look1 (l := ([(2, (Value.func (.func 50) [].toArray [].toArray)), (3, (Value.func (.func 143) [].toArray [].toArray)), (4, (Value.func (.func 144) [].toArray [].toArray)), (6, (Value.func (.func 145) [].toArray [].toArray)), (7, (Value.func (.func 146) [].toArray [].toArray)), (5, (Value.func (.func 147) [].toArray [].toArray)), (8, (Value.func (.func 147) [].toArray [].toArray)), (10, (Value.func (.func 147) [].toArray [].toArray))] : List (Int × Value))) (v := (Value.func (.func 147) [].toArray [].toArray)) c.verb keyInt Tryz.runUnderlying162 Tryz.runUnderlying3 Tryz.zeroValue161 hms64 (by rw [((lookL_miss (fun e => hq16 e.symm)).trans ((lookL_miss (fun e => hq18 e.symm)).trans ((lookL_miss (fun e => hq20 e.symm)).trans ((lookL_miss (fun e => hq25 e.symm)).trans ((lookL_miss (fun e => hq27 e.symm)).trans (lookL_hit hq31.symm))))))]; rfl)) (k := ?_)
     refine Z444 ?_
     refine Z6 ?_
     refine Z355 ?_
     refine Z414 ?_
     exact JX_join11 false 0 ((xA r c).state) ((xA r c).rules) ((t4_1.getD (xN r c) default).ra) ((t4_1.getD (xN r c) default).rc) ((xA r c).creds) ((t4_1.getD (xN r c) default).ca) ((t4_1.getD (xN r c) default).cc) ((xA r c).deadline) ([]) ⟨(((((((Is.refl (Is.xr6 ((((((Is.refl (Is.xr14 (((((hF.f hq1).neg hq2).neg hq3).neg hq4).f hq5))).neg hq6).neg hq12).f hq13).rn1 hJ20).f hq15))).neg hq16).neg hq18).neg hq20).neg hq25).neg hq27).pos hq31), (fun w hw => ⟨(hs4_1.1.at (m := ((gPlace (xR r) c.name).1).toNat) (by first | exact ix) w (shw hw)).1, (hs4_1.1.at (m := ((gPlace (xR r) c.name).1).toNat) (by first | exact ix) w (shw hw)).2.2.1⟩), (fun w hw => ⟨(hs4_1.1.at (m := ((gPlace (xR r) c.name).1).toNat) (by first | exact ix) w (shw hw)).2.1, (hs4_1.1.at (m := ((gPlace (xR r) c.name).1).toNat) (by first | exact ix) w (shw hw)).2.2.2⟩)⟩ se pj
    by_cases hq32 : c.verb = 8
    ·refine JD_q (q_look1 (l := ([(2, (Value.func (.func 50) [].toArray [].toArray)), (3, (Value.func (.func 143) [].toArray [].toArray)), (4, (Value.func (.func 144) [].toArray [].toArray)), (6, (Value.func (.func 145) [].toArray [].toArray)), (7, (Value.func (.func 146) [].toArray [].toArray)), (5, (Value.func (.func 147) [].toArray [].toArray)), (8, (Value.func (.func 147) [].toArray [].toArray)), (10, (Value.func (.func 147) [].toArray [].toArray))] : List (Int × Value))) (v := (Value.func (.func 147) [].toArray [].toArray)) c.verb keyInt Tryz.runUnderlying162 Tryz.runUnderlying3 Tryz.zeroValue161 hms64 (by rw [((lookL_miss (fun e => hq16 e.symm)).trans ((lookL_miss (fun e => hq18 e.symm)).trans ((lookL_miss (fun e => hq20 e.symm)).trans ((lookL_miss (fun e => hq25 e.symm)).trans ((lookL_miss (fun e => hq27 e.symm)).trans ((lookL_miss (fun e => hq31 e.symm)).trans (lookL_hit hq32.symm)))))))]; rfl)) (k := ?_)
     refine Z444 ?_
     refine Z6 ?_
     refine Z355 ?_
     refine Z414 ?_
     exact JX_join11 false 0 ((xA r c).state) ((xA r c).rules) ((t4_1.getD (xN r c) default).ra) ((t4_1.getD (xN r c) default).rc) ((xA r c).creds) ((t4_1.getD (xN r c) default).ca) ((t4_1.getD (xN r c) default).cc) ((xA r c).deadline) ([]) ⟨((((((((Is.refl (Is.xr6 ((((((Is.refl (Is.xr14 (((((hF.f hq1).neg hq2).neg hq3).neg hq4).f hq5))).neg hq6).neg hq12).f hq13).rn1 hJ20).f hq15))).neg hq16).neg hq18).neg hq20).neg hq25).neg hq27).neg hq31).pos hq32), (fun w hw => ⟨(hs4_1.1.at (m := ((gPlace (xR r) c.name).1).toNat) (by first | exact ix) w (shw hw)).1, (hs4_1.1.at (m := ((gPlace (xR r) c.name).1).toNat) (by first | exact ix) w (shw hw)).2.2.1⟩), (fun w hw => ⟨(hs4_1.1.at (m := ((gPlace (xR r) c.name).1).toNat) (by first | exact ix) w (shw hw)).2.1, (hs4_1.1.at (m := ((gPlace (xR r) c.name).1).toNat) (by first | exact ix) w (shw hw)).2.2.2⟩)⟩ se pj
    by_cases hq33 : c.verb = 10
    rotate_left
    ·exfalso
     omega
    refine JD_q (q_look1 (l := ([(2, (Value.func (.func 50) [].toArray [].toArray)), (3, (Value.func (.func 143) [].toArray [].toArray)), (4, (Value.func (.func 144) [].toArray [].toArray)), (6, (Value.func (.func 145) [].toArray [].toArray)), (7, (Value.func (.func 146) [].toArray [].toArray)), (5, (Value.func (.func 147) [].toArray [].toArray)), (8, (Value.func (.func 147) [].toArray [].toArray)), (10, (Value.func (.func 147) [].toArray [].toArray))] : List (Int × Value))) (v := (Value.func (.func 147) [].toArray [].toArray)) c.verb keyInt Tryz.runUnderlying162 Tryz.runUnderlying3 Tryz.zeroValue161 hms64 (by rw [((lookL_miss (fun e => hq16 e.symm)).trans ((lookL_miss (fun e => hq18 e.symm)).trans ((lookL_miss (fun e => hq20 e.symm)).trans ((lookL_miss (fun e => hq25 e.symm)).trans ((lookL_miss (fun e => hq27 e.symm)).trans ((lookL_miss (fun e => hq31 e.symm)).trans ((lookL_miss (fun e => hq32 e.symm)).trans (lookL_hit hq33.symm))))))))]; rfl)) (k := ?_)
    refine Z444 ?_
    refine Z6 ?_
    refine Z355 ?_
    refine Z414 ?_
    exact JX_join11 false 0 ((xA r c).state) ((xA r c).rules) ((t4_1.getD (xN r c) default).ra) ((t4_1.getD (xN r c) default).rc) ((xA r c).creds) ((t4_1.getD (xN r c) default).ca) ((t4_1.getD (xN r c) default).cc) ((xA r c).deadline) ([]) ⟨(((((((((Is.refl (Is.xr6 ((((((Is.refl (Is.xr14 (((((hF.f hq1).neg hq2).neg hq3).neg hq4).f hq5))).neg hq6).neg hq12).f hq13).rn1 hJ20).f hq15))).neg hq16).neg hq18).neg hq20).neg hq25).neg hq27).neg hq31).neg hq32).pos hq33), (fun w hw => ⟨(hs4_1.1.at (m := ((gPlace (xR r) c.name).1).toNat) (by first | exact ix) w (shw hw)).1, (hs4_1.1.at (m := ((gPlace (xR r) c.name).1).toNat) (by first | exact ix) w (shw hw)).2.2.1⟩), (fun w hw => ⟨(hs4_1.1.at (m := ((gPlace (xR r) c.name).1).toNat) (by first | exact ix) w (shw hw)).2.1, (hs4_1.1.at (m := ((gPlace (xR r) c.name).1).toNat) (by first | exact ix) w (shw hw)).2.2.2⟩)⟩ se pj
   refine JD_q (q_look1 (l := ([(2, (Value.func (.func 50) [].toArray [].toArray)), (3, (Value.func (.func 143) [].toArray [].toArray)), (4, (Value.func (.func 144) [].toArray [].toArray)), (6, (Value.func (.func 145) [].toArray [].toArray)), (7, (Value.func (.func 146) [].toArray [].toArray)), (5, (Value.func (.func 147) [].toArray [].toArray)), (8, (Value.func (.func 147) [].toArray [].toArray)), (10, (Value.func (.func 147) [].toArray [].toArray))] : List (Int × Value))) (v := (Value.func (.func 146) [].toArray [].toArray)) c.verb keyInt Tryz.runUnderlying162 Tryz.runUnderlying3 Tryz.zeroValue161 hms64 (by rw [((lookL_miss (fun e => hq16 e.symm)).trans ((lookL_miss (fun e => hq18 e.symm)).trans ((lookL_miss (fun e => hq20 e.symm)).trans ((lookL_miss (fun e => hq25 e.symm)).trans (lookL_hit hq27.symm)))))]; rfl)) (k := ?_)
   refine JD_inl (args := [_]) (c_callA Tryz.call146) Tryz.func146 Tryz.ntmps146 ?_
   refine Z195 ?_
   refine Z104 ?_
   refine JL_q q_nil (k := ?_)
   refine JL_q (q_fld FO_97_1) (k := ?_)
   refine JL_q (q_fld FO_36_3) (k := ?_)
   refine Z499 ?_
   refine Z107 ?_
   refine JL_q q_geq (k := ?_)
   refine Z0 ?_
   refine J_dec rfl (fun hq28 => ?_) (fun hq28 => ?_)
   rotate_left
   ·refine J_reg ?_
    refine Z27 ?_
    refine Z156 ?_
    refine JL_q (q_fld FO_52_4) (k := ?_)
    refine JL_q (q_load Tryz.isAgg49) (k := ?_)
    refine Z232 ?_
    refine JL_q q_negI (k := ?_)
    refine JL_p (c_callA Tryz.call162) (fun w1 hw1 => aclRemove_ok w1 (l := ((xA r c).rules)) (at_ := (IntKind.wrap .i64 (0 - (c.at_ + 1)))) (h_l := (fun w hw => ((SlNB.j hs4_1.1 sh).at (m := ((gPlace (xR r) c.name).1).toNat) (by first | exact ix) w hw).1) w1 hw1) (n_l := by first | omega | (simp; done) | exact (hsm _ (by omega)).1 | exact (hsm _ (by omega)).2) (hG := hG.ext hw1.ext_out) (hE := hE.ext hw1.ext_out)) (k := ?_)
    rintro w1_13 e1_13 w2_13 hw1_13 ⟨a1_13, c1_13, B1_13, he_13, hf_13, ho1_13, hl1_13⟩
    refine ⟨_, _, he_13, hw1_13.fresh hf_13, ?_⟩
    refine Z37 ?_
    refine Z156 ?_
    refine JL_q (q_fld FO_52_4) (k := ?_)
    refine JL_s (w_store (l' := [_, _, _, _, _, _, _, _, _, _, _, _, _, _, _, _, _, _, _, _, _, _]) Tryz.sizeOf49) (k := ?_)
    refine Z107 ?_
    refine Z443 ?_
    refine Z190 ?_
    refine J_dec rfl (fun hq30 => ?_) (fun hq30 => ?_)
    rotate_left
    ·refine J_skip ?_
     refine JX_seq ?_
     refine Z178 ?_
     refine Z317 ?_
     refine Z71 ?_
     refine JD_nil ?_
     refine Z181 ?_
     refine Z7 ?_
     exact JX_join11 false 0 ((xA r c).state) ((aclRemove ((xA r c).rules) (IntKind.wrap .i64 (0 - (c.at_ + 1)))).1) a1_13 c1_13 ((xA r c).creds) ((t4_1.getD (xN r c) default).ca) ((t4_1.getD (xN r c) default).cc) ((xA r c).deadline) B1_13 ⟨((((((((Is.refl (Is.xr6 ((((((Is.refl (Is.xr14 (((((hF.f hq1).neg hq2).neg hq3).neg hq4).f hq5))).neg hq6).neg hq12).f hq13).rn1 hJ20).f hq15))).neg hq16).neg hq18).neg hq20).neg hq25).pos hq27).neg hq28).neg hq30), (fun w hw => ⟨ho1_13.sl eRule_ok (shw hw), ho1_13.le'⟩), (fun w hw => ⟨(hs4_1.1.at (m := ((gPlace (xR r) c.name).1).toNat) (by first | exact ix) w (shw hw)).2.1, (hs4_1.1.at (m := ((gPlace (xR r) c.name).1).toNat) (by first | exact ix) w (shw hw)).2.2.2⟩)⟩ se pj
    refine Z4 ?_
    refine Z461 ?_
    refine Z317 ?_
    refine Z71 ?_
    refine JD_nil ?_
    refine Z181 ?_
    refine Z7 ?_
    exact JX_join11 true ((aclRemove ((xA r c).rules) (IntKind.wrap .i64 (0 - (c.at_ + 1)))).2) ((xA r c).state) ((aclRemove ((xA r c).rules) (IntKind.wrap .i64 (0 - (c.at_ + 1)))).1) a1_13 c1_13 ((xA r c).creds) ((t4_1.getD (xN r c) default).ca) ((t4_1.getD (xN r c) default).cc) ((xA r c).deadline) B1_13 ⟨((((((((Is.refl (Is.xr6 ((((((Is.refl (Is.xr14 (((((hF.f hq1).neg hq2).neg hq3).neg hq4).f hq5))).neg hq6).neg hq12).f hq13).rn1 hJ20).f hq15))).neg hq16).neg hq18).neg hq20).neg hq25).pos hq27).neg hq28).pos hq30), (fun w hw => ⟨ho1_13.sl eRule_ok (shw hw), ho1_13.le'⟩), (fun w hw => ⟨(hs4_1.1.at (m := ((gPlace (xR r) c.name).1).toNat) (by first | exact ix) w (shw hw)).2.1, (hs4_1.1.at (m := ((gPlace (xR r) c.name).1).toNat) (by first | exact ix) w (shw hw)).2.2.2⟩)⟩ se pj
   refine J_planK _ _ [((⟨r34, 13, none⟩ : Addr), (Value.bool c.rule.allow)), ((⟨r34, 14, none⟩ : Addr), (vi c.rule.pfx.addr)), ((⟨r34, 15, none⟩ : Addr), (vi c.rule.pfx.bits)), ((⟨r34, 16, none⟩ : Addr), (vi c.rule.prt.lo)), ((⟨r34, 17, none⟩ : Addr), (vi c.rule.prt.hi))] (vp (List.Perm.refl _) (nC nE)) (by repeat (first | exact KC.nil | refine KC.cons (by repeat (first | exact List.mem_cons_self | apply List.mem_cons_of_mem | apply List.mem_append_right)) rfl ?_)) mixed 23 [(true, 0), (true, 1), (true, 2), (true, 3), (true, 4), (true, 5), (true, 7), (true, 8), (true, 9), (true, 10), (true, 11), (true, 12), (false, 6), (false, 13), (true, 14), (true, 15), (true, 16), (true, 17), (true, 18), (true, 19), (true, 20), (false, 21), (true, 22)] (by kernel_rfl) ?_
   refine JK_q ((q_move).k) (k := ?_)
   refine JK_q ((q_move).k) (k := ?_)
   refine JK_q ((q_nil).k) (k := ?_)
   refine Z473 ?_
   refine JK_q ((q_fld FO_52_4).k) (k := ?_)
   refine JK_q ((q_move).k) (k := ?_)
   refine JK_q ((q_move).k) (k := ?_)
   refine JK_q ((q_nil).k) (k := ?_)
   refine JK_q ((q_fld FO_97_1).k) (k := ?_)
   refine JK_q ((q_fld FO_36_4).k) (k := ?_)
   refine JK_q (k_loadA (r := r34) (k := 13) (cs := [_, _, _, _, _]) Tryz.isAgg34 Tryz.sizeOf34 (by repeat (first | exact KRun.nil | refine KRun.cons (by repeat (first | exact List.mem_cons_self | apply List.mem_cons_of_mem)) ?_))) (k := ?_)
   refine JK_qV (q_load Tryz.isAgg49) (k := ?_)
   refine JK_p (c_callA Tryz.call161) (fun w1 hw1 => aclInsert_ok w1 (l := ((xA r c).rules)) (at_ := c.at_) (r := c.rule) (h_l := (fun w hw => ((SlNB.j hs4_1.1 sh).at (m := ((gPlace (xR r) c.name).1).toNat) (by first | exact ix) w hw).1) w1 hw1) (n_l := by first | omega | (simp; done) | exact (hsm _ (by omega)).1 | exact (hsm _ (by omega)).2) (hG := hG.ext hw1.ext_out) (hE := hE.ext hw1.ext_out)) (k := ?_)
   rintro w1_12 e1_12 w2_12 hw1_12 ⟨a1_12, c1_12, B1_12, he_12, hf_12, ho1_12, hl1_12⟩
   refine ⟨_, _, _, he_12, hf_12, rfl, ?_⟩
   refine JK_q ((q_move).k) (k := ?_)
   refine JK_q ((q_ext).k) (k := ?_)
   refine JK_q ((q_ext).k) (k := ?_)
   refine JK_q ((q_nil).k) (k := ?_)
   refine Z473 ?_
   refine JK_q ((q_fld FO_52_4).k) (k := ?_)
   refine JK_s (V' := ((r34, oc [(vi ((xA r c).handle.slot)), (vi ((xA r c).handle.gen)), (vt ((xA r c).name)), (vi ((xA r c).state)), (vi ((xA r c).version)), (vs a1_12 ((aclInsert ((xA r c).rules) c.at_ c.rule).1.length) c1_12), (vs ((t4_1.getD (xN r c) default).ca) ((xA r c).creds.length) ((t4_1.getD (xN r c) default).cc)), (vi ((xA r c).deadline)), (vi (r.seq + 1)), (vi c.verb), (vt c.name), (vi c.want), (vi c.at_), (Value.bool c.rule.allow), (vi c.rule.pfx.addr), (vi c.rule.pfx.bits), (vi c.rule.prt.lo), (vi c.rule.prt.hi), (vt c.key), (vi c.n), (vi c.m), (vi now)] 97) :: [])) (by repeat (first | exact KC.nil | refine KC.cons (by repeat (first | exact List.mem_cons_self | apply List.mem_cons_of_mem | apply List.mem_append_right)) rfl ?_)) (w_store (l' := [_, _, _, _, _, _, _, _, _, _, _, _, _, _, _, _, _, _, _, _, _, _]) Tryz.sizeOf49) (k := ?_)
   refine JK_q ((q_assign).k) (k := ?_)
   refine JK_nil ?_
   refine JL_eqL (nC nE) ?_
   refine Z237 ?_
   refine Z443 ?_
   refine Z190 ?_
   refine J_dec rfl (fun hq29 => ?_) (fun hq29 => ?_)
   rotate_left
   ·refine J_skip ?_
    refine JX_seq ?_
    refine Z178 ?_
    refine Z434 ?_
    refine Z124 ?_
    refine Z181 ?_
    refine Z7 ?_
    exact JX_join11 false 0 ((xA r c).state) ((aclInsert ((xA r c).rules) c.at_ c.rule).1) a1_12 c1_12 ((xA r c).creds) ((t4_1.getD (xN r c) default).ca) ((t4_1.getD (xN r c) default).cc) ((xA r c).deadline) B1_12 ⟨((((((((Is.refl (Is.xr6 ((((((Is.refl (Is.xr14 (((((hF.f hq1).neg hq2).neg hq3).neg hq4).f hq5))).neg hq6).neg hq12).f hq13).rn1 hJ20).f hq15))).neg hq16).neg hq18).neg hq20).neg hq25).pos hq27).pos hq28).neg hq29), (fun w hw => ⟨ho1_12.sl eRule_ok (shw hw), ho1_12.le'⟩), (fun w hw => ⟨(hs4_1.1.at (m := ((gPlace (xR r) c.name).1).toNat) (by first | exact ix) w (shw hw)).2.1, (hs4_1.1.at (m := ((gPlace (xR r) c.name).1).toNat) (by first | exact ix) w (shw hw)).2.2.2⟩)⟩ se pj
   refine Z4 ?_
   refine Z461 ?_
   refine Z434 ?_
   refine Z124 ?_
   refine Z181 ?_
   refine Z7 ?_
   exact JX_join11 true ((aclInsert ((xA r c).rules) c.at_ c.rule).2) ((xA r c).state) ((aclInsert ((xA r c).rules) c.at_ c.rule).1) a1_12 c1_12 ((xA r c).creds) ((t4_1.getD (xN r c) default).ca) ((t4_1.getD (xN r c) default).cc) ((xA r c).deadline) B1_12 ⟨((((((((Is.refl (Is.xr6 ((((((Is.refl (Is.xr14 (((((hF.f hq1).neg hq2).neg hq3).neg hq4).f hq5))).neg hq6).neg hq12).f hq13).rn1 hJ20).f hq15))).neg hq16).neg hq18).neg hq20).neg hq25).pos hq27).pos hq28).pos hq29), (fun w hw => ⟨ho1_12.sl eRule_ok (shw hw), ho1_12.le'⟩), (fun w hw => ⟨(hs4_1.1.at (m := ((gPlace (xR r) c.name).1).toNat) (by first | exact ix) w (shw hw)).2.1, (hs4_1.1.at (m := ((gPlace (xR r) c.name).1).toNat) (by first | exact ix) w (shw hw)).2.2.2⟩)⟩ se pj
  rintro err_21b err_21 x_22 x_23 x_23a x_23c x_24 x_24a x_24c x_25 x_23B ⟨hJ26, hx_23, hx_24⟩
  cases err_21b
  rotate_left
  ·refine JX_eqE (E2 := [(3, (Value.pointer (some ⟨r28, 0, none⟩))), (4, (Value.pointer (some ⟨r29, 0, none⟩))), (6, (Value.pointer (some ⟨r30, 0, none⟩))), (7, (Value.pointer (some ⟨r31, 0, none⟩))), (8, Value.nilIface), (9, (vi ((gPlace (xR r) c.name).1))), (11, (Value.pointer (some ⟨r34, 0, none⟩))), (12, (Value.iface 120 (Value.agg [(vi err_21)].toArray)))]) rfl ?_
   refine JX_seq ?_
   refine Z4 ?_
   refine JL_q (q_neS (u := (Value.iface 120 (Value.agg [(vi err_21)].toArray))) (v := Value.nilIface) (b := true) (fun w => by kernel_rfl)) (k := ?_)
   refine Z45 ?_
   refine Z21 ?_
   refine Z520 ?_
   refine Z481 ?_
   refine Z15 ?_
   refine Z41 ?_
   refine JX_subL _ (sx (sd (sk (sk (sd (sd (sk (sk (sk (sk (sa (sk (sk (sk (sk sz))))))))))))))) ?_
   refine Z115 ?_
   refine Z274 ?_
   refine Z6 ?_
   refine Z337 ?_
   refine JL_a noMk (a_alloc (l := [_, _, _, _, _]) Tryz.zeroValue28) (k := fun r46 hr46 => ?_)
   refine JL_a noMk (a_alloc (l := [_, _, _, _, _, _, _, _]) Tryz.zeroValue52) (k := fun r47 hr47 => ?_)
   refine Z450 ?_
   exact JX_join30 true err_21 0 0 ([] : Str) 0 0 ([]) none 0 ([]) none 0 0 r.slots.gens a1_1 c1_1 r.slots.used a2_1 c2_1 r.slots.free a3_1 c3_1 r.l t4_1 a4_1 c4_1 ([]) r47 r46 ⟨((((((((Is.refl (Is.xr14 (((((hF.f hq1).neg hq2).neg hq3).neg hq4).f hq5))).neg hq6).neg hq12).f hq13).rn1 hJ20).f hq15).rn6 hJ26).pos rfl), SlBC.nil, SlBC.nil, (SlB.mono hs1_1 sh), (SlB.mono hs2_1 sh), (SlB.mono hs3_1 sh), ⟨(hs4_1.1.mono sh), hs4_1.2⟩, (by first | omega | assumption | (simp; done)), (by first | omega | assumption | (simp; done)), (by first | omega | assumption | (simp; done)), (by first | omega | assumption | (simp; done))⟩ se pj
  refine JX_eqE (E2 := [(3, (Value.pointer (some ⟨r28, 0, none⟩))), (4, (Value.pointer (some ⟨r29, 0, none⟩))), (6, (Value.pointer (some ⟨r30, 0, none⟩))), (7, (Value.pointer (some ⟨r31, 0, none⟩))), (8, Value.nilIface), (9, (vi ((gPlace (xR r) c.name).1))), (11, (Value.pointer (some ⟨r34, 0, none⟩))), (12, Value.nilIface)]) rfl ?_
  refine JX_seq ?_
  refine Z4 ?_
  refine Z362 ?_
  refine Z167 ?_
  refine Z2 ?_
  refine Z382 ?_
  refine Z305 ?_
  refine J_seq ?_
  refine J_seq ?_
  refine J_subL _ (sa (sk (sk (sk (sd (sk (sk (sk (sk (sk (sa (sk (sk (sk (sk sz))))))))))))))) ?_
  refine Z486 ?_
  refine Z378 ?_
  refine J_dec rfl (fun hq34 => ?_) (fun hq34 => ?_)
  ·refine J_skip ?_
   refine JX_seq ?_
   refine J_dec rfl (fun hq35 => ?_) (fun hq35 => ?_)
   rotate_left
   ·exact absurd hq34 hq35
   refine J_seq ?_
   refine Z342 ?_
   refine Z322 ?_
   refine Z483 ?_
   refine Z173 ?_
   refine Z159 ?_
   refine Z124 ?_
   refine Z280 ?_
   refine Z8 ?_
   refine JX_subL _ (sk (sk (sx (sd (sd (sk (sk (sk (sk (sa (sk (sk (sk (sk sz)))))))))))))) ?_
   refine Z115 ?_
   refine Z274 ?_
   refine Z6 ?_
   refine Z337 ?_
   refine JL_a noMk (a_alloc (l := [_, _, _, _, _]) Tryz.zeroValue28) (k := fun r38 hr38 => ?_)
   refine JL_a noMk (a_alloc (l := [_, _, _, _, _, _, _, _]) Tryz.zeroValue52) (k := fun r39 hr39 => ?_)
   refine Z450 ?_
   exact JX_join30 false 0 ((xA r c).handle.slot) ((xA r c).handle.gen) ((xA r c).name) ((xA r c).state) ((xA r c).version) ((xA r c).rules) ((t4_1.getD (xN r c) default).ra) ((t4_1.getD (xN r c) default).rc) ((xA r c).creds) ((t4_1.getD (xN r c) default).ca) ((t4_1.getD (xN r c) default).cc) ((xA r c).deadline) r.slots.gens a1_1 c1_1 r.slots.used a2_1 c2_1 r.slots.free a3_1 c3_1 r.l t4_1 a4_1 c4_1 ([]) r39 r38 ⟨(((((((((Is.refl (Is.xr14 (((((hF.f hq1).neg hq2).neg hq3).neg hq4).f hq5))).neg hq6).neg hq12).f hq13).rn1 hJ20).f hq15).rn6 hJ26).neg Bool.false_ne_true).pos hq34), (fun w hw => ⟨(hs4_1.1.at (m := ((gPlace (xR r) c.name).1).toNat) (by first | exact ix) w (shw hw)).1, (hs4_1.1.at (m := ((gPlace (xR r) c.name).1).toNat) (by first | exact ix) w (shw hw)).2.2.1⟩), (fun w hw => ⟨(hs4_1.1.at (m := ((gPlace (xR r) c.name).1).toNat) (by first | exact ix) w (shw hw)).2.1, (hs4_1.1.at (m := ((gPlace (xR r) c.name).1).toNat) (by first | exact ix) w (shw hw)).2.2.2⟩), (SlB.mono hs1_1 sh), (SlB.mono hs2_1 sh), (SlB.mono hs3_1 sh), ⟨(hs4_1.1.mono sh), hs4_1.2⟩, (by first | omega | assumption | (simp; done)), (by first | omega | assumption | (simp; done)), (by first | omega | assumption | (simp; done)), (by first | omega | assumption | (simp; done))⟩ se pj
  refine Z486 ?_
  refine Z378 ?_
  refine J_dec rfl (fun hq36 => ?_) (fun hq36 => ?_)
  ·refine J_seq ?_
   refine Z342 ?_
   refine Z322 ?_
   refine Z483 ?_
   refine Z173 ?_
   refine Z159 ?_
   refine Z124 ?_
   refine Z280 ?_
   refine Z8 ?_
   refine JX_subL _ (sk (sk (sx (sd (sd (sk (sk (sk (sk (sa (sk (sk (sk (sk sz)))))))))))))) ?_
   refine Z115 ?_
   refine Z274 ?_
   refine Z6 ?_
   refine Z337 ?_
   refine JL_a noMk (a_alloc (l := [_, _, _, _, _]) Tryz.zeroValue28) (k := fun r40 hr40 => ?_)
   refine JL_a noMk (a_alloc (l := [_, _, _, _, _, _, _, _]) Tryz.zeroValue52) (k := fun r41 hr41 => ?_)
   refine Z450 ?_
   exact JX_join30 false 0 ((xA r c).handle.slot) ((xA r c).handle.gen) ((xA r c).name) ((xA r c).state) ((xA r c).version) ((xA r c).rules) ((t4_1.getD (xN r c) default).ra) ((t4_1.getD (xN r c) default).rc) ((xA r c).creds) ((t4_1.getD (xN r c) default).ca) ((t4_1.getD (xN r c) default).cc) ((xA r c).deadline) r.slots.gens a1_1 c1_1 r.slots.used a2_1 c2_1 r.slots.free a3_1 c3_1 r.l t4_1 a4_1 c4_1 ([]) r41 r40 ⟨((((((((((Is.refl (Is.xr14 (((((hF.f hq1).neg hq2).neg hq3).neg hq4).f hq5))).neg hq6).neg hq12).f hq13).rn1 hJ20).f hq15).rn6 hJ26).neg Bool.false_ne_true).neg hq34).pos hq36), (fun w hw => ⟨(hs4_1.1.at (m := ((gPlace (xR r) c.name).1).toNat) (by first | exact ix) w (shw hw)).1, (hs4_1.1.at (m := ((gPlace (xR r) c.name).1).toNat) (by first | exact ix) w (shw hw)).2.2.1⟩), (fun w hw => ⟨(hs4_1.1.at (m := ((gPlace (xR r) c.name).1).toNat) (by first | exact ix) w (shw hw)).2.1, (hs4_1.1.at (m := ((gPlace (xR r) c.name).1).toNat) (by first | exact ix) w (shw hw)).2.2.2⟩), (SlB.mono hs1_1 sh), (SlB.mono hs2_1 sh), (SlB.mono hs3_1 sh), ⟨(hs4_1.1.mono sh), hs4_1.2⟩, (by first | omega | assumption | (simp; done)), (by first | omega | assumption | (simp; done)), (by first | omega | assumption | (simp; done)), (by first | omega | assumption | (simp; done))⟩ se pj
  refine Z2 ?_
  refine Z378 ?_
  refine J_dec rfl (fun hq37 => ?_) (fun hq37 => ?_)
  rotate_left
  ·refine J_skip ?_
   refine Z17 ?_
   refine Z4 ?_
   refine Z156 ?_
   refine Z228 ?_
   refine Z502 ?_
   refine Z156 ?_
   refine Z310 ?_
   refine Z72 ?_
   refine J_planV _ _ (vp ((qc (qa q0)).trans (qa (qc (qa q0)))) (nC (nC nE))) mixed 15 [(true, 0), (true, 1), (true, 2), (true, 3), (true, 4), (true, 5), (true, 7), (true, 8), (true, 9), (true, 10), (true, 11), (false, 6), (false, 12), (false, 13), (true, 14)] (by kernel_rfl) ?_
   refine Z525 ?_
   refine Z258 ?_
   refine Z413 ?_
   refine Z258 ?_
   refine Z413 ?_
   refine JD_p (c_callA Tryz.call51) (fun w1 hw1 => putN_ok w1 (xs := r.l) (ts := t4_1) (x := (Tenant.mk ((xA r c).handle) ((xA r c).name) x_22 (((xA r c).version) + 1) x_23 x_24 x_25)) (v := (TA.mk x_23a x_23c x_24a x_24c)) ((SlNB.j hs4_1.1 sh).2 w1 hw1) (by first | exact lb) hs4_1.2) (k := ?_)
   rintro w1_19 e1_19 w2_19 hw1_19 ⟨a1_19, c1_19, B1_19, he_19, hf_19, ho1_19⟩
   refine ⟨_, _, _, he_19, hf_19, rfl, ?_⟩
   have hdp40 : DeepB (B_1 ++ (x_23B ++ [])) DT (putX r.l (Tenant.mk ((xA r c).handle) ((xA r c).name) x_22 (((xA r c).version) + 1) x_23 x_24 x_25)) (putT r.l t4_1 (Tenant.mk ((xA r c).handle) ((xA r c).name) x_22 (((xA r c).version) + 1) x_23 x_24 x_25) (TA.mk x_23a x_23c x_24a x_24c)) := DeepB.put ((DeepB.of hs4_1.1).mono sh) (DeepB.one (B := (B_1 ++ (x_23B ++ []))) (D := DT) (fun w hw => ⟨(hx_23 w (shw hw)).1, (hx_24 w (shw hw)).1, (hx_23 w (shw hw)).2, (hx_24 w (shw hw)).2⟩))
   have hpx_19 := putX_length_le r.l (Tenant.mk ((xA r c).handle) ((xA r c).name) x_22 (((xA r c).version) + 1) x_23 x_24 x_25)
   refine Z159 ?_
   refine Z124 ?_
   refine Z280 ?_
   refine JX_subL _ (sk (sk (sa (sa (sd (sd (sk (sk (sk (sk (sa (sk (sk (sk (sk sz))))))))))))))) ?_
   refine Z115 ?_
   refine Z274 ?_
   refine Z6 ?_
   refine JX_subL _ (sd (sd (sa (sa (sk (sk (sd (sd (sa (sk (sk (sk (sk sz))))))))))))) ?_
   refine Z51 ?_
   refine Z498 ?_
   refine JL_a noMk (a_alloc (l := [_, _, _, _, _]) Tryz.zeroValue28) (k := fun r44 hr44 => ?_)
   refine JL_a noMk (a_alloc (l := [_, _, _, _, _, _, _, _]) Tryz.zeroValue52) (k := fun r45 hr45 => ?_)
   refine Z398 ?_
   refine JX_permL _ (((((((((qa (qa (qc (qc (qa (qa (qc (qa (qa (qa q0)))))))))).trans (qa (qa (qa (qc (qc (qa (qa (qc (qa (qa q0))))))))))).trans (qa (qa (qa (qa (qc (qc (qa (qa (qc (qa q0))))))))))).trans (qa (qa (qa (qa (qa (qc (qc (qa (qa (qc q0))))))))))).trans (qb (qb (qb (qb (qb (qb (qd (qd (qb (qb q0))))))))))).trans (qc (qa (qa (qa (qa (qa q0))))))).trans (qa (qc (qa (qa (qa (qa q0))))))).trans (qb (qb (qd (qb (qb (qb (qb q0)))))))).trans (qd (qb (qb (qd (qb (qb (qb (qb q0))))))))) ?_
   refine JX_subL _ (List.Sublist.append (List.Sublist.refl _) (List.Sublist.append (List.Sublist.refl _) (List.Sublist.cons_cons _ (List.Sublist.cons_cons _ (List.Sublist.append (List.Sublist.refl _) (List.Sublist.cons_cons _ (List.Sublist.cons_cons _ (List.Sublist.cons_cons _ (List.Sublist.cons_cons _ (List.nil_sublist _)))))))))) ?_
   exact JX_join30 false 0 ((xA r c).handle.slot) ((xA r c).handle.gen) ((xA r c).name) x_22 (((xA r c).version) + 1) x_23 x_23a x_23c x_24 x_24a x_24c x_25 r.slots.gens a1_1 c1_1 r.slots.used a2_1 c2_1 r.slots.free a3_1 c3_1 (putX r.l (Tenant.mk ((xA r c).handle) ((xA r c).name) x_22 (((xA r c).version) + 1) x_23 x_24 x_25)) (putT r.l t4_1 (Tenant.mk ((xA r c).handle) ((xA r c).name) x_22 (((xA r c).version) + 1) x_23 x_24 x_25) (TA.mk x_23a x_23c x_24a x_24c)) a1_19 c1_19 (x_23B ++ B1_19) r45 r44 ⟨(((((((((((Is.refl (Is.xr14 (((((hF.f hq1).neg hq2).neg hq3).neg hq4).f hq5))).neg hq6).neg hq12).f hq13).rn1 hJ20).f hq15).rn6 hJ26).neg Bool.false_ne_true).neg hq34).neg hq36).neg hq37), (fun w hw => ⟨(hx_23 w (shw hw)).1, (hx_23 w (shw hw)).2⟩), (fun w hw => ⟨(hx_24 w (shw hw)).1, (hx_24 w (shw hw)).2⟩), (SlB.mono hs1_1 sh), (SlB.mono hs2_1 sh), (SlB.mono hs3_1 sh), ⟨((OwnB.nb (U := (B1_19 ++ (B_1 ++ (x_23B ++ [])))) eTenant_ok ho1_19 hdp40 (hB := sh) (hR := sh)).mono sh), (by have h0 := ho1_19.le'; rwa [zip_len hdp40.1] at h0)⟩, (by first | omega | assumption | (simp; done)), (by first | omega | assumption | (simp; done)), (by first | omega | assumption | (simp; done)), (by first | omega | assumption | (simp; done))⟩ se pj
  refine Z4 ?_
  refine Z156 ?_
  refine Z228 ?_
  refine Z502 ?_
  refine Z156 ?_
  refine Z310 ?_
  refine Z72 ?_
  refine J_planK _ _ [] (vp (qc (qa (qa (qa q0)))) (nC nE)) (by repeat (first | exact KC.nil | refine KC.cons (by repeat (first | exact List.mem_cons_self | apply List.mem_cons_of_mem | apply List.mem_append_right)) rfl ?_)) mixed 14 [(true, 0), (true, 2), (true, 3), (true, 4), (true, 5), (true, 6), (true, 7), (false, 1), (false, 8), (true, 9), (true, 10), (true, 11), (true, 12), (false, 13)] (by kernel_rfl) ?_
  refine JK_q ((q_fld FO_28_0).k) (k := ?_)
  refine JK_q ((q_move).k) (k := ?_)
  refine JK_q ((q_nil).k) (k := ?_)
  refine Z473 ?_
  refine JK_q ((q_fld FO_52_0).k) (k := ?_)
  refine JK_q ((q_loadA Tryz.isAgg42 Tryz.sizeOf42).k) (k := ?_)
  refine JK_qV (q_loadA Tryz.isAgg25 Tryz.sizeOf25) (k := ?_)
  refine JK_p (c_callA Tryz.call113) (fun w1 hw1 => sGive_ok w1 (s := r.slots) (h := ((xA r c).handle)) (h_s_gens := (SlB.slj hs1_1) w1 hw1) (n_s_gens := by first | omega | (simp; done) | exact (hsm _ (by omega)).1 | exact (hsm _ (by omega)).2) (h_s_used := (SlB.slj hs2_1) w1 hw1) (n_s_used := by first | omega | (simp; done) | exact (hsm _ (by omega)).1 | exact (hsm _ (by omega)).2) (h_s_free := (SlB.slj hs3_1) w1 hw1) (n_s_free := by first | omega | (simp; done) | exact (hsm _ (by omega)).1 | exact (hsm _ (by omega)).2)) (k := ?_)
  rintro w1_15 e1_15 w2_15 hw1_15 ⟨a1_15, c1_15, a2_15, c2_15, a3_15, c3_15, B_15, he_15, hf_15, hs1_15, hs2_15, hs3_15, hl1_15, hl2_15, hl3_15⟩
  refine ⟨_, _, _, he_15, hf_15, rfl, ?_⟩
  refine JK_q ((q_move).k) (k := ?_)
  refine JK_q ((q_ext).k) (k := ?_)
  refine JK_q ((q_ext).k) (k := ?_)
  refine JK_q ((q_fld FO_28_0).k) (k := ?_)
  refine JK_s (V' := ((r28, oc [(vs a1_15 ((sGive r.slots ((xA r c).handle)).1.gens.length) c1_15), (vs a2_15 ((sGive r.slots ((xA r c).handle)).1.used.length) c2_15), (vs a3_15 ((sGive r.slots ((xA r c).handle)).1.free.length) c3_15), (vs a4_1 r.l.length c4_1), (vi (r.seq + 1))] 28) :: [])) (by repeat (first | exact KC.nil | refine KC.cons (by repeat (first | exact List.mem_cons_self | apply List.mem_cons_of_mem | apply List.mem_append_right)) rfl ?_)) (w_store (l' := [_, _, _, _, _]) Tryz.sizeOf25) (k := ?_)
  refine JK_nil ?_
  refine JL_eqL (nC nE) ?_
  refine Z320 ?_
  refine Z147 ?_
  refine JL_p (c_callA Tryz.call115) (fun w1 hw1 => cloneN_ok w1 (xs := r.l) (ts := t4_1) ((SlNB.j hs4_1.1 sh).2 w1 hw1) (by first | exact lb)) (k := ?_)
  rintro w1_16 e1_16 w2_16 hw1_16 ⟨a1_16, c1_16, B1_16, he_16, hf_16, ho1_16⟩
  refine ⟨_, _, he_16, hw1_16.fresh hf_16, ?_⟩
  have hdp38 : DeepB (B_1 ++ []) DT r.l t4_1 := ((DeepB.of hs4_1.1).mono sh)
  refine Z27 ?_
  refine Z502 ?_
  refine JL_p (c_callA Tryz.call114) (fun w1 hw1 => delN_ok w1 (i := ((gPlace (xR r) c.name).1)) (j := (((gPlace (xR r) c.name).1) + 1)) ho1_16 (sho hw1) hdp38.1 (by first | exact lb) (by first | exact lb)) (k := ?_)
  rintro w1_17 e1_17 w2_17 hw1_17 ⟨a1_17, c1_17, B1_17, he_17, hf_17, ho1_17⟩
  refine ⟨_, _, he_17, (hw1_17.perm q0).tr hf_17, ?_⟩
  have hdp39 : DeepB (B_1 ++ []) DT (delL r.l ((gPlace (xR r) c.name).1).toNat (((gPlace (xR r) c.name).1) + 1).toNat) (delL t4_1 ((gPlace (xR r) c.name).1).toNat (((gPlace (xR r) c.name).1) + 1).toNat) := DeepB.delL hdp38 _ _
  have hdx_17 : (delL r.l ((gPlace (xR r) c.name).1).toNat (((gPlace (xR r) c.name).1) + 1).toNat).length = r.l.length - 1 := by rw [delL_length (by omega) (by omega)]; omega
  refine JL_q (q_fld FO_28_1) (k := ?_)
  refine JL_s (w_store (l' := [_, _, _, _, _]) Tryz.sizeOf26) (k := ?_)
  refine Z72 ?_
  refine J_planV _ _ (vp ((qc (qa (qc (qc (qa q0))))).trans (qa (qc (qa (qc (qc (qa q0))))))) (nC (nC nE))) mixed 9 [(true, 0), (true, 1), (true, 2), (true, 3), (true, 4), (true, 5), (false, 6), (false, 7), (true, 8)] (by kernel_rfl) ?_
  refine Z525 ?_
  refine Z258 ?_
  refine Z413 ?_
  refine Z159 ?_
  refine Z124 ?_
  refine Z280 ?_
  refine Z8 ?_
  refine JX_subL _ (sk (sk (sa (sd (sa (sa (sd (sk (sk (sk (sk (sa (sk (sk (sk (sk sz)))))))))))))))) ?_
  refine Z115 ?_
  refine Z274 ?_
  refine Z6 ?_
  refine JX_subL _ (sd (sd (sa (sa (sa (sk (sk (sd (sd (sa (sk (sk (sk (sk sz)))))))))))))) ?_
  refine Z51 ?_
  refine Z498 ?_
  refine JL_a noMk (a_alloc (l := [_, _, _, _, _]) Tryz.zeroValue28) (k := fun r42 hr42 => ?_)
  refine JL_a noMk (a_alloc (l := [_, _, _, _, _, _, _, _]) Tryz.zeroValue52) (k := fun r43 hr43 => ?_)
  refine Z398 ?_
  refine JX_permL _ ((((((((((qa (qa (qc (qc (qc (qa (qa (qc (qa (qa (qa q0))))))))))).trans (qa (qa (qa (qc (qc (qc (qa (qa (qc (qa (qa q0)))))))))))).trans (qa (qa (qa (qa (qc (qc (qc (qa (qa (qc (qa q0)))))))))))).trans (qa (qa (qa (qa (qa (qc (qc (qc (qa (qa (qc q0)))))))))))).trans (qb (qb (qb (qb (qb (qb (qd (qd (qd (qb (qb q0)))))))))))).trans (qc (qa (qa (qa (qa (qa q0))))))).trans (qa (qc (qa (qa (qa (qa q0))))))).trans (qb (qb (qd (qb (qb (qb (qb q0)))))))).trans (qd (qb (qb (qd (qb (qb (qb (qb q0))))))))).trans (qd (qd (qb (qb (qd (qb (qb (qb (qb q0)))))))))) ?_
  refine Z526 ?_
  exact JX_join30 false 0 ((xA r c).handle.slot) ((xA r c).handle.gen) ((xA r c).name) x_22 (((xA r c).version) + 1) x_23 x_23a x_23c x_24 x_24a x_24c x_25 ((sGive r.slots ((xA r c).handle)).1.gens) a1_15 c1_15 ((sGive r.slots ((xA r c).handle)).1.used) a2_15 c2_15 ((sGive r.slots ((xA r c).handle)).1.free) a3_15 c3_15 (delL r.l ((gPlace (xR r) c.name).1).toNat (((gPlace (xR r) c.name).1) + 1).toNat) (delL t4_1 ((gPlace (xR r) c.name).1).toNat (((gPlace (xR r) c.name).1) + 1).toNat) a1_17 c1_17 (x_23B ++ (B_15 ++ B1_17)) r43 r42 ⟨(((((((((((Is.refl (Is.xr14 (((((hF.f hq1).neg hq2).neg hq3).neg hq4).f hq5))).neg hq6).neg hq12).f hq13).rn1 hJ20).f hq15).rn6 hJ26).neg Bool.false_ne_true).neg hq34).neg hq36).pos hq37), (fun w hw => ⟨(hx_23 w (shw hw)).1, (hx_23 w (shw hw)).2⟩), (fun w hw => ⟨(hx_24 w (shw hw)).1, (hx_24 w (shw hw)).2⟩), (SlB.mono hs1_15 sh), (SlB.mono hs2_15 sh), (SlB.mono hs3_15 sh), ⟨((OwnB.nb (U := (B1_17 ++ (B_1 ++ []))) eTenant_ok ho1_17 hdp39 (hB := sh) (hR := sh)).mono sh), (by have h0 := ho1_17.le'; rwa [zip_len hdp39.1] at h0)⟩, (by first | omega | assumption | (simp; done)), (by first | omega | assumption | (simp; done)), (by first | omega | assumption | (simp; done)), (by first | omega | assumption | (simp; done))⟩ se pj
 rintro err_1b err_1 x_2 x_3 x_4 x_5 x_6 x_7 x_7a x_7c x_8 x_8a x_8c x_9 x_10 x_10a x_10c x_11 x_11a x_11c x_12 x_12a x_12c x_13 x_13t x_13a x_13c x_7B r14 r13 ⟨hJ14, hx_7, hx_8, hx_10, hx_11, hx_12, ⟨hx_13, hkx_13⟩, hi15, hi16, hi17, hi18⟩
 cases err_1b
 rotate_left
 ·refine JX_eqE (E2 := [(4, (Value.pointer (some ⟨r1, 0, none⟩))), (8, (Value.pointer (some ⟨r3, 0, none⟩))), (9, (Value.pointer (some ⟨r4, 0, none⟩))), (10, (Value.pointer (some ⟨r13, 0, none⟩))), (11, (Value.pointer (some ⟨r14, 0, none⟩))), (12, (Value.iface 120 (Value.agg [(vi err_1)].toArray)))]) rfl ?_
  refine Z403 ?_
  refine J_subL _ (sa (sk (sk (sa (sk (sk (sd (sk sz)))))))) ?_
  refine J_join1 (σ1 := Nat) (fun r569 => ((r569, oc [(vi err_1), (vi (r.seq + 1)), (vi x_2), (vi x_3), (vi x_6), (vi x_5)] 44) :: (x_7B ++ ((r14, oc [(vi x_2), (vi x_3), (vt x_4), (vi x_5), (vi x_6), (vs x_7a x_7.length x_7c), (vs x_8a x_8.length x_8c), (vi x_9)] 52) :: ((r13, oc [(vs x_10a x_10.length x_10c), (vs x_11a x_11.length x_11c), (vs x_12a x_12.length x_12c), (vs x_13a x_13.length x_13c), (vi (r.seq + 1))] 28) :: (B_1 ++ ((r4, oc [(vi 0), (vi 0), (vi 0), (vi 0), (vi 0), (vi 0)] 44) :: ((r3, oc [(vs none 0 0), (vs none 0 0), (vs none 0 0), (vs none 0 0), (vi 0)] 28) :: ((r1, oc [(vs a1_1 r.slots.gens.length c1_1), (vs a2_1 r.slots.used.length c2_1), (vs a3_1 r.slots.free.length c3_1), (vs a4_1 r.l.length c4_1), (vi (r.seq + 1))] 28) :: []))))))))) (fun r569 => [(4, (Value.pointer (some ⟨r1, 0, none⟩))), (8, (Value.pointer (some ⟨r3, 0, none⟩))), (9, (Value.pointer (some ⟨r4, 0, none⟩))), (10, (Value.pointer (some ⟨r13, 0, none⟩))), (12, (Value.iface 120 (Value.agg [(vi err_1)].toArray))), (13, (Value.pointer (some ⟨r569, 0, none⟩)))]) (fun r569 => Is () ()) ?_ ?_
  ·skip
   refine J_any (V := []) mixed 12 (by kernel_rfl) ?_
   refine JG_q 0 rfl (by kernel_rfl) q_move (k := ?_)
   refine JG_q 2 rfl (by kernel_rfl) (q_fld FO_28_2) (k := ?_)
   refine JG_q 3 rfl (by kernel_rfl) (q_load Tryz.isAgg3) (k := ?_)
   refine JG_q 4 rfl (by kernel_rfl) (q_fld FO_52_0) (k := ?_)
   refine JG_q 5 rfl (by kernel_rfl) (q_loadA Tryz.isAgg42 Tryz.sizeOf42) (k := ?_)
   refine JG_q 6 rfl (by kernel_rfl) (q_fld FO_52_3) (k := ?_)
   refine JG_q 7 rfl (by kernel_rfl) (q_load Tryz.isAgg3) (k := ?_)
   refine JG_q 8 rfl (by kernel_rfl) (q_fld FO_52_2) (k := ?_)
   refine JG_q 9 rfl (by kernel_rfl) (q_load Tryz.isAgg3) (k := ?_)
   refine JG_br [1, 11] (by kernel_rfl) rfl (List.forall_mem_cons.2 ⟨?_, (List.forall_mem_cons.2 ⟨?_, nofun⟩)⟩)
   ·skip
    refine Z394 ?_
    refine JG_br [11] (by kernel_rfl) rfl (List.forall_mem_cons.2 ⟨?_, nofun⟩)
    ·skip
     refine JO_a rfl noMk (a_alloc (l := [_, _, _, _, _, _]) Tryz.zeroValue44) (k := fun r569 hr569 => ?_)
     refine Z315 ?_
     refine JL_nil ?_
     exact JX_join1 r569 (Is.refl ()) se (List.Perm.refl _)
   ·skip
    refine JO_a rfl noMk (a_alloc (l := [_, _, _, _, _, _]) Tryz.zeroValue44) (k := fun r569 hr569 => ?_)
    refine JG_br [1] (by kernel_rfl) rfl (List.forall_mem_cons.2 ⟨?_, nofun⟩)
    ·skip
     refine Z394 ?_
     refine Z315 ?_
     refine JL_nil ?_
     exact JX_join1 r569 (Is.refl ()) se (List.Perm.refl _)
  intro r569 hJ28
  refine Z403 ?_
  refine J_seq ?_
  refine J_subL _ (sk (sa (sd (sk (sa (sk (sk (sk sz)))))))) ?_
  refine Z425 ?_
  refine Z94 ?_
  refine Z529 ?_
  refine JL_a noMk (a_alloc (l := [_, _, _, _, _, _]) Tryz.zeroValue44) (k := fun r609 hr609 => ?_)
  refine Z530 ?_
  refine Z237 ?_
  refine JL_q (q_neS (u := (Value.iface 120 (Value.agg [(vi err_1)].toArray))) (v := Value.nilIface) (b := true) (fun w => by kernel_rfl)) (k := ?_)
  refine Z45 ?_
  refine J_seq ?_
  refine J_planV _ _ (vp ((qa (qa (qc (qa (qc q0))))).trans (qa (qa (qa (qc (qa (qc q0))))))) (nC (nC nE))) mixed 4 [(true, 0), (true, 1), (false, 2), (false, 3)] (by kernel_rfl) ?_
  refine Z525 ?_
  refine JD_q (q_loadA Tryz.isAgg44 Tryz.sizeOf44) (k := ?_)
  refine Z233 ?_
  refine JD_nil ?_
  refine Z280 ?_
  refine Z510 ?_
  refine JX_ret Tryz.results17 (Res.agg Tryz.isAgg28 Tryz.sizeOf28 rfl me rfl (Res.agg Tryz.isAgg44 Tryz.sizeOf44 rfl me rfl Res.nil)) (fun w1 hw1 => ?_)
  exact ⟨a1_1, c1_1, a2_1, c2_1, a3_1, c3_1, a4_1, c4_1, t4_1, B_1, (by rw [((((((((hF.f hq1).neg hq2).neg hq3).neg hq4).f hq5).rn14 hJ14).pos rfl).rn0 hJ28).eq] <;> first | rfl | (simp only [List.length_set] <;> rfl)), (fresh_segs (L := B_1) (hw1.perm (qb (qb (qb (qb (qd (qb q0))))))) rfl.symm), (by rw [((((((((hF.f hq1).neg hq2).neg hq3).neg hq4).f hq5).rn14 hJ14).pos rfl).rn0 hJ28).eq]; exact (hs1_1.mono (by intro p hp; repeat (first | exact hp | exact List.mem_append_left _ hp | apply List.mem_append_right | apply List.mem_cons_of_mem)))), (by rw [((((((((hF.f hq1).neg hq2).neg hq3).neg hq4).f hq5).rn14 hJ14).pos rfl).rn0 hJ28).eq]; exact (hs2_1.mono (by intro p hp; repeat (first | exact hp | exact List.mem_append_left _ hp | apply List.mem_append_right | apply List.mem_cons_of_mem)))), (by rw [((((((((hF.f hq1).neg hq2).neg hq3).neg hq4).f hq5).rn14 hJ14).pos rfl).rn0 hJ28).eq]; exact (hs3_1.mono (by intro p hp; repeat (first | exact hp | exact List.mem_append_left _ hp | apply List.mem_append_right | apply List.mem_cons_of_mem)))), (by rw [((((((((hF.f hq1).neg hq2).neg hq3).neg hq4).f hq5).rn14 hJ14).pos rfl).rn0 hJ28).eq]; exact ⟨(hs4_1.1.mono sh), hs4_1.2⟩), (by rw [((((((((hF.f hq1).neg hq2).neg hq3).neg hq4).f hq5).rn14 hJ14).pos rfl).rn0 hJ28).eq]; first | exact lb), (by rw [((((((((hF.f hq1).neg hq2).neg hq3).neg hq4).f hq5).rn14 hJ14).pos rfl).rn0 hJ28).eq]; first | exact lb), (by rw [((((((((hF.f hq1).neg hq2).neg hq3).neg hq4).f hq5).rn14 hJ14).pos rfl).rn0 hJ28).eq]; first | exact lb), (by rw [((((((((hF.f hq1).neg hq2).neg hq3).neg hq4).f hq5).rn14 hJ14).pos rfl).rn0 hJ28).eq]; first | exact lb)⟩
 refine JX_eqE (E2 := [(4, (Value.pointer (some ⟨r1, 0, none⟩))), (8, (Value.pointer (some ⟨r3, 0, none⟩))), (9, (Value.pointer (some ⟨r4, 0, none⟩))), (10, (Value.pointer (some ⟨r13, 0, none⟩))), (11, (Value.pointer (some ⟨r14, 0, none⟩))), (12, Value.nilIface)]) rfl ?_
 refine Z403 ?_
 refine J_subL _ (sa (sk (sk (sa (sk (sk (sd (sk sz)))))))) ?_
 refine J_join1 (σ1 := Nat) (fun r288 => ((r288, oc [(vi 0), (vi (r.seq + 1)), (vi x_2), (vi x_3), (vi x_6), (vi x_5)] 44) :: (x_7B ++ ((r14, oc [(vi x_2), (vi x_3), (vt x_4), (vi x_5), (vi x_6), (vs x_7a x_7.length x_7c), (vs x_8a x_8.length x_8c), (vi x_9)] 52) :: ((r13, oc [(vs x_10a x_10.length x_10c), (vs x_11a x_11.length x_11c), (vs x_12a x_12.length x_12c), (vs x_13a x_13.length x_13c), (vi (r.seq + 1))] 28) :: (B_1 ++ ((r4, oc [(vi 0), (vi 0), (vi 0), (vi 0), (vi 0), (vi 0)] 44) :: ((r3, oc [(vs none 0 0), (vs none 0 0), (vs none 0 0), (vs none 0 0), (vi 0)] 28) :: ((r1, oc [(vs a1_1 r.slots.gens.length c1_1), (vs a2_1 r.slots.used.length c2_1), (vs a3_1 r.slots.free.length c3_1), (vs a4_1 r.l.length c4_1), (vi (r.seq + 1))] 28) :: []))))))))) (fun r288 => [(4, (Value.pointer (some ⟨r1, 0, none⟩))), (8, (Value.pointer (some ⟨r3, 0, none⟩))), (9, (Value.pointer (some ⟨r4, 0, none⟩))), (10, (Value.pointer (some ⟨r13, 0, none⟩))), (12, Value.nilIface), (13, (Value.pointer (some ⟨r288, 0, none⟩)))]) (fun r288 => Is () ()) ?_ ?_
 ·skip
  refine J_any (V := []) mixed 12 (by kernel_rfl) ?_
  refine JG_q 0 rfl (by kernel_rfl) q_move (k := ?_)
  refine JG_q 2 rfl (by kernel_rfl) (q_fld FO_28_2) (k := ?_)
  refine JG_q 3 rfl (by kernel_rfl) (q_load Tryz.isAgg3) (k := ?_)
  refine JG_q 4 rfl (by kernel_rfl) (q_fld FO_52_0) (k := ?_)
  refine JG_q 5 rfl (by kernel_rfl) (q_loadA Tryz.isAgg42 Tryz.sizeOf42) (k := ?_)
  refine JG_q 6 rfl (by kernel_rfl) (q_fld FO_52_3) (k := ?_)
  refine JG_q 7 rfl (by kernel_rfl) (q_load Tryz.isAgg3) (k := ?_)
  refine JG_q 8 rfl (by kernel_rfl) (q_fld FO_52_2) (k := ?_)
  refine JG_q 9 rfl (by kernel_rfl) (q_load Tryz.isAgg3) (k := ?_)
  refine JG_br [1, 11] (by kernel_rfl) rfl (List.forall_mem_cons.2 ⟨?_, (List.forall_mem_cons.2 ⟨?_, nofun⟩)⟩)
  ·skip
   refine Z410 ?_
   refine JG_br [11] (by kernel_rfl) rfl (List.forall_mem_cons.2 ⟨?_, nofun⟩)
   ·skip
    refine JO_a rfl noMk (a_alloc (l := [_, _, _, _, _, _]) Tryz.zeroValue44) (k := fun r288 hr288 => ?_)
    refine Z315 ?_
    refine JL_nil ?_
    exact JX_join1 r288 (Is.refl ()) se (List.Perm.refl _)
  ·skip
   refine JO_a rfl noMk (a_alloc (l := [_, _, _, _, _, _]) Tryz.zeroValue44) (k := fun r288 hr288 => ?_)
   refine JG_br [1] (by kernel_rfl) rfl (List.forall_mem_cons.2 ⟨?_, nofun⟩)
   ·skip
    refine Z410 ?_
    refine Z315 ?_
    refine JL_nil ?_
    exact JX_join1 r288 (Is.refl ()) se (List.Perm.refl _)
 intro r288 hJ27
 refine Z403 ?_
 refine J_seq ?_
 refine J_subL _ (sk (sa (sd (sk (sa (sk (sk (sk sz)))))))) ?_
 refine Z425 ?_
 refine Z94 ?_
 refine Z529 ?_
 refine JL_a noMk (a_alloc (l := [_, _, _, _, _, _]) Tryz.zeroValue44) (k := fun r328 hr328 => ?_)
 refine Z530 ?_
 refine Z237 ?_
 refine Z362 ?_
 refine Z167 ?_
 refine J_subL _ (sd (sk (sa (sk (sa (sk (sk (sd sz)))))))) ?_
 refine J_planV _ _ (vp ((qa (qc (qa (qc q0)))).trans (qa (qa (qc (qa (qc q0)))))) (nC (nC nE))) mixed 4 [(true, 0), (true, 1), (false, 2), (false, 3)] (by kernel_rfl) ?_
 refine Z525 ?_
 refine JD_q (q_loadA Tryz.isAgg44 Tryz.sizeOf44) (k := ?_)
 refine Z233 ?_
 refine JD_nil ?_
 refine Z280 ?_
 refine JX_ret Tryz.results17 (Res.agg Tryz.isAgg28 Tryz.sizeOf28 rfl me rfl (Res.agg Tryz.isAgg44 Tryz.sizeOf44 rfl me rfl Res.nil)) (fun w1 hw1 => ?_)
 exact ⟨x_10a, x_10c, x_11a, x_11c, x_12a, x_12c, x_13a, x_13c, x_13t, (B_1 ++ x_7B), (by rw [((((((((hF.f hq1).neg hq2).neg hq3).neg hq4).f hq5).rn14 hJ14).neg Bool.false_ne_true).rn0 hJ27).eq] <;> first | rfl | (simp only [List.length_set] <;> rfl)), (fresh_segs (L := (B_1 ++ x_7B)) (hw1.perm ((qb (qb (qb q0))).trans (qd (qb (qb (qb (qb q0))))))) (nA rfl).symm), (by rw [((((((((hF.f hq1).neg hq2).neg hq3).neg hq4).f hq5).rn14 hJ14).neg Bool.false_ne_true).rn0 hJ27).eq]; exact (hx_10.mono (by intro p hp; repeat (first | exact hp | exact List.mem_append_left _ hp | apply List.mem_append_right | apply List.mem_cons_of_mem)))), (by rw [((((((((hF.f hq1).neg hq2).neg hq3).neg hq4).f hq5).rn14 hJ14).neg Bool.false_ne_true).rn0 hJ27).eq]; exact (hx_11.mono (by intro p hp; repeat (first | exact hp | exact List.mem_append_left _ hp | apply List.mem_append_right | apply List.mem_cons_of_mem)))), (by rw [((((((((hF.f hq1).neg hq2).neg hq3).neg hq4).f hq5).rn14 hJ14).neg Bool.false_ne_true).rn0 hJ27).eq]; exact (hx_12.mono (by intro p hp; repeat (first | exact hp | exact List.mem_append_left _ hp | apply List.mem_append_right | apply List.mem_cons_of_mem)))), (by rw [((((((((hF.f hq1).neg hq2).neg hq3).neg hq4).f hq5).rn14 hJ14).neg Bool.false_ne_true).rn0 hJ27).eq]; exact ⟨(hx_13.mono sh), hkx_13⟩), (by rw [((((((((hF.f hq1).neg hq2).neg hq3).neg hq4).f hq5).rn14 hJ14).neg Bool.false_ne_true).rn0 hJ27).eq]; first | exact lb), (by rw [((((((((hF.f hq1).neg hq2).neg hq3).neg hq4).f hq5).rn14 hJ14).neg Bool.false_ne_true).rn0 hJ27).eq]; first | exact lb), (by rw [((((((((hF.f hq1).neg hq2).neg hq3).neg hq4).f hq5).rn14 hJ14).neg Bool.false_ne_true).rn0 hJ27).eq]; first | exact lb), (by rw [((((((((hF.f hq1).neg hq2).neg hq3).neg hq4).f hq5).rn14 hJ14).neg Bool.false_ne_true).rn0 hJ27).eq]; first | exact lb)⟩

theorem gApply_ok (w : World) {r_slots_gens_a : Option Addr} {r_slots_gens_c : Nat} {r_slots_used_a : Option Addr} {r_slots_used_c : Nat} {r_slots_free_a : Option Addr} {r_slots_free_c : Nat} {r_l_a : Option Addr} {r_l_c : Nat} {r_l_t : List TA} {ea0 : Addr} {ea1 : Addr} {ea2 : Addr} {ea3 : Addr} {r : Registry} {role : Int} {c : Command} {now : Int} (h_r_slots_gens : Sl w eI 1 r_slots_gens_a r.slots.gens) (n_r_slots_gens : r.slots.gens.length ≤ 1000) (h_r_slots_used : Sl w eB 1 r_slots_used_a r.slots.used) (n_r_slots_used : r.slots.used.length ≤ 1000) (h_r_slots_free : Sl w eI 1 r_slots_free_a r.slots.free) (n_r_slots_free : r.slots.free.length ≤ 1000) (h_r_l : SlN w eTenant 8 DT r_l_a r.l r_l_t) (n_r_l : r.l.length ≤ 1000) (k_r_l : r.l.length ≤ r_l_c) (i_c_at_ : -9223372036854775808 ≤ c.at_ ∧ c.at_ ≤ 9223372036854775807) (hG : Gl w) (hE : Er w ea0 ea1 ea2 ea3) (hsm : Small r.l) : Calls Tryz.prog 17 (List.toArray [(Value.agg [(vs r_slots_gens_a r.slots.gens.length r_slots_gens_c), (vs r_slots_used_a r.slots.used.length r_slots_used_c), (vs r_slots_free_a r.slots.free.length r_slots_free_c), (vs r_l_a r.l.length r_l_c), (vi r.seq)].toArray), (vi role), (Value.agg [(vi c.verb), (vt c.name), (vi c.want), (vi c.at_), (Value.bool c.rule.allow), (vi c.rule.pfx.addr), (vi c.rule.pfx.bits), (vi c.rule.prt.lo), (vi c.rule.prt.hi), (vt c.key), (vi c.n), (vi c.m)].toArray), (vi now)]) w fun e w2 => ∃ a1 : Option Addr, ∃ c1 : Nat, ∃ a2 : Option Addr, ∃ c2 : Nat, ∃ a3 : Option Addr, ∃ c3 : Nat, ∃ a4 : Option Addr, ∃ c4 : Nat, ∃ t4 : List TA, ∃ B : Heap, e = .returned (Value.tuple [(Value.agg [(vs a1 ((gApply r role c now).1.slots.gens.length) c1), (vs a2 ((gApply r role c now).1.slots.used.length) c2), (vs a3 ((gApply r role c now).1.slots.free.length) c3), (vs a4 ((gApply r role c now).1.l.length) c4), (vi ((gApply r role c now).1.seq))].toArray), (Value.agg [(vi ((gApply r role c now).2.err)), (vi ((gApply r role c now).2.seq)), (vi ((gApply r role c now).2.handle.slot)), (vi ((gApply r role c now).2.handle.gen)), (vi ((gApply r role c now).2.version)), (vi ((gApply r role c now).2.state))].toArray)].toArray) ∧ Fresh w w2 B ∧ SlB B eI 1 a1 (gApply r role c now).1.slots.gens ∧ SlB B eB 1 a2 (gApply r role c now).1.slots.used ∧ SlB B eI 1 a3 (gApply r role c now).1.slots.free ∧ (SlNB B eTenant 8 DT a4 (gApply r role c now).1.l t4 ∧ (gApply r role c now).1.l.length ≤ c4) ∧ (gApply r role c now).1.slots.gens.length ≤ 1000 ∧ (gApply r role c now).1.slots.used.length ≤ 1000 ∧ (gApply r role c now).1.slots.free.length ≤ 1000 ∧ (gApply r role c now).1.l.length ≤ 1000 := by
 have h := gApplyJ_ok w (r_slots_gens_a := r_slots_gens_a) (r_slots_gens_c := r_slots_gens_c) (r_slots_used_a := r_slots_used_a) (r_slots_used_c := r_slots_used_c) (r_slots_free_a := r_slots_free_a) (r_slots_free_c := r_slots_free_c) (r_l_a := r_l_a) (r_l_c := r_l_c) (r_l_t := r_l_t) (ea0 := ea0) (ea1 := ea1) (ea2 := ea2) (ea3 := ea3) (r := r) (role := role) (c := c) (now := now) h_r_slots_gens n_r_slots_gens h_r_slots_used n_r_slots_used h_r_slots_free n_r_slots_free h_r_l n_r_l k_r_l i_c_at_ hG hE hsm
 simp only [gApplyJ_eq] at h
 exact h

end Go.Proofs.YtopjaeoklkpcpaaGreatDoor.Jd

namespace Go.Proofs.YtopjaeoklkpcpaaGreatDoor.Jd
open Go.Proofs
open Go.RowKit (Below)
set_option maxRecDepth 100000
set_option maxHeartbeats 8000000
set_option linter.unusedVariables false
set_option linter.unusedSimpArgs false
theorem gShown_ok (w : World) {ea0 : Addr} {ea1 : Addr} {ea2 : Addr} {ea3 : Addr} (hG : Gl w) (hE : Er w ea0 ea1 ea2 ea3) : Val Tryz.prog 14 [] w (Value.bool gShown) := by
 have hF := Is.refl gShown
 refine enter Tryz.func14 Tryz.ntmps14 (h := ?_)
 refine Z195 ?_
 refine JL_p (c_callA Tryz.call29) (fun w1 hw1 => gNew_ok w1 (n_ := 2)) (k := ?_)
 rintro w1_1 e1_1 w2_1 hw1_1 ⟨a1_1, c1_1, a2_1, c2_1, a3_1, c3_1, a4_1, c4_1, t4_1, B_1, he_1, hf_1, hs1_1, hs2_1, hs3_1, hs4_1, hl1_1, hl2_1, hl3_1, hl4_1⟩
 refine ⟨_, _, he_1, hw1_1.fresh hf_1, ?_⟩
 refine Z37 ?_
 refine JL_a noMk (a_alloc (l := [_, _, _, _, _]) Tryz.zeroValue28) (k := fun r1 hr1 => ?_)
 refine Z521 ?_
 refine Z104 ?_
 refine Z190 ?_
 refine J_dec rfl (fun hq1 => ?_) (fun hq1 => ?_)
 ·refine J_seq ?_
  refine Z270 ?_
  refine JX_ret Tryz.results14 (Res.tmp rfl Res.nil) (fun w1 hw1 => ?_)
  exact ⟨(by rw [(hF.pos hq1).eq] <;> first | rfl | (simp only [List.length_set] <;> rfl)), hw1.ext_out⟩
 refine Z14 ?_
 refine Z21 ?_
 refine Z531 ?_
 refine JL_p (c_callA Tryz.call17) (fun w1 hw1 => gApply_ok w1 (r := ((gNew 2).1)) (role := 3) (c := (Command.mk 1 ([97, 99, 109, 101] : Str) 0 0 (Rule.mk false (Prefix.mk 0 0) (PortsT.mk 0 0)) ([107] : Str) 100 0)) (now := 0) (h_r_slots_gens := (SlB.slj hs1_1) w1 hw1) (n_r_slots_gens := by first | exact lb | decide) (h_r_slots_used := (SlB.slj hs2_1) w1 hw1) (n_r_slots_used := by first | exact lb | decide) (h_r_slots_free := (SlB.slj hs3_1) w1 hw1) (n_r_slots_free := by first | exact lb | decide) (h_r_l := (SlNB.j hs4_1.1 sh).2 w1 hw1) (n_r_l := by first | exact lb | decide) (k_r_l := hs4_1.2) (i_c_at_ := by first | exact i_c_at_ | (simp; done) | (exact ⟨by decide, by decide⟩) | omega) (hG := hG.ext hw1.ext_out) (hE := hE.ext hw1.ext_out) (hsm := by first | assumption | exact Small.nil)) (k := ?_)
 rintro w1_2 e1_2 w2_2 hw1_2 ⟨a1_2, c1_2, a2_2, c2_2, a3_2, c3_2, a4_2, c4_2, t4_2, B_2, he_2, hf_2, hs1_2, hs2_2, hs3_2, hs4_2, hl1_2, hl2_2, hl3_2, hl4_2⟩
 refine ⟨_, _, he_2, hw1_2.fresh hf_2, ?_⟩
 have hap_6123 := gApply_small 3 (Command.mk 1 ([97, 99, 109, 101] : Str) 0 0 (Rule.mk false (Prefix.mk 0 0) (PortsT.mk 0 0)) ([107] : Str) 100 0) 0 (by first | assumption | exact Small.nil : Small ((gNew 2).1.l))
 refine Z37 ?_
 refine JL_a noMk (a_alloc (l := [_, _, _, _, _, _]) Tryz.zeroValue44) (k := fun r2 hr2 => ?_)
 refine Z261 ?_
 refine J_subL _ (sk (sa (sk (sx sz)))) ?_
 refine Z395 ?_
 refine JL_p (c_callA Tryz.call17) (fun w1 hw1 => gApply_ok w1 (r := ((gApply ((gNew 2).1) 3 (Command.mk 1 ([97, 99, 109, 101] : Str) 0 0 (Rule.mk false (Prefix.mk 0 0) (PortsT.mk 0 0)) ([107] : Str) 100 0) 0).1)) (role := 2) (c := (Command.mk 2 ([97, 99, 109, 101] : Str) 0 0 (Rule.mk false (Prefix.mk 0 0) (PortsT.mk 0 0)) ([] : Str) 0 0)) (now := 1) (h_r_slots_gens := (SlB.slj hs1_2) w1 hw1) (n_r_slots_gens := by first | exact lb | decide) (h_r_slots_used := (SlB.slj hs2_2) w1 hw1) (n_r_slots_used := by first | exact lb | decide) (h_r_slots_free := (SlB.slj hs3_2) w1 hw1) (n_r_slots_free := by first | exact lb | decide) (h_r_l := (SlNB.j hs4_2.1 sh).2 w1 hw1) (n_r_l := by first | exact lb | decide) (k_r_l := hs4_2.2) (i_c_at_ := by first | exact i_c_at_ | (simp; done) | (exact ⟨by decide, by decide⟩) | omega) (hG := hG.ext hw1.ext_out) (hE := hE.ext hw1.ext_out) (hsm := by first | assumption | exact Small.nil)) (k := ?_)
 rintro w1_3 e1_3 w2_3 hw1_3 ⟨a1_3, c1_3, a2_3, c2_3, a3_3, c3_3, a4_3, c4_3, t4_3, B_3, he_3, hf_3, hs1_3, hs2_3, hs3_3, hs4_3, hl1_3, hl2_3, hl3_3, hl4_3⟩
 refine ⟨_, _, he_3, hw1_3.fresh hf_3, ?_⟩
 have hap_40254 := gApply_small 2 (Command.mk 2 ([97, 99, 109, 101] : Str) 0 0 (Rule.mk false (Prefix.mk 0 0) (PortsT.mk 0 0)) ([] : Str) 0 0) 1 (by first | assumption | exact Small.nil : Small ((gApply ((gNew 2).1) 3 (Command.mk 1 ([97, 99, 109, 101] : Str) 0 0 (Rule.mk false (Prefix.mk 0 0) (PortsT.mk 0 0)) ([107] : Str) 100 0) 0).1.l))
 refine Z37 ?_
 refine JL_a noMk (a_alloc (l := [_, _, _, _, _, _]) Tryz.zeroValue44) (k := fun r3 hr3 => ?_)
 refine Z261 ?_
 refine J_subL _ (sk (sa (sk (sx (sk sz))))) ?_
 refine Z395 ?_
 refine JL_p (c_callA Tryz.call17) (fun w1 hw1 => gApply_ok w1 (r := ((gApply ((gApply ((gNew 2).1) 3 (Command.mk 1 ([97, 99, 109, 101] : Str) 0 0 (Rule.mk false (Prefix.mk 0 0) (PortsT.mk 0 0)) ([107] : Str) 100 0) 0).1) 2 (Command.mk 2 ([97, 99, 109, 101] : Str) 0 0 (Rule.mk false (Prefix.mk 0 0) (PortsT.mk 0 0)) ([] : Str) 0 0) 1).1)) (role := 2) (c := (Command.mk 2 ([97, 99, 109, 101] : Str) 0 0 (Rule.mk false (Prefix.mk 0 0) (PortsT.mk 0 0)) ([] : Str) 0 0)) (now := 2) (h_r_slots_gens := (SlB.slj hs1_3) w1 hw1) (n_r_slots_gens := by first | exact lb | decide) (h_r_slots_used := (SlB.slj hs2_3) w1 hw1) (n_r_slots_used := by first | exact lb | decide) (h_r_slots_free := (SlB.slj hs3_3) w1 hw1) (n_r_slots_free := by first | exact lb | decide) (h_r_l := (SlNB.j hs4_3.1 sh).2 w1 hw1) (n_r_l := by first | exact lb | decide) (k_r_l := hs4_3.2) (i_c_at_ := by first | exact i_c_at_ | (simp; done) | (exact ⟨by decide, by decide⟩) | omega) (hG := hG.ext hw1.ext_out) (hE := hE.ext hw1.ext_out) (hsm := by first | assumption | exact Small.nil)) (k := ?_)
 rintro w1_4 e1_4 w2_4 hw1_4 ⟨a1_4, c1_4, a2_4, c2_4, a3_4, c3_4, a4_4, c4_4, t4_4, B_4, he_4, hf_4, hs1_4, hs2_4, hs3_4, hs4_4, hl1_4, hl2_4, hl3_4, hl4_4⟩
 refine ⟨_, _, he_4, hw1_4.fresh hf_4, ?_⟩
 have hap_24697 := gApply_small 2 (Command.mk 2 ([97, 99, 109, 101] : Str) 0 0 (Rule.mk false (Prefix.mk 0 0) (PortsT.mk 0 0)) ([] : Str) 0 0) 2 (by first | assumption | exact Small.nil : Small ((gApply ((gApply ((gNew 2).1) 3 (Command.mk 1 ([97, 99, 109, 101] : Str) 0 0 (Rule.mk false (Prefix.mk 0 0) (PortsT.mk 0 0)) ([107] : Str) 100 0) 0).1) 2 (Command.mk 2 ([97, 99, 109, 101] : Str) 0 0 (Rule.mk false (Prefix.mk 0 0) (PortsT.mk 0 0)) ([] : Str) 0 0) 1).1.l))
 refine Z37 ?_
 refine JL_a noMk (a_alloc (l := [_, _, _, _, _, _]) Tryz.zeroValue44) (k := fun r4 hr4 => ?_)
 refine Z261 ?_
 refine J_subL _ (sk (sa (sk (sx (sk (sk sz)))))) ?_
 refine Z395 ?_
 refine JL_p (c_callA Tryz.call17) (fun w1 hw1 => gApply_ok w1 (r := ((gApply ((gApply ((gApply ((gNew 2).1) 3 (Command.mk 1 ([97, 99, 109, 101] : Str) 0 0 (Rule.mk false (Prefix.mk 0 0) (PortsT.mk 0 0)) ([107] : Str) 100 0) 0).1) 2 (Command.mk 2 ([97, 99, 109, 101] : Str) 0 0 (Rule.mk false (Prefix.mk 0 0) (PortsT.mk 0 0)) ([] : Str) 0 0) 1).1) 2 (Command.mk 2 ([97, 99, 109, 101] : Str) 0 0 (Rule.mk false (Prefix.mk 0 0) (PortsT.mk 0 0)) ([] : Str) 0 0) 2).1)) (role := 1) (c := (Command.mk 5 ([97, 99, 109, 101] : Str) 0 0 (Rule.mk false (Prefix.mk 0 0) (PortsT.mk 0 0)) ([] : Str) 0 0)) (now := 3) (h_r_slots_gens := (SlB.slj hs1_4) w1 hw1) (n_r_slots_gens := by first | exact lb | decide) (h_r_slots_used := (SlB.slj hs2_4) w1 hw1) (n_r_slots_used := by first | exact lb | decide) (h_r_slots_free := (SlB.slj hs3_4) w1 hw1) (n_r_slots_free := by first | exact lb | decide) (h_r_l := (SlNB.j hs4_4.1 sh).2 w1 hw1) (n_r_l := by first | exact lb | decide) (k_r_l := hs4_4.2) (i_c_at_ := by first | exact i_c_at_ | (simp; done) | (exact ⟨by decide, by decide⟩) | omega) (hG := hG.ext hw1.ext_out) (hE := hE.ext hw1.ext_out) (hsm := by first | assumption | exact Small.nil)) (k := ?_)
 rintro w1_5 e1_5 w2_5 hw1_5 ⟨a1_5, c1_5, a2_5, c2_5, a3_5, c3_5, a4_5, c4_5, t4_5, B_5, he_5, hf_5, hs1_5, hs2_5, hs3_5, hs4_5, hl1_5, hl2_5, hl3_5, hl4_5⟩
 refine ⟨_, _, he_5, hw1_5.fresh hf_5, ?_⟩
 have hap_55123 := gApply_small 1 (Command.mk 5 ([97, 99, 109, 101] : Str) 0 0 (Rule.mk false (Prefix.mk 0 0) (PortsT.mk 0 0)) ([] : Str) 0 0) 3 (by first | assumption | exact Small.nil : Small ((gApply ((gApply ((gApply ((gNew 2).1) 3 (Command.mk 1 ([97, 99, 109, 101] : Str) 0 0 (Rule.mk false (Prefix.mk 0 0) (PortsT.mk 0 0)) ([107] : Str) 100 0) 0).1) 2 (Command.mk 2 ([97, 99, 109, 101] : Str) 0 0 (Rule.mk false (Prefix.mk 0 0) (PortsT.mk 0 0)) ([] : Str) 0 0) 1).1) 2 (Command.mk 2 ([97, 99, 109, 101] : Str) 0 0 (Rule.mk false (Prefix.mk 0 0) (PortsT.mk 0 0)) ([] : Str) 0 0) 2).1.l))
 refine Z37 ?_
 refine JL_a noMk (a_alloc (l := [_, _, _, _, _, _]) Tryz.zeroValue44) (k := fun r5 hr5 => ?_)
 refine Z261 ?_
 refine J_subL _ (sk (sa (sk (sx (sk (sk (sk sz))))))) ?_
 refine Z50 ?_
 refine JL_p (c_callA Tryz.call20) (fun w1 hw1 => gFind_ok w1 (r := ((gApply ((gApply ((gApply ((gApply ((gNew 2).1) 3 (Command.mk 1 ([97, 99, 109, 101] : Str) 0 0 (Rule.mk false (Prefix.mk 0 0) (PortsT.mk 0 0)) ([107] : Str) 100 0) 0).1) 2 (Command.mk 2 ([97, 99, 109, 101] : Str) 0 0 (Rule.mk false (Prefix.mk 0 0) (PortsT.mk 0 0)) ([] : Str) 0 0) 1).1) 2 (Command.mk 2 ([97, 99, 109, 101] : Str) 0 0 (Rule.mk false (Prefix.mk 0 0) (PortsT.mk 0 0)) ([] : Str) 0 0) 2).1) 1 (Command.mk 5 ([97, 99, 109, 101] : Str) 0 0 (Rule.mk false (Prefix.mk 0 0) (PortsT.mk 0 0)) ([] : Str) 0 0) 3).1)) (name := ([97, 99, 109, 101] : Str)) (h_r_slots_gens := (SlB.slj hs1_5) w1 hw1) (n_r_slots_gens := by first | exact lb | decide) (h_r_slots_used := (SlB.slj hs2_5) w1 hw1) (n_r_slots_used := by first | exact lb | decide) (h_r_slots_free := (SlB.slj hs3_5) w1 hw1) (n_r_slots_free := by first | exact lb | decide) (h_r_l := (SlNB.j hs4_5.1 sh).2 w1 hw1) (n_r_l := by first | exact lb | decide) (k_r_l := hs4_5.2) (hsm := by first | assumption | exact Small.nil)) (k := ?_)
 rintro w1_6 e1_6 w2_6 hw1_6 ⟨a1_6, c1_6, a2_6, c2_6, B1_6, B2_6, he_6, hf_6, ho1_6, ho2_6, hl1_6, hl2_6⟩
 refine ⟨_, _, he_6, (hw1_6.fresh hf_6).perm (eqp (nA rfl)), ?_⟩
 refine Z37 ?_
 refine JL_a noMk (a_alloc (l := [_, _, _, _, _, _, _, _]) Tryz.zeroValue52) (k := fun r6 hr6 => ?_)
 refine Z449 ?_
 refine JL_q (q_loadA Tryz.isAgg44 Tryz.sizeOf44) (k := ?_)
 refine JL_q (q_build (cs := [_, _]) Tryz.zeroValue42 PL_42) (k := ?_)
 refine Z529 ?_
 refine JL_q (q_eqS (EQ_44 _ _ _ _ _ _ _ _ _ _ _ _ _ _)) (k := ?_)
 refine Z481 ?_
 refine JL_dec 48 rfl (fun hq2 => ?_) (fun hq2 => ?_)
 rotate_left
 ·refine JL_skips 4 rfl ?_
  refine Z319 ?_
  refine Z356 ?_
  refine Z372 ?_
  refine Z26 ?_
  refine JX_ret Tryz.results14 (Res.tmp rfl Res.nil) (fun w1 hw1 => ?_)
  exact ⟨(by rw [((hF.neg hq1).neg hq2).eq] <;> first | rfl | (simp only [List.length_set] <;> rfl)), hw1.ext_out⟩
 refine Z532 ?_
 refine Z490 ?_
 refine Z432 ?_
 refine JL_dec 54 rfl (fun hq3 => ?_) (fun hq3 => ?_)
 rotate_left
 ·refine JL_skips 3 rfl ?_
  refine Z58 ?_
  refine Z356 ?_
  refine Z372 ?_
  refine Z26 ?_
  refine JX_ret Tryz.results14 (Res.tmp rfl Res.nil) (fun w1 hw1 => ?_)
  exact ⟨(by rw [(((hF.neg hq1).pos hq2).neg hq3).eq] <;> first | rfl | (simp only [List.length_set] <;> rfl)), hw1.ext_out⟩
 refine Z532 ?_
 refine Z432 ?_
 refine JL_dec 59 rfl (fun hq4 => ?_) (fun hq4 => ?_)
 rotate_left
 ·refine JL_skips 3 rfl ?_
  refine Z356 ?_
  refine Z372 ?_
  refine Z26 ?_
  refine JX_ret Tryz.results14 (Res.tmp rfl Res.nil) (fun w1 hw1 => ?_)
  exact ⟨(by rw [((((hF.neg hq1).pos hq2).pos hq3).neg hq4).eq] <;> first | rfl | (simp only [List.length_set] <;> rfl)), hw1.ext_out⟩
 refine Z532 ?_
 refine Z432 ?_
 refine JL_dec 64 rfl (fun hq5 => ?_) (fun hq5 => ?_)
 rotate_left
 ·refine JL_skip (k := ?_)
  refine Z58 ?_
  refine Z372 ?_
  refine Z26 ?_
  refine JX_ret Tryz.results14 (Res.tmp rfl Res.nil) (fun w1 hw1 => ?_)
  exact ⟨(by rw [(((((hF.neg hq1).pos hq2).pos hq3).pos hq4).neg hq5).eq] <;> first | rfl | (simp only [List.length_set] <;> rfl)), hw1.ext_out⟩
 refine Z489 ?_
 refine Z18 ?_
 refine JL_bool 67 rfl (fun hq6 => ?_) (fun hq6 => ?_)
 rotate_left
 ·refine JL_skips 3 rfl ?_
  refine Z372 ?_
  refine Z26 ?_
  refine JX_ret Tryz.results14 (Res.tmp rfl Res.nil) (fun w1 hw1 => ?_)
  exact ⟨(by rw [((((((hF.neg hq1).pos hq2).pos hq3).pos hq4).pos hq5).f hq6).eq] <;> first | rfl | (simp only [List.length_set] <;> rfl)), hw1.ext_out⟩
 refine JL_qg (q_fld FO_52_3) (k := ?_)
 refine Z80 ?_
 refine Z18 ?_
 refine JL_dec 72 rfl (fun hq7 => ?_) (fun hq7 => ?_)
 rotate_left
 ·refine JL_skips 2 rfl ?_
  refine Z26 ?_
  refine JX_ret Tryz.results14 (Res.tmp rfl Res.nil) (fun w1 hw1 => ?_)
  exact ⟨(by rw [(((((((hF.neg hq1).pos hq2).pos hq3).pos hq4).pos hq5).t hq6).neg hq7).eq] <;> first | rfl | (simp only [List.length_set] <;> rfl)), hw1.ext_out⟩
 refine Z533 ?_
 refine JL_vg (c_callA Tryz.call23) (fun w1 hw1 => gRight_ok w1 (r := ((gApply ((gApply ((gApply ((gApply ((gNew 2).1) 3 (Command.mk 1 ([97, 99, 109, 101] : Str) 0 0 (Rule.mk false (Prefix.mk 0 0) (PortsT.mk 0 0)) ([107] : Str) 100 0) 0).1) 2 (Command.mk 2 ([97, 99, 109, 101] : Str) 0 0 (Rule.mk false (Prefix.mk 0 0) (PortsT.mk 0 0)) ([] : Str) 0 0) 1).1) 2 (Command.mk 2 ([97, 99, 109, 101] : Str) 0 0 (Rule.mk false (Prefix.mk 0 0) (PortsT.mk 0 0)) ([] : Str) 0 0) 2).1) 1 (Command.mk 5 ([97, 99, 109, 101] : Str) 0 0 (Rule.mk false (Prefix.mk 0 0) (PortsT.mk 0 0)) ([] : Str) 0 0) 3).1)) (h_r_slots_gens := (SlB.slj hs1_5) w1 hw1) (n_r_slots_gens := by first | exact lb | decide) (h_r_slots_used := (SlB.slj hs2_5) w1 hw1) (n_r_slots_used := by first | exact lb | decide) (h_r_slots_free := (SlB.slj hs3_5) w1 hw1) (n_r_slots_free := by first | exact lb | decide) (h_r_l := (SlNB.j hs4_5.1 sh).2 w1 hw1) (n_r_l := by first | exact lb | decide) (k_r_l := hs4_5.2) (hsm := by first | assumption | exact Small.nil)) (k := ?_)
 refine Z79 ?_
 refine JX_ret Tryz.results14 (Res.tmp rfl Res.nil) (fun w1 hw1 => ?_)
 exact ⟨(by rw [(((((((hF.neg hq1).pos hq2).pos hq3).pos hq4).pos hq5).t hq6).pos hq7).eq] <;> first | rfl | (simp only [List.length_set] <;> rfl)), hw1.ext_out⟩

end Go.Proofs.YtopjaeoklkpcpaaGreatDoor.Jd

namespace Go.Proofs.YtopjaeoklkpcpaaGreatDoor.Jd
open Go.Proofs
open Go.RowKit (Below)
set_option maxRecDepth 100000
set_option maxHeartbeats 8000000
set_option linter.unusedVariables false
set_option linter.unusedSimpArgs false
theorem FO_44_2 : FieldOff Tryz.prog 44 2 2 := fun r k w => by simp [Instr.fieldAt, Instr.sureAddr, fieldPlace, addr_add]
theorem FO_44_3 : FieldOff Tryz.prog 44 3 4 := fun r k w => by simp [Instr.fieldAt, Instr.sureAddr, fieldPlace, addr_add]
end Go.Proofs.YtopjaeoklkpcpaaGreatDoor.Jd

namespace Go.Proofs.YtopjaeoklkpcpaaGreatDoor.Jd
set_option maxRecDepth 100000
set_option linter.unusedVariables false
set_option linter.unusedSimpArgs false
theorem gShown_true : gShown = true := by kernel_rfl
end Go.Proofs.YtopjaeoklkpcpaaGreatDoor.Jd

namespace Go.Proofs.YtopjaeoklkpcpaaGreatDoor.Jd
set_option linter.unusedVariables false
set_option linter.unusedSimpArgs false
section
variable {r : Registry} {role : Int} {c : Command} {now : Int}
theorem apply_at (hf : Fit r now) (hm : roMay role c.verb = true) (v1 : c.verb ≠ 1) (v9 : c.verb ≠ 9) {i : Nat} (hi : i < r.l.length) (hn : (r.l.getD i default).name = c.name) (hw : c.want = 0 ∨ c.want = (r.l.getD i default).version) : gApply r role c now = changeD r c now (i : Int) (r.l.getD i default) := by
  rw [gApply_do (fit_iff.1 hf) hm]
  unfold doD
  rw [if_neg v1, if_neg v9, ← hn, place_at hf.right.names hi, if_pos rfl]
  simp only [Int.toNat_natCast]
  rw [if_neg fun h => hw.elim h.1 h.2]
end
theorem may3 {v : Int} (h : 1 ≤ v ∧ v ≤ 10) : roMay 3 v = true := by
  rw [roMay_iff, roVerbs_3]
  simp; omega
theorem may2 {v : Int} (h : v = 2 ∨ v = 3 ∨ v = 4) : roMay 2 v = true := by
  rw [roMay_iff, roVerbs_2]
  simp; omega
theorem getD_set' {l : List Tenant} {i : Nat} (hi : i < l.length) (u : Tenant) : (l.set i u).getD i default = u := by simp [List.getD, hi]
end Go.Proofs.YtopjaeoklkpcpaaGreatDoor.Jd

namespace Go.Proofs.YtopjaeoklkpcpaaGreatDoor.Jd
set_option maxRecDepth 100000
set_option linter.unusedVariables false
set_option linter.unusedSimpArgs false
section
variable {r : Registry} {role : Int} {c : Command} {now : Int} {x : Registry × Reply}
theorem Out.putOf (h : Out r role c now x) (he : x.2.err = 0) (hv : c.verb = 2 ∨ c.verb = 3 ∨ c.verb = 4 ∨ c.verb = 6 ∨ c.verb = 7) : ∃ i, Fit r now ∧ i < r.l.length ∧ (r.l.getD i default).name = c.name ∧ (chg (r.l.getD i default) c now).2 = 0 ∧ RightR ⟨r.slots, r.l.set i (chg (r.l.getD i default) c now).1, r.seq + 1⟩ ∧ x = (Registry.mk r.slots (r.l.set i (chg (r.l.getD i default) c now).1) (r.seq + 1), Reply.mk 0 (r.seq + 1) (r.l.getD i default).handle ((r.l.getD i default).version + 1) (chg (r.l.getD i default) c now).1.state) := by
  cases h with
  | none h => cases he
  | fail h e h0 h1 => exact absurd he h0
  | new h hm hv2 hn hf h1 h2 => omega
  | list h hm hv2 => omega
  | del h hm hv2 i hi hn hw => omega
  | look h hm hv2 i hi hn hw => omega
  | put h hm hv2 i hi hn hw hc hs => exact ⟨i, h, hi, hn, hc, hs, rfl⟩
theorem Out.newOf (h : Out r role c now x) (he : x.2.err = 0) (hv : c.verb = 1) : Fit r now ∧ gIsName c.name = true ∧ (∀ t ∈ r.l, t.name ≠ c.name) ∧ (sTake r.slots).2.2 = 0 ∧ (cRot [] c.key now 0 c.n).2.2 = 0 ∧ x = (Registry.mk (sTake r.slots).1 (putX r.l (newT r c now)) (r.seq + 1), Reply.mk 0 (r.seq + 1) (sTake r.slots).2.1 1 1) := by
  cases h with
  | none h => cases he
  | fail h e h0 h1 => exact absurd he h0
  | new h hm hv2 hn hf h1 h2 => exact ⟨h, hn, hf, h1, h2, rfl⟩
  | list h hm hv2 => omega
  | del h hm hv2 i hi hn hw => omega
  | look h hm hv2 i hi hn hw => omega
  | put h hm hv2 i hi hn hw hc hs => omega
end
theorem find_set {r s : Registry} {i : Nat} {u : Tenant} (hs : RightR s) (hi : i < r.l.length) (e : s.l = r.l.set i u) : gFind s u.name = (u, true) :=
  find_some hs.names (by rw [e]; exact mem_set_self hi u)
end Go.Proofs.YtopjaeoklkpcpaaGreatDoor.Jd

