/- Part of the proofs of this seat: walks and plain facts. No condition. -/
import Derived.Test.YtopjaeoklkpcpaaGreatDoorP0
import Derived.Test.YtopjaeoklkpcpaaGreatDoorProg
import Derived.Test.YtopjaeoklkpcpaaGreatDoorP5
import Derived.Test.YtopjaeoklkpcpaaGreatDoorP3
import Derived.Test.YtopjaeoklkpcpaaGreatDoorP1
import Derived.Test.YtopjaeoklkpcpaaGreatDoorP2
import Derived.Test.YtopjaeoklkpcpaaGreatDoorP4
namespace Go.Proofs.YtopjaeoklkpcpaaGreatDoor.Jd
open Go.Proofs
open Go.RowKit (Below)
set_option maxRecDepth 100000
set_option maxHeartbeats 8000000
set_option linter.unusedVariables false
set_option linter.unusedSimpArgs false
def gTick_l0 (r : Registry) (now : Int) : Nat → Nat → List Tenant → Int → Nat × (List Tenant) × Int
  | 0, x_1, x_2, x_3 => (x_1, x_2, x_3)
  | n_4 + 1, x_1, x_2, x_3 => (if ((x_1 : Nat) : Int) < ((r.l.length : Nat) : Int) then (if ((r.l.getD x_1 default).state) ≠ 3 then (gTick_l0 r now n_4 (x_1 + 1) x_2 x_3) else (if now < ((r.l.getD x_1 default).deadline) then (gTick_l0 r now n_4 (x_1 + 1) x_2 x_3) else (if 1000000000000 ≤ x_3 then (gTick_l0 r now n_4 (x_1 + 1) x_2 x_3) else (if ¬ (((r.l.getD x_1 default).state) ≠ 2) then (gTick_l0 r now n_4 (x_1 + 1) x_2 x_3) else (gTick_l0 r now n_4 (x_1 + 1) (putX x_2 (Tenant.mk ((r.l.getD x_1 default).handle) ((r.l.getD x_1 default).name) 2 (((r.l.getD x_1 default).version) + 1) ((r.l.getD x_1 default).rules) ((r.l.getD x_1 default).creds) 0)) (x_3 + 1)))))) else (x_1, x_2, x_3))
def gTick (r : Registry) (now : Int) : Registry := (if (!(gRight r)) = true then r else (run3 (gTick_l0 r now (r.l.length + 1) 0 r.l r.seq) (fun x_1 x_2 x_3 => (Registry.mk r.slots x_2 x_3))))
end Go.Proofs.YtopjaeoklkpcpaaGreatDoor.Jd

namespace Go.Proofs.YtopjaeoklkpcpaaGreatDoor.Jd
set_option linter.unusedVariables false
set_option linter.unusedSimpArgs false
theorem gTick_l0_small (r : Registry) (now : Int) (hr : Small r.l) : ∀ n i l q, Small l → Small (gTick_l0 r now n i l q).2.1
  | 0, i, l, q, h => h
  | n + 1, i, l, q, h => by
    unfold gTick_l0
    repeat' split
    all_goals first
      | exact gTick_l0_small r now hr n (i + 1) _ _ h
      | exact gTick_l0_small r now hr n (i + 1) _ _ (h.put (hr.at i))
      | exact h
theorem gTick_small {r : Registry} (now : Int) (h : Small r.l) : Small (gTick r now).l := by
  unfold gTick
  split
  · exact h
  · have := gTick_l0_small r now h (r.l.length + 1) 0 r.l r.seq h
    generalize gTick_l0 r now (r.l.length + 1) 0 r.l r.seq = x at this
    obtain ⟨x1, x2, x3⟩ := x
    exact this
end Go.Proofs.YtopjaeoklkpcpaaGreatDoor.Jd

namespace Go.Proofs.YtopjaeoklkpcpaaGreatDoor.Jd
open Go.Proofs
open Go.RowKit (Below)
set_option maxRecDepth 100000
set_option maxHeartbeats 8000000
set_option linter.unusedVariables false
set_option linter.unusedSimpArgs false

theorem gTick_ok (w : World) {r_slots_gens_a : Option Addr} {r_slots_gens_c : Nat} {r_slots_used_a : Option Addr} {r_slots_used_c : Nat} {r_slots_free_a : Option Addr} {r_slots_free_c : Nat} {r_l_a : Option Addr} {r_l_c : Nat} {r_l_t : List TA} {r : Registry} {now : Int} (h_r_slots_gens : Sl w eI 1 r_slots_gens_a r.slots.gens) (n_r_slots_gens : r.slots.gens.length ≤ 1000) (h_r_slots_used : Sl w eB 1 r_slots_used_a r.slots.used) (n_r_slots_used : r.slots.used.length ≤ 1000) (h_r_slots_free : Sl w eI 1 r_slots_free_a r.slots.free) (n_r_slots_free : r.slots.free.length ≤ 1000) (h_r_l : SlN w eTenant 8 DT r_l_a r.l r_l_t) (n_r_l : r.l.length ≤ 1000) (k_r_l : r.l.length ≤ r_l_c) (hsm : Small r.l) : Calls Tryz.prog 22 (List.toArray [(Value.agg [(vs r_slots_gens_a r.slots.gens.length r_slots_gens_c), (vs r_slots_used_a r.slots.used.length r_slots_used_c), (vs r_slots_free_a r.slots.free.length r_slots_free_c), (vs r_l_a r.l.length r_l_c), (vi r.seq)].toArray), (vi now)]) w fun e w2 => ∃ a1 : Option Addr, ∃ c1 : Nat, ∃ a2 : Option Addr, ∃ c2 : Nat, ∃ a3 : Option Addr, ∃ c3 : Nat, ∃ a4 : Option Addr, ∃ c4 : Nat, ∃ t4 : List TA, ∃ B : Heap, e = .returned (Value.agg [(vs a1 ((gTick r now).slots.gens.length) c1), (vs a2 ((gTick r now).slots.used.length) c2), (vs a3 ((gTick r now).slots.free.length) c3), (vs a4 ((gTick r now).l.length) c4), (vi ((gTick r now).seq))].toArray) ∧ Fresh w w2 B ∧ SlB B eI 1 a1 (gTick r now).slots.gens ∧ SlB B eB 1 a2 (gTick r now).slots.used ∧ SlB B eI 1 a3 (gTick r now).slots.free ∧ (SlNB B eTenant 8 DT a4 (gTick r now).l t4 ∧ (gTick r now).l.length ≤ c4) ∧ (gTick r now).slots.gens.length ≤ 1000 ∧ (gTick r now).slots.used.length ≤ 1000 ∧ (gTick r now).slots.free.length ≤ 1000 ∧ (gTick r now).l.length ≤ 1000 := by
 have hF := Is.refl (gTick r now)
 refine enterD Tryz.func22 Tryz.ntmps22 (h := ?_)
 refine Z2 ?_
 refine JL_a noMk (a_box (l := [_, _, _, _, _])) (k := fun r1 hr1 => ?_)
 refine JL_a noMk (a_box (l := [_])) (k := fun r2 hr2 => ?_)
 refine JL_a noMk (a_alloc (l := [_, _, _, _, _]) Tryz.zeroValue28) (k := fun r3 hr3 => ?_)
 refine Z72 ?_
 refine Z127 ?_
 rintro w1_1 e1_1 w2_1 hw1_1 ⟨a1_1, c1_1, a2_1, c2_1, a3_1, c3_1, a4_1, c4_1, t4_1, B_1, he_1, hf_1, hs1_1, hs2_1, hs3_1, hs4_1, hl1_1, hl2_1, hl3_1, hl4_1⟩
 refine ⟨_, _, he_1, hw1_1.fresh hf_1, ?_⟩
 refine Z133 ?_
 refine Z21 ?_
 refine JL_v (c_callA Tryz.call23) (fun w1 hw1 => gRight_ok w1 (r := r) (h_r_slots_gens := (SlB.slj hs1_1) w1 hw1) (n_r_slots_gens := by first | omega | (simp; done) | exact (hsm _ (by omega)).1 | exact (hsm _ (by omega)).2) (h_r_slots_used := (SlB.slj hs2_1) w1 hw1) (n_r_slots_used := by first | omega | (simp; done) | exact (hsm _ (by omega)).1 | exact (hsm _ (by omega)).2) (h_r_slots_free := (SlB.slj hs3_1) w1 hw1) (n_r_slots_free := by first | omega | (simp; done) | exact (hsm _ (by omega)).1 | exact (hsm _ (by omega)).2) (h_r_l := (SlNB.j hs4_1.1 sh).2 w1 hw1) (n_r_l := by first | omega | (simp; done) | exact (hsm _ (by omega)).1 | exact (hsm _ (by omega)).2) (k_r_l := hs4_1.2) (hsm := by first | omega | (simp; done) | exact (hsm _ (by omega)).1 | exact (hsm _ (by omega)).2)) (k := ?_)
 refine Z189 ?_
 refine J_cond rfl (fun hq1 => ?_) (fun hq1 => ?_)
 ·refine J_seq ?_
  refine Z50 ?_
  refine Z143 ?_
  refine Z510 ?_
  refine JX_retD [] (List.Perm.refl _) Tryz.results22 (Res.agg Tryz.isAgg28 Tryz.sizeOf28 rfl me rfl Res.nil) (fun w1 hw1 => ?_)
  exact ⟨a1_1, c1_1, a2_1, c2_1, a3_1, c3_1, a4_1, c4_1, t4_1, B_1, (by rw [(hF.t hq1).eq] <;> first | rfl | (simp only [List.length_set] <;> rfl)), (fresh_segs (L := B_1) (hw1.perm (List.Perm.refl _)) rfl.symm), (by rw [(hF.t hq1).eq]; exact (hs1_1.mono (by intro p hp; repeat (first | exact hp | exact List.mem_append_left _ hp | apply List.mem_append_right | apply List.mem_cons_of_mem)))), (by rw [(hF.t hq1).eq]; exact (hs2_1.mono (by intro p hp; repeat (first | exact hp | exact List.mem_append_left _ hp | apply List.mem_append_right | apply List.mem_cons_of_mem)))), (by rw [(hF.t hq1).eq]; exact (hs3_1.mono (by intro p hp; repeat (first | exact hp | exact List.mem_append_left _ hp | apply List.mem_append_right | apply List.mem_cons_of_mem)))), (by rw [(hF.t hq1).eq]; exact ⟨(hs4_1.1.mono sh), hs4_1.2⟩), (by rw [(hF.t hq1).eq]; first | exact lb), (by rw [(hF.t hq1).eq]; first | exact lb), (by rw [(hF.t hq1).eq]; first | exact lb), (by rw [(hF.t hq1).eq]; first | exact lb)⟩
 have hfhq1 := gRight_t (by simpa using hq1)
 refine Z167 ?_
 refine Z284 ?_
 refine Z2 ?_
 refine JL_a noMk (a_box (l := [_, _, _, _, _])) (k := fun r4 hr4 => ?_)
 refine Z438 ?_
 refine Z357 ?_
 refine J_rangeI noMk rfl Tryz.call85 Tryz.func85 Tryz.ntmps85 (fun l5 rD5 rr5 hl5 => ?_)
 refine Z439 ?_
 refine Z324 ?_
 refine Z121 ?_
 refine J_loop8 (σ1 := Nat) (σ2 := Nat) (σ3 := List Tenant) (σ4 := List TA) (σ5 := Option Addr) (σ6 := Nat) (σ7 := Int) (σ8 := Heap) (fun n_4 x_1 x_2 x_2t x_2a x_2c x_3 x_2B => (x_2B ++ ((l5, loopAt rr5 .ready none) :: ((rD5, Obj.deferred (some [])) :: ((r4, oc [(vs a1_1 r.slots.gens.length c1_1), (vs a2_1 r.slots.used.length c2_1), (vs a3_1 r.slots.free.length c3_1), (vs a4_1 r.l.length c4_1), (vi r.seq)] 28) :: (B_1 ++ ((r3, oc [(vs none 0 0), (vs none 0 0), (vs none 0 0), (vs none 0 0), (vi 0)] 28) :: ((r2, oc [(vi now)] 3) :: ((r1, oc [(vs a1_1 r.slots.gens.length c1_1), (vs a2_1 r.slots.used.length c2_1), (vs a3_1 r.slots.free.length c3_1), (vs x_2a x_2.length x_2c), (vi x_3)] 28) :: []))))))))) (fun n_4 x_1 x_2 x_2t x_2a x_2c x_3 x_2B => [(0, (Value.func (.yield l5) [].toArray [].toArray)), (1, (Value.pointer (some ⟨r4, 0, none⟩))), (6, (vs a4_1 r.l.length c4_1)), (7, (vi ((r.l.length : Nat) : Int))), (8, (vi ((x_1 : Nat) : Int)))]) (fun n_4 x_1 x_2 x_2t x_2a x_2c x_3 x_2B => r.l.length - x_1 < n_4 ∧ Is (gTick_l0 r now (r.l.length + 1) 0 r.l r.seq) (gTick_l0 r now n_4 x_1 x_2 x_3) ∧ (SlNB (B_1 ++ x_2B) eTenant 8 DT x_2a x_2 x_2t ∧ x_2.length ≤ x_2c) ∧ x_1 ≤ r.l.length ∧ x_2.length ≤ r.l.length + x_1 ∧ (r.seq ≤ x_3 ∧ x_3 ≤ 1000000000000)) (fun n_4 x_1 x_2 x_2t x_2a x_2c x_3 x_2B => n_4) (r.l.length + 1) 0 r.l t4_1 a4_1 c4_1 r.seq ([]) ?_ se (List.Perm.of_eq (by first | rfl | simp only [List.append_assoc, List.cons_append, List.nil_append])) ?_
 ·exact ⟨Nat.lt_succ_self _, Is.refl _, ⟨(hs4_1.1.mono sh), hs4_1.2⟩, (by first | omega | rfl | (simp; done)), (by first | omega | rfl | (simp; done)), (by first | omega | rfl | (simp; done))⟩
 ·rintro (_ | n_4) x_1 x_2 x_2t x_2a x_2c x_3 x_2B ⟨hm6, hF5, ⟨hx_2, hkx_2⟩, hi7, hi8, hi9⟩
  ·omega
  refine Z38 ?_
  refine J_dec rfl (fun hq2 => ?_) (fun hq2 => ?_)
  rotate_left
  ·refine J_exit ?_
   refine Z191 ?_
   refine JX_it0 (.inr rfl) Tryz.results85 (qc q0) ?_
   refine Z17 ?_
   refine Z21 ?_
   refine Z143 ?_
   refine JX_retD [rD5] (qa (qc q0)) Tryz.results22 (Res.agg Tryz.isAgg28 Tryz.sizeOf28 rfl me rfl Res.nil) (fun w1 hw1 => ?_)
   exact ⟨a1_1, c1_1, a2_1, c2_1, a3_1, c3_1, x_2a, x_2c, x_2t, (B_1 ++ x_2B), (by rw [((hF.f hq1).rn3 (hF5.neg hq2)).eq] <;> first | rfl | (simp only [List.length_set] <;> rfl)), (fresh_segs (L := (B_1 ++ x_2B)) (hw1.perm ((qb q0).trans (qd (qb (qb q0))))) (nA rfl).symm), (by rw [((hF.f hq1).rn3 (hF5.neg hq2)).eq]; exact (hs1_1.mono (by intro p hp; repeat (first | exact hp | exact List.mem_append_left _ hp | apply List.mem_append_right | apply List.mem_cons_of_mem)))), (by rw [((hF.f hq1).rn3 (hF5.neg hq2)).eq]; exact (hs2_1.mono (by intro p hp; repeat (first | exact hp | exact List.mem_append_left _ hp | apply List.mem_append_right | apply List.mem_cons_of_mem)))), (by rw [((hF.f hq1).rn3 (hF5.neg hq2)).eq]; exact (hs3_1.mono (by intro p hp; repeat (first | exact hp | exact List.mem_append_left _ hp | apply List.mem_append_right | apply List.mem_cons_of_mem)))), (by rw [((hF.f hq1).rn3 (hF5.neg hq2)).eq]; exact ⟨(hx_2.mono sh), hkx_2⟩), (by rw [((hF.f hq1).rn3 (hF5.neg hq2)).eq]; first | exact lb), (by rw [((hF.f hq1).rn3 (hF5.neg hq2)).eq]; first | exact lb), (by rw [((hF.f hq1).rn3 (hF5.neg hq2)).eq]; first | exact lb), (by rw [((hF.f hq1).rn3 (hF5.neg hq2)).eq]; first | exact lb)⟩
  refine Z476 ?_
  refine JL_q (q_idx (n := r.l.length) Tryz.runUnderlying26 Tryz.sizeOf52 x_1 (SlNB.j hs4_1.1 sh).sl (zip_get hs4_1.1.1 (by first | exact ix)) (zip_len hs4_1.1.1)) (k := ?_)
  refine JL_q (q_loadEA Tryz.isAgg52 Tryz.sizeOf52 x_1 (SlNB.j hs4_1.1 sh).sl (zip_get hs4_1.1.1 (by first | exact ix))) (k := ?_)
  refine JL_a noMk (a_alloc (l := [_, _, _, _, _, _, _, _]) Tryz.zeroValue52) (k := fun r6 hr6 => ?_)
  refine Z429 ?_
  refine Z39 ?_
  refine Z343 ?_
  refine JL_yIn (vs := [(vi ((x_1 : Nat) : Int)), (Value.agg [(vi ((r.l.getD x_1 default).handle.slot)), (vi ((r.l.getD x_1 default).handle.gen)), (vt ((r.l.getD x_1 default).name)), (vi ((r.l.getD x_1 default).state)), (vi ((r.l.getD x_1 default).version)), (vs ((t4_1.getD x_1 default).ra) ((r.l.getD x_1 default).rules.length) ((t4_1.getD x_1 default).rc)), (vs ((t4_1.getD x_1 default).ca) ((r.l.getD x_1 default).creds.length) ((t4_1.getD x_1 default).cc)), (vi ((r.l.getD x_1 default).deadline)), (vi r.seq)].toArray)]) hl5 (qa (qc q0)) y_call ?_
  refine J_subL _ (sk (sd (sa (sk (sk (sa (sk (sk (sk sz))))))))) ?_
  refine Z486 ?_
  refine JL_a noMk (a_alloc (l := [_, _, _, _, _, _, _, _, _]) Tryz.zeroValue88) (k := fun r7 hr7 => ?_)
  refine Z266 ?_
  refine Z106 ?_
  refine Z2 ?_
  refine JL_q (q_loadA Tryz.isAgg88 Tryz.sizeOf88) (k := ?_)
  refine Z499 ?_
  refine JL_q (q_build (cs := [_, _, _, _, _, _, _, _, _, _, _, _, _, _, _, _, _, _, _, _, _, _]) Tryz.zeroValue97 PL_97) (k := ?_)
  refine JL_a noMk (a_box (l := [_, _, _, _, _, _, _, _, _, _, _, _, _, _, _, _, _, _, _, _, _, _])) (k := fun r8 hr8 => ?_)
  refine Z107 ?_
  refine JL_q q_func (k := ?_)
  refine Z427 ?_
  refine Z512 ?_
  refine Z267 ?_
  refine JL_q q_neq (k := ?_)
  refine Z481 ?_
  refine JL_dec 29 rfl (fun hq3 => ?_) (fun hq3 => ?_)
  ·refine JL_skips 5 rfl ?_
   refine Z241 ?_
   refine Z241 ?_
   refine Z114 ?_
   refine J_exit ?_
   refine Z354 ?_
   refine JX_roundI (qa q0) ?_
   refine Z326 ?_
   refine J_skip ?_
   refine Z366 ?_
   refine Z90 ?_
   exact JX_inv8 n_4 (x_1 + 1) x_2 x_2t x_2a x_2c x_3 x_2B ⟨by omega, ((hF5.pos hq2).pos hq3), ⟨(hx_2.mono sh), hkx_2⟩, (by omega), (by omega), (by omega)⟩ (Nat.lt_succ_self _) se (List.Perm.of_eq (by first | rfl | simp only [List.append_assoc, List.cons_append, List.nil_append]))
  refine Z513 ?_
  refine Z260 ?_
  refine Z500 ?_
  refine JL_qg q_gtr (k := ?_)
  refine Z5 ?_
  refine JL_dec 36 rfl (fun hq4 => ?_) (fun hq4 => ?_)
  ·refine JL_skips 3 rfl ?_
   refine Z241 ?_
   refine Z114 ?_
   refine J_exit ?_
   refine Z354 ?_
   refine JX_roundI (qa q0) ?_
   refine Z326 ?_
   refine J_skip ?_
   refine Z366 ?_
   refine Z90 ?_
   exact JX_inv8 n_4 (x_1 + 1) x_2 x_2t x_2a x_2c x_3 x_2B ⟨by omega, (((hF5.pos hq2).neg hq3).pos hq4), ⟨(hx_2.mono sh), hkx_2⟩, (by omega), (by omega), (by omega)⟩ (Nat.lt_succ_self _) se (List.Perm.of_eq (by first | rfl | simp only [List.append_assoc, List.cons_append, List.nil_append]))
  refine Z157 ?_
  refine JL_qg q_geq (k := ?_)
  refine Z5 ?_
  refine JL_dec 41 rfl (fun hq5 => ?_) (fun hq5 => ?_)
  ·refine JL_skips 3 rfl ?_
   refine Z114 ?_
   refine J_exit ?_
   refine Z354 ?_
   refine JX_roundI (qa q0) ?_
   refine Z326 ?_
   refine J_skip ?_
   refine Z366 ?_
   refine Z90 ?_
   exact JX_inv8 n_4 (x_1 + 1) x_2 x_2t x_2a x_2c x_3 x_2B ⟨by omega, ((((hF5.pos hq2).neg hq3).neg hq4).pos hq5), ⟨(hx_2.mono sh), hkx_2⟩, (by omega), (by omega), (by omega)⟩ (Nat.lt_succ_self _) se (List.Perm.of_eq (by first | rfl | simp only [List.append_assoc, List.cons_append, List.nil_append]))
  refine Z489 ?_
  refine JL_inlg (args := [_]) (c_callA Tryz.call50) Tryz.func50 Tryz.ntmps50 ?_
  refine Z2 ?_
  refine Z276 ?_
  refine Z156 ?_
  refine Z267 ?_
  refine JL_q q_neq (k := ?_)
  refine Z331 ?_
  refine Z257 ?_
  refine J_dec rfl (fun hq6 => ?_) (fun hq6 => ?_)
  ·refine J_seq ?_
   refine Z486 ?_
   refine Z461 ?_
   refine Z321 ?_
   refine JX_retI Tryz.results50 (Res.tmp rfl Res.nil) ?_
   refine JL_qg (q_neS (u := (Value.iface 120 (Value.agg [(vi 156)].toArray))) (v := Value.nilIface) (b := true) (fun w => by kernel_rfl)) (k := ?_)
   refine JL_q q_pickF (k := ?_)
   refine Z45 ?_
   refine J_exit ?_
   refine Z354 ?_
   refine JX_roundI (qa q0) ?_
   refine Z326 ?_
   refine J_skip ?_
   refine Z366 ?_
   refine Z90 ?_
   exact JX_inv8 n_4 (x_1 + 1) x_2 x_2t x_2a x_2c x_3 x_2B ⟨by omega, (((((hF5.pos hq2).neg hq3).neg hq4).neg hq5).pos hq6), ⟨(hx_2.mono sh), hkx_2⟩, (by omega), (by omega), (by omega)⟩ (Nat.lt_succ_self _) se (List.Perm.of_eq (by first | rfl | simp only [List.append_assoc, List.cons_append, List.nil_append]))
  refine Z428 ?_
  refine Z27 ?_
  refine Z156 ?_
  refine Z217 ?_
  refine Z156 ?_
  refine Z175 ?_
  refine Z0 ?_
  refine Z178 ?_
  refine Z321 ?_
  refine JX_retI Tryz.results50 (Res.tmp rfl Res.nil) ?_
  refine JL_qg (q_neS (u := Value.nilIface) (v := Value.nilIface) (b := false) (fun w => by kernel_rfl)) (k := ?_)
  refine Z98 ?_
  refine Z167 ?_
  refine J_subL _ (sk (sk (sd (sa (sk (sk (sa (sk (sk (sk sz)))))))))) ?_
  refine Z117 ?_
  refine Z156 ?_
  refine Z228 ?_
  have hver := gRight_ver (r := r) (by simpa using hq1) (i := x_1) (by omega)
  refine Z502 ?_
  refine Z156 ?_
  refine Z310 ?_
  refine Z72 ?_
  refine J_plan mixed 7 [(true, 0), (true, 1), (true, 2), (true, 3), (true, 4), (true, 5), (false, 6)] (by kernel_rfl) ?_
  refine Z525 ?_
  refine Z258 ?_
  refine Z413 ?_
  refine JD_p (c_callA Tryz.call51) (fun w1 hw1 => putN_ok w1 (xs := x_2) (ts := x_2t) (x := (Tenant.mk ((r.l.getD x_1 default).handle) ((r.l.getD x_1 default).name) 2 (((r.l.getD x_1 default).version) + 1) ((r.l.getD x_1 default).rules) ((r.l.getD x_1 default).creds) 0)) (v := (TA.mk ((t4_1.getD x_1 default).ra) ((t4_1.getD x_1 default).rc) ((t4_1.getD x_1 default).ca) ((t4_1.getD x_1 default).cc))) ((SlNB.j hx_2 sh).2 w1 hw1) (by first | exact lb) hkx_2) (k := ?_)
  rintro w1_2 e1_2 w2_2 hw1_2 ⟨a1_2, c1_2, B1_2, he_2, hf_2, ho1_2⟩
  refine ⟨_, _, _, he_2, hf_2, rfl, ?_⟩
  have hdp7 : DeepB (B_1 ++ (x_2B ++ [])) DT (putX x_2 (Tenant.mk ((r.l.getD x_1 default).handle) ((r.l.getD x_1 default).name) 2 (((r.l.getD x_1 default).version) + 1) ((r.l.getD x_1 default).rules) ((r.l.getD x_1 default).creds) 0)) (putT x_2 x_2t (Tenant.mk ((r.l.getD x_1 default).handle) ((r.l.getD x_1 default).name) 2 (((r.l.getD x_1 default).version) + 1) ((r.l.getD x_1 default).rules) ((r.l.getD x_1 default).creds) 0) (TA.mk ((t4_1.getD x_1 default).ra) ((t4_1.getD x_1 default).rc) ((t4_1.getD x_1 default).ca) ((t4_1.getD x_1 default).cc))) := DeepB.put ((DeepB.of hx_2).mono sh) (DeepB.one (B := (B_1 ++ (x_2B ++ []))) (D := DT) (fun w hw => ⟨(hs4_1.1.at (m := x_1) (by first | exact ix) w (shw hw)).1, (hs4_1.1.at (m := x_1) (by first | exact ix) w (shw hw)).2.1, (hs4_1.1.at (m := x_1) (by first | exact ix) w (shw hw)).2.2.1, (hs4_1.1.at (m := x_1) (by first | exact ix) w (shw hw)).2.2.2⟩))
  have hpx_2 := putX_length_le x_2 (Tenant.mk ((r.l.getD x_1 default).handle) ((r.l.getD x_1 default).name) 2 (((r.l.getD x_1 default).version) + 1) ((r.l.getD x_1 default).rules) ((r.l.getD x_1 default).creds) 0)
  refine JD_nil0 ?_
  refine Z133 ?_
  refine J_subL _ (sa (sd (sk (sa (sk (sk (sa (sk (sk (sk sz)))))))))) ?_
  refine Z486 ?_
  refine Z94 ?_
  refine Z502 ?_
  refine Z201 ?_
  refine JL_nil ?_
  refine JX_block ?_
  refine JX_roundI (qc q0) ?_
  refine Z326 ?_
  refine Z306 ?_
  refine JX_permL _ (((((((((qa (qc (qc (qa (qa (qc (qa (qa q0)))))))).trans (qa (qa (qc (qc (qa (qa (qc (qa q0))))))))).trans (qa (qa (qa (qc (qc (qa (qa (qc q0))))))))).trans (qb (qb (qb (qb (qd (qd (qb (qb q0))))))))).trans (qc (qa (qa (qa (qa (qc (qc (qa q0))))))))).trans (qa (qc (qa (qa (qa (qa (qc (qc q0))))))))).trans (qa (qa (qc (qa (qa (qa q0))))))).trans (qb (qb (qb (qd (qb (qb (qb (qd q0))))))))).trans (qd (qb (qb (qb (qd (qb (qb (qb q0))))))))) ?_
  exact JX_inv8 n_4 (x_1 + 1) (putX x_2 (Tenant.mk ((r.l.getD x_1 default).handle) ((r.l.getD x_1 default).name) 2 (((r.l.getD x_1 default).version) + 1) ((r.l.getD x_1 default).rules) ((r.l.getD x_1 default).creds) 0)) (putT x_2 x_2t (Tenant.mk ((r.l.getD x_1 default).handle) ((r.l.getD x_1 default).name) 2 (((r.l.getD x_1 default).version) + 1) ((r.l.getD x_1 default).rules) ((r.l.getD x_1 default).creds) 0) (TA.mk ((t4_1.getD x_1 default).ra) ((t4_1.getD x_1 default).rc) ((t4_1.getD x_1 default).ca) ((t4_1.getD x_1 default).cc))) a1_2 c1_2 (x_3 + 1) (B1_2 ++ x_2B) ⟨by omega, (((((hF5.pos hq2).neg hq3).neg hq4).neg hq5).neg hq6), ⟨((OwnB.nb (U := (B1_2 ++ (B_1 ++ (x_2B ++ [])))) eTenant_ok ho1_2 hdp7 (hB := sh) (hR := sh)).mono sh), (by have h0 := ho1_2.le'; rwa [zip_len hdp7.1] at h0)⟩, (by omega), (by omega), (by omega)⟩ (Nat.lt_succ_self _) se (List.Perm.of_eq (by first | rfl | simp only [List.append_assoc, List.cons_append, List.nil_append]))

end Go.Proofs.YtopjaeoklkpcpaaGreatDoor.Jd

namespace Go.Proofs.YtopjaeoklkpcpaaGreatDoor.Jd
set_option linter.unusedVariables false
set_option linter.unusedSimpArgs false
def tkT (t : Tenant) : Tenant := Tenant.mk t.handle t.name 2 (t.version + 1) t.rules t.creds 0
def tk (now : Int) : List Tenant → Int → List Tenant × Int
  | [], q => ([], q)
  | t :: r, q => if t.state = 3 ∧ t.deadline ≤ now ∧ q < 1000000000000 then (tkT t :: (tk now r (q + 1)).1, (tk now r (q + 1)).2) else (t :: (tk now r q).1, (tk now r q).2)
theorem putX_mid {t x : Tenant} {rest : List Tenant} (hx : t.handle.slot = x.handle.slot) : ∀ {pre : List Tenant}, (∀ u ∈ pre, u.handle.slot < t.handle.slot) → putX (pre ++ t :: rest) x = pre ++ x :: rest
  | [], h => by show (if _ then _ else _) = _; rw [if_neg (by omega), if_pos hx]; rfl
  | u :: pre, h => by
    have := h u List.mem_cons_self
    show (if _ then _ else _) = _
    rw [if_pos (by omega)]
    show u :: putX (pre ++ t :: rest) x = _
    rw [putX_mid hx fun v hv => h v (List.mem_cons_of_mem _ hv)]; rfl
theorem gTick_l0_eq {r : Registry} (hr : Up (r.l.map Tenant.handle)) (now : Int) : ∀ n i (pre : List Tenant) q, r.l.length < i + n → i ≤ r.l.length → pre.map Tenant.handle = (r.l.take i).map Tenant.handle → (gTick_l0 r now n i (pre ++ r.l.drop i) q).2 = (pre ++ (tk now (r.l.drop i) q).1, (tk now (r.l.drop i) q).2)
  | 0, i, pre, q, h1, h2, h3 => by omega
  | n + 1, i, pre, q, h1, h2, h3 => by
    unfold gTick_l0
    by_cases hi : i < r.l.length
    rotate_left
    · rw [if_neg (by omega), List.drop_eq_nil_of_le (by omega)]; rfl
    rw [if_pos (by omega), drop_cons' hi]
    have hlow : ∀ u ∈ pre, u.handle.slot < (r.l.getD i default).handle.slot := fun u hu => by
      have e : r.l.map Tenant.handle = (r.l.take i).map Tenant.handle ++ (r.l.drop i).map Tenant.handle := by rw [← List.map_append, List.take_append_drop]
      unfold Up at hr
      rw [e, List.pairwise_append] at hr
      refine hr.2.2 _ (h3 ▸ List.mem_map.2 ⟨u, hu, rfl⟩) _ (List.mem_map.2 ⟨_, ?_, rfl⟩)
      rw [drop_cons' hi]; exact List.mem_cons_self
    have hmap : ∀ x : Tenant, x.handle = (r.l.getD i default).handle → (pre ++ [x]).map Tenant.handle = (r.l.take (i + 1)).map Tenant.handle := fun x hx => by
      rw [List.map_append, h3, SlT.take_succ' hi, List.map_append]; simp [hx]
    have go : ∀ (x : Tenant) q', x.handle = (r.l.getD i default).handle → (gTick_l0 r now n (i + 1) (pre ++ x :: r.l.drop (i + 1)) q').2 = (pre ++ x :: (tk now (r.l.drop (i + 1)) q').1, (tk now (r.l.drop (i + 1)) q').2) := fun x q' hx => by
      have h := gTick_l0_eq hr now n (i + 1) (pre ++ [x]) q' (by omega) (by omega) (hmap x hx)
      simpa using h
    generalize ht : r.l.getD i default = t at *
    unfold tk
    by_cases s3 : t.state = 3
    rotate_left
    · rw [if_pos s3, if_neg fun h => s3 h.1]; exact go t q rfl
    rw [if_neg (by simpa using s3)]
    by_cases hd : now < t.deadline
    · rw [if_pos hd, if_neg fun h => by omega]; exact go t q rfl
    rw [if_neg hd]
    by_cases hq : 1000000000000 ≤ q
    · rw [if_pos hq, if_neg fun h => by omega]; exact go t q rfl
    rw [if_neg hq, if_neg (by omega), if_pos ⟨s3, by omega, by omega⟩]
    show (gTick_l0 r now n (i + 1) (putX (pre ++ t :: r.l.drop (i + 1)) (tkT t)) (q + 1)).2 = _
    rw [putX_mid (show t.handle.slot = (tkT t).handle.slot from rfl) hlow]
    exact go (tkT t) (q + 1) rfl
theorem gTick_eq {r : Registry} (h : RightR r) (now : Int) : gTick r now = Registry.mk r.slots (tk now r.l r.seq).1 (tk now r.l r.seq).2 := by
  unfold gTick
  rw [gRight_iff.2 h, if_neg (by simp)]
  have e := gTick_l0_eq h.up now (r.l.length + 1) 0 [] r.seq (by omega) (by omega) rfl
  rw [List.drop_zero, List.nil_append] at e
  generalize gTick_l0 r now (r.l.length + 1) 0 r.l r.seq = y at e
  obtain ⟨y1, y2, y3⟩ := y
  have e1 : y2 = _ := congrArg Prod.fst e
  have e2 : y3 = _ := congrArg Prod.snd e
  simp only [run3]
  rw [e1, e2]; rfl
theorem tk_map {α : Type} (f : Tenant → α) (hf : ∀ t, f (tkT t) = f t) (now : Int) : ∀ (l : List Tenant) (q : Int), (tk now l q).1.map f = l.map f
  | [], q => rfl
  | t :: r, q => by
    unfold tk
    split
    · simp only [List.map_cons]; rw [hf, tk_map f hf now r]
    · simp only [List.map_cons]; rw [tk_map f hf now r]
theorem tk_seq (now : Int) : ∀ (l : List Tenant) (q : Int), q ≤ (tk now l q).2 ∧ (q ≤ 1000000000000 → (tk now l q).2 ≤ 1000000000000)
  | [], q => ⟨Int.le_refl _, id⟩
  | t :: r, q => by
    unfold tk
    split
    · rename_i h
      have := tk_seq now r (q + 1)
      simp only
      exact ⟨by omega, fun _ => this.2 (by omega)⟩
    · exact tk_seq now r q
theorem tk_ok (now : Int) : ∀ (l : List Tenant) (q s : Int), s ≤ q → (∀ t ∈ l, TenOk s t) → ∀ t ∈ (tk now l q).1, TenOk (tk now l q).2 t
  | [], q, s, hs, h => nofun
  | t :: r, q, s, hs, h => by
    have h1 := h t List.mem_cons_self
    have h2 : ∀ u ∈ r, TenOk s u := fun u hu => h u (List.mem_cons_of_mem _ hu)
    unfold tk
    split
    · rename_i hc
      intro u hu
      have hq := (tk_seq now r (q + 1)).1
      rcases List.mem_cons.1 hu with rfl | hu
      · have hv := h1.version
        exact ⟨h1.name, ⟨by show 1 ≤ t.version + 1; omega, by show t.version + 1 ≤ _; simp only; omega⟩, (show (1 : Int) ≤ 2 ∧ (2 : Int) ≤ 3 by decide), (show (0 : Int) ≤ 0 ∧ (0 : Int) ≤ 1000000000000 by decide), .inl rfl, h1.rules, h1.creds⟩
      · exact tk_ok now r (q + 1) s (by omega) h2 u hu
    · intro u hu
      rcases List.mem_cons.1 hu with rfl | hu
      · exact h1.mono (Int.le_trans hs (tk_seq now r q).1)
      · exact tk_ok now r q s hs h2 u hu
theorem RightR.tick {r : Registry} (h : RightR r) (now : Int) : RightR (gTick r now) ∧ r.seq ≤ (gTick r now).seq := by
  rw [gTick_eq h now]
  have hs := tk_seq now r.l r.seq
  have hq := h.seq
  refine ⟨⟨h.slots, ⟨by simp only; omega, by simp only; exact hs.2 hq.2⟩, ?_, ?_, fun t ht => tk_ok now r.l r.seq r.seq (Int.le_refl _) h.ok t ht⟩, hs.1⟩
  · show ((tk now r.l r.seq).1).map Tenant.handle = _
    rw [tk_map Tenant.handle (fun t => rfl)]; exact h.hs
  · show (((tk now r.l r.seq).1).map Tenant.name).Nodup
    rw [tk_map Tenant.name (fun t => rfl)]; exact h.names
end Go.Proofs.YtopjaeoklkpcpaaGreatDoor.Jd

