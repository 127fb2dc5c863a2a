/- Part of the proofs of this seat: walks and plain facts. No condition. -/
import Derived.Test.YtopjaeoklkpcpaaGreatDoorP0
import Derived.Test.YtopjaeoklkpcpaaGreatDoorProg
import Derived.Test.YtopjaeoklkpcpaaGreatDoorP5
import Derived.Test.YtopjaeoklkpcpaaGreatDoorP6
import Derived.Test.YtopjaeoklkpcpaaGreatDoorP3
import Derived.Test.YtopjaeoklkpcpaaGreatDoorP2
import Derived.Test.YtopjaeoklkpcpaaGreatDoorP10
import Derived.Test.YtopjaeoklkpcpaaGreatDoorP1
import Derived.Test.YtopjaeoklkpcpaaGreatDoorP4
namespace Go.Proofs.YtopjaeoklkpcpaaGreatDoor.Jd
open Go.Proofs
open Go.RowKit (Below)
set_option maxRecDepth 100000
set_option maxHeartbeats 8000000
set_option linter.unusedVariables false
set_option linter.unusedSimpArgs false
def lRegistryKeeps (r : Registry) (role : Int) (c : Command) (now : Int) : Bool := (if ((gApply (gCut r) role (gCutC c) now).2.err) = 150 then (if gShown = true then (if ((((gApply (gCut r) role (gCutC c) now).1.l.length) : Nat) : Int) = 0 then (if ((gApply (gCut r) role (gCutC c) now).2.err) = 150 ∧ ((gApply (gCut r) role (gCutC c) now).2.seq) = 0 ∧ ((gApply (gCut r) role (gCutC c) now).2.handle.slot) = 0 ∧ ((gApply (gCut r) role (gCutC c) now).2.handle.gen) = 0 ∧ ((gApply (gCut r) role (gCutC c) now).2.version) = 0 ∧ ((gApply (gCut r) role (gCutC c) now).2.state) = 0 then ((gRight (gTick (gCut r) now)) == (gRight (gCut r))) else false) else false) else false) else (if gShown = true then (if (gRight (gCut r)) = true then (if (gRight ((gApply (gCut r) role (gCutC c) now).1)) = true then (if (gRight (gTick (gCut r) now)) = true then (if ((gApply (gCut r) role (gCutC c) now).1.seq) = ((gCut r).seq + 1) then (if ((gApply (gCut r) role (gCutC c) now).2.seq) = ((gApply (gCut r) role (gCutC c) now).1.seq) then decide ((gCut r).seq ≤ ((gTick (gCut r) now).seq)) else false) else false) else false) else false) else false) else false))
end Go.Proofs.YtopjaeoklkpcpaaGreatDoor.Jd

namespace Go.Proofs.YtopjaeoklkpcpaaGreatDoor.Jd
open Go.Proofs
open Go.RowKit (Below)
set_option maxRecDepth 100000
set_option maxHeartbeats 8000000
set_option linter.unusedVariables false
set_option linter.unusedSimpArgs false
theorem FO_44_1 : FieldOff Tryz.prog 44 1 1 := fun r k w => by simp [Instr.fieldAt, Instr.sureAddr, fieldPlace, addr_add]
end Go.Proofs.YtopjaeoklkpcpaaGreatDoor.Jd

namespace Go.Proofs.YtopjaeoklkpcpaaGreatDoor.Jd
set_option linter.unusedVariables false
set_option linter.unusedSimpArgs false
theorem gTick_bad {r : Registry} (h : ¬ RightR r) (now : Int) : gTick r now = r := by
  unfold gTick
  rw [if_pos]
  cases hr : gRight r with
  | false => rfl
  | true => exact absurd (gRight_iff.1 hr) h
end Go.Proofs.YtopjaeoklkpcpaaGreatDoor.Jd

namespace Go.Proofs.YtopjaeoklkpcpaaGreatDoor.Jd
set_option maxRecDepth 100000
set_option linter.unusedVariables false
set_option linter.unusedSimpArgs false
theorem lRegistryKeeps_true (r : Registry) (role : Int) (c : Command) (now : Int) : lRegistryKeeps r role c now = true := by
  unfold lRegistryKeeps
  simp only [gShown_true, if_true]
  have h := apply_out (gCut r) role (gCutC c) now
  generalize gApply (gCut r) role (gCutC c) now = x at h ⊢
  generalize gCut r = s at h ⊢
  by_cases he : x.2.err = 150
  · rw [if_pos he]
    obtain ⟨hf, rfl⟩ := h.bad he
    rw [if_pos (by rfl), if_pos (by simp [noR])]
    by_cases hr : RightR s
    · rw [gRight_iff.2 hr, gRight_iff.2 (hr.tick now).1]; rfl
    · rw [gTick_bad hr]; simp
  · rw [if_neg he]
    obtain ⟨hf, h1, h2, h3⟩ := h.right he
    have ht := hf.right.tick now
    rw [if_pos (gRight_iff.2 hf.right), if_pos (gRight_iff.2 h1), if_pos (gRight_iff.2 ht.1), if_pos h2, if_pos (h3.trans h2.symm)]
    simpa using ht.2
end Go.Proofs.YtopjaeoklkpcpaaGreatDoor.Jd

namespace Go.Proofs.YtopjaeoklkpcpaaGreatDoor.Jd
open Go.Proofs
open Go.RowKit (Below)
set_option maxRecDepth 100000
set_option maxHeartbeats 8000000
set_option linter.unusedVariables false
set_option linter.unusedSimpArgs false
theorem lRegistryKeeps_ok (w : World) {r_slots_gens_a : Option Addr} {r_slots_gens_c : Nat} {r_slots_used_a : Option Addr} {r_slots_used_c : Nat} {r_slots_free_a : Option Addr} {r_slots_free_c : Nat} {r_l_a : Option Addr} {r_l_c : Nat} {r_l_t : List TA} {ea0 : Addr} {ea1 : Addr} {ea2 : Addr} {ea3 : Addr} {r : Registry} {role : Int} {c : Command} {now : Int} (h_r_slots_gens : Sl w eI 1 r_slots_gens_a r.slots.gens) (k_r_slots_gens : r.slots.gens.length ≤ r_slots_gens_c) (h_r_slots_used : Sl w eB 1 r_slots_used_a r.slots.used) (k_r_slots_used : r.slots.used.length ≤ r_slots_used_c) (h_r_slots_free : Sl w eI 1 r_slots_free_a r.slots.free) (k_r_slots_free : r.slots.free.length ≤ r_slots_free_c) (h_r_l : SlN w eTenant 8 DT r_l_a r.l r_l_t) (k_r_l : r.l.length ≤ r_l_c) (i_c_at_ : -9223372036854775808 ≤ c.at_ ∧ c.at_ ≤ 9223372036854775807) (hG : Gl w) (hE : Er w ea0 ea1 ea2 ea3) : Val Tryz.prog 6 [(Value.agg [(vs r_slots_gens_a r.slots.gens.length r_slots_gens_c), (vs r_slots_used_a r.slots.used.length r_slots_used_c), (vs r_slots_free_a r.slots.free.length r_slots_free_c), (vs r_l_a r.l.length r_l_c), (vi r.seq)].toArray), (vi role), (Value.agg [(vi c.verb), (vt c.name), (vi c.want), (vi c.at_), (Value.bool c.rule.allow), (vi c.rule.pfx.addr), (vi c.rule.pfx.bits), (vi c.rule.prt.lo), (vi c.rule.prt.hi), (vt c.key), (vi c.n), (vi c.m)].toArray), (vi now)] w (Value.bool (lRegistryKeeps r role c now)) := by
 have hF := Is.refl (lRegistryKeeps r role c now)
 refine enter Tryz.func6 Tryz.ntmps6 (h := ?_)
 refine Z2 ?_
 refine JL_a noMk (a_box (l := [_, _, _, _, _])) (k := fun r1 hr1 => ?_)
 refine JL_a noMk (a_box (l := [_, _, _, _, _, _, _, _, _, _, _, _])) (k := fun r2 hr2 => ?_)
 refine Z96 ?_
 refine Z1 ?_
 refine Z24 ?_
 rintro w1_1 e1_1 w2_1 hw1_1 ⟨a1_1, c1_1, t1_1, B_1, he_1, hf_1, hs1_1, hl1_1⟩
 refine ⟨_, _, he_1, hw1_1.fresh hf_1, ?_⟩
 have hcb_1 := gCut_bd r
 have hsm_1 := gCut_small r
 refine Z133 ?_
 refine Z225 ?_
 refine Z109 ?_
 refine Z0 ?_
 refine Z248 ?_
 refine JL_q (q_loadA Tryz.isAgg36 Tryz.sizeOf36) (k := ?_)
 refine Z102 ?_
 rintro w1_2 e1_2 w2_2 hw1_2 ⟨a1_2, c1_2, a2_2, c2_2, a3_2, c3_2, a4_2, c4_2, t4_2, B_2, he_2, hf_2, hs1_2, hs2_2, hs3_2, hs4_2, hl1_2, hl2_2, hl3_2, hl4_2⟩
 refine ⟨_, _, he_2, hw1_2.fresh hf_2, ?_⟩
 have hap_33877 := gApply_small role (gCutC c) now (by first | assumption | exact Small.nil : Small ((gCut r).l))
 have hab_33877 := gApply_bd (gCut r) role (gCutC c) now
 try dsimp only at hab_33877
 refine Z37 ?_
 refine JL_a noMk (a_alloc (l := [_, _, _, _, _]) Tryz.zeroValue28) (k := fun r3 hr3 => ?_)
 refine JL_a noMk (a_alloc (l := [_, _, _, _, _, _]) Tryz.zeroValue44) (k := fun r4 hr4 => ?_)
 refine Z261 ?_
 refine J_subL _ (sk (sk (sa (sa (sd (sk sz)))))) ?_
 refine Z50 ?_
 refine Z481 ?_
 refine JL_p (c_callA Tryz.call22) (fun w1 hw1 => gTick_ok w1 (r := (gCut r)) (now := now) (h_r_slots_gens := (SlJ.take (SlJ.of_base h_r_slots_gens) _) w1 hw1) (n_r_slots_gens := by first | omega | (simp; done) | exact Nat.le_trans (by assumption) (by decide)) (h_r_slots_used := (SlJ.take (SlJ.of_base h_r_slots_used) _) w1 hw1) (n_r_slots_used := by first | omega | (simp; done) | exact Nat.le_trans (by assumption) (by decide)) (h_r_slots_free := (SlJ.take (SlJ.of_base h_r_slots_free) _) w1 hw1) (n_r_slots_free := by first | omega | (simp; done) | exact Nat.le_trans (by assumption) (by decide)) (h_r_l := (SlNB.j hs1_1.1 sh).2 w1 hw1) (n_r_l := by first | omega | (simp; done) | exact Nat.le_trans (by assumption) (by decide)) (k_r_l := hs1_1.2) (hsm := by first | assumption | exact Small.nil)) (k := ?_)
 rintro w1_3 e1_3 w2_3 hw1_3 ⟨a1_3, c1_3, a2_3, c2_3, a3_3, c3_3, a4_3, c4_3, t4_3, B_3, he_3, hf_3, hs1_3, hs2_3, hs3_3, hs4_3, hl1_3, hl2_3, hl3_3, hl4_3⟩
 refine ⟨_, _, he_3, hw1_3.fresh hf_3, ?_⟩
 have htk_4468 := gTick_small now (by first | assumption | exact Small.nil : Small ((gCut r).l))
 refine JL_a noMk (a_alloc (l := [_, _, _, _, _]) Tryz.zeroValue28) (k := fun r5 hr5 => ?_)
 refine Z521 ?_
 refine Z72 ?_
 refine Z2 ?_
 refine Z116 ?_
 refine Z281 ?_
 refine J_dec rfl (fun hq1 => ?_) (fun hq1 => ?_)
 ·refine J_seq ?_
  refine J_plan mixed 20 [(true, 0), (true, 1), (true, 2), (true, 3), (true, 4), (true, 5), (true, 6), (true, 7), (true, 8), (true, 9), (true, 10), (true, 11), (true, 12), (true, 13), (true, 15), (false, 14), (false, 16), (true, 17), (true, 18), (true, 19)] (by kernel_rfl) ?_
  refine Z62 ?_
  refine JD_bool 33 rfl (fun hq2 => ?_) (fun hq2 => ?_)
  rotate_left
  ·refine JD_skips 4 rfl ?_
   refine Z184 ?_
   refine Z437 ?_
   refine Z510 ?_
   refine JX_ret Tryz.results6 (Res.tmp rfl Res.nil) (fun w1 hw1 => ?_)
   exact ⟨(by rw [((hF.pos hq1).f hq2).eq] <;> first | rfl | (simp only [List.length_set] <;> rfl)), hw1.ext_out⟩
  refine Z99 ?_
  refine JD_qg (q_lenS Tryz.runUnderlying26) (k := ?_)
  refine Z338 ?_
  refine JD_dec 39 rfl (fun hq3 => ?_) (fun hq3 => ?_)
  rotate_left
  ·refine JD_skips 3 rfl ?_
   refine Z437 ?_
   refine Z510 ?_
   refine JX_ret Tryz.results6 (Res.tmp rfl Res.nil) (fun w1 hw1 => ?_)
   exact ⟨(by rw [(((hF.pos hq1).t hq2).neg hq3).eq] <;> first | rfl | (simp only [List.length_set] <;> rfl)), hw1.ext_out⟩
  refine JD_qg (q_loadA Tryz.isAgg44 Tryz.sizeOf44) (k := ?_)
  refine JD_qg (q_build (cs := [_, _, _, _, _, _]) Tryz.zeroValue44 PL_44) (k := ?_)
  refine JD_qg (q_eqS (EQ_44 _ _ _ _ _ _ _ _ _ _ _ _ _ _)) (k := ?_)
  refine Z54 ?_
  refine JD_dec 44 rfl (fun hq4 => ?_) (fun hq4 => ?_)
  rotate_left
  ·refine JD_skips 5 rfl ?_
   refine Z139 ?_
   refine Z510 ?_
   refine JX_ret Tryz.results6 (Res.tmp rfl Res.nil) (fun w1 hw1 => ?_)
   exact ⟨(by rw [((((hF.pos hq1).t hq2).pos hq3).neg hq4).eq] <;> first | rfl | (simp only [List.length_set] <;> rfl)), hw1.ext_out⟩
  refine JD_qg (q_loadA Tryz.isAgg28 Tryz.sizeOf28) (k := ?_)
  refine JD_qg (q_loadA Tryz.isAgg28 Tryz.sizeOf28) (k := ?_)
  refine JD_vg (c_callA Tryz.call23) (fun w1 hw1 => gRight_ok w1 (r := (gTick (gCut r) now)) (h_r_slots_gens := (SlB.slj hs1_3) w1 hw1) (n_r_slots_gens := by first | omega | (simp; done) | exact Nat.le_trans (by assumption) (by decide)) (h_r_slots_used := (SlB.slj hs2_3) w1 hw1) (n_r_slots_used := by first | omega | (simp; done) | exact Nat.le_trans (by assumption) (by decide)) (h_r_slots_free := (SlB.slj hs3_3) w1 hw1) (n_r_slots_free := by first | omega | (simp; done) | exact Nat.le_trans (by assumption) (by decide)) (h_r_l := (SlNB.j hs4_3.1 sh).2 w1 hw1) (n_r_l := by first | omega | (simp; done) | exact Nat.le_trans (by assumption) (by decide)) (k_r_l := hs4_3.2) (hsm := by first | assumption | exact Small.nil)) (k := ?_)
  refine JD_vg (c_callA Tryz.call23) (fun w1 hw1 => gRight_ok w1 (r := (gCut r)) (h_r_slots_gens := (SlJ.take (SlJ.of_base h_r_slots_gens) _) w1 hw1) (n_r_slots_gens := by first | omega | (simp; done) | exact Nat.le_trans (by assumption) (by decide)) (h_r_slots_used := (SlJ.take (SlJ.of_base h_r_slots_used) _) w1 hw1) (n_r_slots_used := by first | omega | (simp; done) | exact Nat.le_trans (by assumption) (by decide)) (h_r_slots_free := (SlJ.take (SlJ.of_base h_r_slots_free) _) w1 hw1) (n_r_slots_free := by first | omega | (simp; done) | exact Nat.le_trans (by assumption) (by decide)) (h_r_l := (SlNB.j hs1_1.1 sh).2 w1 hw1) (n_r_l := by first | omega | (simp; done) | exact Nat.le_trans (by assumption) (by decide)) (k_r_l := hs1_1.2) (hsm := by first | assumption | exact Small.nil)) (k := ?_)
  refine JD_qg (q_eqlB Tryz.runUnderlying4) (k := ?_)
  refine Z359 ?_
  refine Z510 ?_
  refine JX_ret Tryz.results6 (Res.tmp rfl Res.nil) (fun w1 hw1 => ?_)
  exact ⟨(by rw [((((hF.pos hq1).t hq2).pos hq3).pos hq4).eq] <;> first | rfl | (simp only [List.length_set] <;> rfl)), hw1.ext_out⟩
 refine Z14 ?_
 refine Z39 ?_
 refine JL_bool 52 rfl (fun hq5 => ?_) (fun hq5 => ?_)
 rotate_left
 ·refine JL_skips 2 rfl ?_
  refine Z372 ?_
  refine Z372 ?_
  refine Z254 ?_
  refine Z407 ?_
  refine JX_ret Tryz.results6 (Res.tmp rfl Res.nil) (fun w1 hw1 => ?_)
  exact ⟨(by rw [((hF.neg hq1).f hq5).eq] <;> first | rfl | (simp only [List.length_set] <;> rfl)), hw1.ext_out⟩
 refine Z533 ?_
 refine JL_vg (c_callA Tryz.call23) (fun w1 hw1 => gRight_ok w1 (r := (gCut r)) (h_r_slots_gens := (SlJ.take (SlJ.of_base h_r_slots_gens) _) w1 hw1) (n_r_slots_gens := by first | omega | (simp; done) | exact Nat.le_trans (by assumption) (by decide)) (h_r_slots_used := (SlJ.take (SlJ.of_base h_r_slots_used) _) w1 hw1) (n_r_slots_used := by first | omega | (simp; done) | exact Nat.le_trans (by assumption) (by decide)) (h_r_slots_free := (SlJ.take (SlJ.of_base h_r_slots_free) _) w1 hw1) (n_r_slots_free := by first | omega | (simp; done) | exact Nat.le_trans (by assumption) (by decide)) (h_r_l := (SlNB.j hs1_1.1 sh).2 w1 hw1) (n_r_l := by first | omega | (simp; done) | exact Nat.le_trans (by assumption) (by decide)) (k_r_l := hs1_1.2) (hsm := by first | assumption | exact Small.nil)) (k := ?_)
 refine Z18 ?_
 refine JL_bool 56 rfl (fun hq6 => ?_) (fun hq6 => ?_)
 rotate_left
 ·refine JL_skips 2 rfl ?_
  refine Z372 ?_
  refine Z254 ?_
  refine Z407 ?_
  refine JX_ret Tryz.results6 (Res.tmp rfl Res.nil) (fun w1 hw1 => ?_)
  exact ⟨(by rw [(((hF.neg hq1).t hq5).f hq6).eq] <;> first | rfl | (simp only [List.length_set] <;> rfl)), hw1.ext_out⟩
 have hfhq6 := gRight_t hq6
 refine Z533 ?_
 refine JL_vg (c_callA Tryz.call23) (fun w1 hw1 => gRight_ok w1 (r := ((gApply (gCut r) role (gCutC c) now).1)) (h_r_slots_gens := (SlB.slj hs1_2) w1 hw1) (n_r_slots_gens := by first | omega | (simp; done) | exact Nat.le_trans (by assumption) (by decide)) (h_r_slots_used := (SlB.slj hs2_2) w1 hw1) (n_r_slots_used := by first | omega | (simp; done) | exact Nat.le_trans (by assumption) (by decide)) (h_r_slots_free := (SlB.slj hs3_2) w1 hw1) (n_r_slots_free := by first | omega | (simp; done) | exact Nat.le_trans (by assumption) (by decide)) (h_r_l := (SlNB.j hs4_2.1 sh).2 w1 hw1) (n_r_l := by first | omega | (simp; done) | exact Nat.le_trans (by assumption) (by decide)) (k_r_l := hs4_2.2) (hsm := by first | assumption | exact Small.nil)) (k := ?_)
 refine Z18 ?_
 refine JL_bool 60 rfl (fun hq7 => ?_) (fun hq7 => ?_)
 rotate_left
 ·refine JL_skips 2 rfl ?_
  refine Z254 ?_
  refine Z407 ?_
  refine JX_ret Tryz.results6 (Res.tmp rfl Res.nil) (fun w1 hw1 => ?_)
  exact ⟨(by rw [((((hF.neg hq1).t hq5).t hq6).f hq7).eq] <;> first | rfl | (simp only [List.length_set] <;> rfl)), hw1.ext_out⟩
 have hfhq7 := gRight_t hq7
 refine Z533 ?_
 refine JL_vg (c_callA Tryz.call23) (fun w1 hw1 => gRight_ok w1 (r := (gTick (gCut r) now)) (h_r_slots_gens := (SlB.slj hs1_3) w1 hw1) (n_r_slots_gens := by first | omega | (simp; done) | exact Nat.le_trans (by assumption) (by decide)) (h_r_slots_used := (SlB.slj hs2_3) w1 hw1) (n_r_slots_used := by first | omega | (simp; done) | exact Nat.le_trans (by assumption) (by decide)) (h_r_slots_free := (SlB.slj hs3_3) w1 hw1) (n_r_slots_free := by first | omega | (simp; done) | exact Nat.le_trans (by assumption) (by decide)) (h_r_l := (SlNB.j hs4_3.1 sh).2 w1 hw1) (n_r_l := by first | omega | (simp; done) | exact Nat.le_trans (by assumption) (by decide)) (k_r_l := hs4_3.2) (hsm := by first | assumption | exact Small.nil)) (k := ?_)
 refine Z18 ?_
 refine JL_bool 64 rfl (fun hq8 => ?_) (fun hq8 => ?_)
 rotate_left
 ·refine JL_skips 6 rfl ?_
  refine Z407 ?_
  refine JX_ret Tryz.results6 (Res.tmp rfl Res.nil) (fun w1 hw1 => ?_)
  exact ⟨(by rw [(((((hF.neg hq1).t hq5).t hq6).t hq7).f hq8).eq] <;> first | rfl | (simp only [List.length_set] <;> rfl)), hw1.ext_out⟩
 have hfhq8 := gRight_t hq8
 refine Z157 ?_
 refine Z157 ?_
 refine JL_qg q_add (k := ?_)
 refine Z249 ?_
 refine JL_dec 72 rfl (fun hq9 => ?_) (fun hq9 => ?_)
 rotate_left
 ·refine JL_skips 5 rfl ?_
  refine Z203 ?_
  refine JX_ret Tryz.results6 (Res.tmp rfl Res.nil) (fun w1 hw1 => ?_)
  exact ⟨(by rw [((((((hF.neg hq1).t hq5).t hq6).t hq7).t hq8).neg hq9).eq] <;> first | rfl | (simp only [List.length_set] <;> rfl)), hw1.ext_out⟩
 refine JL_qg (q_fld FO_44_1) (k := ?_)
 refine Z500 ?_
 refine JL_qg (q_fld FO_28_2) (k := ?_)
 refine Z80 ?_
 refine Z18 ?_
 refine JL_dec 79 rfl (fun hq10 => ?_) (fun hq10 => ?_)
 rotate_left
 ·refine JL_skips 5 rfl ?_
  refine Z26 ?_
  refine JX_ret Tryz.results6 (Res.tmp rfl Res.nil) (fun w1 hw1 => ?_)
  exact ⟨(by rw [(((((((hF.neg hq1).t hq5).t hq6).t hq7).t hq8).pos hq9).neg hq10).eq] <;> first | rfl | (simp only [List.length_set] <;> rfl)), hw1.ext_out⟩
 refine Z157 ?_
 refine Z157 ?_
 refine JL_qg q_geq (k := ?_)
 refine Z79 ?_
 refine JX_ret Tryz.results6 (Res.tmp rfl Res.nil) (fun w1 hw1 => ?_)
 exact ⟨(by rw [(((((((hF.neg hq1).t hq5).t hq6).t hq7).t hq8).pos hq9).pos hq10).eq] <;> first | rfl | (simp only [List.length_set] <;> rfl)), hw1.ext_out⟩

end Go.Proofs.YtopjaeoklkpcpaaGreatDoor.Jd

