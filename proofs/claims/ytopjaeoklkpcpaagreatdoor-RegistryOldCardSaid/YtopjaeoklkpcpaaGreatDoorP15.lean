/- Part of the proofs of this seat: walks and plain facts. No condition. -/
import Derived.Test.YtopjaeoklkpcpaaGreatDoorP0
import Derived.Test.YtopjaeoklkpcpaaGreatDoorProg
import Derived.Test.YtopjaeoklkpcpaaGreatDoorP5
import Derived.Test.YtopjaeoklkpcpaaGreatDoorP1
import Derived.Test.YtopjaeoklkpcpaaGreatDoorP2
import Derived.Test.YtopjaeoklkpcpaaGreatDoorP6
import Derived.Test.YtopjaeoklkpcpaaGreatDoorP3
import Derived.Test.YtopjaeoklkpcpaaGreatDoorP4
namespace Go.Proofs.YtopjaeoklkpcpaaGreatDoor.Jd
open Go.Proofs
open Go.RowKit (Below)
set_option maxRecDepth 100000
set_option maxHeartbeats 8000000
set_option linter.unusedVariables false
set_option linter.unusedSimpArgs false
def lRegistryOld (r : Registry) (c : Command) (now : Int) : Bool := (if (!((gFind (gCut r) ((gCutC c).name)).2)) = true then (if gShown = true then (if ((gApply (gCut r) 3 (Command.mk 5 ((gCutC c).name) 0 0 (Rule.mk false (Prefix.mk 0 0) (PortsT.mk 0 0)) ([] : Str) 0 0) now).2.err) = 150 then true else decide (((gApply (gCut r) 3 (Command.mk 5 ((gCutC c).name) 0 0 (Rule.mk false (Prefix.mk 0 0) (PortsT.mk 0 0)) ([] : Str) 0 0) now).2.err) = 154)) else false) else (if ((gApply (gCut r) 3 (Command.mk 5 ((gCutC c).name) 0 0 (Rule.mk false (Prefix.mk 0 0) (PortsT.mk 0 0)) ([] : Str) 0 0) now).2.err) ≠ 0 then (if gShown = true then (if ((gApply (gCut r) 3 (Command.mk 5 ((gCutC c).name) 0 0 (Rule.mk false (Prefix.mk 0 0) (PortsT.mk 0 0)) ([] : Str) 0 0) now).2.err) = 150 then true else false) else false) else (if gShown = true then (if (!((gFind ((gApply (gCut r) 3 (Command.mk 5 ((gCutC c).name) 0 0 (Rule.mk false (Prefix.mk 0 0) (PortsT.mk 0 0)) ([] : Str) 0 0) now).1) ((gCutC c).name)).2)) = true then (if (!(sValid ((gApply (gCut r) 3 (Command.mk 5 ((gCutC c).name) 0 0 (Rule.mk false (Prefix.mk 0 0) (PortsT.mk 0 0)) ([] : Str) 0 0) now).1.slots) ((gFind (gCut r) ((gCutC c).name)).1.handle))) = true then (if (!(sValid ((gApply ((gApply (gCut r) 3 (Command.mk 5 ((gCutC c).name) 0 0 (Rule.mk false (Prefix.mk 0 0) (PortsT.mk 0 0)) ([] : Str) 0 0) now).1) 3 (Command.mk 1 ((gCutC c).name) ((gCutC c).want) ((gCutC c).at_) ((gCutC c).rule) ((gCutC c).key) ((gCutC c).n) ((gCutC c).m)) now).1.slots) ((gFind (gCut r) ((gCutC c).name)).1.handle))) = true then (if ((gApply ((gApply (gCut r) 3 (Command.mk 5 ((gCutC c).name) 0 0 (Rule.mk false (Prefix.mk 0 0) (PortsT.mk 0 0)) ([] : Str) 0 0) now).1) 3 (Command.mk 1 ((gCutC c).name) ((gCutC c).want) ((gCutC c).at_) ((gCutC c).rule) ((gCutC c).key) ((gCutC c).n) ((gCutC c).m)) now).2.err) ≠ 0 then true else (if ¬ (((gApply ((gApply (gCut r) 3 (Command.mk 5 ((gCutC c).name) 0 0 (Rule.mk false (Prefix.mk 0 0) (PortsT.mk 0 0)) ([] : Str) 0 0) now).1) 3 (Command.mk 1 ((gCutC c).name) ((gCutC c).want) ((gCutC c).at_) ((gCutC c).rule) ((gCutC c).key) ((gCutC c).n) ((gCutC c).m)) now).2.handle.slot) = ((gFind (gCut r) ((gCutC c).name)).1.handle.slot) ∧ ((gApply ((gApply (gCut r) 3 (Command.mk 5 ((gCutC c).name) 0 0 (Rule.mk false (Prefix.mk 0 0) (PortsT.mk 0 0)) ([] : Str) 0 0) now).1) 3 (Command.mk 1 ((gCutC c).name) ((gCutC c).want) ((gCutC c).at_) ((gCutC c).rule) ((gCutC c).key) ((gCutC c).n) ((gCutC c).m)) now).2.handle.gen) = ((gFind (gCut r) ((gCutC c).name)).1.handle.gen)) then decide (((gApply ((gApply (gCut r) 3 (Command.mk 5 ((gCutC c).name) 0 0 (Rule.mk false (Prefix.mk 0 0) (PortsT.mk 0 0)) ([] : Str) 0 0) now).1) 3 (Command.mk 1 ((gCutC c).name) ((gCutC c).want) ((gCutC c).at_) ((gCutC c).rule) ((gCutC c).key) ((gCutC c).n) ((gCutC c).m)) now).2.version) = 1) else false)) else false) else false) else false) else false)))
end Go.Proofs.YtopjaeoklkpcpaaGreatDoor.Jd

namespace Go.Proofs.YtopjaeoklkpcpaaGreatDoor.Jd.SlT
open Go.Proofs
open Go.RowKit (Below)
set_option maxRecDepth 100000
set_option linter.unusedVariables false
set_option linter.unusedSimpArgs false

theorem dead_not {p q : Int} {gl : List Int} {ul : List Bool} {fl : List Int} (h : rightB gl ul fl = true) (hd : Dead p q gl ul) : ¬ (p, q) ∈ allD gl ul fl := fun hm => by
  obtain ⟨_, h2, h3⟩ := (allD_mem h).1 hm
  rw [hd.2.2.2 h3] at h2
  simp at h2
end Go.Proofs.YtopjaeoklkpcpaaGreatDoor.Jd.SlT

namespace Go.Proofs.YtopjaeoklkpcpaaGreatDoor.Jd
set_option linter.unusedVariables false
set_option linter.unusedSimpArgs false
theorem names_inj {l : List Tenant} (h : (l.map Tenant.name).Nodup) {t u : Tenant} (ht : t ∈ l) (hu : u ∈ l) (e : t.name = u.name) : t = u := by
  induction l with
  | nil => cases ht
  | cons z w ih =>
    obtain ⟨a1, a2⟩ := List.nodup_cons.1 (show (z.name :: w.map Tenant.name).Nodup from h)
    rcases List.mem_cons.1 ht with ht | ht
    · rcases List.mem_cons.1 hu with hu | hu
      · rw [ht, hu]
      · exact absurd (List.mem_map.2 ⟨u, hu, by rw [← e, ht]⟩) a1
    · rcases List.mem_cons.1 hu with hu | hu
      · exact absurd (List.mem_map.2 ⟨t, ht, by rw [e, hu]⟩) a1
      · exact ih a2 ht hu
end Go.Proofs.YtopjaeoklkpcpaaGreatDoor.Jd

namespace Go.Proofs.YtopjaeoklkpcpaaGreatDoor.Jd
open Go.Proofs
open Go.RowKit (Below)
set_option maxRecDepth 100000
set_option maxHeartbeats 8000000
set_option linter.unusedVariables false
set_option linter.unusedSimpArgs false
theorem lRegistryOld_ok (w : World) {r_slots_gens_a : Option Addr} {r_slots_gens_c : Nat} {r_slots_used_a : Option Addr} {r_slots_used_c : Nat} {r_slots_free_a : Option Addr} {r_slots_free_c : Nat} {r_l_a : Option Addr} {r_l_c : Nat} {r_l_t : List TA} {ea0 : Addr} {ea1 : Addr} {ea2 : Addr} {ea3 : Addr} {r : Registry} {c : Command} {now : Int} (h_r_slots_gens : Sl w eI 1 r_slots_gens_a r.slots.gens) (k_r_slots_gens : r.slots.gens.length ≤ r_slots_gens_c) (h_r_slots_used : Sl w eB 1 r_slots_used_a r.slots.used) (k_r_slots_used : r.slots.used.length ≤ r_slots_used_c) (h_r_slots_free : Sl w eI 1 r_slots_free_a r.slots.free) (k_r_slots_free : r.slots.free.length ≤ r_slots_free_c) (h_r_l : SlN w eTenant 8 DT r_l_a r.l r_l_t) (k_r_l : r.l.length ≤ r_l_c) (i_c_at_ : -9223372036854775808 ≤ c.at_ ∧ c.at_ ≤ 9223372036854775807) (hG : Gl w) (hE : Er w ea0 ea1 ea2 ea3) : Val Tryz.prog 4 [(Value.agg [(vs r_slots_gens_a r.slots.gens.length r_slots_gens_c), (vs r_slots_used_a r.slots.used.length r_slots_used_c), (vs r_slots_free_a r.slots.free.length r_slots_free_c), (vs r_l_a r.l.length r_l_c), (vi r.seq)].toArray), (Value.agg [(vi c.verb), (vt c.name), (vi c.want), (vi c.at_), (Value.bool c.rule.allow), (vi c.rule.pfx.addr), (vi c.rule.pfx.bits), (vi c.rule.prt.lo), (vi c.rule.prt.hi), (vt c.key), (vi c.n), (vi c.m)].toArray), (vi now)] w (Value.bool (lRegistryOld r c now)) := by
 have hF := Is.refl (lRegistryOld r c now)
 refine enter Tryz.func4 Tryz.ntmps4 (h := ?_)
 refine Z2 ?_
 refine JL_a noMk (a_box (l := [_, _, _, _, _])) (k := fun r1 hr1 => ?_)
 refine JL_a noMk (a_box (l := [_, _, _, _, _, _, _, _, _, _, _, _])) (k := fun r2 hr2 => ?_)
 refine Z96 ?_
 refine Z1 ?_
 refine Z24 ?_
 rintro w1_1 e1_1 w2_1 hw1_1 ⟨a1_1, c1_1, t1_1, B_1, he_1, hf_1, hs1_1, hl1_1⟩
 refine ⟨_, _, he_1, hw1_1.fresh hf_1, ?_⟩
 have hcb_1 := gCut_bd r
 have hsm_1 := gCut_small r
 refine Z133 ?_
 refine Z225 ?_
 refine Z109 ?_
 refine Z392 ?_
 refine JL_q (q_fld FO_36_1) (k := ?_)
 refine Z34 ?_
 rintro w1_2 e1_2 w2_2 hw1_2 ⟨a1_2, c1_2, a2_2, c2_2, B1_2, B2_2, he_2, hf_2, ho1_2, ho2_2, hl1_2, hl2_2⟩
 refine ⟨_, _, he_2, (hw1_2.fresh hf_2).perm (eqp (nA rfl)), ?_⟩
 have hfv_45306 := gFind_ver (gCut r) ((gCutC c).name)
 refine Z37 ?_
 refine JL_a noMk (a_alloc (l := [_, _, _, _, _, _, _, _]) Tryz.zeroValue52) (k := fun r3 hr3 => ?_)
 refine Z346 ?_
 refine Z21 ?_
 refine Z84 ?_
 refine Z148 ?_
 refine JL_p (c_callA Tryz.call17) (fun w1 hw1 => gApply_ok w1 (r := (gCut r)) (role := 3) (c := (Command.mk 5 ((gCutC c).name) 0 0 (Rule.mk false (Prefix.mk 0 0) (PortsT.mk 0 0)) ([] : Str) 0 0)) (now := now) (h_r_slots_gens := (SlJ.take (SlJ.of_base h_r_slots_gens) _) w1 hw1) (n_r_slots_gens := by first | omega | (simp; done) | exact Nat.le_trans (by assumption) (by decide)) (h_r_slots_used := (SlJ.take (SlJ.of_base h_r_slots_used) _) w1 hw1) (n_r_slots_used := by first | omega | (simp; done) | exact Nat.le_trans (by assumption) (by decide)) (h_r_slots_free := (SlJ.take (SlJ.of_base h_r_slots_free) _) w1 hw1) (n_r_slots_free := by first | omega | (simp; done) | exact Nat.le_trans (by assumption) (by decide)) (h_r_l := (SlNB.j hs1_1.1 sh).2 w1 hw1) (n_r_l := by first | omega | (simp; done) | exact Nat.le_trans (by assumption) (by decide)) (k_r_l := hs1_1.2) (i_c_at_ := by first | exact i_c_at_ | (simp; done) | (exact ⟨by decide, by decide⟩) | omega) (hG := hG.ext hw1.ext_out) (hE := hE.ext hw1.ext_out) (hsm := by first | assumption | exact Small.nil)) (k := ?_)
 rintro w1_3 e1_3 w2_3 hw1_3 ⟨a1_3, c1_3, a2_3, c2_3, a3_3, c3_3, a4_3, c4_3, t4_3, B_3, he_3, hf_3, hs1_3, hs2_3, hs3_3, hs4_3, hl1_3, hl2_3, hl3_3, hl4_3⟩
 refine ⟨_, _, he_3, hw1_3.fresh hf_3, ?_⟩
 have hap_48812 := gApply_small 3 (Command.mk 5 ((gCutC c).name) 0 0 (Rule.mk false (Prefix.mk 0 0) (PortsT.mk 0 0)) ([] : Str) 0 0) now (by first | assumption | exact Small.nil : Small ((gCut r).l))
 have hab_48812 := gApply_bd (gCut r) 3 (Command.mk 5 ((gCutC c).name) 0 0 (Rule.mk false (Prefix.mk 0 0) (PortsT.mk 0 0)) ([] : Str) 0 0) now
 try dsimp only at hab_48812
 refine Z37 ?_
 refine JL_a noMk (a_alloc (l := [_, _, _, _, _]) Tryz.zeroValue28) (k := fun r4 hr4 => ?_)
 refine JL_a noMk (a_alloc (l := [_, _, _, _, _, _]) Tryz.zeroValue44) (k := fun r5 hr5 => ?_)
 refine Z455 ?_
 refine J_subL _ (sk (sk (sa (sk (sa (sa (sx (sk (sd sz))))))))) ?_
 refine Z117 ?_
 refine Z484 ?_
 refine Z481 ?_
 refine JL_bool 39 rfl (fun hq1 => ?_) (fun hq1 => ?_)
 ·refine JL_skips 3 rfl ?_
  refine Z114 ?_
  refine Z39 ?_
  refine JL_bool 45 rfl (fun hq2 => ?_) (fun hq2 => ?_)
  rotate_left
  ·refine JL_skips 12 rfl ?_
   refine Z26 ?_
   refine Z510 ?_
   refine JX_ret Tryz.results4 (Res.tmp rfl Res.nil) (fun w1 hw1 => ?_)
   exact ⟨(by rw [((hF.t hq1).f hq2).eq] <;> first | rfl | (simp only [List.length_set] <;> rfl)), hw1.ext_out⟩
  refine Z111 ?_
  refine JL_qg q_eql (k := ?_)
  refine Z489 ?_
  refine JL_dec 49 rfl (fun hq3 => ?_) (fun hq3 => ?_)
  ·refine JL_skips 7 rfl ?_
   refine Z514 ?_
   refine Z360 ?_
   refine JX_ret Tryz.results4 (Res.tmp rfl Res.nil) (fun w1 hw1 => ?_)
   exact ⟨(by rw [(((hF.t hq1).t hq2).pos hq3).eq] <;> first | rfl | (simp only [List.length_set] <;> rfl)), hw1.ext_out⟩
  refine Z411 ?_
  refine Z489 ?_
  refine JL_bool 52 rfl (fun hq4 => ?_) (fun hq4 => ?_)
  rotate_left
  ·exact Bool.noConfusion (Eq.trans hq1.symm hq4)
  refine Z111 ?_
  refine JL_qg q_eql (k := ?_)
  refine Z514 ?_
  refine Z515 ?_
  refine Z360 ?_
  refine JX_ret Tryz.results4 (Res.tmp rfl Res.nil) (fun w1 hw1 => ?_)
  exact ⟨(by rw [(((hF.t hq1).t hq2).neg hq3).eq] <;> first | rfl | (simp only [List.length_set] <;> rfl)), hw1.ext_out⟩
 refine Z111 ?_
 refine JL_qg q_neq (k := ?_)
 refine Z247 ?_
 refine J_dec rfl (fun hq5 => ?_) (fun hq5 => ?_)
 ·refine J_seq ?_
  refine Z174 ?_
  refine JL_bool 45 rfl (fun hq6 => ?_) (fun hq6 => ?_)
  rotate_left
  ·refine JL_skips 12 rfl ?_
   refine Z26 ?_
   refine Z510 ?_
   refine JX_ret Tryz.results4 (Res.tmp rfl Res.nil) (fun w1 hw1 => ?_)
   exact ⟨(by rw [(((hF.f hq1).pos hq5).f hq6).eq] <;> first | rfl | (simp only [List.length_set] <;> rfl)), hw1.ext_out⟩
  refine Z111 ?_
  refine JL_qg q_eql (k := ?_)
  refine Z489 ?_
  refine JL_dec 49 rfl (fun hq7 => ?_) (fun hq7 => ?_)
  ·refine JL_skips 7 rfl ?_
   refine Z514 ?_
   refine Z360 ?_
   refine JX_ret Tryz.results4 (Res.tmp rfl Res.nil) (fun w1 hw1 => ?_)
   exact ⟨(by rw [((((hF.f hq1).pos hq5).t hq6).pos hq7).eq] <;> first | rfl | (simp only [List.length_set] <;> rfl)), hw1.ext_out⟩
  refine Z411 ?_
  refine Z489 ?_
  refine JL_bool 52 rfl (fun hq8 => ?_) (fun hq8 => ?_)
  ·exact Bool.noConfusion (Eq.trans hq1.symm hq8)
  refine JL_skips 3 rfl ?_
  refine Z515 ?_
  refine Z515 ?_
  refine Z360 ?_
  refine JX_ret Tryz.results4 (Res.tmp rfl Res.nil) (fun w1 hw1 => ?_)
  exact ⟨(by rw [((((hF.f hq1).pos hq5).t hq6).neg hq7).eq] <;> first | rfl | (simp only [List.length_set] <;> rfl)), hw1.ext_out⟩
 refine Z167 ?_
 refine Z535 ?_
 refine Z486 ?_
 refine Z206 ?_
 refine Z392 ?_
 refine Z126 ?_
 refine JL_p (c_callA Tryz.call17) (fun w1 hw1 => gApply_ok w1 (r := ((gApply (gCut r) 3 (Command.mk 5 ((gCutC c).name) 0 0 (Rule.mk false (Prefix.mk 0 0) (PortsT.mk 0 0)) ([] : Str) 0 0) now).1)) (role := 3) (c := (Command.mk 1 ((gCutC c).name) ((gCutC c).want) ((gCutC c).at_) ((gCutC c).rule) ((gCutC c).key) ((gCutC c).n) ((gCutC c).m))) (now := now) (h_r_slots_gens := (SlB.slj hs1_3) w1 hw1) (n_r_slots_gens := by first | omega | (simp; done) | exact Nat.le_trans (by assumption) (by decide)) (h_r_slots_used := (SlB.slj hs2_3) w1 hw1) (n_r_slots_used := by first | omega | (simp; done) | exact Nat.le_trans (by assumption) (by decide)) (h_r_slots_free := (SlB.slj hs3_3) w1 hw1) (n_r_slots_free := by first | omega | (simp; done) | exact Nat.le_trans (by assumption) (by decide)) (h_r_l := (SlNB.j hs4_3.1 sh).2 w1 hw1) (n_r_l := by first | omega | (simp; done) | exact Nat.le_trans (by assumption) (by decide)) (k_r_l := hs4_3.2) (i_c_at_ := by first | exact i_c_at_ | (simp; done) | (exact ⟨by decide, by decide⟩) | omega) (hG := hG.ext hw1.ext_out) (hE := hE.ext hw1.ext_out) (hsm := by first | assumption | exact Small.nil)) (k := ?_)
 rintro w1_4 e1_4 w2_4 hw1_4 ⟨a1_4, c1_4, a2_4, c2_4, a3_4, c3_4, a4_4, c4_4, t4_4, B_4, he_4, hf_4, hs1_4, hs2_4, hs3_4, hs4_4, hl1_4, hl2_4, hl3_4, hl4_4⟩
 refine ⟨_, _, he_4, hw1_4.fresh hf_4, ?_⟩
 have hap_74150 := gApply_small 3 (Command.mk 1 ((gCutC c).name) ((gCutC c).want) ((gCutC c).at_) ((gCutC c).rule) ((gCutC c).key) ((gCutC c).n) ((gCutC c).m)) now (by first | assumption | exact Small.nil : Small ((gApply (gCut r) 3 (Command.mk 5 ((gCutC c).name) 0 0 (Rule.mk false (Prefix.mk 0 0) (PortsT.mk 0 0)) ([] : Str) 0 0) now).1.l))
 have hab_74150 := gApply_bd ((gApply (gCut r) 3 (Command.mk 5 ((gCutC c).name) 0 0 (Rule.mk false (Prefix.mk 0 0) (PortsT.mk 0 0)) ([] : Str) 0 0) now).1) 3 (Command.mk 1 ((gCutC c).name) ((gCutC c).want) ((gCutC c).at_) ((gCutC c).rule) ((gCutC c).key) ((gCutC c).n) ((gCutC c).m)) now
 try dsimp only at hab_74150
 refine Z37 ?_
 refine JL_a noMk (a_alloc (l := [_, _, _, _, _]) Tryz.zeroValue28) (k := fun r6 hr6 => ?_)
 refine JL_a noMk (a_alloc (l := [_, _, _, _, _, _]) Tryz.zeroValue44) (k := fun r7 hr7 => ?_)
 refine Z19 ?_
 refine Z392 ?_
 refine Z84 ?_
 refine JL_p (c_callA Tryz.call20) (fun w1 hw1 => gFind_ok w1 (r := ((gApply (gCut r) 3 (Command.mk 5 ((gCutC c).name) 0 0 (Rule.mk false (Prefix.mk 0 0) (PortsT.mk 0 0)) ([] : Str) 0 0) now).1)) (name := ((gCutC c).name)) (h_r_slots_gens := (SlB.slj hs1_3) w1 hw1) (n_r_slots_gens := by first | omega | (simp; done) | exact Nat.le_trans (by assumption) (by decide)) (h_r_slots_used := (SlB.slj hs2_3) w1 hw1) (n_r_slots_used := by first | omega | (simp; done) | exact Nat.le_trans (by assumption) (by decide)) (h_r_slots_free := (SlB.slj hs3_3) w1 hw1) (n_r_slots_free := by first | omega | (simp; done) | exact Nat.le_trans (by assumption) (by decide)) (h_r_l := (SlNB.j hs4_3.1 sh).2 w1 hw1) (n_r_l := by first | omega | (simp; done) | exact Nat.le_trans (by assumption) (by decide)) (k_r_l := hs4_3.2) (hsm := by first | assumption | exact Small.nil)) (k := ?_)
 rintro w1_5 e1_5 w2_5 hw1_5 ⟨a1_5, c1_5, a2_5, c2_5, B1_5, B2_5, he_5, hf_5, ho1_5, ho2_5, hl1_5, hl2_5⟩
 refine ⟨_, _, he_5, (hw1_5.fresh hf_5).perm (eqp (nA rfl)), ?_⟩
 have hfv_1764 := gFind_ver ((gApply (gCut r) 3 (Command.mk 5 ((gCutC c).name) 0 0 (Rule.mk false (Prefix.mk 0 0) (PortsT.mk 0 0)) ([] : Str) 0 0) now).1) ((gCutC c).name)
 refine Z37 ?_
 refine JL_a noMk (a_alloc (l := [_, _, _, _, _, _, _, _]) Tryz.zeroValue52) (k := fun r8 hr8 => ?_)
 refine Z122 ?_
 refine J_subL _ (sd (sx (sx (sk (sk (sa (sk (sa (sk (sa (sa (sd sz)))))))))))) ?_
 refine Z174 ?_
 refine JL_bool 75 rfl (fun hq9 => ?_) (fun hq9 => ?_)
 rotate_left
 ·refine JL_skips 2 rfl ?_
  refine Z254 ?_
  refine Z254 ?_
  refine Z5 ?_
  refine JL_skips 15 rfl ?_
  refine Z26 ?_
  refine JX_ret Tryz.results4 (Res.tmp rfl Res.nil) (fun w1 hw1 => ?_)
  exact ⟨(by rw [(((hF.f hq1).neg hq5).f hq9).eq] <;> first | rfl | (simp only [List.length_set] <;> rfl)), hw1.ext_out⟩
 refine Z411 ?_
 refine Z18 ?_
 refine JL_bool 79 rfl (fun hq10 => ?_) (fun hq10 => ?_)
 rotate_left
 ·refine JL_skips 6 rfl ?_
  refine Z254 ?_
  refine Z5 ?_
  refine JL_skips 15 rfl ?_
  refine Z26 ?_
  refine JX_ret Tryz.results4 (Res.tmp rfl Res.nil) (fun w1 hw1 => ?_)
  exact ⟨(by rw [((((hF.f hq1).neg hq5).t hq9).f hq10).eq] <;> first | rfl | (simp only [List.length_set] <;> rfl)), hw1.ext_out⟩
 refine JL_qg (q_fld FO_28_0) (k := ?_)
 refine JL_qg (q_loadA Tryz.isAgg25 Tryz.sizeOf25) (k := ?_)
 refine Z219 ?_
 refine JL_vg (c_callA Tryz.call21) (fun w1 hw1 => sValid_ok w1 (s := ((gApply (gCut r) 3 (Command.mk 5 ((gCutC c).name) 0 0 (Rule.mk false (Prefix.mk 0 0) (PortsT.mk 0 0)) ([] : Str) 0 0) now).1.slots)) (h := ((gFind (gCut r) ((gCutC c).name)).1.handle)) (h_s_gens := (SlB.slj hs1_3) w1 hw1) (n_s_gens := by first | omega | (simp; done) | exact Nat.le_trans (by assumption) (by decide)) (h_s_used := (SlB.slj hs2_3) w1 hw1) (n_s_used := by first | omega | (simp; done) | exact Nat.le_trans (by assumption) (by decide)) (h_s_free := (SlB.slj hs3_3) w1 hw1) (n_s_free := by first | omega | (simp; done) | exact Nat.le_trans (by assumption) (by decide))) (k := ?_)
 refine JL_qg q_not (k := ?_)
 refine Z18 ?_
 refine JL_bool 87 rfl (fun hq11 => ?_) (fun hq11 => ?_)
 rotate_left
 ·have hfhq11 := sValid_t (by simpa using hq11)
  refine JL_skips 6 rfl ?_
  refine Z5 ?_
  refine JL_skips 15 rfl ?_
  refine Z26 ?_
  refine JX_ret Tryz.results4 (Res.tmp rfl Res.nil) (fun w1 hw1 => ?_)
  exact ⟨(by rw [(((((hF.f hq1).neg hq5).t hq9).t hq10).f hq11).eq] <;> first | rfl | (simp only [List.length_set] <;> rfl)), hw1.ext_out⟩
 refine JL_qg (q_fld FO_28_0) (k := ?_)
 refine JL_qg (q_loadA Tryz.isAgg25 Tryz.sizeOf25) (k := ?_)
 refine Z219 ?_
 refine JL_vg (c_callA Tryz.call21) (fun w1 hw1 => sValid_ok w1 (s := ((gApply ((gApply (gCut r) 3 (Command.mk 5 ((gCutC c).name) 0 0 (Rule.mk false (Prefix.mk 0 0) (PortsT.mk 0 0)) ([] : Str) 0 0) now).1) 3 (Command.mk 1 ((gCutC c).name) ((gCutC c).want) ((gCutC c).at_) ((gCutC c).rule) ((gCutC c).key) ((gCutC c).n) ((gCutC c).m)) now).1.slots)) (h := ((gFind (gCut r) ((gCutC c).name)).1.handle)) (h_s_gens := (SlB.slj hs1_4) w1 hw1) (n_s_gens := by first | omega | (simp; done) | exact Nat.le_trans (by assumption) (by decide)) (h_s_used := (SlB.slj hs2_4) w1 hw1) (n_s_used := by first | omega | (simp; done) | exact Nat.le_trans (by assumption) (by decide)) (h_s_free := (SlB.slj hs3_4) w1 hw1) (n_s_free := by first | omega | (simp; done) | exact Nat.le_trans (by assumption) (by decide))) (k := ?_)
 refine JL_qg q_not (k := ?_)
 refine Z18 ?_
 refine JL_bool 95 rfl (fun hq12 => ?_) (fun hq12 => ?_)
 rotate_left
 ·have hfhq12 := sValid_t (by simpa using hq12)
  refine JL_skips 15 rfl ?_
  refine Z26 ?_
  refine JX_ret Tryz.results4 (Res.tmp rfl Res.nil) (fun w1 hw1 => ?_)
  exact ⟨(by rw [((((((hF.f hq1).neg hq5).t hq9).t hq10).t hq11).f hq12).eq] <;> first | rfl | (simp only [List.length_set] <;> rfl)), hw1.ext_out⟩
 refine Z111 ?_
 refine JL_qg q_neq (k := ?_)
 refine Z489 ?_
 refine JL_dec 99 rfl (fun hq13 => ?_) (fun hq13 => ?_)
 ·refine JL_skips 10 rfl ?_
  refine Z514 ?_
  refine Z79 ?_
  refine JX_ret Tryz.results4 (Res.tmp rfl Res.nil) (fun w1 hw1 => ?_)
  exact ⟨(by rw [(((((((hF.f hq1).neg hq5).t hq9).t hq10).t hq11).t hq12).pos hq13).eq] <;> first | rfl | (simp only [List.length_set] <;> rfl)), hw1.ext_out⟩
 refine Z332 ?_
 refine Z219 ?_
 refine JL_qg (q_neS (NE_42 _ _ _ _ _ _)) (k := ?_)
 refine Z489 ?_
 refine JL_dec 105 rfl (fun hq14 => ?_) (fun hq14 => ?_)
 rotate_left
 ·refine JL_skips 3 rfl ?_
  refine Z515 ?_
  refine Z515 ?_
  refine Z79 ?_
  refine JX_ret Tryz.results4 (Res.tmp rfl Res.nil) (fun w1 hw1 => ?_)
  exact ⟨(by rw [((((((((hF.f hq1).neg hq5).t hq9).t hq10).t hq11).t hq12).neg hq13).neg hq14).eq] <;> first | rfl | (simp only [List.length_set] <;> rfl)), hw1.ext_out⟩
 refine JL_qg (q_fld FO_44_3) (k := ?_)
 refine Z80 ?_
 refine Z514 ?_
 refine Z515 ?_
 refine Z79 ?_
 refine JX_ret Tryz.results4 (Res.tmp rfl Res.nil) (fun w1 hw1 => ?_)
 exact ⟨(by rw [((((((((hF.f hq1).neg hq5).t hq9).t hq10).t hq11).t hq12).neg hq13).pos hq14).eq] <;> first | rfl | (simp only [List.length_set] <;> rfl)), hw1.ext_out⟩

end Go.Proofs.YtopjaeoklkpcpaaGreatDoor.Jd

namespace Go.Proofs.YtopjaeoklkpcpaaGreatDoor.Jd
set_option linter.unusedVariables false
set_option linter.unusedSimpArgs false
section
variable {r : Registry} {role : Int} {c : Command} {now : Int}
theorem apply_missing (hf : Fit r now) (hm : roMay role c.verb = true) (v1 : c.verb ≠ 1) (v9 : c.verb ≠ 9) (hn : ∀ t ∈ r.l, t.name ≠ c.name) : gApply r role c now = failR r 154 := by
  rw [gApply_do (fit_iff.1 hf) hm]
  unfold doD
  rw [if_neg v1, if_neg v9, place_none hn]; rfl
end
end Go.Proofs.YtopjaeoklkpcpaaGreatDoor.Jd

namespace Go.Proofs.YtopjaeoklkpcpaaGreatDoor.Jd
set_option maxRecDepth 100000
set_option linter.unusedVariables false
set_option linter.unusedSimpArgs false
section
variable {r : Registry} {role : Int} {c : Command} {now : Int} {x : Registry × Reply}
theorem Out.delOf (h : Out r role c now x) (he : x.2.err = 0) (hv : c.verb = 5) : ∃ i, Fit r now ∧ i < r.l.length ∧ (r.l.getD i default).name = c.name ∧ x = (Registry.mk (sGive r.slots (r.l.getD i default).handle).1 (delL r.l i (i + 1)) (r.seq + 1), Reply.mk 0 (r.seq + 1) (r.l.getD i default).handle ((r.l.getD i default).version + 1) (r.l.getD i default).state) := by
  cases h with
  | none h => cases he
  | fail h e h0 h1 => exact absurd he h0
  | new h hm hv2 hn hf h1 h2 => omega
  | list h hm hv2 => omega
  | del h hm hv2 i hi hn hw => exact ⟨i, h, hi, hn, rfl⟩
  | look h hm hv2 i hi hn hw => omega
  | put h hm hv2 i hi hn hw hc hs => omega
end
theorem sValid_dead {s : Slots} {h : Handle} (hd : SlT.Dead h.slot h.gen s.gens s.used) : sValid s h = false := by
  cases hv : sValid s h with
  | false => rfl
  | true =>
    have hm := (sValid_iff s h).1 hv
    cases hr : sRight s with
    | false => rw [sAll_bad hr] at hm; cases hm
    | true =>
      have h2 : (h.slot, h.gen) ∈ SlT.allD s.gens s.used s.free := by rw [← sAll_eq]; exact mem_map_hT.2 hm
      exact absurd h2 (SlT.dead_not (by rw [← sRight_eq]; exact hr) hd)
end Go.Proofs.YtopjaeoklkpcpaaGreatDoor.Jd

namespace Go.Proofs.YtopjaeoklkpcpaaGreatDoor.Jd
set_option maxRecDepth 100000
set_option linter.unusedVariables false
set_option linter.unusedSimpArgs false
theorem lRegistryOld_true (r : Registry) (c : Command) (now : Int) : lRegistryOld r c now = true := by
  unfold lRegistryOld
  simp only [gShown_true, if_true]
  generalize gCut r = s
  generalize gCutC c = d
  generalize d.name = nm
  have h := apply_out s 3 (Command.mk 5 nm 0 0 (Rule.mk false (Prefix.mk 0 0) (PortsT.mk 0 0)) ([] : Str) 0 0) now
  have hmay : roMay 3 (Command.mk 5 nm 0 0 (Rule.mk false (Prefix.mk 0 0) (PortsT.mk 0 0)) ([] : Str) 0 0).verb = true := may3 (by simp)
  cases hfd : (gFind s nm).2 with
  | false =>
    simp only [Bool.not_false, if_true]
    have hno := find_false hfd
    by_cases hf : Fit s now
    · rw [apply_missing hf hmay (by simp) (by simp) hno]; rfl
    · rw [gApply_bad fun h => hf (fit_iff.2 h)]; rfl
  | true =>
    obtain ⟨hm, hmn⟩ := find_true hfd
    generalize (gFind s nm).1 = t at *
    simp only [Bool.not_true, Bool.false_eq_true, if_false]
    by_cases he : (gApply s 3 (Command.mk 5 nm 0 0 (Rule.mk false (Prefix.mk 0 0) (PortsT.mk 0 0)) ([] : Str) 0 0) now).2.err = 0
    rotate_left
    · rw [if_pos he, if_pos]
      by_cases hf : Fit s now
      · obtain ⟨i, hi, e⟩ := mem_getD' hm
        rw [apply_at hf hmay (by simp) (by simp) hi (by rw [e]; exact hmn) (.inl rfl)] at he
        exact absurd (by simp [changeD]) he
      · rw [gApply_bad fun h => hf (fit_iff.2 h)]; rfl
    rw [if_neg (by simpa using he)]
    generalize gApply s 3 (Command.mk 5 nm 0 0 (Rule.mk false (Prefix.mk 0 0) (PortsT.mk 0 0)) ([] : Str) 0 0) now = x at h he ⊢
    obtain ⟨i, hf, hi, hn, rfl⟩ := h.delOf he rfl
    have ht : s.l.getD i default = t := names_inj hf.right.names (getD_mem' hi) hm (by rw [hn, hmn])
    have hg := (give_ok (s := s.slots) (h := t.handle) (hf.right.handle hm)).2
    have hR := hf.right.del hf.lt hi
    rw [ht] at hR ⊢
    simp only
    generalize (sGive s.slots t.handle).1 = sl at *
    have hnone : gFind (Registry.mk sl (delL s.l i (i + 1)) (s.seq + 1)) nm = (noT, false) := find_none fun u hu e => by
      have hnd : s.l.Nodup := List.Pairwise.of_map Tenant.name (fun a b hab e => hab (by rw [e])) hf.right.names
      obtain ⟨h1, h2⟩ := (mem_del hnd hi u).1 hu
      exact h2 (names_inj hf.right.names h1 (getD_mem' hi) (by rw [e, hn]))
    rw [hnone, sValid_dead hg.dead]
    simp only [Bool.not_false, if_true]
    have o2 := apply_out (Registry.mk sl (delL s.l i (i + 1)) (s.seq + 1)) 3 (Command.mk 1 nm d.want d.at_ d.rule d.key d.n d.m) now
    generalize gApply (Registry.mk sl (delL s.l i (i + 1)) (s.seq + 1)) 3 (Command.mk 1 nm d.want d.at_ d.rule d.key d.n d.m) now = y at o2 ⊢
    by_cases e2 : y.2.err = 0
    · obtain ⟨f2, _, _, h1, _, rfl⟩ := o2.newOf e2 rfl
      have hk := take_ok h1
      simp only at hk ⊢
      have hd := hk.dead _ _ hg.dead
      rw [sValid_dead hd.1]
      simp only [Bool.not_false, if_true]
      rw [if_neg (by simp), if_pos (fun e => hd.2 e)]; simp
    · have hsv : sValid y.1.slots t.handle = false := by
        by_cases e3 : y.2.err = 150
        · obtain ⟨_, rfl⟩ := o2.bad e3
          cases hv : sValid noR.1.slots t.handle with
          | false => rfl
          | true =>
            have := (sValid_iff _ _).1 hv
            rw [show sAll noR.1.slots = [] from by decide] at this; cases this
        · obtain ⟨_, hy⟩ := o2.err e3 e2
          rw [hy]; exact sValid_dead hg.dead
      rw [hsv]
      simp only [Bool.not_false, if_true]
      rw [if_pos (by simpa using e2)]
end Go.Proofs.YtopjaeoklkpcpaaGreatDoor.Jd

