/- Part of the proofs of this seat: walks and plain facts. No condition. -/
import Derived.Test.YtopjaeoklkpcpaaGreatDoorP0
import Derived.Test.YtopjaeoklkpcpaaGreatDoorProg
import Derived.Test.YtopjaeoklkpcpaaGreatDoorP5
import Derived.Test.YtopjaeoklkpcpaaGreatDoorP1
import Derived.Test.YtopjaeoklkpcpaaGreatDoorP2
import Derived.Test.YtopjaeoklkpcpaaGreatDoorP3
import Derived.Test.YtopjaeoklkpcpaaGreatDoorP4
namespace Go.Proofs.YtopjaeoklkpcpaaGreatDoor.Jd
open Go.Proofs
open Go.RowKit (Below)
set_option maxRecDepth 100000
set_option maxHeartbeats 8000000
set_option linter.unusedVariables false
set_option linter.unusedSimpArgs false
def lRegistryDrains (r : Registry) (name : Str) (now : Int) (n_ : Int) : Bool := (if ((gApply (gCut r) 2 (Command.mk 4 (name.take ((if 41 < ((name.length : Nat) : Int) then 41 else ((name.length : Nat) : Int)).toNat)) 0 0 (Rule.mk false (Prefix.mk 0 0) (PortsT.mk 0 0)) ([] : Str) n_ 0) now).2.err) ≠ 0 then gShown else (if 1000000 < ((gApply (gCut r) 2 (Command.mk 4 (name.take ((if 41 < ((name.length : Nat) : Int) then 41 else ((name.length : Nat) : Int)).toNat)) 0 0 (Rule.mk false (Prefix.mk 0 0) (PortsT.mk 0 0)) ([] : Str) n_ 0) now).1.seq) then gShown else (if gShown = true then (if ((gFind ((gApply (gCut r) 2 (Command.mk 4 (name.take ((if 41 < ((name.length : Nat) : Int) then 41 else ((name.length : Nat) : Int)).toNat)) 0 0 (Rule.mk false (Prefix.mk 0 0) (PortsT.mk 0 0)) ([] : Str) n_ 0) now).1) (name.take ((if 41 < ((name.length : Nat) : Int) then 41 else ((name.length : Nat) : Int)).toNat))).1.state) = 3 then (if ((gFind ((gApply (gCut r) 2 (Command.mk 4 (name.take ((if 41 < ((name.length : Nat) : Int) then 41 else ((name.length : Nat) : Int)).toNat)) 0 0 (Rule.mk false (Prefix.mk 0 0) (PortsT.mk 0 0)) ([] : Str) n_ 0) now).1) (name.take ((if 41 < ((name.length : Nat) : Int) then 41 else ((name.length : Nat) : Int)).toNat))).1.deadline) = (now + n_) then (if ((gApply ((gApply (gCut r) 2 (Command.mk 4 (name.take ((if 41 < ((name.length : Nat) : Int) then 41 else ((name.length : Nat) : Int)).toNat)) 0 0 (Rule.mk false (Prefix.mk 0 0) (PortsT.mk 0 0)) ([] : Str) n_ 0) now).1) 2 (Command.mk 3 (name.take ((if 41 < ((name.length : Nat) : Int) then 41 else ((name.length : Nat) : Int)).toNat)) 0 0 (Rule.mk false (Prefix.mk 0 0) (PortsT.mk 0 0)) ([] : Str) 0 0) now).2.err) = 156 then (if ((gApply ((gApply (gCut r) 2 (Command.mk 4 (name.take ((if 41 < ((name.length : Nat) : Int) then 41 else ((name.length : Nat) : Int)).toNat)) 0 0 (Rule.mk false (Prefix.mk 0 0) (PortsT.mk 0 0)) ([] : Str) n_ 0) now).1) 2 (Command.mk 4 (name.take ((if 41 < ((name.length : Nat) : Int) then 41 else ((name.length : Nat) : Int)).toNat)) 0 0 (Rule.mk false (Prefix.mk 0 0) (PortsT.mk 0 0)) ([] : Str) n_ 0) now).2.err) = 156 then (if ((gApply ((gApply (gCut r) 2 (Command.mk 4 (name.take ((if 41 < ((name.length : Nat) : Int) then 41 else ((name.length : Nat) : Int)).toNat)) 0 0 (Rule.mk false (Prefix.mk 0 0) (PortsT.mk 0 0)) ([] : Str) n_ 0) now).1) 2 (Command.mk 2 (name.take ((if 41 < ((name.length : Nat) : Int) then 41 else ((name.length : Nat) : Int)).toNat)) 0 0 (Rule.mk false (Prefix.mk 0 0) (PortsT.mk 0 0)) ([] : Str) 0 0) now).2.err) = 0 then (if ((gFind ((gApply ((gApply (gCut r) 2 (Command.mk 4 (name.take ((if 41 < ((name.length : Nat) : Int) then 41 else ((name.length : Nat) : Int)).toNat)) 0 0 (Rule.mk false (Prefix.mk 0 0) (PortsT.mk 0 0)) ([] : Str) n_ 0) now).1) 2 (Command.mk 2 (name.take ((if 41 < ((name.length : Nat) : Int) then 41 else ((name.length : Nat) : Int)).toNat)) 0 0 (Rule.mk false (Prefix.mk 0 0) (PortsT.mk 0 0)) ([] : Str) 0 0) now).1) (name.take ((if 41 < ((name.length : Nat) : Int) then 41 else ((name.length : Nat) : Int)).toNat))).1.state) = 2 then decide (((gFind ((gApply ((gApply (gCut r) 2 (Command.mk 4 (name.take ((if 41 < ((name.length : Nat) : Int) then 41 else ((name.length : Nat) : Int)).toNat)) 0 0 (Rule.mk false (Prefix.mk 0 0) (PortsT.mk 0 0)) ([] : Str) n_ 0) now).1) 2 (Command.mk 2 (name.take ((if 41 < ((name.length : Nat) : Int) then 41 else ((name.length : Nat) : Int)).toNat)) 0 0 (Rule.mk false (Prefix.mk 0 0) (PortsT.mk 0 0)) ([] : Str) 0 0) now).1) (name.take ((if 41 < ((name.length : Nat) : Int) then 41 else ((name.length : Nat) : Int)).toNat))).1.deadline) = 0) else false) else false) else false) else false) else false) else false) else false)))
end Go.Proofs.YtopjaeoklkpcpaaGreatDoor.Jd

namespace Go.Proofs.YtopjaeoklkpcpaaGreatDoor.Jd
set_option maxRecDepth 100000
set_option linter.unusedVariables false
set_option linter.unusedSimpArgs false
theorem lRegistryDrains_true (r : Registry) (name : Str) (now n : Int) : lRegistryDrains r name now n = true := by
  unfold lRegistryDrains
  simp only [gShown_true, if_true]
  generalize name.take (if 41 < ((name.length : Nat) : Int) then 41 else ((name.length : Nat) : Int)).toNat = nm
  generalize gCut r = s
  have h := apply_out s 2 (Command.mk 4 nm 0 0 (Rule.mk false (Prefix.mk 0 0) (PortsT.mk 0 0)) ([] : Str) n 0) now
  generalize gApply s 2 (Command.mk 4 nm 0 0 (Rule.mk false (Prefix.mk 0 0) (PortsT.mk 0 0)) ([] : Str) n 0) now = x at h ⊢
  by_cases he : x.2.err = 0
  rotate_left
  · rw [if_pos he]
  rw [if_neg (by simpa using he)]
  by_cases hq : 1000000 < x.1.seq
  · rw [if_pos hq]
  rw [if_neg hq]
  obtain ⟨i, hf, hi, hn, hc, hs, rfl⟩ := h.putOf he (.inr (.inr (.inl rfl)))
  generalize hu : (chg (s.l.getD i default) (Command.mk 4 nm 0 0 (Rule.mk false (Prefix.mk 0 0) (PortsT.mk 0 0)) ([] : Str) n 0) now).1 = u at *
  have hu1 : u.name = nm := by rw [← hu]; exact hn
  have hu2 : u.state = 3 := by rw [← hu]; rfl
  have hu3 : u.deadline = now + n := by rw [← hu]; rfl
  simp only at hq ⊢
  have hi2 : i < (s.l.set i u).length := by simpa using hi
  have hg : (s.l.set i u).getD i default = u := getD_set' hi u
  have fs : Fit ⟨s.slots, s.l.set i u, s.seq + 1⟩ now := ⟨hs, by simp only; omega, hf.nn⟩
  have hfind := find_set (r := s) (s := ⟨s.slots, s.l.set i u, s.seq + 1⟩) hs hi rfl
  rw [hu1] at hfind
  have a3 := apply_at (c := Command.mk 3 nm 0 0 (Rule.mk false (Prefix.mk 0 0) (PortsT.mk 0 0)) ([] : Str) 0 0) fs (may2 (.inr (.inl rfl))) (by simp) (by simp) hi2 (by rw [hg]; exact hu1) (.inl rfl)
  have a4 := apply_at (c := Command.mk 4 nm 0 0 (Rule.mk false (Prefix.mk 0 0) (PortsT.mk 0 0)) ([] : Str) n 0) fs (may2 (.inr (.inr rfl))) (by simp) (by simp) hi2 (by rw [hg]; exact hu1) (.inl rfl)
  have a2 := apply_at (c := Command.mk 2 nm 0 0 (Rule.mk false (Prefix.mk 0 0) (PortsT.mk 0 0)) ([] : Str) 0 0) fs (may2 (.inl rfl)) (by simp) (by simp) hi2 (by rw [hg]; exact hu1) (.inl rfl)
  have o2 := apply_out ⟨s.slots, s.l.set i u, s.seq + 1⟩ 2 (Command.mk 2 nm 0 0 (Rule.mk false (Prefix.mk 0 0) (PortsT.mk 0 0)) ([] : Str) 0 0) now
  simp only [hg] at a2 a3 a4
  rw [hfind, a3, a4]
  have e3 : (changeD ⟨s.slots, s.l.set i u, s.seq + 1⟩ (Command.mk 3 nm 0 0 (Rule.mk false (Prefix.mk 0 0) (PortsT.mk 0 0)) ([] : Str) 0 0) now (i : Int) u).2.err = 156 := by simp [changeD, chg, hu2, failR]
  have e4 : (changeD ⟨s.slots, s.l.set i u, s.seq + 1⟩ (Command.mk 4 nm 0 0 (Rule.mk false (Prefix.mk 0 0) (PortsT.mk 0 0)) ([] : Str) n 0) now (i : Int) u).2.err = 156 := by simp [changeD, chg, hu2, failR]
  have e2 : (changeD ⟨s.slots, s.l.set i u, s.seq + 1⟩ (Command.mk 2 nm 0 0 (Rule.mk false (Prefix.mk 0 0) (PortsT.mk 0 0)) ([] : Str) 0 0) now (i : Int) u).2.err = 0 := by simp [changeD, chg, hu2]
  rw [e3, e4]
  generalize hy : gApply ⟨s.slots, s.l.set i u, s.seq + 1⟩ 2 (Command.mk 2 nm 0 0 (Rule.mk false (Prefix.mk 0 0) (PortsT.mk 0 0)) ([] : Str) 0 0) now = y at o2 a2 ⊢
  have ey : y.2.err = 0 := by rw [a2]; exact e2
  obtain ⟨j, _, hj, hjn, _, hjs, rfl⟩ := o2.putOf ey (.inl rfl)
  simp only at hj hjn hjs ⊢
  generalize hv : (chg ((s.l.set i u).getD j default) (Command.mk 2 nm 0 0 (Rule.mk false (Prefix.mk 0 0) (PortsT.mk 0 0)) ([] : Str) 0 0) now).1 = v at *
  have hv1 : v.name = nm := by rw [← hv]; exact hjn
  have hfind2 := find_set (r := ⟨s.slots, s.l.set i u, s.seq + 1⟩) (s := ⟨s.slots, (s.l.set i u).set j v, s.seq + 1 + 1⟩) hjs hj rfl
  rw [hv1] at hfind2
  rw [hfind2]
  have hv2 : v.state = 2 := by rw [← hv]; rfl
  have hv3 : v.deadline = 0 := by rw [← hv]; rfl
  simp [hu2, hu3, hv2, hv3]
end Go.Proofs.YtopjaeoklkpcpaaGreatDoor.Jd

namespace Go.Proofs.YtopjaeoklkpcpaaGreatDoor.Jd
open Go.Proofs
open Go.RowKit (Below)
set_option maxRecDepth 100000
set_option maxHeartbeats 8000000
set_option linter.unusedVariables false
set_option linter.unusedSimpArgs false
theorem lRegistryDrains_ok (w : World) {r_slots_gens_a : Option Addr} {r_slots_gens_c : Nat} {r_slots_used_a : Option Addr} {r_slots_used_c : Nat} {r_slots_free_a : Option Addr} {r_slots_free_c : Nat} {r_l_a : Option Addr} {r_l_c : Nat} {r_l_t : List TA} {ea0 : Addr} {ea1 : Addr} {ea2 : Addr} {ea3 : Addr} {r : Registry} {name : Str} {now : Int} {n_ : Int} (h_r_slots_gens : Sl w eI 1 r_slots_gens_a r.slots.gens) (k_r_slots_gens : r.slots.gens.length ≤ r_slots_gens_c) (h_r_slots_used : Sl w eB 1 r_slots_used_a r.slots.used) (k_r_slots_used : r.slots.used.length ≤ r_slots_used_c) (h_r_slots_free : Sl w eI 1 r_slots_free_a r.slots.free) (k_r_slots_free : r.slots.free.length ≤ r_slots_free_c) (h_r_l : SlN w eTenant 8 DT r_l_a r.l r_l_t) (k_r_l : r.l.length ≤ r_l_c) (hG : Gl w) (hE : Er w ea0 ea1 ea2 ea3) : Val Tryz.prog 5 [(Value.agg [(vs r_slots_gens_a r.slots.gens.length r_slots_gens_c), (vs r_slots_used_a r.slots.used.length r_slots_used_c), (vs r_slots_free_a r.slots.free.length r_slots_free_c), (vs r_l_a r.l.length r_l_c), (vi r.seq)].toArray), (vt name), (vi now), (vi n_)] w (Value.bool (lRegistryDrains r name now n_)) := by
 have hF := Is.refl (lRegistryDrains r name now n_)
 refine enter Tryz.func5 Tryz.ntmps5 (h := ?_)
 refine Z2 ?_
 refine JL_a noMk (a_box (l := [_, _, _, _, _])) (k := fun r1 hr1 => ?_)
 refine Z96 ?_
 refine Z1 ?_
 refine Z24 ?_
 rintro w1_1 e1_1 w2_1 hw1_1 ⟨a1_1, c1_1, t1_1, B_1, he_1, hf_1, hs1_1, hl1_1⟩
 refine ⟨_, _, he_1, hw1_1.fresh hf_1, ?_⟩
 have hcb_1 := gCut_bd r
 have hsm_1 := gCut_small r
 refine Z133 ?_
 refine Z39 ?_
 refine Z278 ?_
 have hsb1 : (name.take ((if 41 < ((name.length : Nat) : Int) then 41 else ((name.length : Nat) : Int)).toNat)).length = ((if 41 < ((name.length : Nat) : Int) then 41 else ((name.length : Nat) : Int)).toNat) := by first | omega | (simp only [List.length_take, List.length_drop, List.length_cons, List.length_nil] <;> omega)
 refine Z1 ?_
 refine Z21 ?_
 refine Z27 ?_
 refine Z531 ?_
 refine Z87 ?_
 rintro w1_2 e1_2 w2_2 hw1_2 ⟨a1_2, c1_2, a2_2, c2_2, a3_2, c3_2, a4_2, c4_2, t4_2, B_2, he_2, hf_2, hs1_2, hs2_2, hs3_2, hs4_2, hl1_2, hl2_2, hl3_2, hl4_2⟩
 refine ⟨_, _, he_2, hw1_2.fresh hf_2, ?_⟩
 have hap_32771 := gApply_small 2 (Command.mk 4 (name.take ((if 41 < ((name.length : Nat) : Int) then 41 else ((name.length : Nat) : Int)).toNat)) 0 0 (Rule.mk false (Prefix.mk 0 0) (PortsT.mk 0 0)) ([] : Str) n_ 0) now (by first | assumption | exact Small.nil : Small ((gCut r).l))
 have hab_32771 := gApply_bd (gCut r) 2 (Command.mk 4 (name.take ((if 41 < ((name.length : Nat) : Int) then 41 else ((name.length : Nat) : Int)).toNat)) 0 0 (Rule.mk false (Prefix.mk 0 0) (PortsT.mk 0 0)) ([] : Str) n_ 0) now
 try dsimp only at hab_32771
 refine Z37 ?_
 refine JL_a noMk (a_alloc (l := [_, _, _, _, _]) Tryz.zeroValue28) (k := fun r2 hr2 => ?_)
 refine JL_a noMk (a_alloc (l := [_, _, _, _, _, _]) Tryz.zeroValue44) (k := fun r3 hr3 => ?_)
 refine Z455 ?_
 refine J_subL _ (sk (sk (sa (sx (sd sz))))) ?_
 refine Z425 ?_
 refine JL_q q_neq (k := ?_)
 refine Z481 ?_
 refine JL_dec 42 rfl (fun hq1 => ?_) (fun hq1 => ?_)
 ·refine JL_skips 3 rfl ?_
  refine Z114 ?_
  refine J_seq ?_
  refine J_subL _ (sd (sk (sa sz))) ?_
  refine Z376 ?_
  refine JX_ret Tryz.results5 (Res.tmp rfl Res.nil) (fun w1 hw1 => ?_)
  exact ⟨(by rw [(hF.pos hq1).eq] <;> first | rfl | (simp only [List.length_set] <;> rfl)), hw1.ext_out⟩
 refine Z157 ?_
 refine JL_qg q_gtr (k := ?_)
 refine Z247 ?_
 refine J_dec rfl (fun hq2 => ?_) (fun hq2 => ?_)
 ·refine J_seq ?_
  refine J_subL _ (sd (sk (sa sz))) ?_
  refine Z376 ?_
  refine JX_ret Tryz.results5 (Res.tmp rfl Res.nil) (fun w1 hw1 => ?_)
  exact ⟨(by rw [((hF.neg hq1).pos hq2).eq] <;> first | rfl | (simp only [List.length_set] <;> rfl)), hw1.ext_out⟩
 refine Z167 ?_
 refine J_subL _ (sd (sk (sa sz))) ?_
 refine Z50 ?_
 refine Z481 ?_
 refine JL_p (c_callA Tryz.call20) (fun w1 hw1 => gFind_ok w1 (r := ((gApply (gCut r) 2 (Command.mk 4 (name.take ((if 41 < ((name.length : Nat) : Int) then 41 else ((name.length : Nat) : Int)).toNat)) 0 0 (Rule.mk false (Prefix.mk 0 0) (PortsT.mk 0 0)) ([] : Str) n_ 0) now).1)) (name := (name.take ((if 41 < ((name.length : Nat) : Int) then 41 else ((name.length : Nat) : Int)).toNat))) (h_r_slots_gens := (SlB.slj hs1_2) w1 hw1) (n_r_slots_gens := by first | omega | (simp; done) | exact Nat.le_trans (by assumption) (by decide)) (h_r_slots_used := (SlB.slj hs2_2) w1 hw1) (n_r_slots_used := by first | omega | (simp; done) | exact Nat.le_trans (by assumption) (by decide)) (h_r_slots_free := (SlB.slj hs3_2) w1 hw1) (n_r_slots_free := by first | omega | (simp; done) | exact Nat.le_trans (by assumption) (by decide)) (h_r_l := (SlNB.j hs4_2.1 sh).2 w1 hw1) (n_r_l := by first | omega | (simp; done) | exact Nat.le_trans (by assumption) (by decide)) (k_r_l := hs4_2.2) (hsm := by first | assumption | exact Small.nil)) (k := ?_)
 rintro w1_3 e1_3 w2_3 hw1_3 ⟨a1_3, c1_3, a2_3, c2_3, B1_3, B2_3, he_3, hf_3, ho1_3, ho2_3, hl1_3, hl2_3⟩
 refine ⟨_, _, he_3, (hw1_3.fresh hf_3).perm (eqp (nA rfl)), ?_⟩
 have hfv_62138 := gFind_ver ((gApply (gCut r) 2 (Command.mk 4 (name.take ((if 41 < ((name.length : Nat) : Int) then 41 else ((name.length : Nat) : Int)).toNat)) 0 0 (Rule.mk false (Prefix.mk 0 0) (PortsT.mk 0 0)) ([] : Str) n_ 0) now).1) (name.take ((if 41 < ((name.length : Nat) : Int) then 41 else ((name.length : Nat) : Int)).toNat))
 refine Z37 ?_
 refine JL_a noMk (a_alloc (l := [_, _, _, _, _, _, _, _]) Tryz.zeroValue52) (k := fun r4 hr4 => ?_)
 refine Z346 ?_
 refine Z248 ?_
 refine Z148 ?_
 refine JL_p (c_callA Tryz.call17) (fun w1 hw1 => gApply_ok w1 (r := ((gApply (gCut r) 2 (Command.mk 4 (name.take ((if 41 < ((name.length : Nat) : Int) then 41 else ((name.length : Nat) : Int)).toNat)) 0 0 (Rule.mk false (Prefix.mk 0 0) (PortsT.mk 0 0)) ([] : Str) n_ 0) now).1)) (role := 2) (c := (Command.mk 3 (name.take ((if 41 < ((name.length : Nat) : Int) then 41 else ((name.length : Nat) : Int)).toNat)) 0 0 (Rule.mk false (Prefix.mk 0 0) (PortsT.mk 0 0)) ([] : Str) 0 0)) (now := now) (h_r_slots_gens := (SlB.slj hs1_2) w1 hw1) (n_r_slots_gens := by first | omega | (simp; done) | exact Nat.le_trans (by assumption) (by decide)) (h_r_slots_used := (SlB.slj hs2_2) w1 hw1) (n_r_slots_used := by first | omega | (simp; done) | exact Nat.le_trans (by assumption) (by decide)) (h_r_slots_free := (SlB.slj hs3_2) w1 hw1) (n_r_slots_free := by first | omega | (simp; done) | exact Nat.le_trans (by assumption) (by decide)) (h_r_l := (SlNB.j hs4_2.1 sh).2 w1 hw1) (n_r_l := by first | omega | (simp; done) | exact Nat.le_trans (by assumption) (by decide)) (k_r_l := hs4_2.2) (i_c_at_ := by first | exact i_c_at_ | (simp; done) | (exact ⟨by decide, by decide⟩) | omega) (hG := hG.ext hw1.ext_out) (hE := hE.ext hw1.ext_out) (hsm := by first | assumption | exact Small.nil)) (k := ?_)
 rintro w1_4 e1_4 w2_4 hw1_4 ⟨a1_4, c1_4, a2_4, c2_4, a3_4, c3_4, a4_4, c4_4, t4_4, B_4, he_4, hf_4, hs1_4, hs2_4, hs3_4, hs4_4, hl1_4, hl2_4, hl3_4, hl4_4⟩
 refine ⟨_, _, he_4, hw1_4.fresh hf_4, ?_⟩
 have hap_39800 := gApply_small 2 (Command.mk 3 (name.take ((if 41 < ((name.length : Nat) : Int) then 41 else ((name.length : Nat) : Int)).toNat)) 0 0 (Rule.mk false (Prefix.mk 0 0) (PortsT.mk 0 0)) ([] : Str) 0 0) now (by first | assumption | exact Small.nil : Small ((gApply (gCut r) 2 (Command.mk 4 (name.take ((if 41 < ((name.length : Nat) : Int) then 41 else ((name.length : Nat) : Int)).toNat)) 0 0 (Rule.mk false (Prefix.mk 0 0) (PortsT.mk 0 0)) ([] : Str) n_ 0) now).1.l))
 have hab_39800 := gApply_bd ((gApply (gCut r) 2 (Command.mk 4 (name.take ((if 41 < ((name.length : Nat) : Int) then 41 else ((name.length : Nat) : Int)).toNat)) 0 0 (Rule.mk false (Prefix.mk 0 0) (PortsT.mk 0 0)) ([] : Str) n_ 0) now).1) 2 (Command.mk 3 (name.take ((if 41 < ((name.length : Nat) : Int) then 41 else ((name.length : Nat) : Int)).toNat)) 0 0 (Rule.mk false (Prefix.mk 0 0) (PortsT.mk 0 0)) ([] : Str) 0 0) now
 try dsimp only at hab_39800
 refine Z37 ?_
 refine JL_a noMk (a_alloc (l := [_, _, _, _, _]) Tryz.zeroValue28) (k := fun r5 hr5 => ?_)
 refine JL_a noMk (a_alloc (l := [_, _, _, _, _, _]) Tryz.zeroValue44) (k := fun r6 hr6 => ?_)
 refine Z261 ?_
 refine J_subL _ (sk (sd (sx (sk (sa (sa (sk (sa sz)))))))) ?_
 refine Z50 ?_
 refine Z27 ?_
 refine Z148 ?_
 refine JL_p (c_callA Tryz.call17) (fun w1 hw1 => gApply_ok w1 (r := ((gApply (gCut r) 2 (Command.mk 4 (name.take ((if 41 < ((name.length : Nat) : Int) then 41 else ((name.length : Nat) : Int)).toNat)) 0 0 (Rule.mk false (Prefix.mk 0 0) (PortsT.mk 0 0)) ([] : Str) n_ 0) now).1)) (role := 2) (c := (Command.mk 4 (name.take ((if 41 < ((name.length : Nat) : Int) then 41 else ((name.length : Nat) : Int)).toNat)) 0 0 (Rule.mk false (Prefix.mk 0 0) (PortsT.mk 0 0)) ([] : Str) n_ 0)) (now := now) (h_r_slots_gens := (SlB.slj hs1_2) w1 hw1) (n_r_slots_gens := by first | omega | (simp; done) | exact Nat.le_trans (by assumption) (by decide)) (h_r_slots_used := (SlB.slj hs2_2) w1 hw1) (n_r_slots_used := by first | omega | (simp; done) | exact Nat.le_trans (by assumption) (by decide)) (h_r_slots_free := (SlB.slj hs3_2) w1 hw1) (n_r_slots_free := by first | omega | (simp; done) | exact Nat.le_trans (by assumption) (by decide)) (h_r_l := (SlNB.j hs4_2.1 sh).2 w1 hw1) (n_r_l := by first | omega | (simp; done) | exact Nat.le_trans (by assumption) (by decide)) (k_r_l := hs4_2.2) (i_c_at_ := by first | exact i_c_at_ | (simp; done) | (exact ⟨by decide, by decide⟩) | omega) (hG := hG.ext hw1.ext_out) (hE := hE.ext hw1.ext_out) (hsm := by first | assumption | exact Small.nil)) (k := ?_)
 rintro w1_5 e1_5 w2_5 hw1_5 ⟨a1_5, c1_5, a2_5, c2_5, a3_5, c3_5, a4_5, c4_5, t4_5, B_5, he_5, hf_5, hs1_5, hs2_5, hs3_5, hs4_5, hl1_5, hl2_5, hl3_5, hl4_5⟩
 refine ⟨_, _, he_5, hw1_5.fresh hf_5, ?_⟩
 have hap_43036 := gApply_small 2 (Command.mk 4 (name.take ((if 41 < ((name.length : Nat) : Int) then 41 else ((name.length : Nat) : Int)).toNat)) 0 0 (Rule.mk false (Prefix.mk 0 0) (PortsT.mk 0 0)) ([] : Str) n_ 0) now (by first | assumption | exact Small.nil : Small ((gApply (gCut r) 2 (Command.mk 4 (name.take ((if 41 < ((name.length : Nat) : Int) then 41 else ((name.length : Nat) : Int)).toNat)) 0 0 (Rule.mk false (Prefix.mk 0 0) (PortsT.mk 0 0)) ([] : Str) n_ 0) now).1.l))
 have hab_43036 := gApply_bd ((gApply (gCut r) 2 (Command.mk 4 (name.take ((if 41 < ((name.length : Nat) : Int) then 41 else ((name.length : Nat) : Int)).toNat)) 0 0 (Rule.mk false (Prefix.mk 0 0) (PortsT.mk 0 0)) ([] : Str) n_ 0) now).1) 2 (Command.mk 4 (name.take ((if 41 < ((name.length : Nat) : Int) then 41 else ((name.length : Nat) : Int)).toNat)) 0 0 (Rule.mk false (Prefix.mk 0 0) (PortsT.mk 0 0)) ([] : Str) n_ 0) now
 try dsimp only at hab_43036
 refine Z37 ?_
 refine JL_a noMk (a_alloc (l := [_, _, _, _, _]) Tryz.zeroValue28) (k := fun r7 hr7 => ?_)
 refine JL_a noMk (a_alloc (l := [_, _, _, _, _, _]) Tryz.zeroValue44) (k := fun r8 hr8 => ?_)
 refine Z261 ?_
 refine J_subL _ (sk (sd (sx (sk (sk (sa (sa (sk (sa sz))))))))) ?_
 refine Z50 ?_
 refine Z481 ?_
 refine Z148 ?_
 refine JL_p (c_callA Tryz.call17) (fun w1 hw1 => gApply_ok w1 (r := ((gApply (gCut r) 2 (Command.mk 4 (name.take ((if 41 < ((name.length : Nat) : Int) then 41 else ((name.length : Nat) : Int)).toNat)) 0 0 (Rule.mk false (Prefix.mk 0 0) (PortsT.mk 0 0)) ([] : Str) n_ 0) now).1)) (role := 2) (c := (Command.mk 2 (name.take ((if 41 < ((name.length : Nat) : Int) then 41 else ((name.length : Nat) : Int)).toNat)) 0 0 (Rule.mk false (Prefix.mk 0 0) (PortsT.mk 0 0)) ([] : Str) 0 0)) (now := now) (h_r_slots_gens := (SlB.slj hs1_2) w1 hw1) (n_r_slots_gens := by first | omega | (simp; done) | exact Nat.le_trans (by assumption) (by decide)) (h_r_slots_used := (SlB.slj hs2_2) w1 hw1) (n_r_slots_used := by first | omega | (simp; done) | exact Nat.le_trans (by assumption) (by decide)) (h_r_slots_free := (SlB.slj hs3_2) w1 hw1) (n_r_slots_free := by first | omega | (simp; done) | exact Nat.le_trans (by assumption) (by decide)) (h_r_l := (SlNB.j hs4_2.1 sh).2 w1 hw1) (n_r_l := by first | omega | (simp; done) | exact Nat.le_trans (by assumption) (by decide)) (k_r_l := hs4_2.2) (i_c_at_ := by first | exact i_c_at_ | (simp; done) | (exact ⟨by decide, by decide⟩) | omega) (hG := hG.ext hw1.ext_out) (hE := hE.ext hw1.ext_out) (hsm := by first | assumption | exact Small.nil)) (k := ?_)
 rintro w1_6 e1_6 w2_6 hw1_6 ⟨a1_6, c1_6, a2_6, c2_6, a3_6, c3_6, a4_6, c4_6, t4_6, B_6, he_6, hf_6, hs1_6, hs2_6, hs3_6, hs4_6, hl1_6, hl2_6, hl3_6, hl4_6⟩
 refine ⟨_, _, he_6, hw1_6.fresh hf_6, ?_⟩
 have hap_87141 := gApply_small 2 (Command.mk 2 (name.take ((if 41 < ((name.length : Nat) : Int) then 41 else ((name.length : Nat) : Int)).toNat)) 0 0 (Rule.mk false (Prefix.mk 0 0) (PortsT.mk 0 0)) ([] : Str) 0 0) now (by first | assumption | exact Small.nil : Small ((gApply (gCut r) 2 (Command.mk 4 (name.take ((if 41 < ((name.length : Nat) : Int) then 41 else ((name.length : Nat) : Int)).toNat)) 0 0 (Rule.mk false (Prefix.mk 0 0) (PortsT.mk 0 0)) ([] : Str) n_ 0) now).1.l))
 have hab_87141 := gApply_bd ((gApply (gCut r) 2 (Command.mk 4 (name.take ((if 41 < ((name.length : Nat) : Int) then 41 else ((name.length : Nat) : Int)).toNat)) 0 0 (Rule.mk false (Prefix.mk 0 0) (PortsT.mk 0 0)) ([] : Str) n_ 0) now).1) 2 (Command.mk 2 (name.take ((if 41 < ((name.length : Nat) : Int) then 41 else ((name.length : Nat) : Int)).toNat)) 0 0 (Rule.mk false (Prefix.mk 0 0) (PortsT.mk 0 0)) ([] : Str) 0 0) now
 try dsimp only at hab_87141
 refine Z37 ?_
 refine JL_a noMk (a_alloc (l := [_, _, _, _, _]) Tryz.zeroValue28) (k := fun r9 hr9 => ?_)
 refine JL_a noMk (a_alloc (l := [_, _, _, _, _, _]) Tryz.zeroValue44) (k := fun r10 hr10 => ?_)
 refine Z261 ?_
 refine J_subL _ (sk (sk (sa (sk (sk (sk (sa (sa (sd (sx sz)))))))))) ?_
 refine Z50 ?_
 refine Z481 ?_
 refine JL_p (c_callA Tryz.call20) (fun w1 hw1 => gFind_ok w1 (r := ((gApply ((gApply (gCut r) 2 (Command.mk 4 (name.take ((if 41 < ((name.length : Nat) : Int) then 41 else ((name.length : Nat) : Int)).toNat)) 0 0 (Rule.mk false (Prefix.mk 0 0) (PortsT.mk 0 0)) ([] : Str) n_ 0) now).1) 2 (Command.mk 2 (name.take ((if 41 < ((name.length : Nat) : Int) then 41 else ((name.length : Nat) : Int)).toNat)) 0 0 (Rule.mk false (Prefix.mk 0 0) (PortsT.mk 0 0)) ([] : Str) 0 0) now).1)) (name := (name.take ((if 41 < ((name.length : Nat) : Int) then 41 else ((name.length : Nat) : Int)).toNat))) (h_r_slots_gens := (SlB.slj hs1_6) w1 hw1) (n_r_slots_gens := by first | omega | (simp; done) | exact Nat.le_trans (by assumption) (by decide)) (h_r_slots_used := (SlB.slj hs2_6) w1 hw1) (n_r_slots_used := by first | omega | (simp; done) | exact Nat.le_trans (by assumption) (by decide)) (h_r_slots_free := (SlB.slj hs3_6) w1 hw1) (n_r_slots_free := by first | omega | (simp; done) | exact Nat.le_trans (by assumption) (by decide)) (h_r_l := (SlNB.j hs4_6.1 sh).2 w1 hw1) (n_r_l := by first | omega | (simp; done) | exact Nat.le_trans (by assumption) (by decide)) (k_r_l := hs4_6.2) (hsm := by first | assumption | exact Small.nil)) (k := ?_)
 rintro w1_7 e1_7 w2_7 hw1_7 ⟨a1_7, c1_7, a2_7, c2_7, B1_7, B2_7, he_7, hf_7, ho1_7, ho2_7, hl1_7, hl2_7⟩
 refine ⟨_, _, he_7, (hw1_7.fresh hf_7).perm (eqp (nA rfl)), ?_⟩
 have hfv_45475 := gFind_ver ((gApply ((gApply (gCut r) 2 (Command.mk 4 (name.take ((if 41 < ((name.length : Nat) : Int) then 41 else ((name.length : Nat) : Int)).toNat)) 0 0 (Rule.mk false (Prefix.mk 0 0) (PortsT.mk 0 0)) ([] : Str) n_ 0) now).1) 2 (Command.mk 2 (name.take ((if 41 < ((name.length : Nat) : Int) then 41 else ((name.length : Nat) : Int)).toNat)) 0 0 (Rule.mk false (Prefix.mk 0 0) (PortsT.mk 0 0)) ([] : Str) 0 0) now).1) (name.take ((if 41 < ((name.length : Nat) : Int) then 41 else ((name.length : Nat) : Int)).toNat))
 refine Z37 ?_
 refine JL_a noMk (a_alloc (l := [_, _, _, _, _, _, _, _]) Tryz.zeroValue52) (k := fun r11 hr11 => ?_)
 refine Z122 ?_
 refine J_subL _ (sk (sa (sa (sk (sd (sx (sk (sk (sk (sa (sa sz))))))))))) ?_
 refine Z174 ?_
 refine JL_bool 86 rfl (fun hq3 => ?_) (fun hq3 => ?_)
 rotate_left
 ·refine JL_skips 3 rfl ?_
  refine Z254 ?_
  refine Z319 ?_
  refine Z319 ?_
  refine Z58 ?_
  refine Z26 ?_
  refine JX_ret Tryz.results5 (Res.tmp rfl Res.nil) (fun w1 hw1 => ?_)
  exact ⟨(by rw [(((hF.neg hq1).neg hq2).f hq3).eq] <;> first | rfl | (simp only [List.length_set] <;> rfl)), hw1.ext_out⟩
 refine Z309 ?_
 refine Z18 ?_
 refine JL_dec 91 rfl (fun hq4 => ?_) (fun hq4 => ?_)
 rotate_left
 ·refine JL_skips 6 rfl ?_
  refine Z319 ?_
  refine Z319 ?_
  refine Z58 ?_
  refine Z26 ?_
  refine JX_ret Tryz.results5 (Res.tmp rfl Res.nil) (fun w1 hw1 => ?_)
  exact ⟨(by rw [((((hF.neg hq1).neg hq2).t hq3).neg hq4).eq] <;> first | rfl | (simp only [List.length_set] <;> rfl)), hw1.ext_out⟩
 refine Z260 ?_
 refine Z141 ?_
 refine JL_qg q_add (k := ?_)
 refine Z249 ?_
 refine JL_dec 99 rfl (fun hq5 => ?_) (fun hq5 => ?_)
 rotate_left
 ·refine JL_skips 3 rfl ?_
  refine Z319 ?_
  refine Z319 ?_
  refine Z26 ?_
  refine JX_ret Tryz.results5 (Res.tmp rfl Res.nil) (fun w1 hw1 => ?_)
  exact ⟨(by rw [(((((hF.neg hq1).neg hq2).t hq3).pos hq4).neg hq5).eq] <;> first | rfl | (simp only [List.length_set] <;> rfl)), hw1.ext_out⟩
 refine Z111 ?_
 refine Z249 ?_
 refine JL_dec 104 rfl (fun hq6 => ?_) (fun hq6 => ?_)
 rotate_left
 ·refine JL_skips 3 rfl ?_
  refine Z319 ?_
  refine Z58 ?_
  refine Z26 ?_
  refine JX_ret Tryz.results5 (Res.tmp rfl Res.nil) (fun w1 hw1 => ?_)
  exact ⟨(by rw [((((((hF.neg hq1).neg hq2).t hq3).pos hq4).pos hq5).neg hq6).eq] <;> first | rfl | (simp only [List.length_set] <;> rfl)), hw1.ext_out⟩
 refine Z111 ?_
 refine Z249 ?_
 refine JL_dec 109 rfl (fun hq7 => ?_) (fun hq7 => ?_)
 rotate_left
 ·refine JL_skips 3 rfl ?_
  refine Z319 ?_
  refine Z26 ?_
  refine JX_ret Tryz.results5 (Res.tmp rfl Res.nil) (fun w1 hw1 => ?_)
  exact ⟨(by rw [(((((((hF.neg hq1).neg hq2).t hq3).pos hq4).pos hq5).pos hq6).neg hq7).eq] <;> first | rfl | (simp only [List.length_set] <;> rfl)), hw1.ext_out⟩
 refine Z111 ?_
 refine Z249 ?_
 refine JL_dec 114 rfl (fun hq8 => ?_) (fun hq8 => ?_)
 rotate_left
 ·refine JL_skips 3 rfl ?_
  refine Z58 ?_
  refine Z26 ?_
  refine JX_ret Tryz.results5 (Res.tmp rfl Res.nil) (fun w1 hw1 => ?_)
  exact ⟨(by rw [((((((((hF.neg hq1).neg hq2).t hq3).pos hq4).pos hq5).pos hq6).pos hq7).neg hq8).eq] <;> first | rfl | (simp only [List.length_set] <;> rfl)), hw1.ext_out⟩
 refine Z309 ?_
 refine Z18 ?_
 refine JL_dec 119 rfl (fun hq9 => ?_) (fun hq9 => ?_)
 rotate_left
 ·refine JL_skips 3 rfl ?_
  refine Z26 ?_
  refine JX_ret Tryz.results5 (Res.tmp rfl Res.nil) (fun w1 hw1 => ?_)
  exact ⟨(by rw [(((((((((hF.neg hq1).neg hq2).t hq3).pos hq4).pos hq5).pos hq6).pos hq7).pos hq8).neg hq9).eq] <;> first | rfl | (simp only [List.length_set] <;> rfl)), hw1.ext_out⟩
 refine Z445 ?_
 refine Z79 ?_
 refine JX_ret Tryz.results5 (Res.tmp rfl Res.nil) (fun w1 hw1 => ?_)
 exact ⟨(by rw [(((((((((hF.neg hq1).neg hq2).t hq3).pos hq4).pos hq5).pos hq6).pos hq7).pos hq8).pos hq9).eq] <;> first | rfl | (simp only [List.length_set] <;> rfl)), hw1.ext_out⟩

end Go.Proofs.YtopjaeoklkpcpaaGreatDoor.Jd

