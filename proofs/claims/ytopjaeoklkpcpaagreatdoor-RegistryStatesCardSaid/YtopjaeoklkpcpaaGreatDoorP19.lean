/- Part of the proofs of this seat: walks and plain facts. No condition. -/
import Derived.Test.YtopjaeoklkpcpaaGreatDoorP0
import Derived.Test.YtopjaeoklkpcpaaGreatDoorProg
import Derived.Test.YtopjaeoklkpcpaaGreatDoorP5
import Derived.Test.YtopjaeoklkpcpaaGreatDoorP1
import Derived.Test.YtopjaeoklkpcpaaGreatDoorP2
import Derived.Test.YtopjaeoklkpcpaaGreatDoorP3
import Derived.Test.YtopjaeoklkpcpaaGreatDoorP10
import Derived.Test.YtopjaeoklkpcpaaGreatDoorP4
namespace Go.Proofs.YtopjaeoklkpcpaaGreatDoor.Jd
set_option linter.unusedVariables false
set_option linter.unusedSimpArgs false
section
variable {p q : Prop}
theorem Z110 (k : q) (h : Hid q → p := by intro z; refine Z502 ?_; refine JL_p (c_callA Tryz.call22) (fun w1 hw1 => gTick_ok w1 (r := ((gApply (gCut r) 2 (Command.mk 4 (name.take ((if 41 < ((name.length : Nat) : Int) then 41 else ((name.length : Nat) : Int)).toNat)) 0 0 (Rule.mk false (Prefix.mk 0 0) (PortsT.mk 0 0)) ([] : Str) n_ 0) now).1)) (now := (now + n_)) (h_r_slots_gens := (SlB.slj hs1_2) w1 hw1) (n_r_slots_gens := by first | omega | (simp; done) | exact Nat.le_trans (by assumption) (by decide)) (h_r_slots_used := (SlB.slj hs2_2) w1 hw1) (n_r_slots_used := by first | omega | (simp; done) | exact Nat.le_trans (by assumption) (by decide)) (h_r_slots_free := (SlB.slj hs3_2) w1 hw1) (n_r_slots_free := by first | omega | (simp; done) | exact Nat.le_trans (by assumption) (by decide)) (h_r_l := (SlNB.j hs4_2.1 sh).2 w1 hw1) (n_r_l := by first | omega | (simp; done) | exact Nat.le_trans (by assumption) (by decide)) (k_r_l := hs4_2.2) (hsm := by first | assumption | exact Small.nil)) (k := ?_); exact z.1) : p := h ⟨k⟩
end
open Go.Proofs
open Go.RowKit (Below)
set_option maxRecDepth 100000
set_option maxHeartbeats 8000000
set_option linter.unusedVariables false
set_option linter.unusedSimpArgs false
def lRegistryStates (r : Registry) (name : Str) (now : Int) (n_ : Int) : Bool := (if ((gApply (gCut r) 2 (Command.mk 4 (name.take ((if 41 < ((name.length : Nat) : Int) then 41 else ((name.length : Nat) : Int)).toNat)) 0 0 (Rule.mk false (Prefix.mk 0 0) (PortsT.mk 0 0)) ([] : Str) n_ 0) now).2.err) ≠ 0 then gShown else (if 1000000000000 ≤ ((gApply (gCut r) 2 (Command.mk 4 (name.take ((if 41 < ((name.length : Nat) : Int) then 41 else ((name.length : Nat) : Int)).toNat)) 0 0 (Rule.mk false (Prefix.mk 0 0) (PortsT.mk 0 0)) ([] : Str) n_ 0) now).1.seq) then gShown else (if 1000000000000 ≤ ((gTick ((gApply (gCut r) 2 (Command.mk 4 (name.take ((if 41 < ((name.length : Nat) : Int) then 41 else ((name.length : Nat) : Int)).toNat)) 0 0 (Rule.mk false (Prefix.mk 0 0) (PortsT.mk 0 0)) ([] : Str) n_ 0) now).1) (now + n_)).seq) then gShown else (if gShown = true then (if ((gApply (gCut r) 2 (Command.mk 4 (name.take ((if 41 < ((name.length : Nat) : Int) then 41 else ((name.length : Nat) : Int)).toNat)) 0 0 (Rule.mk false (Prefix.mk 0 0) (PortsT.mk 0 0)) ([] : Str) n_ 0) now).2.state) = 3 then (if ((gFind (gTick ((gApply (gCut r) 2 (Command.mk 4 (name.take ((if 41 < ((name.length : Nat) : Int) then 41 else ((name.length : Nat) : Int)).toNat)) 0 0 (Rule.mk false (Prefix.mk 0 0) (PortsT.mk 0 0)) ([] : Str) n_ 0) now).1) ((now + n_) - 1)) (name.take ((if 41 < ((name.length : Nat) : Int) then 41 else ((name.length : Nat) : Int)).toNat))).2) = true then (if ((gFind (gTick ((gApply (gCut r) 2 (Command.mk 4 (name.take ((if 41 < ((name.length : Nat) : Int) then 41 else ((name.length : Nat) : Int)).toNat)) 0 0 (Rule.mk false (Prefix.mk 0 0) (PortsT.mk 0 0)) ([] : Str) n_ 0) now).1) ((now + n_) - 1)) (name.take ((if 41 < ((name.length : Nat) : Int) then 41 else ((name.length : Nat) : Int)).toNat))).1.state) = 3 then (if ((gFind (gTick ((gApply (gCut r) 2 (Command.mk 4 (name.take ((if 41 < ((name.length : Nat) : Int) then 41 else ((name.length : Nat) : Int)).toNat)) 0 0 (Rule.mk false (Prefix.mk 0 0) (PortsT.mk 0 0)) ([] : Str) n_ 0) now).1) (now + n_)) (name.take ((if 41 < ((name.length : Nat) : Int) then 41 else ((name.length : Nat) : Int)).toNat))).2) = true then (if ((gFind (gTick ((gApply (gCut r) 2 (Command.mk 4 (name.take ((if 41 < ((name.length : Nat) : Int) then 41 else ((name.length : Nat) : Int)).toNat)) 0 0 (Rule.mk false (Prefix.mk 0 0) (PortsT.mk 0 0)) ([] : Str) n_ 0) now).1) (now + n_)) (name.take ((if 41 < ((name.length : Nat) : Int) then 41 else ((name.length : Nat) : Int)).toNat))).1.state) = 2 then (if ((gFind (gTick ((gApply (gCut r) 2 (Command.mk 4 (name.take ((if 41 < ((name.length : Nat) : Int) then 41 else ((name.length : Nat) : Int)).toNat)) 0 0 (Rule.mk false (Prefix.mk 0 0) (PortsT.mk 0 0)) ([] : Str) n_ 0) now).1) (now + n_)) (name.take ((if 41 < ((name.length : Nat) : Int) then 41 else ((name.length : Nat) : Int)).toNat))).1.version) = (((gApply (gCut r) 2 (Command.mk 4 (name.take ((if 41 < ((name.length : Nat) : Int) then 41 else ((name.length : Nat) : Int)).toNat)) 0 0 (Rule.mk false (Prefix.mk 0 0) (PortsT.mk 0 0)) ([] : Str) n_ 0) now).2.version) + 1) then (if ((gFind (gTick ((gApply (gCut r) 2 (Command.mk 4 (name.take ((if 41 < ((name.length : Nat) : Int) then 41 else ((name.length : Nat) : Int)).toNat)) 0 0 (Rule.mk false (Prefix.mk 0 0) (PortsT.mk 0 0)) ([] : Str) n_ 0) now).1) (now + n_)) (name.take ((if 41 < ((name.length : Nat) : Int) then 41 else ((name.length : Nat) : Int)).toNat))).1.deadline) = 0 then (if ((gApply (gTick ((gApply (gCut r) 2 (Command.mk 4 (name.take ((if 41 < ((name.length : Nat) : Int) then 41 else ((name.length : Nat) : Int)).toNat)) 0 0 (Rule.mk false (Prefix.mk 0 0) (PortsT.mk 0 0)) ([] : Str) n_ 0) now).1) (now + n_)) 2 (Command.mk 3 (name.take ((if 41 < ((name.length : Nat) : Int) then 41 else ((name.length : Nat) : Int)).toNat)) 0 0 (Rule.mk false (Prefix.mk 0 0) (PortsT.mk 0 0)) ([] : Str) 0 0) (now + n_)).2.err) = 0 then (if ((gFind ((gApply (gTick ((gApply (gCut r) 2 (Command.mk 4 (name.take ((if 41 < ((name.length : Nat) : Int) then 41 else ((name.length : Nat) : Int)).toNat)) 0 0 (Rule.mk false (Prefix.mk 0 0) (PortsT.mk 0 0)) ([] : Str) n_ 0) now).1) (now + n_)) 2 (Command.mk 3 (name.take ((if 41 < ((name.length : Nat) : Int) then 41 else ((name.length : Nat) : Int)).toNat)) 0 0 (Rule.mk false (Prefix.mk 0 0) (PortsT.mk 0 0)) ([] : Str) 0 0) (now + n_)).1) (name.take ((if 41 < ((name.length : Nat) : Int) then 41 else ((name.length : Nat) : Int)).toNat))).2) = true then decide (((gFind ((gApply (gTick ((gApply (gCut r) 2 (Command.mk 4 (name.take ((if 41 < ((name.length : Nat) : Int) then 41 else ((name.length : Nat) : Int)).toNat)) 0 0 (Rule.mk false (Prefix.mk 0 0) (PortsT.mk 0 0)) ([] : Str) n_ 0) now).1) (now + n_)) 2 (Command.mk 3 (name.take ((if 41 < ((name.length : Nat) : Int) then 41 else ((name.length : Nat) : Int)).toNat)) 0 0 (Rule.mk false (Prefix.mk 0 0) (PortsT.mk 0 0)) ([] : Str) 0 0) (now + n_)).1) (name.take ((if 41 < ((name.length : Nat) : Int) then 41 else ((name.length : Nat) : Int)).toNat))).1.state) = 1) else false) else false) else false) else false) else false) else false) else false) else false) else false) else false))))
end Go.Proofs.YtopjaeoklkpcpaaGreatDoor.Jd

namespace Go.Proofs.YtopjaeoklkpcpaaGreatDoor.Jd
open Go.Proofs
open Go.RowKit (Below)
set_option maxRecDepth 100000
set_option maxHeartbeats 8000000
set_option linter.unusedVariables false
set_option linter.unusedSimpArgs false
theorem FO_44_4 : FieldOff Tryz.prog 44 4 5 := fun r k w => by simp [Instr.fieldAt, Instr.sureAddr, fieldPlace, addr_add]

end Go.Proofs.YtopjaeoklkpcpaaGreatDoor.Jd

namespace Go.Proofs.YtopjaeoklkpcpaaGreatDoor.Jd
set_option linter.unusedVariables false
set_option linter.unusedSimpArgs false
theorem tk_len (now : Int) (l : List Tenant) (q : Int) : (tk now l q).1.length = l.length := by
  have := congrArg List.length (tk_map Tenant.name (fun t => rfl) now l q)
  simpa using this
theorem tk_at (now : Int) : ∀ (l : List Tenant) (q : Int) (i : Nat), i < l.length → ((tk now l q).1.getD i default = l.getD i default ∧ ((l.getD i default).state = 3 ∧ (l.getD i default).deadline ≤ now → (tk now l q).2 = 1000000000000 ∨ 1000000000000 < (tk now l q).2)) ∨ ((tk now l q).1.getD i default = tkT (l.getD i default) ∧ (l.getD i default).state = 3 ∧ (l.getD i default).deadline ≤ now)
  | [], q, i, h => by simp at h
  | t :: r, q, 0, h => by
    unfold tk
    split
    · rename_i hc
      exact .inr ⟨rfl, by simpa using hc.1, by simpa using hc.2.1⟩
    · rename_i hc
      refine .inl ⟨rfl, fun h2 => ?_⟩
      have h3 : t.state = 3 ∧ t.deadline ≤ now := by simpa using h2
      have := (tk_seq now r q).1
      simp only
      omega
  | t :: r, q, i + 1, h => by
    unfold tk
    split
    · simpa using tk_at now r (q + 1) i (by simpa using h)
    · simpa using tk_at now r q i (by simpa using h)
end Go.Proofs.YtopjaeoklkpcpaaGreatDoor.Jd

namespace Go.Proofs.YtopjaeoklkpcpaaGreatDoor.Jd
set_option maxRecDepth 100000
set_option linter.unusedVariables false
set_option linter.unusedSimpArgs false
theorem chg_drain {t : Tenant} {c : Command} {now : Int} (hv : c.verb = 4) (h : (chg t c now).2 = 0) : (1 ≤ c.n ∧ c.n ≤ 1000000000) ∧ now + c.n ≤ 1000000000000 := by
  unfold chg at h
  rw [if_neg (by omega), if_neg (by omega), if_pos hv] at h
  simp only at h
  split at h
  · split at h
    · cases h
    · omega
  · cases h
theorem lRegistryStates_true (r : Registry) (name : Str) (now n : Int) : lRegistryStates r name now n = true := by
  unfold lRegistryStates
  simp only [gShown_true, if_true]
  generalize name.take (if 41 < ((name.length : Nat) : Int) then 41 else ((name.length : Nat) : Int)).toNat = nm
  generalize gCut r = s
  have h := apply_out s 2 (Command.mk 4 nm 0 0 (Rule.mk false (Prefix.mk 0 0) (PortsT.mk 0 0)) ([] : Str) n 0) now
  generalize gApply s 2 (Command.mk 4 nm 0 0 (Rule.mk false (Prefix.mk 0 0) (PortsT.mk 0 0)) ([] : Str) n 0) now = x at h ⊢
  by_cases he : x.2.err = 0
  rotate_left
  · rw [if_pos he]
  rw [if_neg (by simpa using he)]
  by_cases hq : 1000000000000 ≤ x.1.seq
  · rw [if_pos hq]
  rw [if_neg hq]
  by_cases hq2 : 1000000000000 ≤ (gTick x.1 (now + n)).seq
  · rw [if_pos hq2]
  rw [if_neg hq2]
  obtain ⟨i, hf, hi, hn, hc, hs, rfl⟩ := h.putOf he (.inr (.inr (.inl rfl)))
  have hnn : (1 ≤ n ∧ n ≤ 1000000000) ∧ now + n ≤ 1000000000000 := chg_drain rfl hc
  generalize hu : (chg (s.l.getD i default) (Command.mk 4 nm 0 0 (Rule.mk false (Prefix.mk 0 0) (PortsT.mk 0 0)) ([] : Str) n 0) now).1 = u at *
  have hu1 : u.name = nm := by rw [← hu]; exact hn
  have hu2 : u.state = 3 := by rw [← hu]; rfl
  have hu3 : u.deadline = now + n := by rw [← hu]; rfl
  have hu4 : u.version = (s.l.getD i default).version + 1 := by rw [← hu]; rfl
  simp only at hq hq2 ⊢
  have hi2 : i < (s.l.set i u).length := by simpa using hi
  have hg : (s.l.set i u).getD i default = u := getD_set' hi u
  generalize hR : (⟨s.slots, s.l.set i u, s.seq + 1⟩ : Registry) = R at *
  have hRl : R.l = s.l.set i u := by rw [← hR]
  -- ahead of its deadline
  have t1 := hs.tick (now + n - 1)
  have f1 : gFind (gTick R (now + n - 1)) nm = (u, true) := by
    have e := gTick_eq hs (now + n - 1)
    have hat := tk_at (now + n - 1) R.l R.seq i (by rw [hRl]; exact hi2)
    rw [hRl, hg] at hat
    have h1 : (tk (now + n - 1) (s.l.set i u) R.seq).1.getD i default = u := by
      rcases hat with ⟨h1, _⟩ | ⟨_, _, h1⟩
      · exact h1
      · rw [hu3] at h1; omega
    rw [← hu1]
    refine find_some t1.1.names ?_
    rw [e, hRl]
    show u ∈ (tk (now + n - 1) (s.l.set i u) R.seq).1
    have hl : i < (tk (now + n - 1) (s.l.set i u) R.seq).1.length := by rw [tk_len]; exact hi2
    have := getD_mem' hl
    rwa [h1] at this
  -- at it
  have t2 := hs.tick (now + n)
  have e2 := gTick_eq hs (now + n)
  have hat := tk_at (now + n) R.l R.seq i (by rw [hRl]; exact hi2)
  have h2 : (gTick R (now + n)).l.getD i default = tkT u := by
    rw [e2]
    rw [e2] at hq2
    simp only at hq2 ⊢
    rw [hRl, hg] at hat
    rw [hRl] at hq2 ⊢
    rcases hat with ⟨_, h1⟩ | ⟨h1, _, _⟩
    · have := h1 ⟨hu2, by rw [hu3]; omega⟩; omega
    · exact h1
  have hi3 : i < (gTick R (now + n)).l.length := by rw [e2]; show i < (tk _ _ _).1.length; rw [tk_len, hRl]; exact hi2
  have f2 : gFind (gTick R (now + n)) nm = (tkT u, true) := by
    have := find_some t2.1.names (getD_mem' hi3)
    rw [h2] at this
    rw [← hu1]; exact this
  rw [f1, f2]
  generalize hT : gTick R (now + n) = T at *
  have fT : Fit T (now + n) := ⟨t2.1, by omega, by have := hf.nn; omega, hnn.2⟩
  have a3 := apply_at (c := Command.mk 3 nm 0 0 (Rule.mk false (Prefix.mk 0 0) (PortsT.mk 0 0)) ([] : Str) 0 0) fT (may2 (.inr (.inl rfl))) (by simp) (by simp) hi3 (by rw [h2]; exact hu1) (.inl rfl)
  have o3 := apply_out T 2 (Command.mk 3 nm 0 0 (Rule.mk false (Prefix.mk 0 0) (PortsT.mk 0 0)) ([] : Str) 0 0) (now + n)
  rw [h2] at a3
  have ee : (changeD T (Command.mk 3 nm 0 0 (Rule.mk false (Prefix.mk 0 0) (PortsT.mk 0 0)) ([] : Str) 0 0) (now + n) (i : Int) (tkT u)).2.err = 0 := by simp [changeD, chg, tkT]
  generalize hy : gApply T 2 (Command.mk 3 nm 0 0 (Rule.mk false (Prefix.mk 0 0) (PortsT.mk 0 0)) ([] : Str) 0 0) (now + n) = y at o3 a3 ⊢
  have ey : y.2.err = 0 := by rw [a3]; exact ee
  obtain ⟨j, _, hj, hjn, _, hjs, rfl⟩ := o3.putOf ey (.inr (.inl rfl))
  simp only at hj hjn hjs ⊢
  generalize hv : (chg (T.l.getD j default) (Command.mk 3 nm 0 0 (Rule.mk false (Prefix.mk 0 0) (PortsT.mk 0 0)) ([] : Str) 0 0) (now + n)).1 = v at *
  have hv1 : v.name = nm := by rw [← hv]; exact hjn
  have hfind2 := find_set (r := T) (s := ⟨T.slots, T.l.set j v, T.seq + 1⟩) hjs hj rfl
  rw [hv1] at hfind2
  rw [hfind2]
  have hv2 : v.state = 1 := by rw [← hv]; rfl
  simp [hu2, hv2, tkT, hu4]
end Go.Proofs.YtopjaeoklkpcpaaGreatDoor.Jd

namespace Go.Proofs.YtopjaeoklkpcpaaGreatDoor.Jd
open Go.Proofs
open Go.RowKit (Below)
set_option maxRecDepth 100000
set_option maxHeartbeats 8000000
set_option linter.unusedVariables false
set_option linter.unusedSimpArgs false
theorem lRegistryStates_ok (w : World) {r_slots_gens_a : Option Addr} {r_slots_gens_c : Nat} {r_slots_used_a : Option Addr} {r_slots_used_c : Nat} {r_slots_free_a : Option Addr} {r_slots_free_c : Nat} {r_l_a : Option Addr} {r_l_c : Nat} {r_l_t : List TA} {ea0 : Addr} {ea1 : Addr} {ea2 : Addr} {ea3 : Addr} {r : Registry} {name : Str} {now : Int} {n_ : Int} (h_r_slots_gens : Sl w eI 1 r_slots_gens_a r.slots.gens) (k_r_slots_gens : r.slots.gens.length ≤ r_slots_gens_c) (h_r_slots_used : Sl w eB 1 r_slots_used_a r.slots.used) (k_r_slots_used : r.slots.used.length ≤ r_slots_used_c) (h_r_slots_free : Sl w eI 1 r_slots_free_a r.slots.free) (k_r_slots_free : r.slots.free.length ≤ r_slots_free_c) (h_r_l : SlN w eTenant 8 DT r_l_a r.l r_l_t) (k_r_l : r.l.length ≤ r_l_c) (hG : Gl w) (hE : Er w ea0 ea1 ea2 ea3) : Val Tryz.prog 7 [(Value.agg [(vs r_slots_gens_a r.slots.gens.length r_slots_gens_c), (vs r_slots_used_a r.slots.used.length r_slots_used_c), (vs r_slots_free_a r.slots.free.length r_slots_free_c), (vs r_l_a r.l.length r_l_c), (vi r.seq)].toArray), (vt name), (vi now), (vi n_)] w (Value.bool (lRegistryStates r name now n_)) := by
 have hF := Is.refl (lRegistryStates r name now n_)
 refine enter Tryz.func7 Tryz.ntmps7 (h := ?_)
 refine Z2 ?_
 refine JL_a noMk (a_box (l := [_, _, _, _, _])) (k := fun r1 hr1 => ?_)
 refine Z96 ?_
 refine Z1 ?_
 refine Z24 ?_
 rintro w1_1 e1_1 w2_1 hw1_1 ⟨a1_1, c1_1, t1_1, B_1, he_1, hf_1, hs1_1, hl1_1⟩
 refine ⟨_, _, he_1, hw1_1.fresh hf_1, ?_⟩
 have hcb_1 := gCut_bd r
 have hsm_1 := gCut_small r
 refine Z133 ?_
 refine Z39 ?_
 refine Z278 ?_
 have hsb1 : (name.take ((if 41 < ((name.length : Nat) : Int) then 41 else ((name.length : Nat) : Int)).toNat)).length = ((if 41 < ((name.length : Nat) : Int) then 41 else ((name.length : Nat) : Int)).toNat) := by first | omega | (simp only [List.length_take, List.length_drop, List.length_cons, List.length_nil] <;> omega)
 refine Z1 ?_
 refine Z21 ?_
 refine Z27 ?_
 refine Z531 ?_
 refine Z87 ?_
 rintro w1_2 e1_2 w2_2 hw1_2 ⟨a1_2, c1_2, a2_2, c2_2, a3_2, c3_2, a4_2, c4_2, t4_2, B_2, he_2, hf_2, hs1_2, hs2_2, hs3_2, hs4_2, hl1_2, hl2_2, hl3_2, hl4_2⟩
 refine ⟨_, _, he_2, hw1_2.fresh hf_2, ?_⟩
 have hap_32771 := gApply_small 2 (Command.mk 4 (name.take ((if 41 < ((name.length : Nat) : Int) then 41 else ((name.length : Nat) : Int)).toNat)) 0 0 (Rule.mk false (Prefix.mk 0 0) (PortsT.mk 0 0)) ([] : Str) n_ 0) now (by first | assumption | exact Small.nil : Small ((gCut r).l))
 have hab_32771 := gApply_bd (gCut r) 2 (Command.mk 4 (name.take ((if 41 < ((name.length : Nat) : Int) then 41 else ((name.length : Nat) : Int)).toNat)) 0 0 (Rule.mk false (Prefix.mk 0 0) (PortsT.mk 0 0)) ([] : Str) n_ 0) now
 try dsimp only at hab_32771
 refine Z37 ?_
 refine JL_a noMk (a_alloc (l := [_, _, _, _, _]) Tryz.zeroValue28) (k := fun r2 hr2 => ?_)
 refine JL_a noMk (a_alloc (l := [_, _, _, _, _, _]) Tryz.zeroValue44) (k := fun r3 hr3 => ?_)
 refine Z455 ?_
 refine J_subL _ (sk (sk (sa (sx (sd sz))))) ?_
 refine Z425 ?_
 refine Z190 ?_
 refine J_dec rfl (fun hq1 => ?_) (fun hq1 => ?_)
 ·refine J_seq ?_
  refine Z376 ?_
  refine JX_ret Tryz.results7 (Res.tmp rfl Res.nil) (fun w1 hw1 => ?_)
  exact ⟨(by rw [(hF.pos hq1).eq] <;> first | rfl | (simp only [List.length_set] <;> rfl)), hw1.ext_out⟩
 refine Z14 ?_
 refine Z21 ?_
 refine Z27 ?_
 refine Z502 ?_
 refine Z495 ?_
 refine JL_p (c_callA Tryz.call22) (fun w1 hw1 => gTick_ok w1 (r := ((gApply (gCut r) 2 (Command.mk 4 (name.take ((if 41 < ((name.length : Nat) : Int) then 41 else ((name.length : Nat) : Int)).toNat)) 0 0 (Rule.mk false (Prefix.mk 0 0) (PortsT.mk 0 0)) ([] : Str) n_ 0) now).1)) (now := ((now + n_) - 1)) (h_r_slots_gens := (SlB.slj hs1_2) w1 hw1) (n_r_slots_gens := by first | omega | (simp; done) | exact Nat.le_trans (by assumption) (by decide)) (h_r_slots_used := (SlB.slj hs2_2) w1 hw1) (n_r_slots_used := by first | omega | (simp; done) | exact Nat.le_trans (by assumption) (by decide)) (h_r_slots_free := (SlB.slj hs3_2) w1 hw1) (n_r_slots_free := by first | omega | (simp; done) | exact Nat.le_trans (by assumption) (by decide)) (h_r_l := (SlNB.j hs4_2.1 sh).2 w1 hw1) (n_r_l := by first | omega | (simp; done) | exact Nat.le_trans (by assumption) (by decide)) (k_r_l := hs4_2.2) (hsm := by first | assumption | exact Small.nil)) (k := ?_)
 rintro w1_3 e1_3 w2_3 hw1_3 ⟨a1_3, c1_3, a2_3, c2_3, a3_3, c3_3, a4_3, c4_3, t4_3, B_3, he_3, hf_3, hs1_3, hs2_3, hs3_3, hs4_3, hl1_3, hl2_3, hl3_3, hl4_3⟩
 refine ⟨_, _, he_3, hw1_3.fresh hf_3, ?_⟩
 have htk_72399 := gTick_small ((now + n_) - 1) (by first | assumption | exact Small.nil : Small ((gApply (gCut r) 2 (Command.mk 4 (name.take ((if 41 < ((name.length : Nat) : Int) then 41 else ((name.length : Nat) : Int)).toNat)) 0 0 (Rule.mk false (Prefix.mk 0 0) (PortsT.mk 0 0)) ([] : Str) n_ 0) now).1.l))
 refine Z481 ?_
 refine JL_p (c_callA Tryz.call20) (fun w1 hw1 => gFind_ok w1 (r := (gTick ((gApply (gCut r) 2 (Command.mk 4 (name.take ((if 41 < ((name.length : Nat) : Int) then 41 else ((name.length : Nat) : Int)).toNat)) 0 0 (Rule.mk false (Prefix.mk 0 0) (PortsT.mk 0 0)) ([] : Str) n_ 0) now).1) ((now + n_) - 1))) (name := (name.take ((if 41 < ((name.length : Nat) : Int) then 41 else ((name.length : Nat) : Int)).toNat))) (h_r_slots_gens := (SlB.slj hs1_3) w1 hw1) (n_r_slots_gens := by first | omega | (simp; done) | exact Nat.le_trans (by assumption) (by decide)) (h_r_slots_used := (SlB.slj hs2_3) w1 hw1) (n_r_slots_used := by first | omega | (simp; done) | exact Nat.le_trans (by assumption) (by decide)) (h_r_slots_free := (SlB.slj hs3_3) w1 hw1) (n_r_slots_free := by first | omega | (simp; done) | exact Nat.le_trans (by assumption) (by decide)) (h_r_l := (SlNB.j hs4_3.1 sh).2 w1 hw1) (n_r_l := by first | omega | (simp; done) | exact Nat.le_trans (by assumption) (by decide)) (k_r_l := hs4_3.2) (hsm := by first | assumption | exact Small.nil)) (k := ?_)
 rintro w1_4 e1_4 w2_4 hw1_4 ⟨a1_4, c1_4, a2_4, c2_4, B1_4, B2_4, he_4, hf_4, ho1_4, ho2_4, hl1_4, hl2_4⟩
 refine ⟨_, _, he_4, (hw1_4.fresh hf_4).perm (eqp (nA rfl)), ?_⟩
 have hfv_22217 := gFind_ver (gTick ((gApply (gCut r) 2 (Command.mk 4 (name.take ((if 41 < ((name.length : Nat) : Int) then 41 else ((name.length : Nat) : Int)).toNat)) 0 0 (Rule.mk false (Prefix.mk 0 0) (PortsT.mk 0 0)) ([] : Str) n_ 0) now).1) ((now + n_) - 1)) (name.take ((if 41 < ((name.length : Nat) : Int) then 41 else ((name.length : Nat) : Int)).toNat))
 refine Z37 ?_
 refine JL_a noMk (a_alloc (l := [_, _, _, _, _, _, _, _]) Tryz.zeroValue52) (k := fun r4 hr4 => ?_)
 refine Z122 ?_
 refine J_subL _ (sk (sa (sa (sx (sk (sk (sa sz))))))) ?_
 refine Z50 ?_
 refine Z27 ?_
 refine Z110 ?_
 rintro w1_5 e1_5 w2_5 hw1_5 ⟨a1_5, c1_5, a2_5, c2_5, a3_5, c3_5, a4_5, c4_5, t4_5, B_5, he_5, hf_5, hs1_5, hs2_5, hs3_5, hs4_5, hl1_5, hl2_5, hl3_5, hl4_5⟩
 refine ⟨_, _, he_5, hw1_5.fresh hf_5, ?_⟩
 have htk_19423 := gTick_small (now + n_) (by first | assumption | exact Small.nil : Small ((gApply (gCut r) 2 (Command.mk 4 (name.take ((if 41 < ((name.length : Nat) : Int) then 41 else ((name.length : Nat) : Int)).toNat)) 0 0 (Rule.mk false (Prefix.mk 0 0) (PortsT.mk 0 0)) ([] : Str) n_ 0) now).1.l))
 refine Z481 ?_
 refine JL_p (c_callA Tryz.call20) (fun w1 hw1 => gFind_ok w1 (r := (gTick ((gApply (gCut r) 2 (Command.mk 4 (name.take ((if 41 < ((name.length : Nat) : Int) then 41 else ((name.length : Nat) : Int)).toNat)) 0 0 (Rule.mk false (Prefix.mk 0 0) (PortsT.mk 0 0)) ([] : Str) n_ 0) now).1) (now + n_))) (name := (name.take ((if 41 < ((name.length : Nat) : Int) then 41 else ((name.length : Nat) : Int)).toNat))) (h_r_slots_gens := (SlB.slj hs1_5) w1 hw1) (n_r_slots_gens := by first | omega | (simp; done) | exact Nat.le_trans (by assumption) (by decide)) (h_r_slots_used := (SlB.slj hs2_5) w1 hw1) (n_r_slots_used := by first | omega | (simp; done) | exact Nat.le_trans (by assumption) (by decide)) (h_r_slots_free := (SlB.slj hs3_5) w1 hw1) (n_r_slots_free := by first | omega | (simp; done) | exact Nat.le_trans (by assumption) (by decide)) (h_r_l := (SlNB.j hs4_5.1 sh).2 w1 hw1) (n_r_l := by first | omega | (simp; done) | exact Nat.le_trans (by assumption) (by decide)) (k_r_l := hs4_5.2) (hsm := by first | assumption | exact Small.nil)) (k := ?_)
 rintro w1_6 e1_6 w2_6 hw1_6 ⟨a1_6, c1_6, a2_6, c2_6, B1_6, B2_6, he_6, hf_6, ho1_6, ho2_6, hl1_6, hl2_6⟩
 refine ⟨_, _, he_6, (hw1_6.fresh hf_6).perm (eqp (nA rfl)), ?_⟩
 have hfv_19004 := gFind_ver (gTick ((gApply (gCut r) 2 (Command.mk 4 (name.take ((if 41 < ((name.length : Nat) : Int) then 41 else ((name.length : Nat) : Int)).toNat)) 0 0 (Rule.mk false (Prefix.mk 0 0) (PortsT.mk 0 0)) ([] : Str) n_ 0) now).1) (now + n_)) (name.take ((if 41 < ((name.length : Nat) : Int) then 41 else ((name.length : Nat) : Int)).toNat))
 refine Z37 ?_
 refine JL_a noMk (a_alloc (l := [_, _, _, _, _, _, _, _]) Tryz.zeroValue52) (k := fun r5 hr5 => ?_)
 refine Z122 ?_
 refine J_seq ?_
 refine J_subL _ (sk (sa (sa (sx (sk (sa (sa (sk (sk (sa sz)))))))))) ?_
 refine Z486 ?_
 refine Z94 ?_
 refine JL_q q_geq (k := ?_)
 refine Z0 ?_
 refine J_dec rfl (fun hq2 => ?_) (fun hq2 => ?_)
 ·refine J_seq ?_
  refine Z376 ?_
  refine JX_ret Tryz.results7 (Res.tmp rfl Res.nil) (fun w1 hw1 => ?_)
  exact ⟨(by rw [((hF.neg hq1).pos hq2).eq] <;> first | rfl | (simp only [List.length_set] <;> rfl)), hw1.ext_out⟩
 refine Z14 ?_
 refine Z21 ?_
 refine Z27 ?_
 refine Z110 ?_
 rintro w1_7 e1_7 w2_7 hw1_7 ⟨a1_7, c1_7, a2_7, c2_7, a3_7, c3_7, a4_7, c4_7, t4_7, B_7, he_7, hf_7, hs1_7, hs2_7, hs3_7, hs4_7, hl1_7, hl2_7, hl3_7, hl4_7⟩
 refine ⟨_, _, he_7, hw1_7.fresh hf_7, ?_⟩
 have htk_19423 := gTick_small (now + n_) (by first | assumption | exact Small.nil : Small ((gApply (gCut r) 2 (Command.mk 4 (name.take ((if 41 < ((name.length : Nat) : Int) then 41 else ((name.length : Nat) : Int)).toNat)) 0 0 (Rule.mk false (Prefix.mk 0 0) (PortsT.mk 0 0)) ([] : Str) n_ 0) now).1.l))
 refine JL_a noMk (a_alloc (l := [_, _, _, _, _]) Tryz.zeroValue28) (k := fun r6 hr6 => ?_)
 refine Z521 ?_
 refine Z72 ?_
 refine J_seq ?_
 refine J_subL _ (sk (sa (sk (sa (sa (sk (sa (sa (sk (sd (sx sz))))))))))) ?_
 refine Z486 ?_
 refine Z94 ?_
 refine JL_q q_geq (k := ?_)
 refine Z0 ?_
 refine J_dec rfl (fun hq3 => ?_) (fun hq3 => ?_)
 ·refine J_seq ?_
  refine Z376 ?_
  refine JX_ret Tryz.results7 (Res.tmp rfl Res.nil) (fun w1 hw1 => ?_)
  exact ⟨(by rw [(((hF.neg hq1).neg hq2).pos hq3).eq] <;> first | rfl | (simp only [List.length_set] <;> rfl)), hw1.ext_out⟩
 refine Z14 ?_
 refine Z248 ?_
 refine Z531 ?_
 refine Z27 ?_
 refine Z502 ?_
 refine JL_p (c_callA Tryz.call17) (fun w1 hw1 => gApply_ok w1 (r := (gTick ((gApply (gCut r) 2 (Command.mk 4 (name.take ((if 41 < ((name.length : Nat) : Int) then 41 else ((name.length : Nat) : Int)).toNat)) 0 0 (Rule.mk false (Prefix.mk 0 0) (PortsT.mk 0 0)) ([] : Str) n_ 0) now).1) (now + n_))) (role := 2) (c := (Command.mk 3 (name.take ((if 41 < ((name.length : Nat) : Int) then 41 else ((name.length : Nat) : Int)).toNat)) 0 0 (Rule.mk false (Prefix.mk 0 0) (PortsT.mk 0 0)) ([] : Str) 0 0)) (now := (now + n_)) (h_r_slots_gens := (SlB.slj hs1_7) w1 hw1) (n_r_slots_gens := by first | omega | (simp; done) | exact Nat.le_trans (by assumption) (by decide)) (h_r_slots_used := (SlB.slj hs2_7) w1 hw1) (n_r_slots_used := by first | omega | (simp; done) | exact Nat.le_trans (by assumption) (by decide)) (h_r_slots_free := (SlB.slj hs3_7) w1 hw1) (n_r_slots_free := by first | omega | (simp; done) | exact Nat.le_trans (by assumption) (by decide)) (h_r_l := (SlNB.j hs4_7.1 sh).2 w1 hw1) (n_r_l := by first | omega | (simp; done) | exact Nat.le_trans (by assumption) (by decide)) (k_r_l := hs4_7.2) (i_c_at_ := by first | exact i_c_at_ | (simp; done) | (exact ⟨by decide, by decide⟩) | omega) (hG := hG.ext hw1.ext_out) (hE := hE.ext hw1.ext_out) (hsm := by first | assumption | exact Small.nil)) (k := ?_)
 rintro w1_8 e1_8 w2_8 hw1_8 ⟨a1_8, c1_8, a2_8, c2_8, a3_8, c3_8, a4_8, c4_8, t4_8, B_8, he_8, hf_8, hs1_8, hs2_8, hs3_8, hs4_8, hl1_8, hl2_8, hl3_8, hl4_8⟩
 refine ⟨_, _, he_8, hw1_8.fresh hf_8, ?_⟩
 have hap_1174 := gApply_small 2 (Command.mk 3 (name.take ((if 41 < ((name.length : Nat) : Int) then 41 else ((name.length : Nat) : Int)).toNat)) 0 0 (Rule.mk false (Prefix.mk 0 0) (PortsT.mk 0 0)) ([] : Str) 0 0) (now + n_) (by first | assumption | exact Small.nil : Small ((gTick ((gApply (gCut r) 2 (Command.mk 4 (name.take ((if 41 < ((name.length : Nat) : Int) then 41 else ((name.length : Nat) : Int)).toNat)) 0 0 (Rule.mk false (Prefix.mk 0 0) (PortsT.mk 0 0)) ([] : Str) n_ 0) now).1) (now + n_)).l))
 have hab_1174 := gApply_bd (gTick ((gApply (gCut r) 2 (Command.mk 4 (name.take ((if 41 < ((name.length : Nat) : Int) then 41 else ((name.length : Nat) : Int)).toNat)) 0 0 (Rule.mk false (Prefix.mk 0 0) (PortsT.mk 0 0)) ([] : Str) n_ 0) now).1) (now + n_)) 2 (Command.mk 3 (name.take ((if 41 < ((name.length : Nat) : Int) then 41 else ((name.length : Nat) : Int)).toNat)) 0 0 (Rule.mk false (Prefix.mk 0 0) (PortsT.mk 0 0)) ([] : Str) 0 0) (now + n_)
 try dsimp only at hab_1174
 refine Z37 ?_
 refine JL_a noMk (a_alloc (l := [_, _, _, _, _]) Tryz.zeroValue28) (k := fun r7 hr7 => ?_)
 refine JL_a noMk (a_alloc (l := [_, _, _, _, _, _]) Tryz.zeroValue44) (k := fun r8 hr8 => ?_)
 refine Z261 ?_
 refine J_subL _ (sk (sk (sa (sd (sx (sk (sa (sa (sk (sa (sa (sk sz)))))))))))) ?_
 refine Z50 ?_
 refine Z481 ?_
 refine JL_p (c_callA Tryz.call20) (fun w1 hw1 => gFind_ok w1 (r := ((gApply (gTick ((gApply (gCut r) 2 (Command.mk 4 (name.take ((if 41 < ((name.length : Nat) : Int) then 41 else ((name.length : Nat) : Int)).toNat)) 0 0 (Rule.mk false (Prefix.mk 0 0) (PortsT.mk 0 0)) ([] : Str) n_ 0) now).1) (now + n_)) 2 (Command.mk 3 (name.take ((if 41 < ((name.length : Nat) : Int) then 41 else ((name.length : Nat) : Int)).toNat)) 0 0 (Rule.mk false (Prefix.mk 0 0) (PortsT.mk 0 0)) ([] : Str) 0 0) (now + n_)).1)) (name := (name.take ((if 41 < ((name.length : Nat) : Int) then 41 else ((name.length : Nat) : Int)).toNat))) (h_r_slots_gens := (SlB.slj hs1_8) w1 hw1) (n_r_slots_gens := by first | omega | (simp; done) | exact Nat.le_trans (by assumption) (by decide)) (h_r_slots_used := (SlB.slj hs2_8) w1 hw1) (n_r_slots_used := by first | omega | (simp; done) | exact Nat.le_trans (by assumption) (by decide)) (h_r_slots_free := (SlB.slj hs3_8) w1 hw1) (n_r_slots_free := by first | omega | (simp; done) | exact Nat.le_trans (by assumption) (by decide)) (h_r_l := (SlNB.j hs4_8.1 sh).2 w1 hw1) (n_r_l := by first | omega | (simp; done) | exact Nat.le_trans (by assumption) (by decide)) (k_r_l := hs4_8.2) (hsm := by first | assumption | exact Small.nil)) (k := ?_)
 rintro w1_9 e1_9 w2_9 hw1_9 ⟨a1_9, c1_9, a2_9, c2_9, B1_9, B2_9, he_9, hf_9, ho1_9, ho2_9, hl1_9, hl2_9⟩
 refine ⟨_, _, he_9, (hw1_9.fresh hf_9).perm (eqp (nA rfl)), ?_⟩
 have hfv_31339 := gFind_ver ((gApply (gTick ((gApply (gCut r) 2 (Command.mk 4 (name.take ((if 41 < ((name.length : Nat) : Int) then 41 else ((name.length : Nat) : Int)).toNat)) 0 0 (Rule.mk false (Prefix.mk 0 0) (PortsT.mk 0 0)) ([] : Str) n_ 0) now).1) (now + n_)) 2 (Command.mk 3 (name.take ((if 41 < ((name.length : Nat) : Int) then 41 else ((name.length : Nat) : Int)).toNat)) 0 0 (Rule.mk false (Prefix.mk 0 0) (PortsT.mk 0 0)) ([] : Str) 0 0) (now + n_)).1) (name.take ((if 41 < ((name.length : Nat) : Int) then 41 else ((name.length : Nat) : Int)).toNat))
 refine Z37 ?_
 refine JL_a noMk (a_alloc (l := [_, _, _, _, _, _, _, _]) Tryz.zeroValue52) (k := fun r9 hr9 => ?_)
 refine Z122 ?_
 refine J_subL _ (sk (sa (sa (sk (sd (sx (sk (sa (sa (sk (sa (sa (sk sz))))))))))))) ?_
 refine Z174 ?_
 refine JL_bool 93 rfl (fun hq4 => ?_) (fun hq4 => ?_)
 rotate_left
 ·refine JL_skips 3 rfl ?_
  refine Z356 ?_
  refine Z356 ?_
  refine Z254 ?_
  refine Z319 ?_
  refine Z356 ?_
  refine Z26 ?_
  refine JX_ret Tryz.results7 (Res.tmp rfl Res.nil) (fun w1 hw1 => ?_)
  exact ⟨(by rw [((((hF.neg hq1).neg hq2).neg hq3).f hq4).eq] <;> first | rfl | (simp only [List.length_set] <;> rfl)), hw1.ext_out⟩
 refine JL_qg (q_fld FO_44_4) (k := ?_)
 refine Z80 ?_
 refine Z18 ?_
 refine JL_dec 98 rfl (fun hq5 => ?_) (fun hq5 => ?_)
 rotate_left
 ·refine JL_skip (k := ?_)
  refine Z58 ?_
  refine Z356 ?_
  refine Z254 ?_
  refine Z319 ?_
  refine Z356 ?_
  refine Z26 ?_
  refine JX_ret Tryz.results7 (Res.tmp rfl Res.nil) (fun w1 hw1 => ?_)
  exact ⟨(by rw [(((((hF.neg hq1).neg hq2).neg hq3).t hq4).neg hq5).eq] <;> first | rfl | (simp only [List.length_set] <;> rfl)), hw1.ext_out⟩
 refine Z489 ?_
 refine Z18 ?_
 refine JL_bool 101 rfl (fun hq6 => ?_) (fun hq6 => ?_)
 rotate_left
 ·refine JL_skips 3 rfl ?_
  refine Z356 ?_
  refine Z254 ?_
  refine Z319 ?_
  refine Z356 ?_
  refine Z26 ?_
  refine JX_ret Tryz.results7 (Res.tmp rfl Res.nil) (fun w1 hw1 => ?_)
  exact ⟨(by rw [((((((hF.neg hq1).neg hq2).neg hq3).t hq4).pos hq5).f hq6).eq] <;> first | rfl | (simp only [List.length_set] <;> rfl)), hw1.ext_out⟩
 refine Z309 ?_
 refine Z18 ?_
 refine JL_dec 106 rfl (fun hq7 => ?_) (fun hq7 => ?_)
 rotate_left
 ·refine JL_skip (k := ?_)
  refine Z58 ?_
  refine Z254 ?_
  refine Z319 ?_
  refine Z356 ?_
  refine Z26 ?_
  refine JX_ret Tryz.results7 (Res.tmp rfl Res.nil) (fun w1 hw1 => ?_)
  exact ⟨(by rw [(((((((hF.neg hq1).neg hq2).neg hq3).t hq4).pos hq5).t hq6).neg hq7).eq] <;> first | rfl | (simp only [List.length_set] <;> rfl)), hw1.ext_out⟩
 refine Z489 ?_
 refine Z18 ?_
 refine JL_bool 109 rfl (fun hq8 => ?_) (fun hq8 => ?_)
 rotate_left
 ·refine JL_skips 3 rfl ?_
  refine Z254 ?_
  refine Z319 ?_
  refine Z356 ?_
  refine Z26 ?_
  refine JX_ret Tryz.results7 (Res.tmp rfl Res.nil) (fun w1 hw1 => ?_)
  exact ⟨(by rw [((((((((hF.neg hq1).neg hq2).neg hq3).t hq4).pos hq5).t hq6).pos hq7).f hq8).eq] <;> first | rfl | (simp only [List.length_set] <;> rfl)), hw1.ext_out⟩
 refine Z309 ?_
 refine Z18 ?_
 refine JL_dec 114 rfl (fun hq9 => ?_) (fun hq9 => ?_)
 rotate_left
 ·refine JL_skips 6 rfl ?_
  refine Z319 ?_
  refine Z356 ?_
  refine Z26 ?_
  refine JX_ret Tryz.results7 (Res.tmp rfl Res.nil) (fun w1 hw1 => ?_)
  exact ⟨(by rw [(((((((((hF.neg hq1).neg hq2).neg hq3).t hq4).pos hq5).t hq6).pos hq7).t hq8).neg hq9).eq] <;> first | rfl | (simp only [List.length_set] <;> rfl)), hw1.ext_out⟩
 refine Z373 ?_
 refine JL_qg (q_fld FO_44_3) (k := ?_)
 refine Z500 ?_
 refine JL_qg q_add (k := ?_)
 refine Z249 ?_
 refine JL_dec 122 rfl (fun hq10 => ?_) (fun hq10 => ?_)
 rotate_left
 ·refine JL_skips 3 rfl ?_
  refine Z58 ?_
  refine Z356 ?_
  refine Z26 ?_
  refine JX_ret Tryz.results7 (Res.tmp rfl Res.nil) (fun w1 hw1 => ?_)
  exact ⟨(by rw [((((((((((hF.neg hq1).neg hq2).neg hq3).t hq4).pos hq5).t hq6).pos hq7).t hq8).pos hq9).neg hq10).eq] <;> first | rfl | (simp only [List.length_set] <;> rfl)), hw1.ext_out⟩
 refine Z445 ?_
 refine Z18 ?_
 refine JL_dec 127 rfl (fun hq11 => ?_) (fun hq11 => ?_)
 rotate_left
 ·refine JL_skips 3 rfl ?_
  refine Z356 ?_
  refine Z26 ?_
  refine JX_ret Tryz.results7 (Res.tmp rfl Res.nil) (fun w1 hw1 => ?_)
  exact ⟨(by rw [(((((((((((hF.neg hq1).neg hq2).neg hq3).t hq4).pos hq5).t hq6).pos hq7).t hq8).pos hq9).pos hq10).neg hq11).eq] <;> first | rfl | (simp only [List.length_set] <;> rfl)), hw1.ext_out⟩
 refine Z111 ?_
 refine Z249 ?_
 refine JL_dec 132 rfl (fun hq12 => ?_) (fun hq12 => ?_)
 rotate_left
 ·refine JL_skip (k := ?_)
  refine Z58 ?_
  refine Z26 ?_
  refine JX_ret Tryz.results7 (Res.tmp rfl Res.nil) (fun w1 hw1 => ?_)
  exact ⟨(by rw [((((((((((((hF.neg hq1).neg hq2).neg hq3).t hq4).pos hq5).t hq6).pos hq7).t hq8).pos hq9).pos hq10).pos hq11).neg hq12).eq] <;> first | rfl | (simp only [List.length_set] <;> rfl)), hw1.ext_out⟩
 refine Z489 ?_
 refine Z18 ?_
 refine JL_bool 135 rfl (fun hq13 => ?_) (fun hq13 => ?_)
 rotate_left
 ·refine JL_skips 3 rfl ?_
  refine Z26 ?_
  refine JX_ret Tryz.results7 (Res.tmp rfl Res.nil) (fun w1 hw1 => ?_)
  exact ⟨(by rw [(((((((((((((hF.neg hq1).neg hq2).neg hq3).t hq4).pos hq5).t hq6).pos hq7).t hq8).pos hq9).pos hq10).pos hq11).pos hq12).f hq13).eq] <;> first | rfl | (simp only [List.length_set] <;> rfl)), hw1.ext_out⟩
 refine Z309 ?_
 refine Z79 ?_
 refine JX_ret Tryz.results7 (Res.tmp rfl Res.nil) (fun w1 hw1 => ?_)
 exact ⟨(by rw [(((((((((((((hF.neg hq1).neg hq2).neg hq3).t hq4).pos hq5).t hq6).pos hq7).t hq8).pos hq9).pos hq10).pos hq11).pos hq12).t hq13).eq] <;> first | rfl | (simp only [List.length_set] <;> rfl)), hw1.ext_out⟩

end Go.Proofs.YtopjaeoklkpcpaaGreatDoor.Jd

