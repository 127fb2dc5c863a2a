/- Part of the proofs of this seat: walks and plain facts. No condition. -/
import Derived.Test.YtopjaeoklkpcpaaGreatDoorP0
import Derived.Test.YtopjaeoklkpcpaaGreatDoorProg
import Derived.Test.YtopjaeoklkpcpaaGreatDoorP5
import Derived.Test.YtopjaeoklkpcpaaGreatDoorP9
import Derived.Test.YtopjaeoklkpcpaaGreatDoorP6
import Derived.Test.YtopjaeoklkpcpaaGreatDoorP3
import Derived.Test.YtopjaeoklkpcpaaGreatDoorP8
import Derived.Test.YtopjaeoklkpcpaaGreatDoorP1
import Derived.Test.YtopjaeoklkpcpaaGreatDoorP4
import Derived.Test.YtopjaeoklkpcpaaGreatDoorP2
namespace Go.Proofs.YtopjaeoklkpcpaaGreatDoor.Jd
set_option linter.unusedVariables false
set_option linter.unusedSimpArgs false
section
variable {p q : Prop}
theorem Z384 (k : q) (h : Hid q → p := by intro z; refine JD_skips 25 rfl ?_; refine Z139 ?_; exact z.1) : p := h ⟨k⟩
end
open Go.Proofs
open Go.RowKit (Below)
set_option maxRecDepth 100000
set_option maxHeartbeats 8000000
set_option linter.unusedVariables false
set_option linter.unusedSimpArgs false
def lRegistryCreates (r : Registry) (c : Command) (now : Int) : Bool := (if ((gApply (gCut r) 3 (Command.mk 1 ((gCutC c).name) ((gCutC c).want) ((gCutC c).at_) ((gCutC c).rule) ((gCutC c).key) ((gCutC c).n) ((gCutC c).m)) now).2.err) ≠ 0 then (if gShown = true then (if (!((gFind (gCut r) ((gCutC c).name)).2)) = true then true else (if ((gApply (gCut r) 3 (Command.mk 1 ((gCutC c).name) ((gCutC c).want) ((gCutC c).at_) ((gCutC c).rule) ((gCutC c).key) ((gCutC c).n) ((gCutC c).m)) now).2.err) = 153 then true else decide (((gApply (gCut r) 3 (Command.mk 1 ((gCutC c).name) ((gCutC c).want) ((gCutC c).at_) ((gCutC c).rule) ((gCutC c).key) ((gCutC c).n) ((gCutC c).m)) now).2.err) = 150))) else false) else (if gShown = true then (if (!((gFind (gCut r) ((gCutC c).name)).2)) = true then (if ((gFind ((gApply (gCut r) 3 (Command.mk 1 ((gCutC c).name) ((gCutC c).want) ((gCutC c).at_) ((gCutC c).rule) ((gCutC c).key) ((gCutC c).n) ((gCutC c).m)) now).1) ((gCutC c).name)).2) = true then (if ((gFind ((gApply (gCut r) 3 (Command.mk 1 ((gCutC c).name) ((gCutC c).want) ((gCutC c).at_) ((gCutC c).rule) ((gCutC c).key) ((gCutC c).n) ((gCutC c).m)) now).1) ((gCutC c).name)).1.handle.slot) = ((gApply (gCut r) 3 (Command.mk 1 ((gCutC c).name) ((gCutC c).want) ((gCutC c).at_) ((gCutC c).rule) ((gCutC c).key) ((gCutC c).n) ((gCutC c).m)) now).2.handle.slot) ∧ ((gFind ((gApply (gCut r) 3 (Command.mk 1 ((gCutC c).name) ((gCutC c).want) ((gCutC c).at_) ((gCutC c).rule) ((gCutC c).key) ((gCutC c).n) ((gCutC c).m)) now).1) ((gCutC c).name)).1.handle.gen) = ((gApply (gCut r) 3 (Command.mk 1 ((gCutC c).name) ((gCutC c).want) ((gCutC c).at_) ((gCutC c).rule) ((gCutC c).key) ((gCutC c).n) ((gCutC c).m)) now).2.handle.gen) then (if ((gFind ((gApply (gCut r) 3 (Command.mk 1 ((gCutC c).name) ((gCutC c).want) ((gCutC c).at_) ((gCutC c).rule) ((gCutC c).key) ((gCutC c).n) ((gCutC c).m)) now).1) ((gCutC c).name)).1.state) = 1 then (if ((gFind ((gApply (gCut r) 3 (Command.mk 1 ((gCutC c).name) ((gCutC c).want) ((gCutC c).at_) ((gCutC c).rule) ((gCutC c).key) ((gCutC c).n) ((gCutC c).m)) now).1) ((gCutC c).name)).1.version) = 1 then (if ((((gFind ((gApply (gCut r) 3 (Command.mk 1 ((gCutC c).name) ((gCutC c).want) ((gCutC c).at_) ((gCutC c).rule) ((gCutC c).key) ((gCutC c).n) ((gCutC c).m)) now).1) ((gCutC c).name)).1.rules.length) : Nat) : Int) = 0 then (if ((((cHolding ((gFind ((gApply (gCut r) 3 (Command.mk 1 ((gCutC c).name) ((gCutC c).want) ((gCutC c).at_) ((gCutC c).rule) ((gCutC c).key) ((gCutC c).n) ((gCutC c).m)) now).1) ((gCutC c).name)).1.creds) now).length) : Nat) : Int) = 1 then (if (((cHolding ((gFind ((gApply (gCut r) 3 (Command.mk 1 ((gCutC c).name) ((gCutC c).want) ((gCutC c).at_) ((gCutC c).rule) ((gCutC c).key) ((gCutC c).n) ((gCutC c).m)) now).1) ((gCutC c).name)).1.creds) now).getD 0 default).key) = ((gCutC c).key) then (if ((gApply ((gApply (gCut r) 3 (Command.mk 1 ((gCutC c).name) ((gCutC c).want) ((gCutC c).at_) ((gCutC c).rule) ((gCutC c).key) ((gCutC c).n) ((gCutC c).m)) now).1) 3 (Command.mk 1 ((gCutC c).name) ((gCutC c).want) ((gCutC c).at_) ((gCutC c).rule) ((gCutC c).key) ((gCutC c).n) ((gCutC c).m)) now).2.err) = 153 then (if (gSame ((gApply ((gApply (gCut r) 3 (Command.mk 1 ((gCutC c).name) ((gCutC c).want) ((gCutC c).at_) ((gCutC c).rule) ((gCutC c).key) ((gCutC c).n) ((gCutC c).m)) now).1) 3 (Command.mk 1 ((gCutC c).name) ((gCutC c).want) ((gCutC c).at_) ((gCutC c).rule) ((gCutC c).key) ((gCutC c).n) ((gCutC c).m)) now).1) (Registry.mk ((gApply (gCut r) 3 (Command.mk 1 ((gCutC c).name) ((gCutC c).want) ((gCutC c).at_) ((gCutC c).rule) ((gCutC c).key) ((gCutC c).n) ((gCutC c).m)) now).1.slots) ((gApply (gCut r) 3 (Command.mk 1 ((gCutC c).name) ((gCutC c).want) ((gCutC c).at_) ((gCutC c).rule) ((gCutC c).key) ((gCutC c).n) ((gCutC c).m)) now).1.l) (((gApply (gCut r) 3 (Command.mk 1 ((gCutC c).name) ((gCutC c).want) ((gCutC c).at_) ((gCutC c).rule) ((gCutC c).key) ((gCutC c).n) ((gCutC c).m)) now).1.seq) + 1))) = true then true else false) else (if ((gApply ((gApply (gCut r) 3 (Command.mk 1 ((gCutC c).name) ((gCutC c).want) ((gCutC c).at_) ((gCutC c).rule) ((gCutC c).key) ((gCutC c).n) ((gCutC c).m)) now).1) 3 (Command.mk 1 ((gCutC c).name) ((gCutC c).want) ((gCutC c).at_) ((gCutC c).rule) ((gCutC c).key) ((gCutC c).n) ((gCutC c).m)) now).2.err) = 150 then decide (1000000000000 ≤ ((gApply (gCut r) 3 (Command.mk 1 ((gCutC c).name) ((gCutC c).want) ((gCutC c).at_) ((gCutC c).rule) ((gCutC c).key) ((gCutC c).n) ((gCutC c).m)) now).1.seq)) else false)) else false) else false) else false) else false) else false) else false) else false) else false) else false))
end Go.Proofs.YtopjaeoklkpcpaaGreatDoor.Jd

namespace Go.Proofs.YtopjaeoklkpcpaaGreatDoor.Jd
set_option linter.unusedVariables false
set_option linter.unusedSimpArgs false
section
variable {r : Registry} {role : Int} {c : Command} {now : Int}
theorem apply_exists (hf : Fit r now) (hm : roMay role c.verb = true) (v1 : c.verb = 1) (hk : gIsName c.name = true) {t : Tenant} (ht : t ∈ r.l) (hn : t.name = c.name) : gApply r role c now = failR r 153 := by
  obtain ⟨i, hi, e⟩ := mem_getD' ht
  rw [gApply_do (fit_iff.1 hf) hm]
  unfold doD
  rw [if_pos v1, if_pos hk, ← hn, ← e, place_at hf.right.names hi, if_pos rfl]
end
end Go.Proofs.YtopjaeoklkpcpaaGreatDoor.Jd

namespace Go.Proofs.YtopjaeoklkpcpaaGreatDoor.Jd
set_option maxRecDepth 100000
set_option linter.unusedVariables false
set_option linter.unusedSimpArgs false
theorem lRegistryCreates_true (r : Registry) (c : Command) (now : Int) : lRegistryCreates r c now = true := by
  unfold lRegistryCreates
  simp only [gShown_true, if_true]
  generalize gCut r = s
  generalize gCutC c = d
  generalize hd : Command.mk 1 d.name d.want d.at_ d.rule d.key d.n d.m = e
  have v1 : e.verb = 1 := by rw [← hd]
  have hen : e.name = d.name := by rw [← hd]
  have hek : e.key = d.key := by rw [← hd]
  have hmay : roMay 3 e.verb = true := may3 (by omega)
  rw [← hen, ← hek]
  have h := apply_out s 3 e now
  by_cases he : (gApply s 3 e now).2.err = 0
  rotate_left
  · rw [if_pos he]
    cases hfd : (gFind s e.name).2 with
    | false => rfl
    | true =>
      rw [if_neg (by simp)]
      obtain ⟨hm, hmn⟩ := find_true hfd
      by_cases hf : Fit s now
      · by_cases hk : gIsName e.name = true
        · rw [apply_exists hf hmay v1 hk hm hmn]; rfl
        · exact absurd (hmn ▸ (hf.right.ok _ hm).name) hk
      · rw [gApply_bad fun h => hf (fit_iff.2 h)]; rfl
  rw [if_neg (by simpa using he)]
  generalize gApply s 3 e now = x at h he ⊢
  obtain ⟨hf, hk, hno, h1, h2, rfl⟩ := h.newOf he v1
  have hN := new_ok hf hk hno h1 h2
  have hmem : newT s e now ∈ putX s.l (newT s e now) := hN.1.mem_iff.2 List.mem_cons_self
  have hh := hold_last h2
  have u1 : (newT s e now).name = e.name := rfl
  have u2 : (newT s e now).creds = (cRot [] e.key now 0 e.n).1 := rfl
  have u3 : (newT s e now).rules = [] := rfl
  have u4 : (newT s e now).state = 1 := rfl
  have u5 : (newT s e now).version = 1 := rfl
  have u6 : (newT s e now).handle = (sTake s.slots).2.1 := rfl
  generalize newT s e now = u at *
  have hfd := find_some (r := ⟨(sTake s.slots).1, putX s.l u, s.seq + 1⟩) hN.2.names hmem
  rw [u1] at hfd
  simp only
  rw [find_none hno, hfd]
  simp only [Bool.not_false, if_true]
  rw [if_pos (by rw [u6]; exact ⟨rfl, rfl⟩), if_pos u4, if_pos u5, if_pos (by rw [u3]; rfl), u2, hh]
  rw [if_pos (by rfl), if_pos (by rfl)]
  by_cases hq : s.seq + 1 < 1000000000000
  · have fT : Fit ⟨(sTake s.slots).1, putX s.l u, s.seq + 1⟩ now := ⟨hN.2, hq, hf.nn⟩
    rw [apply_exists fT hmay v1 hk hmem u1, if_pos (by rfl), if_pos ((gSame_iff (failR ⟨(sTake s.slots).1, putX s.l u, s.seq + 1⟩ 153).1 ⟨(sTake s.slots).1, putX s.l u, s.seq + 1 + 1⟩).2 rfl)]
  · rw [gApply_bad (r := ⟨(sTake s.slots).1, putX s.l u, s.seq + 1⟩) (role := 3) (c := e) (now := now) (fun h => hq h.2.1), if_neg (by simp [noR]), if_pos (by rfl)]
    simp; omega
end Go.Proofs.YtopjaeoklkpcpaaGreatDoor.Jd

namespace Go.Proofs.YtopjaeoklkpcpaaGreatDoor.Jd
open Go.Proofs
open Go.RowKit (Below)
set_option maxRecDepth 100000
set_option maxHeartbeats 8000000
set_option linter.unusedVariables false
set_option linter.unusedSimpArgs false
theorem lRegistryCreates_ok (w : World) {r_slots_gens_a : Option Addr} {r_slots_gens_c : Nat} {r_slots_used_a : Option Addr} {r_slots_used_c : Nat} {r_slots_free_a : Option Addr} {r_slots_free_c : Nat} {r_l_a : Option Addr} {r_l_c : Nat} {r_l_t : List TA} {ea0 : Addr} {ea1 : Addr} {ea2 : Addr} {ea3 : Addr} {r : Registry} {c : Command} {now : Int} (h_r_slots_gens : Sl w eI 1 r_slots_gens_a r.slots.gens) (k_r_slots_gens : r.slots.gens.length ≤ r_slots_gens_c) (h_r_slots_used : Sl w eB 1 r_slots_used_a r.slots.used) (k_r_slots_used : r.slots.used.length ≤ r_slots_used_c) (h_r_slots_free : Sl w eI 1 r_slots_free_a r.slots.free) (k_r_slots_free : r.slots.free.length ≤ r_slots_free_c) (h_r_l : SlN w eTenant 8 DT r_l_a r.l r_l_t) (k_r_l : r.l.length ≤ r_l_c) (i_c_at_ : -9223372036854775808 ≤ c.at_ ∧ c.at_ ≤ 9223372036854775807) (hG : Gl w) (hE : Er w ea0 ea1 ea2 ea3) : Val Tryz.prog 13 [(Value.agg [(vs r_slots_gens_a r.slots.gens.length r_slots_gens_c), (vs r_slots_used_a r.slots.used.length r_slots_used_c), (vs r_slots_free_a r.slots.free.length r_slots_free_c), (vs r_l_a r.l.length r_l_c), (vi r.seq)].toArray), (Value.agg [(vi c.verb), (vt c.name), (vi c.want), (vi c.at_), (Value.bool c.rule.allow), (vi c.rule.pfx.addr), (vi c.rule.pfx.bits), (vi c.rule.prt.lo), (vi c.rule.prt.hi), (vt c.key), (vi c.n), (vi c.m)].toArray), (vi now)] w (Value.bool (lRegistryCreates r c now)) := by
 have hF := Is.refl (lRegistryCreates r c now)
 refine enter Tryz.func13 Tryz.ntmps13 (h := ?_)
 refine Z2 ?_
 refine JL_a noMk (a_box (l := [_, _, _, _, _])) (k := fun r1 hr1 => ?_)
 refine JL_a noMk (a_box (l := [_, _, _, _, _, _, _, _, _, _, _, _])) (k := fun r2 hr2 => ?_)
 refine Z96 ?_
 refine Z1 ?_
 refine Z24 ?_
 rintro w1_1 e1_1 w2_1 hw1_1 ⟨a1_1, c1_1, t1_1, B_1, he_1, hf_1, hs1_1, hl1_1⟩
 refine ⟨_, _, he_1, hw1_1.fresh hf_1, ?_⟩
 have hcb_1 := gCut_bd r
 have hsm_1 := gCut_small r
 refine Z133 ?_
 refine Z225 ?_
 refine Z109 ?_
 refine Z320 ?_
 refine Z206 ?_
 refine Z392 ?_
 refine JL_q (q_fld FO_36_1) (k := ?_)
 refine Z34 ?_
 rintro w1_2 e1_2 w2_2 hw1_2 ⟨a1_2, c1_2, a2_2, c2_2, B1_2, B2_2, he_2, hf_2, ho1_2, ho2_2, hl1_2, hl2_2⟩
 refine ⟨_, _, he_2, (hw1_2.fresh hf_2).perm (eqp (nA rfl)), ?_⟩
 have hfv_45306 := gFind_ver (gCut r) ((gCutC c).name)
 refine Z37 ?_
 refine JL_a noMk (a_alloc (l := [_, _, _, _, _, _, _, _]) Tryz.zeroValue52) (k := fun r3 hr3 => ?_)
 refine Z122 ?_
 refine J_subL _ (sd (sx (sx (sa (sk (sk sz)))))) ?_
 refine Z50 ?_
 refine Z126 ?_
 refine JL_p (c_callA Tryz.call17) (fun w1 hw1 => gApply_ok w1 (r := (gCut r)) (role := 3) (c := (Command.mk 1 ((gCutC c).name) ((gCutC c).want) ((gCutC c).at_) ((gCutC c).rule) ((gCutC c).key) ((gCutC c).n) ((gCutC c).m))) (now := now) (h_r_slots_gens := (SlJ.take (SlJ.of_base h_r_slots_gens) _) w1 hw1) (n_r_slots_gens := by first | omega | (simp; done) | exact Nat.le_trans (by assumption) (by decide)) (h_r_slots_used := (SlJ.take (SlJ.of_base h_r_slots_used) _) w1 hw1) (n_r_slots_used := by first | omega | (simp; done) | exact Nat.le_trans (by assumption) (by decide)) (h_r_slots_free := (SlJ.take (SlJ.of_base h_r_slots_free) _) w1 hw1) (n_r_slots_free := by first | omega | (simp; done) | exact Nat.le_trans (by assumption) (by decide)) (h_r_l := (SlNB.j hs1_1.1 sh).2 w1 hw1) (n_r_l := by first | omega | (simp; done) | exact Nat.le_trans (by assumption) (by decide)) (k_r_l := hs1_1.2) (i_c_at_ := by first | exact i_c_at_ | (simp; done) | (exact ⟨by decide, by decide⟩) | omega) (hG := hG.ext hw1.ext_out) (hE := hE.ext hw1.ext_out) (hsm := by first | assumption | exact Small.nil)) (k := ?_)
 rintro w1_3 e1_3 w2_3 hw1_3 ⟨a1_3, c1_3, a2_3, c2_3, a3_3, c3_3, a4_3, c4_3, t4_3, B_3, he_3, hf_3, hs1_3, hs2_3, hs3_3, hs4_3, hl1_3, hl2_3, hl3_3, hl4_3⟩
 refine ⟨_, _, he_3, hw1_3.fresh hf_3, ?_⟩
 have hap_1461 := gApply_small 3 (Command.mk 1 ((gCutC c).name) ((gCutC c).want) ((gCutC c).at_) ((gCutC c).rule) ((gCutC c).key) ((gCutC c).n) ((gCutC c).m)) now (by first | assumption | exact Small.nil : Small ((gCut r).l))
 have hab_1461 := gApply_bd (gCut r) 3 (Command.mk 1 ((gCutC c).name) ((gCutC c).want) ((gCutC c).at_) ((gCutC c).rule) ((gCutC c).key) ((gCutC c).n) ((gCutC c).m)) now
 try dsimp only at hab_1461
 refine Z37 ?_
 refine JL_a noMk (a_alloc (l := [_, _, _, _, _]) Tryz.zeroValue28) (k := fun r4 hr4 => ?_)
 refine JL_a noMk (a_alloc (l := [_, _, _, _, _, _]) Tryz.zeroValue44) (k := fun r5 hr5 => ?_)
 refine Z455 ?_
 refine J_subL _ (sk (sk (sa (sx (sk (sd sz)))))) ?_
 refine Z425 ?_
 refine Z190 ?_
 refine J_dec rfl (fun hq1 => ?_) (fun hq1 => ?_)
 ·refine J_seq ?_
  refine Z174 ?_
  refine JL_bool 41 rfl (fun hq2 => ?_) (fun hq2 => ?_)
  rotate_left
  ·refine JL_skips 12 rfl ?_
   refine Z26 ?_
   refine Z510 ?_
   refine JX_ret Tryz.results13 (Res.tmp rfl Res.nil) (fun w1 hw1 => ?_)
   exact ⟨(by rw [((hF.pos hq1).f hq2).eq] <;> first | rfl | (simp only [List.length_set] <;> rfl)), hw1.ext_out⟩
  refine Z411 ?_
  refine Z489 ?_
  refine JL_bool 44 rfl (fun hq3 => ?_) (fun hq3 => ?_)
  ·refine JL_skips 3 rfl ?_
   refine Z514 ?_
   refine Z489 ?_
   refine JL_skips 3 rfl ?_
   refine Z514 ?_
   refine Z360 ?_
   refine JX_ret Tryz.results13 (Res.tmp rfl Res.nil) (fun w1 hw1 => ?_)
   exact ⟨(by rw [(((hF.pos hq1).t hq2).t hq3).eq] <;> first | rfl | (simp only [List.length_set] <;> rfl)), hw1.ext_out⟩
  refine Z111 ?_
  refine JL_qg q_eql (k := ?_)
  refine Z515 ?_
  refine Z489 ?_
  refine JL_dec 49 rfl (fun hq4 => ?_) (fun hq4 => ?_)
  ·refine JL_skips 3 rfl ?_
   refine Z514 ?_
   refine Z360 ?_
   refine JX_ret Tryz.results13 (Res.tmp rfl Res.nil) (fun w1 hw1 => ?_)
   exact ⟨(by rw [((((hF.pos hq1).t hq2).f hq3).pos hq4).eq] <;> first | rfl | (simp only [List.length_set] <;> rfl)), hw1.ext_out⟩
  refine Z111 ?_
  refine JL_qg q_eql (k := ?_)
  refine Z515 ?_
  refine Z360 ?_
  refine JX_ret Tryz.results13 (Res.tmp rfl Res.nil) (fun w1 hw1 => ?_)
  exact ⟨(by rw [((((hF.pos hq1).t hq2).f hq3).neg hq4).eq] <;> first | rfl | (simp only [List.length_set] <;> rfl)), hw1.ext_out⟩
 refine Z14 ?_
 refine Z21 ?_
 refine Z84 ?_
 refine JL_p (c_callA Tryz.call20) (fun w1 hw1 => gFind_ok w1 (r := ((gApply (gCut r) 3 (Command.mk 1 ((gCutC c).name) ((gCutC c).want) ((gCutC c).at_) ((gCutC c).rule) ((gCutC c).key) ((gCutC c).n) ((gCutC c).m)) now).1)) (name := ((gCutC c).name)) (h_r_slots_gens := (SlB.slj hs1_3) w1 hw1) (n_r_slots_gens := by first | omega | (simp; done) | exact Nat.le_trans (by assumption) (by decide)) (h_r_slots_used := (SlB.slj hs2_3) w1 hw1) (n_r_slots_used := by first | omega | (simp; done) | exact Nat.le_trans (by assumption) (by decide)) (h_r_slots_free := (SlB.slj hs3_3) w1 hw1) (n_r_slots_free := by first | omega | (simp; done) | exact Nat.le_trans (by assumption) (by decide)) (h_r_l := (SlNB.j hs4_3.1 sh).2 w1 hw1) (n_r_l := by first | omega | (simp; done) | exact Nat.le_trans (by assumption) (by decide)) (k_r_l := hs4_3.2) (hsm := by first | assumption | exact Small.nil)) (k := ?_)
 rintro w1_4 e1_4 w2_4 hw1_4 ⟨a1_4, c1_4, a2_4, c2_4, B1_4, B2_4, he_4, hf_4, ho1_4, ho2_4, hl1_4, hl2_4⟩
 refine ⟨_, _, he_4, (hw1_4.fresh hf_4).perm (eqp (nA rfl)), ?_⟩
 have hfv_36233 := gFind_ver ((gApply (gCut r) 3 (Command.mk 1 ((gCutC c).name) ((gCutC c).want) ((gCutC c).at_) ((gCutC c).rule) ((gCutC c).key) ((gCutC c).n) ((gCutC c).m)) now).1) ((gCutC c).name)
 refine Z37 ?_
 refine JL_a noMk (a_alloc (l := [_, _, _, _, _, _, _, _]) Tryz.zeroValue52) (k := fun r6 hr6 => ?_)
 refine Z449 ?_
 refine JL_q (q_fld FO_52_5) (k := ?_)
 refine Z523 ?_
 refine Z481 ?_
 refine JL_p (c_callA Tryz.call24) (fun w1 hw1 => cHolding_ok w1 (l := ((gFind ((gApply (gCut r) 3 (Command.mk 1 ((gCutC c).name) ((gCutC c).want) ((gCutC c).at_) ((gCutC c).rule) ((gCutC c).key) ((gCutC c).n) ((gCutC c).m)) now).1) ((gCutC c).name)).1.creds)) (now := now) (h_l := (ho2_4.slj eCred_ok) w1 hw1) (n_l := by first | omega | (simp; done) | exact Nat.le_trans (by assumption) (by decide))) (k := ?_)
 rintro w1_5 e1_5 w2_5 hw1_5 ⟨a1_5, c1_5, B1_5, he_5, hf_5, ho1_5, hl1_5⟩
 refine ⟨_, _, he_5, hw1_5.fresh hf_5, ?_⟩
 refine Z1 ?_
 refine Z21 ?_
 refine Z126 ?_
 refine JL_p (c_callA Tryz.call17) (fun w1 hw1 => gApply_ok w1 (r := ((gApply (gCut r) 3 (Command.mk 1 ((gCutC c).name) ((gCutC c).want) ((gCutC c).at_) ((gCutC c).rule) ((gCutC c).key) ((gCutC c).n) ((gCutC c).m)) now).1)) (role := 3) (c := (Command.mk 1 ((gCutC c).name) ((gCutC c).want) ((gCutC c).at_) ((gCutC c).rule) ((gCutC c).key) ((gCutC c).n) ((gCutC c).m))) (now := now) (h_r_slots_gens := (SlB.slj hs1_3) w1 hw1) (n_r_slots_gens := by first | omega | (simp; done) | exact Nat.le_trans (by assumption) (by decide)) (h_r_slots_used := (SlB.slj hs2_3) w1 hw1) (n_r_slots_used := by first | omega | (simp; done) | exact Nat.le_trans (by assumption) (by decide)) (h_r_slots_free := (SlB.slj hs3_3) w1 hw1) (n_r_slots_free := by first | omega | (simp; done) | exact Nat.le_trans (by assumption) (by decide)) (h_r_l := (SlNB.j hs4_3.1 sh).2 w1 hw1) (n_r_l := by first | omega | (simp; done) | exact Nat.le_trans (by assumption) (by decide)) (k_r_l := hs4_3.2) (i_c_at_ := by first | exact i_c_at_ | (simp; done) | (exact ⟨by decide, by decide⟩) | omega) (hG := hG.ext hw1.ext_out) (hE := hE.ext hw1.ext_out) (hsm := by first | assumption | exact Small.nil)) (k := ?_)
 rintro w1_6 e1_6 w2_6 hw1_6 ⟨a1_6, c1_6, a2_6, c2_6, a3_6, c3_6, a4_6, c4_6, t4_6, B_6, he_6, hf_6, hs1_6, hs2_6, hs3_6, hs4_6, hl1_6, hl2_6, hl3_6, hl4_6⟩
 refine ⟨_, _, he_6, hw1_6.fresh hf_6, ?_⟩
 have hap_3450 := gApply_small 3 (Command.mk 1 ((gCutC c).name) ((gCutC c).want) ((gCutC c).at_) ((gCutC c).rule) ((gCutC c).key) ((gCutC c).n) ((gCutC c).m)) now (by first | assumption | exact Small.nil : Small ((gApply (gCut r) 3 (Command.mk 1 ((gCutC c).name) ((gCutC c).want) ((gCutC c).at_) ((gCutC c).rule) ((gCutC c).key) ((gCutC c).n) ((gCutC c).m)) now).1.l))
 have hab_3450 := gApply_bd ((gApply (gCut r) 3 (Command.mk 1 ((gCutC c).name) ((gCutC c).want) ((gCutC c).at_) ((gCutC c).rule) ((gCutC c).key) ((gCutC c).n) ((gCutC c).m)) now).1) 3 (Command.mk 1 ((gCutC c).name) ((gCutC c).want) ((gCutC c).at_) ((gCutC c).rule) ((gCutC c).key) ((gCutC c).n) ((gCutC c).m)) now
 try dsimp only at hab_3450
 refine Z37 ?_
 refine JL_a noMk (a_alloc (l := [_, _, _, _, _]) Tryz.zeroValue28) (k := fun r7 hr7 => ?_)
 refine JL_a noMk (a_alloc (l := [_, _, _, _, _, _]) Tryz.zeroValue44) (k := fun r8 hr8 => ?_)
 refine Z261 ?_
 refine J_plan mixed 73 [(true, 0), (true, 1), (true, 2), (true, 3), (true, 4), (true, 5), (true, 6), (true, 7), (true, 8), (true, 9), (true, 10), (true, 11), (true, 12), (true, 13), (true, 14), (true, 15), (true, 16), (true, 17), (true, 18), (true, 19), (true, 20), (true, 21), (true, 22), (true, 23), (true, 24), (true, 25), (true, 26), (true, 27), (true, 28), (true, 29), (true, 30), (true, 31), (true, 32), (true, 33), (true, 34), (true, 35), (true, 36), (true, 37), (true, 38), (true, 39), (true, 40), (true, 41), (true, 42), (true, 43), (true, 44), (true, 45), (true, 46), (true, 47), (true, 48), (true, 49), (true, 50), (true, 51), (true, 52), (true, 53), (true, 54), (true, 55), (true, 56), (true, 57), (true, 58), (false, 59), (true, 60), (true, 61), (true, 62), (true, 63), (true, 64), (true, 65), (true, 66), (true, 67), (true, 68), (true, 69), (true, 70), (true, 71), (true, 72)] (by kernel_rfl) ?_
 refine Z62 ?_
 refine JD_bool 74 rfl (fun hq5 => ?_) (fun hq5 => ?_)
 rotate_left
 ·refine JD_skips 2 rfl ?_
  refine Z23 ?_
  refine JD_skip (k := ?_)
  refine Z301 ?_
  refine Z184 ?_
  refine Z184 ?_
  refine Z23 ?_
  refine JD_skips 4 rfl ?_
  refine Z184 ?_
  refine Z325 ?_
  refine Z23 ?_
  refine Z384 ?_
  refine JX_ret Tryz.results13 (Res.tmp rfl Res.nil) (fun w1 hw1 => ?_)
  exact ⟨(by rw [((hF.neg hq1).f hq5).eq] <;> first | rfl | (simp only [List.length_set] <;> rfl)), hw1.ext_out⟩
 refine Z485 ?_
 refine JD_qg q_not (k := ?_)
 refine Z54 ?_
 refine JD_bool 78 rfl (fun hq6 => ?_) (fun hq6 => ?_)
 rotate_left
 ·refine JD_skip (k := ?_)
  refine Z301 ?_
  refine Z184 ?_
  refine Z184 ?_
  refine Z23 ?_
  refine JD_skips 4 rfl ?_
  refine Z184 ?_
  refine Z325 ?_
  refine Z23 ?_
  refine Z384 ?_
  refine JX_ret Tryz.results13 (Res.tmp rfl Res.nil) (fun w1 hw1 => ?_)
  exact ⟨(by rw [(((hF.neg hq1).t hq5).f hq6).eq] <;> first | rfl | (simp only [List.length_set] <;> rfl)), hw1.ext_out⟩
 refine Z485 ?_
 refine Z54 ?_
 refine JD_bool 81 rfl (fun hq7 => ?_) (fun hq7 => ?_)
 rotate_left
 ·refine JD_skips 5 rfl ?_
  refine Z184 ?_
  refine Z184 ?_
  refine Z23 ?_
  refine JD_skips 4 rfl ?_
  refine Z184 ?_
  refine Z325 ?_
  refine Z23 ?_
  refine Z384 ?_
  refine JX_ret Tryz.results13 (Res.tmp rfl Res.nil) (fun w1 hw1 => ?_)
  exact ⟨(by rw [((((hF.neg hq1).t hq5).t hq6).f hq7).eq] <;> first | rfl | (simp only [List.length_set] <;> rfl)), hw1.ext_out⟩
 refine Z186 ?_
 refine JD_qg (q_fld FO_44_2) (k := ?_)
 refine JD_qg (q_loadA Tryz.isAgg42 Tryz.sizeOf42) (k := ?_)
 refine JD_qg (q_eqS (EQ_42 _ _ _ _ _ _)) (k := ?_)
 refine Z54 ?_
 refine JD_dec 88 rfl (fun hq8 => ?_) (fun hq8 => ?_)
 rotate_left
 ·refine JD_skips 3 rfl ?_
  refine Z184 ?_
  refine Z23 ?_
  refine JD_skips 4 rfl ?_
  refine Z184 ?_
  refine Z325 ?_
  refine Z23 ?_
  refine Z384 ?_
  refine JX_ret Tryz.results13 (Res.tmp rfl Res.nil) (fun w1 hw1 => ?_)
  exact ⟨(by rw [(((((hF.neg hq1).t hq5).t hq6).t hq7).neg hq8).eq] <;> first | rfl | (simp only [List.length_set] <;> rfl)), hw1.ext_out⟩
 refine JD_qg (q_fld FO_52_2) (k := ?_)
 refine Z528 ?_
 refine Z338 ?_
 refine JD_dec 93 rfl (fun hq9 => ?_) (fun hq9 => ?_)
 rotate_left
 ·refine JD_skips 3 rfl ?_
  refine Z23 ?_
  refine JD_skips 4 rfl ?_
  refine Z184 ?_
  refine Z325 ?_
  refine Z23 ?_
  refine Z384 ?_
  refine JX_ret Tryz.results13 (Res.tmp rfl Res.nil) (fun w1 hw1 => ?_)
  exact ⟨(by rw [((((((hF.neg hq1).t hq5).t hq6).t hq7).pos hq8).neg hq9).eq] <;> first | rfl | (simp only [List.length_set] <;> rfl)), hw1.ext_out⟩
 refine Z374 ?_
 refine Z338 ?_
 refine JD_dec 98 rfl (fun hq10 => ?_) (fun hq10 => ?_)
 rotate_left
 ·refine JD_skips 4 rfl ?_
  refine Z184 ?_
  refine Z325 ?_
  refine Z23 ?_
  refine Z384 ?_
  refine JX_ret Tryz.results13 (Res.tmp rfl Res.nil) (fun w1 hw1 => ?_)
  exact ⟨(by rw [(((((((hF.neg hq1).t hq5).t hq6).t hq7).pos hq8).pos hq9).neg hq10).eq] <;> first | rfl | (simp only [List.length_set] <;> rfl)), hw1.ext_out⟩
 refine Z364 ?_
 refine Z338 ?_
 refine JD_dec 104 rfl (fun hq11 => ?_) (fun hq11 => ?_)
 rotate_left
 ·refine JD_skips 3 rfl ?_
  refine Z325 ?_
  refine Z23 ?_
  refine Z384 ?_
  refine JX_ret Tryz.results13 (Res.tmp rfl Res.nil) (fun w1 hw1 => ?_)
  exact ⟨(by rw [((((((((hF.neg hq1).t hq5).t hq6).t hq7).pos hq8).pos hq9).pos hq10).neg hq11).eq] <;> first | rfl | (simp only [List.length_set] <;> rfl)), hw1.ext_out⟩
 refine Z485 ?_
 refine JD_qg (q_lenS Tryz.runUnderlying50) (k := ?_)
 refine Z338 ?_
 refine JD_dec 109 rfl (fun hq12 => ?_) (fun hq12 => ?_)
 rotate_left
 ·refine JD_skips 7 rfl ?_
  refine Z23 ?_
  refine Z384 ?_
  refine JX_ret Tryz.results13 (Res.tmp rfl Res.nil) (fun w1 hw1 => ?_)
  exact ⟨(by rw [(((((((((hF.neg hq1).t hq5).t hq6).t hq7).pos hq8).pos hq9).pos hq10).pos hq11).neg hq12).eq] <;> first | rfl | (simp only [List.length_set] <;> rfl)), hw1.ext_out⟩
 refine Z485 ?_
 refine JD_qg (q_idx (n := (cHolding ((gFind ((gApply (gCut r) 3 (Command.mk 1 ((gCutC c).name) ((gCutC c).want) ((gCutC c).at_) ((gCutC c).rule) ((gCutC c).key) ((gCutC c).n) ((gCutC c).m)) now).1) ((gCutC c).name)).1.creds) now).length) Tryz.runUnderlying50 Tryz.sizeOf62 0 (ho1_5.slj eCred_ok) (gD (by first | exact ix)) (by first | rfl | simp)) (k := ?_)
 refine JD_qg (q_fldE FO_62_1) (k := ?_)
 refine JD_qg (q_loadE Tryz.isAgg9 0 1 (ho1_5.slj eCred_ok) (gD (by first | exact ix))) (k := ?_)
 refine JD_qg (q_fld FO_36_5) (k := ?_)
 refine JD_qg (q_load Tryz.isAgg9) (k := ?_)
 refine JD_qg q_eqT (k := ?_)
 refine Z54 ?_
 refine JD_dec 118 rfl (fun hq13 => ?_) (fun hq13 => ?_)
 rotate_left
 ·refine JD_skips 25 rfl ?_
  refine Z139 ?_
  refine JX_ret Tryz.results13 (Res.tmp rfl Res.nil) (fun w1 hw1 => ?_)
  exact ⟨(by rw [((((((((((hF.neg hq1).t hq5).t hq6).t hq7).pos hq8).pos hq9).pos hq10).pos hq11).pos hq12).neg hq13).eq] <;> first | rfl | (simp only [List.length_set] <;> rfl)), hw1.ext_out⟩
 refine Z314 ?_
 refine Z479 ?_
 refine JD_dec 122 rfl (fun hq14 => ?_) (fun hq14 => ?_)
 rotate_left
 ·refine JD_skips 10 rfl ?_
  refine JD_qg q_pickF (k := ?_)
  refine Z485 ?_
  refine Z314 ?_
  refine Z479 ?_
  refine JD_dec 138 rfl (fun hq17 => ?_) (fun hq17 => ?_)
  rotate_left
  ·refine JD_skips 3 rfl ?_
   refine JD_qg q_pickF (k := ?_)
   refine JD_qg q_pickF (k := ?_)
   refine Z359 ?_
   refine JX_ret Tryz.results13 (Res.tmp rfl Res.nil) (fun w1 hw1 => ?_)
   exact ⟨(by rw [((((((((((((hF.neg hq1).t hq5).t hq6).t hq7).pos hq8).pos hq9).pos hq10).pos hq11).pos hq12).pos hq13).neg hq14).neg hq17).eq] <;> first | rfl | (simp only [List.length_set] <;> rfl)), hw1.ext_out⟩
  refine JD_qg (q_fld FO_28_2) (k := ?_)
  refine Z528 ?_
  refine JD_qg q_geq (k := ?_)
  refine JD_qg q_pickT (k := ?_)
  refine JD_qg q_pickF (k := ?_)
  refine Z359 ?_
  refine JX_ret Tryz.results13 (Res.tmp rfl Res.nil) (fun w1 hw1 => ?_)
  exact ⟨(by rw [((((((((((((hF.neg hq1).t hq5).t hq6).t hq7).pos hq8).pos hq9).pos hq10).pos hq11).pos hq12).pos hq13).neg hq14).pos hq17).eq] <;> first | rfl | (simp only [List.length_set] <;> rfl)), hw1.ext_out⟩
 refine JD_qg (q_loadA Tryz.isAgg28 Tryz.sizeOf28) (k := ?_)
 refine JD_qg (q_fld FO_28_0) (k := ?_)
 refine JD_qg (q_loadA Tryz.isAgg25 Tryz.sizeOf25) (k := ?_)
 refine Z99 ?_
 refine JD_qg (q_fld FO_28_2) (k := ?_)
 refine Z528 ?_
 refine JD_qg q_add (k := ?_)
 refine JD_qg (q_build (cs := [_, _, _, _, _]) Tryz.zeroValue28 PL_28) (k := ?_)
 refine JD_vg (c_callA Tryz.call26) (fun w1 hw1 => gSame_ok w1 (a := ((gApply ((gApply (gCut r) 3 (Command.mk 1 ((gCutC c).name) ((gCutC c).want) ((gCutC c).at_) ((gCutC c).rule) ((gCutC c).key) ((gCutC c).n) ((gCutC c).m)) now).1) 3 (Command.mk 1 ((gCutC c).name) ((gCutC c).want) ((gCutC c).at_) ((gCutC c).rule) ((gCutC c).key) ((gCutC c).n) ((gCutC c).m)) now).1)) (b := (Registry.mk ((gApply (gCut r) 3 (Command.mk 1 ((gCutC c).name) ((gCutC c).want) ((gCutC c).at_) ((gCutC c).rule) ((gCutC c).key) ((gCutC c).n) ((gCutC c).m)) now).1.slots) ((gApply (gCut r) 3 (Command.mk 1 ((gCutC c).name) ((gCutC c).want) ((gCutC c).at_) ((gCutC c).rule) ((gCutC c).key) ((gCutC c).n) ((gCutC c).m)) now).1.l) (((gApply (gCut r) 3 (Command.mk 1 ((gCutC c).name) ((gCutC c).want) ((gCutC c).at_) ((gCutC c).rule) ((gCutC c).key) ((gCutC c).n) ((gCutC c).m)) now).1.seq) + 1))) (h_a_slots_gens := (SlB.slj hs1_6) w1 hw1) (n_a_slots_gens := by first | omega | (simp; done) | exact Nat.le_trans (by assumption) (by decide)) (h_a_slots_used := (SlB.slj hs2_6) w1 hw1) (n_a_slots_used := by first | omega | (simp; done) | exact Nat.le_trans (by assumption) (by decide)) (h_a_slots_free := (SlB.slj hs3_6) w1 hw1) (n_a_slots_free := by first | omega | (simp; done) | exact Nat.le_trans (by assumption) (by decide)) (h_a_l := (SlNB.j hs4_6.1 sh).2 w1 hw1) (n_a_l := by first | omega | (simp; done) | exact Nat.le_trans (by assumption) (by decide)) (k_a_l := hs4_6.2) (h_b_slots_gens := (SlB.slj hs1_3) w1 hw1) (n_b_slots_gens := by first | omega | (simp; done) | exact Nat.le_trans (by assumption) (by decide)) (h_b_slots_used := (SlB.slj hs2_3) w1 hw1) (n_b_slots_used := by first | omega | (simp; done) | exact Nat.le_trans (by assumption) (by decide)) (h_b_slots_free := (SlB.slj hs3_3) w1 hw1) (n_b_slots_free := by first | omega | (simp; done) | exact Nat.le_trans (by assumption) (by decide)) (h_b_l := (SlNB.j hs4_3.1 sh).2 w1 hw1) (n_b_l := by first | omega | (simp; done) | exact Nat.le_trans (by assumption) (by decide)) (k_b_l := hs4_3.2) (hsm := by first | assumption | exact Small.nil) (hsm2 := by first | assumption | exact Small.nil)) (k := ?_)
 refine JD_qg q_pickT (k := ?_)
 refine Z485 ?_
 refine JD_bool 134 rfl (fun hq15 => ?_) (fun hq15 => ?_)
 ·refine JD_skips 8 rfl ?_
  refine JD_qg q_pickT (k := ?_)
  refine Z359 ?_
  refine JX_ret Tryz.results13 (Res.tmp rfl Res.nil) (fun w1 hw1 => ?_)
  exact ⟨(by rw [((((((((((((hF.neg hq1).t hq5).t hq6).t hq7).pos hq8).pos hq9).pos hq10).pos hq11).pos hq12).pos hq13).pos hq14).t hq15).eq] <;> first | rfl | (simp only [List.length_set] <;> rfl)), hw1.ext_out⟩
 refine Z314 ?_
 refine Z479 ?_
 refine JD_dec 138 rfl (fun hq16 => ?_) (fun hq16 => ?_)
 ·exact absurd (Eq.trans (Eq.symm hq14) hq16) (by decide)
 refine JD_skips 3 rfl ?_
 refine JD_qg q_pickF (k := ?_)
 refine JD_qg q_pickF (k := ?_)
 refine Z359 ?_
 refine JX_ret Tryz.results13 (Res.tmp rfl Res.nil) (fun w1 hw1 => ?_)
 exact ⟨(by rw [((((((((((((hF.neg hq1).t hq5).t hq6).t hq7).pos hq8).pos hq9).pos hq10).pos hq11).pos hq12).pos hq13).pos hq14).f hq15).eq] <;> first | rfl | (simp only [List.length_set] <;> rfl)), hw1.ext_out⟩

end Go.Proofs.YtopjaeoklkpcpaaGreatDoor.Jd

