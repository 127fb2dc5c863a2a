/- Part of the proofs of this seat: walks and plain facts. No condition. -/
import Derived.Test.YtopjaeoklkpcpaaGreatDoorP0
import Derived.Test.YtopjaeoklkpcpaaGreatDoorProg
import Derived.Test.YtopjaeoklkpcpaaGreatDoorP5
import Derived.Test.YtopjaeoklkpcpaaGreatDoorP6
import Derived.Test.YtopjaeoklkpcpaaGreatDoorP3
import Derived.Test.YtopjaeoklkpcpaaGreatDoorP8
import Derived.Test.YtopjaeoklkpcpaaGreatDoorP1
import Derived.Test.YtopjaeoklkpcpaaGreatDoorP4
import Derived.Test.YtopjaeoklkpcpaaGreatDoorP2
namespace Go.Proofs.YtopjaeoklkpcpaaGreatDoor.Jd
set_option linter.unusedVariables false
set_option linter.unusedSimpArgs false
section
variable {p q : Prop}
theorem Z22 (k : q) (h : Hid q → p := by intro z; refine Z533 ?_; refine JL_vg (c_callA Tryz.call26) (fun w1 hw1 => gSame_ok w1 (a := ((gApply (gCut r) role (Command.mk ((gCutC c).verb) ((gCutC c).name) 0 ((gCutC c).at_) ((gCutC c).rule) ((gCutC c).key) ((gCutC c).n) ((gCutC c).m)) now).1)) (b := ((gApply (gCut r) role (Command.mk ((gCutC c).verb) ((gCutC c).name) ((gFind (gCut r) ((gCutC c).name)).1.version) ((gCutC c).at_) ((gCutC c).rule) ((gCutC c).key) ((gCutC c).n) ((gCutC c).m)) now).1)) (h_a_slots_gens := (SlB.slj hs1_3) w1 hw1) (n_a_slots_gens := by first | omega | (simp; done) | exact Nat.le_trans (by assumption) (by decide)) (h_a_slots_used := (SlB.slj hs2_3) w1 hw1) (n_a_slots_used := by first | omega | (simp; done) | exact Nat.le_trans (by assumption) (by decide)) (h_a_slots_free := (SlB.slj hs3_3) w1 hw1) (n_a_slots_free := by first | omega | (simp; done) | exact Nat.le_trans (by assumption) (by decide)) (h_a_l := (SlNB.j hs4_3.1 sh).2 w1 hw1) (n_a_l := by first | omega | (simp; done) | exact Nat.le_trans (by assumption) (by decide)) (k_a_l := hs4_3.2) (h_b_slots_gens := (SlB.slj hs1_4) w1 hw1) (n_b_slots_gens := by first | omega | (simp; done) | exact Nat.le_trans (by assumption) (by decide)) (h_b_slots_used := (SlB.slj hs2_4) w1 hw1) (n_b_slots_used := by first | omega | (simp; done) | exact Nat.le_trans (by assumption) (by decide)) (h_b_slots_free := (SlB.slj hs3_4) w1 hw1) (n_b_slots_free := by first | omega | (simp; done) | exact Nat.le_trans (by assumption) (by decide)) (h_b_l := (SlNB.j hs4_4.1 sh).2 w1 hw1) (n_b_l := by first | omega | (simp; done) | exact Nat.le_trans (by assumption) (by decide)) (k_b_l := hs4_4.2) (hsm := by first | assumption | exact Small.nil) (hsm2 := by first | assumption | exact Small.nil)) (k := ?_); exact z.1) : p := h ⟨k⟩
theorem Z358 (k : q) (h : Hid q → p := by intro z; refine JL_q (q_fld FO_36_2) (k := ?_); refine JL_s (w_store (l' := [_, _, _, _, _, _, _, _, _, _, _, _]) Tryz.sizeOf3) (k := ?_); exact z.1) : p := h ⟨k⟩
theorem Z371 (k : q) (h : Hid q → p := by intro z; refine Z532 ?_; refine Z532 ?_; exact z.1) : p := h ⟨k⟩
theorem Z467 (k : q) (h : Hid q → p := by intro z; refine Z252 ?_; refine Z203 ?_; exact z.1) : p := h ⟨k⟩
end
open Go.Proofs
open Go.RowKit (Below)
set_option maxRecDepth 100000
set_option maxHeartbeats 8000000
set_option linter.unusedVariables false
set_option linter.unusedSimpArgs false
def lRegistryVersions (r : Registry) (role : Int) (c : Command) (now : Int) : Bool := (if ((gApply (gCut r) role (Command.mk ((gCutC c).verb) ((gCutC c).name) 0 ((gCutC c).at_) ((gCutC c).rule) ((gCutC c).key) ((gCutC c).n) ((gCutC c).m)) now).2.err) ≠ 0 then gShown else (if (!((gFind (gCut r) ((gCutC c).name)).2)) = true then gShown else (if ((gCutC c).verb) = 9 then gShown else (if ((gCutC c).verb) = 1 then gShown else (if ((gCutC c).verb) ≠ 8 then (if ((gCutC c).verb) ≠ 10 then (if gShown = true then (if ((gApply (gCut r) role (Command.mk ((gCutC c).verb) ((gCutC c).name) 0 ((gCutC c).at_) ((gCutC c).rule) ((gCutC c).key) ((gCutC c).n) ((gCutC c).m)) now).2.err) = ((gApply (gCut r) role (Command.mk ((gCutC c).verb) ((gCutC c).name) ((gFind (gCut r) ((gCutC c).name)).1.version) ((gCutC c).at_) ((gCutC c).rule) ((gCutC c).key) ((gCutC c).n) ((gCutC c).m)) now).2.err) ∧ ((gApply (gCut r) role (Command.mk ((gCutC c).verb) ((gCutC c).name) 0 ((gCutC c).at_) ((gCutC c).rule) ((gCutC c).key) ((gCutC c).n) ((gCutC c).m)) now).2.seq) = ((gApply (gCut r) role (Command.mk ((gCutC c).verb) ((gCutC c).name) ((gFind (gCut r) ((gCutC c).name)).1.version) ((gCutC c).at_) ((gCutC c).rule) ((gCutC c).key) ((gCutC c).n) ((gCutC c).m)) now).2.seq) ∧ ((gApply (gCut r) role (Command.mk ((gCutC c).verb) ((gCutC c).name) 0 ((gCutC c).at_) ((gCutC c).rule) ((gCutC c).key) ((gCutC c).n) ((gCutC c).m)) now).2.handle.slot) = ((gApply (gCut r) role (Command.mk ((gCutC c).verb) ((gCutC c).name) ((gFind (gCut r) ((gCutC c).name)).1.version) ((gCutC c).at_) ((gCutC c).rule) ((gCutC c).key) ((gCutC c).n) ((gCutC c).m)) now).2.handle.slot) ∧ ((gApply (gCut r) role (Command.mk ((gCutC c).verb) ((gCutC c).name) 0 ((gCutC c).at_) ((gCutC c).rule) ((gCutC c).key) ((gCutC c).n) ((gCutC c).m)) now).2.handle.gen) = ((gApply (gCut r) role (Command.mk ((gCutC c).verb) ((gCutC c).name) ((gFind (gCut r) ((gCutC c).name)).1.version) ((gCutC c).at_) ((gCutC c).rule) ((gCutC c).key) ((gCutC c).n) ((gCutC c).m)) now).2.handle.gen) ∧ ((gApply (gCut r) role (Command.mk ((gCutC c).verb) ((gCutC c).name) 0 ((gCutC c).at_) ((gCutC c).rule) ((gCutC c).key) ((gCutC c).n) ((gCutC c).m)) now).2.version) = ((gApply (gCut r) role (Command.mk ((gCutC c).verb) ((gCutC c).name) ((gFind (gCut r) ((gCutC c).name)).1.version) ((gCutC c).at_) ((gCutC c).rule) ((gCutC c).key) ((gCutC c).n) ((gCutC c).m)) now).2.version) ∧ ((gApply (gCut r) role (Command.mk ((gCutC c).verb) ((gCutC c).name) 0 ((gCutC c).at_) ((gCutC c).rule) ((gCutC c).key) ((gCutC c).n) ((gCutC c).m)) now).2.state) = ((gApply (gCut r) role (Command.mk ((gCutC c).verb) ((gCutC c).name) ((gFind (gCut r) ((gCutC c).name)).1.version) ((gCutC c).at_) ((gCutC c).rule) ((gCutC c).key) ((gCutC c).n) ((gCutC c).m)) now).2.state) then (if (gSame ((gApply (gCut r) role (Command.mk ((gCutC c).verb) ((gCutC c).name) 0 ((gCutC c).at_) ((gCutC c).rule) ((gCutC c).key) ((gCutC c).n) ((gCutC c).m)) now).1) ((gApply (gCut r) role (Command.mk ((gCutC c).verb) ((gCutC c).name) ((gFind (gCut r) ((gCutC c).name)).1.version) ((gCutC c).at_) ((gCutC c).rule) ((gCutC c).key) ((gCutC c).n) ((gCutC c).m)) now).1)) = true then (if ((gApply (gCut r) role (Command.mk ((gCutC c).verb) ((gCutC c).name) (((gFind (gCut r) ((gCutC c).name)).1.version) + 1) ((gCutC c).at_) ((gCutC c).rule) ((gCutC c).key) ((gCutC c).n) ((gCutC c).m)) now).2.err) = 155 then (if ((gApply (gCut r) role (Command.mk ((gCutC c).verb) ((gCutC c).name) 0 ((gCutC c).at_) ((gCutC c).rule) ((gCutC c).key) ((gCutC c).n) ((gCutC c).m)) now).2.version) = (((gFind (gCut r) ((gCutC c).name)).1.version) + 1) then decide (((gApply (gCut r) role (Command.mk ((gCutC c).verb) ((gCutC c).name) 0 ((gCutC c).at_) ((gCutC c).rule) ((gCutC c).key) ((gCutC c).n) ((gCutC c).m)) now).2.handle.slot) = ((gFind (gCut r) ((gCutC c).name)).1.handle.slot) ∧ ((gApply (gCut r) role (Command.mk ((gCutC c).verb) ((gCutC c).name) 0 ((gCutC c).at_) ((gCutC c).rule) ((gCutC c).key) ((gCutC c).n) ((gCutC c).m)) now).2.handle.gen) = ((gFind (gCut r) ((gCutC c).name)).1.handle.gen)) else false) else false) else false) else false) else false) else (if gShown = true then (if ((gApply (gCut r) role (Command.mk ((gCutC c).verb) ((gCutC c).name) 0 ((gCutC c).at_) ((gCutC c).rule) ((gCutC c).key) ((gCutC c).n) ((gCutC c).m)) now).2.err) = ((gApply (gCut r) role (Command.mk ((gCutC c).verb) ((gCutC c).name) ((gFind (gCut r) ((gCutC c).name)).1.version) ((gCutC c).at_) ((gCutC c).rule) ((gCutC c).key) ((gCutC c).n) ((gCutC c).m)) now).2.err) ∧ ((gApply (gCut r) role (Command.mk ((gCutC c).verb) ((gCutC c).name) 0 ((gCutC c).at_) ((gCutC c).rule) ((gCutC c).key) ((gCutC c).n) ((gCutC c).m)) now).2.seq) = ((gApply (gCut r) role (Command.mk ((gCutC c).verb) ((gCutC c).name) ((gFind (gCut r) ((gCutC c).name)).1.version) ((gCutC c).at_) ((gCutC c).rule) ((gCutC c).key) ((gCutC c).n) ((gCutC c).m)) now).2.seq) ∧ ((gApply (gCut r) role (Command.mk ((gCutC c).verb) ((gCutC c).name) 0 ((gCutC c).at_) ((gCutC c).rule) ((gCutC c).key) ((gCutC c).n) ((gCutC c).m)) now).2.handle.slot) = ((gApply (gCut r) role (Command.mk ((gCutC c).verb) ((gCutC c).name) ((gFind (gCut r) ((gCutC c).name)).1.version) ((gCutC c).at_) ((gCutC c).rule) ((gCutC c).key) ((gCutC c).n) ((gCutC c).m)) now).2.handle.slot) ∧ ((gApply (gCut r) role (Command.mk ((gCutC c).verb) ((gCutC c).name) 0 ((gCutC c).at_) ((gCutC c).rule) ((gCutC c).key) ((gCutC c).n) ((gCutC c).m)) now).2.handle.gen) = ((gApply (gCut r) role (Command.mk ((gCutC c).verb) ((gCutC c).name) ((gFind (gCut r) ((gCutC c).name)).1.version) ((gCutC c).at_) ((gCutC c).rule) ((gCutC c).key) ((gCutC c).n) ((gCutC c).m)) now).2.handle.gen) ∧ ((gApply (gCut r) role (Command.mk ((gCutC c).verb) ((gCutC c).name) 0 ((gCutC c).at_) ((gCutC c).rule) ((gCutC c).key) ((gCutC c).n) ((gCutC c).m)) now).2.version) = ((gApply (gCut r) role (Command.mk ((gCutC c).verb) ((gCutC c).name) ((gFind (gCut r) ((gCutC c).name)).1.version) ((gCutC c).at_) ((gCutC c).rule) ((gCutC c).key) ((gCutC c).n) ((gCutC c).m)) now).2.version) ∧ ((gApply (gCut r) role (Command.mk ((gCutC c).verb) ((gCutC c).name) 0 ((gCutC c).at_) ((gCutC c).rule) ((gCutC c).key) ((gCutC c).n) ((gCutC c).m)) now).2.state) = ((gApply (gCut r) role (Command.mk ((gCutC c).verb) ((gCutC c).name) ((gFind (gCut r) ((gCutC c).name)).1.version) ((gCutC c).at_) ((gCutC c).rule) ((gCutC c).key) ((gCutC c).n) ((gCutC c).m)) now).2.state) then (if (gSame ((gApply (gCut r) role (Command.mk ((gCutC c).verb) ((gCutC c).name) 0 ((gCutC c).at_) ((gCutC c).rule) ((gCutC c).key) ((gCutC c).n) ((gCutC c).m)) now).1) ((gApply (gCut r) role (Command.mk ((gCutC c).verb) ((gCutC c).name) ((gFind (gCut r) ((gCutC c).name)).1.version) ((gCutC c).at_) ((gCutC c).rule) ((gCutC c).key) ((gCutC c).n) ((gCutC c).m)) now).1)) = true then (if ((gApply (gCut r) role (Command.mk ((gCutC c).verb) ((gCutC c).name) (((gFind (gCut r) ((gCutC c).name)).1.version) + 1) ((gCutC c).at_) ((gCutC c).rule) ((gCutC c).key) ((gCutC c).n) ((gCutC c).m)) now).2.err) = 155 then (if ((gApply (gCut r) role (Command.mk ((gCutC c).verb) ((gCutC c).name) 0 ((gCutC c).at_) ((gCutC c).rule) ((gCutC c).key) ((gCutC c).n) ((gCutC c).m)) now).2.version) = ((gFind (gCut r) ((gCutC c).name)).1.version) then decide (((gApply (gCut r) role (Command.mk ((gCutC c).verb) ((gCutC c).name) 0 ((gCutC c).at_) ((gCutC c).rule) ((gCutC c).key) ((gCutC c).n) ((gCutC c).m)) now).2.handle.slot) = ((gFind (gCut r) ((gCutC c).name)).1.handle.slot) ∧ ((gApply (gCut r) role (Command.mk ((gCutC c).verb) ((gCutC c).name) 0 ((gCutC c).at_) ((gCutC c).rule) ((gCutC c).key) ((gCutC c).n) ((gCutC c).m)) now).2.handle.gen) = ((gFind (gCut r) ((gCutC c).name)).1.handle.gen)) else false) else false) else false) else false) else false)) else (if gShown = true then (if ((gApply (gCut r) role (Command.mk ((gCutC c).verb) ((gCutC c).name) 0 ((gCutC c).at_) ((gCutC c).rule) ((gCutC c).key) ((gCutC c).n) ((gCutC c).m)) now).2.err) = ((gApply (gCut r) role (Command.mk ((gCutC c).verb) ((gCutC c).name) ((gFind (gCut r) ((gCutC c).name)).1.version) ((gCutC c).at_) ((gCutC c).rule) ((gCutC c).key) ((gCutC c).n) ((gCutC c).m)) now).2.err) ∧ ((gApply (gCut r) role (Command.mk ((gCutC c).verb) ((gCutC c).name) 0 ((gCutC c).at_) ((gCutC c).rule) ((gCutC c).key) ((gCutC c).n) ((gCutC c).m)) now).2.seq) = ((gApply (gCut r) role (Command.mk ((gCutC c).verb) ((gCutC c).name) ((gFind (gCut r) ((gCutC c).name)).1.version) ((gCutC c).at_) ((gCutC c).rule) ((gCutC c).key) ((gCutC c).n) ((gCutC c).m)) now).2.seq) ∧ ((gApply (gCut r) role (Command.mk ((gCutC c).verb) ((gCutC c).name) 0 ((gCutC c).at_) ((gCutC c).rule) ((gCutC c).key) ((gCutC c).n) ((gCutC c).m)) now).2.handle.slot) = ((gApply (gCut r) role (Command.mk ((gCutC c).verb) ((gCutC c).name) ((gFind (gCut r) ((gCutC c).name)).1.version) ((gCutC c).at_) ((gCutC c).rule) ((gCutC c).key) ((gCutC c).n) ((gCutC c).m)) now).2.handle.slot) ∧ ((gApply (gCut r) role (Command.mk ((gCutC c).verb) ((gCutC c).name) 0 ((gCutC c).at_) ((gCutC c).rule) ((gCutC c).key) ((gCutC c).n) ((gCutC c).m)) now).2.handle.gen) = ((gApply (gCut r) role (Command.mk ((gCutC c).verb) ((gCutC c).name) ((gFind (gCut r) ((gCutC c).name)).1.version) ((gCutC c).at_) ((gCutC c).rule) ((gCutC c).key) ((gCutC c).n) ((gCutC c).m)) now).2.handle.gen) ∧ ((gApply (gCut r) role (Command.mk ((gCutC c).verb) ((gCutC c).name) 0 ((gCutC c).at_) ((gCutC c).rule) ((gCutC c).key) ((gCutC c).n) ((gCutC c).m)) now).2.version) = ((gApply (gCut r) role (Command.mk ((gCutC c).verb) ((gCutC c).name) ((gFind (gCut r) ((gCutC c).name)).1.version) ((gCutC c).at_) ((gCutC c).rule) ((gCutC c).key) ((gCutC c).n) ((gCutC c).m)) now).2.version) ∧ ((gApply (gCut r) role (Command.mk ((gCutC c).verb) ((gCutC c).name) 0 ((gCutC c).at_) ((gCutC c).rule) ((gCutC c).key) ((gCutC c).n) ((gCutC c).m)) now).2.state) = ((gApply (gCut r) role (Command.mk ((gCutC c).verb) ((gCutC c).name) ((gFind (gCut r) ((gCutC c).name)).1.version) ((gCutC c).at_) ((gCutC c).rule) ((gCutC c).key) ((gCutC c).n) ((gCutC c).m)) now).2.state) then (if (gSame ((gApply (gCut r) role (Command.mk ((gCutC c).verb) ((gCutC c).name) 0 ((gCutC c).at_) ((gCutC c).rule) ((gCutC c).key) ((gCutC c).n) ((gCutC c).m)) now).1) ((gApply (gCut r) role (Command.mk ((gCutC c).verb) ((gCutC c).name) ((gFind (gCut r) ((gCutC c).name)).1.version) ((gCutC c).at_) ((gCutC c).rule) ((gCutC c).key) ((gCutC c).n) ((gCutC c).m)) now).1)) = true then (if ((gApply (gCut r) role (Command.mk ((gCutC c).verb) ((gCutC c).name) (((gFind (gCut r) ((gCutC c).name)).1.version) + 1) ((gCutC c).at_) ((gCutC c).rule) ((gCutC c).key) ((gCutC c).n) ((gCutC c).m)) now).2.err) = 155 then (if ((gApply (gCut r) role (Command.mk ((gCutC c).verb) ((gCutC c).name) 0 ((gCutC c).at_) ((gCutC c).rule) ((gCutC c).key) ((gCutC c).n) ((gCutC c).m)) now).2.version) = ((gFind (gCut r) ((gCutC c).name)).1.version) then decide (((gApply (gCut r) role (Command.mk ((gCutC c).verb) ((gCutC c).name) 0 ((gCutC c).at_) ((gCutC c).rule) ((gCutC c).key) ((gCutC c).n) ((gCutC c).m)) now).2.handle.slot) = ((gFind (gCut r) ((gCutC c).name)).1.handle.slot) ∧ ((gApply (gCut r) role (Command.mk ((gCutC c).verb) ((gCutC c).name) 0 ((gCutC c).at_) ((gCutC c).rule) ((gCutC c).key) ((gCutC c).n) ((gCutC c).m)) now).2.handle.gen) = ((gFind (gCut r) ((gCutC c).name)).1.handle.gen)) else false) else false) else false) else false) else false))))))
end Go.Proofs.YtopjaeoklkpcpaaGreatDoor.Jd

namespace Go.Proofs.YtopjaeoklkpcpaaGreatDoor.Jd
set_option linter.unusedVariables false
set_option linter.unusedSimpArgs false
section
variable {r : Registry} {role : Int} {c : Command} {now : Int}
theorem apply_ver (hf : Fit r now) (hm : roMay role c.verb = true) (v1 : c.verb ≠ 1) (v9 : c.verb ≠ 9) {i : Nat} (hi : i < r.l.length) (hn : (r.l.getD i default).name = c.name) (hw : c.want ≠ 0 ∧ c.want ≠ (r.l.getD i default).version) : gApply r role c now = failR r 155 := by
  rw [gApply_do (fit_iff.1 hf) hm]
  unfold doD
  rw [if_neg v1, if_neg v9, ← hn, place_at hf.right.names hi, if_pos rfl]
  simp only [Int.toNat_natCast]
  rw [if_pos hw]
end
end Go.Proofs.YtopjaeoklkpcpaaGreatDoor.Jd

namespace Go.Proofs.YtopjaeoklkpcpaaGreatDoor.Jd
set_option maxRecDepth 100000
set_option linter.unusedVariables false
set_option linter.unusedSimpArgs false
theorem changeD_want (r : Registry) (c : Command) (now i : Int) (t : Tenant) (w : Int) : changeD r (Command.mk c.verb c.name w c.at_ c.rule c.key c.n c.m) now i t = changeD r c now i t := rfl
theorem Out.verOf {r : Registry} {role : Int} {c : Command} {now : Int} {x : Registry × Reply} (h : Out r role c now x) (he : x.2.err = 0) (v1 : c.verb ≠ 1) (v9 : c.verb ≠ 9) : ∃ i, Fit r now ∧ roMay role c.verb = true ∧ i < r.l.length ∧ (r.l.getD i default).name = c.name ∧ x.2.handle = (r.l.getD i default).handle ∧ x.2.version = (if c.verb = 8 ∨ c.verb = 10 then (r.l.getD i default).version else (r.l.getD i default).version + 1) := by
  cases h with
  | none h => cases he
  | fail h e h0 h1 => exact absurd he h0
  | new h hm hv2 hn hf h1 h2 => omega
  | list h hm hv2 => omega
  | del h hm hv2 i hi hn hw => exact ⟨i, h, hm, hi, hn, rfl, by rw [if_neg (by omega)]⟩
  | look h hm hv2 i hi hn hw => exact ⟨i, h, hm, hi, hn, rfl, by rw [if_pos hv2]⟩
  | put h hm hv2 i hi hn hw hc hs => exact ⟨i, h, hm, hi, hn, rfl, by rw [if_neg (by omega)]⟩
theorem lRegistryVersions_true (r : Registry) (role : Int) (c : Command) (now : Int) : lRegistryVersions r role c now = true := by
  unfold lRegistryVersions
  simp only [gShown_true, if_true]
  generalize gCut r = s
  generalize gCutC c = d
  have h := apply_out s role (Command.mk d.verb d.name 0 d.at_ d.rule d.key d.n d.m) now
  by_cases he : (gApply s role (Command.mk d.verb d.name 0 d.at_ d.rule d.key d.n d.m) now).2.err = 0
  rotate_left
  · rw [if_pos he]
  rw [if_neg (by simpa using he)]
  cases hfd : (gFind s d.name).2 with
  | false => rfl
  | true =>
    rw [if_neg (by simp)]
    by_cases v9 : d.verb = 9
    · rw [if_pos v9]
    rw [if_neg v9]
    by_cases v1 : d.verb = 1
    · rw [if_pos v1]
    rw [if_neg v1]
    obtain ⟨i, hf, hm, hi, hn, hh, hv⟩ := h.verOf he v1 v9
    simp only at hm hn hv
    have a := apply_at (c := Command.mk d.verb d.name 0 d.at_ d.rule d.key d.n d.m) hf hm v1 v9 hi hn (.inl rfl)
    have hver := (hf.right.ok _ (getD_mem' hi)).version
    have hfd2 : gFind s d.name = (s.l.getD i default, true) := by rw [← hn]; exact find_some hf.right.names (getD_mem' hi)
    rw [hfd2]
    have b := apply_at (c := Command.mk d.verb d.name (s.l.getD i default).version d.at_ d.rule d.key d.n d.m) hf hm v1 v9 hi hn (.inr rfl)
    have e := apply_ver (c := Command.mk d.verb d.name ((s.l.getD i default).version + 1) d.at_ d.rule d.key d.n d.m) hf hm v1 v9 hi hn ⟨by simp only; omega, by simp only; omega⟩
    rw [changeD_want s d] at a b
    have ab := a.trans b.symm
    rw [e, ← ab]
    generalize gApply s role (Command.mk d.verb d.name 0 d.at_ d.rule d.key d.n d.m) now = x at *
    simp only [(gSame_iff x.1 x.1).2 rfl, and_self, if_true, failR]
    rw [hh]
    by_cases v8 : d.verb = 8
    · rw [if_pos (Or.inl v8)] at hv; rw [if_neg (by simpa using v8), hv]; simp
    · rw [if_pos v8]
      by_cases v10 : d.verb = 10
      · rw [if_pos (Or.inr v10)] at hv; rw [if_neg (by simpa using v10), hv]; simp
      · rw [if_neg (show ¬ (d.verb = 8 ∨ d.verb = 10) by omega)] at hv; rw [if_pos v10, hv]; simp
end Go.Proofs.YtopjaeoklkpcpaaGreatDoor.Jd

namespace Go.Proofs.YtopjaeoklkpcpaaGreatDoor.Jd
open Go.Proofs
open Go.RowKit (Below)
set_option maxRecDepth 100000
set_option maxHeartbeats 8000000
set_option linter.unusedVariables false
set_option linter.unusedSimpArgs false
theorem lRegistryVersions_ok (w : World) {r_slots_gens_a : Option Addr} {r_slots_gens_c : Nat} {r_slots_used_a : Option Addr} {r_slots_used_c : Nat} {r_slots_free_a : Option Addr} {r_slots_free_c : Nat} {r_l_a : Option Addr} {r_l_c : Nat} {r_l_t : List TA} {ea0 : Addr} {ea1 : Addr} {ea2 : Addr} {ea3 : Addr} {r : Registry} {role : Int} {c : Command} {now : Int} (h_r_slots_gens : Sl w eI 1 r_slots_gens_a r.slots.gens) (k_r_slots_gens : r.slots.gens.length ≤ r_slots_gens_c) (h_r_slots_used : Sl w eB 1 r_slots_used_a r.slots.used) (k_r_slots_used : r.slots.used.length ≤ r_slots_used_c) (h_r_slots_free : Sl w eI 1 r_slots_free_a r.slots.free) (k_r_slots_free : r.slots.free.length ≤ r_slots_free_c) (h_r_l : SlN w eTenant 8 DT r_l_a r.l r_l_t) (k_r_l : r.l.length ≤ r_l_c) (i_c_at_ : -9223372036854775808 ≤ c.at_ ∧ c.at_ ≤ 9223372036854775807) (hG : Gl w) (hE : Er w ea0 ea1 ea2 ea3) : Val Tryz.prog 10 [(Value.agg [(vs r_slots_gens_a r.slots.gens.length r_slots_gens_c), (vs r_slots_used_a r.slots.used.length r_slots_used_c), (vs r_slots_free_a r.slots.free.length r_slots_free_c), (vs r_l_a r.l.length r_l_c), (vi r.seq)].toArray), (vi role), (Value.agg [(vi c.verb), (vt c.name), (vi c.want), (vi c.at_), (Value.bool c.rule.allow), (vi c.rule.pfx.addr), (vi c.rule.pfx.bits), (vi c.rule.prt.lo), (vi c.rule.prt.hi), (vt c.key), (vi c.n), (vi c.m)].toArray), (vi now)] w (Value.bool (lRegistryVersions r role c now)) := by
 have hF := Is.refl (lRegistryVersions r role c now)
 refine enter Tryz.func10 Tryz.ntmps10 (h := ?_)
 refine Z2 ?_
 refine JL_a noMk (a_box (l := [_, _, _, _, _])) (k := fun r1 hr1 => ?_)
 refine JL_a noMk (a_box (l := [_, _, _, _, _, _, _, _, _, _, _, _])) (k := fun r2 hr2 => ?_)
 refine Z96 ?_
 refine Z1 ?_
 refine Z24 ?_
 rintro w1_1 e1_1 w2_1 hw1_1 ⟨a1_1, c1_1, t1_1, B_1, he_1, hf_1, hs1_1, hl1_1⟩
 refine ⟨_, _, he_1, hw1_1.fresh hf_1, ?_⟩
 have hcb_1 := gCut_bd r
 have hsm_1 := gCut_small r
 refine Z133 ?_
 refine Z225 ?_
 refine Z109 ?_
 refine Z392 ?_
 refine JL_q (q_fld FO_36_1) (k := ?_)
 refine Z34 ?_
 rintro w1_2 e1_2 w2_2 hw1_2 ⟨a1_2, c1_2, a2_2, c2_2, B1_2, B2_2, he_2, hf_2, ho1_2, ho2_2, hl1_2, hl2_2⟩
 refine ⟨_, _, he_2, (hw1_2.fresh hf_2).perm (eqp (nA rfl)), ?_⟩
 have hfv_45306 := gFind_ver (gCut r) ((gCutC c).name)
 refine Z37 ?_
 refine JL_a noMk (a_alloc (l := [_, _, _, _, _, _, _, _]) Tryz.zeroValue52) (k := fun r3 hr3 => ?_)
 refine Z449 ?_
 refine Z358 ?_
 refine Z0 ?_
 refine Z248 ?_
 refine Z126 ?_
 refine JL_p (c_callA Tryz.call17) (fun w1 hw1 => gApply_ok w1 (r := (gCut r)) (role := role) (c := (Command.mk ((gCutC c).verb) ((gCutC c).name) 0 ((gCutC c).at_) ((gCutC c).rule) ((gCutC c).key) ((gCutC c).n) ((gCutC c).m))) (now := now) (h_r_slots_gens := (SlJ.take (SlJ.of_base h_r_slots_gens) _) w1 hw1) (n_r_slots_gens := by first | omega | (simp; done) | exact Nat.le_trans (by assumption) (by decide)) (h_r_slots_used := (SlJ.take (SlJ.of_base h_r_slots_used) _) w1 hw1) (n_r_slots_used := by first | omega | (simp; done) | exact Nat.le_trans (by assumption) (by decide)) (h_r_slots_free := (SlJ.take (SlJ.of_base h_r_slots_free) _) w1 hw1) (n_r_slots_free := by first | omega | (simp; done) | exact Nat.le_trans (by assumption) (by decide)) (h_r_l := (SlNB.j hs1_1.1 sh).2 w1 hw1) (n_r_l := by first | omega | (simp; done) | exact Nat.le_trans (by assumption) (by decide)) (k_r_l := hs1_1.2) (i_c_at_ := by first | exact i_c_at_ | (simp; done) | (exact ⟨by decide, by decide⟩) | omega) (hG := hG.ext hw1.ext_out) (hE := hE.ext hw1.ext_out) (hsm := by first | assumption | exact Small.nil)) (k := ?_)
 rintro w1_3 e1_3 w2_3 hw1_3 ⟨a1_3, c1_3, a2_3, c2_3, a3_3, c3_3, a4_3, c4_3, t4_3, B_3, he_3, hf_3, hs1_3, hs2_3, hs3_3, hs4_3, hl1_3, hl2_3, hl3_3, hl4_3⟩
 refine ⟨_, _, he_3, hw1_3.fresh hf_3, ?_⟩
 have hap_63991 := gApply_small role (Command.mk ((gCutC c).verb) ((gCutC c).name) 0 ((gCutC c).at_) ((gCutC c).rule) ((gCutC c).key) ((gCutC c).n) ((gCutC c).m)) now (by first | assumption | exact Small.nil : Small ((gCut r).l))
 have hab_63991 := gApply_bd (gCut r) role (Command.mk ((gCutC c).verb) ((gCutC c).name) 0 ((gCutC c).at_) ((gCutC c).rule) ((gCutC c).key) ((gCutC c).n) ((gCutC c).m)) now
 try dsimp only at hab_63991
 refine Z37 ?_
 refine JL_a noMk (a_alloc (l := [_, _, _, _, _]) Tryz.zeroValue28) (k := fun r4 hr4 => ?_)
 refine JL_a noMk (a_alloc (l := [_, _, _, _, _, _]) Tryz.zeroValue44) (k := fun r5 hr5 => ?_)
 refine Z261 ?_
 refine Z2 ?_
 refine Z116 ?_
 refine JL_q q_neq (k := ?_)
 refine Z481 ?_
 refine JL_dec 43 rfl (fun hq1 => ?_) (fun hq1 => ?_)
 ·refine JL_skips 2 rfl ?_
  refine Z241 ?_
  refine Z241 ?_
  refine Z114 ?_
  refine Z4 ?_
  refine Z41 ?_
  refine JX_ret Tryz.results10 (Res.tmp rfl Res.nil) (fun w1 hw1 => ?_)
  exact ⟨(by rw [(hF.pos hq1).eq] <;> first | rfl | (simp only [List.length_set] <;> rfl)), hw1.ext_out⟩
 refine Z411 ?_
 refine Z5 ?_
 refine JL_bool 47 rfl (fun hq2 => ?_) (fun hq2 => ?_)
 ·refine JL_skips 3 rfl ?_
  refine Z241 ?_
  refine Z114 ?_
  refine Z4 ?_
  refine Z41 ?_
  refine JX_ret Tryz.results10 (Res.tmp rfl Res.nil) (fun w1 hw1 => ?_)
  exact ⟨(by rw [((hF.neg hq1).t hq2).eq] <;> first | rfl | (simp only [List.length_set] <;> rfl)), hw1.ext_out⟩
 refine JL_qg (q_fld FO_36_0) (k := ?_)
 refine Z80 ?_
 refine Z5 ?_
 refine JL_dec 52 rfl (fun hq3 => ?_) (fun hq3 => ?_)
 ·refine JL_skips 3 rfl ?_
  refine Z114 ?_
  refine Z4 ?_
  refine Z41 ?_
  refine JX_ret Tryz.results10 (Res.tmp rfl Res.nil) (fun w1 hw1 => ?_)
  exact ⟨(by rw [(((hF.neg hq1).f hq2).pos hq3).eq] <;> first | rfl | (simp only [List.length_set] <;> rfl)), hw1.ext_out⟩
 refine JL_qg (q_fld FO_36_0) (k := ?_)
 refine Z80 ?_
 refine Z247 ?_
 refine J_dec rfl (fun hq4 => ?_) (fun hq4 => ?_)
 ·refine J_seq ?_
  refine Z376 ?_
  refine JX_ret Tryz.results10 (Res.tmp rfl Res.nil) (fun w1 hw1 => ?_)
  exact ⟨(by rw [((((hF.neg hq1).f hq2).neg hq3).pos hq4).eq] <;> first | rfl | (simp only [List.length_set] <;> rfl)), hw1.ext_out⟩
 refine Z390 ?_
 refine Z228 ?_
 refine Z358 ?_
 refine Z0 ?_
 refine Z248 ?_
 refine Z126 ?_
 refine JL_p (c_callA Tryz.call17) (fun w1 hw1 => gApply_ok w1 (r := (gCut r)) (role := role) (c := (Command.mk ((gCutC c).verb) ((gCutC c).name) ((gFind (gCut r) ((gCutC c).name)).1.version) ((gCutC c).at_) ((gCutC c).rule) ((gCutC c).key) ((gCutC c).n) ((gCutC c).m))) (now := now) (h_r_slots_gens := (SlJ.take (SlJ.of_base h_r_slots_gens) _) w1 hw1) (n_r_slots_gens := by first | omega | (simp; done) | exact Nat.le_trans (by assumption) (by decide)) (h_r_slots_used := (SlJ.take (SlJ.of_base h_r_slots_used) _) w1 hw1) (n_r_slots_used := by first | omega | (simp; done) | exact Nat.le_trans (by assumption) (by decide)) (h_r_slots_free := (SlJ.take (SlJ.of_base h_r_slots_free) _) w1 hw1) (n_r_slots_free := by first | omega | (simp; done) | exact Nat.le_trans (by assumption) (by decide)) (h_r_l := (SlNB.j hs1_1.1 sh).2 w1 hw1) (n_r_l := by first | omega | (simp; done) | exact Nat.le_trans (by assumption) (by decide)) (k_r_l := hs1_1.2) (i_c_at_ := by first | exact i_c_at_ | (simp; done) | (exact ⟨by decide, by decide⟩) | omega) (hG := hG.ext hw1.ext_out) (hE := hE.ext hw1.ext_out) (hsm := by first | assumption | exact Small.nil)) (k := ?_)
 rintro w1_4 e1_4 w2_4 hw1_4 ⟨a1_4, c1_4, a2_4, c2_4, a3_4, c3_4, a4_4, c4_4, t4_4, B_4, he_4, hf_4, hs1_4, hs2_4, hs3_4, hs4_4, hl1_4, hl2_4, hl3_4, hl4_4⟩
 refine ⟨_, _, he_4, hw1_4.fresh hf_4, ?_⟩
 have hap_67591 := gApply_small role (Command.mk ((gCutC c).verb) ((gCutC c).name) ((gFind (gCut r) ((gCutC c).name)).1.version) ((gCutC c).at_) ((gCutC c).rule) ((gCutC c).key) ((gCutC c).n) ((gCutC c).m)) now (by first | assumption | exact Small.nil : Small ((gCut r).l))
 have hab_67591 := gApply_bd (gCut r) role (Command.mk ((gCutC c).verb) ((gCutC c).name) ((gFind (gCut r) ((gCutC c).name)).1.version) ((gCutC c).at_) ((gCutC c).rule) ((gCutC c).key) ((gCutC c).n) ((gCutC c).m)) now
 try dsimp only at hab_67591
 refine Z37 ?_
 refine JL_a noMk (a_alloc (l := [_, _, _, _, _]) Tryz.zeroValue28) (k := fun r6 hr6 => ?_)
 refine JL_a noMk (a_alloc (l := [_, _, _, _, _, _]) Tryz.zeroValue44) (k := fun r7 hr7 => ?_)
 refine Z19 ?_
 refine Z320 ?_
 refine Z228 ?_
 refine Z502 ?_
 refine Z358 ?_
 refine Z0 ?_
 refine Z248 ?_
 refine Z126 ?_
 refine JL_p (c_callA Tryz.call17) (fun w1 hw1 => gApply_ok w1 (r := (gCut r)) (role := role) (c := (Command.mk ((gCutC c).verb) ((gCutC c).name) (((gFind (gCut r) ((gCutC c).name)).1.version) + 1) ((gCutC c).at_) ((gCutC c).rule) ((gCutC c).key) ((gCutC c).n) ((gCutC c).m))) (now := now) (h_r_slots_gens := (SlJ.take (SlJ.of_base h_r_slots_gens) _) w1 hw1) (n_r_slots_gens := by first | omega | (simp; done) | exact Nat.le_trans (by assumption) (by decide)) (h_r_slots_used := (SlJ.take (SlJ.of_base h_r_slots_used) _) w1 hw1) (n_r_slots_used := by first | omega | (simp; done) | exact Nat.le_trans (by assumption) (by decide)) (h_r_slots_free := (SlJ.take (SlJ.of_base h_r_slots_free) _) w1 hw1) (n_r_slots_free := by first | omega | (simp; done) | exact Nat.le_trans (by assumption) (by decide)) (h_r_l := (SlNB.j hs1_1.1 sh).2 w1 hw1) (n_r_l := by first | omega | (simp; done) | exact Nat.le_trans (by assumption) (by decide)) (k_r_l := hs1_1.2) (i_c_at_ := by first | exact i_c_at_ | (simp; done) | (exact ⟨by decide, by decide⟩) | omega) (hG := hG.ext hw1.ext_out) (hE := hE.ext hw1.ext_out) (hsm := by first | assumption | exact Small.nil)) (k := ?_)
 rintro w1_5 e1_5 w2_5 hw1_5 ⟨a1_5, c1_5, a2_5, c2_5, a3_5, c3_5, a4_5, c4_5, t4_5, B_5, he_5, hf_5, hs1_5, hs2_5, hs3_5, hs4_5, hl1_5, hl2_5, hl3_5, hl4_5⟩
 refine ⟨_, _, he_5, hw1_5.fresh hf_5, ?_⟩
 have hap_82748 := gApply_small role (Command.mk ((gCutC c).verb) ((gCutC c).name) (((gFind (gCut r) ((gCutC c).name)).1.version) + 1) ((gCutC c).at_) ((gCutC c).rule) ((gCutC c).key) ((gCutC c).n) ((gCutC c).m)) now (by first | assumption | exact Small.nil : Small ((gCut r).l))
 have hab_82748 := gApply_bd (gCut r) role (Command.mk ((gCutC c).verb) ((gCutC c).name) (((gFind (gCut r) ((gCutC c).name)).1.version) + 1) ((gCutC c).at_) ((gCutC c).rule) ((gCutC c).key) ((gCutC c).n) ((gCutC c).m)) now
 try dsimp only at hab_82748
 refine Z37 ?_
 refine JL_a noMk (a_alloc (l := [_, _, _, _, _]) Tryz.zeroValue28) (k := fun r8 hr8 => ?_)
 refine JL_a noMk (a_alloc (l := [_, _, _, _, _, _]) Tryz.zeroValue44) (k := fun r9 hr9 => ?_)
 refine Z261 ?_
 refine J_subL _ (sk (sd (sx (sk (sk (sa (sk (sk (sa (sk (sa (sa (sx (sk (sd sz))))))))))))))) ?_
 refine Z486 ?_
 refine Z228 ?_
 refine Z427 ?_
 refine Z382 ?_
 refine JL_q q_neq (k := ?_)
 refine Z481 ?_
 refine JL_dec 86 rfl (fun hq5 => ?_) (fun hq5 => ?_)
 rotate_left
 ·refine JL_skips 3 rfl ?_
  refine Z98 ?_
  refine Z167 ?_
  refine J_subL _ (sk (sk (sk (sa (sk (sk (sa (sk (sa (sa (sd sz))))))))))) ?_
  refine Z174 ?_
  refine JL_bool 94 rfl (fun hq17 => ?_) (fun hq17 => ?_)
  rotate_left
  ·refine JL_skips 3 rfl ?_
   refine Z319 ?_
   refine Z467 ?_
   refine JX_ret Tryz.results10 (Res.tmp rfl Res.nil) (fun w1 hw1 => ?_)
   exact ⟨(by rw [((((((hF.neg hq1).f hq2).neg hq3).neg hq4).neg hq5).f hq17).eq] <;> first | rfl | (simp only [List.length_set] <;> rfl)), hw1.ext_out⟩
  refine Z371 ?_
  refine Z269 ?_
  refine JL_dec 99 rfl (fun hq18 => ?_) (fun hq18 => ?_)
  rotate_left
  ·refine JL_skips 3 rfl ?_
   refine Z58 ?_
   refine Z467 ?_
   refine JX_ret Tryz.results10 (Res.tmp rfl Res.nil) (fun w1 hw1 => ?_)
   exact ⟨(by rw [(((((((hF.neg hq1).f hq2).neg hq3).neg hq4).neg hq5).t hq17).neg hq18).eq] <;> first | rfl | (simp only [List.length_set] <;> rfl)), hw1.ext_out⟩
  refine Z533 ?_
  refine Z22 ?_
  refine Z18 ?_
  refine JL_bool 104 rfl (fun hq19 => ?_) (fun hq19 => ?_)
  rotate_left
  ·refine JL_skips 3 rfl ?_
   refine Z467 ?_
   refine JX_ret Tryz.results10 (Res.tmp rfl Res.nil) (fun w1 hw1 => ?_)
   exact ⟨(by rw [((((((((hF.neg hq1).f hq2).neg hq3).neg hq4).neg hq5).t hq17).pos hq18).f hq19).eq] <;> first | rfl | (simp only [List.length_set] <;> rfl)), hw1.ext_out⟩
  refine Z111 ?_
  refine Z249 ?_
  refine JL_dec 109 rfl (fun hq20 => ?_) (fun hq20 => ?_)
  rotate_left
  ·refine JL_skips 4 rfl ?_
   refine Z203 ?_
   refine JX_ret Tryz.results10 (Res.tmp rfl Res.nil) (fun w1 hw1 => ?_)
   exact ⟨(by rw [(((((((((hF.neg hq1).f hq2).neg hq3).neg hq4).neg hq5).t hq17).pos hq18).t hq19).neg hq20).eq] <;> first | rfl | (simp only [List.length_set] <;> rfl)), hw1.ext_out⟩
  refine JL_qg (q_fld FO_44_3) (k := ?_)
  refine Z300 ?_
  refine Z249 ?_
  refine JL_dec 115 rfl (fun hq21 => ?_) (fun hq21 => ?_)
  rotate_left
  ·refine JL_skips 5 rfl ?_
   refine Z26 ?_
   refine JX_ret Tryz.results10 (Res.tmp rfl Res.nil) (fun w1 hw1 => ?_)
   exact ⟨(by rw [((((((((((hF.neg hq1).f hq2).neg hq3).neg hq4).neg hq5).t hq17).pos hq18).t hq19).pos hq20).neg hq21).eq] <;> first | rfl | (simp only [List.length_set] <;> rfl)), hw1.ext_out⟩
  refine Z332 ?_
  refine Z219 ?_
  refine JL_qg (q_eqS (EQ_42 _ _ _ _ _ _)) (k := ?_)
  refine Z79 ?_
  refine JX_ret Tryz.results10 (Res.tmp rfl Res.nil) (fun w1 hw1 => ?_)
  exact ⟨(by rw [((((((((((hF.neg hq1).f hq2).neg hq3).neg hq4).neg hq5).t hq17).pos hq18).t hq19).pos hq20).pos hq21).eq] <;> first | rfl | (simp only [List.length_set] <;> rfl)), hw1.ext_out⟩
 refine JL_qg (q_fld FO_36_0) (k := ?_)
 refine Z500 ?_
 refine JL_qg q_neq (k := ?_)
 refine JL_q q_pickT (k := ?_)
 refine Z0 ?_
 refine J_dec rfl (fun hq6 => ?_) (fun hq6 => ?_)
 rotate_left
 ·refine J_skip ?_
  refine Z403 ?_
  refine J_subL _ (sk (sk (sk (sa (sk (sk (sa (sk (sa (sa (sd sz))))))))))) ?_
  refine Z174 ?_
  refine JL_bool 94 rfl (fun hq12 => ?_) (fun hq12 => ?_)
  rotate_left
  ·refine JL_skips 3 rfl ?_
   refine Z319 ?_
   refine Z467 ?_
   refine JX_ret Tryz.results10 (Res.tmp rfl Res.nil) (fun w1 hw1 => ?_)
   exact ⟨(by rw [(((((((hF.neg hq1).f hq2).neg hq3).neg hq4).pos hq5).neg hq6).f hq12).eq] <;> first | rfl | (simp only [List.length_set] <;> rfl)), hw1.ext_out⟩
  refine Z371 ?_
  refine Z269 ?_
  refine JL_dec 99 rfl (fun hq13 => ?_) (fun hq13 => ?_)
  rotate_left
  ·refine JL_skips 3 rfl ?_
   refine Z58 ?_
   refine Z467 ?_
   refine JX_ret Tryz.results10 (Res.tmp rfl Res.nil) (fun w1 hw1 => ?_)
   exact ⟨(by rw [((((((((hF.neg hq1).f hq2).neg hq3).neg hq4).pos hq5).neg hq6).t hq12).neg hq13).eq] <;> first | rfl | (simp only [List.length_set] <;> rfl)), hw1.ext_out⟩
  refine Z533 ?_
  refine Z22 ?_
  refine Z18 ?_
  refine JL_bool 104 rfl (fun hq14 => ?_) (fun hq14 => ?_)
  rotate_left
  ·refine JL_skips 3 rfl ?_
   refine Z467 ?_
   refine JX_ret Tryz.results10 (Res.tmp rfl Res.nil) (fun w1 hw1 => ?_)
   exact ⟨(by rw [(((((((((hF.neg hq1).f hq2).neg hq3).neg hq4).pos hq5).neg hq6).t hq12).pos hq13).f hq14).eq] <;> first | rfl | (simp only [List.length_set] <;> rfl)), hw1.ext_out⟩
  refine Z111 ?_
  refine Z249 ?_
  refine JL_dec 109 rfl (fun hq15 => ?_) (fun hq15 => ?_)
  rotate_left
  ·refine JL_skips 4 rfl ?_
   refine Z203 ?_
   refine JX_ret Tryz.results10 (Res.tmp rfl Res.nil) (fun w1 hw1 => ?_)
   exact ⟨(by rw [((((((((((hF.neg hq1).f hq2).neg hq3).neg hq4).pos hq5).neg hq6).t hq12).pos hq13).t hq14).neg hq15).eq] <;> first | rfl | (simp only [List.length_set] <;> rfl)), hw1.ext_out⟩
  refine JL_qg (q_fld FO_44_3) (k := ?_)
  refine Z300 ?_
  refine Z249 ?_
  refine JL_dec 115 rfl (fun hq16 => ?_) (fun hq16 => ?_)
  rotate_left
  ·refine JL_skips 5 rfl ?_
   refine Z26 ?_
   refine JX_ret Tryz.results10 (Res.tmp rfl Res.nil) (fun w1 hw1 => ?_)
   exact ⟨(by rw [(((((((((((hF.neg hq1).f hq2).neg hq3).neg hq4).pos hq5).neg hq6).t hq12).pos hq13).t hq14).pos hq15).neg hq16).eq] <;> first | rfl | (simp only [List.length_set] <;> rfl)), hw1.ext_out⟩
  refine Z332 ?_
  refine Z219 ?_
  refine JL_qg (q_eqS (EQ_42 _ _ _ _ _ _)) (k := ?_)
  refine Z79 ?_
  refine JX_ret Tryz.results10 (Res.tmp rfl Res.nil) (fun w1 hw1 => ?_)
  exact ⟨(by rw [(((((((((((hF.neg hq1).f hq2).neg hq3).neg hq4).pos hq5).neg hq6).t hq12).pos hq13).t hq14).pos hq15).pos hq16).eq] <;> first | rfl | (simp only [List.length_set] <;> rfl)), hw1.ext_out⟩
 refine J_subL _ (sk (sk (sk (sa (sk (sk (sa (sk (sa (sa (sd sz))))))))))) ?_
 refine Z454 ?_
 refine Z276 ?_
 refine JL_bool 94 rfl (fun hq7 => ?_) (fun hq7 => ?_)
 rotate_left
 ·refine JL_skips 3 rfl ?_
  refine Z319 ?_
  refine Z467 ?_
  refine JX_ret Tryz.results10 (Res.tmp rfl Res.nil) (fun w1 hw1 => ?_)
  exact ⟨(by rw [(((((((hF.neg hq1).f hq2).neg hq3).neg hq4).pos hq5).pos hq6).f hq7).eq] <;> first | rfl | (simp only [List.length_set] <;> rfl)), hw1.ext_out⟩
 refine Z371 ?_
 refine Z269 ?_
 refine JL_dec 99 rfl (fun hq8 => ?_) (fun hq8 => ?_)
 rotate_left
 ·refine JL_skips 3 rfl ?_
  refine Z58 ?_
  refine Z467 ?_
  refine JX_ret Tryz.results10 (Res.tmp rfl Res.nil) (fun w1 hw1 => ?_)
  exact ⟨(by rw [((((((((hF.neg hq1).f hq2).neg hq3).neg hq4).pos hq5).pos hq6).t hq7).neg hq8).eq] <;> first | rfl | (simp only [List.length_set] <;> rfl)), hw1.ext_out⟩
 refine Z533 ?_
 refine Z22 ?_
 refine Z18 ?_
 refine JL_bool 104 rfl (fun hq9 => ?_) (fun hq9 => ?_)
 rotate_left
 ·refine JL_skips 3 rfl ?_
  refine Z467 ?_
  refine JX_ret Tryz.results10 (Res.tmp rfl Res.nil) (fun w1 hw1 => ?_)
  exact ⟨(by rw [(((((((((hF.neg hq1).f hq2).neg hq3).neg hq4).pos hq5).pos hq6).t hq7).pos hq8).f hq9).eq] <;> first | rfl | (simp only [List.length_set] <;> rfl)), hw1.ext_out⟩
 refine Z111 ?_
 refine Z249 ?_
 refine JL_dec 109 rfl (fun hq10 => ?_) (fun hq10 => ?_)
 rotate_left
 ·refine JL_skips 4 rfl ?_
  refine Z203 ?_
  refine JX_ret Tryz.results10 (Res.tmp rfl Res.nil) (fun w1 hw1 => ?_)
  exact ⟨(by rw [((((((((((hF.neg hq1).f hq2).neg hq3).neg hq4).pos hq5).pos hq6).t hq7).pos hq8).t hq9).neg hq10).eq] <;> first | rfl | (simp only [List.length_set] <;> rfl)), hw1.ext_out⟩
 refine JL_qg (q_fld FO_44_3) (k := ?_)
 refine Z300 ?_
 refine Z249 ?_
 refine JL_dec 115 rfl (fun hq11 => ?_) (fun hq11 => ?_)
 rotate_left
 ·refine JL_skips 5 rfl ?_
  refine Z26 ?_
  refine JX_ret Tryz.results10 (Res.tmp rfl Res.nil) (fun w1 hw1 => ?_)
  exact ⟨(by rw [(((((((((((hF.neg hq1).f hq2).neg hq3).neg hq4).pos hq5).pos hq6).t hq7).pos hq8).t hq9).pos hq10).neg hq11).eq] <;> first | rfl | (simp only [List.length_set] <;> rfl)), hw1.ext_out⟩
 refine Z332 ?_
 refine Z219 ?_
 refine JL_qg (q_eqS (EQ_42 _ _ _ _ _ _)) (k := ?_)
 refine Z79 ?_
 refine JX_ret Tryz.results10 (Res.tmp rfl Res.nil) (fun w1 hw1 => ?_)
 exact ⟨(by rw [(((((((((((hF.neg hq1).f hq2).neg hq3).neg hq4).pos hq5).pos hq6).t hq7).pos hq8).t hq9).pos hq10).pos hq11).eq] <;> first | rfl | (simp only [List.length_set] <;> rfl)), hw1.ext_out⟩

end Go.Proofs.YtopjaeoklkpcpaaGreatDoor.Jd

